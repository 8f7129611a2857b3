/- A part of a proof: an abstract machine, proved sound, or contracts of functions. No condition. -/
import Derived.RangeFuncCalls
import Derived.RangeFuncRecord
import Derived.RangeFuncLeaves
import Derived.OrdersIn
import Derived.Test.YtakobiabkfeelaaGreatT2
set_option linter.unusedVariables false
set_option linter.unusedSimpArgs false
set_option linter.defProp false
set_option maxRecDepth 100000
set_option maxHeartbeats 4000000
namespace Abs
open Go
def OL{G:Prop}(h:G:=by simp only[lK,ki];exact h3 u (hu k (by rw[er];simp)) _ h):G:=h
def Vg{G:Prop}(h:G:=by obtain⟨u1,p1,q1⟩:=l1 u hu.left;obtain⟨u2,p2,q2⟩:=l2 u1 (p1.agr hu.right);exact⟨u2,p1.trans p2,λK' hK=>q1 K' (q2 _ hK)⟩):G:=h
def Rx{G:Prop}(h:G:=by obtain⟨u',p,q⟩:=l1 u hu;refine⟨u',p,λK' h=> ?_⟩;unfold nI;rw[hp];exact q _ h):G:=h
structure jD(W:List Nat)(s u s' u' :St):Prop where
 e1:s'.env=s.env
 e2:u'.env=u.env
 h1:s'.H=s.H
 h2:u'.H=u.H
 R:∀k,(s'.R k=s.R k∧u'.R k=u.R k)∨(s'.R k=u'.R k∧k∈W)
def m8(W:List Nat)(s u:St):Prop:=∀k∈W,s.R k=u.R k
def jD.refl(W:List Nat)(s u:St):jD W s u s u:=⟨rfl,rfl,rfl,rfl,λ_=> .inl ⟨rfl,rfl⟩⟩
theorem jD.trans{W V:List Nat}{s u s1 u1 s2 u2:St}(h:jD W s u s1 u1)(k:jD V s1 u1 s2 u2):jD (W++V) s u s2 u2:=⟨k.e1.trans h.e1,k.e2.trans h.e2,k.h1.trans h.h1,k.h2.trans h.h2,λx=>by rcases k.R x with⟨a,b⟩|⟨a,b⟩;rcases h.R x with⟨c,d⟩|⟨c,d⟩;exact .inl ⟨a.trans c,b.trans d⟩;exact .inr ⟨by rw[a,b,c],by simp[d]⟩;exact .inr ⟨a,by simp[b]⟩⟩
def jD.sub{W V:List Nat}{s u s1 u1:St}(h:jD W s u s1 u1)(hs:∀k∈W,k∈V):jD V s u s1 u1:=⟨h.e1,h.e2,h.h1,h.h2,λx=>(h.R x).imp id λ⟨a,b⟩=>⟨a,hs _ b⟩⟩
def jD.agr{W V:List Nat}{s u s1 u1:St}(h:jD W s u s1 u1)(k:m8 V s u):m8 V s1 u1:=λx hx=>by rcases h.R x with⟨a,b⟩|⟨a,_⟩;rw[a,b];exact k x hx;exact a
def m8.left{W V:List Nat}{s u:St}(h:m8 (W++V) s u):m8 W s u:=λk hk=>h k (by simp[hk])
def m8.right{W V:List Nat}{s u:St}(h:m8 (W++V) s u):m8 V s u:=λk hk=>h k (by simp[hk])
def nw(d:au):List Nat:=match eu d with|true=>[]|false=>fQ d
theorem vu{s:St}{d:au}{K:St->au->Prop}(hk:ed s d K)(W:List Nat)(hW:∀k n,d= .ref k n->k∈W):∃s' d',K s' d' ∧∀u,m8 W s u->∃u',jD W s u s' u' ∧∀K',K' u' d' ->ed u d K' :=by
 cases d with
 |ref k n=>
  simp only[ed]at hk;cases hr:s.R k with
  |none=>exact m9
  |some r=>
   rw[hr]at hk;dsimp only at hk;split at hk;exact ak;rename_i hz;refine⟨_,_,hk.k,λu hu=> ?_⟩;have hu' :u.R k=some r:=by rw[<-hu k (hW k n rfl)];exact hr
   refine⟨u.freeze k r,⟨rfl,rfl,rfl,rfl,λx=> ?_⟩,λK' hK' => ?_⟩;by_cases hx:x=k;subst hx;exact .inr ⟨by simp[St.freeze,bw],hW x n rfl⟩;exact .inl ⟨by simp[St.freeze,aP _ _ _ _ hx],by simp[St.freeze,aP _ _ _ _ hx]⟩;simp only[ed,hu',hz];exact⟨hk.h,hK'⟩
 |sl z es b=>simp only[ed]at hk;exact⟨s,_,hk,λu _=>⟨u,jD.refl _ _ _,λK' h=>h⟩⟩|_=>simp only[ed]at hk;split at hk;rename_i hp;exact⟨s,_,hk,λu _=>⟨u,jD.refl _ _ _,λK' h=>by simp only[ed];rw[hp];exact h⟩⟩;exact ak
theorem yT:∀{ds:List au} {s:St} {K:St->List au->Prop},jy s ds K->∃s' ds',K s' ds' ∧∀u,m8 (fQ.go ds) s u->∃u',jD (fQ.go ds) s u s' u' ∧∀K',K' u' ds' ->jy u ds K'
 |[],s,K,hk=>⟨s,[],hk,λu _=>⟨u,jD.refl _ _ _,λK' h=>h⟩⟩
 |d::ds,s,K,hk=>by
  have e1:∀k n,d= .ref k n->k∈fQ.go (d::ds):=by intro k n e;subst e;simp[fQ.go]
  have e2:∀k∈fQ.go ds,k∈fQ.go (d::ds):=by intro x hx;clear hk;cases d<;>first|exact hx|exact ko _ hx
  rw[k_]at hk;obtain⟨s1,d1,k1,l1⟩:=vu hk (fQ.go (d::ds)) e1;obtain⟨s2,ds2,k2,l2⟩:=yT k1;refine⟨s2,d1::ds2,k2,λu hu=> ?_⟩;obtain⟨u1,p1,q1⟩:=l1 u hu;obtain⟨u2,p2,q2⟩:=l2 u1 (p1.agr λk hk=>hu k (e2 k hk));refine⟨u2,(p1.trans p2).sub λk hk=> ?_,λK' hK=>by rw[k_];exact q1 _ (q2 _ hK)⟩;rcases d_.1 hk with h|h;exact h;exact e2 k h
def wP{s:St}{d:au}{K:St->au->Prop}(hk:nI s d K):∃s' d',K s' d' ∧∀u,m8 (nw d) s u->∃u',jD (nw d) s u s' u' ∧∀K',K' u' d' ->nI u d K' :=by
 unfold nI at hk;split at hk;rename_i hp;refine⟨s,d,hk,λu _=>⟨u,jD.refl _ _ _,λK' h=> ?_⟩⟩;unfold nI;rw[hp];exact h;rename_i hp;have er:nw d=fQ d:=by simp[nw,hp]
 rw[er];split at hk;rename_i cs;obtain⟨s',ds',k1,l1⟩:=yT hk;refine⟨s',_,k1,λu hu=> ?_⟩;exact Rx;rename_i k n;obtain⟨s',d',k1,l1⟩:=vu hk [k] (by intro k' n' e;cases e;simp);refine⟨s',d',k1,λu hu=> ?_⟩;exact Rx;rename_i z es b;obtain⟨s',d',k1,l1⟩:=vu hk [] (by intro k' n' e;cases e);refine⟨s',d',k1,λu hu=> ?_⟩;obtain⟨u',p,q⟩:=l1 u (λk hk=>by cases hk);refine⟨u',p.sub ag,λK' h=> ?_⟩;unfold nI;rw[hp];exact q _ h;exact ak
def FM{d:au}:∀{r:List au},(∀fn f c,d≠.gB fn f c)->refsOf (d::r)=nw d++refsOf r:=by intro r h;cases d<;>first|rfl|exact absurd rfl (h _ _ _)
def wB(d:au)(r:List au):refsOf (d::r)=refsOf [d]++refsOf r:=by cases d<;>simp[refsOf]
def Bk{d:au}{x:Nat}(hx:x∈nw d):x∈refsOf [d]:=by
 by_cases hc:∃fn f c,d= .gB fn f c;obtain⟨fn,f,c,rfl⟩:=hc;have:nw (.gB fn f c)=[]:=by unfold nw;split<;>rfl
 rw[this]at hx;cases hx;rw[FM (λfn f c e=>hc ⟨fn,f,c,e⟩)];simp[hx]
theorem Dy:∀{ds:List au} {s:St} {K:St->List au->Prop},lI s ds K->∃s' ds',K s' ds' ∧∀u,m8 (refsOf ds) s u->∃u',jD (refsOf ds) s u s' u' ∧∀K',K' u' ds' ->lI u ds K' |[],s,K,hk=>⟨s,[],hk,λu _=>⟨u,jD.refl _ _ _,λK' h=>h⟩⟩|d::ds,s,K,hk=>by rw[nG]at hk;obtain⟨s1,d1,k1,l1⟩:=wP hk;obtain⟨s2,ds2,k2,l2⟩:=Dy k1;refine⟨s2,d1::ds2,k2,λu hu=> ?_⟩;rw[wB]at hu ⊢;obtain⟨u1,p1,q1⟩:=l1 u (λx hx=>hu.left x (Bk hx));obtain⟨u2,p2,q2⟩:=l2 u1 (p1.agr hu.right);exact⟨u2,(p1.sub λ_ h=>Bk h).trans p2,λK' hK=>by rw[nG];exact q1 _ (q2 _ hK)⟩
theorem vw:∀{ds:List au} {ls:List Nat} {K:List Nat->List au->Prop},gT ls ds K->∃ls' ds',K ls' ds' ∧(∀l∈ls',l∈ls∨l∈vJ ds)∧∀K',K' ls' ds' ->gT ls ds K'
 |[],ls,K,hk=>⟨ls,[],hk,λl h=> .inl h,λK' h=>h⟩
 |d::ds,ls,K,hk=>by
  have join:∀{sf:List Nat} {d1:au},(∀l∈sf,l∈ls∨l∈vJ [d])->(∀K' :List Nat->List au->Prop,gT sf ds (λls ds=>K' ls (d1::ds))->gT ls (d::ds) K')->
   gT sf ds (λls ds=>K ls (d1::ds))->∃ls' ds',K ls' ds' ∧(∀l∈ls',l∈ls∨l∈vJ (d::ds))∧∀K',K' ls' ds' ->gT ls (d::ds) K' :=by
   intro sf d1 m1 l1 hk;obtain⟨Qk,ds2,k2,m2,l2⟩:=vw hk;refine⟨Qk,d1::ds2,k2,λl hl=> ?_,λK' hK=>l1 K' (l2 _ hK)⟩;rcases m2 l hl with h|h;rcases m1 l h with h|h;exact .inl h;refine .inr ?_;cases d<;>simp[vJ]at h ⊢;exact .inl h;refine .inr ?_;cases d<;>simp[vJ]at h ⊢<;>first|exact h|exact .inr h
  simp only[po]at hk;split at hk;rename_i l off;split at hk;rename_i i hi;refine join (λl h=> .inl h) (λK' h=> ?_) hk;simp only[po,hi];exact h;rename_i hi;refine join (λx h=> ?_) (λK' h=> ?_) hk;rcases d_.1 h with h|h;exact .inl h;exact .inr (by simpa[vJ]using h);simp only[po,hi];exact h;rename_i hnp;split at hk;rename_i hp;refine join (λl h=> .inl h) (λK' h=> ?_) hk;have e:gT ls (d::ds) K' =match eu d with
   |true=>gT ls ds λls ds=>K' ls (d::ds)|false=>False:=by
   cases d<;>first|rfl|exact absurd rfl (hnp _ _)
  rw[e,hp];exact h;exact ak
def wQ{ls:List Nat}{d:au}{K:List Nat->au->Prop}(hk:pq ls d K):∃ls' d',K ls' d' ∧(∀l∈ls',l∈ls∨l∈pin0 d)∧∀K',K' ls' d' ->pq ls d K' :=by unfold pq at hk;split at hk;rename_i f a b;obtain⟨sf,a',k1,m1,l1⟩:=vw hk;obtain⟨Qk,b',k2,m2,l2⟩:=vw k1;refine⟨Qk,_,k2,λl hl=> ?_,λK' h=> ?_⟩;show l∈ls∨l∈vJ a++vJ b;rcases m2 l hl with h|h;rcases m1 l h with h|h;exact .inl h;exact .inr (Ci _ h);exact .inr (zh _ h);exact l1 _ (l2 _ h);exact ak
theorem vz:∀{ds:List au} {s:St} {ls ks:List Nat} {K:St->List Nat->List Nat->List au->Prop},fH s ls ks ds K->∃s' ls' ks' ds',K s' ls' ks' ds' ∧(∀l∈ls',l∈ls∨l∈oA.go ds)∧ks' =ks∧s'.H=s.H∧∀u,m8 (refsOf.HQ ds) s u->∃u',jD (refsOf.HQ ds) s u s' u' ∧∀K',K' u' ls' ks' ds' ->fH u ls ks ds K'
 |[],s,ls,ks,K,hk=>⟨s,ls,ks,[],hk,λl h=> .inl h,rfl,rfl,λu _=>⟨u,jD.refl _ _ _,λK' h=>h⟩⟩
 |d::ds,s,ls,ks,K,hk=>by
  have join:∀{s1:St} {sf:List Nat} {d1:au},(∀l∈sf,l∈ls∨l∈oA.go [d])->s1.H=s.H->
   (∀u,m8 (nw d) s u->∃u',jD (nw d) s u s1 u' ∧∀K' :St->List Nat->List Nat->List au->Prop,fH u' sf ks ds (λs ls ks ds=>K' s ls ks (d1::ds))->fH u ls ks (d::ds) K')->
   fH s1 sf ks ds (λs ls ks ds=>K s ls ks (d1::ds))->
   ∃s' ls' ks' ds',K s' ls' ks' ds' ∧(∀l∈ls',l∈ls∨l∈oA.go (d::ds))∧ks' =ks∧s'.H=s.H∧∀u,m8 (refsOf.HQ (d::ds)) s u->∃u',jD (refsOf.HQ (d::ds)) s u s' u' ∧∀K',K' u' ls' ks' ds' ->fH u ls ks (d::ds) K' :=by
   intro s1 sf d1 m1 h1 l1 hk;obtain⟨s2,Qk,sg,ds2,k2,m2,n2,h2,l2⟩:=vz hk;subst n2;refine⟨s2,Qk,sg,d1::ds2,k2,λl hl=> ?_,rfl,h2.trans h1,λu hu=> ?_⟩
   ·rcases m2 l hl with h|h;·rcases m1 l h with h|h;exact .inl h;·refine .inr ?_;cases d<;>simp[oA.go]at h ⊢;all_goals exact .inl h
    refine .inr ?_;cases d<;>simp[oA.go]at h ⊢<;>first|exact h|exact .inr h
   have hu:m8 (nw d++refsOf.HQ ds) s u:=hu;exact Vg
  simp only[lJ,ic]at hk;split at hk;rename_i l off;split at hk;rename_i i hi;refine join (λl h=> .inl h) rfl (λu _=>⟨u,jD.refl _ _ _,λK' h=> ?_⟩) hk;simp only[lJ,ic,hi];exact h;rename_i hi;refine join (λx h=> ?_) rfl (λu _=>⟨u,jD.refl _ _ _,λK' h=> ?_⟩) hk;rcases d_.1 h with h|h;exact .inl h;exact .inr (by simpa[oA.go]using h);simp only[lJ,ic,hi];exact h;rename_i x;obtain⟨sf,d1,k1,m1,l1⟩:=wQ hk;refine join (λy h=>(m1 y h).imp id λh=>by simpa[oA.go]using h) rfl (λu _=>⟨u,jD.refl _ _ _,λK' h=> ?_⟩) k1;simp only[ic];exact l1 _ h;rename_i hnp hnq;obtain⟨s1,d1,k1,l1⟩:=wP hk;have hH:s1.H=s.H:=by obtain⟨u',p,_⟩:=l1 s (λk _=>rfl);exact p.h1
  refine join (λl h=> .inl h) hH (λu hu=> ?_) k1;obtain⟨u1,p1,q1⟩:=l1 u hu;refine⟨u1,p1,λK' h=> ?_⟩;have e:fH u ls ks (d::ds) K' =nI u d (λs d=>fH s ls ks ds λs ls ks ds=>K' s ls ks (d::ds)):=by cases d<;>first|rfl|exact absurd rfl (hnp _ _)|exact absurd rfl (hnq _)
  rw[e];exact q1 _ h
def K1{d:au}{s:St}{ls ks:List Nat}{K:St->List Nat->List Nat->au->Prop}(hk:fG s ls ks d K):∃s' ls' d',K s' ls' ks d' ∧(∀l∈ls',l∈ls∨l∈oA d)∧s'.H=s.H∧∀u,m8 (refsOf [d]) s u->∃u',jD (refsOf [d]) s u s' u' ∧∀K',K' u' ls' ks d' ->fG u ls ks d K' :=by
 unfold fG at hk;split at hk;rename_i l off;split at hk;rename_i i hi;refine⟨s,ls,_,hk,λl h=> .inl h,rfl,λu _=>⟨u,jD.refl _ _ _,λK' h=> ?_⟩⟩;simp only[fG,hi];exact h;rename_i hi;refine⟨s,_,_,hk,λl h=> ?_,rfl,λu _=>⟨u,jD.refl _ _ _,λK' h=> ?_⟩⟩;rcases d_.1 h with h|h;exact .inl h;exact .inr (by simpa[oA]using h);simp only[fG,hi];exact h;rename_i fn first cap
 obtain⟨s1,sf,nJ,first',k0,m0,n0,h0,l0⟩:=vz hk;subst n0;obtain⟨s',ls',ks',ds',k1,m1,n1,h1,l1⟩:=vz k0;subst n1;refine⟨s',ls',_,k1,λl hl=> ?_,h1.trans h0,λu hu=> ?_⟩;show l∈ls∨l∈oA.go first++oA.go cap
 rcases m1 l hl with h|h;rcases m0 l h with h|h;exact .inl h;exact .inr (Ci _ h);exact .inr (zh _ h);have er:refsOf [au.gB fn first cap]=(refsOf.HQ first++refsOf.HQ cap)++[]:=rfl;rw[er,jM]at hu ⊢;obtain⟨u1,p1,q1⟩:=l0 u hu.left;obtain⟨u2,p2,q2⟩:=l1 u1 (p1.agr hu.right);exact⟨u2,p1.trans p2,λK' h=>q1 _ (q2 _ h)⟩;rename_i x;obtain⟨sf,d1,k1,m1,l1⟩:=wQ hk;exact⟨s,sf,d1,k1,m1,rfl,λu _=>⟨u,jD.refl _ _ _,λK' h=>by simp only[fG];exact l1 _ h⟩⟩;rename_i hnp hnc hnq;obtain⟨s',d',k1,l1⟩:=wP hk;have hH:s'.H=s.H:=by obtain⟨u',p,_⟩:=l1 s (λk _=>rfl);exact p.h1
 refine⟨s',ls,d',k1,λl h=> .inl h,hH,λu hu=> ?_⟩;rw[FM hnc]at hu ⊢;simp only[refsOf,jM]at hu ⊢;obtain⟨u',p,q⟩:=l1 u hu;refine⟨u',p,λK' h=> ?_⟩;have e:fG u ls ks d K' =nI u d (λs d=>K' s ls ks d):=by cases d<;>first|rfl|exact absurd rfl (hnp _ _)|exact absurd rfl (hnc _ _ _)|exact absurd rfl (hnq _)
 rw[e];exact q _ h
def CF{ks:List Nat}{k:Nat}{K:List Nat->Nat->Prop}(hk:named ks k K):∃ks' i,K ks' i∧(∀x∈ks',x∈ks∨x=k)∧∀K',K' ks' i->named ks k K' :=by unfold named at hk;split at hk;rename_i i hi;exact⟨ks,_,hk,λx h=> .inl h,λK' h=>by unfold named;rw[hi];exact h⟩;rename_i hi;refine⟨_,_,hk,λx h=> ?_,λK' h=>by unfold named;rw[hi];exact h⟩;rcases d_.1 h with h|h;exact .inl h;exact .inr gI
def Dz{s:St}{ks:List Nat}{k n:Nat}{K:List Nat->au->Prop}(hk:jn s ks k n K):∃ks' d',K ks' d' ∧(∀x∈ks',x∈ks∨x=k)∧∀u:St,s.R k=u.R k->∀K',K' ks' d' ->jn u ks k n K' :=by unfold jn at hk;split at hk;rename_i r hr;obtain⟨hn,hk⟩:=hk;split at hk;rename_i hown;obtain⟨ks',i,h1,h2,h3⟩:=CF hk;refine⟨ks',_,h1,h2,λu hu K' h=> ?_⟩;unfold jn;rw[<-hu,hr];refine⟨hn,?_⟩;rw[hown];exact h3 _ h;rename_i hown;split at hk;exact ak;rename_i hz;refine⟨ks,_,hk,λx h=> .inl h,λu hu K' h=> ?_⟩;unfold jn;rw[<-hu,hr];refine⟨hn,?_⟩;rw[hown];dsimp only;rw[hz];exact h;exact ak
def BC{s:St}{ks:List Nat}{k n:Nat}{K:List Nat->au->Prop}(hk:iy s ks k n K):∃ks' d',K ks' d' ∧(∀x∈ks',x∈ks∨x=k)∧∀u:St,s.R k=u.R k->∀K',K' ks' d' ->iy u ks k n K' :=by unfold iy at hk;split at hk;rename_i r hr;obtain⟨ks',i,h1,h2,h3⟩:=CF hk;refine⟨ks',_,h1,h2,λu hu K' h=> ?_⟩;unfold iy;rw[<-hu,hr];exact h3 _ h;exact ak
def DA{s:St}{ks:List Nat}{k:Nat}{K:List Nat->au->Prop}(hk:jU s ks k K):∃ks' d',K ks' d' ∧(∀x∈ks',x∈ks∨x=k)∧∀u:St,s.R k=u.R k->∀K',K' ks' d' ->jU u ks k K' :=by unfold jU at hk;split at hk;rename_i r hr;obtain⟨ks',i,h1,h2,h3⟩:=CF hk;refine⟨ks',_,h1,h2,λu hu K' h=> ?_⟩;unfold jU;rw[<-hu,hr];exact h3 _ h;exact ak
theorem BD{gg:Bool}:∀{ds:List au} {s:St} {ls ks:List Nat} {K:St->List Nat->List Nat->List au->Prop},eY gg s ls ks ds K->∃s' ls' ks' ds',K s' ls' ks' ds' ∧(∀l∈ls',l∈ls∨l∈zF ds)∧(∀k∈ks',k∈ks∨k∈refsOf ds)∧s'.H=s.H∧∀u,m8 (refsOf ds) s u->∃u',jD (refsOf ds) s u s' u' ∧∀K',K' u' ls' ks' ds' ->eY gg u ls ks ds K'
 |[],s,ls,ks,K,hk=>⟨s,ls,ks,[],hk,λl h=> .inl h,λl h=> .inl h,rfl,λu _=>⟨u,jD.refl _ _ _,λK' h=>h⟩⟩
 |d::ds,s,ls,ks,K,hk=>by
  have join:∀{s1:St} {sf nJ:List Nat} {d1:au},(∀l∈sf,l∈ls∨l∈oA d)->(∀l∈nJ,l∈ks∨l∈refsOf [d])->s1.H=s.H->
   (∀u,m8 (refsOf [d]) s u->∃u',jD (refsOf [d]) s u s1 u' ∧∀K' :St->List Nat->List Nat->List au->Prop,eY gg u' sf nJ ds (λs ls ks ds=>K' s ls ks (d1::ds))->eY gg u ls ks (d::ds) K')->
   eY gg s1 sf nJ ds (λs ls ks ds=>K s ls ks (d1::ds))->
   ∃s' ls' ks' ds',K s' ls' ks' ds' ∧(∀l∈ls',l∈ls∨l∈zF (d::ds))∧(∀k∈ks',k∈ks∨k∈refsOf (d::ds))∧s'.H=s.H∧∀u,m8 (refsOf (d::ds)) s u->∃u',jD (refsOf (d::ds)) s u s' u' ∧∀K',K' u' ls' ks' ds' ->eY gg u ls ks (d::ds) K' :=by
   intro s1 sf nJ d1 m1 n1 h1 l1 hk;obtain⟨s2,Qk,sg,ds2,k2,m2,n2,h2,l2⟩:=BD hk;refine⟨s2,Qk,sg,d1::ds2,k2,λl hl=> ?_,λl hl=> ?_,h2.trans h1,λu hu=> ?_⟩;simp only[zF,d_];rcases m2 l hl with h|h;rcases m1 l h with h|h;exact .inl h;exact .inr (.inl h);exact .inr (.inr h);rw[wB,d_];rcases n2 l hl with h|h;rcases n1 l h with h|h;exact .inl h;exact .inr (.inl h);exact .inr (.inr h);rw[wB]at hu ⊢;exact Vg
  simp only[lK,ki]at hk;split at hk;rename_i k n;obtain⟨ks',d',h1,h2,h3⟩:=Dz hk;have er:refsOf [au.ref k n]=[k]:=rfl;refine join (λl h=> .inl h) (λx h=> ?_) rfl (λu hu=>⟨u,jD.refl _ _ _,λK' h=> ?_⟩) h1;rw[er];simpa using h2 x h;exact OL;rename_i k;obtain⟨ks',d',h1,h2,h3⟩:=DA hk;have er:refsOf [au.dR k]=[k]:=rfl;refine join (λl h=> .inl h) (λx h=> ?_) rfl (λu hu=>⟨u,jD.refl _ _ _,λK' h=> ?_⟩) h1;rw[er];simpa using h2 x h;exact OL;rename_i k n;obtain⟨ks',d',h1,h2,h3⟩:=BC hk;have er:refsOf [au.cQ k n]=[k]:=rfl;refine join (λl h=> .inl h) (λx h=> ?_) rfl (λu hu=>⟨u,jD.refl _ _ _,λK' h=> ?_⟩) h1;rw[er];simpa using h2 x h;exact OL;rename_i hnm hnn hnr;obtain⟨s1,sf,d1,k1,m1,h1,l1⟩:=K1 hk;refine join m1 (λl h=> .inl h) h1 (λu hu=> ?_) k1;obtain⟨u1,p1,q1⟩:=l1 u hu;refine⟨u1,p1,λK' h=> ?_⟩;have e:eY gg u ls ks (d::ds) K' =fG u ls ks d (λs ls ks d=>eY gg s ls ks ds λs ls ks ds=>K' s ls ks (d::ds)):=by
   cases d with
   |ref k n=>cases gg with|false=>rfl|true=>exact absurd rfl (hnr k n rfl)
   |dR k=>exact absurd rfl (hnm k)|cQ k n=>exact absurd rfl (hnn k n)|_=>rfl
  rw[e];exact q1 _ h
theorem lE{s:St}:∀{ds:List au} {ks:List Nat} {K:List Nat->List au->Prop},gF s ks ds K->∃ks' ds',K ks' ds' ∧(∀k∈ks',k∈ks∨k∈fQ.go ds)∧∀u:St,m8 (fQ.go ds) s u->∀K',K' ks' ds' ->gF u ks ds K'
 |[],ks,K,hk=>⟨ks,[],hk,λk h=> .inl h,λu _ K' h=>h⟩
 |d::ds,ks,K,hk=>by
  cases d with
  |ref k n=>simp only[dV,dE]at hk;obtain⟨nJ,d1,k1,m1,l1⟩:=Dz hk;obtain⟨sg,ds2,k2,m2,l2⟩:=lE k1;refine⟨sg,_,k2,λx hx=> ?_,λu hu K' h=> ?_⟩;simp only[fQ.go,bT];rcases m2 x hx with h|h;rcases m1 x h with h|h;exact .inl h;exact .inr (.inl h);exact .inr (.inr h);simp only[dV,dE];refine l1 u (hu k (by simp[fQ.go])) _ (l2 u (λx hx=>hu x (by simp[fQ.go,hx])) _ h)
  |dR k=>simp only[dV,dE]at hk;obtain⟨nJ,d1,k1,m1,l1⟩:=DA hk;obtain⟨sg,ds2,k2,m2,l2⟩:=lE k1;refine⟨sg,_,k2,λx hx=> ?_,λu hu K' h=> ?_⟩;simp only[fQ.go,bT];rcases m2 x hx with h|h;rcases m1 x h with h|h;exact .inl h;exact .inr (.inl h);exact .inr (.inr h);simp only[dV,dE];refine l1 u (hu k (by simp[fQ.go])) _ (l2 u (λx hx=>hu x (by simp[fQ.go,hx])) _ h)
  |cQ k n=>simp only[dV,dE]at hk;obtain⟨nJ,d1,k1,m1,l1⟩:=BC hk;obtain⟨sg,ds2,k2,m2,l2⟩:=lE k1;refine⟨sg,_,k2,λx hx=> ?_,λu hu K' h=> ?_⟩;simp only[fQ.go,bT];rcases m2 x hx with h|h;rcases m1 x h with h|h;exact .inl h;exact .inr (.inl h);exact .inr (.inr h);simp only[dV,dE];refine l1 u (hu k (by simp[fQ.go])) _ (l2 u (λx hx=>hu x (by simp[fQ.go,hx])) _ h)
  |_=>
   first
    |(simp only[dV,dE]at hk;done)
    |(simp only[dV,dE]at hk
      obtain⟨sg,ds2,k2,m2,l2⟩:=lE hk
      refine⟨sg,_,k2,m2,λu hu K' h=> ?_⟩
      simp only[dV,dE]
      exact l2 u hu _ h)
def Nf{s:St}{ks:List Nat}{d:au}{K:List Nat->au->Prop}(hk:kI s ks d K):∃ks' d',K ks' d' ∧(∀k∈ks',k∈ks∨k∈nw d)∧∀u:St,m8 (nw d) s u->∀K',K' ks' d' ->kI u ks d K' :=by
 unfold kI at hk;split at hk;rename_i hp;exact⟨ks,d,hk,λk h=> .inl h,λu _ K' h=>by unfold kI;rw[hp];exact h⟩;rename_i hp;have er:nw d=fQ d:=by simp[nw,hp]
 rw[er];split at hk;rename_i cs;obtain⟨ks',ds',k1,m1,l1⟩:=lE hk;exact⟨ks',_,k1,m1,λu hu K' h=>by unfold kI;rw[hp];exact l1 u hu _ h⟩;rename_i hna;obtain⟨ks',ds',k1,m1,l1⟩:=lE hk;split at k1;rename_i d';have e:fQ.go [d]=fQ d:=by cases d<;>first|rfl|exact absurd rfl (hna _)
 rw[e]at m1 l1;refine⟨ks',d',k1,m1,λu hu K' h=> ?_⟩;have e2:kI u ks d K' =gF u ks [d] (λks ds=>match ds with|[d]=>K' ks d|_=>False):=by unfold kI;rw[hp];cases d<;>first|rfl|exact absurd rfl (hna _)
 rw[e2];exact l1 u hu _ h;exact k1.elim
def Dl(H:Nat->Option au)(l:Nat)(ls:List Nat):tw H (l::ls)=(match H l with|some d=>nw d|none=>[])++tw H ls:=rfl
theorem yU{s:St}:∀{ls ks:List Nat} {K:List Nat->List au->Prop},gK s ks ls K->∃ks' H,K ks' H∧(∀k∈ks',k∈ks∨k∈tw s.H ls)∧∀u:St,(∀l∈ls,s.H l=u.H l)->m8 (tw s.H ls) s u->∀K',K' ks' H->gK u ks ls K' |[],ks,K,hk=>⟨ks,[],hk,λk h=> .inl h,λu _ _ K' h=>h⟩|l::ls,ks,K,hk=>by simp only[mf,lj]at hk;split at hk;rename_i d hd;obtain⟨nJ,d1,k1,m1,l1⟩:=Nf hk;obtain⟨sg,H2,k2,m2,l2⟩:=yU k1;rw[Dl,hd];refine⟨sg,_,k2,λx hx=> ?_,λu hH hu K' h=> ?_⟩;rw[d_];rcases m2 x hx with h|h;rcases m1 x h with h|h;exact .inl h;exact .inr (.inl h);exact .inr (.inr h);simp only[mf,lj];rw[<-hH l ag,hd];exact l1 u hu.left _ (l2 u (λx hx=>hH x oU) hu.right _ h);exact ak
theorem Gr{s u:St}:∀{ks:List Nat},m8 ks s u->rowsOf s ks=rowsOf u ks|[],_=>rfl|k::ks,h=>by simp only[rowsOf];rw[h k ag,Gr (λx hx=>h x oU)]
theorem FN{H:Nat->Option au}{ls ms:List Nat}(h:∀l∈ls,l∈ms):∀k∈tw H ls,k∈tw H ms:=by
 have key:∀(ls:List Nat) (k:Nat),k∈tw H ls↔∃l∈ls,∃d,H l=some d∧k∈nw d:=by
  intro ls;induction ls with
  |nil=>intro k;simp[tw]
  |cons l ls ih=>
   intro k;rw[Dl,d_,ih];constructor
   ·rintro (h1|⟨x,hx,d,hd,hk⟩)
    cases hl:H l with|none=>rw[hl]at h1;cases h1|some d=>rw[hl]at h1;exact⟨l,ag,d,hl,h1⟩
    exact⟨x,oU,d,hd,hk⟩
   ·rintro ⟨x,hx,d,hd,hk⟩
    rcases bT.1 hx with e|e;subst e;rw[hd];exact .inl hk;exact .inr ⟨x,e,d,hd,hk⟩
 intro k hk;rw[key]at hk ⊢;obtain⟨l,hl,r⟩:=hk;exact⟨l,h l hl,r⟩
theorem vL{ks:List Nat}{t:Nat}{R R' :Nat->Option Row}:∀{rs:List Row} {i:Nat},i+rs.length<=ks.length+4->(∀j,j<4->R (5000+10*t+j)=R' (5000+10*t+j))->fF ks t R i rs=fF ks t R' i rs|[],_,_,_=>rfl|r::rs,i,h1,h2=>by simp only[fF];simp only[eJ]at h1;rw[vL (i:=i+1) af h2];cases hn:nth ks i with|some k=>rfl|none=>have hge:ks.length<=i:=(by rcases ja i ks.length with h|h;obtain⟨x,hx⟩:=bP h;rw[hn]at hx;cases hx;exact h);dsimp only;rw[h2 (i - ks.length) af]
def te:=@List.not_mem_nil
def AU:=@List.flatMap_nil
def o_:=@or_false
def Px{G:Prop}(h:G:=by rw[<-hz];simp only[gC];rw[hu.R k (.inl (by simp[gb]))]):G:=h
def JO{G:Prop}(h:G:=by simp[refsOf,eu,fQ]):G:=h
def Em{G:Prop}(h:G:=by simpa[gb]using hx):G:=h
def oY{G:Prop}(h:G:=by simp[gb,dg]):G:=h
def Eb{G:Prop}(h:G:=by simp[gb,hx]):G:=h
def dP{G:Prop}(h:G:=by simp[gb]):G:=h
def ON{G:Prop}(h:G:=by simp only[aC];rw[<-hu.R t (.inr (by simp[gb,dg])),ht];exact⟨hk.h,h⟩):G:=h
def RV{G:Prop}(h:G:=by simp only[aC];rw[hzu u hu];dsimp only;rw[<-hu.R k (.inl (by simp[gb])),hr];dsimp only;rw[hown];exact h2 _ h):G:=h
def An{G:Prop}(h:G:=by exact .inl ⟨by rw[a],by rw[b]⟩):G:=h
def RN{G:Prop}(h:G:=by simp only[mH,AU,jM,bT,te,o_];omega):G:=h
def JE{G:Prop}(h:G:=by rw[<-hu.R t (.inr (by simp[gb,dg])),ht];exact h):G:=h
def RD{G:Prop}(h:G:=by simp only[aC];rw[<-hu.R k (.inl (by simp[gb])),hr,hz];dsimp only;rw[ho];exact h2 _ h):G:=h
def Rz{G:Prop}(h:G:=by exact⟨λ_=> .inl ⟨rfl,rfl⟩,λ_=> .inl ⟨rfl,rfl⟩,λ_=> .inl ⟨rfl,rfl⟩⟩):G:=h
def Rk{G:Prop}(h:G:=by rw[<-hu.R k (.inr (by simp[gb])),hr];dsimp only;rw[hz];exact⟨some i,hf,h⟩):G:=h
structure vG(s u s' u' :St)(dst:Option Nat)(wh wr:List Nat):Prop where
 env:∀t,(s'.env t=s.env t∧u'.env t=u.env t)∨(s'.env t=u'.env t∧dst=some t)
 H:∀l,(s'.H l=s.H l∧u'.H l=u.H l)∨(s'.H l=u'.H l∧l∈wh)
 R:∀k,(s'.R k=s.R k∧u'.R k=u.R k)∨(s'.R k=u'.R k∧k∈wr)
structure Agr(r:Rec)(s u:St):Prop where
 H:∀l,l∈r.rh∨l∈r.wh->s.H l=u.H l
 R:∀k,k∈r.rr∨k∈r.wr->s.R k=u.R k
 L:∀q∈r.ld,pr (s.H q.1) q=pr (u.H q.1) q
def nC{α:Type}(e f:Nat->Option α)(t:Nat)(d:Option α)(x:Nat):(aY e t d x=e x∧aY f t d x=f x)∨(aY e t d x=aY f t d x∧x=t):=by by_cases h:x=t;exact .inr ⟨by rw[h,bw,bw],h⟩;exact .inl ⟨aP _ _ _ _ h,aP _ _ _ _ h⟩
theorem vG.put(s u:St)(dst:Option Nat)(d:au)(wh wr:List Nat):vG s u (s.put dst d) (u.put dst d) dst wh wr:=by cases dst with|none=>exact Rz|some t=>refine⟨λx=> ?_,λ_=> .inl ⟨rfl,rfl⟩,λ_=> .inl ⟨rfl,rfl⟩⟩;exact(nC s.env u.env t (some d) x).imp id λ⟨a,b⟩=>⟨a,by rw[b]⟩
theorem vG.forget(s u:St)(dst:Option Nat)(wh wr:List Nat):vG s u (s.forget dst) (u.forget dst) dst wh wr:=by cases dst with|none=>exact Rz|some t=>refine⟨λx=> ?_,λ_=> .inl ⟨rfl,rfl⟩,λ_=> .inl ⟨rfl,rfl⟩⟩;exact(nC s.env u.env t (some (.bR [])) x).imp id λ⟨a,b⟩=>⟨a,by rw[b]⟩
def jD.comp{W:List Nat}{s u s1 u1 s2 u2:St}{dst:Option Nat}{wh wr:List Nat}(h:jD W s u s1 u1)(hW:∀k∈W,k∈wr)(k:vG s1 u1 s2 u2 dst wh wr):vG s u s2 u2 dst wh wr:=⟨λt=>by have:=k.env t;rw[h.e1,h.e2]at this;exact this,λt=>by have:=k.H t;rw[h.h1,h.h2]at this;exact this,λx=>by rcases k.R x with⟨a,b⟩|⟨a,b⟩;rcases h.R x with⟨c,d⟩|⟨c,d⟩;exact .inl ⟨a.trans c,b.trans d⟩;exact .inr ⟨by rw[a,b,c],hW x d⟩;exact .inr ⟨a,b⟩⟩
def vG.of{s u s' u' :St}{dst:Option Nat}{wh wr:List Nat}(he:(s'.env=s.env∧u'.env=u.env)∨∃t d,dst=some t∧s'.env=aY s.env t d∧u'.env=aY u.env t d)(hH:(s'.H=s.H∧u'.H=u.H)∨∃t d,t∈wh∧s'.H=aY s.H t d∧u'.H=aY u.H t d)(hR:(s'.R=s.R∧u'.R=u.R)∨∃t d,t∈wr∧s'.R=aY s.R t d∧u'.R=aY u.R t d):vG s u s' u' dst wh wr:=by
 refine⟨λx=> ?_,λx=> ?_,λx=> ?_⟩;rcases he with⟨a,b⟩|⟨t,d,h,a,b⟩;exact An;rw[a,b];exact(nC _ _ t d x).imp id λ⟨a,b⟩=>⟨a,by rw[b,h]⟩
 rcases hH with⟨a,b⟩|⟨t,d,h,a,b⟩;exact An;rw[a,b];exact(nC _ _ t d x).imp id λ⟨a,b⟩=>⟨a,by rw[b];exact h⟩
 rcases hR with⟨a,b⟩|⟨t,d,h,a,b⟩;exact An;rw[a,b];exact(nC _ _ t d x).imp id λ⟨a,b⟩=>⟨a,by rw[b];exact h⟩
def vG.two{s u s' u' :St}{dst:Option Nat}{wh wr:List Nat}(he:(s'.env=s.env∧u'.env=u.env)∨∃t d,dst=some t∧s'.env=aY s.env t d∧u'.env=aY u.env t d)(hH:s'.H=s.H∧u'.H=u.H){q k:Nat}{dq dk:Option Row}(hq:q∈wr)(hk:k∈wr)(a:s'.R=aY (aY s.R q dq) k dk)(b:u'.R=aY (aY u.R q dq) k dk):vG s u s' u' dst wh wr:=by
 have h1:vG s u s' u' dst wh wr∨True:= .inr trivial;refine⟨λx=> ?_,λx=> .inl ⟨by rw[hH.1],by rw[hH.2]⟩,λx=> ?_⟩;rcases he with⟨a,b⟩|⟨t,d,h,a,b⟩;exact An;rw[a,b];exact(nC _ _ t d x).imp id λ⟨a,b⟩=>⟨a,by rw[b,h]⟩
 rw[a,b];by_cases e1:x=k;exact .inr ⟨by rw[e1,bw,bw],e1▸hk⟩;rw[aP _ _ _ _ e1,aP _ _ _ _ e1];exact(nC _ _ q dq x).imp id λ⟨a,b⟩=>⟨a,b▸hq⟩
def yu{s u:St}{sz:Nat}{d:au}(h:m8 (refsOf [d]) s u):gC s sz d=gC u sz d:=by cases d with|ref k n=>simp only[gC];rw[h k JO]|cQ k n=>simp only[gC];rw[h k JO]|sub k j n=>simp only[gC];rw[h k JO]|_=>rfl
def qU{s u:St}{d:au}{K:List au->Prop}(hk:kU s d K):∃es,K es∧(m8 (refsOf [d]) s u->∀K',K' es->kU u d K'):=by cases d with|ref k n=>simp only[kU]at hk;split at hk;rename_i r hr;refine⟨_,hk.k,λh K' hK=> ?_⟩;simp only[kU];rw[<-h k JO,hr];exact⟨hk.h,hK⟩;exact ak|sl z es b=>exact⟨_,hk,λ_ K' h=>h⟩|str b=>exact⟨_,hk,λ_ K' h=>h⟩|_=>exact ak
def mA{n:Nat}{es:List au}{i:Int}{K:au->Prop}(hk:a_ n es i K):∃d,K d∧nth es i.toNat=some d∧∀K' :au->Prop,K' d->a_ n es i K' :=by obtain⟨d,h1,h2,h3,h4⟩:=hk.out;exact⟨d,h4,h3,λK' h=>⟨d,h1,h2,h3,h⟩⟩
theorem Bl{ks:List Nat}{t:Nat}:∀{ls:List Nat} {ds:List au} {H H' :Nat->Option au} (l:Nat),(fD ks t H ls ds l=H l∧fD ks t H' ls ds l=H' l)∨(fD ks t H ls ds l=fD ks t H' ls ds l∧l∈ls)
 |[],ds,H,H',l=>by cases ds<;>exact .inl ⟨rfl,rfl⟩|x::ls,[],H,H',l=> .inl ⟨rfl,rfl⟩
 |x::ls,d::ds,H,H',l=>by
  simp only[fD];rcases Bl (ks:=ks) (t:=t) (ls:=ls) (ds:=ds) (H:=aY H x (some (back ks t d))) (H' :=aY H' x (some (back ks t d))) l with⟨a,b⟩|⟨a,b⟩;rw[a,b];exact(nC H H' x _ l).imp id λ⟨c,d⟩=>⟨c,by simp[d]⟩
  exact .inr ⟨a,by simp[b]⟩
theorem wD{ks:List Nat}{t:Nat}(hn:ks.Nodup∨True):∀{rs:List Row} {i:Nat} {R R' :Nat->Option Row} {rn rn' :List Nat} (_:i+rs.length<=ks.length+4) (k:Nat),((dA ks t R rn i rs).1 k=R k∧(dA ks t R' rn' i rs).1 k=R' k)∨((dA ks t R rn i rs).1 k=(dA ks t R' rn' i rs).1 k∧(k∈ks∨∃j,j<4∧k=5000+10*t+j))
 |[],i,R,R',rn,rn',_,k=> .inl ⟨rfl,rfl⟩
 |r::rs,i,R,R',rn,rn',h,k=>by
  simp only[eJ]at h;simp only[dA];cases hi:nth ks i with
  |some k0=>
   dsimp only;rcases wD (ks:=ks) (t:=t) hn (rs:=rs) (i:=i+1) (R:=aY R k0 (some r)) (R' :=aY R' k0 (some r)) (rn:=rn) (rn' :=rn') af k with⟨a,b⟩|⟨a,b⟩;rw[a,b];exact(nC R R' k0 _ k).imp id λ⟨c,d⟩=>⟨c,.inl (by rw[d];exact dm hi)⟩
   exact .inr ⟨a,b⟩
  |none=>
   dsimp only;have hge:ks.length<=i:=PE
   rcases wD (ks:=ks) (t:=t) hn (rs:=rs) (i:=i+1) (R:=aY R (5000+10*t+(i - ks.length)) (some r)) (R' :=aY R' (5000+10*t+(i - ks.length)) (some r)) (rn:=(5000+10*t+(i - ks.length))::rn) (rn' :=(5000+10*t+(i - ks.length))::rn') af k with⟨a,b⟩|⟨a,b⟩;rw[a,b];exact(nC R R' _ _ k).imp id λ⟨c,d⟩=>⟨c,.inr ⟨i - ks.length,af,d⟩⟩
   exact .inr ⟨a,b⟩
theorem Ym{P:Program}{c:mC}{dst:Option Nat}{s:St}{K:St->Prop}{p:C9}(hk:aC P c dst s K p):∃s',K s' ∧∀u,Agr (gb dst s p) s u->∃u',vG s u s' u' dst (gb dst s p).wh (gb dst s p).wr∧∀K' :St->Prop,K' u' ->aC P c dst u K' p:=by
 have ep:∀{d:au} {r:Rec},K (s.put dst d)->(∀u,Agr r s u->∀K' :St->Prop,K' (u.put dst d)->aC P c dst u K' p)->
  ∃s',K s' ∧∀u,Agr r s u->∃u',vG s u s' u' dst r.wh r.wr∧∀K' :St->Prop,K' u' ->aC P c dst u K' p:=
  λ{d r} h1 h2=>⟨_,h1,λu hu=>⟨_,vG.put s u dst d _ _,h2 u hu⟩⟩
 cases p with
 |val d=>exact ep hk λu _ K' h=>h|Bw q d=>exact ep hk.k λu _ K' h=>⟨hk.h,h⟩|arith k x=>exact ep hk.out λu _ K' h=>⟨h⟩
 |load a n agg=>
  cases a with
  |ptr l off=>
   simp only[aC]at hk;split at hk;rename_i d hd;split at hk;rename_i e he;refine ep hk λu hu K' h=> ?_;simp only[aC];have hq:=hu.L (l,off,n,agg) dP;rw[hd]at hq;simp only[pr,he]at hq;cases hdu:u.H l with|none=>rw[hdu]at hq;cases hq|some du=>rw[hdu]at hq;dsimp only at hq ⊢;rw[<-hq];exact h
   exact ak;exact ak
  |jk l off=>simp only[aC]at hk;split at hk;rename_i d hd;obtain⟨e,h1,_,h2⟩:=mA hk;refine ep h1 λu hu K' h=> ?_;simp only[aC];rw[<-hu.H l (.inl dP),hd];exact h2 _ h;exact ak
  |l_ d off=>simp only[aC]at hk;split at hk;rename_i e he;refine ep hk λu hu K' h=> ?_;simp only[aC];rw[he];exact h;exact ak|tD d=>simp only[aC]at hk;split at hk;rename_i f p q hz;refine ep hk λu hu K' h=> ?_;simp only[aC];rw[hz];exact h;exact ak
  |iE k m i off=>
   simp only[aC]at hk;split at hk
   ·rename_i r hr;obtain⟨e,h1,_,h2⟩:=mA hk;split at h1
    ·rename_i x hx;refine ep h1 λu hu K' h=> ?_;simp only[aC];rw[<-hu.R k (.inl dP),hr];refine h2 _ ?_;try dsimp only
     rw[hx];exact h
    exact h1.elim
   exact ak
  |jS k m i=>simp only[aC]at hk;split at hk;rename_i r hr hz;split at hk;rename_i ho;obtain⟨e,h1,_,h2⟩:=mA hk;split at h1;refine ep h1 λu hu K' h=> ?_;exact RD;refine ep h1 λu hu K' h=> ?_;exact RD;exact h1.elim;exact ak;exact ak
  |fT k j i=>simp only[aC]at hk;split at hk;rename_i r hr hz;split at hk;rename_i ho;obtain⟨xs,j1,j2⟩:=hk.out;obtain⟨e,h1,_,h2⟩:=mA j2;split at h1;refine ep h1 λu hu K' h=> ?_;simp only[aC];rw[<-hu.R k (.inl dP),hr,hz];dsimp only;rw[ho];exact⟨xs,j1,h2 _ h⟩;exact h1.elim;exact ak;exact ak
  |_=>exact ak
 |store a v n=>
  simp only[aC]at hk;split at hk;exact ak;rename_i hlen;cases a with
  |ptr l off=>dsimp only at hk;split at hk;rename_i d hd;split at hk;rename_i d' hd';refine⟨_,hk,λu hu=>⟨{u with H:=aY u.H l (some d')},vG.of (.inl ⟨rfl,rfl⟩) (.inr ⟨l,some d',dP,rfl,rfl⟩) (.inl ⟨rfl,rfl⟩),λK' h=> ?_⟩⟩;simp only[aC];rw[hlen];dsimp only;rw[<-hu.H l (.inr dP),hd];dsimp only;rw[hd'];exact h;exact ak;exact ak
  |jk l off=>
   dsimp only at hk;split at hk;rename_i cs hd;split at hk;exact ak;exact ak;rename_i hn1 hn2;refine⟨_,hk.k,λu hu=>⟨{u with H:=aY u.H l (some (.agg (cs.set off v)))},vG.of (.inl ⟨rfl,rfl⟩) (.inr ⟨l,_,dP,rfl,rfl⟩) (.inl ⟨rfl,rfl⟩),λK' h=> ?_⟩⟩;simp only[aC];rw[hlen];dsimp only;rw[<-hu.H l (.inr dP),hd];dsimp only;cases v with|agg xs=>exact absurd rfl (hn1 _)|bR xs=>exact absurd rfl (hn2 _)|_=>exact⟨hk.h,h⟩
   exact ak
  |iE k m i off=>
   dsimp only at hk;obtain⟨s1,v1,k1,l1⟩:=wP hk;split at k1
   ·rename_i r hr;split at k1
    ·rename_i hown;obtain⟨e,h1,_,h2⟩:=mA k1;split at h1
     ·rename_i d' hd';have hW:∀x∈nw v,x∈(gb dst s (.store (.iE k m i off) v n)).wr:=by intro x hx;simp only[gb];refine ko _ ?_;exact Bk hx
      refine⟨_,h1,λu hu=> ?_⟩;obtain⟨u1,p1,q1⟩:=l1 u (λx hx=>hu.R x (.inr (hW x hx)));have hk1:s1.R k=u1.R k:=by rcases p1.R k with⟨a,b⟩|⟨a,_⟩;rw[a,b];exact hu.R k (.inr dP);exact a
      refine⟨{u1 with R:=aY u1.R k (some {r with es:=r.es.set i.toNat d' })},p1.comp hW (vG.of (.inl ⟨rfl,rfl⟩) (.inl ⟨rfl,rfl⟩) (.inr ⟨k,_,dP,rfl,rfl⟩)),λK' h=> ?_⟩;simp only[aC];rw[hlen];dsimp only;refine q1 _ ?_;rw[<-hk1,hr];dsimp only;rw[hown];dsimp only;refine h2 _ ?_;try dsimp only
      rw[hd'];exact h
     exact h1.elim
    exact k1.elim
   exact k1.elim
  |jS k m i=>
   dsimp only at hk;split at hk
   rotate_left
   ·split at hk
    rotate_left
    exact ak;rename_i r hr;split at hk
    rotate_left
    exact ak;rename_i hc;obtain⟨e,h1,_,h2⟩:=mA hk;split at h1;refine⟨_,h1,λu hu=>⟨{u with R:=aY u.R k (some {r with es:=r.es.set i.toNat (.own [])})},vG.of (.inl ⟨rfl,rfl⟩) (.inl ⟨rfl,rfl⟩) (.inr ⟨k,_,dP,rfl,rfl⟩),λK' h=> ?_⟩⟩;simp only[aC];rw[hlen];dsimp only;rw[<-hu.R k (.inr dP),hr];dsimp only;rw[hc];exact h2 _ h;exact h1.elim
   exact ak;rename_i q n';split at hk
   rotate_left
   exact ak;rename_i r rq hr hq;split at hk
   rotate_left
   exact ak;rename_i hc;obtain⟨e,h1,_,h2⟩:=mA hk.k;split at h1;refine⟨_,h1,λu hu=>⟨{u with R:=aY (aY u.R q (some (p' rq))) k (some {r with es:=r.es.set i.toNat (.own rq.es)})},vG.two (.inl ⟨rfl,rfl⟩) ⟨rfl,rfl⟩ (by simp[gb,refsOf,fQ,eu]) dP rfl rfl,λK' h=> ?_⟩⟩;simp only[aC];rw[hlen];dsimp only;rw[<-hu.R k (.inr dP),<-hu.R q (.inr (by simp[gb,refsOf,fQ,eu])),hr,hq];dsimp only;rw[hc];exact⟨hk.h,h2 _ h⟩;exact h1.elim
  |fT k j i=>
   dsimp only at hk;split at hk
   rotate_left
   exact ak;rename_i q x r hr;split at hk
   rotate_left
   exact ak;rename_i hc;obtain⟨xs,j1,j2⟩:=hk.out;refine⟨_,j2.k,λu hu=>⟨{u with R:=aY u.R k (some {r with es:=r.es.set j (.own (xs.set i.toNat (.int q x)))})},vG.of (.inl ⟨rfl,rfl⟩) (.inl ⟨rfl,rfl⟩) (.inr ⟨k,_,dP,rfl,rfl⟩),λK' h=> ?_⟩⟩;simp only[aC];rw[hlen];dsimp only;rw[<-hu.R k (.inr dP),hr];dsimp only;rw[hc];exact⟨xs,j1,j2.h,h⟩
  |_=>exact ak
 |alloc d=>simp only[aC]at hk;split at hk;rename_i t;split at hk;rename_i hh;split at hk;rename_i ht;refine⟨_,hk,λu hu=>⟨{env:=aY u.env t (some (.ptr t 0)),H:=aY u.H t (some d),hn:=t::u.hn,R:=u.R,rn:=u.rn,y:=u.y},vG.of (.inr ⟨t,_,rfl,rfl,rfl⟩) (.inr ⟨t,_,oY,rfl,rfl⟩) (.inl ⟨rfl,rfl⟩),λK' h=> ?_⟩⟩;simp only[aC];rw[hh];dsimp only;rw[<-hu.H t (.inr oY),ht];exact h;exact ak;rename_i hh;unfold ve at hk;split at hk;rename_i hp;refine⟨_,hk,λu hu=>⟨{env:=aY u.env t (some (.l_ d 0)),H:=u.H,hn:=u.hn,R:=u.R,rn:=u.rn,y:=u.y},vG.of (.inr ⟨t,_,rfl,rfl,rfl⟩) (.inl ⟨rfl,rfl⟩) (.inl ⟨rfl,rfl⟩),λK' h=> ?_⟩⟩;simp only[aC];rw[hh];dsimp only;unfold ve;rw[hp];exact h;rename_i hp;split at hk;rename_i f p q;refine⟨_,hk,λu hu=>⟨{env:=aY u.env t (some (.tD (.gB f p q))),H:=u.H,hn:=u.hn,R:=u.R,rn:=u.rn,y:=u.y},vG.of (.inr ⟨t,_,rfl,rfl,rfl⟩) (.inl ⟨rfl,rfl⟩) (.inl ⟨rfl,rfl⟩),λK' h=> ?_⟩⟩;simp only[aC];rw[hh];dsimp only;unfold ve;rw[hp];exact h;exact ak;exact ak
 |row sz es=>
  simp only[aC]at hk;split at hk;rename_i t;split at hk;rename_i hh;split at hk;rename_i q n hz;refine ep hk λu hu K' h=> ?_;simp only[aC];rw[hh];dsimp only;rw[hz];exact h;exact ak;rename_i hh;obtain⟨s1,es1,k1,l1⟩:=Dy hk;split at k1;rename_i ht;refine⟨_,k1,λu hu=> ?_⟩;obtain⟨u1,p1,q1⟩:=l1 u (λx hx=>hu.R x (.inr Eb));have hk1:s1.R t=u1.R t:=by rcases p1.R t with⟨a,b⟩|⟨a,_⟩;rw[a,b];exact hu.R t (.inr oY);exact a
  refine⟨{env:=aY u1.env t (some (.ref t es1.length)),H:=u1.H,hn:=u1.hn,R:=aY u1.R t (some ⟨sz,true,es1⟩),rn:=t::u1.rn,y:=u1.y},p1.comp (λx hx=>Eb) (vG.of (.inr ⟨t,_,rfl,rfl,rfl⟩) (.inl ⟨rfl,rfl⟩) (.inr ⟨t,_,oY,rfl,rfl⟩)),λK' h=> ?_⟩;simp only[aC];rw[hh];dsimp only;refine q1 _ ?_;rw[<-hk1,ht];exact h;exact k1.elim;exact ak
 |idx sz a i=>
  simp only[aC]at hk;split at hk;exact ak;rename_i hz;cases a with
  |sl z es b=>obtain⟨e,h1,_,h2⟩:=mA hk;refine ep h1 λu hu K' h=> ?_;simp only[aC];have hz' :gC u sz (.sl z es b)=true:=hz;rw[hz'];exact h2 _ h
  |ref k n=>
   dsimp only at hk;have hzu:∀u,Agr (gb dst s (.idx sz (.ref k n) i)) s u->gC u sz (.ref k n)=true:=λu hu=>Px
   split at hk;rename_i r hr;split at hk;rename_i hown;obtain⟨e,h1,_,h2⟩:=mA hk;refine ep h1 λu hu K' h=> ?_;exact RV;rename_i hown;obtain⟨e,h1,_,h2⟩:=mA hk;refine ep h1 λu hu K' h=> ?_;exact RV;exact ak
  |cQ k n=>
   dsimp only at hk;have hzu:∀u,Agr (gb dst s (.idx sz (.cQ k n) i)) s u->gC u sz (.cQ k n)=true:=λu hu=>Px
   split at hk;rename_i r hr;obtain⟨e,h1,_,h2⟩:=mA hk;refine ep h1 λu hu K' h=> ?_;simp only[aC];rw[hzu u hu];dsimp only;rw[<-hu.R k (.inl dP),hr];exact h2 _ h;exact ak
  |sub k j n=>
   dsimp only at hk;have hzu:∀u,Agr (gb dst s (.idx sz (.sub k j n) i)) s u->gC u sz (.sub k j n)=true:=λu hu=>Px
   split at hk;rename_i r hr;obtain⟨xs,j1,j2⟩:=hk.out;refine ep j2.k λu hu K' h=> ?_;simp only[aC];rw[hzu u hu];dsimp only;rw[<-hu.R k (.inl dP),hr];exact⟨xs,j1,j2.h,h⟩;exact ak
  |_=>exact ak
 |make sz z n m=>
  simp only[aC]at hk;split at hk;rename_i t;split at hk
  ·rename_i ht;cases z with
   |sl y es b=>cases es with|nil=>dsimp only at hk;refine⟨_,hk.k,λu hu=>⟨{env:=aY u.env t (some (.ref t n.toNat)),H:=u.H,hn:=u.hn,R:=aY u.R t (some ⟨sz,true,List.replicate n.toNat (.sl y [] false)⟩),rn:=t::u.rn,y:=u.y},vG.of (.inr ⟨t,_,rfl,rfl,rfl⟩) (.inl ⟨rfl,rfl⟩) (.inr ⟨t,_,oY,rfl,rfl⟩),λK' h=> ?_⟩⟩;exact ON|cons x xs=>dsimp only at hk;refine⟨_,hk.k,λu hu=>⟨{env:=aY u.env t (some (.ref t n.toNat)),H:=u.H,hn:=u.hn,R:=aY u.R t (some ⟨sz,true,List.replicate n.toNat (.sl y (x::xs) b)⟩),rn:=t::u.rn,y:=u.y},vG.of (.inr ⟨t,_,rfl,rfl,rfl⟩) (.inl ⟨rfl,rfl⟩) (.inr ⟨t,_,oY,rfl,rfl⟩),λK' h=> ?_⟩⟩;exact ON
   |_=>dsimp only at hk;refine⟨_,hk.k,λu hu=>⟨{env:=aY u.env t (some (.ref t n.toNat)),H:=u.H,hn:=u.hn,R:=aY u.R t (some ⟨sz,true,List.replicate n.toNat _⟩),rn:=t::u.rn,y:=u.y},vG.of (.inr ⟨t,_,rfl,rfl,rfl⟩) (.inl ⟨rfl,rfl⟩) (.inr ⟨t,_,oY,rfl,rfl⟩),λK' h=> ?_⟩⟩;exact ON
  exact ak;exact ak
 |X9=>simp only[aC]at hk;split at hk;rename_i t;split at hk;rename_i ht;refine⟨_,hk,λu hu=>⟨{env:=aY u.env t (some (.dR t)),H:=u.H,hn:=u.hn,R:=aY u.R t (some ⟨0,true,[]⟩),rn:=t::u.rn,y:=u.y},vG.of (.inr ⟨t,_,rfl,rfl,rfl⟩) (.inl ⟨rfl,rfl⟩) (.inr ⟨t,_,oY,rfl,rfl⟩),λK' h=> ?_⟩⟩;simp only[aC];exact JE;exact ak;exact ak
 |T7 k q n v=>
  simp only[aC]at hk;split at hk;exact ak;split at hk;exact ak;rename_i hp;split at hk;rename_i r hr;split at hk;rename_i hz;obtain⟨i,hf,hk⟩:=hk;cases i with|none=>refine⟨_,hk,λu hu=>⟨{u with R:=aY u.R k (some ⟨0,true,r.es++[.me (.int q n) v]⟩)},vG.of (.inl ⟨rfl,rfl⟩) (.inl ⟨rfl,rfl⟩) (.inr ⟨k,_,dP,rfl,rfl⟩),λK' h=> ?_⟩⟩;simp only[aC];rw[hp];dsimp only;rw[<-hu.R k (.inr dP),hr];dsimp only;rw[hz];exact⟨none,hf,h⟩|some i=>refine⟨_,hk,λu hu=>⟨{u with R:=aY u.R k (some ⟨0,true,r.es.set i (.me (.int q n) v)⟩)},vG.of (.inl ⟨rfl,rfl⟩) (.inl ⟨rfl,rfl⟩) (.inr ⟨k,_,dP,rfl,rfl⟩),λK' h=> ?_⟩⟩;simp only[aC];rw[hp];dsimp only;exact Rk
  exact ak;exact ak
 |Yc k q n z ok=>
  simp only[aC]at hk;split at hk;rename_i r hr;split at hk;rename_i hz;obtain⟨i,hf,hk⟩:=hk;cases i with|none=>refine ep hk λu hu K' h=> ?_;simp only[aC];rw[<-hu.R k (.inl dP),hr];dsimp only;rw[hz];exact⟨none,hf,h⟩|some i=>obtain⟨kd,v,hv,hk⟩:=hk;refine ep hk λu hu K' h=> ?_;simp only[aC];rw[<-hu.R k (.inl dP),hr];dsimp only;rw[hz];exact⟨some i,hf,kd,v,hv,h⟩
  exact ak;exact ak
 |Ye k q n=>
  simp only[aC]at hk;split at hk;exact ak;split at hk;rename_i r hr;split at hk;rename_i hz;obtain⟨i,hf,hk⟩:=hk;cases i with|none=>refine⟨_,hk,λu hu=>⟨u,vG.of (.inl ⟨rfl,rfl⟩) (.inl ⟨rfl,rfl⟩) (.inl ⟨rfl,rfl⟩),λK' h=> ?_⟩⟩;simp only[aC];rw[<-hu.R k (.inr dP),hr];dsimp only;rw[hz];exact⟨none,hf,h⟩|some i=>refine⟨_,hk,λu hu=>⟨{u with R:=aY u.R k (some ⟨0,true,r.es.set i .md⟩)},vG.of (.inl ⟨rfl,rfl⟩) (.inl ⟨rfl,rfl⟩) (.inr ⟨k,_,dP,rfl,rfl⟩),λK' h=> ?_⟩⟩;simp only[aC];exact Rk
  exact ak;exact ak
 |X_ k=>simp only[aC]at hk;split at hk;rename_i r hr;split at hk;rename_i hz;refine ep hk λu hu K' h=> ?_;simp only[aC];rw[<-hu.R k (.inl dP),hr];dsimp only;rw[hz];exact h;exact ak;exact ak|DY es nl ne=>simp only[aC]at hk;cases nl with|true=>exact ep hk λu hu K' h=>h|false=>exact ep hk.k λu hu K' h=>⟨hk.h,h⟩
 |aidx l off m sz i=>exact ep hk.k λu hu K' h=>⟨hk.h,h⟩|part cs i=>obtain⟨e,h1,_,h2⟩:=mA hk;exact ep h1 λu hu K' h=>h2 _ h
 |sidx b i=>obtain⟨x,h1,h2,h3⟩:=hk.out;exact ep h3 λu hu K' h=>⟨x,h1,h2,h⟩
 |app sz a b=>
  simp only[aC]at hk;split at hk;exact ak;rename_i hz;split at hk;rename_i z es t;obtain⟨xs,h1,h2⟩:=qU (u:=s) hk;have key:∀u,Agr (gb (some t) s (.app sz (.sl z es true) b)) s u->m8 (refsOf [b]) s u:=λu hu x hx=>hu.R x (.inl Em);have hR:=h1.k;split at hR;rename_i ht;refine⟨_,hR,λu hu=>⟨{env:=aY u.env t (some (.ref t xs.length)),H:=u.H,hn:=u.hn,R:=aY u.R t (some ⟨sz,true,xs⟩),rn:=t::u.rn,y:=u.y},vG.of (.inr ⟨t,_,rfl,rfl,rfl⟩) (.inl ⟨rfl,rfl⟩) (.inr ⟨t,_,oY,rfl,rfl⟩),λK' h=> ?_⟩⟩;simp only[aC];have hz' :(gC u sz (.sl z es true)&&gC u sz b)=true:=by rw[<-yu (key u hu)];exact hz
  rw[hz'];dsimp only;have hk' :kU s b λys=>ys=xs:=h2 (λ_ _=>rfl) _ rfl;obtain⟨ys,e1,e2⟩:=qU (u:=u) hk';subst e1;refine e2 (key u hu) _ ⟨h1.h,?_⟩;exact JE;exact hR.elim;rename_i k n t;have key:∀u,Agr (gb (some t) s (.app sz (.ref k n) b)) s u->m8 (refsOf [b]) s u:=λu hu x hx=>hu.R x (.inl Em);split at hk;rename_i r hr;obtain⟨xs,h1,h2⟩:=qU (u:=s) hk;refine⟨_,h1.k,λu hu=>⟨{u with env:=aY u.env t (some (.ref k (r.es++xs).length)),R:=aY u.R k (some {r with es:=r.es++xs})},vG.of (.inr ⟨t,_,rfl,rfl,rfl⟩) (.inl ⟨rfl,rfl⟩) (.inr ⟨k,_,dP,rfl,rfl⟩),λK' h=> ?_⟩⟩;simp only[aC];have hku:s.R k=u.R k:=hu.R k (.inr dP);have hz' :(gC u sz (.ref k n)&&gC u sz b)=true:=by
   rw[<-yu (key u hu)];have:gC u sz (.ref k n)=gC s sz (.ref k n):=by simp only[gC];rw[hku]
   rw[this];exact hz
  rw[hz'];dsimp only;rw[<-hku,hr];dsimp only;have hk' :kU s b λys=>ys=xs:=h2 (λ_ _=>rfl) _ rfl;obtain⟨ys,e1,e2⟩:=qU (u:=u) hk';subst e1;exact e2 (key u hu) _ ⟨h1.h,h⟩;exact ak
  ·rename_i k n t;split at hk
   rotate_left
   exact ak;rename_i q n';split at hk
   rotate_left
   exact ak;rename_i r rq hr hq;split at hk
   rotate_left
   exact ak;rename_i hc;refine⟨_,hk.k,λu hu=>⟨{u with env:=aY u.env t (some (.cQ k (r.es.length+1))),R:=aY (aY u.R q (some (p' rq))) k (some {r with es:=r.es++[.own rq.es]})},vG.two (.inr ⟨t,_,rfl,rfl,rfl⟩) ⟨rfl,rfl⟩ dP dP rfl rfl,λK' h=> ?_⟩⟩;have hku:s.R k=u.R k:=hu.R k (.inr dP);have hqu:s.R q=u.R q:=hu.R q (.inr dP);simp only[aC];have hz' :(gC u sz (.cQ k n)&&gC u sz (.lit q n'))=true:=by have:gC u sz (.cQ k n)=gC s sz (.cQ k n):=(by simp only[gC];rw[hku]);rw[this];exact hz
   rw[hz'];dsimp only;rw[<-hku,<-hqu,hr,hq];dsimp only;rw[hc];exact⟨hk.h,h⟩
  exact ak
 |sub sz a lo hi=>
  simp only[aC]at hk;split at hk;rename_i b;exact ep hk.k λu hu K' h=>⟨hk.h,h⟩;rename_i hns;split at hk;exact ak;rename_i hz;obtain⟨s1,a1,k1,l1⟩:=wP hk;have hW:∀x∈nw a,x∈refsOf [a]:=by intro x hx;exact Bk hx
  split at k1;rename_i z es bb;split at k1;rename_i hzz;refine⟨_,k1.k,λu hu=> ?_⟩;have hag:m8 (refsOf [a]) s u:=λx hx=>hu.R x (.inr Em);obtain⟨u1,p1,q1⟩:=l1 u (λx hx=>hag x (hW x hx));refine⟨_,p1.comp (wr:=(gb dst s (.sub sz a lo hi)).wr) (λx hx=>by simpa[gb]using hW x hx) (vG.put s1 u1 dst (.sl sz (cut es lo hi) false) _ _),λK' h=> ?_⟩
  have e:aC P c dst u K' (.sub sz a lo hi)=(match gC u sz a with
   |false=>False
   |true=>nI u a λs a=>match a with
    | .sl z es _=>match Nat.beq z sz with
      |true=>kE (0<=lo.getD 0∧lo.getD 0<=hi.getD es.length∧hi.getD es.length<=es.length) (K' (s.put dst (.sl sz (cut es lo hi) false)))
      |false=>False
    |_=>False):=by
   cases a<;>first|rfl|exact absurd rfl (hns _)
  rw[e,<-yu hag,hz];refine q1 _ ?_;dsimp only;rw[hzz];exact⟨k1.h,h⟩;exact k1.elim;exact k1.elim
 |sel b x y=>simp only[aC]at hk;cases b with|true=>have:=hk.t rfl;split at this;rename_i d;exact ep this λu _ K' h=>⟨λ_=>h,λe=>bM⟩;exact this.elim|false=>have:=hk.f rfl;split at this;rename_i d;exact ep this λu _ K' h=>⟨λe=>bM,λ_=>h⟩;exact this.elim
 |bytes e b=>simp only[aC]at hk;split at hk;rename_i t;split at hk;rename_i ht;refine⟨_,hk,λu hu=>⟨{env:=aY u.env t (some (.ref t b.length)),H:=u.H,hn:=u.hn,R:=aY u.R t (some ⟨1,false,b.map λc=> .int .u8 c.toNat⟩),rn:=t::u.rn,y:=u.y},vG.of (.inr ⟨t,_,rfl,rfl,rfl⟩) (.inl ⟨rfl,rfl⟩) (.inr ⟨t,_,oY,rfl,rfl⟩),λK' h=> ?_⟩⟩;simp only[aC];exact JE;exact ak;exact ak|text a=>simp only[aC]at hk;split at hk;exact ak;rename_i hz;obtain⟨es,h1,h2⟩:=qU (u:=s) hk;obtain⟨b,hb,h1⟩:=h1.out;refine ep h1 λu hu K' h=> ?_;have hag:m8 (refsOf [a]) s u:=λx hx=>hu.R x (.inl Em);simp only[aC];rw[<-yu hag,hz];dsimp only;have hk' :kU s a λys=>ys=es:=h2 (λ_ _=>rfl) _ rfl;obtain⟨ys,e1,e2⟩:=qU (u:=u) hk';subst e1;refine e2 hag _ ?_;exact⟨b,hb,h⟩
 |call f args=>
  simp only[aC]at hk;split at hk
  rotate_left
  exact ak;rename_i t;obtain⟨s1,ls,nJ,args',k1,m1,n1,hH1,l1⟩:=BD hk;obtain⟨ks,H,k2,m2,l2⟩:=yU k1;split at k2
  rotate_left
  exact k2.elim;rename_i R hR;obtain⟨r,m,hc,k3⟩:=k2.out;split at k3
  rotate_left
  exact k3.elim;rename_i hb;have hb' :=hb;simp only[bc]at hb';have hlen:=pS hb'.2.2;have hls:∀l∈ls,l∈zF args:=λl hl=>(m1 l hl).resolve_left ag;have hks1:∀k∈nJ,k∈refsOf args:=λl hl=>(n1 l hl).resolve_left ag;have hks:∀k∈ks,k∈(gb (some t) s (.call f args)).wr:=λk hk=>by simp only[gb,d_];refine .inr ?_;rcases m2 k hk with h|h;exact .inl (hks1 k h);rw[hH1]at h;exact .inr (FN hls k h)
  refine⟨_,k3,λu hu=> ?_⟩;have hRu:∀k∈(gb (some t) s (.call f args)).wr,s.R k=u.R k:=λk hk=>hu.R k (.inr hk);obtain⟨u1,p1,q1⟩:=l1 u (λx hx=>hRu x Eb);have hR1:∀k∈(gb (some t) s (.call f args)).wr,s1.R k=u1.R k:=λk hk=>by rcases p1.R k with⟨a,b⟩|⟨a,_⟩;rw[a,b];exact hRu k hk;exact a
  have hHu:∀l∈ls,s1.H l=u1.H l:=λl hl=>by rw[hH1,p1.h2];exact hu.H l (.inr (by simpa[gb]using hls l hl))
  have new4:∀j,j<4->(5000+10*t+j)∈(gb (some t) s (.call f args)).wr:=λj hj=>by
   simp only[gb,dg,d_];refine .inl ?_;have:j=0∨j=1∨j=2∨j=3:=af
   exact RN
  refine⟨{env:=aY u1.env t (some (back ks t r)),H:=fD ks t u1.H ls m.H,hn:=u1.hn,R:=(dA ks t u1.R u1.rn 0 m.R).1,rn:=(dA ks t u1.R u1.rn 0 m.R).2,y:=u1.y},p1.comp (λx hx=>Eb) ⟨λx=> ?_,λx=> ?_,λx=> ?_⟩,λK' h=> ?_⟩;exact(nC s1.env u1.env t _ x).imp id λ⟨a,b⟩=>⟨a,by rw[b]⟩;exact(Bl x).imp id λ⟨a,b⟩=>⟨a,by simpa[gb]using hls x b⟩;refine(wD (.inr trivial) af x).imp id λ⟨a,b⟩=>⟨a,?_⟩;rcases b with b|⟨j,hj,rfl⟩
  exact hks x b;exact new4 j hj;simp only[aC];refine q1 _ (l2 u1 hHu (λx hx=>hR1 x ?_) _ ?_);simp only[gb,d_];rw[hH1]at hx;exact .inr (.inr (FN hls x hx));rw[<-Gr (s:=s1) (λx hx=>hR1 x (hks x hx)),hR];dsimp only;refine⟨r,m,hc,?_⟩;rw[<-vL (R:=s1.R) af (λj hj=>hR1 _ (new4 j hj)),hb];exact h
 |yield=>exact ak|yH=>exact ak|bad=>exact ak
def tf:=@of_decide_eq_true
def uP:=@List.mem_range
def Ev:=@List.mem_flatMap
def Kf:=@Bool.or_eq_false_iff
def Kb:=@List.map_congr_left
def Ei{G:Prop}(h:G:=by simpa[nth]using hk):G:=h
def Ed{G:Prop}(h:G:=by simp[nth]at hb):G:=h
def Az{G:Prop}(h:G:=by simpa using hk):G:=h
def uu{G:Prop}(h:G:=by rw[e];simp):G:=h
def aw{G:Prop}(h:G:=by rw[ho];rfl):G:=h
theorem tL{ρ ρ' :TypeId->Operand->Option au}:∀{l:List Operand} {ts:List TypeId},(∀t x,x∈l->ρ t x=ρ' t x)->ig ρ l ts=ig ρ' l ts|[],ts,_=>by cases ts<;>rfl|x::l,[],h=>by simp only[ig];rw[h 0 x ag,tL (λt y hy=>h t y oT)]|x::l,t::ts,h=>by simp only[ig];rw[h t x ag,tL (λt y hy=>h t y oT)]
theorem FY{P:Program}{o:Oper}{ρ ρ' :TypeId->Operand->Option au}(h:∀t x,x∈o.op.operands->ρ t x=ρ' t x):cy P o ρ=cy P o ρ' :=by
 have two:∀{x y:Operand},o.op.operands= #[x,y]->(∀t,ρ t x=ρ' t x)∧∀t,ρ t y=ρ' t y:=λ{x y} e=>⟨λt=>h t x uu,λt=>h t y uu⟩;have one:∀{x:Operand},o.op.operands= #[x]->∀t,ρ t x=ρ' t x:=λ{x} e t=>h t x uu;have parts:∀(ps:Array (Nat×Operand)) (τ:Nat×Operand->TypeId),(∀x∈ps.toList.map (·.2),∀t,ρ t x=ρ' t x)->(ps.toList.map λp=>(p.1,ρ (τ p) p.2))=ps.toList.map λp=>(p.1,ρ' (τ p) p.2):=by intro ps τ hp;refine Kb λp hm=> ?_;rw[hp p.2 (dM.2 ⟨p,hm,rfl⟩)]
 have opt:∀{x:Option Operand},(∀y,x=some y->∀t,ρ t y=ρ' t y)->zJ ρ x=zJ ρ' x:=by intro x hx;cases x with|none=>rfl|some y=>simp only[zJ];rw[hx y rfl]
 unfold cy;cases ho:o.op with
 |move x=>dsimp only;rw[one aw]|assign x=>dsimp only;rw[one aw]|pick c x y=>have hh:∀z∈#[c,x,y],∀t,ρ t z=ρ' t z:=λz hz t=>h t z (by rw[ho];exact hz);dsimp only;rw[hh c ag,hh x ag,hh y ag]|alloc t=>rfl|box t x=>dsimp only;rw[one aw]|build t ps=>dsimp only;rw[parts ps (λp=>(fieldAt P t p.1).2) λx hx t=>h t x (by rw[ho];simpa[Op.operands]using hx)]|buildSlice t n ps=>dsimp only;rw[parts ps (λp=>xm P t) λx hx t=>h t x (by rw[ho];simpa[Op.operands]using hx)]|load t x=>dsimp only;rw[one aw]|store t x y=>obtain⟨h1,h2⟩:=two aw;dsimp only;rw[h1,h2]
 |nilCheck x=>dsimp only;rw[one aw]|binOp op t x y t' =>obtain⟨h1,h2⟩:=two aw;dsimp only;rw[h1,h2]
 |unOp op t x=>dsimp only;rw[one aw]|convert s d x=>dsimp only;rw[one aw]|makeFunc fn first cap=>dsimp only;rw[Kb (l:=first.toList) λx hx=>h 0 x (by rw[ho];simp[Op.operands];exact .inl ux),Kb (l:=cap.toList) λx hx=>h 0 x (by rw[ho];simp[Op.operands];exact .inr ux)]
 |slice t x lo hi mx=>cases mx with|some m=>rfl|none=>dsimp only;rw[h t x (by rw[ho];simp[Op.operands]),opt (x:=lo) λy hy t=>h t y (by subst hy;rw[ho];simp[Op.operands]),opt (x:=hi) λy hy t=>h t y (by subst hy;rw[ho];simp[Op.operands])]
 |fieldAddr t x f=>dsimp only;rw[one aw]|field t x f=>dsimp only;rw[one aw]|indexAddr t x y=>obtain⟨h1,h2⟩:=two aw;dsimp only;rw[h1,h2]
 |index t x y=>obtain⟨h1,h2⟩:=two aw;dsimp only;rw[h1,h2]
 |extract x i=>dsimp only;rw[one aw]|call c=>dsimp only;unfold mm;rw[tL (ρ:=ρ) (ρ' :=ρ') (l:=c.args.toList) λt x hx=>h t x (by rw[ho];simp[Op.operands,Call.operands];exact .inr ux)];cases hc:c.callee with|value f=>dsimp only;rw[h 0 f (by rw[ho];simp[Op.operands,Call.operands,hc])]|_=>rfl
 |makeMap t r=>cases r<;>rfl|makeSlice t x y=>obtain⟨h1,h2⟩:=two aw;dsimp only;rw[h1,h2]
 |mapUpdate t m k x=>have hh:∀z∈#[m,k,x],∀t,ρ t z=ρ' t z:=λz hz t=>h t z (by rw[ho];exact hz);dsimp only;rw[hh m ag,hh k ag,hh x ag]|insert t m k x=>have hh:∀z∈#[m,k,x],∀t,ρ t z=ρ' t z:=λz hz t=>h t z (by rw[ho];exact hz);dsimp only;rw[hh m ag,hh k ag,hh x ag]|lookup t x i ok=>obtain⟨h1,h2⟩:=two aw;dsimp only;rw[h1,h2]
 |_=>rfl
def opEx(P:Program)(c:mC)(all:List Oper)(o:Oper)(s:St)(K:Rec->St->Prop):Prop:=guardOf all s o (aC P c o.dst s (λs' =>K ((gb o.dst s (cy P o (c_ P s))).seen s s') s') (cy P o (c_ P s))) (K .nil (s.forget o.dst))
def XI(P:Program)(c:mC)(all:List Oper)(o:Oper)(u u' :St):Prop:=guardOf all u o (∀K:St->Prop,K u' ->aC P c o.dst u K (cy P o (c_ P u))) (u' =u.forget o.dst)
structure yD(P:Program)(c:mC)(all:List Oper)(o:Oper)(s s' :St)(r:Rec):Prop where
 out:∀u,Agr r s u->(∀t∈iW all o,s.env t=u.env t)->∃u',vG s u s' u' o.dst r.wh r.wr∧XI P c all o u u'
 wv:∀l∈r.wh,(l,s.H l,s'.H l)∈r.wv
 wv' :∀x∈r.wv,x.1∈r.wh
def qJ{all:List Oper}{s:St}{o:Oper}{X Y X' Y' :Prop}(h:guardOf all s o X Y)(hx:X->X')(hy:Y->Y'):guardOf all s o X' Y' :=by unfold guardOf at*;split at h;exact hx h;split at h;split at h;split at h;exact Q1 ⟨λe=>hx ((Da h).t e),λe=>hy ((Da h).f e)⟩;exact hy h;exact h.elim;exact h.elim;exact h.elim
def HO{all:List Oper}{s:St}{o:Oper}{X Y:Prop}(h:guardOf all s o X Y):(X∧∀u:St,(∀t∈iW all o,s.env t=u.env t)->∀X' Y' :Prop,X' ->guardOf all u o X' Y')∨(Y∧∀u:St,(∀t∈iW all o,s.env t=u.env t)->∀X' Y' :Prop,Y' ->guardOf all u o X' Y'):=by
 unfold guardOf at h;split at h;rename_i hg;exact .inl ⟨h,λu _ X' Y' hx=>by unfold guardOf;rw[hg];exact hx⟩;rename_i j want hg;split at h;rename_i oj hj;split at h;rename_i t ht;have hmem:t∈iW all o:=by unfold iW Oper.looksAt;refine zh _ ?_;rw[hg];rw[aI]at hj;simp[hj,ht]
 split at h;rename_i b hb;cases hbw:(b==want)with|true=>refine .inl ⟨(Da h).t hbw,λu hu X' Y' hx=> ?_⟩;unfold guardOf;rw[hg];dsimp only;rw[hj];dsimp only;rw[ht];dsimp only;rw[<-hu t hmem,hb];exact Q1 ⟨λ_=>hx,λe=>by rw[hbw]at e;cases e⟩|false=>refine .inr ⟨(Da h).f hbw,λu hu X' Y' hx=> ?_⟩;unfold guardOf;rw[hg];dsimp only;rw[hj];dsimp only;rw[ht];dsimp only;rw[<-hu t hmem,hb];exact Q1 ⟨λe=>by(rw[hbw]at e;cases e),λ_=>hx⟩
 rename_i hb;refine .inr ⟨h,λu hu X' Y' hx=> ?_⟩;unfold guardOf;rw[hg];dsimp only;rw[hj];dsimp only;rw[ht];dsimp only;rw[<-hu t hmem,hb];exact hx;exact h.elim;exact h.elim;exact h.elim
def GU{P:Program}{s u:St}{o:Oper}{all:List Oper}(h:∀t∈iW all o,s.env t=u.env t):∀t x,x∈o.op.operands->c_ P s t x=c_ P u t x:=by intro t x hx;cases x with|tmp n=>refine h n ?_;unfold iW Oper.looksAt;refine Ci _ (List.mem_filterMap.2 ⟨.tmp n,ux,rfl⟩)|_=>rfl
def loc_op{P:Program}{c:mC}{all:List Oper}{o:Oper}{s:St}{K:Rec->St->Prop}(hk:opEx P c all o s K):∃r s',K r s' ∧yD P c all o s s' r:=by rcases HO hk with⟨h,hg⟩|⟨h,hg⟩;obtain⟨s',k1,l1⟩:=Ym h;refine⟨_,s',k1,⟨λu hu he=> ?_,λl hl=>dM.2 ⟨l,hl,rfl⟩,λx hx=>by obtain⟨l,hl,rfl⟩:=dM.1 hx;exact hl⟩⟩;obtain⟨u',p,q⟩:=l1 u ⟨hu.H,hu.R,hu.L⟩;refine⟨u',p,?_⟩;have e:=FY (P:=P) (o:=o) (GU (P:=P) he);refine hg u he _ _ ?_;rw[<-e];exact q;refine⟨_,_,h,⟨λu _ he=>⟨u.forget o.dst,vG.forget s u _ _ _,?_⟩,(λl hl=>by cases hl),(λx hx=>qm)⟩⟩;exact hg u he _ _ rfl
theorem xh{P:Program}{c:mC}{all:List Oper}:∀{l:List Oper} {rs:List Rec} {s:St} {K:List Rec->St->Prop},t_ P c all l rs s K->∃(S:Nat->St) (T:List Rec),S 0=s∧T.length=l.length∧K (T.reverse++rs) (S l.length)∧∀(i:Nat) o r,nth l i=some o->nth T i=some r->yD P c all o (S i) (S (i+1)) r|[],rs,s,K,h=>⟨λ_=>s,[],rfl,rfl,h,λi o r hi=>by simp[nth]at hi⟩|o::l,rs,s,K,h=>by have h' :opEx P c all o s (λr s' =>t_ P c all l (r::rs) s' K):=h;obtain⟨r,s',k1,l1⟩:=loc_op h';obtain⟨S,T,e1,e2,k2,l2⟩:=xh k1;refine⟨λi=>match i with|0=>s|i+1=>S i,r::T,rfl,by simp[e2],by simpa using k2,λi o' r' ho hr=> ?_⟩;cases i with|zero=>simp[nth]at ho hr;subst ho hr;show yD P c all o s (S 0) r;rw[e1];exact l1|succ i=>exact l2 i o' r' (by simpa[nth]using ho) (by simpa[nth]using hr)
def xC(all:List Oper)(D:Nat->Prop):Prop:=∀k o,nth all k=some o->D k->∀e∈o.after,Region.binds .any e=true->D e.on
def Pre(o:Oper)(D:Nat->Prop):Prop:=∀e∈o.after,Region.binds .any e=true->D e.on
theorem iu{l:List Nat}{x:Nat}:iY l x=true↔x∈l:=by
 induction l with
 |nil=>simp[iY]
 |cons y l ih=>
  simp only[iY,uG,bT,ih];constructor
  ·rintro (h|h)
   exact .inl (dt h).symm;exact .inr h
  ·rintro (h|h)
   subst h;exact .inl ag;exact .inr h
def yw(b i:Nat):qI b i=b.testBit i:=by have h:Nat.land (Nat.shiftRight b i) 1=(b>>>i)%2:=Nat.and_one_is_mod _;unfold qI;rw[h,Nat.testBit_eq_decide_div_mod_eq,Nat.shiftRight_eq_div_pow];rcases Nat.mod_two_eq_zero_or_one (b / 2^i)with e|e<;>rw[e]<;>rfl
def EY(a b i:Nat):qI (Nat.lor a b) i=(qI a i||qI b i):=by rw[yw,yw,yw];exact Nat.testBit_or a b i
def Lg{n i:Nat}(h:qI (Nat.pow 2 n) i=true):i=n:=by rw[yw]at h;have:(2^n).testBit i=true:=h;rw[Nat.testBit_two_pow]at this;exact(tf this).symm
def NB(i:Nat):qI 0 i=false:=by rw[yw];exact Nat.zero_testBit i
theorem nQ{all:List Oper}{D:Nat->Prop}(hD:xC all D):∀{l:List Oper} {acc:List Nat} (_:∀k o,nth l k=some o->nth all (acc.length+k)=some o) (_:∀(k:Nat) o b,nth all k=some o->nth acc k=some b->Pre o D->∀i,qI b i=true->D i),∀(k:Nat) o b,nth all k=some o->nth (l.foldl (λacc o=>acc++[o.after.toList.foldl (λm e=>bif Region.binds .any e then Nat.lor m (Nat.lor (Nat.pow 2 e.on) ((nth acc e.on).getD 0))else m) 0]) acc) k=some b->Pre o D->∀i,qI b i=true->D i
 |[],acc,_,h,k,o,b,ho,hb,hp=>h k o b ho hb hp
 |x::l,acc,hl,h,k,o,b,ho,hb,hp=>by
  simp only[ta]at hb;refine nQ hD (l:=l) ?_ ?_ k o b ho hb hp;intro k o hk;have:=hl (k+1) o Ei;simp only[fA,eJ,km];rw[show acc.length+(0+1)+k=acc.length+(k+1) by omega];exact this;intro k o b ho hb hp;by_cases hk:k<acc.length;refine h k o b ho ?_ hp;rw[aI]at hb ⊢;rwa[kR hk]at hb;have hk2:k=acc.length:=(by have:=aH hb;simp at this;omega);subst hk2;have hx:nth all acc.length=some x:=hl 0 x rfl;rw[ho]at hx;cases hx;rw[aI,jc (cu _),lP]at hb;simp at hb;subst hb;have key:∀(es:List Edge) (l0:Nat),(∀e∈es,Region.binds .any e=true->D e.on)->(∀i,qI l0 i=true->D i)->
   ∀i,qI (es.foldl (λm e=>bif Region.binds .any e then Nat.lor m (Nat.lor (Nat.pow 2 e.on) ((nth acc e.on).getD 0))else m) l0) i=true->D i:=by
   intro es;induction es with
   |nil=>intro l0 _ h0;exact h0
   |cons e es ih=>
    intro l0 he h0;simp only[ta];refine ih _ (λe' he' =>he e' (by simp[he'])) ?_;cases hbind:Region.binds .any e with
    |true=>
     have hon:=he e ag hbind;intro i hi;simp only[cond_true]at hi;rw[EY,EY,uG,uG]at hi;rcases hi with e2|e1|e2;exact h0 i e2;have:=Lg e1;subst this;exact hon
     ·cases hn:nth acc e.on with
      |none=>rw[hn,show(Option.none.getD 0:Nat)=0 from rfl,NB]at e2;cases e2
      |some b' =>
       rw[hn]at e2;cases hoe:nth all e.on with
       |none=>
        exfalso;have h1:=aH hn;have h2:=aH ho;have h3:e.on<all.length:=af
        obtain⟨y,hy⟩:=bP h3;rw[hoe]at hy;cases hy
       |some oe=>exact h e.on oe b' hoe hn (λe' he' hb' =>hD e.on oe hoe hon e' he' hb') i e2
    |false=>exact h0
  have:=key x.after.toList 0 (λe he hb=>hp e (by simpa using he) hb) (λi hi=>by rw[NB]at hi;cases hi);exact jI
def Uc{a b:List Nat}:meets a b=true↔∃x,x∈a∧x∈b:=by
 unfold meets;rw[List.any_eq_true];constructor;·rintro ⟨x,h1,h2⟩;exact⟨x,h1,iu.1 h2⟩
 ·rintro ⟨x,h1,h2⟩;exact⟨x,h1,iu.2 h2⟩
def ij{a b:List Nat}(h:meets a b=false){x:Nat}(h1:x∈a)(h2:x∈b):False:=by rw[Uc.2 ⟨x,h1,h2⟩]at h;cases h
structure Th(ops:Array Oper)(T:List Rec):Prop where
 down:∀j o,nth ops.toList j=some o->∀e∈o.after,Region.binds .any e=true->e.on<j
 apart:∀(D:Nat->Prop),xC ops.toList D->∀i j,i<j->∀oi oj ri rj,nth ops.toList i=some oi->nth ops.toList j=some oj->nth T i=some ri->nth T j=some rj->Ac ops.toList oi oj ri rj=true∨(Pre oj D->D i)
def xz(qs:List (Nat×Nat×Nat×Bool))(wv:List (Nat×Option au×Option au)):Prop:=∀q∈qs,∀x∈wv,q.1=x.1->pr x.2.1 q=pr x.2.2 q
structure LO(ops:Array Oper)(T:List Rec):Prop where
 ld:∀(D:Nat->Prop),xC ops.toList D->∀i j,i<j->∀oj ri rj,nth ops.toList j=some oj->nth T i=some ri->nth T j=some rj->(xz ri.ld rj.wv∧xz rj.ld ri.wv)∨(Pre oj D->D i)
theorem zS{q:Nat×Nat×Nat×Bool}:∀{wv:List (Nat×Option au×Option au)} {K:Prop},DD q wv K->K∧∀x∈wv,q.1=x.1->pr x.2.1 q=pr x.2.2 q
 |[],K,h=>⟨h,λx hx=>qm⟩
 |(l,a,b)::r,K,h=>by
  simp only[Ix,Gw]at h;cases hb:Nat.beq q.1 l with
  |true=>rw[hb]at h;obtain⟨h1,h2⟩:=zS h.k;refine⟨h1,λx hx e=> ?_⟩;rcases bT.1 hx with rfl|hx;exact h.h;exact h2 x hx e
  |false=>rw[hb]at h;obtain⟨h1,h2⟩:=zS h;refine⟨h1,λx hx e=> ?_⟩;rcases bT.1 hx with rfl|hx;exfalso;have e' :q.1=l:=e;rw[e',Nat.beq_refl]at hb;cases hb;exact h2 x hx e
theorem zT:∀{qs:List (Nat×Nat×Nat×Bool)} {wv:List (Nat×Option au×Option au)} {K:Prop},Gx qs wv K->K∧xz qs wv|[],wv,K,h=>⟨h,λq hq=>by cases hq⟩|q::qs,wv,K,h=>by obtain⟨h1,h2⟩:=zS h;obtain⟨h3,h4⟩:=zT h1;refine⟨h3,λq' hq=> ?_⟩;rcases bT.1 hq with rfl|hq;exact h2;exact h4 q' hq
theorem z8{bj:Nat}{rj:Rec}:∀{rs:List Rec} {i:Nat} {K:Prop},BV bj rj i rs K->K∧∀k ri,nth rs k=some ri->qI bj (i+k)=true∨(xz ri.ld rj.wv∧xz rj.ld ri.wv)
 |[],i,K,h=>⟨h,λk ri hk=>by simp[nth]at hk⟩
 |r::rs,i,K,h=>by
  simp only[IX,G5]at h;cases hb:qI bj i with
  |true=>rw[hb]at h;obtain⟨h1,h2⟩:=z8 h;refine⟨h1,λk ri hk=> ?_⟩;cases k with|zero=>exact .inl hb|succ k=>rw[show i+(k+1)=i+1+k by omega];exact h2 k ri Ei
  |false=>rw[hb]at h;obtain⟨h1,h2⟩:=zT h;obtain⟨h3,h4⟩:=zT h1;obtain⟨h5,h6⟩:=z8 h3;refine⟨h5,λk ri hk=> ?_⟩;cases k with|zero=>simp[nth]at hk;subst hk;exact .inr ⟨h2,h4⟩|succ k=>rw[show i+(k+1)=i+1+k by omega];exact h6 k ri Ei
theorem IY{all:List Rec}{bs:List Nat}:∀{rs:List Rec} {j:Nat} {K:Prop},QG all bs j rs K->K∧∀k rj,nth rs k=some rj->∃bj,nth bs (j+k)=some bj∧∀i ri,i<j+k->nth all i=some ri->qI bj i=true∨(xz ri.ld rj.wv∧xz rj.ld ri.wv)
 |[],j,K,h=>⟨h,λk ri hk=>by simp[nth]at hk⟩
 |r::rs,j,K,h=>by
  simp only[NY,IZ]at h;split at h;rename_i bj hbj;obtain⟨h1,h2⟩:=z8 h;obtain⟨h3,h4⟩:=IY h1;refine⟨h3,λk rj hk=> ?_⟩;cases k with|zero=>simp[nth]at hk;subst hk;refine⟨bj,hbj,λi ri hi hr=> ?_⟩;have:=h2 i ri (by rw[aI]at hr ⊢;rw[kQ];simp[show i<j by omega,hr]);exact jI|succ k=>rw[show j+(k+1)=j+1+k by omega];exact h4 k rj Ei
  exact h.elim
theorem Ho{ls:List Nat}:∀{rs:List Rec},Tf ls rs=false->∀r∈rs,∀q∈r.ld,q.1∉ls|[],_,r,hr=>by cases hr|x::rs,h,r,hr=>by simp only[Tf,Kf]at h;rcases bT.1 hr with rfl|hr;intro q hq hm;have:=List.any_eq_false.1 h.1 q hq;exact this (iu.2 hm);exact Ho h.2 r hr
def yr{α:Type}{l:List α}{i:Nat}{x:α}(h:nth l i=some x):x∈l:=Pu
def NX{ops:Array Oper}{T:List Rec}{K:Prop}(h:Y9 ops.toList T K)(hw:∀r∈T,∀x∈r.wv,x.1∈r.wh):K∧LO ops T:=by
 unfold Y9 at h;split at h;rename_i hn;refine⟨h,⟨λD hD i j hij oj ri rj ho hi hj=> .inl ⟨λq hq x hx e=> ?_,λq hq x hx e=> ?_⟩⟩⟩;exact absurd (Ev.2 ⟨rj,yr hj,e▸hw rj (yr hj) x hx⟩) (Ho hn ri (yr hi) q hq);exact absurd (Ev.2 ⟨ri,yr hi,e▸hw ri (yr hi) x hx⟩) (Ho hn rj (yr hj) q hq);obtain⟨h1,h2⟩:=IY h;refine⟨h1,⟨λD hD i j hij oj ri rj ho hi hj=> ?_⟩⟩;obtain⟨bj,hb,hr⟩:=h2 j rj hj;rw[eO]at hb hr;rcases hr i ri hij hi with hm|hm;refine .inr λhp=> ?_;exact nQ hD (l:=ops.toList) (acc:=[]) (λk o hk=>Az) (λk o b _ hb=>Ed) j oj bj ho hb hp i hm
 exact .inl hm
theorem CG{q:Nat×Nat×Nat×Bool}:∀{wv:List (Nat×Option au×Option au)} {K:Prop},DD q wv K->K∧∀K',K' ->DD q wv K'
 |[],K,h=>⟨h,λ_ h=>h⟩
 |(l,a,b)::r,K,h=>by
  simp only[Ix,Gw]at h ⊢;cases hb:Nat.beq q.1 l with
  |true=>rw[hb]at h;obtain⟨h1,h2⟩:=CG h.k;exact⟨h1,λK' hk=>⟨h.h,h2 K' hk⟩⟩
  |false=>rw[hb]at h;exact CG h
theorem CH:∀{qs:List (Nat×Nat×Nat×Bool)} {wv:List (Nat×Option au×Option au)} {K:Prop},Gx qs wv K->K∧∀K',K' ->Gx qs wv K' |[],wv,K,h=>⟨h,λ_ h=>h⟩|q::qs,wv,K,h=>by obtain⟨h1,h2⟩:=CG (q:=q) h;obtain⟨h3,h4⟩:=CH h1;exact⟨h3,λK' hk=>h2 _ (h4 K' hk)⟩
theorem CV{bj:Nat}{rj:Rec}:∀{rs:List Rec} {i:Nat} {K:Prop},BV bj rj i rs K->K∧∀K',K' ->BV bj rj i rs K' |[],i,K,h=>⟨h,λ_ h=>h⟩|r::rs,i,K,h=>by simp only[IX,G5]at h ⊢;cases hb:qI bj i with|true=>rw[hb]at h;exact CV h|false=>rw[hb]at h;obtain⟨h1,q1⟩:=CH h;obtain⟨h3,q2⟩:=CH h1;obtain⟨h5,q3⟩:=CV h3;exact⟨h5,λK' hk=>q1 _ (q2 _ (q3 K' hk))⟩
theorem NZ{all:List Rec}{bs:List Nat}:∀{rs:List Rec} {j:Nat} {K:Prop},QG all bs j rs K->K∧∀K',K' ->QG all bs j rs K' |[],j,K,h=>⟨h,λ_ h=>h⟩|r::rs,j,K,h=>by simp only[NY,IZ]at h ⊢;split at h;obtain⟨h1,q1⟩:=CV h;obtain⟨h3,q2⟩:=NZ h1;exact⟨h3,λK' hk=>q1 _ (q2 K' hk)⟩;exact h.elim
def E4{ops:List Oper}{T:List Rec}{K:Prop}(h:Y9 ops T K):K∧∀K',K' ->Y9 ops T K' :=by unfold Y9 at*;split at h;exact⟨h,λ_ h=>h⟩;exact NZ h
theorem DF{ops:Array Oper}{T:List Rec}(h:oI ops.toList T=true):Th ops T:=by
 have h' :∀j,j<ops.toList.length->yz ops.toList j=true∧(match nth ops.toList j,nth T j,nth (jo ops.toList []) j with
  |some oj,some rj,some bj=>(List.range j).all λi=>qI bj i||match nth ops.toList i,nth T i with|some oi,some ri=>Ac ops.toList oi oj ri rj|_,_=>false
  |_,_,_=>false)=true:=by
  intro j hj;have h:=h;unfold oI at h;simp only[jN,uP,bc]at h;obtain⟨h1,h2⟩:=h j hj;refine⟨h1,?_⟩;split;rename_i oj rj bj e1 e2 e3;rw[e1,e2,e3]at h2;dsimp only at h2;exact h2;rename_i hno;split at h2;rename_i oj rj bj e1 e2 e3;exact(hno _ _ _ e1 e2 e3).elim;exact h2
 refine⟨λj o ho e he hbd=> ?_,λD hD i j hij oi oj ri rj h1 h2 h3 h4=> ?_⟩;have h1:=(h' j (aH ho)).1;unfold yz at h1;dsimp only at h1;rw[ho]at h1;simp only[jN]at h1;have:=h1 e (by simpa using he);rw[hbd]at this;simpa[Nat.blt_eq]using this;have hb:=(h' j (aH h2)).2;rw[h2,h4]at hb;split at hb;rename_i oj' rj' bj e1 e2 e3;cases e1;cases e2;simp only[jN,uP]at hb;have hbi:=hb i hij;rw[h1,h3]at hbi;dsimp only at hbi;rw[uG]at hbi;rcases hbi with hbi|hbi;refine .inr λhp=> ?_;exact nQ hD (l:=ops.toList) (acc:=[]) (λk o hk=>Az) (λk o b _ hb=>Ed) j oj bj h2 e3 hp i hbi
 exact .inl hbi;cases hb
section
variable{P:Program}{cx:Cx}{c:mC}{ops:Array Oper}{S:Nat->St}{T:List Rec}
structure Inv(ops:Array Oper)(S:Nat->St)(T:List Rec)(D:Nat->Prop)(u:St):Prop where
 env:∀x m,m<=ops.size->(∀i o,i<m->nth ops.toList i=some o->o.dst=some x->D i)->(∀i o,m<=i->nth ops.toList i=some o->o.dst=some x->¬D i)->u.env x=(S m).env x
 H:∀x m,m<=ops.size->(∀i r,i<m->nth T i=some r->x∈r.wh->D i)->(∀i r,m<=i->nth T i=some r->x∈r.wh->¬D i)->u.H x=(S m).H x
 R:∀x m,m<=ops.size->(∀i r,i<m->nth T i=some r->x∈r.wr->D i)->(∀i r,m<=i->nth T i=some r->x∈r.wr->¬D i)->u.R x=(S m).R x
 L:∀q m,m<=ops.size->(∀i,i<m->i<ops.size->pr ((S (i+1)).H q.1) q≠pr ((S i).H q.1) q->D i)->(∀i,m<=i->i<ops.size->pr ((S (i+1)).H q.1) q≠pr ((S i).H q.1) q->¬D i)->pr (u.H q.1) q=pr ((S m).H q.1) q
theorem BG{α:Type}{n:Nat}{V:Nat->α}{W:Nat->Prop}{D:Nat->Prop}{j:Nat}(hj:j<n){v v' :α}(hinv:∀m,m<=n->(∀i,i<m->W i->D i)->(∀i,m<=i->W i->¬D i)->v=V m)(hkeep:∀i,i<n->¬W i->V (i+1)=V i)(hWn:∀i,W i->i<n)(NI:¬D j)(YI:∀i,i<j->W i->W j->D i)(SN:∀i,j<i->W i->W j->¬D i)(hp:(V (j+1)=V j∧v' =v)∨(V (j+1)=v' ∧W j)):∀m,m<=n->(∀i,i<m->W i->(D i∨i=j))->(∀i,m<=i->W i->¬(D i∨i=j))->v' =V m:=by
 intro m hm h1 h2;by_cases hW:W j;have hjm:j<m:=by rcases ja j m with h|h;exact h;exact absurd (.inr rfl) (h2 j h hW)
 have hconst:∀k,j+1+k<=m->V (j+1+k)=V (j+1):=by
  intro k;induction k with
  |zero=>intro _;rfl
  |succ k ih=>
   intro hk;have hnw:¬W (j+1+k):=by intro hw;rcases h1 (j+1+k) af hw with h|h;exact SN (j+1+k) af hw hW h;omega
   rw[show j+1+(k+1)=(j+1+k)+1 by omega,hkeep (j+1+k) af hnw];exact ih af
 have hVm:V m=V (j+1):=by have:=hconst (m - (j+1)) af;rwa[show j+1+(m - (j+1))=m by omega]at this
 rcases hp with⟨a,b⟩|⟨a,_⟩;rw[hVm,a,b];refine hinv j af (λi hi hw=>YI i hi hw hW) (λi hi hw=> ?_);rcases ja j i with h|h;exact SN i h hw hW;have:i=j:=af;subst this;exact NI;rw[hVm,a];rcases hp with⟨a,b⟩|⟨_,b⟩;rw[b];refine hinv m hm (λi hi hw=> ?_) (λi hi hw hd=>h2 i hi hw (.inl hd));rcases h1 i hi hw with h|h;exact h;subst h;exact absurd hw hW;exact absurd b hW
def K7{α:Type}{n:Nat}{V:Nat->α}{W:Nat->Prop}{D:Nat->Prop}{j:Nat}(hj:j<n){v:α}(hinv:∀m,m<=n->(∀i,i<m->W i->D i)->(∀i,m<=i->W i->¬D i)->v=V m)(NI:¬D j)(YI:∀i,i<j->W i->D i)(SN:∀i,j<i->W i->¬D i):v=V j:=by
 refine hinv j af YI (λi hi hw=> ?_);rcases ja j i with h|h;exact SN i h hw;have:i=j:=af
 subst this;exact NI
end
def FW(ro:Option Nat):Fence:={fn:=λ_=>True,depth:=none,alive:=false,round:=ro}
def Ou{ro:Option Nat}{n:Nat}{P:Program}{f:FuncId}{args:Array Value}{w:World}{R:Ending->World->Prop}:CallsIn (FW ro) n P f args w R↔Calls P f args w R:=by cases ro with|none=>exact callsIn_wide|some l=>exact⟨λh=>(callsIn_wide (n:=n)).1 (CallsIn.outOfRound (F:=Fence.wide) (l:=l) h),λh=>CallsIn.inRound (F:=Fence.wide) l (callsIn_wide.2 h)⟩
def FW_rows{ro:Option Nat}{n:Nat}{P:Program}{row:String}{args:Array Value}{w:World}{R:Value->World->Prop}(h:Rows P row args w R):RowsIn (FW ro) n P row args w R:=by cases ro with|none=>exact λc cs _=>let ⟨v,w',r,s⟩:=h c cs;⟨v,w',r,stepsIn_wide.2 s⟩|some l=>exact λc cs _=>let ⟨v,w',r,s⟩:=h c cs;⟨v,w',r,stepsIn_wide.2 s⟩
def aa8{ro:Option Nat}{n:Nat}{P:Program}{l:Nat}{f:FuncId}{tmps:Array Value}{Hz body:Code}{w:World}{R:Ending->World->Prop}(h:RoundIn Fence.wide n P l f tmps Hz body w R):RoundIn (FW ro) n P l f tmps Hz body w R:=by cases ro with|none=>exact h|some l=>exact h
theorem oq{P:Program}{ro:Option Nat}{n:Nat}{o:Oper}{a:Act}{w:World}{M:Act->World->Prop}{Q:Go.Exit->Act->World->Prop}(hd:∀c,o.op≠.defer c)(h:o.wp P a w M Q):o.wpIn (FW ro) n P a w M Q:=by
 refine⟨λ_ _=>trivial,?_⟩;rw[Oper.semAt_eq _ _ _ hd];unfold Oper.wp at h;generalize (execOp a.eval o).run P w=r at h;cases r with
 |ok x w' =>cases x<;>simp only[Oper.upon,Oper.uponIn]at h ⊢<;>first|exact h|exact⟨λe=>by simp[FW]at e,Ou.2 h⟩|exact⟨λe=>by simp[FW]at e,FW_rows h⟩|exact h.elim
 |halt x w' =>cases x<;>simp only[Oper.upon,Oper.uponIn]at h ⊢<;>exact h
theorem i_.dZ{cx gO :Cx}{g:Gh}{w:World}{t:Tv}{r:Row}(h:∀b,t.vZ b->cx.dZ b->gO.dZ b)(k:i_ cx g w t r):i_ gO g w t r:=by
 refine⟨k.z,λhz hn=> ?_,k.h,λhz hn=> ?_,λhz hn=> ?_⟩;have k:=k.o hz hn;have h:∀b,t.base=some b->cx.dZ b->gO.dZ b:=λb hb=>h b (.inl hb);unfold ji at*;cases hb:t.base with|none=>rw[hb]at k;exact k|some b=>rw[hb]at k;exact⟨k.1,h b hb k.2.1,k.2.2⟩
 obtain⟨o1,b,es,clock,k1,k2,k3⟩:=k.m hz hn;exact⟨o1,b,es,clock,k1,h b (.inl k1) k2,k3⟩;have q:=k.q hz hn;refine⟨λj b hj=> ?_,λb hb=> ?_,q.live⟩;obtain⟨h1,h2,h3⟩:=q.ow j b hj;exact⟨h1,h b (.inr ⟨k.z.trans hz,hn,j,hj⟩) h2,h3⟩;obtain⟨h1,h2,h3⟩:=q.base b hb;exact⟨h1,h b (.inl hb) h2,h3⟩
def NT{g:Gh}{I' :Nat->Nat->Option Value}(h:j_ g.I I'):Ext g {g with I:=I' }:=⟨h,λ_ _ e=>e,λ_ t e=>⟨t,e,.refl t⟩⟩
def Mem.after{cx gO :Cx}{g:Gh}{s:St}{w w' :World}(m:Mem cx g s w){I' :Nat->Nat->Option Value}(hI:j_ g.I I')(hc:Cells I' w')(hkeep:∀b,b<w.heap.size->cx.dZ b->w'.heap[b]? =w.heap[b]?)(hold:∀b o v,I' b o=some v->cx.dZ b->b<w.heap.size->g.I b o=some v)(sQ:∀b,b<w.heap.size->cx.dZ b->gO.dZ b)(ID:∀b o v,I' b o=some v->gO.I0 b o=some v∨gO.dZ b)(hfr:gO.Fr I' w')(hnew:∀b,w'.heap.size<=b->gO.dZ b):Mem gO {g with I:=I' } s w' where
 iw:=hc
 box l d h:=by obtain⟨b,h1,h2,h3⟩:=m.box l d h;exact⟨b,h1,h2.mono (NT hI) (hkeep b h2.lt h3),sQ b h2.lt h3⟩
 gv:=m.gv
 inj:=m.inj
 E5 l b h o:=by obtain⟨d,hd⟩:=m.gv l b h;obtain⟨b',h1,h2,h3⟩:=m.box l d hd;have h1' :g.mu l=some b:=h;rw[h1']at h1;cases h1;show I' b o=none;cases hx:I' b o with|none=>rfl|some v=>rw[<-hold b o v hx h3 h2.lt];exact(m.E5 l b h o).symm▸rfl
 row k r h:=by obtain⟨t,h1,h2,h3,h4,h5⟩:=m.row k r h;refine⟨t,h1,h2,h3,h4,i_.dZ (cx:=cx) (λb hb=>sQ b (h5.vW hb).1) (h5.mono (NT hI) λb hb=>⟨hkeep b (h5.vW hb).1 (h5.vW hb).2.1,(h5.vW hb).2.2,λj=> ?_⟩)⟩;show I' b j=g.I b j;cases hx:I' b j with|some v=>exact(hold b j v hx (h5.vW hb).2.1 (h5.vW hb).1).symm|none=>cases hy:g.I b j with|none=>rfl|some v=>have:=hI b j v hy;rw[hx]at this;cases this
 gD:=m.gD
 kN:=m.kN
 kx:=ID
 frame:=hfr
 new:=hnew
structure Jh(J:YS->(Nat->Prop)->(Nat->Nat->Option Value)->World->Prop)(k:Nat)(N:Nat->Prop)(I:Nat->Nat->Option Value)(w:World)(e:Ending)(w' :World):Prop where
 size:w.heap.size<=w'.heap.size
 keep:∀b,b<w.heap.size->¬N b->w'.heap[b]? =w.heap[b]?
 cells:Cells I w'
 out:∃y,((e= .returned (.bool true)∧y= .run (k+1))∨(e= .returned (.bool false)∧y= .stop))∧J y (λb=>N b∨(w.heap.size<=b∧b<w'.heap.size)) I w'
structure Host(P:Program)(l:Nat)(xs:List (List au)) where
 J:YS->(Nat->Prop)->(Nat->Nat->Option Value)->World->Prop
 I0:Nat->Nat->Option Value
 on:∀y N I w,J y N I w->y≠.off
 Xp:∀y N I w w',J y N I w->Frame w w' (λb=>¬N b)->(∀b o v,I b o=some v->w'.cell? ⟨b,o,none⟩=some v)->J y N I w'
 round:∀k N Ih I w (vs:Array Value) ds,J (.run k) N Ih w->j_ Ih I->nth xs k=some ds->vs.size=ds.length->(∀(i:Nat) v d,vs[i]? =some v->nth ds i=some d->bN I v d)->
  Cells I w->(∀b o v,I b o=some v->I0 b o=some v∨¬N b)->(∀b,w.heap.size<=b->¬N b)->
  ∃fn tmps assign body,(Instr.yield l vs).run P w= .ok (.round l fn tmps assign body) w∧∀n,RoundIn Fence.wide n P l fn tmps assign body w (Jh J k N I w)
def Host.cx{P:Program}{l:Nat}{xs:List (List au)}(h:Host P l xs)(n:Nat)(w0:World)(I0:Nat->Nat->Option Value)(y:YS)(N:Nat->Prop):Cx where
 n:=n
 dZ b:=w0.heap.size<=b∧¬N b
 I0:=I0
 D:=[]
 Fr I w:=(∃Ih,h.J y N Ih w∧j_ Ih I)∧w0.heap.size<=w.heap.size∧∀b,b<w0.heap.size->¬N b->w.heap[b]? =w0.heap[b]?
 st I I' w w' hf hs fr hc _:=by obtain⟨⟨Ih,h1,h2⟩,h3,h4⟩:=hf;refine⟨⟨Ih,h.Xp y N Ih w w' h1 (fr.sub λi _ e=>e.2) (λb o v e=>(hc b o v (hs _ _ _ (h2 _ _ _ e))).1),λb o v e=>hs _ _ _ (h2 _ _ _ e)⟩,en h3 fr.size,λb hb hn=> ?_⟩;exact(fr.block b (jb hb h3) (λe=>by have:=e.1;omega)).trans (h4 b hb hn)
structure aaa(P:Program)(l:Nat)(xs:List (List au))(f:FuncId)(args:List au)(k:Nat)(Q:au->YS->Prop):Prop where
 fn:∃fn,P.funcs[f]? =some fn∧fn.body.isNone=false∧(fn.name== "runtime.NumGoroutine")=false
 go:∀(h:Host P l xs) (N:Nat->Prop) (I:Nat->Nat->Option Value) (w:World) (vs:Array Value),vs.size=args.length->(∀(i:Nat) v d,vs[i]? =some v->nth args i=some d->bN I v d)->
  Cells I w->(∀b o v,I b o=some v->h.I0 b o=some v∨¬N b)->(∀b,w.heap.size<=b->¬N b)->(∃Ih,h.J (.run k) N Ih w∧j_ Ih I)->
  Calls P f vs w λe w' =>match e with
   | .returned v=>∃r y N' I',Q r y∧(∀b,N' b->N b∨(w.heap.size<=b∧b<w'.heap.size))∧(∀b,N b->N' b)∧j_ I I' ∧bG ⟨I',λ_=>none,λ_=>none⟩ v r∧
    Cells I' w' ∧(∀b o v,I' b o=some v->I b o=some v∨(w.heap.size<=b∧¬N' b))∧(∃Ih,h.J y N' Ih w' ∧j_ Ih I')∧
    w.heap.size<=w'.heap.size∧∀b,b<w.heap.size->¬N' b->w'.heap[b]? =w.heap[b]?
   |_=>False
structure IterA(P:Program)(d:au)(xs:List (List au)):Prop where
 out:∃f first cap,d= .gB (.func f) first cap∧(eu.go first&&eu.go cap)=true∧∀l,aaa P l xs f (first++[.HB l]++cap) 0 λ_ y=>y= .run xs.length∨y= .stop
structure vR(P:Program)(c:mC):Prop where
 C:∀f args m r m',c.C f args m r m' ->aj P f args m r m'
 CY:∀f args k outs,c.CY f args k outs->aaa P c.l c.xs f args k λr y=>(r,y)∈outs
 It:∀d xs,c.It d xs->IterA P d xs
structure Mode(P:Program)(c:mC) where
 h:Host P c.l c.xs
 n:Nat
 w0:World
 I0:Nat->Nat->Option Value
 N0:Nat->Prop
structure At{P:Program}{c:mC}(M:Mode P c)(cx:Cx)(y:YS)(N:Nat->Prop):Prop where
 cx:cx=M.h.cx M.n M.w0 M.I0 y N
 I0:∀b o v,M.I0 b o=some v->b<M.w0.heap.size∧(M.h.I0 b o=some v∨¬N b)
 up:∀b,N b->M.N0 b∨M.w0.heap.size<=b
 lo:∀b,M.N0 b->N b
def YOk{P:Program}{c:mC}(M:Option (Mode P c))(cx:Cx):YS->Prop| .off=>M=none|y=>∃m N,M=some m∧At m cx y N
def qo{G:Prop}(h:G:=by simp[dg]):G:=h
structure ka(s s' :St):Prop where
 env:s'.env=s.env
 H:s'.H=s.H
 hn:s'.hn=s.hn
 rn:s'.rn=s.rn
 R:∀k,s'.R k=none↔s.R k=none
 y:s'.y=s.y
def ka.refl(s:St):ka s s:=⟨rfl,rfl,rfl,rfl,λ_=>Iff.rfl,rfl⟩
theorem ka.trans{a b c:St}(h:ka a b)(k:ka b c):ka a c:=⟨k.env.trans h.env,k.H.trans h.H,k.hn.trans h.hn,k.rn.trans h.rn,λx=>(k.R x).trans (h.R x),k.y.trans h.y⟩
theorem l8{s:St}{d:au}{K:St->au->Prop}(hk:ed s d K):ed s d λs' d' =>ka s s' ∧K s' d' :=by
 cases d with
 |ref k n=>simp only[ed]at hk ⊢;cases hr:s.R k with|none=>exact m9|some r=>rw[hr]at hk;dsimp only at hk ⊢;split at hk;exact ak;refine⟨hk.h,⟨rfl,rfl,rfl,rfl,λx=> ?_,rfl⟩,hk.k⟩;simp only[St.freeze];by_cases hx:x=k;subst hx;rw[bw,hr];simp;rw[aP _ _ _ _ hx]
 |sl z es b=>exact⟨ka.refl s,hk⟩|_=>simp only[ed]at hk ⊢;split at hk;rename_i hp;exact⟨ka.refl s,hk⟩;exact ak
def l7{s:St}{d:au}{K K' :St->au->Prop}(hk:ed s d K)(h:∀s d,K s d->K' s d):ed s d K' :=by cases d with|ref k n=>simp only[ed]at hk ⊢;split at hk;split at hk;exact ak;exact⟨hk.h,h _ _ hk.k⟩;exact ak|sl z es b=>exact h _ _ hk|_=>simp only[ed]at hk ⊢;split at hk;exact h _ _ hk;exact ak
theorem rW:∀{ds:List au} {s:St} {K:St->List au->Prop},jy s ds K->jy s ds λs' ds' =>ka s s' ∧K s' ds'
 |[],s,K,hk=>⟨ka.refl s,hk⟩|d::ds,s,K,hk=>by simp only[HM,k_]at hk ⊢;refine l7 (l8 hk) λs1 d1 ⟨k1,h1⟩=> ?_;have h2:=rW h1;exact rU h2 λs2 ds2 ⟨k2,h3⟩=>⟨k1.trans k2,h3⟩
 where rU:∀{ds:List au} {s:St} {K K' :St->List au->Prop},jy s ds K->(∀s d,K s d->K' s d)->jy s ds K' |[],_,_,_,hk,h=>h _ _ hk|d::ds,_,_,_,hk,h=>by rw[k_]at hk ⊢;exact l7 hk λ_ _ h1=>rU h1 λ_ _ h2=>h _ _ h2
def oF{s:St}{d:au}{K K' :St->au->Prop}(hk:nI s d K)(h:∀s d,K s d->K' s d):nI s d K' :=by unfold nI at*;split;rename_i hp;rw[hp]at hk;exact h _ _ hk;rename_i hp;rw[hp]at hk;cases d with|agg cs=>exact rW.rU hk λ_ _ h2=>h _ _ h2|ref k n=>exact l7 (d:= .ref k n) hk h|sl z es b=>exact l7 (d:= .sl z es b) hk h|_=>exact ak
def oG{s:St}{d:au}{K:St->au->Prop}(hk:nI s d K):nI s d λs' d' =>ka s s' ∧K s' d' :=by unfold nI at*;split;rename_i hp;rw[hp]at hk;exact⟨ka.refl s,hk⟩;rename_i hp;rw[hp]at hk;cases d with|agg cs=>exact rW hk|ref k n=>exact l8 (d:= .ref k n) hk|sl z es b=>exact l8 (d:= .sl z es b) hk|_=>exact ak
theorem jT:∀{ds:List au} {s:St} {K K' :St->List au->Prop},lI s ds K->(∀s d,K s d->K' s d)->lI s ds K' |[],_,_,_,hk,h=>h _ _ hk|d::ds,_,_,_,hk,h=>by rw[nG]at hk ⊢;exact oF hk λ_ _ h1=>jT h1 λ_ _ h2=>h _ _ h2
theorem qG:∀{ds:List au} {s:St} {K:St->List au->Prop},lI s ds K->lI s ds λs' ds' =>ka s s' ∧K s' ds' |[],s,K,hk=>⟨ka.refl s,hk⟩|d::ds,s,K,hk=>by simp only[Nk,nG]at hk ⊢;refine oF (oG hk) λs1 d1 ⟨k1,h1⟩=> ?_;exact jT (qG h1) λs2 ds2 ⟨k2,h3⟩=>⟨k1.trans k2,h3⟩
def BL{ls:List Nat}{d:au}{K K' :List Nat->au->Prop}(hk:pq ls d K)(h:∀ls d,K ls d->K' ls d):pq ls d K' :=by obtain⟨ls',d',k1,_,l1⟩:=wQ hk;exact l1 _ (h _ _ k1)
theorem kg:∀{ds:List au} {s:St} {ls ks:List Nat} {K K' :St->List Nat->List Nat->List au->Prop},fH s ls ks ds K->(∀s' ls ks ds,ka s s' ->K s' ls ks ds->K' s' ls ks ds)->fH s ls ks ds K' |[],s,ls,ks,K,K',hk,h=>h _ _ _ _ (ka.refl s) hk|d::ds,s,ls,ks,K,K',hk,h=>by cases d with|ptr l off=>simp only[lJ,ic]at hk ⊢;split at hk;exact kg hk λs' ls' ks' ds' k1 h1=>h _ _ _ _ k1 h1;exact kg hk λs' ls' ks' ds' k1 h1=>h _ _ _ _ k1 h1|tD x=>simp only[ic]at hk ⊢;exact BL hk λsf d1 h1=>kg h1 λs' ls' ks' ds' k1 h1=>h _ _ _ _ k1 h1|_=>simp only[lJ,ic]at hk ⊢;exact oF (oG hk) λs1 d1 ⟨k1,h1⟩=>kg h1 λs' ls' ks' ds' k2 h2=>h _ _ _ _ (k1.trans k2) h2
theorem HN{d:au}{s:St}{ls ks:List Nat}{K K' :St->List Nat->List Nat->au->Prop}(hk:fG s ls ks d K)(h:∀s' ls ks d,ka s s' ->K s' ls ks d->K' s' ls ks d):fG s ls ks d K' :=by
 cases d with
 |ptr l off=>simp only[fG]at hk ⊢;split at hk;exact h _ _ _ _ (ka.refl s) hk;exact h _ _ _ _ (ka.refl s) hk|gB fn first cap=>simp only[fG]at hk ⊢;exact kg hk λs1 sf nJ ds1 k1 h1=>kg h1 λs' ls' ks' ds' k2 h2=>h _ _ _ _ (k1.trans k2) h2
 |tD x=>simp only[fG]at hk ⊢;exact BL hk λsf d1 h1=>h _ _ _ _ (ka.refl s) h1|_=>simp only[fG]at hk ⊢;exact oF (oG hk) λs1 d1 ⟨k1,h1⟩=>h _ _ _ _ k1 h1
def BJ{s:St}{ks:List Nat}{k n:Nat}{K K' :List Nat->au->Prop}(hk:jn s ks k n K)(h:∀ks d,K ks d->K' ks d):jn s ks k n K' :=by unfold jn at*;split at hk;refine⟨hk.h,?_⟩;have h2:=hk.k;split at h2;unfold named at h2 ⊢;split at h2;exact h _ _ h2;exact h _ _ h2;split at h2;exact h2.elim;exact h _ _ h2;exact ak
def yV{s:St}{ks:List Nat}{k n:Nat}{K K' :List Nat->au->Prop}(hk:iy s ks k n K)(h:∀ks d,K ks d->K' ks d):iy s ks k n K' :=by unfold iy at*;split at hk;unfold named at hk ⊢;split at hk;exact h _ _ hk;exact h _ _ hk;exact ak
def BM{s:St}{ks:List Nat}{k:Nat}{K K' :List Nat->au->Prop}(hk:jU s ks k K)(h:∀ks d,K ks d->K' ks d):jU s ks k K' :=by unfold jU at*;split at hk;unfold named at hk ⊢;split at hk;exact h _ _ hk;exact h _ _ hk;exact ak
theorem jg{gg:Bool}:∀{ds:List au} {s:St} {ls ks:List Nat} {K K' :St->List Nat->List Nat->List au->Prop},eY gg s ls ks ds K->(∀s' ls ks ds,ka s s' ->K s' ls ks ds->K' s' ls ks ds)->eY gg s ls ks ds K'
 |[],s,ls,ks,K,K',hk,h=>h _ _ _ _ (ka.refl s) hk
 |d::ds,s,ls,ks,K,K',hk,h=>by
  have other:fG s ls ks d (λs ls ks d=>eY gg s ls ks ds λs ls ks ds=>K s ls ks (d::ds))->
   fG s ls ks d (λs ls ks d=>eY gg s ls ks ds λs ls ks ds=>K' s ls ks (d::ds)):=λh0=>
   HN h0 λs1 sf nJ d1 k1 h1=>jg h1 λs' ls' ks' ds' k2 h2=>h _ _ _ _ (k1.trans k2) h2
  cases d with
  |ref k n=>cases gg with|true=>simp only[lK,ki]at hk ⊢;exact BJ hk λnJ d1 h1=>jg h1 λs' ls' ks' ds' k2 h2=>h _ _ _ _ k2 h2|false=>exact other hk
  |dR k=>simp only[lK,ki]at hk ⊢;exact BM hk λnJ d1 h1=>jg h1 λs' ls' ks' ds' k2 h2=>h _ _ _ _ k2 h2|cQ k n=>simp only[lK,ki]at hk ⊢;exact yV hk λnJ d1 h1=>jg h1 λs' ls' ks' ds' k2 h2=>h _ _ _ _ k2 h2|_=>exact other hk
theorem kh{s:St}:∀{ds:List au} {ks:List Nat} {K K' :List Nat->List au->Prop},gF s ks ds K->(∀ks d,K ks d->K' ks d)->gF s ks ds K'
 |[],ks,K,K',hk,h=>h _ _ hk
 |d::ds,ks,K,K',hk,h=>by
  cases d with
  |ref k n=>simp only[dV,dE]at hk ⊢;exact BJ hk λnJ d1 h1=>kh h1 λsg ds2 h2=>h _ _ h2|dR k=>simp only[dV,dE]at hk ⊢;exact BM hk λnJ d1 h1=>kh h1 λsg ds2 h2=>h _ _ h2|cQ k n=>simp only[dV,dE]at hk ⊢;exact yV hk λnJ d1 h1=>kh h1 λsg ds2 h2=>h _ _ h2
  |_=>
   first
    |(simp only[dV,dE]at hk;done)
    |(simp only[dV,dE]at hk ⊢
      exact kh hk λsg ds2 h2=>h _ _ h2)
def BN{s:St}{ks:List Nat}{d:au}{K K' :List Nat->au->Prop}(hk:kI s ks d K)(h:∀ks d,K ks d->K' ks d):kI s ks d K' :=by
 unfold kI at*;split;rename_i hp;rw[hp]at hk;exact h _ _ hk;rename_i hp;rw[hp]at hk;have one:∀{d:au},(gF s ks [d] λks ds=>match ds with|[d]=>K ks d|_=>False)->gF s ks [d] λks ds=>match ds with|[d]=>K' ks d|_=>False:=λh0=>kh h0 λnJ ds1 h2=>by cases ds1 with|nil=>exact h2|cons x xs=>cases xs with|nil=>exact h _ _ h2|cons y ys=>exact h2
 cases d with|agg cs=>exact kh hk λ_ _ h2=>h _ _ h2|_=>exact one hk
theorem lg{s:St}:∀{ls ks:List Nat} {K K' :List Nat->List au->Prop},gK s ks ls K->(∀ks d,K ks d->K' ks d)->gK s ks ls K' |[],ks,K,K',hk,h=>h _ _ hk|l::ls,ks,K,K',hk,h=>by simp only[mf,lj]at hk ⊢;split at hk;exact BN hk λnJ d1 h1=>lg h1 λsg ds2 h2=>h _ _ h2;exact ak
def Nm(s:St):Prop:=(∀l,s.H l≠none->l∈s.hn)∧∀k,s.R k≠none->k∈s.rn
structure bZ(W:List Nat)(s s' :St):Prop where
 env:∀t,t∉W->s'.env t=s.env t
 H:∀l,s'.H l≠none->s.H l≠none∨l∈W
 R:∀k,s'.R k≠none->s.R k≠none∨k∈di W
 j8:∀l,s.H l≠none->s'.H l≠none
 j7:∀k,s.R k≠none->s'.R k≠none
 nm:Nm s->Nm s'
 y:s.y= .off->s'.y= .off
def qA{W V:List Nat}(h:∀t∈W,t∈V):∀k∈di W,k∈di V:=by intro k hk;unfold di at*;rw[Ev]at*;obtain⟨t,ht,hk⟩:=hk;exact⟨t,h t ht,hk⟩
def bZ.refl(W:List Nat)(s:St):bZ W s s:=⟨λ_ _=>rfl,λ_ h=> .inl h,λ_ h=> .inl h,λ_ h=>h,λ_ h=>h,λh=>h,λh=>h⟩
theorem bZ.trans{W V U:List Nat}{a b c:St}(h:bZ W a b)(k:bZ V b c)(h1:∀t∈W,t∈U)(h2:∀t∈V,t∈U):bZ U a c where
 env t ht:=(k.env t (λe=>ht (h2 t e))).trans (h.env t (λe=>ht (h1 t e)))
 H l hl:=by rcases k.H l hl with e|e;rcases h.H l e with e|e;exact .inl e;exact .inr (h1 l e);exact .inr (h2 l e)
 R l hl:=by rcases k.R l hl with e|e;rcases h.R l e with e|e;exact .inl e;exact .inr (qA h1 l e);exact .inr (qA h2 l e)
 j8 l hl:=k.j8 l (h.j8 l hl)
 j7 l hl:=k.j7 l (h.j7 l hl)
 nm hn:=k.nm (h.nm hn)
 y h0:=k.y (h.y h0)
def bZ.sub{W U:List Nat}{a b:St}(h:bZ W a b)(h1:∀t∈W,t∈U):bZ U a b:=h.trans (bZ.refl U b) h1 (λ_ h=>h)
def bZ.vi{s s' :St}(h:ka s s')(W:List Nat):bZ W s s' where
 env t _:=by rw[h.env]
 H l hl:=by rw[h.H]at hl;exact .inl hl
 R k hk:= .inl λe=>hk ((h.R k).2 e)
 j8 l hl:=by rw[h.H];exact hl
 j7 k hk e:=hk ((h.R k).1 e)
 nm hn:=⟨λl hl=>by rw[h.H]at hl;rw[h.hn];exact hn.1 l hl,λk hk=>by rw[h.rn];exact hn.2 k λe=>hk ((h.R k).2 e)⟩
 y h0:=h.y.trans h0
def bZ.ir{s s' :St}{W:List Nat}(he:s'.env=s.env∨∃t d,t∈W∧s'.env=aY s.env t d)(hH:(s'.H=s.H∧s'.hn=s.hn)∨(∃l d,s.H l≠none∧s'.H=aY s.H l (some d)∧s'.hn=s.hn)∨(∃l d,l∈W∧s'.H=aY s.H l (some d)∧s'.hn=l::s.hn))(hR:(s'.R=s.R∧s'.rn=s.rn)∨(∃l d,s.R l≠none∧s'.R=aY s.R l (some d)∧s'.rn=s.rn)∨(∃l d,l∈di W∧s'.R=aY s.R l (some d)∧s'.rn=l::s.rn))(hy:s'.y=s.y:=by rfl):bZ W s s' :=by
 have sp:∀{α:Type} {H H' :Nat->Option α} {hn hn' :List Nat} {V:List Nat},((H' =H∧hn' =hn)∨(∃l d,H l≠none∧H' =aY H l (some d)∧hn' =hn)∨(∃l d,l∈V∧H' =aY H l (some d)∧hn' =l::hn))->
  (∀l,H' l≠none->H l≠none∨l∈V)∧(∀l,H l≠none->H' l≠none)∧((∀l,H l≠none->l∈hn)->∀l,H' l≠none->l∈hn'):=by
  intro α H H' hn hn' V h;rcases h with⟨rfl,rfl⟩|⟨l,d,h0,rfl,rfl⟩|⟨l,d,h0,rfl,rfl⟩;exact⟨λ_ h=> .inl h,λ_ h=>h,λh=>h⟩;refine⟨λx hx=> ?_,λx hx=> ?_,λh x hx=> ?_⟩;by_cases e:x=l;subst e;exact .inl h0;rw[aP _ _ _ _ e]at hx;exact .inl hx;by_cases e:x=l;subst e;rw[bw];simp;rw[aP _ _ _ _ e];exact hx;by_cases e:x=l;subst e;exact h x h0;rw[aP _ _ _ _ e]at hx;exact h x hx;refine⟨λx hx=> ?_,λx hx=> ?_,λh x hx=> ?_⟩;by_cases e:x=l;subst e;exact .inr h0;rw[aP _ _ _ _ e]at hx;exact .inl hx;by_cases e:x=l;subst e;rw[bw];simp;rw[aP _ _ _ _ e];exact hx;by_cases e:x=l;subst e;simp;rw[aP _ _ _ _ e]at hx;exact ko _ (h x hx)
 obtain⟨a1,a2,a3⟩:=sp hH;obtain⟨b1,b2,b3⟩:=sp hR;refine⟨λt ht=> ?_,a1,b1,a2,b2,λhn=>⟨a3 hn.1,b3 hn.2⟩,λh=>hy.trans h⟩;rcases he with e|⟨u,d,h0,e⟩;rw[e];rw[e,aP _ _ _ _ (by intro x;subst x;exact ht h0)]
theorem bZ.put(s:St)(dst:Option Nat)(d:au):bZ (dg dst) s (s.put dst d):=by cases dst with|none=>exact bZ.refl _ _|some t=>exact bZ.ir (.inr ⟨t,some d,qo,rfl⟩) (.inl ⟨rfl,rfl⟩) (.inl ⟨rfl,rfl⟩)
theorem bZ.forget(s:St)(dst:Option Nat):bZ (dg dst) s (s.forget dst):=by cases dst with|none=>exact bZ.refl _ _|some t=>exact bZ.ir (.inr ⟨t,some (.bR []),qo,rfl⟩) (.inl ⟨rfl,rfl⟩) (.inl ⟨rfl,rfl⟩)
theorem qC{ks:List Nat}{t:Nat}:∀{rs:List Row} {i:Nat} {R:Nat->Option Row} {rn:List Nat} (_:∀k∈ks,R k≠none) (_:i+rs.length<=ks.length+4),(∀k,(dA ks t R rn i rs).1 k≠none->R k≠none∨k∈di [t])∧(∀k,R k≠none->(dA ks t R rn i rs).1 k≠none)∧((∀k,R k≠none->k∈rn)->∀k,(dA ks t R rn i rs).1 k≠none->k∈(dA ks t R rn i rs).2)
 |[],i,R,rn,_,_=>⟨λ_ h=> .inl h,λ_ h=>h,λh=>h⟩
 |r::rs,i,R,rn,hl,hlen=>by
  simp only[eJ]at hlen;simp only[dA];cases hi:nth ks i with
  |some k0=>
   dsimp only;have h0:=hl k0 (dm hi);have hl' :∀k∈ks,aY R k0 (some r) k≠none:=λk hk=>by by_cases e:k=k0;subst e;rw[bw];simp;rw[aP _ _ _ _ e];exact hl k hk
   obtain⟨a1,a2,a3⟩:=qC (t:=t) (rs:=rs) (i:=i+1) (R:=aY R k0 (some r)) (rn:=rn) hl' af;have un:∀k,aY R k0 (some r) k≠none->R k≠none:=λk hk=>by by_cases e:k=k0;subst e;exact h0;rw[aP _ _ _ _ e]at hk;exact hk
   refine⟨λk hk=>(a1 k hk).imp (un k) id,λk hk=>a2 k ?_,λh=>a3 λk hk=>h k (un k hk)⟩;by_cases e:k=k0;subst e;rw[bw];simp;rw[aP _ _ _ _ e];exact hk
  |none=>
   dsimp only;have hge:ks.length<=i:=PE
   have hup:∀k,R k≠none->aY R (5000+10*t+(i - ks.length)) (some r) k≠none:=λk hk=>(by by_cases e:k=5000+10*t+(i - ks.length);subst e;rw[bw];simp;rw[aP _ _ _ _ e];exact hk);obtain⟨a1,a2,a3⟩:=qC (t:=t) (rs:=rs) (i:=i+1) (R:=aY R (5000+10*t+(i - ks.length)) (some r)) (rn:=(5000+10*t+(i - ks.length))::rn) (λk hk=>hup k (hl k hk)) af;refine⟨λk hk=> ?_,λk hk=>a2 k (hup k hk),λh=>a3 λk hk=> ?_⟩;rcases a1 k hk with e|e;by_cases e2:k=5000+10*t+(i - ks.length);refine .inr ?_;unfold di;exact RN;rw[aP _ _ _ _ e2]at e;exact .inl e;exact .inr e
   by_cases e2:k=5000+10*t+(i - ks.length);subst e2;simp;rw[aP _ _ _ _ e2]at hk;exact ko _ (h k hk)
theorem tC{ks:List Nat}{t:Nat}:∀{ls:List Nat} {ds:List au} {H:Nat->Option au} (_:∀l∈ls,H l≠none),(∀l,fD ks t H ls ds l≠none↔H l≠none)
 |[],ds,H,_,l=>by cases ds<;>exact Iff.rfl|x::ls,[],H,_,l=>Iff.rfl
 |x::ls,d::ds,H,h,l=>by
  simp only[fD];have hu:∀l,aY H x (some (back ks t d)) l≠none↔H l≠none:=λl=>by by_cases e:l=x;subst e;rw[bw];simp[h l ag];rw[aP _ _ _ _ e]
  rw[tC (λy hy=>(hu y).2 (h y oT))];exact hu l
def Wt{G:Prop}(h:G:=by rw[<-MU]at hk;obtain⟨i,hi⟩:=hk;obtain⟨r,hr,_⟩:=hlive i k hi;rw[hr];simp):G:=h
def VX{G:Prop}(h:G:=by rw[mH];exact zh _ ht):G:=h
def Eg{G:Prop}(h:G:=by cases o.dst<;>rfl):G:=h
def AA{G:Prop}(h:G:=by simpa using hb):G:=h
def Cd{G:Prop}(h:G:=by obtain⟨d,a1,a2,a3,a4⟩:=hk.out;exact⟨d,a1,a2,a3,put a4⟩):G:=h
def OU{G:Prop}(h:G:=by exact h _ (bZ.ir (.inr ⟨t,_,by simp[dg],rfl⟩) (.inl ⟨rfl,rfl⟩) (.inr (.inr ⟨t,_,by simp[dg,di],rfl,rfl⟩))) rfl hk):G:=h
def OS{G:Prop}(h:G:=by exact h _ (bZ.ir (.inl rfl) (.inl ⟨rfl,rfl⟩) (.inr (.inl ⟨k,_,by rw[hr];simp,rfl,rfl⟩))) rfl hk):G:=h
def Vn{G:Prop}(h:G:=by exact⟨hk.h,h _ (bZ.ir (.inr ⟨t,_,by simp[dg],rfl⟩) (.inl ⟨rfl,rfl⟩) (.inr (.inr ⟨t,_,by simp[dg,di],rfl,rfl⟩))) rfl hk.k⟩):G:=h
def RO{G:Prop}(h:G:=by exact h _ (bZ.ir (.inr ⟨t,_,by simp[dg],rfl⟩) (.inl ⟨rfl,rfl⟩) (.inl ⟨rfl,rfl⟩)) rfl hk):G:=h
def MU{α:Type}{l:List α}{x:α}:(∃i,nth l i=some x)↔x∈l:=by
 constructor;·rintro ⟨i,hi⟩;exact dm hi
 intro h;obtain⟨i,hi⟩:=pR.1 h;exact⟨i,by rw[aI];exact hi⟩
theorem rZ{s:St}:∀{ls ks:List Nat} {K:List Nat->List au->Prop},gK s ks ls K->gK s ks ls λks ds=>(∀l∈ls,s.H l≠none)∧K ks ds
 |[],ks,K,hk=>⟨ag,hk⟩
 |l::ls,ks,K,hk=>by
  simp only[mf,lj]at hk ⊢;split at hk;rename_i d hd;refine BN hk λnJ d1 h1=>lg (rZ h1) λsg ds2 ⟨h2,h3⟩=>⟨?_,h3⟩;intro x hx;rcases bT.1 hx with e|e
  subst e;rw[hd];simp;exact h2 x e;exact ak
theorem qT{P:Program}{c:mC}{dst:Option Nat}{s:St}{K K' :St->Prop}{p:C9}(hk:aC P c dst s K p)(h:∀s',bZ (dg dst) s s' ->s'.y=s.y->K s' ->K' s'):aC P c dst s K' p:=by
 have put:∀{d:au},K (s.put dst d)->K' (s.put dst d):=λ{d} hk=>h _ (bZ.put s dst d) (by cases dst<;>rfl) hk;have setH:∀{l:Nat} {d d' :au},s.H l=some d->K {s with H:=aY s.H l (some d')}->K' {s with H:=aY s.H l (some d')}:=λ{l d d'} hl hk=>h _ (bZ.ir (.inl rfl) (.inr (.inl ⟨l,d',su,rfl,rfl⟩)) (.inl ⟨rfl,rfl⟩)) rfl hk;have two:∀{dst:Option Nat} {q k:Nat} {r rq rq' rk:Row} {env' :Nat->Option au},s.R k=some r->s.R q=some rq->(env' =s.env∨∃t d,t∈dg dst∧env' =aY s.env t d)->
  bZ (dg dst) s {env:=env',H:=s.H,hn:=s.hn,R:=aY (aY s.R q (some rq')) k (some rk),rn:=s.rn,y:=s.y}:=λ{dst q k r rq rq' rk env'} hr hq he=>by
  have k1:bZ (dg dst) s {s with R:=aY s.R q (some rq')}:=bZ.ir (.inl rfl) (.inl ⟨rfl,rfl⟩) (.inr (.inl ⟨q,_,by rw[hq];simp,rfl,rfl⟩));refine k1.trans (V:=dg dst) (bZ.ir he (.inl ⟨rfl,rfl⟩) (.inr (.inl ⟨k,rk,?_,rfl,rfl⟩))) (λ_ h=>h) (λ_ h=>h);show aY s.R q (some rq') k≠none;by_cases e:k=q;rw[e,bw];simp;rw[aP _ _ _ _ e,hr];simp
 cases p with
 |val d=>exact put hk|Bw q d=>exact⟨hk.h,put hk.k⟩|arith k x=>exact⟨put hk.out⟩
 |load a n agg=>
  cases a with
  |ptr l off=>simp only[aC]at hk ⊢;split at hk;split at hk;exact put hk;exact ak;exact ak|jk l off=>simp only[aC]at hk ⊢;split at hk;exact Cd;exact ak
  |l_ d off=>simp only[aC]at hk ⊢;split at hk;exact put hk;exact ak|tD d=>simp only[aC]at hk ⊢;split at hk;exact put hk;exact ak|iE k m i off=>simp only[aC]at hk ⊢;split at hk;obtain⟨d,a1,a2,a3,a4⟩:=hk.out;refine⟨d,a1,a2,a3,?_⟩;split at a4;exact put a4;exact a4.elim;exact ak
  |jS k m i=>simp only[aC]at hk ⊢;split at hk;split at hk;obtain⟨d,a1,a2,a3,a4⟩:=hk.out;refine⟨d,a1,a2,a3,?_⟩;split at a4;exact put a4;exact put a4;exact a4.elim;exact ak;exact ak
  |fT k j i=>simp only[aC]at hk ⊢;split at hk;split at hk;obtain⟨xs,b1,b2⟩:=hk.out;obtain⟨d,a1,a2,a3,a4⟩:=b2.out;refine⟨xs,b1,d,a1,a2,a3,?_⟩;split at a4;exact put a4;exact a4.elim;exact ak;exact ak
  |_=>exact ak
 |store a v n=>
  simp only[aC]at hk ⊢;split at hk;exact ak
  ·cases a with
   |ptr l off=>dsimp only at hk ⊢;split at hk;rename_i hl;split at hk;exact setH hl hk;exact ak;exact ak
   |jk l off=>
    dsimp only at hk ⊢;split at hk;rename_i hl;cases v with|agg _=>exact ak|bR _=>exact ak|_=>exact⟨hk.h,setH hl hk.k⟩
    exact ak
   |iE k m i off=>dsimp only at hk ⊢;refine oF (oG hk) λs1 v1 ⟨k1,h1⟩=> ?_;split at h1;rename_i r hr;split at h1;obtain⟨d,a1,a2,a3,a4⟩:=h1.out;refine⟨d,a1,a2,a3,?_⟩;split at a4;refine h _ ((bZ.vi k1 (dg dst)).trans (bZ.ir (W:=dg dst) (.inl rfl) (.inl ⟨rfl,rfl⟩) (.inr (.inl ⟨k,_,qp,rfl,rfl⟩))) (λ_ h=>h) (λ_ h=>h)) k1.y a4;exact a4.elim;exact h1.elim;exact h1.elim
   |jS k m i=>
    dsimp only at hk ⊢;split at hk
    ·split at hk
     rotate_left
     exact ak;rename_i q n' _ _ r rq hr hq;split at hk
     rotate_left
     exact ak;obtain⟨d,a1,a2,a3,a4⟩:=hk.k.out;refine⟨hk.h,d,a1,a2,a3,?_⟩;split at a4;exact h _ (two (dst:=dst) hr hq (.inl rfl)) rfl a4;exact a4.elim
    ·split at hk
     rotate_left
     exact ak;rename_i r hr;split at hk
     rotate_left
     exact ak;obtain⟨d,a1,a2,a3,a4⟩:=hk.out;refine⟨d,a1,a2,a3,?_⟩;split at a4;exact h _ (bZ.ir (.inl rfl) (.inl ⟨rfl,rfl⟩) (.inr (.inl ⟨k,_,qp,rfl,rfl⟩))) rfl a4;exact a4.elim
    exact ak
   |fT k j i=>
    dsimp only at hk ⊢;split at hk
    rotate_left
    exact ak;rename_i q x r hr _;split at hk
    rotate_left
    exact ak;obtain⟨xs,b1,b2⟩:=hk.out;exact⟨xs,b1,b2.h,h _ (bZ.ir (.inl rfl) (.inl ⟨rfl,rfl⟩) (.inr (.inl ⟨k,_,qp,rfl,rfl⟩))) rfl b2.k⟩
   |_=>exact ak
 |alloc d=>simp only[aC]at hk ⊢;split at hk;rename_i t;split at hk;split at hk;exact h _ (bZ.ir (.inr ⟨t,_,qo,rfl⟩) (.inr (.inr ⟨t,_,qo,rfl,rfl⟩)) (.inl ⟨rfl,rfl⟩)) rfl hk;exact ak;unfold ve at hk ⊢;split at hk;exact RO;split at hk;exact RO;exact ak;exact ak
 |row sz es=>
  simp only[aC]at hk ⊢;split at hk;rename_i t;split at hk;split at hk;exact put hk;exact ak;refine jT (qG hk) λs1 es1 ⟨k1,h1⟩=> ?_;split at h1
  have:=(bZ.vi k1 (dg (some t))).trans (U:=dg (some t)) (bZ.ir (W:=dg (some t)) (s' :={env:=aY s1.env t (some (.ref t es1.length)),H:=s1.H,hn:=s1.hn,R:=aY s1.R t (some ⟨sz,true,es1⟩),rn:=t::s1.rn,y:=s1.y})
   (.inr ⟨t,_,qo,rfl⟩) (.inl ⟨rfl,rfl⟩) (.inr (.inr ⟨t,_,by simp[dg,di],rfl,rfl⟩))) (λ_ h=>h) (λ_ h=>h)
  exact h _ this k1.y h1;exact h1.elim;exact ak
 |idx sz a i=>
  simp only[aC]at hk ⊢;split at hk;exact ak
  ·cases a with
   |sl z es b=>exact Cd
   |ref k n=>dsimp only at hk ⊢;split at hk;split at hk;exact Cd;exact Cd;exact ak
   |cQ k n=>dsimp only at hk ⊢;split at hk;exact Cd;exact ak
   |sub k j n=>dsimp only at hk ⊢;split at hk;obtain⟨xs,b1,b2⟩:=hk.out;exact⟨xs,b1,b2.h,put b2.k⟩;exact ak
   |_=>exact ak
 |X9=>simp only[aC]at hk ⊢;split at hk;rename_i t;split at hk;exact OU;exact ak;exact ak
 |T7 k q n v=>
  simp only[aC]at hk ⊢;split at hk;exact ak;split at hk;exact ak;split at hk;rename_i r hr;split at hk;obtain⟨i,hf,hk⟩:=hk;refine⟨i,hf,?_⟩;cases i with|none=>exact OS|some i=>exact OS
  exact ak;exact ak
 |Yc k q n z ok=>
  simp only[aC]at hk ⊢;split at hk;split at hk;obtain⟨i,hf,hk⟩:=hk;refine⟨i,hf,?_⟩;cases i with|none=>exact put hk|some i=>obtain⟨kd,v,hv,hk⟩:=hk;exact⟨kd,v,hv,put hk⟩
  exact ak;exact ak
 |Ye k q n=>
  simp only[aC]at hk ⊢;split at hk;exact ak;split at hk;rename_i r hr;split at hk;obtain⟨i,hf,hk⟩:=hk;refine⟨i,hf,?_⟩;cases i with|none=>exact h _ (bZ.refl _ _) rfl hk|some i=>exact OS
  exact ak;exact ak
 |X_ k=>simp only[aC]at hk ⊢;split at hk;split at hk;exact put hk;exact ak;exact ak|aidx l off m sz i=>exact⟨hk.h,put hk.k⟩|part cs i=>exact Cd
 |sidx b i=>obtain⟨d,a1,a2,a3⟩:=hk.out;exact⟨d,a1,a2,put a3⟩
 |app sz a b=>
  simp only[aC]at hk ⊢;split at hk;exact ak
  ·split at hk;rename_i _ _ t _;have rd:∀{X X' :List au->Prop},kU s b X->(∀xs,X xs->X' xs)->kU s b X' :=λ{X X'} h0 hx=>by unfold kU at*;cases b with|ref k n=>dsimp only at h0 ⊢;split at h0;exact⟨h0.h,hx _ h0.k⟩;exact h0.elim|sl _ _ _=>exact hx _ h0|str _=>exact hx _ h0|_=>exact h0.elim
   refine rd hk λxs hn=>⟨hn.h,?_⟩;have hk:=hn.k;split at hk;exact OU;exact ak;rename_i k n t _;split at hk;rename_i r hr;have rd:∀{X X' :List au->Prop},kU s b X->(∀xs,X xs->X' xs)->kU s b X' :=λ{X X'} h0 hx=>by unfold kU at*;cases b with|ref k n=>dsimp only at h0 ⊢;split at h0;exact⟨h0.h,hx _ h0.k⟩;exact h0.elim|sl _ _ _=>exact hx _ h0|str _=>exact hx _ h0|_=>exact h0.elim
   refine rd hk λxs hn=>⟨hn.h,h _ (bZ.ir (.inr ⟨t,_,qo,rfl⟩) (.inl ⟨rfl,rfl⟩) (.inr (.inl ⟨k,_,qp,rfl,rfl⟩))) rfl hn.k⟩;exact ak
   ·rename_i k n t _;split at hk
    rotate_left
    exact ak;rename_i q n' _;split at hk
    rotate_left
    exact ak;rename_i r rq hr hq;split at hk
    rotate_left
    exact ak;exact⟨hk.h,h _ (two (dst:=some t) hr hq (.inr ⟨t,_,qo,rfl⟩)) rfl hk.k⟩
   exact ak
 |sub sz a lo hi=>simp only[aC]at hk ⊢;cases a with|str b=>exact⟨hk.h,put hk.k⟩|_=>dsimp only at hk ⊢;split at hk;exact ak;refine oF (oG hk) λs1 v1 ⟨k1,h1⟩=> ?_;cases v1 with|sl z es b=>dsimp only at h1 ⊢;split at h1;exact⟨h1.h,h _ ((bZ.vi k1 (dg dst)).trans (bZ.put s1 dst _) (λ_ h=>h) (λ_ h=>h)) ((show(s1.put dst _).y=s1.y by cases dst<;>rfl).trans k1.y) h1.k⟩;exact h1.elim|_=>exact h1.elim
 |make sz z n m=>simp only[aC]at hk ⊢;split at hk;rename_i t;split at hk;split at hk;exact Vn;exact Vn;exact ak;exact ak|DY es nl ne=>simp only[aC]at hk ⊢;cases nl with|true=>exact put hk|false=>exact⟨hk.h,put hk.k⟩
 |sel b x y=>simp only[aC]at hk ⊢;refine⟨λe=> ?_,λe=> ?_⟩;have:=hk.t e;split at this;exact put this;exact this.elim;have:=hk.f e;split at this;exact put this;exact this.elim|bytes e b=>simp only[aC]at hk ⊢;split at hk;rename_i t;split at hk;exact OU;exact ak;exact ak
 |text a=>
  simp only[aC]at hk ⊢;split at hk;exact ak;have rd:∀{X X' :List au->Prop},kU s a X->(∀xs,X xs->X' xs)->kU s a X' :=λ{X X'} h0 hx=>by unfold kU at*;cases a with|ref k n=>dsimp only at h0 ⊢;split at h0;exact⟨h0.h,hx _ h0.k⟩;exact h0.elim|sl _ _ _=>exact hx _ h0|str _=>exact hx _ h0|_=>exact h0.elim
  refine rd hk λxs hn=> ?_;obtain⟨b,hb,hn⟩:=hn.out;exact⟨b,hb,put hn⟩
 |call f args=>
  simp only[aC]at hk ⊢;split at hk;rename_i t;refine jg hk λs1 ls ks asl k1 h1=> ?_;refine lg (rZ h1) λnJ H1 ⟨hl,h2⟩=> ?_;split at h2;rename_i R hR;obtain⟨hlen,hlive⟩:=pD _ _ hR;obtain⟨r,m',hc,h3⟩:=h2.out;refine⟨r,m',hc,?_⟩;split at h3;rename_i hb;rw[bc,bc,Nat.ble_eq]at hb;obtain⟨b1,b2,b3⟩:=qC (ks:=nJ) (t:=t) (rs:=m'.R) (i:=0) (R:=s1.R) (rn:=s1.rn) (λk hk=>Wt) (by simpa using hb.2.2);have bx:=λl=>tC (ks:=nJ) (t:=t) (ls:=ls) (ds:=m'.H) (H:=s1.H) hl l;have kk:bZ (dg (some t)) s1 {env:=aY s1.env t (some (back nJ t r)),H:=fD nJ t s1.H ls m'.H,hn:=s1.hn,R:=(dA nJ t s1.R s1.rn 0 m'.R).1,rn:=(dA nJ t s1.R s1.rn 0 m'.R).2,y:=s1.y}:=
   {env:=λu hu=>aP _ _ _ _ (by intro e;subst e;exact hu qo)
    H:=λl hl=> .inl ((bx l).1 hl)
    R:=b1
    j8:=λl hl=>(bx l).2 hl
    j7:=b2
    nm:=λhn=>⟨λl hl=>hn.1 l ((bx l).1 hl),b3 hn.2⟩
    y:=λh=>h}
  exact h _ ((bZ.vi k1 (dg (some t))).trans kk (λ_ h=>h) (λ_ h=>h)) k1.y h3;exact h3.elim;exact h2.elim;exact ak
 |yield=>exact ak|yH=>exact ak|bad=>exact ak
def vD{P:Program}{c:mC}{dst:Option Nat}{s:St}{K K' :St->Prop}{KP KP' :Nat->St->Prop}{f:FuncId}{args:List au}(hk:LV P c true dst s K KP (.call f args))(h:∀s',bZ (dg dst) s s' ->s'.y=s.y->K s' ->K' s')(hP:∀q s',bZ (dg dst) s s' ->s'.y=s.y->KP q s' ->KP' q s'):LV P c true dst s K' KP' (.call f args):=by
 simp only[LV]at hk ⊢;split at hk;rename_i t;refine jg hk λs1 ls ks asl k1 h1=> ?_;refine lg (rZ h1) λnJ H1 ⟨hl,h2⟩=> ?_;split at h2;rename_i R hR;obtain⟨hlen,hlive⟩:=pD _ _ hR;obtain⟨r,m',hc,h3⟩:=h2.out;refine⟨r,m',hc,?_⟩;have kk:∀(hb:Nat.ble m'.R.length (nJ.length+4)=true) (e:Nat->Option au) (he:∀u,u∉dg (some t)->e u=s1.env u),bZ (dg (some t)) s {env:=e,H:=fD nJ t s1.H ls m'.H,hn:=s1.hn,R:=(dA nJ t s1.R s1.rn 0 m'.R).1,rn:=(dA nJ t s1.R s1.rn 0 m'.R).2,y:=s1.y}:=λhb e he=>by
  obtain⟨b1,b2,b3⟩:=qC (ks:=nJ) (t:=t) (rs:=m'.R) (i:=0) (R:=s1.R) (rn:=s1.rn) (λk hk=>Wt) AA;have bx:=λl=>tC (ks:=nJ) (t:=t) (ls:=ls) (ds:=m'.H) (H:=s1.H) hl l;exact(bZ.vi k1 (dg (some t))).trans (c:={env:=e,H:=fD nJ t s1.H ls m'.H,hn:=s1.hn,R:=(dA nJ t s1.R s1.rn 0 m'.R).1,rn:=(dA nJ t s1.R s1.rn 0 m'.R).2,y:=s1.y})
   {env:=λu hu=>he u hu
    H:=λl hl=> .inl ((bx l).1 hl)
    R:=b1
    j8:=λl hl=>(bx l).2 hl
    j7:=b2
    nm:=λhn=>⟨λl hl=>hn.1 l ((bx l).1 hl),b3 hn.2⟩
    y:=λh=>h} (λ_ h=>h) (λ_ h=>h)
 split at h3;split at h3;rename_i hb;rw[bc,bc]at hb;exact h _ (kk hb.2.2 _ λu hu=>aP _ _ _ _ (by intro e;subst e;exact hu qo)) k1.y h3;exact h3.elim;split at h3;rename_i hb;rw[bc,bc]at hb;exact hP _ _ (kk hb.2.2 _ λ_ _=>rfl) k1.y h3;exact h3.elim;exact h2.elim;exact ak
theorem B0{α:Type}:∀(l:List α) (K:List α->Prop),build l K=K l|[],K=>rfl|x::l,K=>by simp only[U1,QN];exact B0 l _
def wk{α:Type}{e:Nat->Option α}{t:Nat}{x:Option α}(h:e t=x):aY e t x=e:=by funext u;by_cases hu:u=t;subst hu;rw[bw,h];rw[aP _ _ _ _ hu]
def norm_eq(dst:Option Nat)(p:C9)(s:St)(K:St->Prop):norm dst p s K=K s:=by unfold norm;split;split;split;rename_i he;split;rw[B0,wk he];rw[B0,wk he];rw[wk he];rfl;split;split;rename_i he;split;rw[B0,wk he];rw[wk he];rfl;rfl
theorem BS(P:Program)(c:mC)(all:List Oper):∀(l:List Oper) (rs:List Rec) (s:St) (K:List Rec->St->Prop),xi P c all l rs s K=t_ P c all l rs s K|[],rs,s,K=>rfl|o::l,rs,s,K=>by simp only[NW,t_];congr 1;congr 1;funext s';rw[norm_eq,BS P c all l];rw[BS P c all l]
theorem oJ{P:Program}{c:mC}{all:List Oper}:∀{l:List Oper} {rs:List Rec} {s:St} {K K' :List Rec->St->Prop},t_ P c all l rs s K->(∀rs' s',bZ (l.flatMap λo=>dg o.dst) s s' ->K rs' s' ->K' rs' s')->t_ P c all l rs s K' |[],rs,s,K,K',hk,h=>h _ _ (bZ.refl _ _) hk|o::l,rs,s,K,K',hk,h=>by simp only[t_]at hk ⊢;have up:∀{a b:St},bZ (dg o.dst) s a->bZ (l.flatMap λo=>dg o.dst) a b->bZ ((o::l).flatMap λo=>dg o.dst) s b:=λha hb=>ha.trans hb (λt ht=>by simp[ht]) (λt ht=>VX);exact qJ hk (λh1=>qT h1 λs1 k1 _ h2=>oJ h2 λrs' s' k2 h3=>h _ _ (up k1 k2) h3) (λh1=>oJ h1 λrs' s' k2 h3=>h _ _ (up (bZ.forget s o.dst) k2) h3)
theorem Ls{P:Program}{c:mC}{all:List Oper}:∀{l:List Oper} {rs:List Rec} {s:St} {K:List Rec->St->Prop},t_ P c all l rs s K->t_ P c all l rs s λrs' s' =>s'.y=s.y∧K rs' s' |[],rs,s,K,hk=>⟨rfl,hk⟩|o::l,rs,s,K,hk=>by simp only[t_]at hk ⊢;exact qJ hk (λh1=>qT h1 λs1 _ k1 h2=>oJ (Ls h2) λrs' s' _ h3=>⟨h3.1.trans k1,h3.2⟩) (λh1=>oJ (Ls h1) λrs' s' _ h3=>⟨h3.1.trans Eg,h3.2⟩)
def Kn:=@Classical.byContradiction
def Ke:=@List.getElem?_of_mem
def Wu{G:Prop}(h:G:=by intro i hi;rcases ja i ops.size with hlt|hge;simp[hlt]at hi;simp[hge]at hi):G:=h
def Wq{G:Prop}(h:G:=by rw[Fq,List.count_set (by simpa using hlt)];simp[hl]):G:=h
def Wo{G:Prop}(h:G:=by rw[show i+1+k=i+(k+1) by omega];exact hl (k+1) o (by simpa[nth]using hk)):G:=h
def Wj{G:Prop}(h:G:=by rcases ID b o v e with q|q;exact(hA.I0 b o v q).2;exact .inr q.2):G:=h
def O5{G:Prop}(h:G:=by rw[norm_eq]at h2;exact h2):G:=h
def AH{G:Prop}(h:G:=by rw[hk1]at e;cases e):G:=h
def OK{G:Prop}(h:G:=by exact go e1.2 (.refl _ _) (λe=>e1.1.trans e) (by rw[e1.1];exact hy) e2 e3):G:=h
def Vi{G:Prop}(h:G:=by obtain⟨x,hx⟩:=bP (l:=ops.toList) (i:=i) (by simpa using h);obtain⟨y,hy⟩:=bP (l:=T) (i:=i) (by omega);exact⟨x,y,hx,hy⟩):G:=h
def OH{G:Prop}(h:G:=by unfold F8 at hB;rw[jN]at hB;exact hB o (dm ho)):G:=h
def Al{G:Prop}(h:G:=by rw[aI]at ho;simpa using ho):G:=h
def JD{G:Prop}(h:G:=by unfold opB at hb;rw[bc]at hb;exact hb.1):G:=h
def Ro{G:Prop}(h:G:=by have:=List.count_le_length (a:=true) (l:=listed.toList);simp at this ⊢;simp at hf;omega):G:=h
section
variable{P:Program}{cx:Cx}{c:mC}{ops:Array Oper}{S:Nat->St}{T:List Rec}
def kf{d:Option Nat}{t:Nat}:t∈dg d↔d=some t:=by cases d<;>simp[dg,eq_comm]
def apart_spec{ops:List Oper}{x y:Oper}{rx ry:Rec}(h:Ac ops x y rx ry=true):(∀t,x.dst=some t->¬(t∈iW ops y∨y.dst=some t))∧(∀t,y.dst=some t->¬(t∈iW ops x∨x.dst=some t))∧(∀l,l∈rx.wh->¬(l∈ry.rh∨l∈ry.wh))∧(∀l,l∈ry.wh->¬(l∈rx.rh∨l∈rx.wh))∧(∀l,l∈rx.wr->¬(l∈ry.rr∨l∈ry.wr))∧(∀l,l∈ry.wr->¬(l∈rx.rr∨l∈rx.wr)):=by
 unfold Ac at h;simp only[mG,Kf]at h;obtain⟨⟨⟨⟨⟨⟨⟨⟨a1,a2⟩,a3⟩,b1⟩,b2⟩,b3⟩,c1⟩,c2⟩,c3⟩:=h;refine⟨λt ht=> ?_,λt ht=> ?_,λl hl=> ?_,λl hl=> ?_,λl hl=> ?_,λl hl=> ?_⟩
 ·rintro (h|h)
  exact ij a1 (kf.2 ht) h;exact ij a2 (kf.2 ht) (kf.2 h)
 ·rintro (h|h)
  exact ij a3 (kf.2 ht) h;exact ij a2 (kf.2 h) (kf.2 ht)
 ·rintro (h|h)
  exact ij b1 hl h;exact ij b2 hl h
 ·rintro (h|h)
  exact ij b3 h hl;exact ij b2 h hl
 ·rintro (h|h)
  exact ij c1 hl h;exact ij c2 hl h
 ·rintro (h|h)
  exact ij c3 h hl;exact ij c2 h hl
def F5(hI:Th ops T)(hIL:LO ops T)(hlen:T.length=ops.size)(hL:∀(i:Nat) o r,nth ops.toList i=some o->nth T i=some r->yD P c ops.toList o (S i) (S (i+1)) r){D:Nat->Prop}(hD:xC ops.toList D){u:St}(hu:Inv ops S T D u){j:Nat}{o:Oper}(ho:nth ops.toList j=some o)(NI:¬D j)(hpre:Pre o D):∃u',XI P c ops.toList o u u' ∧Inv ops S T (λi=>D i∨i=j) u' :=by
 have hj:j<ops.size:=by have:=aH ho;exact jI
 obtain⟨r,hr⟩:=bP (l:=T) (i:=j) af;have hn:∀{i:Nat} {x:Oper},nth ops.toList i=some x->i<ops.size:=λh=>O8
 have hnT:∀{i:Nat} {x:Rec},nth T i=some x->i<ops.size:=λh=>by have:=aH h;omega
 have both:∀{i:Nat},i<ops.size->∃x y,nth ops.toList i=some x∧nth T i=some y:=λ{i} h=>Vi
 have ord1:∀{i:Nat} {x:Oper} {y:Rec},i<j->nth ops.toList i=some x->nth T i=some y->¬Ac ops.toList x o y r=true->D i:=λ{i x y} h1 h2 h3 h4=>(hI.apart D hD i j h1 x o y r h2 ho h3 hr).resolve_left h4 hpre;have ord2:∀{i:Nat} {x:Oper} {y:Rec},j<i->nth ops.toList i=some x->nth T i=some y->¬Ac ops.toList o x r y=true->¬D i:=λ{i x y} h1 h2 h3 h4 h5=>NI ((hI.apart D hD j i h1 o x r y ho h2 hr h3).resolve_left h4 (λe he hb=>hD i x h2 h5 e he hb));have stay:∀{i:Nat} {x:Oper} {y:Rec},nth ops.toList i=some x->nth T i=some y->
  (∀t,x.dst≠some t->(S (i+1)).env t=(S i).env t)∧(∀l,l∉y.wh->(S (i+1)).H l=(S i).H l)∧(∀l,l∉y.wr->(S (i+1)).R l=(S i).R l):=λ{i x y} h1 h2=>by
  obtain⟨u',p,_⟩:=(hL i x y h1 h2).out (S i) ⟨λ_ _=>rfl,λ_ _=>rfl,λ_ _=>rfl⟩ (λ_ _=>rfl);refine⟨λt ht=> ?_,λt ht=> ?_,λt ht=> ?_⟩;rcases p.env t with⟨a,_⟩|⟨_,b⟩;exact a;exact absurd b ht;rcases p.H t with⟨a,_⟩|⟨_,b⟩;exact a;exact absurd b ht;rcases p.R t with⟨a,_⟩|⟨_,b⟩;exact a;exact absurd b ht
 have ienv:∀x m,m<=ops.size->(∀i,i<m->(∃y,nth ops.toList i=some y∧y.dst=some x)->D i)->(∀i,m<=i->(∃y,nth ops.toList i=some y∧y.dst=some x)->¬D i)->u.env x=(S m).env x:=λx m hm h1 h2=>hu.env x m hm (λi y hi hy hd=>h1 i hi ⟨y,hy,hd⟩) (λi y hi hy hd=>h2 i hi ⟨y,hy,hd⟩);have iH:∀x m,m<=ops.size->(∀i,i<m->(∃y,nth T i=some y∧x∈y.wh)->D i)->(∀i,m<=i->(∃y,nth T i=some y∧x∈y.wh)->¬D i)->u.H x=(S m).H x:=λx m hm h1 h2=>hu.H x m hm (λi y hi hy hd=>h1 i hi ⟨y,hy,hd⟩) (λi y hi hy hd=>h2 i hi ⟨y,hy,hd⟩);have iR:∀x m,m<=ops.size->(∀i,i<m->(∃y,nth T i=some y∧x∈y.wr)->D i)->(∀i,m<=i->(∃y,nth T i=some y∧x∈y.wr)->¬D i)->u.R x=(S m).R x:=λx m hm h1 h2=>hu.R x m hm (λi y hi hy hd=>h1 i hi ⟨y,hy,hd⟩) (λi y hi hy hd=>h2 i hi ⟨y,hy,hd⟩);have oenv1:∀{x i},(x∈iW ops.toList o∨o.dst=some x)->i<j->(∃y,nth ops.toList i=some y∧y.dst=some x)->D i:=λ{x i} hx hi hy=>by obtain⟨y,hy,hd⟩:=hy;obtain⟨_,z,_,hz⟩:=both (hn hy);exact ord1 hi hy hz (λh=>(apart_spec h).1 x hd hx)
 have oenv2:∀{x i},(x∈iW ops.toList o∨o.dst=some x)->j<i->(∃y,nth ops.toList i=some y∧y.dst=some x)->¬D i:=λ{x i} hx hi hy=>by obtain⟨y,hy,hd⟩:=hy;obtain⟨_,z,_,hz⟩:=both (hn hy);exact ord2 hi hy hz (λh=>(apart_spec h).2.1 x hd hx)
 have oH1:∀{x i},(x∈r.rh∨x∈r.wh)->i<j->(∃y,nth T i=some y∧x∈y.wh)->D i:=λ{x i} hx hi hy=>by obtain⟨y,hy,hd⟩:=hy;obtain⟨z,_,hz,_⟩:=both (hnT hy);exact ord1 hi hz hy (λh=>(apart_spec h).2.2.1 x hd hx)
 have oH2:∀{x i},(x∈r.rh∨x∈r.wh)->j<i->(∃y,nth T i=some y∧x∈y.wh)->¬D i:=λ{x i} hx hi hy=>by obtain⟨y,hy,hd⟩:=hy;obtain⟨z,_,hz,_⟩:=both (hnT hy);exact ord2 hi hz hy (λh=>(apart_spec h).2.2.2.1 x hd hx)
 have oR1:∀{x i},(x∈r.rr∨x∈r.wr)->i<j->(∃y,nth T i=some y∧x∈y.wr)->D i:=λ{x i} hx hi hy=>by obtain⟨y,hy,hd⟩:=hy;obtain⟨z,_,hz,_⟩:=both (hnT hy);exact ord1 hi hz hy (λh=>(apart_spec h).2.2.2.2.1 x hd hx)
 have oR2:∀{x i},(x∈r.rr∨x∈r.wr)->j<i->(∃y,nth T i=some y∧x∈y.wr)->¬D i:=λ{x i} hx hi hy=>by obtain⟨y,hy,hd⟩:=hy;obtain⟨z,_,hz,_⟩:=both (hnT hy);exact ord2 hi hz hy (λh=>(apart_spec h).2.2.2.2.2 x hd hx)
 have turned:∀{q:Nat×Nat×Nat×Bool} {i:Nat} {x:Oper} {y:Rec},nth ops.toList i=some x->nth T i=some y->pr ((S (i+1)).H q.1) q≠pr ((S i).H q.1) q->q.1∈y.wh:=λ{q i x y} h1 h2 h3=>Kn λhno=>h3 (by rw[(stay h1 h2).2.1 _ hno]);have ldj:∀{q:Nat×Nat×Nat×Bool},q∈r.ld->∀{i:Nat} {x:Oper} {y:Rec},nth ops.toList i=some x->nth T i=some y->pr ((S (i+1)).H q.1) q≠pr ((S i).H q.1) q->¬xz r.ld y.wv:=λ{q} hq {i x y} h1 h2 h3 h4=>h3 (h4 q hq _ ((hL i x y h1 h2).wv _ (turned h1 h2 h3)) rfl).symm;have agrL:∀q∈r.ld,pr ((S j).H q.1) q=pr (u.H q.1) q:=λq hq=>by refine(hu.L q j af (λi hi hlt hch=> ?_) (λi hi hlt hch hd=> ?_)).symm;obtain⟨x,y,hx,hy⟩:=both hlt;rcases hIL.ld D hD i j hi o y r ho hy hr with h|h;exact absurd h.2 (ldj hq hx hy hch);exact h hpre;rcases ja j i with h' |h';obtain⟨x,y,hx,hy⟩:=both hlt;rcases hIL.ld D hD j i h' x r y hx hr hy with h|h;exact absurd h.1 (ldj hq hx hy hch);exact NI (h (λe he hb=>hD i x hx hd e he hb));have:i=j:=af;subst this;exact NI hd
 have agr:Agr r (S j) u:=⟨λx hx=>(K7 (V:=λm=>(S m).H x) hj (iH x) NI (λi=>oH1 hx) (λi=>oH2 hx)).symm,λx hx=>(K7 (V:=λm=>(S m).R x) hj (iR x) NI (λi=>oR1 hx) (λi=>oR2 hx)).symm,agrL⟩;have agrE:∀t∈iW ops.toList o,(S j).env t=u.env t:=λx hx=>(K7 (V:=λm=>(S m).env x) hj (ienv x) NI (λi=>oenv1 (.inl hx)) (λi=>oenv2 (.inl hx))).symm;obtain⟨u',p,q⟩:=(hL j o r ho hr).out u agr agrE;refine⟨u',q,⟨λx m hm h1 h2=> ?_,λx m hm h1 h2=> ?_,λx m hm h1 h2=> ?_,λq m hm h1 h2=> ?_⟩⟩
 rotate_left 3
 have inv:=λm hm (a:∀i,i<m->(i<ops.size∧pr ((S (i+1)).H q.1) q≠pr ((S i).H q.1) q)->D i) (b:∀i,m<=i->(i<ops.size∧pr ((S (i+1)).H q.1) q≠pr ((S i).H q.1) q)->¬D i)=>hu.L q m hm (λi hi hlt hch=>a i hi ⟨hlt,hch⟩) (λi hi hlt hch=>b i hi ⟨hlt,hch⟩);have before:q.1∈r.wh->∀i,i<j->(i<ops.size∧pr ((S (i+1)).H q.1) q≠pr ((S i).H q.1) q)->D i:=λhw i hi hc=>by obtain⟨x,y,hx,hy⟩:=both hc.1;exact oH1 (.inr hw) hi ⟨y,hy,turned hx hy hc.2⟩
 have behind:q.1∈r.wh->∀i,j<i->(i<ops.size∧pr ((S (i+1)).H q.1) q≠pr ((S i).H q.1) q)->¬D i:=λhw i hi hc=>by obtain⟨x,y,hx,hy⟩:=both hc.1;exact oH2 (.inr hw) hi ⟨y,hy,turned hx hy hc.2⟩
 refine BG (V:=λm=>pr ((S m).H q.1) q) (W:=λi=>i<ops.size∧pr ((S (i+1)).H q.1) q≠pr ((S i).H q.1) q) hj inv (λi hi hw=> ?_) (λi h=>h.1) NI (λi hi hw Qt=>before (turned ho hr Qt.2) i hi hw) (λi hi hw Qt=>behind (turned ho hr Qt.2) i hi hw) ?_ m hm (λi hi hc=>h1 i hi hc.1 hc.2) (λi hi hc=>h2 i hi hc.1 hc.2);exact Kn λhc=>hw ⟨hi,hc⟩;rcases p.H q.1 with⟨a,b⟩|⟨a,b⟩;exact An;by_cases hw:pr ((S (j+1)).H q.1) q=pr ((S j).H q.1) q;refine .inl ⟨hw,?_⟩;have hv:=K7 (V:=λm=>pr ((S m).H q.1) q) (W:=λi=>i<ops.size∧pr ((S (i+1)).H q.1) q≠pr ((S i).H q.1) q) hj inv NI (before b) (behind b);rw[hv,<-a];exact hw;exact .inr ⟨by rw[a],hj,hw⟩
 refine BG (V:=λm=>(S m).env x) (W:=λi=>∃y,nth ops.toList i=some y∧y.dst=some x) hj (ienv x) (λi hi hw=> ?_) (λi ⟨y,hy,_⟩=>hn hy) NI (λi hi hw Qt=> ?_) (λi hi hw Qt=> ?_) ?_ m hm (λi hi ⟨y,hy,hd⟩=>h1 i y hi hy hd) (λi hi ⟨y,hy,hd⟩=>h2 i y hi hy hd);obtain⟨y,z,hy,hz⟩:=both hi;exact(stay hy hz).1 x (λe=>hw ⟨y,hy,e⟩);obtain⟨y,hy,hd⟩:=Qt;rw[ho]at hy;cases hy;exact oenv1 (.inr hd) hi hw;obtain⟨y,hy,hd⟩:=Qt;rw[ho]at hy;cases hy;exact oenv2 (.inr hd) hi hw;exact(p.env x).imp id λ⟨a,b⟩=>⟨a,o,ho,b⟩;refine BG (V:=λm=>(S m).H x) (W:=λi=>∃y,nth T i=some y∧x∈y.wh) hj (iH x) (λi hi hw=> ?_) (λi ⟨y,hy,_⟩=>hnT hy) NI (λi hi hw Qt=> ?_) (λi hi hw Qt=> ?_) ?_ m hm (λi hi ⟨y,hy,hd⟩=>h1 i y hi hy hd) (λi hi ⟨y,hy,hd⟩=>h2 i y hi hy hd);obtain⟨y,z,hy,hz⟩:=both hi;exact(stay hy hz).2.1 x (λe=>hw ⟨z,hz,e⟩);obtain⟨y,hy,hd⟩:=Qt;rw[hr]at hy;cases hy;exact oH1 (.inr hd) hi hw;obtain⟨y,hy,hd⟩:=Qt;rw[hr]at hy;cases hy;exact oH2 (.inr hd) hi hw;exact(p.H x).imp id λ⟨a,b⟩=>⟨a,r,hr,b⟩;refine BG (V:=λm=>(S m).R x) (W:=λi=>∃y,nth T i=some y∧x∈y.wr) hj (iR x) (λi hi hw=> ?_) (λi ⟨y,hy,_⟩=>hnT hy) NI (λi hi hw Qt=> ?_) (λi hi hw Qt=> ?_) ?_ m hm (λi hi ⟨y,hy,hd⟩=>h1 i y hi hy hd) (λi hi ⟨y,hy,hd⟩=>h2 i y hi hy hd);obtain⟨y,z,hy,hz⟩:=both hi;exact(stay hy hz).2.2 x (λe=>hw ⟨z,hz,e⟩);obtain⟨y,hy,hd⟩:=Qt;rw[hr]at hy;cases hy;exact oR1 (.inr hd) hi hw;obtain⟨y,hy,hd⟩:=Qt;rw[hr]at hy;cases hy;exact oR2 (.inr hd) hi hw;exact(p.R x).imp id λ⟨a,b⟩=>⟨a,r,hr,b⟩
def w7{g:Gh}{u:St}{a:Act}{w:World}(h:Rel cx g u a w){o:Oper}{X Y:Prop}(hg:guardOf ops.toList u o X Y):(Region.wanted o (yielded ops a.tmps)=true∧X)∨(Region.wanted o (yielded ops a.tmps)=false∧Y):=by
 unfold guardOf at hg;unfold Region.wanted;split at hg;rename_i e;rw[e];exact .inl ⟨rfl,hg⟩;rename_i j want e;rw[e];dsimp only;split at hg;rename_i oj hj;split at hg;rename_i t ht;split at hg;rename_i b hb;have hv:=(h.env t _ hb).nO;have hy:yielded ops a.tmps j=some b:=by
  unfold yielded;rw[aI]at hj;have hj' :ops[j]? =some oj:=qw
  rw[hj'];simp only[Option.bind_some,ht];have:a.tmps[t]? =some (.bool b):=by rw[<-hv];rcases ja t a.tmps.size with hlt|hge;simp[hlt];simp[Cl hge,undef]at hv
  rw[this]
 rw[hy];cases hbw:(b==want)with|true=>exact .inl ⟨by simpa using hbw,(Da hg).t hbw⟩|false=>exact .inr ⟨by simpa using hbw,(Da hg).f hbw⟩
 rename_i hb;refine .inr ⟨?_,hg⟩;obtain⟨vs,hv,_⟩:=(h.env t _ hb).EK;have hy:yielded ops a.tmps j=none:=by
  unfold yielded;rw[aI]at hj;have hj' :ops[j]? =some oj:=qw
  rw[hj'];simp only[Option.bind_some,ht];rcases ja t a.tmps.size with hlt|hge;have:a.tmps[t]? =some (.tuple vs):=(by rw[<-hv];simp[hlt]);rw[this];rw[Cl hge]
 rw[hy];rfl;exact hg.elim;exact hg.elim;exact hg.elim
def A9{g:Gh}{o:Oper}{a:Act}{w:World}{K:St->Prop}{Q:Go.Exit->Act->World->Prop}{M:Act->World->Prop}(h:o.wp P a w (fI cx g K) Q)(hm:∀s' g' a' w',K s' ->Ext g g' ->Rel cx g' s' a' w' ->M a' w'):o.wp P a w M Q:=Oper.wp_mono (λ_ _ ⟨s',g',k,e,r⟩=>hm s' g' _ _ k e r) h
def F8(P:Program)(n:Nat)(ops:Array Oper):Bool:=ops.toList.all (opB P n)
def Bo{ρ:TypeId->Operand->Option au}{dst:Option Nat}{s:St}{K:St->Prop}{o:Oper}(hk:aC P c dst s K (cy P o ρ)):∀d,o.op≠.defer d:=λd e=>by simp only[cy,e,aC]at hk
def U0{o:Oper}(hc:lq o=true){ρ:TypeId->Operand->Option au}{dst:Option Nat}{s:St}{K:St->Prop}(hk:aC P c dst s K (cy P o ρ)):∃f asl,cy P o ρ= .call f asl:=by
 unfold lq at hc;split at hc
 rotate_left
 cases hc;rename_i c' ho;split at hc
 rotate_left
 cases hc;rename_i f hce;simp only[cy,ho,mm,hce]at hk ⊢;split at hk;exact ak;rename_i args hargs;split at hk;rename_i UD first cap hf
 split at hk;exact ak;rename_i hy;exact⟨_,_,rfl⟩;exact ak;exact ak
def NV{dst:Option Nat}{s:St}{K:St->Prop}{KP:Nat->St->Prop}{f:FuncId}{asl:List au}(hk:aC P c dst s K (.call f asl)):LV P c true dst s K KP (.call f asl):=by
 simp only[aC]at hk;simp only[LV];split at hk
 rotate_left
 exact ak;refine jg hk λs1 ls ks as' _ h1=>lg h1 λks H h2=> ?_;split at h2
 rotate_left
 exact h2.elim;obtain⟨r,m',h3,h4⟩:=h2.out;refine⟨r,m',h3,?_⟩;split;exact h4;rename_i q hq;rw[Jb hq]at h4;simp at h4
theorem Fw{g:Gh}{s:St}{a:Act}{w:World}(h:Rel cx g s a w){o:Oper}(hB:opB P cx.n o=true)(hC:∀f args m r m',c.C f args m r m' ->aj P f args m r m'){K:St->Prop}{Q:Go.Exit->Act->World->Prop}(hk:aC P c o.dst s K (cy P o (c_ P s))):o.wp P a w (fI cx g K) Q:=by
 cases hc:lq o with
 |false=>exact Mr h hB hc hk
 |true=>
  have hd:i6 cx.n o.dst=true:=by unfold opB at hB;rw[bc]at hB;exact hB.1
  obtain⟨f0,as0,hp⟩:=U0 hc hk;rw[hp]at hk;exact Di h hd hc hC (KP:=λ_ _=>False) hp (NV hk) λ_ _ _ _ h=>h.elim
def F9{ro:Option Nat}{n:Nat}{g:Gh}{u u' :St}{a:Act}{w:World}{o:Oper}{j:Nat}(h:Rel cx g u a w)(hB:F8 P cx.n ops=true)(ho:nth ops.toList j=some o)(hok:vR P c)(ht:XI P c ops.toList o u u'){Q:Go.Exit->Act->World->Prop}{M:Act->World->Prop}(hm:∀g' a' w',Ext g g' ->Rel cx g' u' a' w' ->M a' w'):wpOpIn (FW ro) n P ops Q j M a w:=by
 have ho' :ops[j]? =some o:=Al
 have hb:opB P cx.n o=true:=OH
 unfold wpOpIn;rw[ho'];dsimp only;rcases w7 h ht with⟨h1,h2⟩|⟨h1,h2⟩;rw[aq h1];have hx:=h2 (λs' =>s' =u') rfl;refine oq (Bo hx) (A9 (Fw h hb hok.C hx) λs' g' a' w' e1 e2 e3=> ?_);subst e1;exact hm g' a' w' e2 e3;rw[ah (by rw[h1];simp)];subst h2;exact⟨λ_ _=>trivial,hm g _ w (Ext.refl g) (h.forget o.dst)⟩
def Rel.same{g:Gh}{s s' :St}{a:Act}{w:World}(h:Rel cx g s a w)(e1:s'.env=s.env)(e2:s'.H=s.H)(e3:s'.R=s.R):Rel cx g s' a w:=⟨by rw[e1];exact h.env,h.size,h.defers,h.mem.names e2 e3⟩
theorem MS(hI:Th ops T)(hIL:LO ops T)(hlen:T.length=ops.size)(hB:F8 P cx.n ops=true)(hok:vR P c){ro:Option Nat}{n:Nat}(hL:∀(i:Nat) o r,nth ops.toList i=some o->nth T i=some r->yD P c ops.toList o (S i) (S (i+1)) r){Q:Go.Exit->Act->World->Prop}:∀(fuel:Nat) (listed:Array Bool) (u:St) (g:Gh) (a:Act) (w:World),listed.size=ops.size->ops.size<=fuel+listed.toList.count true->xC ops.toList (λi=>listed.getD i false=true)->Inv ops S T (λi=>listed.getD i false=true) u->Rel cx g u a w->(∀g' a' w',Ext g g' ->Rel cx g' (S ops.size) a' w' ->Q .normal a' w')->wpAnyIn (FW ro) n P .any ops Q fuel listed a w:=by
 have hall:∀{listed:Array Bool},listed.size=ops.size->Region.ready .any ops listed=[]->∀i,i<ops.size->listed.getD i false=true:=by
  intro listed hs hr i;induction i using Nat.strongRecOn with
  |_ i ih=>
   intro hi;cases hl:listed.getD i false with
   |true=>rfl
   |false=>
    exfalso;obtain⟨o,ho⟩:=bP (l:=ops.toList) (i:=i) uy;have:i∈Region.ready .any ops listed:=by rw[mem_ready];refine⟨?_,o,Al,λe he hbd=> ?_⟩;have:i<listed.size:=af;simp[this]at hl ⊢;exact hl;have:=hI.down i o ho e he hbd;exact ih e.on this af
    rw[hr]at this;cases this
 have hend:∀{listed:Array Bool} {u:St} {g:Gh} {a:Act} {w:World},listed.size=ops.size->Region.ready .any ops listed=[]->Inv ops S T (λi=>listed.getD i false=true) u->Rel cx g u a w->
  (∀g' a' w',Ext g g' ->Rel cx g' (S ops.size) a' w' ->Q .normal a' w')->Q .normal a w:=by
  intro listed u g a w hs hr hu h hq;have hd:=hall hs hr;have lt1:∀{i:Nat} {x:Oper},nth ops.toList i=some x->i<ops.size:=λh=>O8
  have lt2:∀{i:Nat} {x:Rec},nth T i=some x->i<ops.size:=λh=>by have:=aH h;omega
  refine hq g a w (Ext.refl g) (h.same ?_ ?_ ?_);funext x;exact(hu.env x ops.size (cu _) (λi o _ ho _=>hd i (lt1 ho)) (λi o hi ho _=>absurd (lt1 ho) af)).symm;funext x;exact(hu.H x ops.size (cu _) (λi o _ ho _=>hd i (lt2 ho)) (λi o hi ho _=>absurd (lt2 ho) af)).symm;funext x;exact(hu.R x ops.size (cu _) (λi o _ ho _=>hd i (lt2 ho)) (λi o hi ho _=>absurd (lt2 ho) af)).symm
 intro fuel;induction fuel with
 |zero=>
  intro listed u g a w hs hf hcl hu h hq;have hr:Region.ready .any ops listed=[]:=by
   cases hr:Region.ready .any ops listed with
   |nil=>rfl
   |cons i rest=>
    exfalso;have hi:i∈Region.ready .any ops listed:=qp
    obtain⟨h0,o,ho,_⟩:=mem_ready.1 hi;have hlt:i<listed.size:=by rw[hs];exact(iN.1 ho).1
    have hfull:listed.toList.count true=listed.toList.length:=Ro;rw[List.count_eq_length]at hfull;have:=hfull listed[i] ag;simp[hlt]at h0;rw[h0]at this;cases this
  exact⟨hr,hend hs hr hu h hq⟩
 |succ fuel ih=>
  intro listed u g a w hs hf hcl hu h hq;refine⟨λhr=>hend hs hr hu h hq,λj hj=> ?_⟩;obtain⟨h0,o,ho,hpre⟩:=mem_ready.1 hj;have ho' :nth ops.toList j=some o:=by rw[aI];simpa using ho
  have hlt:j<listed.size:=by rw[hs];exact(iN.1 ho).1
  have NI:¬listed.getD j false=true:=by simp[hlt]at h0 ⊢;exact h0
  obtain⟨u',q,hu'⟩:=F5 hI hIL hlen hL hcl hu ho' NI hpre;have hset:∀i,(listed.setIfInBounds j true).getD i false=true↔(listed.getD i false=true∨i=j):=by
   intro i;by_cases hij:j=i;subst hij;simp[hlt];rw[getD_set_ne false hij];constructor;exact .inl
   ·rintro (h|h)
    exact h;exact absurd h.symm hij
  refine F9 h hB ho' hok q λg' a' w' e1 e2=> ?_;refine ih _ u' g' a' w' (by simpa using hs) ?_ ?_ ?_ e2 (λg'' a'' w'' e3 e4=>hq g'' a'' w'' (e1.trans e3) e4);have hl:listed[j]=false:=(by simp[hlt]at h0;exact h0);have hne:(listed.setIfInBounds j true).toList.count true=listed.toList.count true+1:=Wq
  omega;intro k ok hok hk e he hb;rw[hset]at hk ⊢;rcases hk with hk|hk;exact .inl (hcl k ok hok hk e he hb);subst hk;rw[ho']at hok;cases hok;exact .inl (hpre e he hb);have:(λi=>(listed.setIfInBounds j true).getD i false=true)=λi=>(listed.getD i false=true∨i=j):=funext λi=>propext (hset i);rw[this];exact hu'
structure Ov(cx gO :Cx)(y:YS):Prop where
 n:gO.n=cx.n
 same:y= .off->gO =cx
def Ov.refl(cx:Cx)(y:YS):Ov cx cx y:=⟨rfl,λ_=>rfl⟩
theorem IP{b:Bool}{dst:Option Nat}{s:St}{K:St->Prop}{KP:Nat->St->Prop}{p:C9}(hk:LV P c b dst s K KP p):(b=true∧∃l args,p= .yield l args)∨(b=true∧∃f args,p= .yH f args)∨(aC P c dst s K p∧b=false∨b=true∧aC P c dst s K p)∨(∃es ne,p= .DY es false ne∧aa4 es λr=>K (s.put dst (.bool (r !=ne))))∨(b=true∧∃f args,p= .call f args):=by
 cases p with
 |DY es nl ne=>cases b with|true=>exact .inr (.inr (.inl (.inr ⟨rfl,hk⟩)))|false=>cases nl with|true=>exact .inr (.inr (.inl (.inl ⟨hk,rfl⟩)))|false=>exact .inr (.inr (.inr (.inl ⟨es,ne,rfl,hk⟩)))
 |_=>cases b<;>first|exact .inr (.inr (.inl (.inl ⟨hk,rfl⟩)))|exact .inl ⟨rfl,_,_,rfl⟩|exact .inr (.inl ⟨rfl,_,_,rfl⟩)|exact .inr (.inr (.inr (.inr ⟨rfl,_,_,rfl⟩)))|exact .inr (.inr (.inl (.inr ⟨rfl,hk⟩)))
theorem Il{o:Oper}{ρ:TypeId->Operand->Option au}{es:List au}{nl ne:Bool}(hp:cy P o ρ= .DY es nl ne):∃op t x y t' z z2 e,o.op= .binOp op t x y t' ∧my P t= .slice e∧ρ t x=some (.sl z es nl)∧ρ t' y=some (.sl z2 [] true)∧((op= .eql∧ne=false)∨(op= .neq∧ne=true)):=by
 cases ho:o.op with
 |binOp op t x y t' =>
  simp only[cy,ho]at hp;cases hx:ρ t x with|none=>rw[hx]at hp;cases hp|some u=>
  cases hy:ρ t' y with|none=>rw[hx,hy]at hp;cases hp|some v=>
  rw[hx,hy]at hp;dsimp only at hp;unfold LL at hp;split at hp
  ·split at hp;cases hp;cases hp
   ·split at hp
    ·unfold EX at hp;repeat' split at hp
     all_goals cases hp
    cases hp
  split at hp<;>cases hp
  ·repeat' split at hp
   all_goals cases hp
  ·repeat' split at hp
   all_goals cases hp
  split at hp;rename_i e hut;split at hp;cases hp;exact⟨_,_,_,_,_,_,_,e,rfl,hut,hx,hy,.inl ⟨rfl,rfl⟩⟩;cases hp;exact⟨_,_,_,_,_,_,_,e,rfl,hut,hx,hy,.inr ⟨rfl,rfl⟩⟩;cases hp;cases hp;cases hp
 |call c=>
  simp only[cy,ho]at hp;unfold mm at hp;repeat' split at hp
  all_goals cases hp
 |convert a b x=>
  simp only[cy,ho]at hp;unfold G9 at hp;repeat' split at hp
  all_goals cases hp
 |_=>
  simp only[cy,ho]at hp;repeat' split at hp
  all_goals first|contradiction|cases hp
def sZ{o:Oper}(hc:lq o=true){ρ:TypeId->Operand->Option au}:∃c' f,o.op= .call c' ∧c'.callee= .value f∧((∃l args,cy P o ρ= .yield l args∧ρ 0 f=some (.HB l)∧i7 (ig ρ c'.args.toList c'.argTypes.toList)=some args)∨(∃UD first cap args,cy P o ρ= .yH UD (first++args++cap)∧ρ 0 f=some (.gB (.func UD) first cap)∧i7 (ig ρ c'.args.toList c'.argTypes.toList)=some args)∨((∀l args,cy P o ρ≠.yield l args)∧∀f args,cy P o ρ≠.yH f args)):=by
 unfold lq at hc;split at hc
 rotate_left
 cases hc;rename_i c' ho;split at hc
 rotate_left
 cases hc;rename_i f hce;refine⟨c',f,ho,hce,?_⟩;simp only[cy,ho,mm,hce];split;exact .inr (.inr ⟨λ_ _ e=>bM,λ_ _ e=>bM⟩);rename_i args hargs;split;rename_i UD first cap hf
 split;exact .inr (.inl ⟨UD,first,cap,args,rfl,hf,hargs⟩);exact .inr (.inr ⟨λ_ _ e=>bM,λ_ _ e=>bM⟩);rename_i l hf;exact .inl ⟨l,args,rfl,hf,hargs⟩;exact .inr (.inr ⟨λ_ _ e=>bM,λ_ _ e=>bM⟩)
def bG.yld_val{g:Gh}{l:Nat}{v:Value}(r:bG g v (.HB l)):v= .func (.yield l) #[] #[]:=Cg
theorem Rel.HH{g:Gh}{s:St}{a:Act}{w:World}(h:Rel cx g s a w){dst:Option Nat}(hd:i6 cx.n dst=true){v:Value}{d:au}(r:bG g v d)(y:YS):Rel cx g (s.HH dst d y) (a.put dst v) w:=by have:=h.put hd r;cases dst with|none=>exact⟨this.env,this.size,this.defers,this.mem.names rfl rfl⟩|some t=>exact⟨this.env,this.size,this.defers,this.mem.names rfl rfl⟩
def At.moved{M:Mode P c}{g:Gh}{s:St}{a:Act}{w w' :World}{y y' :YS}{N N' :Nat->Prop}(hA:At M cx y N)(h:Rel cx g s a w){I' :Nat->Nat->Option Value}(hI:j_ g.I I')(hc:Cells I' w')(hN:∀b,N' b->N b∨(w.heap.size<=b∧b<w'.heap.size))(hN1:∀b,N b->N' b)(hnew:∀b o v,I' b o=some v->g.I b o=some v∨(w.heap.size<=b∧¬N' b))(hJ:∃Ih,M.h.J y' N' Ih w' ∧j_ Ih I')(hsz:w.heap.size<=w'.heap.size)(hkeep:∀b,b<w.heap.size->¬N' b->w'.heap[b]? =w.heap[b]?):At M (M.h.cx M.n M.w0 M.I0 y' N') y' N' ∧Rel (M.h.cx M.n M.w0 M.I0 y' N') {g with I:=I' } s a w' :=by
 obtain⟨rfl,hI0,hup,hlo⟩:=hA;have hf:=h.mem.frame;obtain⟨_,f2,f3⟩:=hf;have nN:∀b,b<w.heap.size->¬N b->¬N' b:=λb h1 h2 h3=>by rcases hN b h3 with h4|h4;exact h2 h4;omega
 refine⟨⟨rfl,λb o v e=>⟨(hI0 b o v e).1,(hI0 b o v e).2.imp id (nN b (jb (hI0 b o v e).1 f2))⟩,λb e=>(by rcases hN b e with k|k;exact hup b k;exact .inr (en f2 k.1)),λb e=>hN1 b (hlo b e)⟩,λt d ht=>(h.env t d ht).mono (NT hI),h.size,h.defers,?_⟩;refine h.mem.after hI hc (λb h1 h2=>hkeep b h1 (nN b h1 h2.2)) (λb o v h1 h2 h3=> ?_) (λb h1 h2=>⟨h2.1,nN b h1 h2.2⟩) (λb o v e=> ?_) ⟨hJ,en f2 hsz,λb h1 h2=> ?_⟩ (λb hb=> ?_);rcases hnew b o v h1 with e|e;exact e;omega;rcases hnew b o v e with e|e;rcases h.mem.kx b o v e with k|k;exact .inl k;exact .inr ⟨k.1,nN b (h.mem.Hu e) k.2⟩;exact .inr ⟨en f2 e.1,e.2⟩;exact(hkeep b (jb h1 f2) h2).trans (f3 b h1 (λe=>h2 (hN1 b e)));refine⟨en f2 (en hsz hb),λe=> ?_⟩;rcases hN b e with k|k;exact(h.mem.new b (en hsz hb)).2 k;omega
theorem zQ{all:Array Oper}(hok:vR P c){M:Option (Mode P c)}{ro:Option Nat}{n:Nat}{Q:Go.Exit->Act->World->Prop}:∀(l:List Oper) (i:Nat) (_:∀k o,nth l k=some o->nth all.toList (i+k)=some o) {cx:Cx} (_:F8 P cx.n all=true) {s:St} {K:Out->St->Prop} {g:Gh} {a:Act} {w:World},eQ P c all.toList l s K->Rel cx g s a w->YOk M cx s.y->(∀e s' gO g' a' w',K e s' ->Ov cx gO s.y->YOk M gO s'.y->Ext g g' ->Rel gO g' s' a' w' ->Q (wt e) a' w')->wpOpsIn (FW ro) n P all Q (List.range' i l.length) a w
 |[],i,_,cx,hB,s,K,g,a,w,hk,h,hy,hq=>by exact hq .normal s cx g a w hk (.refl _ _) hy (Ext.refl g) h
 |o::l,i,hl,cx,hB,s,K,g,a,w,hk,h,hy,hq=>by
  have ho:nth all.toList i=some o:=hl 0 o rfl;have ho' :all[i]? =some o:=Al
  have hb:opB P cx.n o=true:=OH
  have hd:i6 cx.n o.dst=true:=JD
  have hl' :∀k o,nth l k=some o->nth all.toList (i+1+k)=some o:=λk o hk=>Wo
  rw[eJ,J5,wpOpsIn_cons];unfold wpOpIn;rw[ho'];dsimp only;rw[sX]at hk;rcases w7 h hk with⟨h1,h2⟩|⟨h1,h2⟩
  rotate_left
  rw[ah (by rw[h1];simp)];have ey:(s.forget o.dst).y=s.y:=Eg
  exact⟨λ_ _=>trivial,zQ hok l (i+1) hl' hB h2 (h.forget o.dst) (by rw[ey];exact hy) λe s' gO g' a' w' k1 k2 k3 k4 k5=>hq e s' gO g' a' w' k1 (by rw[ey]at k2;exact k2) k3 k4 k5⟩;rw[aq h1];have go:∀{s1:St} {QL:Cx} {g1:Gh} {a1:Act} {w1:World},eQ P c all.toList l s1 K->Ov cx QL s.y->(s.y= .off->s1.y= .off)->YOk M QL s1.y->Ext g g1->Rel QL g1 s1 a1 w1->wpOpsIn (FW ro) n P all Q (List.range' (i+1) l.length) a1 w1:=λ{s1 QL g1 a1 w1} e1 e2 e3 e4 e5 e6=>zQ hok l (i+1) hl' (by rw[e2.n];exact hB) e1 e6 e4 λe s' gO g' a' w' k1 k2 k3 k4 k5=>hq e s' gO g' a' w' k1 ⟨k2.n.trans e2.n,λe=>(k2.same (e3 e)).trans (e2.same e)⟩ k3 (e5.trans k4) k5;rcases IP h2 with⟨hcb,ly,args,hp⟩|⟨hcb,f,args,hp⟩|hp|⟨es,ne,hp,hnil⟩|⟨hcb,f,args,hp⟩
  ·obtain⟨c',f,ho1,hce,(⟨l2,Hn,p1,hf,hargs⟩|⟨UD,first,cap,Hn,p1,_⟩|⟨p1,_⟩)⟩:=sZ (P:=P) hcb (ρ:=c_ P s)
   rotate_left
   rw[hp]at p1;cases p1;exact absurd hp (p1 _ _);rw[hp]at p1;cases p1;rw[hp,hcb]at h2;simp only[LV]at h2;split at h2
   rotate_left
   exact h2.elim;rename_i k hk1;have hev:=lN h hargs;have ef:=(h.get hf).yld_val;obtain⟨s1,args',g1,k2,l1,n1,r1⟩:=pk args h h2;obtain⟨⟨rfl,hds⟩,k3⟩:=k2;rw[hk1]at hy;obtain⟨m,N,rfl,hA⟩:=hy;have hcx:=hA.cx;have hfr:=l1.rel.mem.frame;have DG:=l1.rel.mem.new;have ID:=l1.rel.mem.kx;rw[hcx]at hfr DG ID;obtain⟨⟨Ih,hJ,hs⟩,f2,f3⟩:=hfr;have e1:(c'.args.map a.eval).toList=c'.args.toList.map a.eval:=ag
   obtain⟨fn,tmps,Hz,body,y1,y2⟩:=m.h.round k N Ih g1.I w (c'.args.map a.eval) args' hJ hs hds (by rw[n1];have:=hev.1;simp at this;simp[this])
    (λi v d hv hd' =>by have hi:=aH hd';rw[n1]at hi;obtain⟨x,hx⟩:=bP hi;obtain⟨d2,q1,_,q2⟩:=r1 i x hx;rw[hd']at q1;cases q1;exact q2 v (hev.2 i v x (by rw[<-e1];simpa using hv) hx)) l1.rel.mem.iw
    (λb o v e=>Wj) (λb hb=>(DG b hb).2)
   have hrun:(execOp a.eval o).run P w= .ok (.round c.l fn tmps Hz body) w:=(by rw[<-y1];simp[execOp,ho1,resolve,hce,ef,Deferred.ofValue,invoke]);refine⟨λ_ _=>trivial,?_⟩;rw[Oper.semAt_eq _ _ _ (by intro d e;rw[ho1]at e;cases e),hrun,Oper.uponIn_round];refine⟨λe=>by simp[FW]at e,(aa8 (y2 _)).mono λe w' he=> ?_⟩;obtain⟨z1,z2,z3,y',z4,z5⟩:=he
   have hA1:=(At.moved (y' :=y') (N' :=λb=>N b∨(w.heap.size<=b∧b<w'.heap.size)) hA l1.rel (I' :=g1.I) (λ_ _ _ h=>h) z3 (λb h=>h) (λb h=> .inl h) (λb o v e=> .inl e)
    ⟨g1.I,z5,λ_ _ _ h=>h⟩ z1 (λb hb hn=>z2 b hb λe=>hn (.inl e)))
   have hto:Ov cx (m.h.cx m.n m.w0 m.I0 y' λb=>N b∨(w.heap.size<=b∧b<w'.heap.size)) s.y:=⟨by rw[hcx];rfl,λe=>AH⟩;have hd1:i6 (m.h.cx m.n m.w0 m.I0 y' λb=>N b∨(w.heap.size<=b∧b<w'.heap.size)).n o.dst=true:=by rw[hto.n];exact hd
   rcases z4 with⟨rfl,rfl⟩|⟨rfl,rfl⟩;have:=k3.a;rw[norm_eq]at this;exact go this hto (λe=>AH) (by cases o.dst<;>exact⟨m,_,rfl,hA1.1⟩) l1.ext (hA1.2.HH hd1 (.pure (.bool _)) _);have:=k3.b;rw[norm_eq]at this;exact go this hto (λe=>AH) (by cases o.dst<;>exact⟨m,_,rfl,hA1.1⟩) l1.ext (hA1.2.HH hd1 (.pure (.bool _)) _)
  ·obtain⟨c',f',ho1,hce,(⟨l2,Hn,p1,_⟩|⟨UD,first,cap,Hn,p1,hf,hargs⟩|⟨_,p1⟩)⟩:=sZ (P:=P) hcb (ρ:=c_ P s);rw[hp]at p1;cases p1
   rotate_left
   exact absurd hp (p1 _ _);rw[hp]at p1;injection p1 with p1 p2;subst p1 p2;rw[hp,hcb]at h2;simp only[LV]at h2;split at h2
   rotate_left
   exact h2.elim;rename_i k hk1;have hev:=lN h hargs;obtain⟨vf,vc,ef,hvf,EZ,rf,rc⟩:=(h.get hf).qN;obtain⟨s1,args',g1,k2,l1,n1,r1⟩:=pk _ h h2;obtain⟨Q0,hcall,k3⟩:=k2.out;rw[hk1]at hy;obtain⟨m,N,rfl,hA⟩:=hy;have hcx:=hA.cx;have hfr:=l1.rel.mem.frame;have DG:=l1.rel.mem.new;have ID:=l1.rel.mem.kx;rw[hcx]at hfr DG ID;obtain⟨⟨Ih,hJ,hs⟩,f2,f3⟩:=hfr;obtain⟨⟨fn,hfn,hbody,hname⟩,hgo⟩:=hok.CY _ _ _ _ hcall;have e1:(c'.args.map a.eval).toList=c'.args.toList.map a.eval:=ag
   have lf:(c'.args.map a.eval).size=Hn.length:=(by have:=hev.1;simp at this;simp[this]);have hrun:(execOp a.eval o).run P w= .ok (.enter f (vf++c'.args.map a.eval++vc)) w:=by
    have hb' :fn.body≠none:=Pf;have hn' :fn.name≠ "runtime.NumGoroutine":=Pn
    simp[execOp,ho1,resolve,hce,ef,Deferred.ofValue,invoke,callFunc,hfn,hn',hb']
   refine oq (by intro d e;rw[ho1]at e;cases e) ?_;unfold Oper.wp;rw[hrun,Oper.upon_enter];refine Calls.mono (hgo m.h N g1.I w _ (by rw[n1];simp at lf ⊢;omega) (λi v d hv hd' => ?_) l1.rel.mem.iw (λb o v e=>Wj) (λb hb=>(DG b hb).2) ⟨Ih,hJ,hs⟩) λe w' he=> ?_;have hi:=aH hd';rw[n1]at hi;obtain⟨x,hx⟩:=bP hi;have key:bG g v x:=by
    have hx0:=hx;rw[aI]at hx;by_cases h1:i<first.length
    exact Vq;by_cases h2:i<first.length+Hn.length
    rw[kR aA,jc af]at hx;rw[jr xN,Cn af,hvf]at hv;exact Rp;rw[jc aA]at hx;rw[Cn xN]at hv;refine rc (i - (first++Hn).length) v x ?_ Ej;have:(vf++Array.map a.eval c'.args).size=(first++Hn).length:=xN
    rw[this]at hv;exact hv
   obtain⟨d2,q1,_,q2⟩:=r1 i x hx;rw[hd']at q1;cases q1;exact q2 v key
   ·cases e with
    |panicked ch=>exact he.elim|outgrown=>exact he.elim
    |returned v=>
     obtain⟨r,y',N',I',x1,x2,x3,x4,x5,x6,x7,x8,x9,x10⟩:=he;have hA1:=(At.moved (y' :=y') (N' :=N') hA l1.rel (I' :=I') x4 x6 x2 x3 x7 x8 x9 x10);have hto:Ov cx (m.h.cx m.n m.w0 m.I0 y' N') s.y:=⟨by rw[hcx];rfl,λe=>AH⟩;have hd1:i6 (m.h.cx m.n m.w0 m.I0 y' N').n o.dst=true:=by rw[hto.n];exact hd
     have hx:Ext ⟨I',λ_=>none,λ_=>none⟩ {g1 with I:=I' }:=⟨λ_ _ _ h=>h,λ_ _ h=>jl,λ_ _ h=>jl⟩;have hr1:bG {g1 with I:=I' } v r:=x5.mono hx;have:=Oj k3 x1;rw[norm_eq]at this;refine go this hto (λe=>AH) ?_ (l1.ext.trans (NT x4)) (hA1.2.HH hd1 hr1 y');have hy' :(s1.HH o.dst r y').y=y' :=Eg
     rw[hy'];cases y' with
     |off=>obtain⟨_,hj,_⟩:=x8;exact absurd rfl (m.h.on _ _ _ _ hj)
     |run k=>exact⟨m,_,rfl,hA1.1⟩|stop=>exact⟨m,_,rfl,hA1.1⟩
  replace hp:aC P c o.dst s (λs1=>norm o.dst (cy P o (c_ P s)) s1 λs' =>eQ P c all.toList l s' K) (cy P o (c_ P s)):=hp.elim (·.1) (·.2);have hp' :=qT (K' :=λs1=>s1.y=s.y∧eQ P c all.toList l s1 K) hp λs1 _ h1 h2=>⟨h1,O5⟩;refine oq (Bo hp) (A9 (Fw h hb hok.C hp') λs' g' a' w' e1 e2 e3=> ?_);exact OK;obtain⟨op,t,x,y,t',z,z2,e,n1,n2,n3,n4,n5⟩:=Il hp;have cont:∀{d:au},norm o.dst (cy P o (c_ P s)) (s.put o.dst d) (λs' =>eQ P c all.toList l s' K)->(s.put o.dst d).y=s.y∧eQ P c all.toList l (s.put o.dst d) K:=λ{d} h=>by rw[norm_eq]at h;exact⟨Eg,h⟩
  refine oq (by rw[n1];intro c' e;cases e) (A9 (uV (K:=λs1=>s1.y=s.y∧eQ P c all.toList l s1 K) h hd n1 n2 n3 n4 n5 ⟨(λe=>bM),λ_ e=>cont (hnil.t e),λ_=> .inl (cont hnil.f)⟩) λs' g' a' w' e1 e2 e3=> ?_);exact OK;rw[hp,hcb]at h2;have h3:=vD (K' :=λs1=>s1.y=s.y∧eQ P c all.toList l s1 K) (KP' :=λq s1=>s1.y=s.y∧K (.DX q) s1) h2 (λs1 _ h1 h2=>⟨h1,O5⟩) λq s1 _ h1 h2=>⟨h1,h2⟩;refine oq (by obtain⟨c',f',ho1,_⟩:=sZ (P:=P) hcb (ρ:=c_ P s);intro d e;rw[ho1]at e;cases e) (A9 (Di h hd hcb hok.C hp h3 λq s' g' w' e1 e2 e3=> ?_) λs' g' a' w' e1 e2 e3=> ?_);exact hq (.DX q) s' cx g' a w' e1.2 (.refl _ _) (by rw[e1.1];exact hy) e2 e3;exact OK
def IB{D:Nat->Prop}{s:St}(e1:S 0=s)(both:∀{i:Nat},i<ops.size->∃x y,nth ops.toList i=some x∧nth T i=some y)(stay:∀{i:Nat} {x:Oper} {y:Rec},nth ops.toList i=some x->nth T i=some y->(∀t,x.dst≠some t->(S (i+1)).env t=(S i).env t)∧(∀l,l∉y.wh->(S (i+1)).H l=(S i).H l)∧(∀l,l∉y.wr->(S (i+1)).R l=(S i).R l))(hnone:∀i,D i->False):Inv ops S T D s:=by
 have hfix:∀{α:Type} (V:Nat->α) (W:Nat->Prop),(∀i,i<ops.size->¬W i->V (i+1)=V i)->∀m,m<=ops.size->(∀i,i<m->¬W i)->V m=V 0:=by intro α V W hV m;induction m with|zero=>intro _ _;rfl|succ m ih=>intro hm hw;rw[hV m af (hw m af)];exact ih af (λi hi=>hw i af)
 refine⟨λx m hm h1 h2=> ?_,λx m hm h1 h2=> ?_,λx m hm h1 h2=> ?_,λq m hm h1 h2=> ?_⟩
 rotate_left 3
 have:=hfix (λm=>pr ((S m).H q.1) q) (λi=>i<ops.size∧pr ((S (i+1)).H q.1) q≠pr ((S i).H q.1) q) (λi hi hw=>Kn λhc=>hw ⟨hi,hc⟩) m hm (λi hi hc=>hnone i (h1 i hi hc.1 hc.2));rw[this,e1];have:=hfix (λm=>(S m).env x) (λi=>∃y,nth ops.toList i=some y∧y.dst=some x) (λi hi hw=>by obtain⟨y,z,hy,hz⟩:=both hi;exact(stay hy hz).1 x (λe=>hw ⟨y,hy,e⟩)) m hm (λi hi ⟨y,hy,hd⟩=>hnone i (h1 i y hi hy hd));rw[this,e1];have:=hfix (λm=>(S m).H x) (λi=>∃y,nth T i=some y∧x∈y.wh) (λi hi hw=>by obtain⟨y,z,hy,hz⟩:=both hi;exact(stay hy hz).2.1 x (λe=>hw ⟨z,hz,e⟩)) m hm (λi hi ⟨y,hy,hd⟩=>hnone i (h1 i y hi hy hd));rw[this,e1];have:=hfix (λm=>(S m).R x) (λi=>∃y,nth T i=some y∧x∈y.wr) (λi hi hw=>by obtain⟨y,z,hy,hz⟩:=both hi;exact(stay hy hz).2.2 x (λe=>hw ⟨z,hz,e⟩)) m hm (λi hi ⟨y,hy,hd⟩=>hnone i (h1 i y hi hy hd));rw[this,e1]
theorem KH(hm:P.follows .mixedOrders=true)(hB:F8 P cx.n ops=true)(hok:vR P c){M:Option (Mode P c)}{ro:Option Nat}{n:Nat}{id:Nat}{d:Bool}{s:St}{K:Out->St->Prop}{g:Gh}{a:Act}{w:World}{Q:Go.Exit->Act->World->Prop}(hk:match d with|true=>t_ P c ops.toList ops.toList [] s λrs s' =>OC (oI ops.toList rs.reverse) (Y9 ops.toList rs.reverse (K .normal s'))|false=>eQ P c ops.toList ops.toList s K)(h:Rel cx g s a w)(hy:YOk M cx s.y)(hq:∀e s' gO g' a' w',K e s' ->Ov cx gO s.y->YOk M gO s'.y->Ext g g' ->Rel gO g' s' a' w' ->Q (wt e) a' w'):(Code.region id ops d).wpIn (FW ro) n P Q a w:=by
 cases d with
 |false=>refine wpIn_region ?_;have:=zQ (ro:=ro) (n:=n) hok ops.toList 0 (λk o hk=>Az) hB hk h hy hq;rw[List.range_eq_range'];exact jI
 |true=>
  refine wpIn_region_any hm ?_;dsimp only at hk;replace hk:=oJ (K' :=λrs s' =>OC (oI ops.toList rs.reverse) (Y9 ops.toList rs.reverse (K .normal s' ∧s'.y=s.y))) (Ls hk) λrs s' _ k2=>⟨k2.2.h,(E4 k2.2.k).2 _ ⟨(E4 k2.2.k).1,k2.1⟩⟩;obtain⟨S,T,e1,e2,k1,l1⟩:=xh hk;rw[jM,List.reverse_reverse]at k1;have hI:=DF k1.h;have hw:∀r∈T,∀x∈r.wv,x.1∈r.wh:=λr hr=>by obtain⟨i,hi⟩:=Ke hr;rw[<-aI]at hi;have hlt:=aH hi;obtain⟨o,ho⟩:=bP (l:=ops.toList) (i:=i) af;exact(l1 i o r ho hi).wv'
  obtain⟨k2,hIL⟩:=NX k1.k hw;have hlen:T.length=ops.size:=by simpa using e2
  have hnone:∀i,(Array.replicate ops.size false).getD i false=true->False:=Wu
  have both:∀{i:Nat},i<ops.size->∃x y,nth ops.toList i=some x∧nth T i=some y:=λ{i} h=>Vi
  refine MS hI hIL hlen hB hok l1 ops.size (Array.replicate ops.size false) s g a _ ag af (λk o _ hk=>(hnone k hk).elim) ?_ ⟨h.env,h.size,h.defers,h.mem.drew _⟩ (λg' a' w' x1 x2=>hq .normal (S ops.size) cx g' a' w' (by have:=k2.1;exact jI) (.refl _ _) (by have:=k2.2;simp at this;rw[this];exact hy) x1 x2);have stay:∀{i:Nat} {x:Oper} {y:Rec},nth ops.toList i=some x->nth T i=some y->
   (∀t,x.dst≠some t->(S (i+1)).env t=(S i).env t)∧(∀l,l∉y.wh->(S (i+1)).H l=(S i).H l)∧(∀l,l∉y.wr->(S (i+1)).R l=(S i).R l):=λ{i x y} h1 h2=>by
   obtain⟨u',p,_⟩:=(l1 i x y h1 h2).out (S i) ⟨λ_ _=>rfl,λ_ _=>rfl,λ_ _=>rfl⟩ (λ_ _=>rfl);refine⟨λt ht=> ?_,λt ht=> ?_,λt ht=> ?_⟩;rcases p.env t with⟨a,_⟩|⟨_,b⟩;exact a;exact absurd b ht;rcases p.H t with⟨a,_⟩|⟨_,b⟩;exact a;exact absurd b ht;rcases p.R t with⟨a,_⟩|⟨_,b⟩;exact a;exact absurd b ht
  exact IB e1 both stay hnone
end
def VU{G:Prop}(h:G:=by have:some d=some (.sl 1 xs false):=hfl;cases this;rfl):G:=h
def JZ{G:Prop}(h:G:=by simpa[setAt,nth]using hz):G:=h
def AK{G:Prop}(h:G:=by rw[c3];exact xF):G:=h
def Au{G:Prop}(h:G:=by rw[hd];simp):G:=h
def sr{G:Prop}(h:G:=by rw[ht];simp):G:=h
def RW{G:Prop}(h:G:=by exact .gB (λi d hd=>let ⟨v,hv⟩:=Hi hf hd;ihf i v d hv hd) (λi d hd=>let ⟨v,hv⟩:=Hi hc hd;ihc i v d hv hd)):G:=h
def D'{G:Prop}(h:G:=by exact k0.trans kk (λ_ h=>h) (λ_ h=>h)):G:=h
def RF{G:Prop}(h:G:=by exact((bZ.vi lk U).trans k0 (λ_ h=>h) (λ_ h=>h)).trans kk (λ_ h=>h) (λ_ h=>h)):G:=h
def i_.based{cx:Cx}{g:Gh}{w:World}{t:Tv}{r:Row}(k:i_ cx g w t r){b:Nat}(hb:t.vZ b):cx.dZ b∧∀l,g.mu l≠some b:=(k.vW hb).2
inductive sd(h r:Nat->Prop):au->Prop where
 |any:sd h r .any
 |bool (b:Bool):sd h r (.bool b)
 |int (k:IntKind) (n:Int):sd h r (.int k n)
 |str (l:List UInt8):sd h r (.str l)
 |sl (sz:Nat) (es:List au) (b:Bool):sd h r (.sl sz es b)
 |l_ (d:au) (off:Nat):sd h r (.l_ d off)
 |HB (l:Nat):sd h r (.HB l)
 |jw:sd h r .jw
 |mQ:sd h r .mQ
 |jx:sd h r .jx
 |mP:sd h r .mP
 |ref {k n:Nat} (hk:r k):sd h r (.ref k n)
 |ptr {l off:Nat} (hl:h l):sd h r (.ptr l off)
 |jk {l off:Nat} (hl:h l):sd h r (.jk l off)
 |iE {k n off:Nat} {i:Int} (hk:r k):sd h r (.iE k n i off)
 |dR {k:Nat} (hk:r k):sd h r (.dR k)
 |me (k v:au):sd h r (.me k v)
 |md:sd h r .md
 |agg {ds:List au} (hr:∀(i:Nat) d,nth ds i=some d->sd h r d):sd h r (.agg ds)
 |bR {ds:List au} (hr:∀(i:Nat) d,nth ds i=some d->sd h r d):sd h r (.bR ds)
 |gB {fn:Fn} {df dc:List au} (rf:∀(i:Nat) d,nth df i=some d->sd h r d) (rc:∀(i:Nat) d,nth dc i=some d->sd h r d):sd h r (.gB fn df dc)
 |tD {d:au} (hd:sd h r d):sd h r (.tD d)
 |cQ {k n:Nat} (hk:r k):sd h r (.cQ k n)
 |jS {k n:Nat} {i:Int} (hk:r k):sd h r (.jS k n i)
 |sub {k j n:Nat} (hk:r k):sd h r (.sub k j n)
 |fT {k j:Nat} {i:Int} (hk:r k):sd h r (.fT k j i)
 |lit {q n:Nat} (hk:r q):sd h r (.lit q n)
 |own (es:List au):sd h r (.own es)
 |shr (es:List au):sd h r (.shr es)
def Hi{vs:Array Value}{ds:List au}(hl:vs.size=ds.length){i:Nat}{d:au}(hd:nth ds i=some d):∃v,vs[i]? =some v:=by have h1:=aH hd;exact⟨vs[i]' af,by simp[show i<vs.size by omega]⟩
def bN.nms{I:Nat->Nat->Option Value}{v:Value}{d:au}(x:bN I v d)(h r:Nat->Prop):sd h r d:=by induction x with|any v hv=>exact .any|bool b=>exact .bool b|int k n=>exact .int k n|str l=>exact .str l|slnil sz b=>exact .sl _ _ _|TA a cap sz=>exact .sl _ _ _|sl b o cap sz es f hc hs hi _ ih=>exact .sl _ _ _|agg vs ds hl h1 _ ih=>exact .agg λi d hd=>let ⟨v,hv⟩:=Hi hl hd;ih i v d hv hd|l_ b o off d f hi h1 _ ih=>exact .l_ _ _|gB hf hc _ _ ihf ihc=>exact RW|HB l=>exact .HB l|jw=>exact .jw|mQ=>exact .mQ|jx=>exact .jx|mP=>exact .mP
theorem bG.nms{g:Gh}{v:Value}{d:au}(x:bG g v d):sd (λl=>g.mu l≠none) (λk=>g.tv k≠none) d:=by induction x with|pure r=>exact r.nms _ _|ref t ht hn hv h1=>exact .ref sr|ptr hb=>exact .ptr (by rw[hb];simp)|jk hb=>exact .jk (by rw[hb];simp)|iE t ht hn hi hb hp=>exact .iE sr|dR t ht hz hb=>exact .dR sr|agg hl h1 _ ih=>exact .agg λi d hd=>let ⟨v,hv⟩:=Hi hl hd;ih i v d hv hd|bR hl _ ih=>exact .bR λi d hd=>let ⟨v,hv⟩:=Hi hl hd;ih i v d hv hd|gB hf hc _ _ ihf ihc=>exact RW|tD v hi h1 _ ih=>exact .tD ih|cQ t ht hz hn hv h1=>exact .cQ sr|jS t ht hz hn hi hb=>exact .jS sr|sub t ht hz h1 hb=>exact .sub sr|fT t ht hz hi hb=>exact .fT sr|lit v hi h1 _ ih=>cases ih with|ref hk=>exact .lit hk
theorem bG.restrict{g g' :Gh}{h r:Nat->Prop}{v:Value}{d:au}(x:bG g v d)(n:sd h r d)(hI:g'.I=g.I)(hm:∀l b,h l->g.mu l=some b->g'.mu l=some b)(ht:∀k t,r k->g.tv k=some t->g'.tv k=some t):bG g' v d:=by
 induction x with
 |pure x=>exact .pure (by rw[hI];exact x)|ref t e hn hv h1=>cases n with|ref hk=>exact .ref t (ht _ _ hk e) hn hv h1
 |ptr hb=>cases n with|ptr hl=>exact .ptr (hm _ _ hl hb)
 |jk hb=>cases n with|jk hl=>exact .jk (hm _ _ hl hb)
 |iE t e hn hi hb hp=>cases n with|iE hk=>exact .iE t (ht _ _ hk e) hn hi hb hp
 |dR t e hz hb=>cases n with|dR hk=>exact .dR t (ht _ _ hk e) hz hb
 |agg hl h1 _ ih=>cases n with|agg hr=>exact .agg hl h1 λi v d hv hd=>ih i v d hv hd (hr i d hd)
 |bR hl _ ih=>cases n with|bR hr=>exact .bR hl λi v d hv hd=>ih i v d hv hd (hr i d hd)
 |gB hf hc _ _ ihf ihc=>cases n with|gB rf rc=>exact .gB hf hc (λi v d hv hd=>ihf i v d hv hd (rf i d hd)) (λi v d hv hd=>ihc i v d hv hd (rc i d hd))
 |tD v hi h1 _ ih=>cases n with|tD hn=>exact .tD v (by rw[hI];exact hi) h1 (ih hn)
 |cQ t e hz hn hv h1=>cases n with|cQ hk=>exact .cQ t (ht _ _ hk e) hz hn hv h1
 |jS t e hz hn hi hb=>cases n with|jS hk=>exact .jS t (ht _ _ hk e) hz hn hi hb
 |sub t e hz h1 hb=>cases n with|sub hk=>exact .sub t (ht _ _ hk e) hz h1 hb
 |fT t e hz hi hb=>cases n with|fT hk=>exact .fT t (ht _ _ hk e) hz hi hb
 |lit v hi h1 _ ih=>cases n with|lit hk=>exact .lit v (by rw[hI];exact hi) h1 (ih (.ref hk))
def gS{l:List Nat}{x:Nat}(h:(!iY l x)=true):x∉l:=by intro hx;rw[iu.2 hx]at h;cases h
theorem Bb{W V:List Nat}:∀{ds:List au},yM.go W V ds=true->∀(i:Nat) d,nth ds i=some d->sd (λl=>l∉W) (λk=>k∉V) d
 |[],_,i,d,hd=>qy
 |x::ds,h,i,d,hd=>by
  have two:∀{b:Bool},(b&&yM.go W V ds)=true->b=true∧yM.go W V ds=true:=λh=>by rwa[bc]at h
  cases i with
  |zero=>simp[nth]at hd;subst hd;cases x with|ptr l off=>exact .ptr (gS (two h).1)|jk l off=>exact .jk (gS (two h).1)|ref k n=>exact .ref (gS (two h).1)|iE k n i off=>exact .iE (gS (two h).1)|dR k=>exact .dR (gS (two h).1)|cQ k n=>exact .cQ (gS (two h).1)|jS _ _ _=>cases h|sub _ _ _=>cases h|fT _ _ _=>cases h|lit _ _=>cases h|own es=>exact .own es|shr es=>exact .shr es|me k v=>exact .me k v|md=>exact .md|gB _ _ _=>cases h|tD _=>cases h|bR _=>cases h|agg _=>cases h|any=>exact .any|bool b=>exact .bool b|int k n=>exact .int k n|str l=>exact .str l|sl _ _ _=>exact .sl _ _ _|l_ _ _=>exact .l_ _ _|HB l=>exact .HB l|jw=>exact .jw|mQ=>exact .mQ|jx=>exact .jx|mP=>exact .mP
  |succ i=>
   have hg:yM.go W V ds=true:=by cases x with|ptr l off=>exact(two h).2|jk l off=>exact(two h).2|ref k n=>exact(two h).2|iE k n i off=>exact(two h).2|dR k=>exact(two h).2|cQ k n=>exact(two h).2|jS _ _ _=>cases h|sub _ _ _=>cases h|fT _ _ _=>cases h|lit _ _=>cases h|gB _ _ _=>cases h|tD _=>cases h|bR _=>cases h|agg _=>cases h|_=>exact h
   exact Bb hg i d (by simpa[nth]using hd)
def Ma{W V:List Nat}{d:au}(h:yM W V d=true):sd (λl=>l∉W) (λk=>k∉V) d:=by cases d with|ptr l off=>exact .ptr (gS h)|jk l off=>exact .jk (gS h)|ref k n=>exact .ref (gS h)|iE k n i off=>exact .iE (gS h)|dR k=>exact .dR (gS h)|cQ k n=>exact .cQ (gS h)|jS k n i=>exact .jS (gS h)|sub k j n=>exact .sub (gS h)|fT k j i=>exact .fT (gS h)|lit q n=>exact .lit (gS h)|own es=>exact .own es|shr es=>exact .shr es|me k v=>exact .me k v|md=>exact .md|gB fn df dc=>have h2:(yM.go W V df&&yM.go W V dc)=true:=h;rw[bc]at h2;exact .gB (Bb h2.1) (Bb h2.2)|tD _=>cases h|agg cs=>exact .agg (Bb h)|bR cs=>exact .bR (Bb h)|any=>exact .any|bool b=>exact .bool b|int k n=>exact .int k n|str l=>exact .str l|sl _ _ _=>exact .sl _ _ _|l_ _ _=>exact .l_ _ _|HB l=>exact .HB l|jw=>exact .jw|mQ=>exact .mQ|jx=>exact .jx|mP=>exact .mP
theorem sd.cells{h r:Nat->Prop}{d x:au}(n:sd h r d){j:Nat}(hj:nth (cells d) j=some x):sd h r x:=by
 have one:∀{d:au},sd h r d->nth [d] j=some x->sd h r x:=λ{d} n hj=>by cases j with|zero=>simp[nth]at hj;subst hj;exact n|succ j=>simp[nth]at hj
 cases d with
 |agg cs=>cases n with|agg hr=>exact hr j x hj
 |me k v=>simp[Abs.cells,nth]at hj|md=>simp[Abs.cells,nth]at hj|own es=>simp[Abs.cells,nth]at hj|shr es=>simp[Abs.cells,nth]at hj|_=>exact one n hj
theorem Fv{W V:List Nat}:∀{l:List (Nat×au)},Mb W V l=true->∀p∈l,yM W V p.2=true|[],_,p,hp=>by cases hp|(t,d)::l,h,p,hp=>by have h2:(yM W V d&&Mb W V l)=true:=h;rw[bc]at h2;rcases bT.1 hp with e|e;subst e;exact h2.1;exact Fv h2.2 p e
theorem Iz{W:List Nat}:∀{l:List (Nat×au)},GA W l=true->∀p∈l,p.1∈W|[],_,p,hp=>by cases hp|(t,d)::l,h,p,hp=>by have h2:(iY W t&&GA W l)=true:=h;rw[bc]at h2;rcases bT.1 hp with e|e;subst e;exact iu.1 h2.1;exact Iz h2.2 p e
theorem mO{α:Type}{e:Nat->Option α}:∀(ms:List (Nat×α)) (t:Nat),(∃d,(t,d)∈ms∧Over ms e t=some d)∨((∀p∈ms,p.1≠t)∧Over ms e t=e t)
 |[],t=> .inr ⟨ag,rfl⟩
 |(u,d)::ms,t=>by
  simp only[Over];by_cases h:t=u;subst h;exact .inl ⟨d,ag,by rw[show Nat.beq t t=true by simp];rfl⟩;have hb:Nat.beq t u=false:=by cases hb:Nat.beq t u with|false=>rfl|true=>exact absurd (dt hb) h
  rw[hb];rcases mO (e:=e) ms t with⟨d',h1,h2⟩|⟨h1,h2⟩;exact .inl ⟨d',uo,h2⟩;refine .inr ⟨λp hp=> ?_,h2⟩;rcases bT.1 hp with e|e;subst e;exact λh' =>h h'.symm
  exact h1 p e
def lB{α:Type}(W:List Nat)(e:Nat->Option α)(t:Nat):(t∈W∧xB W e t=none)∨(t∉W∧xB W e t=e t):=by unfold xB;cases h:iY W t with|true=>exact .inl ⟨iu.1 h,rfl⟩|false=>exact .inr ⟨λhm=>(by rw[iu.2 hm]at h;cases h),rfl⟩
theorem Nh{s:St}:∀{W:List (Nat×au)},j8 s W=true->∀p∈W,s.H p.1≠none|[],_,l,hl=>by cases hl|(x,d)::W,h,l,hl=>by simp only[j8]at h;cases hx:s.H x with|none=>rw[hx]at h;cases h|some d=>rw[hx]at h;rcases bT.1 hl with e|e;subst e;rw[hx];simp;exact Nh h l e
theorem Ng{s:St}:∀{W:List (Nat×Row)},j7 s W=true->∀p∈W,s.R p.1≠none|[],_,l,hl=>by cases hl|(x,d)::W,h,l,hl=>by simp only[j7]at h;cases hx:s.R x with|none=>rw[hx]at h;cases h|some d=>rw[hx]at h;rcases bT.1 hl with e|e;subst e;rw[hx];simp;exact Ng h l e
theorem FG{s t:St}:∀{l:List Nat},Xd s t l->∀x∈l,s.H x=t.H x|[],_,x,hx=>by cases hx|y::l,h,x,hx=>by rcases bT.1 hx with e|e;subst e;exact h.1;exact FG h.2 x e
theorem FF{s t:St}:∀{l:List Nat},Xc s t l->∀x∈l,s.R x=t.R x|[],_,x,hx=>by cases hx|y::l,h,x,hx=>by rcases bT.1 hx with e|e;subst e;exact h.1;exact FF h.2 x e
theorem wX{s:St}:∀{l:List (Nat×au)},GP s l->∀p∈l,s.env p.1=some p.2|[],_,x,hx=>by cases hx|(t,d)::l,h,x,hx=>by rcases bT.1 hx with e|e;subst e;exact h.1;exact wX h.2 x e
section
variable{cx:Cx}{g:Gh}{s:St}{a:Act}{w:World}
def Mem.Xr(m:Mem cx g s w){l b:Nat}{d d' :au}(hl:s.H l=some d)(hb:g.mu l=some b)(hx:qk g w b d'){s' :St}(hH:s'.H=aY s.H l (some d'))(hR:s'.R=s.R):Mem cx g s' w where
 iw:=m.iw
 box x y hy:=by rw[hH]at hy;by_cases e:x=l;subst e;rw[bw]at hy;cases hy;obtain⟨b',h1,_,h3⟩:=m.box x d hl;rw[hb]at h1;cases h1;exact⟨b,hb,hx,h3⟩;rw[aP _ _ _ _ e]at hy;exact m.box x y hy
 gv x y hy:=by rw[hH];by_cases e:x=l;subst e;rw[bw];exact nf;rw[aP _ _ _ _ e];exact m.gv x y hy
 inj:=m.inj
 E5:=m.E5
 row:=by rw[hR];exact m.row
 gD:=by rw[hR];exact m.gD
 kN:=m.kN
 kx:=m.kx
 frame:=m.frame
 new:=m.new
def Jg(m:Mem cx g s w){k sz:Nat}(hz0:sz≠0)(hk:s.R k=none){s' :St}(hH:s'.H=s.H)(hR:s'.R=aY s.R k (some ⟨sz,true,[]⟩)):∃g',Ext g g' ∧Mem cx g' s' w∧g'.mu=g.mu∧g'.I=g.I∧∀v,bG g v (.sl sz [] true)->bG g' v (.ref k 0):=by
 have hg:g.tv k=none:=by cases h:g.tv k with|none=>rfl|some t=>obtain⟨r,hr⟩:=m.gD k t h;rw[hk]at hr;cases hr
 let g' :Gh:={I:=g.I,mu:=g.mu,tv:=aY g.tv k (some (Tv.pl sz 0 none 0))};have he:Ext g g' :=⟨λ_ _ _ h=>h,λ_ _ h=>h,λj t hj=>⟨t,by show aY g.tv k _ j=some t;rw[aP _ _ _ _ (by intro e;subst e;rw[hg]at hj;cases hj)];exact hj,.refl t⟩⟩;refine⟨g',he,m.setRow (k:=k) (r:=⟨sz,true,[]⟩) (t:=(Tv.pl sz 0 none 0)) he rfl rfl (λ_ _=>rfl) (Frame.refl _ _) rfl rfl (λe h=>jl) ⟨rfl,λ_ _=>⟨rfl,rfl⟩,λ_ e=>by(cases e),λe=>absurd e hz0,λe=>absurd e hz0⟩ (λb h=>by have h:=h.plain rfl;cases h) hH hR,rfl,rfl,λv hv=> ?_⟩;have hv' :v= .slice none 0 0:=by cases hv with|pure r=>cases r with|slnil=>rfl
 subst hv';exact .ref (Tv.pl sz 0 none 0) (by show aY g.tv k _ k=_;rw[bw]) (cu _) (λ_=>rfl) ⟨none,0,rfl⟩
def XY(m:Mem cx g s w){q k n:Nat}{r:Row}(hq:s.R q=some r)(hk:s.R k=none)(ho:r.own=true)(hz:r.sz=1)(hqk:q≠k)(hes:∀e∈r.es,∃xs,e= .sl 1 xs false){v:Value}(hv:bG g v (.ref q n))(hn:n=r.es.length){s' :St}(hH:s'.H=s.H)(hR:s'.R=aY (aY s.R q (some (p' r))) k (some ⟨0,true,r.es.map wq⟩)):∃g',Ext g g' ∧Mem cx g' s' w∧g'.mu=g.mu∧g'.I=g.I∧bG g' v (.cQ k n):=by
 obtain⟨t,t1,t2,t3,t4,t5,t6⟩:=m.pj hv hq hn;have t7:=t6.o (by omega:r.sz≠0);obtain⟨g1,e1,m1,i1,u1,tvs,uq,tq,nb⟩:=m.SM hq hz;have hk1:({s with R:=aY s.R q (some (p' r))}:St).R k=none:=by show aY s.R q (some (p' r)) k=none;rw[aP _ _ _ _ (gx hqk)];exact hk
 have far:∀b,t.base=some b->∀j u,g1.tv j=some u->¬u.vZ b:=by intro b hb j u hu hbl;by_cases hj:j=q;subst hj;rw[tq]at hu;cases hu;exact nb b hbl;rw[tvs j hj]at hu;exact hj (m.kN j q u t b hu t1 hbl (.inl hb))
 obtain⟨t',ht'⟩:∃t' :Tv,t' ={sz:=0,n:=t.n,base:=t.base,cap:=t.cap,nest:=true}:=⟨_,rfl⟩;have hx:Ext g1 (g1.row k t'):=g1.ph (.inl (m1.yh hk1));have tb:∀b,t'.vZ b->t.base=some b:=by
  rintro b (h|⟨_,_,j,h⟩)
  rw[ht']at h;exact h;rw[ht']at h;cases h
 have hen:∀j d,nth (r.es.map wq) j=some d->∃xs,d= .shr xs∧nth r.es j=some (.sl 1 xs false):=by intro j d hd;rw[bW]at hd;obtain⟨x,hx,rfl⟩:=Fm.1 hd;obtain⟨xs,rfl⟩:=hes x (gn hx);exact⟨xs,rfl,hx⟩
 have hI0:∀b,t.base=some b->∀o,g1.I b o=none:=by intro b hb o;unfold ji at t7;rw[hb]at t7;obtain⟨_,_,_,c,e,fz,_,_,_,_,k8,_⟩:=t7;rw[i1];exact k8 ho o
 refine⟨g1.row k t',e1.trans hx,?_,u1,i1,?_⟩;refine m1.setRow (k:=k) (r:=⟨0,true,r.es.map wq⟩) (t:=t') hx rfl rfl (λ_ _=>rfl) (Frame.refl _ _) (by rw[ht']) (by rw[ht'];simpa using t3) ?_ ?_ ?_ hH hR;intro e he;obtain⟨j,hj⟩:=pR.1 he;obtain⟨xs,rfl,_⟩:=hen j e (by rw[aI];exact hj);rfl;refine⟨by rw[ht'],λe=>absurd rfl e,λe=>absurd rfl e,λ_ e=>by(rw[ht']at e;cases e),λ_ _=>⟨λj b hj=>by(rw[ht']at hj;cases hj),λb hb=> ?_,λ_=>⟨λe he=> ?_,λj b hj=>by(rw[ht']at hj;cases hj),?_⟩⟩⟩;have hb' :t.base=some b:=tb b (.inl hb);have:=m.kr t1 (.inl hb');exact⟨this.1,this.2.1,by rw[show(g1.row k t').mu=g1.mu from rfl,u1];exact this.2.2⟩;obtain⟨j,hj⟩:=pR.1 he;obtain⟨xs,rfl,_⟩:=hen j e (by rw[aI];exact hj);exact .inr ⟨xs,rfl⟩;unfold ji at t7;rw[ht'];cases hb:t.base with|none=>rw[hb]at t7;dsimp only at t7 ⊢;exact⟨by rw[t7.1];rfl,t7.2⟩|some b=>rw[hb]at t7;obtain⟨k1,k2,k3,c,e,fz,k4,k5,k6,k7,k8,k9⟩:=t7;refine⟨k1,λj=>hI0 b hb j,c,e,fz,k4,k5.1,by rw[hz]at k6;simpa using k6,λj d hd=> ?_⟩;obtain⟨xs,rfl,hj⟩:=hen j d hd;have hfl:=gQ r.es 1 j 0 _ (by rw[<-hz];exact t5) hj af;rw[ni,kl]at hfl;obtain⟨v,v1,v2,v3,_⟩:=k9 j _ hfl;exact⟨v,v1,λys hy=>by(cases hy),λys hy=>by cases hy;exact⟨v2.mono (λ_ _ _ h=>by show g1.I _ _=_;rw[i1];exact h),v3⟩⟩
 intro b hb;have hb:=tb b hb;refine⟨λj u _ hu=>far b hb j u hu,λo v hv=> ?_⟩;have hv:g1.I b o=some v:=hv;rw[hI0 b hb o]at hv;cases hv;obtain⟨_,_,_,_,h1⟩:=hv.nB;refine .cQ t' qz (by rw[ht'];exact⟨rfl,rfl⟩) (by rw[ht',hn];exact Nat.le_of_eq t3.symm) (λ_=> ?_) h1;rw[t4,ht'];rfl
open Classical in
theorem MZ(m:Mem cx g s w){k:Nat}{r:Row}(hr:s.R k=some r)(ho:r.own=true)(hz:r.sz=0){s' :St}(hH:s'.H=s.H)(hR:s'.R=aY s.R k (some ⟨0,false,r.es⟩)){v0:Value}{n0:Nat}(hv0:bG g v0 (.cQ k n0)):∃g',Ext g g' ∧Mem cx g' s' w∧g'.mu=g.mu∧g'.tv=g.tv∧∀v n,bG g v (.cQ k n)->n=r.es.length->bN g'.I v (.sl 1 (r.es.map f_) false):=by
 obtain⟨t,t1,t2,_⟩:=hv0.wJ;obtain⟨q1,q2,q3⟩:=m.qF t1 t2 hr;obtain⟨l1,l2,l3⟩:=q3.live ho;obtain⟨g',hg'⟩:∃g' :Gh,g' ={I:=λb o=>if t.base=some b then(if o<t.n then w.cell? ⟨b,o,none⟩else none)else(if ∃j xs,t.ow j=some b∧nth r.es j=some (.own xs)∧o<xs.length then w.cell? ⟨b,o,none⟩else g.I b o),mu:=g.mu,tv:=g.tv}:=⟨_,rfl⟩;have Qw:∀{j b},t.ow j=some b->∃xs,nth r.es j=some (.own xs)∧qP g w b xs:=by intro j b hj;obtain⟨xs,z1,z2⟩:=l2 j b hj;obtain⟨b',z3,z4⟩:=q3.inner ho z1 z2;rw[hj]at z3;cases z3;exact⟨xs,z1,z4⟩
 have Ib:∀b,t.base=some b->∀o,g'.I b o=if o<t.n then w.cell? ⟨b,o,none⟩else none:=λb hb o=>by rw[hg'];simp[hb]
 have Io:∀j b xs,t.ow j=some b->nth r.es j=some (.own xs)->∀o,o<xs.length->g'.I b o=w.cell? ⟨b,o,none⟩:=λj b xs h1 h2 o h3=>by rw[hg'];dsimp only;rw[ah (q3.ow j b h1).2.2.2.1,aq ⟨j,xs,h1,h2,h3⟩]
 have In:∀b,¬t.vZ b->g'.I b=g.I b:=λb hb=>by funext o;rw[hg'];dsimp only;rw[ah (λe=>hb (.inl e)),ah (by rintro ⟨j,xs,h1,_⟩;exact hb (.inr ⟨t2.1,t2.2,j,h1⟩))]
 have hBI:∀b,t.base=some b->∀o,g.I b o=none:=λb hb o=>by rw[hb]at l3;exact l3.2.1 o
 have hOI:∀j b,t.ow j=some b->∀o,g.I b o=none:=λj b hj o=>by obtain⟨xs,_,_,_,_,_,_,_,_,h5,_⟩:=Qw hj;exact h5 o
 have hs:j_ g.I g'.I:=λb o x hx=>by by_cases hb:t.vZ b;rcases hb with hb|⟨_,_,j,hb⟩;rw[hBI b hb o]at hx;cases hx;rw[hOI j b hb o]at hx;cases hx;rw[In b hb];exact hx
 have he:Ext g g' :=⟨hs,λl b h=>by rw[hg'];exact h,λk t h=>⟨t,by rw[hg'];exact h,.refl t⟩⟩;have cb:∀b,t.base=some b->∀j d,nth r.es j=some d->∃v,w.cell? ⟨b,j,none⟩=some v∧leaf v=true∧Hw g w t j v d:=by intro b hb j d hd;rw[hb]at l3;obtain⟨_,_,c,e,fz,c1,_,_,c4⟩:=l3;obtain⟨v,v1,v2⟩:=c4 j d hd;refine⟨v,(eB c1).trans v1,?_,v2⟩;rcases l1 d (gn hd)with⟨xs,rfl⟩|⟨xs,rfl⟩;obtain⟨a,c,e,_⟩:=v2.own xs rfl;rw[e];rfl;exact(v2.shr xs rfl).2
 have ci:∀j b xs,t.ow j=some b->nth r.es j=some (.own xs)->∀o,o<xs.length->∃d v,nth (xs.flatMap cells) o=some d∧w.cell? ⟨b,o,none⟩=some v∧bN g.I v d∧leaf v=true:=by intro j b xs h1 h2 o h3;obtain⟨ys,y1,c,e,fz,c1,c2,c3,c4,c5,c6⟩:=Qw h1;rw[h2]at y1;cases y1;obtain⟨x,hx⟩:=bP h3;have hfl:=gQ xs 1 o 0 x c4 hx af;rw[ni,kl]at hfl;have hc:=c4 x (gn hx);obtain⟨d,hd⟩:=bP (l:=cells x) (i:=0) af;rw[hd]at hfl;obtain⟨v,v1,v2,v3⟩:=c6 o d hfl;exact⟨d,v,hfl,(eB c1).trans v1,v2,v3⟩
 refine⟨g',he,?_,by rw[hg'],by rw[hg'],λv n hv hn=> ?_⟩;refine m.setRow (k:=k) (r:=⟨0,false,r.es⟩) (t:=t) he (by rw[hg']) ?_ In (Frame.refl _ _) t2.1 q2 ?_ ?_ ?_ hH hR;funext x;rw[hg'];by_cases hx:x=k;subst hx;rw[bw];exact t1;rw[aP _ _ _ _ hx];intro e he;rcases l1 e he with⟨_,rfl⟩|⟨_,rfl⟩<;>rfl
 refine⟨t2.1,λe=>absurd rfl e,λe=>absurd rfl e,λ_ e=>by(rw[t2.2]at e;cases e),λ_ _=>⟨λj b hj=> ?_,λb hb=> ?_,λe=>bM⟩⟩;rw[hg'];exact q3.ow j b hj;rw[hg'];exact q3.base b hb;intro b hb;refine⟨λj u hj hu hbl=>hj (m.kN j k u t b hu t1 hbl hb),λo x hx=> ?_⟩;by_cases hbb:t.base=some b;rw[Ib b hbb o]at hx;split at hx;rename_i hlt;obtain⟨d,hd⟩:=bP (l:=r.es) (i:=o) af;obtain⟨v,v1,v2,_⟩:=cb b hbb o d hd;rw[v1]at hx;cases hx;exact⟨v1,v2⟩;cases hx;rcases hb with hb|⟨_,_,j,hj⟩;exact absurd hb hbb;obtain⟨xs,z1,_⟩:=Qw hj;by_cases hlt:o<xs.length;rw[Io j b xs hj z1 o hlt]at hx;obtain⟨_,v,_,v1,_,v2⟩:=ci j b xs hj z1 o hlt;rw[v1]at hx;cases hx;exact⟨v1,v2⟩;have:g'.I b o=none:=by
  rw[hg'];dsimp only;rw[ah hbb,ah (by
   rintro ⟨j',ys,h1,h2,h3⟩
   have:=(q3.ow j b hj).2.2.2.2 j' h1;subst this;rw[z1]at h2;cases h2;exact hlt h3)]
  exact hOI j b hj o
 rw[this]at hx;cases hx
 ·obtain⟨t',y1,_,y2,y3,y4⟩:=hv.wJ;rw[t1]at y1;cases y1;have hv' :=y3 af;subst hv';unfold Tv.value;cases hb:t.base with
  |none=>rw[hb]at l3;dsimp only at l3 ⊢;rw[l3.1];exact .slnil _ _
  |some b=>
   dsimp only;have hcap:r.es.length<=t.cap:=by rw[hb]at l3;have:=l3.1;omega
   rw[q2];have hlen:(r.es.map f_).length=r.es.length:=ag
   rw[<-hlen];have key:∀j d,nth ((r.es.map f_).flatMap cells) j=some d->∃v,g'.I b j=some v∧bN g'.I v d:=by
    intro j d hd;have hone:∀e∈r.es.map f_,(cells e).length=1:=by intro e he;obtain⟨x,hx,rfl⟩:=dM.1 he;rcases l1 x hx with⟨_,rfl⟩|⟨_,rfl⟩<;>rfl
    have hj:j<r.es.length:=by
     have h1:=aH hd;have:∀l:List au,(∀e∈l,(cells e).length=1)->(l.flatMap cells).length=l.length:=JT
     rw[this _ hone,hlen]at h1;exact h1
    obtain⟨x,hx⟩:=bP hj;have hfl:=gQ (r.es.map f_) 1 j 0 (f_ x) hone (by rw[bW,hx];rfl) af;rw[ni,kl,hd]at hfl;obtain⟨v,v1,v2,v3⟩:=cb b hb j x hx;refine⟨v,by rw[Ib b hb,aq af];exact v1,?_⟩;rcases l1 x (gn hx)with⟨xs,rfl⟩|⟨xs,rfl⟩;have hd' :d= .sl 1 xs false:=VU;subst hd';obtain⟨a,c,e1,e2,e3⟩:=v3.own xs rfl;by_cases hne:xs=[];subst hne;rw[e1];exact .TA _ _ _;obtain⟨b',e4,e5,e6⟩:=e3 hne;rw[e1,e5];obtain⟨_,_,_,_,_,_,e7,_,_⟩:=e6;refine .sl b' 0 c 1 xs (λo=>(w.cell? ⟨b',o,none⟩).getD undef) e2 e7 (λo d hd=> ?_) (λo d hd=> ?_);have ho:o<xs.length:=by
     have h1:=aH hd;have:∀l:List au,(∀e∈l,(cells e).length=1)->(l.flatMap cells).length=l.length:=JT
     rw[this _ e7]at h1;exact h1
    obtain⟨_,u,_,u1,_⟩:=ci j b' xs e4 hx o ho;rw[eO,Io j b' xs e4 hx o ho,u1];rfl;have ho:o<xs.length:=by
     have h1:=aH hd;have:∀l:List au,(∀e∈l,(cells e).length=1)->(l.flatMap cells).length=l.length:=JT
     rw[this _ e7]at h1;exact h1
    obtain⟨d',u,u0,u1,u2,_⟩:=ci j b' xs e4 hx o ho;rw[hd]at u0;cases u0;rw[u1];exact u2.mono hs;have hd' :d= .sl 1 xs false:=VU;subst hd';exact(v3.shr xs rfl).1.mono hs
   refine .sl b 0 t.cap 1 (r.es.map f_) (λj=>(g'.I b j).getD undef) (by rw[hlen];exact hcap) ?_ (λj d hd=> ?_) (λj d hd=> ?_);intro e he;obtain⟨x,hx,rfl⟩:=dM.1 he;rcases l1 x hx with⟨_,rfl⟩|⟨_,rfl⟩<;>rfl;obtain⟨v,h1,_⟩:=key j d hd;rw[eO,h1];rfl;obtain⟨v,h1,h2⟩:=key j d hd;rw[h1];exact h2
theorem uY{d x:au}{j:Nat}{y:au}(h:nth (cells d) j=some y)(hc:cells x=[x]):(cells (setCell d j x)).length=(cells d).length∧∀(i:Nat) z,nth (cells (setCell d j x)) i=some z->(i=j∧z=x)∨(i≠j∧nth (cells d) i=some z):=by
 have one:∀{d:au},nth [d] j=some y->cells x=[x]->(cells x).length=[d].length∧∀(i:Nat) z,nth (cells x) i=some z->(i=j∧z=x)∨(i≠j∧nth [d] i=some z):=λ{d} h hc=>by rw[hc];refine⟨rfl,λi z hz=> ?_⟩;cases j with|succ j=>simp[nth]at h|zero=>cases i with|zero=>simp[nth]at hz;exact .inl ⟨rfl,hz.symm⟩|succ i=>simp[nth]at hz
 cases d with
 |agg cs=>
  have len:∀(cs:List au) (j:Nat),(setAt cs j x).length=cs.length:=by intro cs;induction cs with|nil=>intro j;cases j<;>rfl|cons c cs ih=>intro j;cases j with|zero=>rfl|succ j=>simp[setAt,ih]
  have U' :∀(cs:List au) (j i:Nat) z,nth (setAt cs j x) i=some z->(i=j∧z=x)∨(i≠j∧nth cs i=some z):=by
   intro cs;induction cs with
   |nil=>intro j i z hz;cases j<;>simp[setAt,nth]at hz
   |cons c cs ih=>
    intro j i z hz;cases j with
    |zero=>cases i with|zero=>simp[setAt,nth]at hz;exact .inl ⟨rfl,hz.symm⟩|succ i=>exact .inr ⟨af,JZ⟩
    |succ j=>cases i with|zero=>exact .inr ⟨af,JZ⟩|succ i=>rcases ih j i z JZ with⟨e1,e2⟩|⟨e1,e2⟩;exact .inl ⟨af,e2⟩;exact .inr ⟨af,by simpa[nth]using e2⟩
  exact⟨len cs j,U' cs j⟩
 |me k v=>simp[cells,nth]at h|md=>simp[cells,nth]at h|own es=>simp[cells,nth]at h|shr es=>simp[cells,nth]at h|_=>exact one h hc
theorem gG{V W U:List Nat}(hV:∀k∈V,k∈di U)(hW:∀t∈W,t∈U):∀{ad:List Ad} {g:Gh} {s:St} {K:St->Prop},j9 V W ad s K->Rel cx g s a w->∃s' g',K s' ∧Ext g g' ∧Rel cx g' s' a w∧bZ U s s'
 |[],g,s,K,hk,h=>⟨s,g,hk,Ext.refl g,h,bZ.refl _ _⟩
 | .tmp t k::ad,g,s,K,hk,h=>by
   simp only[oO,mW,lA,mX,ie,lx,lz,gH]at hk
   split at hk
   ·rename_i sz ht
    split at hk
    ·rename_i hm hR
     rw[bc,bc]at hm
     obtain⟨hm,hzb⟩:=hm
     have hz0:sz≠0:=λe=>by subst e;cases hzb
     obtain⟨g1,e1,m1,q1,q2,r1⟩:=Jg h.mem hz0 hR (sz:=sz) (s' :={env:=aY s.env t (some (.ref k 0)),H:=s.H,hn:=s.hn,R:=aY s.R k (some ⟨sz,true,[]⟩),rn:=k::s.rn,y:=s.y}) rfl rfl
     have h1:Rel cx g1 {env:=aY s.env t (some (.ref k 0)),H:=s.H,hn:=s.hn,R:=aY s.R k (some ⟨sz,true,[]⟩),rn:=k::s.rn,y:=s.y} a w:=
      ⟨λu d hu=>by
       by_cases e:u=t
       ·subst e
        have hu' :aY s.env u (some (.ref k 0)) u=some d:=hu
        rw[bw]at hu';cases hu'
        exact r1 _ (h.env u _ ht)
       ·have hu' :aY s.env t (some (.ref k 0)) u=some d:=hu
        rw[aP _ _ _ _ e]at hu'
        exact(h.env u d hu').mono e1,h.size,h.defers,m1⟩
     obtain⟨s2,g2,k2,e2,h2,kk⟩:=gG hV hW hk h1
     refine⟨s2,g2,k2,e1.trans e2,h2,?_⟩
     have k0:bZ U s {env:=aY s.env t (some (.ref k 0)),H:=s.H,hn:=s.hn,R:=aY s.R k (some ⟨sz,true,[]⟩),rn:=k::s.rn,y:=s.y}:=
      bZ.ir (.inr ⟨t,_,hW t (iu.1 hm.2),rfl⟩) (.inl ⟨rfl,rfl⟩) (.inr (.inr ⟨k,_,hV k (iu.1 hm.1),rfl,rfl⟩))
     exact D'
    ·exact ak
   ·exact ak
 | .cell l j k::ad,g,s,K,hk,h=>by
   simp only[oO,mW,lA,mX,ie,lx,lz,gH]at hk
   split at hk
   ·rename_i d hd
    split at hk
    ·rename_i sz hc
     split at hk
     ·rename_i hm hR
      rw[bc]at hm
      obtain⟨hm,hzb⟩:=hm
      have hz0:sz≠0:=λe=>by subst e;cases hzb
      obtain⟨g1,e1,m1,q1,q2,r1⟩:=Jg h.mem hz0 hR (sz:=sz) (s' :={env:=s.env,H:=s.H,hn:=s.hn,R:=aY s.R k (some ⟨sz,true,[]⟩),rn:=k::s.rn,y:=s.y}) rfl rfl
      obtain⟨b,b1,b2,b3⟩:=m1.box l d hd
      obtain⟨z1,z2⟩:=uY (x:= .ref k 0) hc rfl
      have hbox:qk g1 w b (setCell d j (.ref k 0)):=by
       obtain⟨c,e,fz,c1,c2,c3,c4⟩:=b2
       refine⟨c,e,fz,c1,c2,by rw[z1];exact c3,λi v x hv hx=> ?_⟩
       rcases z2 i x hx with⟨rfl,rfl⟩|⟨_,hx'⟩
       ·obtain⟨p1,p2⟩:=c4 i v _ hv hc
        refine⟨?_,p2⟩
        have:bG g v (.sl sz [] true):=by
         cases p1 with
         |pure r=>exact .pure (by rw[<-q2];exact r)
        exact r1 v this
       ·exact c4 i v x hv hx'
      have m2:Mem cx g1 {env:=s.env,H:=aY s.H l (some (setCell d j (.ref k 0))),hn:=s.hn,R:=aY s.R k (some ⟨sz,true,[]⟩),rn:=k::s.rn,y:=s.y} w:=m1.Xr hd b1 hbox rfl rfl
      have h1:Rel cx g1 {env:=s.env,H:=aY s.H l (some (setCell d j (.ref k 0))),hn:=s.hn,R:=aY s.R k (some ⟨sz,true,[]⟩),rn:=k::s.rn,y:=s.y} a w:=
       ⟨λu d hu=>(h.env u d hu).mono e1,h.size,h.defers,m2⟩
      obtain⟨s2,g2,k2,e2,h2,kk⟩:=gG hV hW hk h1
      refine⟨s2,g2,k2,e1.trans e2,h2,?_⟩
      have k0:bZ U s {env:=s.env,H:=aY s.H l (some (setCell d j (.ref k 0))),hn:=s.hn,R:=aY s.R k (some ⟨sz,true,[]⟩),rn:=k::s.rn,y:=s.y}:=
       bZ.ir (.inl rfl) (.inr (.inl ⟨l,_,Au,rfl,rfl⟩)) (.inr (.inr ⟨k,_,hV k (iu.1 hm),rfl,rfl⟩))
      exact D'
     ·exact ak
    ·exact ak
   ·exact ak
 | .lay t::ad,g,s,K,hk,h=>by
   simp only[oO,mW,lA,mX,ie,lx,lz,gH]at hk
   split at hk
   ·rename_i d hd
    split at hk
    ·rename_i hm
     obtain⟨s1,d1,g1,k1,l1,_,_,r1⟩:=oE h (oG hk)
     obtain⟨lk,k1⟩:=k1
     have h1:Rel cx g1 {env:=aY s1.env t (some d1),H:=s1.H,hn:=s1.hn,R:=s1.R,rn:=s1.rn,y:=s1.y} a w:=
      ⟨λu x hu=>by
       have hu' :aY s1.env t (some d1) u=some x:=hu
       by_cases e:u=t
       ·subst e
        rw[bw]at hu';cases hu'
        exact .pure (r1 _ (h.env u _ hd))
       ·rw[aP _ _ _ _ e]at hu'
        exact l1.rel.env u x hu',l1.rel.size,l1.rel.defers,l1.rel.mem.names rfl rfl⟩
     obtain⟨s2,g2,k2,e2,h2,kk⟩:=gG hV hW k1 h1
     refine⟨s2,g2,k2,l1.ext.trans e2,h2,?_⟩
     have k0:bZ U s1 {env:=aY s1.env t (some d1),H:=s1.H,hn:=s1.hn,R:=s1.R,rn:=s1.rn,y:=s1.y}:=
      bZ.ir (.inr ⟨t,_,hW t (iu.1 hm),rfl⟩) (.inl ⟨rfl,rfl⟩) (.inl ⟨rfl,rfl⟩)
     exact RF
    ·exact ak
   ·exact ak
 | .aR l j::ad,g,s,K,hk,h=>by
   simp only[oO,mW,lA,mX,ie,lx,lz,gH]at hk
   split at hk
   ·rename_i d hd
    split at hk
    ·rename_i x hx
     obtain⟨s1,x1,g1,k1,l1,_,_,r1⟩:=nF h (l8 hk)
     obtain⟨lk,k1⟩:=k1
     have hna:∀cs,x1≠.agg cs:=λcs e=>by subst e;exact k1
     have k1' :j9 V W ad {env:=s1.env,H:=aY s1.H l (some (setCell d j x1)),hn:=s1.hn,R:=s1.R,rn:=s1.rn,y:=s1.y} K:=by
      cases x1<;>first|exact k1|exact k1.elim
     have hd1:s1.H l=some d:=by rw[l1.H];exact hd
     obtain⟨b,b1,b2,b3⟩:=l1.rel.mem.box l d hd1
     obtain⟨b',b1',b2',_⟩:=h.mem.box l d hd
     have hc1:cells x1=[x1]:=by
      obtain⟨c,e,fz,c1,c2,c3,c4⟩:=b2'
      have hj:j<c.size:=AK
      have:=(bG.pure (g:=g1) (r1 _ (c4 j c[j] x ag hx).1)).tU
      have this2:=(bG.pure (g:=g1) (r1 _ (c4 j c[j] x ag hx).1)).Gd
      cases x1<;>first|rfl|exact absurd rfl (hna _)|exact absurd rfl (this.1 _ _)|exact absurd rfl this.2|exact absurd rfl (this2.1 _)|exact absurd rfl (this2.2 _)
     obtain⟨z1,z2⟩:=uY (x:=x1) hx hc1
     have hbox:qk g1 w b (setCell d j x1):=by
      obtain⟨c,e,fz,c1,c2,c3,c4⟩:=b2
      have e1:b=b' :=by rw[l1.mu,b1']at b1;cases b1;rfl
      subst e1
      obtain⟨c',e',fz',c1',_,_,c4'⟩:=b2'
      rw[c1]at c1';cases c1'
      refine⟨c,e,fz,c1,c2,by rw[z1];exact c3,λi v y hv hy=> ?_⟩
      rcases z2 i y hy with⟨rfl,rfl⟩|⟨_,hx'⟩
      ·obtain⟨p1,p2⟩:=c4' i v _ hv hx
       exact⟨.pure (r1 v p1),p2⟩
      ·exact c4 i v y hv hx'
     have m2:Mem cx g1 {env:=s1.env,H:=aY s1.H l (some (setCell d j x1)),hn:=s1.hn,R:=s1.R,rn:=s1.rn,y:=s1.y} w:=l1.rel.mem.Xr hd1 b1 hbox rfl rfl
     have h1:Rel cx g1 {env:=s1.env,H:=aY s1.H l (some (setCell d j x1)),hn:=s1.hn,R:=s1.R,rn:=s1.rn,y:=s1.y} a w:=⟨l1.rel.env,l1.rel.size,l1.rel.defers,m2⟩
     obtain⟨s2,g2,k2,e2,h2,kk⟩:=gG hV hW k1' h1
     refine⟨s2,g2,k2,l1.ext.trans e2,h2,?_⟩
     have k0:bZ U s1 {env:=s1.env,H:=aY s1.H l (some (setCell d j x1)),hn:=s1.hn,R:=s1.R,rn:=s1.rn,y:=s1.y}:=
      bZ.ir (.inl rfl) (.inr (.inl ⟨l,_,by rw[hd1];simp,rfl,rfl⟩)) (.inl ⟨rfl,rfl⟩)
     exact RF
    ·exact ak
   ·exact ak
 | .nest t k::ad,g,s,K,hk,h=>by
   simp only[oO,mW,lA,mX,ie,lx,lz,gH]at hk
   split at hk
   rotate_left
   ·exact ak
   rename_i q n ht
   split at hk
   rotate_left
   ·exact ak
   rename_i r hq hkn
   split at hk
   rotate_left
   ·exact ak
   rename_i hm
   simp only[bc,mG]at hm
   obtain⟨⟨hm1,hm2⟩,⟨ho,hz⟩,hqk⟩:=hm
   have hqk:q≠k:=λe=>Ph
   obtain⟨g1,e1,m1,q1,q2,r1⟩:=XY h.mem hq hkn ho (dt hz) hqk hk.h.2 (h.env t _ ht) hk.h.1 (s' :={env:=aY s.env t (some (.cQ k n)),H:=s.H,hn:=s.hn,R:=aY (aY s.R q (some (p' r))) k (some ⟨0,true,r.es.map wq⟩),rn:=k::s.rn,y:=s.y}) rfl rfl
   have h1:Rel cx g1 {env:=aY s.env t (some (.cQ k n)),H:=s.H,hn:=s.hn,R:=aY (aY s.R q (some (p' r))) k (some ⟨0,true,r.es.map wq⟩),rn:=k::s.rn,y:=s.y} a w:=
    ⟨λu d hu=>by
     by_cases e:u=t
     ·subst e
      have hu' :aY s.env u (some (.cQ k n)) u=some d:=hu
      rw[bw]at hu';cases hu'
      exact r1
     ·have hu' :aY s.env t (some (.cQ k n)) u=some d:=hu
      rw[aP _ _ _ _ e]at hu'
      exact(h.env u d hu').mono e1,h.size,h.defers,m1⟩
   obtain⟨s2,g2,k2,e2,h2,kk⟩:=gG hV hW hk.k h1
   refine⟨s2,g2,k2,e1.trans e2,h2,?_⟩
   have k0:bZ U s {env:=s.env,H:=s.H,hn:=s.hn,R:=aY s.R q (some (p' r)),rn:=s.rn,y:=s.y}:=bZ.ir (.inl rfl) (.inl ⟨rfl,rfl⟩) (.inr (.inl ⟨q,_,by rw[hq];simp,rfl,rfl⟩))
   have k1:bZ U {env:=s.env,H:=s.H,hn:=s.hn,R:=aY s.R q (some (p' r)),rn:=s.rn,y:=s.y} {env:=aY s.env t (some (.cQ k n)),H:=s.H,hn:=s.hn,R:=aY (aY s.R q (some (p' r))) k (some ⟨0,true,r.es.map wq⟩),rn:=k::s.rn,y:=s.y}:=
    bZ.ir (.inr ⟨t,_,hW t (iu.1 hm2),rfl⟩) (.inl ⟨rfl,rfl⟩) (.inr (.inr ⟨k,_,hV k (iu.1 hm1),rfl,rfl⟩))
   exact(k0.trans k1 (λ_ h=>h) (λ_ h=>h)).trans kk (λ_ h=>h) (λ_ h=>h)
 | .Gy t::ad,g,s,K,hk,h=>by
   simp only[oO,mW,lA,mX,ie,lx,lz,gH]at hk
   split at hk
   rotate_left
   ·exact ak
   rename_i k n ht
   split at hk
   rotate_left
   ·exact ak
   rename_i r hr
   split at hk
   rotate_left
   ·exact ak
   rename_i hm
   simp only[bc]at hm
   obtain⟨hm1,hz,ho⟩:=hm
   obtain⟨g1,e1,m1,q1,q2,r1⟩:=MZ h.mem hr ho (dt hz) (s' :={env:=aY s.env t (some (.sl 1 (r.es.map f_) false)),H:=s.H,hn:=s.hn,R:=aY s.R k (some ⟨0,false,r.es⟩),rn:=s.rn,y:=s.y}) rfl rfl (h.env t _ ht)
   have h1:Rel cx g1 {env:=aY s.env t (some (.sl 1 (r.es.map f_) false)),H:=s.H,hn:=s.hn,R:=aY s.R k (some ⟨0,false,r.es⟩),rn:=s.rn,y:=s.y} a w:=
    ⟨λu d hu=>by
     by_cases e:u=t
     ·subst e
      have hu' :aY s.env u (some (.sl 1 (r.es.map f_) false)) u=some d:=hu
      rw[bw]at hu';cases hu'
      exact .pure (r1 _ n (h.env u _ ht) hk.h)
     ·have hu' :aY s.env t (some (.sl 1 (r.es.map f_) false)) u=some d:=hu
      rw[aP _ _ _ _ e]at hu'
      exact(h.env u d hu').mono e1,h.size,h.defers,m1⟩
   obtain⟨s2,g2,k2,e2,h2,kk⟩:=gG hV hW hk.k h1
   refine⟨s2,g2,k2,e1.trans e2,h2,?_⟩
   have k0:bZ U s {env:=aY s.env t (some (.sl 1 (r.es.map f_) false)),H:=s.H,hn:=s.hn,R:=aY s.R k (some ⟨0,false,r.es⟩),rn:=s.rn,y:=s.y}:=
    bZ.ir (.inr ⟨t,_,hW t (iu.1 hm1),rfl⟩) (.inl ⟨rfl,rfl⟩) (.inr (.inl ⟨k,_,qp,rfl,rfl⟩))
   exact D'
 | .tX l j::ad,g,s,K,hk,h=>by
   simp only[oO,mW,lA,mX,ie,lx,lz,gH]at hk
   split at hk
   rotate_left
   ·exact ak
   rename_i d hd
   split at hk
   rotate_left
   ·exact ak
   rename_i k n hx
   split at hk
   rotate_left
   ·exact ak
   rename_i r hr
   split at hk
   rotate_left
   ·exact ak
   rename_i hm
   simp only[bc]at hm
   obtain⟨hz,ho⟩:=hm
   obtain⟨b',b1',b2',_⟩:=h.mem.box l d hd
   obtain⟨v0,hv0⟩:∃v0,bG g v0 (.cQ k n):=by
    obtain⟨c,e,fz,c1,c2,c3,c4⟩:=b2'
    have hj:j<c.size:=AK
    exact⟨c[j],(c4 j c[j] _ ag hx).1⟩
   obtain⟨g1,e1,m1,q1,q2,r1⟩:=MZ h.mem hr ho (dt hz) (s' :={env:=s.env,H:=s.H,hn:=s.hn,R:=aY s.R k (some ⟨0,false,r.es⟩),rn:=s.rn,y:=s.y}) rfl rfl hv0
   obtain⟨b,b1,b2,b3⟩:=m1.box l d hd
   obtain⟨z1,z2⟩:=uY (x:= .sl 1 (r.es.map f_) false) hx rfl
   have hbox:qk g1 w b (setCell d j (.sl 1 (r.es.map f_) false)):=by
    have eb:b=b' :=by rw[q1,b1']at b1;cases b1;rfl
    subst eb
    obtain⟨c,e,fz,c1,c2,c3,c4⟩:=b2
    obtain⟨c',e',fz',c1',_,_,c4'⟩:=b2'
    rw[c1]at c1';cases c1'
    refine⟨c,e,fz,c1,c2,by rw[z1];exact c3,λi v y hv hy=> ?_⟩
    rcases z2 i y hy with⟨rfl,rfl⟩|⟨_,hx'⟩
    ·obtain⟨p1,p2⟩:=c4' i v _ hv hx
     exact⟨.pure (r1 v n p1 hk.h),p2⟩
    ·exact c4 i v y hv hx'
   have m2:Mem cx g1 {env:=s.env,H:=aY s.H l (some (setCell d j (.sl 1 (r.es.map f_) false))),hn:=s.hn,R:=aY s.R k (some ⟨0,false,r.es⟩),rn:=s.rn,y:=s.y} w:=m1.Xr hd b1 hbox rfl rfl
   have h1:Rel cx g1 {env:=s.env,H:=aY s.H l (some (setCell d j (.sl 1 (r.es.map f_) false))),hn:=s.hn,R:=aY s.R k (some ⟨0,false,r.es⟩),rn:=s.rn,y:=s.y} a w:=
    ⟨λu d hu=>(h.env u d hu).mono e1,h.size,h.defers,m2⟩
   obtain⟨s2,g2,k2,e2,h2,kk⟩:=gG hV hW hk.k h1
   refine⟨s2,g2,k2,e1.trans e2,h2,?_⟩
   have k0:bZ U s {env:=s.env,H:=aY s.H l (some (setCell d j (.sl 1 (r.es.map f_) false))),hn:=s.hn,R:=aY s.R k (some ⟨0,false,r.es⟩),rn:=s.rn,y:=s.y}:=
    bZ.ir (.inl rfl) (.inr (.inl ⟨l,_,Au,rfl,rfl⟩)) (.inr (.inl ⟨k,_,qp,rfl,rfl⟩))
   exact D'
end
structure Fit(W:List Nat)(s:St)(m:vX):Prop where
 td:tidy W (di W) m=true
 lh:j8 s m.H=true
 lr:j7 s m.R=true
def zm{W:List Nat}{s:St}{m:vX}(hf:Fit W s m)(l:Nat):(s.with W m).H l≠none↔s.H l≠none:=by show Over m.H s.H l≠none↔_;rcases mO (e:=s.H) m.H l with⟨d,h1,h2⟩|⟨_,h2⟩;rw[h2];have:=Nh hf.lh _ h1;exact⟨λ_=>this,λ_=>ag⟩;rw[h2]
def zl{W:List Nat}{s:St}{m:vX}(hf:Fit W s m)(l:Nat):(s.with W m).R l≠none↔s.R l≠none:=by show Over m.R s.R l≠none↔_;rcases mO (e:=s.R) m.R l with⟨d,h1,h2⟩|⟨_,h2⟩;rw[h2];have:=Ng hf.lr _ h1;exact⟨λ_=>this,λ_=>ag⟩;rw[h2]
def L5{W:List Nat}{s:St}{m:vX}(hf:Fit W s m){t:Nat}(ht:t∉W):(s.with W m).env t=s.env t:=by
 show Over m.env (xB W s.env) t=_;have hk:GA W m.env=true:=by have:=hf.td;unfold tidy at this;rw[bc]at this;exact this.2
 rcases mO (e:=xB W s.env) m.env t with⟨d,h1,h2⟩|⟨_,h2⟩;exact absurd (Iz hk _ h1) ht;rw[h2];rcases lB W s.env t with⟨h3,_⟩|⟨_,h3⟩;exact absurd h3 ht;exact h3
def yg{W:List Nat}{s:St}{m:vX}(hf:Fit W s m):bZ W s (s.with W m) where
 env t ht:=L5 hf ht
 H l hl:= .inl ((zm hf l).1 hl)
 R l hl:= .inl ((zl hf l).1 hl)
 j8 l hl:=(zm hf l).2 hl
 j7 l hl:=(zl hf l).2 hl
 nm hn:=⟨λl hl=>hn.1 l ((zm hf l).1 hl),λl hl=>hn.2 l ((zl hf l).1 hl)⟩
 y h:=h
theorem Gq{cx:Cx}{g:Gh}{W:List Nat}{s:St}{m:vX}{a:Act}{w:World}(h:Rel cx g s a w)(hn:Nm s)(hf:Fit W s m)(hh:Holds s (s.with W m) m):Rel cx g (s.with W m) a w:=by
 have eH:(s.with W m).H=s.H:=by
  funext l;cases hl:s.H l with
  |none=>cases hx:(s.with W m).H l with|none=>rfl|some d=>exact absurd hl ((zm hf l).1 (by rw[hx];simp))
  |some d=>rw[<-hl];exact(FG hh.H l (hn.1 l su)).symm
 have eR:(s.with W m).R=s.R:=by
  funext l;cases hl:s.R l with
  |none=>cases hx:(s.with W m).R l with|none=>rfl|some d=>exact absurd hl ((zl hf l).1 (by rw[hx];simp))
  |some d=>rw[<-hl];exact(FF hh.R l (hn.2 l su)).symm
 refine⟨λt d ht=> ?_,h.size,h.defers,h.mem.names eH eR⟩;rcases mO (e:=xB W s.env) m.env t with⟨d',h1,h2⟩|⟨_,h2⟩;have:(s.with W m).env t=some d' :=h2;rw[ht]at this;cases this;exact h.env t d (wX hh.env _ h1);rcases lB W s.env t with⟨_,h3⟩|⟨_,h3⟩;have:(s.with W m).env t=none:=h2.trans h3;rw[ht]at this;cases this;have:(s.with W m).env t=s.env t:=h2.trans h3;exact h.env t d (by rw[<-this];exact ht)
open Classical in
def Gp{cx0 cx:Cx}{g0 g' :Gh}{W:List Nat}{s s' :St}{m m' :vX}{a0 a' :Act}{w0 w' :World}(h0:Rel cx0 g0 s a0 w0)(he:Ext g0 g')(h:Rel cx g' s' a' w')(hn:Nm s)(hf:Fit W s m)(hf' :Fit W s m')(hk:bZ W (s.with W m) s')(hd:yZ s W=true)(hdr:yY s (di W)=true)(hh:Holds s' (s.with W m') m'):∃g'',Ext g0 g'' ∧Rel cx g'' (s.with W m') a' w' ∧g''.I=g'.I:=by
 refine⟨{I:=g'.I,mu:=λl=>if s.H l=none then none else g'.mu l,tv:=λk=>if s.R k=none then none else g'.tv k},?_,?_⟩;refine⟨he.I,λl b hl=> ?_,λk t hk=> ?_⟩;obtain⟨d,hd⟩:=h0.mem.gv l b hl;show(if s.H l=none then none else g'.mu l)=some b;rw[ah Au];exact he.mu l b hl;obtain⟨r,hr⟩:=h0.mem.gD k t hk;obtain⟨t',h1,h2⟩:=he.tv k t hk;refine⟨t',?_,h2⟩;show(if s.R k=none then none else g'.tv k)=some t';rw[ah qp];exact h1;have mu0:∀l,s.H l≠none->(if s.H l=none then none else g'.mu l)=g'.mu l:=λl hl=>ah hl;have tv0:∀l,s.R l≠none->(if s.R l=none then none else g'.tv l)=g'.tv l:=λl hl=>ah hl;have lH:∀l b,g'.mu l=some b->l∉W->s.H l≠none:=λl b hl hw=>by obtain⟨d,hd⟩:=h.mem.gv l b hl;rcases hk.H l Au with e|e;exact(zm hf l).1 e;exact absurd e hw
 have lR:∀l b,g'.tv l=some b->l∉di W->s.R l≠none:=λl b hl hw=>by obtain⟨d,hd⟩:=h.mem.gD l b hl;rcases hk.R l Au with e|e;exact(zl hf l).1 e;exact absurd e hw
 let g'' :Gh:={I:=g'.I,mu:=λl=>if s.H l=none then none else g'.mu l,tv:=λk=>if s.R k=none then none else g'.tv k};have toT:∀{v:Value} {d:au},bG g' v d->sd (λl=>l∉W) (λk=>k∉di W) d->bG g'' v d:=λ{v d} x n=>x.restrict n rfl (λl b hl hb=>by show(if s.H l=none then none else g'.mu l)=some b;rw[mu0 l (lH l b hb hl)];exact hb) (λk t hl hb=>by show(if s.R k=none then none else g'.tv k)=some t;rw[tv0 k (lR k t hb hl)];exact hb);have toS:∀{v:Value} {d:au},bG g' v d->sd (λl=>g0.mu l≠none) (λk=>g0.tv k≠none) d->bG g'' v d:=λ{v d} x n=>
  x.restrict n rfl (λl b hl hb=>by
   have:s.H l≠none:=by cases h1:g0.mu l with|none=>exact absurd h1 hl|some b' =>obtain⟨d,hd⟩:=h0.mem.gv l b' h1;rw[hd];simp
   show(if s.H l=none then none else g'.mu l)=some b;rw[mu0 l this];exact hb)
   (λk t hl hb=>by
    have:s.R k≠none:=by cases h1:g0.tv k with|none=>exact absurd h1 hl|some b' =>obtain⟨d,hd⟩:=h0.mem.gD k b' h1;rw[hd];simp
    show(if s.R k=none then none else g'.tv k)=some t;rw[tv0 k this];exact hb)
 have td:=hf'.td;unfold tidy at td;rw[bc,bc]at td;have lvH:∀l d,(s.with W m').H l=some d->s.H l≠none∧s'.H l=some d:=λl d hl=>by have h1:s.H l≠none:=(zm hf' l).1 su;exact⟨h1,by rw[FG hh.H l (hn.1 l h1)];exact hl⟩
 have lvR:∀l d,(s.with W m').R l=some d->s.R l≠none∧s'.R l=some d:=λl d hl=>by have h1:s.R l≠none:=(zl hf' l).1 su;exact⟨h1,by rw[FF hh.R l (hn.2 l h1)];exact hl⟩
 refine⟨⟨λt d ht=> ?_,h.size,h.defers,?_⟩,rfl⟩;rcases mO (e:=xB W s.env) m'.env t with⟨d',h1,h2⟩|⟨_,h2⟩;have:(s.with W m').env t=some d' :=h2;rw[ht]at this;cases this;exact toT (h.env t d (wX hh.env _ h1)) (Ma (Fv td.1.1 _ h1));rcases lB W s.env t with⟨_,h3⟩|⟨h4,h3⟩;have:(s.with W m').env t=none:=h2.trans h3;rw[ht]at this;cases this;have e1:(s.with W m').env t=s.env t:=h2.trans h3;rw[ht]at e1;have e2:s'.env t=some d:=by rw[hk.env t h4,L5 hf h4];exact e1.symm
 exact toS (h.env t d e2) (h0.env t d e1.symm).nms;refine{iw:=h.mem.iw,box:=λl d hl=> ?_,gv:=λl b hl=> ?_,inj:=λl m b h1 h2=> ?_,E5:=λl b hl=> ?_,row:=λk r hr=> ?_,gD:=λk t hk=> ?_,kN:=λk j t u b h1 h2 h3 h4=> ?_,kx:=h.mem.kx,frame:=h.mem.frame,new:=h.mem.new};obtain⟨h1,h2⟩:=lvH l d hl;obtain⟨b,hb,hx,hm⟩:=h.mem.box l d h2;refine⟨b,by show(if s.H l=none then none else g'.mu l)=some b;rw[mu0 l h1];exact hb,?_,hm⟩;obtain⟨c,e,fz,y1,y2,y3,y4⟩:=hx;refine⟨c,e,fz,y1,y2,y3,λi v x hv hx=>⟨?_,(y4 i v x hv hx).2⟩⟩;have hrep:=(y4 i v x hv hx).1;rcases mO (e:=s.H) m'.H l with⟨d',z1,z2⟩|⟨_,z2⟩;have:(s.with W m').H l=some d' :=z2;rw[hl]at this;cases this;exact toT hrep ((Ma (Fv td.1.2 _ z1)).cells hx);have e1:(s.with W m').H l=s.H l:=z2;rw[hl]at e1;obtain⟨b0,_,⟨c0,_,_,x1,_,x3,x4⟩,_⟩:=h0.mem.box l d e1.symm;obtain⟨v0,hv0⟩:∃v0,c0[i]? =some v0:=⟨c0[i]'(by have:=aH hx;omega),by simp[show i<c0.size by have:=aH hx;omega]⟩;exact toS hrep (x4 i v0 x hv0 hx).1.nms;have hl' :(if s.H l=none then none else g'.mu l)=some b:=hl;split at hl';cases hl';rename_i hne;cases hx:(s.with W m').H l with|some d=>exact⟨d,rfl⟩|none=>exact absurd hx ((zm hf' l).2 hne)
 have h1' :(if s.H l=none then none else g'.mu l)=some b:=h1;have h2' :(if s.H m=none then none else g'.mu m)=some b:=h2;split at h1';cases h1';split at h2';cases h2';exact h.mem.inj l m b h1' h2';have h1' :(if s.H l=none then none else g'.mu l)=some b:=hl;split at h1';cases h1';exact h.mem.E5 l b h1';obtain⟨h1,h2⟩:=lvR k r hr;obtain⟨t,x1,x2,x3,x4,x5⟩:=h.mem.row k r h2;refine⟨t,by show(if s.R k=none then none else g'.tv k)=some t;rw[tv0 k h1];exact x1,x2,x3,x4,?_⟩;refine x5.names rfl λb hb=> ?_;obtain⟨y2,y3⟩:=x5.based hb;refine⟨y2,λl hl=> ?_⟩;have h1' :(if s.H l=none then none else g'.mu l)=some b:=hl;split at h1';cases h1';exact y3 l h1';have h1' :(if s.R k=none then none else g'.tv k)=some t:=hk;split at h1';cases h1';rename_i hne;cases hx:(s.with W m').R k with|some d=>exact⟨d,rfl⟩|none=>exact absurd hx ((zl hf' k).2 hne)
 have h1' :(if s.R k=none then none else g'.tv k)=some t:=h1;have h2' :(if s.R j=none then none else g'.tv j)=some u:=h2;split at h1';cases h1';split at h2';cases h2';exact h.mem.kN k j t u b h1' h2' h3 h4
end Abs
