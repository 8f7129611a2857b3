/- A part of a proof: an abstract machine, proved sound, or contracts of functions. No condition. -/
import Derived.Test.YtakobiabkfeelaaGreatTrysShelf
import Derived.Test.YtakobiabkfeelaaGreatT7
set_option linter.unusedVariables false
set_option linter.unusedSimpArgs false
set_option linter.defProp false
set_option maxRecDepth 100000
set_option maxHeartbeats 4000000
namespace Abs
open Go Go.Proofs Go.Sort
def Ut{w:World}{b:Nat}{c:Array Value}{e:TypeId}{fz:Nat×Nat}{zs:List Int}(hc:w.heap[b]? =some (.cells c e fz))(hfz:Hv fz c.size true)(h:∀(j:Nat) (x:Int),zs[j]? =some x->c[j]? =some (Value.int .i64 x)):Go.Sort.Holds (Value.int .i64) w b 0 zs.toArray:=by
 intro j hj;have hj' :j<zs.length:=qw
 have hx:=h j zs[j] (iM hj');have hlt:j<c.size:=(iN.1 hx).1;rw[eO];refine⟨(eB hc).trans ?_,DI hc hfz.1 hlt⟩;rw[hx];simp[hj']
def KM{vs:Array Value}(h:vs.size=1):∃v,vs= #[v]:=
 ⟨vs[0],by
  apply Array.ext;simp[h];intro i h2 h3;have:i=0:=af
  subst this;rfl⟩
def sort_ok(zs:List Int)(hsz:zs.length<2^62):aj Tryz.prog 218 [.ref 1000 (zs.map it).length] ⟨[],[⟨1,true,zs.map it⟩]⟩ (.bR []) ⟨[],[⟨1,true,(zs.mergeSort λx y=>decide (x<=y)).map it⟩]⟩:=by refine⟨⟨_,Tryz.func218,aB,aB⟩,λγ w vs hs hrep hmem=> ?_⟩;obtain⟨v,rfl⟩:=KM (hs:vs.size=1);have hr:bG γ v (.ref 1000 (zs.map yF).length):=hrep 0 v _ rfl rfl;by_cases hne:zs=[];subst hne;obtain⟨t,_,_,_,a,cp,rfl⟩:=hr.nB;refine Calls.mono (Tryz.slices_Sort_int_none a cp w) λe w' he=> ?_;obtain⟨rfl,rfl⟩:=he;exact⟨γ,Ext.refl γ,.bR rfl (λi v d hv=>ur),by rw[List.mergeSort_nil];exact hmem.names rfl rfl⟩;obtain⟨t,b,c,e,fz,h1,h2,h3,h4,rfl,h6,h7,h8,h9,h10,h11,h12,h13⟩:=row_one hmem hr hne;refine Calls.mono (Tryz.slices_Sort_int b 0 t.cap zs w (Ut h7 h8 h13) (cJ h7) af) λe w' he=> ?_;obtain⟨rfl,n,os,hw⟩:=he;obtain⟨γ',k1,k2,k3,_⟩:=Xg rfl hmem h1 h4 h3 h6 h7 h8 h9 h10 h11 h12 (ys:=zs.mergeSort λx y=>decide (x<=y)) ag n os hw true;exact⟨γ',k1,.bR rfl (λi v d hv=>ur),k3⟩
end Abs
namespace Abs
open Go Go.Proofs
def x_:=@List.cons_append
mutual
def flS:Sm->Nat->List (Sm×Nat)| .mk a b c d e f g h i j body sY,k=>(.mk a b c d e f g h i j body sY,k)::(w9 body (k+1)++w9 sY (k+1))
def w9:List Sm->Nat->List (Sm×Nat)|[],_=>[]|s::l,k=>flS s k++w9 l k
end
def Y2(s:Sm)(k:Nat):flS s k=(s,k)::(w9 s.body (k+1)++w9 s.sY (k+1)):=by cases s;simp[flS,Sm.body,Sm.sY]
mutual
def szS:Sm->Nat| .mk a b c d e f g h i j body sY=>1+(zp body+zp sY)
def zp:List Sm->Nat|[]=>0|s::l=>szS s+zp l
end
def WX(s:Sm):szS s=1+(zp s.body+zp s.sY):=by cases s;simp[szS,Sm.body,Sm.sY]
mutual
theorem flS_len:∀(s:Sm) (k:Nat),(flS s k).length=szS s
 | .mk a b c d e f g h i j body sY,k=>by
   simp only[flS,szS,eJ,fA,BQ body,BQ sY];omega
theorem BQ:∀(l:List Sm) (k:Nat),(w9 l k).length=zp l|[],_=>rfl|s::l,k=>by simp only[w9,zp,fA,flS_len s,BQ l]
end
theorem zo:∀(a b:List Sm),zp (a++b)=zp a+zp b|[],b=>by simp[zp]|s::a,b=>by simp only[x_,zp,zo a b];omega
theorem zX(k:Nat):∀(a b:List Sm),w9 (a++b) k=w9 a k++w9 b k|[],b=>by simp[w9]|s::a,b=>by simp only[x_,w9,zX k a b,pP]
def WY{ss:List Sm}{i:Nat}(h:i<ss.length):zp (ss.take (i+1))=zp (ss.take i)+szS ss[i]:=by rw[List.take_add_one,zo];simp[h,zp]
def szL_le{ss:List Sm}(i:Nat):zp (ss.take i)<=zp ss:=by have:=zo (ss.take i) (ss.drop i);rw[Ck]at this;omega
def szS_le{ss:List Sm}{i:Nat}(h:i<ss.length):zp (ss.take i)+szS ss[i]<=zp ss:=by rw[<-WY h];exact szL_le _
def sz_pos(s:Sm):1<=szS s:=by rw[WX];omega
theorem Iv:∀ss:List Sm,ss.length<=zp ss|[]=>by simp|s::l=>by have:=Iv l;have:=sz_pos s;simp only[eJ,zp];omega
structure CR where
 k:Nat
 acc:List au
def aZ.of{W:List Nat}{body:St->(Out->St->Prop)->Prop}{K:Out->St->Prop}{s:St}{ι:Type}(J:ι->Prop)(m:ι->vX)(μ:ι->Nat)(i0:ι)(h0:J i0)(hh:Holds s (s.with W (m i0)) (m i0))(hd:yZ s W=true)(hr:yY s (di W)=true)(ht:∀i,tidy W (di W) (m i)=true∧j8 s (m i).H=true∧j7 s (m i).R=true)(hb:∀i,J i->body (s.with W (m i)) λe s' =>match e with| .normal=>∃j:{i // J i},μ j.1<μ i∧s'.y=s.y∧Holds s' (s.with W (m j.1)) (m j.1)|e=>K e s'):aZ W body K s:=⟨{i // J i},⟨i0,h0⟩,λi=>m i.1,λ_=>s.y,λi=>μ i.1,⟨rfl,hh⟩,hd,hr,λi=>⟨ht i.1,hb i.1 i.2⟩⟩
def wl{α:Type}(w:α->List Int)(l:List α):List Int:=(l.length:Int)::l.flatMap w
def wl_len{α:Type}(w:α->List Int)(l:List α):(wl w l).length=1+(l.flatMap w).length:=by simp[wl];omega
def dw:=@Bool.eq_false_or_eq_true
def qt{G:Prop}(h:G:=by simp;exact hk):G:=h
def OP{G:Prop}(h:G:=by refine⟨⟨k+1,⟨hk,e⟩⟩,ik hk (gh _),?_⟩;exact vH):G:=h
def RA{G:Prop}(h:G:=by refine run ?_;exact fu.mk (aL (λx:Hd×Bool=>au.bR [oL x.1,bo x.2]) e.symm) rfl):G:=h
def vV{α:Type}(p:α->Bool)(z:α):List α->α×Bool|[]=>(z,false)|x::l=>if p x then(x,true)else vV p z l
def ix{α:Type}(p:α->Bool):List α->Nat->Int|[],_=> -1|x::l,i=>if p x then i else ix p l (i+1)
def fnd_yes{α:Type}{p:α->Bool}{z:α}{l:List α}{k:Nat}(hk:k<l.length)(h:p l[k]=true):vV p z (l.drop k)=(l[k],true):=by rw[rF hk];simp[vV,h]
def fnd_no{α:Type}{p:α->Bool}{z:α}{l:List α}{k:Nat}(hk:k<l.length)(h:p l[k]=false):vV p z (l.drop k)=vV p z (l.drop (k+1)):=by rw[rF hk];simp[vV,h]
def fnd_end{α:Type}{p:α->Bool}{z:α}{l:List α}{k:Nat}(hk:¬k<l.length):vV p z (l.drop k)=(z,false):=by rw[uK af];rfl
def ix_yes{α:Type}{p:α->Bool}{l:List α}{k i:Nat}(hk:k<l.length)(h:p l[k]=true):ix p (l.drop k) i=i:=by rw[rF hk];simp[ix,h]
def ix_no{α:Type}{p:α->Bool}{l:List α}{k i:Nat}(hk:k<l.length)(h:p l[k]=false):ix p (l.drop k) i=ix p (l.drop (k+1)) (i+1):=by rw[rF hk];simp[ix,h]
def ix_end{α:Type}{p:α->Bool}{l:List α}{k i:Nat}(hk:¬k<l.length):ix p (l.drop k) i= -1:=by rw[uK af];rfl
theorem Yx{α:Type}{p:α->Bool}(z:α):∀(l:List α) (i:Nat),(ix p l i= -1∧vV p z l=(z,false))∨∃j,∃h:j<l.length,ix p l i=((i+j:Nat):Int)∧vV p z l=(l[j],true)|[],i=> .inl ⟨rfl,rfl⟩|x::l,i=>by simp only[ix,vV];cases hx:p x with|true=>exact .inr ⟨0,ag,ag,ag⟩|false=>rcases Yx z l (i+1)with⟨h1,h2⟩|⟨j,hj,h1,h2⟩;exact .inl ⟨gJ,qx⟩;exact .inr ⟨j+1,by simp;exact hj,by simp[h1];omega,qx⟩
def HA:Hd:=⟨0,0,0,[],[]⟩
def HU:Sy:=⟨0,0,0,0,0,0,0,0,0,[],0⟩
def wy(p:Pg)(n:Int)(hl:p.aF.length<2^40):aj Tryz.prog 163 [qb p,it n] fZ ((λx:Hd×Bool=>au.bR [oL x.1,bo x.2]) (vV (λx=>x.id==n) HA p.aF)) fZ:=by
 refine fo Tryz.func163 ?_;refine run ?_;refine bB.mk ⟨[],aZ.lp (λk:Nat=>k<=p.aF.length∧vV (λx=>x.id==n) HA p.aF=vV (λx=>x.id==n) HA (p.aF.drop k)) (λk=>⟨[(11,it k)],[],[]⟩) (λk=>p.aF.length - k) 0 ⟨dL _,ag⟩ ?_⟩;intro k hJ;have h1:=hJ.1;have h2:=hJ.2;by_cases hk:k<p.aF.length;have b1:decide ((k:Int)<((p.aF.map oL).length:Nat))=true:=qt
 refine(dw (p.aF[k].id==n)).elim (λb2=> ?_) (λb2=> ?_);have e:=h2.trans (fnd_yes hk b2);refine run ?_;refine a_.map hk rfl ?_;exact RA;have e:=h2.trans (fnd_no hk b2);refine run ?_;refine a_.map hk rfl ?_;refine run ?_;exact OP;have b1:decide ((k:Int)<((p.aF.map oL).length:Nat))=false:=aA
 have e:=h2.trans (fnd_end hk);exact RA
def Mj(s:Sy)(n:Int):aj Tryz.prog 427 [eU s,.ptr 1000 0] ⟨[it n],[]⟩ (bo (s.id==n)) ⟨[it n],[]⟩:=by refine fo Tryz.func427 ?_;exact aT
def Mi(l:List Sy)(n:Int)(hl:l.length<2^40):aj Tryz.prog 426 [fj 11 eU l,.gB (.func 427) [] [.ptr 1000 0]] ⟨[it n],[]⟩ (it (ix (λx=>x.id==n) l 0)) ⟨[it n],[]⟩:=by
 refine fo Tryz.func426 ?_;refine run ?_;refine bB.mk ⟨[],aZ.lp (λk:Nat=>k<=l.length∧ix (λx=>x.id==n) l 0=ix (λx=>x.id==n) (l.drop k) k) (λk=>⟨[(8,it k)],[],[]⟩) (λk=>l.length - k) 0 ⟨dL _,ag⟩ ?_⟩;intro k hJ;have h1:=hJ.1;have h2:=hJ.2;by_cases hk:k<l.length;have b1:decide ((k:Int)<((l.map eU).length:Nat))=true:=qt
 have hc:=Mj l[k] n;refine(dw (l[k].id==n)).elim (λb2=> ?_) (λb2=> ?_);have e:=h2.trans (ix_yes hk b2);refine run ?_;refine a_.map hk rfl ?_;refine aN ?_;exact fu.mk (aL it e.symm) rfl;have e:=h2.trans (ix_no hk b2);refine run ?_;refine a_.map hk rfl ?_;refine aN ?_;exact OP;have b1:decide ((k:Int)<((l.map eU).length:Nat))=false:=aA
 have e:=h2.trans (ix_end hk);refine run ?_;exact fu.mk (aL it e.symm) rfl
def PS(l:List Sy)(n:Int)(hl:l.length<2^40):aj Tryz.prog 362 [fj 11 eU l,it n] fZ ((λx:Sy×Bool=>au.bR [eU x.1,bo x.2]) (vV (λx=>x.id==n) HU l)) fZ:=by
 have hi:=Mi l n hl;rcases Yx (p:=λx:Sy=>x.id==n) HU l 0 with⟨a,b⟩|⟨j,hj,a,b⟩;rw[a]at hi;rw[b];refine fo Tryz.func362 ?_;exact aW
 rw[a,eO]at hi;rw[b];have b1:decide ((j:Int)<0)=false:=ag
 refine fo Tryz.func362 ?_;refine aN ?_;refine a_.map hj rfl ?_;exact aT
def Ki:=@List.length_filter_le
def V4{G:Prop}(h:G:=by rw[rF h];simp[List.takeWhile,e]):G:=h
def NN{α:Type}{p:α->Bool}{l:List α}{k:Nat}(h:k<l.length):(l.take (k+1)).filter p=(l.take k).filter p++(if p l[k]then[l[k]]else[]):=by rw[List.take_add_one,List.filter_append];simp only[h,iM,Option.toList];by_cases e:p l[k]<;>simp[e]
def flt_yes{α:Type}{p:α->Bool}{l:List α}{k:Nat}(h:k<l.length)(e:p l[k]=true):(l.take (k+1)).filter p=(l.take k).filter p++[l[k]]:=by rw[NN h,aq e]
def flt_no{α:Type}{p:α->Bool}{l:List α}{k:Nat}(h:k<l.length)(e:p l[k]=false):(l.take (k+1)).filter p=(l.take k).filter p:=by rw[NN h,ah uu,jM]
def take_one{α:Type}{l:List α}{k:Nat}(h:k<l.length):l.take (k+1)=l.take k++[l[k]]:=(List.take_append_getElem h).symm
def Y1{α:Type}{p:α->Bool}{l:List α}(k:Nat):((l.take k).filter p).length<=l.length:=by have:=Ki p (l.take k);rw[mF]at this;omega
def tw_yes{α:Type}{p:α->Bool}{l:List α}{k:Nat}(h:k<l.length)(e:p l[k]=true):(l.drop k).takeWhile p=l[k]::(l.drop (k+1)).takeWhile p:=V4
def tw_no{α:Type}{p:α->Bool}{l:List α}{k:Nat}(h:k<l.length)(e:p l[k]=false):(l.drop k).takeWhile p=[]:=V4
theorem WU{α:Type}{p q:α->Bool}(h:∀x,p x=true->q x=false):∀l:List α,(l.takeWhile p).length+(l.filter q).length<=l.length|[]=>by simp|x::l=>by have ih:=WU h l;cases e:p x with|true=>simp[List.takeWhile,e,h x e];omega|false=>simp only[List.takeWhile,e,km,eO];exact Ki _ _
mutual
def wE:Ex->List Int| .mk op n v a=>op::n::v::(a.length:Int)::wEs a
def wEs:List Ex->List Int|[]=>[]|e::l=>wE e++wEs l
end
mutual
def wC:Co->List Int| .mk op a c=>op::(wl wE a++((c.length:Int)::wCs c))
def wCs:List Co->List Int|[]=>[]|e::l=>wC e++wCs l
end
mutual
def wS:Sm->List Int| .mk site op n m v x y c args cO body sY=>[site,op,n,m,v]++(wE x++(wE y++(wC c++(wl wE args++(((cO.length:Int)::cO)++(((body.length:Int)::wSs body)++((sY.length:Int)::wSs sY)))))))
def wSs:List Sm->List Int|[]=>[]|e::l=>wS e++wSs l
end
theorem WI:∀l,wSs l=l.flatMap wS|[]=>by simp[wSs]|e::l=>by simp[wSs,WI l]
def wI(n:Int):List Int:=[n]
def wl_one(l:List Int):wl wI l=(l.length:Int)::l:=by
 have:l.flatMap wI=l:=by induction l with|nil=>rfl|cons x l ih=>rw[mH,ih];rfl
 rw[wl,this]
def wS_eq(s:Sm):wS s=[[s.site,s.op,s.n,s.m,s.v],wE s.x,wE s.y,wC s.c,wl wE s.args,wl wI s.cO,wl wS s.body,wl wS s.sY].flatten:=by cases s;simp[wS,wl_one,WI,Sm.site,Sm.op,Sm.n,Sm.m,Sm.v,Sm.x,Sm.y,Sm.c,Sm.args,Sm.cO,Sm.body,Sm.sY];simp[wl]
def PL(s:Sm):(wS s).length=5+(wE s.x).length+(wE s.y).length+(wC s.c).length+(wl wE s.args).length+(wl wI s.cO).length+(wl wS s.body).length+(wl wS s.sY).length:=by rw[wS_eq];exact aA
def wrap_u64(x:Int):IntKind.u64.wrap x=x%18446744073709551616:=by simp[IntKind.wrap,IntKind.bits,IntKind.signed]
def w8(b:UInt8):List Int:=[(b.toNat:Int)]
def VR{G:Prop}(h:G:=by rw[CW];exact ih _ (by omega) (by omega)):G:=h
def OR{G:Prop}(h:G:=by refine⟨⟨⟨r.k+1,_⟩,⟨hk,hN⟩⟩,ik hk (gh _),?_⟩;exact vH):G:=h
mutual
def fS:Sm->List Sm| .mk a b c d e f g h i j body sY=> .mk a b c d e f g h i j body sY::(vY body++vY sY)
def vY:List Sm->List Sm|[]=>[]|s::l=>fS s++vY l
end
def fS_eq(s:Sm):fS s=s::(vY s.body++vY s.sY):=by cases s;simp[fS,Sm.body,Sm.sY]
theorem Y4:∀l,vY l=l.flatMap fS|[]=>by simp[vY]|s::l=>by simp[vY,Y4 l]
mutual
theorem flS_fst:∀(s:Sm) (k:Nat),(flS s k).map Prod.fst=fS s| .mk a b c d e f g h i j body sY,k=>by simp only[flS,fS,n_,eI,BR body,BR sY]
theorem BR:∀(l:List Sm) (k:Nat),(w9 l k).map Prod.fst=vY l|[],_=>rfl|s::l,k=>by simp only[w9,vY,eI,flS_fst s,BR l]
end
def CS(l:List Sm):(vY l).length=zp l:=by rw[<-BR l 0,cZ,BQ]
def Y0{α β:Type}{w:α->List β}{l:List α}{k:Nat}(h:k<l.length):(l.take (k+1)).flatMap w=(l.take k).flatMap w++w l[k]:=by rw[take_one h];simp[-List.take_append_getElem]
def fm_szL(l:List Sm)(k:Nat):((l.take k).flatMap fS).length=zp (l.take k):=by rw[<-Y4,CS]
theorem NP:∀(n:Nat) (l:List Sm),zp l<n->zp l<2^30->aj Tryz.prog 116 [.sl 20 (l.map encS) false] fZ (fj 20 encS (vY l)) fZ:=by
 intro n;induction n with
 |zero=>intro l h;omega
 |succ n ih=>
  intro l h hb;have hl:=Iv l;refine fo Tryz.func116 ?_;refine run ?_;refine bB.mk ⟨[],aZ.lp (λr:CR=>r.k<=l.length∧r.acc=((l.take r.k).flatMap fS).map encS) (λr=>⟨[(4,it r.k),(3,.ref 5 r.acc.length)],[],[(5,⟨20,true,r.acc⟩)]⟩) (λr=>l.length - r.k) ⟨0,[]⟩ ⟨dL _,ag⟩ ?_⟩;intro r hJ;have h1:=hJ.1;have h2:=hJ.2;by_cases hk:r.k<l.length;have b1:decide ((r.k:Int)<((l.map encS).length:Nat))=true:=qt;have hz:=szS_le hk;have e2:=WX l[r.k];have hA:aj Tryz.prog 116 [.sl 20 (xj l[r.k].body) false] fZ (fj 20 encS (vY l[r.k].body)) fZ:=VR
  have hB:aj Tryz.prog 116 [.sl 20 (xj l[r.k].sY) false] fZ (fj 20 encS (vY l[r.k].sY)) fZ:=VR;have la:=CS l[r.k].body;have lb:=CS l[r.k].sY;have hlen:r.acc.length=zp (l.take r.k):=by rw[h2,cZ,fm_szL]
  have hN:((r.acc++[encS l[r.k]])++(vY l[r.k].body).map encS)++(vY l[r.k].sY).map encS=((l.take (r.k+1)).flatMap fS).map encS:=(by rw[h2,Y0 hk,fS_eq];simp);refine aN ?_;refine a_.map hk rfl ?_;refine aN ?_;refine a_.map hk rfl ?_;refine aN ?_;refine a_.map hk rfl ?_;refine aN ?_;exact OR;have b1:decide ((r.k:Int)<((l.map encS).length:Nat))=false:=aA;have e:r.acc=(vY l).map encS:=by rw[h2,og af,Y4]
  refine run ?_;exact fu.mk (aL (λx=>au.sl 20 x false) e) rfl
def AV:=@List.length_range
def V9{G:Prop}(h:G:=by unfold Bh;rw[uQ,List.filter_append];simp[h]):G:=h
def Jw{G:Prop}(h:G:=by refine⟨⟨⟨q.k+1,_⟩,⟨gk,gN⟩⟩,ik gk (gh _),?_⟩;exact vH):G:=h
def kF{G:Prop}(h:G:=by rw[hL];exact aA):G:=h
def Z_(mask:Int):au:= .agg [it (-2147483648),it 2147483647,it 1,it 0,it mask]
def PT:aj Tryz.prog 203 [it (-2147483648),it 1] fZ (it 0) fZ:=by
 have a1:(-2147483648:Int).tmod 1+1=1:=az
 refine fo Tryz.func203 ?_;exact aT
def Tu:aj Tryz.prog 144 [it (-2147483648),it 2147483647,it 1,it 255] fZ (Z_ 255) fZ:=by
 have h:=PT;have a1:(2147483647:Int) - (2147483647 - -2147483648:Int).tmod 1=2147483647:=az
 have a2:IntKind.i64.wrap ((2147483647 - -2147483648:Int).tdiv 1)*1=4294967295:=az
 refine fo Tryz.func144 ?_;exact aW
def PU:aj Tryz.prog 285 [it 255] fZ (Z_ 255) fZ:=by have h:=Tu;refine fo Tryz.func285 ?_;exact aW
def Bh(a b:Nat):List Pa:=((List.range b).filter λj=> !(Nat.beq a j)).map λj:Nat=>⟨a,j,0⟩
def pX(n:Nat):List Pa:=(List.range n).flatMap λa=>Bh a 3
def rH(c:Int):Sy:=⟨c,-2147483648,2147483647,1,0,255,4294967294,7,0,pX 3,1099511627776⟩
def topC(c:Int)(ps:au):List au:=[it c,it (-2147483648),it 2147483647,it 1,it 0,it 255,it 4294967294,it 7,it 0,ps,it 1099511627776]
def Xh{a b:Nat}(h:(!(Nat.beq a b))=true):Bh a (b+1)=Bh a b++[⟨a,b,0⟩]:=V9
def rowT_no{a b:Nat}(h:(!(Nat.beq a b))=false):Bh a (b+1)=Bh a b:=V9
def nbeq_no{a b:Nat}(h:(!(Nat.beq a b))=false):a=b:=by cases hb:Nat.beq a b with|true=>exact dt hb|false=>rw[hb]at h;cases h
def XZ{a b:Nat}(h:(!(Nat.beq a b))=true):¬a=b:=λe=>by rw[e,Nat.beq_refl]at h;cases h
def Sk(a b:Nat):(Bh a b).length<=b:=by unfold Bh;rw[cZ];have:=Ki (λj=> !(Nat.beq a j)) (List.range b);rwa[AV]at this
def Dt(n:Nat):pX (n+1)=pX n++Bh n 3:=by unfold pX;rw[uQ];simp
theorem Ii:∀n,(pX n).length<=3*n|0=>by simp[pX]|n+1=>by rw[Dt,fA];have:=Ii n;have:=Sk n 3;omega
def R_(p:Pg)(c:Int):Sy:=if (vV (λx:Hd=>x.id==c) HA p.aF).2 then rH c else HU
def topE(p:Pg)(c:Int):Int:=if (vV (λx:Hd=>x.id==c) HA p.aF).2 then 0 else 4
def Tm(p:Pg)(c:Int)(hL:p.d.aM=3)(hh:p.aF.length<2^40):aj Tryz.prog 363 [qb p,it c] fZ (.bR [eU (R_ p c),it (topE p c)]) fZ:=by
 have hd:=wy p c hh;have ha:=PU;have s1:IntKind.i64.wrap (1*2^(min p.d.aM.toNat IntKind.i64.bits)) - 1=7:=by rw[hL];decide
 have hn:0<=p.d.aM:=af
 refine(dw ((vV (λx:Hd=>x.id==c) HA p.aF).2)).elim (λb0=> ?_) (λb0=> ?_);have e1:R_ p c=rH c:=aq b0;have c0:(!(vV (λx:Hd=>x.id==c) HA p.aF).2)=false:=by rw[b0];rfl
 have e2:topE p c=0:=aq b0;rw[e1,e2];refine fo Tryz.func363 ?_;refine aN ?_;refine bB.mk ⟨[.cell 8 9 20006],aZ.lp (λr:CR=>r.k<=3∧r.acc=(pX r.k).map bF) (λr=>⟨[(31,it r.k)],[(8,.agg (topC c (.ref 20006 r.acc.length)))],[(20006,⟨3,true,r.acc⟩)]⟩) (λr=>3 - r.k) ⟨0,[]⟩ ⟨dL _,rfl⟩ ?_⟩;intro r hJ;have h1:=hJ.1;have h2:=hJ.2;by_cases hk:r.k<3;have b1:decide ((r.k:Int)<p.d.aM)=true:=kF;have hlen:r.acc.length=(pX r.k).length:=by rw[h2,cZ]
 have hle:=Ii r.k;refine run ?_;refine bB.mk ⟨[],aZ.lp (λq:CR=>q.k<=3∧q.acc=r.acc++(Bh r.k q.k).map bF) (λq=>⟨[(37,it q.k)],[(8,.agg (topC c (.ref 20006 q.acc.length)))],[(20006,⟨3,true,q.acc⟩)]⟩) (λq=>3 - q.k) ⟨0,r.acc⟩ ⟨dL _,by simp[Bh]⟩ ?_⟩;intro q hq;have q1:=hq.1;have q2:=hq.2;by_cases gk:q.k<3;have d1:decide ((q.k:Int)<p.d.aM)=true:=kF;have glen:q.acc.length=r.acc.length+(Bh r.k q.k).length:=by rw[q2];simp
 have gle:=Sk r.k q.k;refine(dw (!(Nat.beq r.k q.k))).elim (λd2=> ?_) (λd2=> ?_);have d3:¬r.k=q.k:=XZ d2;have ne:(!decide ((r.k:Int)=(q.k:Int)))=true:=aA
 have gN:q.acc++[bF ⟨r.k,q.k,0⟩]=r.acc++(Bh r.k (q.k+1)).map bF:=(by rw[q2,Xh d2,eI,<-pP];rfl);refine run ?_;exact Jw;have d3:r.k=q.k:=nbeq_no d2;have ne:(!decide ((r.k:Int)=(q.k:Int)))=false:=by rw[d3];simp
 have gN:q.acc=r.acc++(Bh r.k (q.k+1)).map bF:=(by rw[q2,rowT_no d2]);refine run ?_;exact Jw;have d1:decide ((q.k:Int)<p.d.aM)=false:=kF;have e:q.acc=(pX (r.k+1)).map bF:=by rw[q2,h2,show q.k=3 by omega,Dt,eI]
 refine run ?_;refine⟨⟨⟨r.k+1,_⟩,⟨hk,e⟩⟩,ik hk (gh _),?_⟩;exact vH;have b1:decide ((r.k:Int)<p.d.aM)=false:=kF;have e:r.acc=(pX 3).map bF:=by rw[h2,show r.k=3 by omega]
 refine run ?_;exact fu.mk (aL (λx=>au.bR [.agg (topC c (.sl 3 x false)),it 0]) e) rfl;have e1:R_ p c=HU:=ah (by rw[b0];simp);have c0:(!(vV (λx:Hd=>x.id==c) HA p.aF).2)=true:=by rw[b0];rfl
 have e2:topE p c=4:=ah (by rw[b0];simp);rw[e1,e2];refine fo Tryz.func363 ?_;exact aW
def map_take{α β:Type}{f:α->β}{l:List α}{k:Nat}(h:k<l.length):(l.take (k+1)).map f=(l.take k).map f++[f l[k]]:=by rw[take_one h,eI];rfl
def AP:=@UInt8.toNat_lt
def nZ{G:Prop}(h:G:=by simp only[uT];omega):G:=h
def a_.mapE{α:Type}{xs:List α}{f:α->au}{i:Int}(k:Nat){n:Nat}{K:au->Prop}(e:i=k)(hk:k<xs.length)(hn:n=(xs.map f).length)(h:K (f xs[k])):a_ n (xs.map f) i K:=by subst e;exact a_.map hk hn h
structure Mk where
 L:List UInt8
 d:Dc
 aF:List Hd
 defs:List Df
 th:List Int
 D:Df
 calm:Bool
def N1(m:Mk)(a s l p d:Nat):au:= .agg ([U_ m.L,it a]++(ZR m.d++([.ref 1000 (m.aF.map oL).length,.ref 1001 (m.defs.map bQ).length,.ref 1002 (m.th.map it).length]++(cD m.D++[it s,it l,it p,it d,bo m.calm]))))
def jX(m:Mk)(a s l p d:Nat):Ct:=⟨[N1 m a s l p d],[⟨5,true,m.aF.map oL⟩,⟨12,true,m.defs.map bQ⟩,⟨1,true,m.th.map it⟩]⟩
abbrev mp:au:= .ptr 1000 0
def Mk.nx(m:Mk)(a:Nat)(n:Int):Int:=(((m.L.getD a 0).toNat:Nat):Int).tmod n
def Mk.bS(m:Mk)(a:Nat){n:Int}(h:0<n):0<=m.nx a n∧m.nx a n<n:=⟨dz _ af,fw _ h⟩
def bD(m:Mk)(a s l p d:Nat)(n:Int)(h:a<2^60)(hn:0<n):aj Tryz.prog 170 [mp,it n] (jX m a s l p d) (it (m.nx a n)) (jX m (a+1) s l p d):=by
 by_cases hl:a<m.L.length;have hb:decide ((a:Int)+1>((m.L.map λb=>au.int .u8 b.toNat).length:Nat))=false:=aA
 have hu:=AP (m.L[a]);refine fo Tryz.func170 ?_;refine run ?_;refine a_.mapE a af af rfl ?_;refine run ?_;refine fu.mk (aL it ?_) rfl;simp[Mk.nx,List.getD,hl];have hb:decide ((a:Int)+1>((m.L.map λb=>au.int .u8 b.toNat).length:Nat))=true:=aA
 refine fo Tryz.func170 ?_;refine run ?_;refine fu.mk (aL it ?_) rfl;simp[Mk.nx,List.getD,hl]
def dH(m:Mk)(a s l p d:Nat)(h:s<2^60):aj Tryz.prog 221 [mp] (jX m a s l p d) (it (s+1:Nat)) (jX m a (s+1) l p d):=by refine fo Tryz.func221 ?_;exact aT
def qc(v:Int):Ex:= .mk 1 0 v []
def HP(v:Int):Ex:= .mk 2 v 0 []
def Zc(op:Int)(a b:Ex):Ex:= .mk op 0 0 [a,b]
def I_(op:Int)(a b:Ex):Co:= .mk op [a,b] []
def ZQ(c:Co):Co:= .mk 5 [] [c]
def fK(v:Int):aj Tryz.prog 45 [it v] fZ (cI (qc v)) fZ:=by refine fo Tryz.func45 ?_;exact aT
def WK(v:Int):aj Tryz.prog 44 [it v] fZ (cI (HP v)) fZ:=by refine fo Tryz.func44 ?_;exact aT
def ZW(v:Int)(a b:Ex):aj Tryz.prog 377 [it v,cI a,cI b] fZ (cI (Zc v a b)) fZ:=by cases a;cases b;refine fo Tryz.func377 ?_;exact aT
def Sc(v:Int)(a b:Ex):aj Tryz.prog 127 [it v,cI a,cI b] fZ (fN (I_ v a b)) fZ:=by cases a;cases b;refine fo Tryz.func127 ?_;exact aT
def XN(a:Co):aj Tryz.prog 376 [fN a] fZ (fN (ZQ a)) fZ:=by cases a;refine fo Tryz.func376 ?_;exact aT
def Mk.expr(m:Mk):Nat->Nat->Ex×Nat
 |0,a=>(qc (m.nx (a+1) 14 - 3),a+1+1)
 |n+1,a=>
  if m.nx a 12<4 then(qc (m.nx (a+1) 14 - 3),a+1+1)
  else if m.nx a 12<9 then(HP (m.nx (a+1) m.D.vars),a+1+1)
  else if m.nx a 12=9∧0<m.D.aK.length then(.mk 3 (m.nx (a+1) m.D.aK.length) 0 [],a+1+1)
  else(Zc (4+m.nx (a+1) 7) (m.expr n (a+1+1)).1 (m.expr n (m.expr n (a+1+1)).2).1,(m.expr n (m.expr n (a+1+1)).2).2)
def uT:Nat->Nat|0=>2|n+1=>2+2*uT n
def L7(n:Nat):2<=uT n:=by cases n<;>simp[uT]
theorem Mk.fJ(m:Mk):∀n a,a<=(m.expr n a).2∧(m.expr n a).2<=a+uT n|0,a=>by simp only[Mk.expr,uT];omega|n+1,a=>by have h1:=Mk.fJ m n (a+1+1);have h2:=Mk.fJ m n (m.expr n (a+1+1)).2;have h3:=L7 n;rw[Mk.expr];split;exact nZ;split;exact nZ;split;exact nZ;exact nZ
theorem qM(m:Mk)(s l p d:Nat)(hv:0<m.D.vars)(n:Nat):∀(a:Nat) (_:a+uT n<2^60) (_:n<2^60),aj Tryz.prog 325 [mp,it n] (jX m a s l p d) (cI (m.expr n a).1) (jX m ((m.expr n a).2) s l p d):=by
 induction n with
 |zero=>
  intro a h hn;have b1:=m.bS a (n:=12) af;have b2:=m.bS (a+1) (n:=14) af;simp only[uT]at h;refine(dw (decide (m.nx a 12<4))).elim (λh1=> ?_) (λh1=> ?_);all_goals
   refine fo Tryz.func325 ?_;refine run ?_;repeat((apply aE;first|exact(bD m _ _ _ _ _ _ af af)|exact(fK _));refine run ?_)
   exact aG
 |succ n ih=>
  intro a h hn;have b1:=m.bS a (n:=12) af;have b2:=m.bS (a+1) (n:=14) af;have b3:=m.bS (a+1) (n:=7) af;have g1:=m.fJ n (a+1+1);have g2:=m.fJ n (m.expr n (a+1+1)).2;have g3:=L7 n;simp only[uT]at h;have h2:(((n+1:Nat):Int)==0)=false:=aA
  have e1:((n+1:Nat):Int) - 1=(n:Int):=af
  refine(dw (decide (m.nx a 12<4))).elim (λh1=> ?_) (λh1=> ?_)
  ·have e:m.expr (n+1) a=(qc (m.nx (a+1) 14 - 3),a+1+1):=(by rw[Mk.expr,aq gJ]);rw[e];refine fo Tryz.func325 ?_;refine run ?_;repeat((apply aE;first|exact(bD m _ _ _ _ _ _ af af)|exact(fK _));refine run ?_)
   exact aG
  have n1:¬m.nx a 12<4:=gJ
  refine(dw (decide (m.nx a 12<9))).elim (λh3=> ?_) (λh3=> ?_)
  ·have e:m.expr (n+1) a=(HP (m.nx (a+1) m.D.vars),a+1+1):=(by rw[Mk.expr,ah n1,aq uz]);rw[e];refine fo Tryz.func325 ?_;refine run ?_;repeat((apply aE;first|exact(bD m _ _ _ _ _ _ af af)|exact(WK _));refine run ?_)
   exact aG
  have n2:¬m.nx a 12<9:=uz
  by_cases h4:m.nx a 12=9∧0<m.D.aK.length
  ·have e:m.expr (n+1) a=(.mk 3 (m.nx (a+1) m.D.aK.length) 0 [],a+1+1):=(by rw[Mk.expr,ah n1,ah n2,aq h4]);have e2:(m.nx a 12==9)=true:=by simp[h4.1]
   have e3:decide ((((m.D.aK.map kz).length:Nat):Int)>0)=true:=(by simp;exact h4.2);have e4:((m.D.aK.map kz).length:Int)=m.D.aK.length:=ag
   rw[e,<-e4];refine fo Tryz.func325 ?_;refine run ?_;repeat((apply aE;first|exact(bD m _ _ _ _ _ _ af af));refine run ?_)
   exact aG
  have e:m.expr (n+1) a=(Zc (4+m.nx (a+1) 7) (m.expr n (a+1+1)).1 (m.expr n (m.expr n (a+1+1)).2).1,(m.expr n (m.expr n (a+1+1)).2).2):=by rw[Mk.expr,ah n1,ah n2,ah h4]
  rw[e];refine(dw (m.nx a 12==9)).elim (λe2=> ?_) (λe2=> ?_)
  ·have e3:decide ((((m.D.aK.map kz).length:Nat):Int)>0)=false:=(by simp at e2 h4 ⊢;exact h4 e2);refine fo Tryz.func325 ?_;refine run ?_;repeat((apply aE;first|exact(bD m _ _ _ _ _ _ af af)|exact(ih _ af af)|exact(ZW _ _ _));refine run ?_)
   exact aG
  ·refine fo Tryz.func325 ?_;refine run ?_;repeat((apply aE;first|exact(bD m _ _ _ _ _ _ af af)|exact(ih _ af af)|exact(ZW _ _ _));refine run ?_)
   exact aG
def Pb{G:Prop}(h:G:=by have:=ok.vars;have:=m.M5;omega):G:=h
def uk{G:Prop}(h:G:=by simp only[DQ];omega):G:=h
def Mk.nP(m:Mk):Int:=((m.D.params.map bp).length:Nat)
def Mk.nA(m:Mk):Int:=((m.D.aK.map kz).length:Nat)
def Mk.M5(m:Mk):m.nP=m.D.params.length:=by simp[Mk.nP]
def Mk.nA_eq(m:Mk):m.nA=m.D.aK.length:=by simp[Mk.nA]
structure Mk.Ok(m:Mk):Prop where
 vars:m.nP<m.D.vars∧m.D.vars<2^40∧m.nP<2^40
 arr:0<m.nA∧m.nA<2^40
def Mk.cond(m:Mk):Nat->Nat->Co×Nat
 |0,a=>(I_ (2+(m.nx a 8).tmod 3) (m.expr 1 (a+1)).1 (m.expr 1 (m.expr 1 (a+1)).2).1,(m.expr 1 (m.expr 1 (a+1)).2).2)
 |n+1,a=>
  if m.nx a 8<6 then(I_ (2+(m.nx a 8).tmod 3) (m.expr 1 (a+1)).1 (m.expr 1 (m.expr 1 (a+1)).2).1,(m.expr 1 (m.expr 1 (a+1)).2).2)
  else if m.nx a 8=6 then(ZQ (m.cond n (a+1)).1,(m.cond n (a+1)).2)
  else(.mk (6+m.nx (m.cond n (a+1)).2 2) [] [(m.cond n (a+1)).1,(m.cond n ((m.cond n (a+1)).2+1)).1],(m.cond n ((m.cond n (a+1)).2+1)).2)
def DQ:Nat->Nat|0=>13|n+1=>2+2*DQ n
def R8(n:Nat):13<=DQ n:=by induction n with|zero=>simp[DQ]|succ n ih=>exact uk
theorem Mk.vC(m:Mk):∀n a,a<=(m.cond n a).2∧(m.cond n a).2<=a+DQ n|0,a=>by have h1:=m.fJ 1 (a+1);have h2:=m.fJ 1 (m.expr 1 (a+1)).2;simp only[Mk.cond,DQ];simp only[uT]at h1 h2;omega|n+1,a=>by have h1:=m.fJ 1 (a+1);have h2:=m.fJ 1 (m.expr 1 (a+1)).2;have h3:=Mk.vC m n (a+1);have h4:=Mk.vC m n ((m.cond n (a+1)).2+1);have h5:=R8 n;rw[Mk.cond];simp only[uT]at h1 h2;split;exact uk;split;exact uk;exact uk
def Zb(v:Int)(a b:Co):fN (.mk v [] [a,b])= .agg [it v,.sl 4 [] false,.sl 3 [fN a,fN b] false]:=by cases a;cases b;rfl
theorem LC(m:Mk)(s l p d:Nat)(hv:0<m.D.vars)(n:Nat):∀(a:Nat) (_:a+DQ n<2^60) (_:n<2^60),aj Tryz.prog 322 [mp,it n] (jX m a s l p d) (fN (m.cond n a).1) (jX m ((m.cond n a).2) s l p d):=by
 have one:∀a,a+6<2^60->aj Tryz.prog 325 [mp,it 1] (jX m a s l p d) (cI (m.expr 1 a).1) (jX m ((m.expr 1 a).2) s l p d):=λa h=>qM m s l p d hv 1 a nZ af;induction n with
 |zero=>
  intro a h hn;have b1:=m.bS a (n:=8) af;have b2:0<=(m.nx a 8).tmod 3∧(m.nx a 8).tmod 3<3:=⟨dz _ b1.1,fw _ af⟩;have h1:=m.fJ 1 (a+1);have h2:=m.fJ 1 (m.expr 1 (a+1)).2;simp only[uT]at h1 h2;simp only[DQ]at h;refine(dw (decide (m.nx a 8<6))).elim (λh1=> ?_) (λh1=> ?_);all_goals
   refine fo Tryz.func322 ?_;refine run ?_;repeat((apply aE;first|exact(bD m _ _ _ _ _ _ af af)|exact(one _ af)|exact(Sc _ _ _));refine run ?_)
   exact aG
 |succ n ih=>
  intro a h hn;have b1:=m.bS a (n:=8) af;have b2:0<=(m.nx a 8).tmod 3∧(m.nx a 8).tmod 3<3:=⟨dz _ b1.1,fw _ af⟩;have b3:=m.bS (m.cond n (a+1)).2 (n:=2) af;have g1:=m.fJ 1 (a+1);have g2:=m.fJ 1 (m.expr 1 (a+1)).2;simp only[uT]at g1 g2;have g3:=m.vC n (a+1);have g4:=m.vC n ((m.cond n (a+1)).2+1);have g5:=R8 n;simp only[DQ]at h;have h2:(((n+1:Nat):Int)==0)=false:=aA
  have e1:((n+1:Nat):Int) - 1=(n:Int):=af
  refine(dw (decide (m.nx a 8<6))).elim (λh1=> ?_) (λh1=> ?_)
  ·have e:m.cond (n+1) a=(I_ (2+(m.nx a 8).tmod 3) (m.expr 1 (a+1)).1 (m.expr 1 (m.expr 1 (a+1)).2).1,(m.expr 1 (m.expr 1 (a+1)).2).2):=(by rw[Mk.cond,aq gJ]);rw[e];refine fo Tryz.func322 ?_;refine run ?_;repeat((apply aE;first|exact(bD m _ _ _ _ _ _ af af)|exact(one _ af)|exact(Sc _ _ _));refine run ?_)
   exact aG
  have n1:¬m.nx a 8<6:=gJ
  refine(dw (m.nx a 8==6)).elim (λh3=> ?_) (λh3=> ?_)
  ·have e:m.cond (n+1) a=(ZQ (m.cond n (a+1)).1,(m.cond n (a+1)).2):=(by rw[Mk.cond,ah n1,aq uz]);rw[e];refine fo Tryz.func322 ?_;refine run ?_;repeat((apply aE;first|exact(bD m _ _ _ _ _ _ af af)|exact(ih _ af af)|exact(XN _));refine run ?_)
   exact aG
  ·have e:m.cond (n+1) a=(.mk (6+m.nx (m.cond n (a+1)).2 2) [] [(m.cond n (a+1)).1,(m.cond n ((m.cond n (a+1)).2+1)).1],(m.cond n ((m.cond n (a+1)).2+1)).2):=(by rw[Mk.cond,ah n1,ah uz]);rw[e];refine fo Tryz.func322 ?_;refine run ?_;repeat((apply aE;first|exact(bD m _ _ _ _ _ _ af af)|exact(ih _ af af)|exact(XN _));refine run ?_)
   exact fu.mk (Zb _ _ _).symm rfl
def Mk.tg(m:Mk)(a:Nat):Int:=m.nP+m.nx a (m.D.vars - m.nP)
def dd(m:Mk)(a s l p d:Nat)(h:a<2^60)(ok:m.Ok):aj Tryz.prog 323 [mp] (jX m a s l p d) (it (m.tg a)) (jX m (a+1) s l p d):=by
 have h1:=ok.vars;have h2:=m.bS a (n:=m.D.vars - m.nP) af;have h3:m.nP=((m.D.params.map bp).length:Nat):=rfl;rw[h3]at h1 h2;refine fo Tryz.func323 ?_;refine run ?_;repeat((apply aE;first|exact(bD m _ _ _ _ _ _ af af));refine run ?_)
 exact aG
def zE:Ex:= .mk 0 0 0 []
def zC:Co:= .mk 0 [] []
def S0(site op n m v:Int)(x y:Ex)(c:Co):Sm:= .mk site op n m v x y c [] [] [] []
def Mk.simple(m:Mk)(a s:Nat):List Sm×Nat×Nat:=
 if m.nx a 8=0 then([S0 (s+1:Nat) 2 (m.tg (a+1)) 0 0 (qc (m.nx (a+1+1) 4)) zE zC],a+1+1+1,s+1)
 else if m.nx a 8=1 then([S0 (s+1:Nat) 3 0 0 0 (qc (m.nx (a+1) 4)) (m.expr 2 (a+1+1)).1 zC],(m.expr 2 (a+1+1)).2,s+1)
 else if m.nx a 8=2 then([S0 (s+1:Nat) 4 (m.tg (a+1)) (m.nx (a+1+1) 2) 0 zE zE zC],a+1+1+1,s+1)
 else if m.nx a 8=3 then([S0 (s+1:Nat) 20 (m.tg (a+1)) (m.nx (a+1+1) 2) 0 zE zE zC],a+1+1+1,s+1)
 else if m.nx a 8=4 then([S0 (s+1:Nat) 16 0 (m.nx (a+1) 3) 0 zE zE zC,S0 (s+1+1:Nat) 5 0 0 0 (qc (m.nx (a+1+1) 9)) zE zC,S0 (s+1+1+1:Nat) 17 0 (m.nx (a+1) 3) 0 zE zE zC],a+1+1+1,s+1+1+1)
 else if m.nx a 8=5 then([S0 (s+1:Nat) 6 1 0 0 zE zE zC,S0 (s+1+1:Nat) 9 1 0 0 (m.expr 1 (a+1)).1 zE zC,S0 (s+1+1+1:Nat) 7 1 0 0 zE zE zC],(m.expr 1 (a+1)).2,s+1+1+1)
 else([S0 (s+1:Nat) 1 (m.tg (a+1)) 0 0 (m.expr 2 (a+1+1)).1 zE zC],(m.expr 2 (a+1+1)).2,s+1)
def Mk.risky(m:Mk)(a s:Nat):Sm×Nat×Nat:=
 if m.nx a 15=0∨m.nx a 15=1 then(S0 (s+1:Nat) 2 (m.tg (a+1)) (m.nx (a+1+1) m.nA) 0 (m.expr 1 (a+1+1+1)).1 zE zC,(m.expr 1 (a+1+1+1)).2,s+1)
 else if m.nx a 15=2 then(S0 (s+1:Nat) 3 0 (m.nx (a+1) m.nA) 0 (m.expr 1 (a+1+1)).1 (m.expr 1 (m.expr 1 (a+1+1)).2).1 zC,(m.expr 1 (m.expr 1 (a+1+1)).2).2,s+1)
 else if m.nx a 15=3 then(S0 (s+1:Nat) 5 0 (m.nx (a+1) 2) 0 (m.expr 1 (a+1+1)).1 zE zC,(m.expr 1 (a+1+1)).2,s+1)
 else if m.nx a 15=4 then(S0 (s+1:Nat) 6 (m.nx (a+1) 2) 0 0 zE zE zC,a+1+1,s+1)
 else if m.nx a 15=5 then(S0 (s+1:Nat) 7 (m.nx (a+1) 2) 0 0 zE zE zC,a+1+1,s+1)
 else if m.nx a 15=6 then(S0 (s+1:Nat) 8 (m.nx (a+1) 2) (m.nx (a+1+1) 2) 0 zE zE zC,a+1+1+1,s+1)
 else if m.nx a 15=7 then(S0 (s+1:Nat) 10 (m.tg (a+1)) (m.nx (a+1+1) 2) 0 zE zE zC,a+1+1+1,s+1)
 else if m.nx a 15=8 then(S0 (s+1:Nat) (16+m.nx (a+1) 2) 0 (m.nx (a+1+1) 3) 0 zE zE zC,a+1+1+1,s+1)
 else if m.nx a 15=9 then(S0 (s+1:Nat) 18 0 0 0 (m.expr 1 (a+1)).1 zE zC,(m.expr 1 (a+1)).2,s+1)
 else if m.nx a 15=10 then(S0 (s+1:Nat) 19 (m.tg (a+1)) 0 0 zE zE zC,a+1+1,s+1)
 else if m.nx a 15=11 then(S0 (s+1:Nat) 21 0 (m.nx (a+1) 3) 0 (m.expr 1 (a+1+1)).1 zE zC,(m.expr 1 (a+1+1)).2,s+1)
 else if m.nx a 15=12 then(S0 (s+1:Nat) 22 0 (m.nx (a+1) 3) 0 zE zE zC,a+1+1,s+1)
 else if m.nx a 15=13 then(S0 (s+1:Nat) 23 0 0 0 zE zE (m.cond 1 (a+1)).1,(m.cond 1 (a+1)).2,s+1)
 else(S0 (s+1:Nat) 9 (m.nx (a+1) 2) 0 0 (m.expr 1 (a+1+1)).1 zE zC,(m.expr 1 (a+1+1)).2,s+1)
def TD(m:Mk)(a s l p d:Nat)(h:a+100<2^60)(h' :s+10<2^60)(ok:m.Ok):aj Tryz.prog 326 [mp] (jX m a s l p d) (fj 20 encS (m.simple a s).1) (jX m ((m.simple a s).2.1) ((m.simple a s).2.2) l p d):=by
 have hv:0<m.D.vars:=Pb
 have b0:=m.bS a (n:=8) af;have ha:=ok.arr;have hA:m.nA=((m.D.aK.map kz).length:Nat):=rfl;have e1:∀a,a+6<2^60->aj Tryz.prog 325 [mp,it 1] (jX m a (s+1) l p d) (cI (m.expr 1 a).1) (jX m ((m.expr 1 a).2) (s+1) l p d):=λa h=>qM m (s+1) l p d hv 1 a nZ af;have e1' :∀a,a+6<2^60->aj Tryz.prog 325 [mp,it 1] (jX m a (s+1+1) l p d) (cI (m.expr 1 a).1) (jX m ((m.expr 1 a).2) (s+1+1) l p d):=λa h=>qM m (s+1+1) l p d hv 1 a nZ af;have e2:∀a,a+14<2^60->aj Tryz.prog 325 [mp,it 2] (jX m a (s+1) l p d) (cI (m.expr 2 a).1) (jX m ((m.expr 2 a).2) (s+1) l p d):=λa h=>qM m (s+1) l p d hv 2 a nZ af;have c1:∀a,a+28<2^60->aj Tryz.prog 322 [mp,it 1] (jX m a (s+1) l p d) (fN (m.cond 1 a).1) (jX m ((m.cond 1 a).2) (s+1) l p d):=λa h=>LC m (s+1) l p d hv 1 a uk af;have g1:=m.fJ 1 (a+1);have g2:=m.fJ 1 (a+1+1);simp only[uT]at g1 g2;have hk:=bD m a (s+1) l p d 8 af af;have hc:m.nx a 8=0∨m.nx a 8=1∨m.nx a 8=2∨m.nx a 8=3∨m.nx a 8=4∨m.nx a 8=5∨m.nx a 8=6∨m.nx a 8=7:=af
 rcases hc with hc|hc|hc|hc|hc|hc|hc|hc
 ·have e:m.simple a s=([S0 (s+1:Nat) 2 (m.tg (a+1)) 0 0 (qc (m.nx (a+1+1) 4)) zE zC],a+1+1+1,s+1):=by simp[Mk.simple,hc]
  rw[e];rw[hc]at hk;refine fo Tryz.func326 ?_;refine run ?_;repeat((apply aE;first|exact(hk)|exact(dH m _ _ _ _ _ af)|exact(dd m _ _ _ _ _ af ok)|exact(bD m _ _ _ _ _ _ af af)|exact(fK _)|exact(e1 _ af)|exact(e1' _ af)|exact(e2 _ af)|exact(c1 _ af));refine run ?_)
  exact aG
 ·have e:m.simple a s=([S0 (s+1:Nat) 3 0 0 0 (qc (m.nx (a+1) 4)) (m.expr 2 (a+1+1)).1 zC],(m.expr 2 (a+1+1)).2,s+1):=by simp[Mk.simple,hc]
  rw[e];rw[hc]at hk;refine fo Tryz.func326 ?_;refine run ?_;repeat((apply aE;first|exact(hk)|exact(dH m _ _ _ _ _ af)|exact(dd m _ _ _ _ _ af ok)|exact(bD m _ _ _ _ _ _ af af)|exact(fK _)|exact(e1 _ af)|exact(e1' _ af)|exact(e2 _ af)|exact(c1 _ af));refine run ?_)
  exact aG
 ·have e:m.simple a s=([S0 (s+1:Nat) 4 (m.tg (a+1)) (m.nx (a+1+1) 2) 0 zE zE zC],a+1+1+1,s+1):=by simp[Mk.simple,hc]
  rw[e];rw[hc]at hk;refine fo Tryz.func326 ?_;refine run ?_;repeat((apply aE;first|exact(hk)|exact(dH m _ _ _ _ _ af)|exact(dd m _ _ _ _ _ af ok)|exact(bD m _ _ _ _ _ _ af af)|exact(fK _)|exact(e1 _ af)|exact(e1' _ af)|exact(e2 _ af)|exact(c1 _ af));refine run ?_)
  exact aG
 ·have e:m.simple a s=([S0 (s+1:Nat) 20 (m.tg (a+1)) (m.nx (a+1+1) 2) 0 zE zE zC],a+1+1+1,s+1):=by simp[Mk.simple,hc]
  rw[e];rw[hc]at hk;refine fo Tryz.func326 ?_;refine run ?_;repeat((apply aE;first|exact(hk)|exact(dH m _ _ _ _ _ af)|exact(dd m _ _ _ _ _ af ok)|exact(bD m _ _ _ _ _ _ af af)|exact(fK _)|exact(e1 _ af)|exact(e1' _ af)|exact(e2 _ af)|exact(c1 _ af));refine run ?_)
  exact aG
 ·have e:m.simple a s=([S0 (s+1:Nat) 16 0 (m.nx (a+1) 3) 0 zE zE zC,S0 (s+1+1:Nat) 5 0 0 0 (qc (m.nx (a+1+1) 9)) zE zC,S0 (s+1+1+1:Nat) 17 0 (m.nx (a+1) 3) 0 zE zE zC],a+1+1+1,s+1+1+1):=by simp[Mk.simple,hc]
  rw[e];rw[hc]at hk;refine fo Tryz.func326 ?_;refine run ?_;repeat((apply aE;first|exact(hk)|exact(dH m _ _ _ _ _ af)|exact(dd m _ _ _ _ _ af ok)|exact(bD m _ _ _ _ _ _ af af)|exact(fK _)|exact(e1 _ af)|exact(e1' _ af)|exact(e2 _ af)|exact(c1 _ af));refine run ?_)
  exact aG
 ·have e:m.simple a s=([S0 (s+1:Nat) 6 1 0 0 zE zE zC,S0 (s+1+1:Nat) 9 1 0 0 (m.expr 1 (a+1)).1 zE zC,S0 (s+1+1+1:Nat) 7 1 0 0 zE zE zC],(m.expr 1 (a+1)).2,s+1+1+1):=by simp[Mk.simple,hc]
  rw[e];rw[hc]at hk;refine fo Tryz.func326 ?_;refine run ?_;repeat((apply aE;first|exact(hk)|exact(dH m _ _ _ _ _ af)|exact(dd m _ _ _ _ _ af ok)|exact(bD m _ _ _ _ _ _ af af)|exact(fK _)|exact(e1 _ af)|exact(e1' _ af)|exact(e2 _ af)|exact(c1 _ af));refine run ?_)
  exact aG
 ·have e:m.simple a s=([S0 (s+1:Nat) 1 (m.tg (a+1)) 0 0 (m.expr 2 (a+1+1)).1 zE zC],(m.expr 2 (a+1+1)).2,s+1):=by simp[Mk.simple,hc]
  rw[e];rw[hc]at hk;refine fo Tryz.func326 ?_;refine run ?_;repeat((apply aE;first|exact(hk)|exact(dH m _ _ _ _ _ af)|exact(dd m _ _ _ _ _ af ok)|exact(bD m _ _ _ _ _ _ af af)|exact(fK _)|exact(e1 _ af)|exact(e1' _ af)|exact(e2 _ af)|exact(c1 _ af));refine run ?_)
  exact aG
 ·have e:m.simple a s=([S0 (s+1:Nat) 1 (m.tg (a+1)) 0 0 (m.expr 2 (a+1+1)).1 zE zC],(m.expr 2 (a+1+1)).2,s+1):=by simp[Mk.simple,hc]
  rw[e];rw[hc]at hk;refine fo Tryz.func326 ?_;refine run ?_;repeat((apply aE;first|exact(hk)|exact(dH m _ _ _ _ _ af)|exact(dd m _ _ _ _ _ af ok)|exact(bD m _ _ _ _ _ _ af af)|exact(fK _)|exact(e1 _ af)|exact(e1' _ af)|exact(e2 _ af)|exact(c1 _ af));refine run ?_)
  exact aG
def MF(m:Mk)(a s l p d:Nat)(h:a+100<2^60)(h' :s+10<2^60)(ok:m.Ok):aj Tryz.prog 327 [mp] (jX m a s l p d) (encS (m.risky a s).1) (jX m ((m.risky a s).2.1) ((m.risky a s).2.2) l p d):=by
 have hv:0<m.D.vars:=Pb
 have b0:=m.bS a (n:=15) af;have ha:=ok.arr;have hA:m.nA=((m.D.aK.map kz).length:Nat):=rfl;have e1:∀a,a+6<2^60->aj Tryz.prog 325 [mp,it 1] (jX m a (s+1) l p d) (cI (m.expr 1 a).1) (jX m ((m.expr 1 a).2) (s+1) l p d):=λa h=>qM m (s+1) l p d hv 1 a nZ af;have e1' :∀a,a+6<2^60->aj Tryz.prog 325 [mp,it 1] (jX m a (s+1+1) l p d) (cI (m.expr 1 a).1) (jX m ((m.expr 1 a).2) (s+1+1) l p d):=λa h=>qM m (s+1+1) l p d hv 1 a nZ af;have e2:∀a,a+14<2^60->aj Tryz.prog 325 [mp,it 2] (jX m a (s+1) l p d) (cI (m.expr 2 a).1) (jX m ((m.expr 2 a).2) (s+1) l p d):=λa h=>qM m (s+1) l p d hv 2 a nZ af;have c1:∀a,a+28<2^60->aj Tryz.prog 322 [mp,it 1] (jX m a (s+1) l p d) (fN (m.cond 1 a).1) (jX m ((m.cond 1 a).2) (s+1) l p d):=λa h=>LC m (s+1) l p d hv 1 a uk af;have g1:=m.fJ 1 (a+1);have g2:=m.fJ 1 (a+1+1);simp only[uT]at g1 g2;have hk:=bD m a (s+1) l p d 15 af af;have hc:m.nx a 15=0∨m.nx a 15=1∨m.nx a 15=2∨m.nx a 15=3∨m.nx a 15=4∨m.nx a 15=5∨m.nx a 15=6∨m.nx a 15=7∨m.nx a 15=8∨m.nx a 15=9∨m.nx a 15=10∨m.nx a 15=11∨m.nx a 15=12∨m.nx a 15=13∨m.nx a 15=14:=af
 rcases hc with hc|hc|hc|hc|hc|hc|hc|hc|hc|hc|hc|hc|hc|hc|hc
 ·have e:m.risky a s=(S0 (s+1:Nat) 2 (m.tg (a+1)) (m.nx (a+1+1) m.nA) 0 (m.expr 1 (a+1+1+1)).1 zE zC,(m.expr 1 (a+1+1+1)).2,s+1):=by simp[Mk.risky,hc]
  rw[e];rw[hc]at hk;refine fo Tryz.func327 ?_;refine run ?_;repeat((apply aE;first|exact(hk)|exact(dH m _ _ _ _ _ af)|exact(dd m _ _ _ _ _ af ok)|exact(bD m _ _ _ _ _ _ af af)|exact(fK _)|exact(e1 _ af)|exact(e1' _ af)|exact(e2 _ af)|exact(c1 _ af));refine run ?_)
  exact aG
 ·have e:m.risky a s=(S0 (s+1:Nat) 2 (m.tg (a+1)) (m.nx (a+1+1) m.nA) 0 (m.expr 1 (a+1+1+1)).1 zE zC,(m.expr 1 (a+1+1+1)).2,s+1):=by simp[Mk.risky,hc]
  rw[e];rw[hc]at hk;refine fo Tryz.func327 ?_;refine run ?_;repeat((apply aE;first|exact(hk)|exact(dH m _ _ _ _ _ af)|exact(dd m _ _ _ _ _ af ok)|exact(bD m _ _ _ _ _ _ af af)|exact(fK _)|exact(e1 _ af)|exact(e1' _ af)|exact(e2 _ af)|exact(c1 _ af));refine run ?_)
  exact aG
 ·have e:m.risky a s=(S0 (s+1:Nat) 3 0 (m.nx (a+1) m.nA) 0 (m.expr 1 (a+1+1)).1 (m.expr 1 (m.expr 1 (a+1+1)).2).1 zC,(m.expr 1 (m.expr 1 (a+1+1)).2).2,s+1):=by simp[Mk.risky,hc]
  rw[e];rw[hc]at hk;refine fo Tryz.func327 ?_;refine run ?_;repeat((apply aE;first|exact(hk)|exact(dH m _ _ _ _ _ af)|exact(dd m _ _ _ _ _ af ok)|exact(bD m _ _ _ _ _ _ af af)|exact(fK _)|exact(e1 _ af)|exact(e1' _ af)|exact(e2 _ af)|exact(c1 _ af));refine run ?_)
  exact aG
 ·have e:m.risky a s=(S0 (s+1:Nat) 5 0 (m.nx (a+1) 2) 0 (m.expr 1 (a+1+1)).1 zE zC,(m.expr 1 (a+1+1)).2,s+1):=by simp[Mk.risky,hc]
  rw[e];rw[hc]at hk;refine fo Tryz.func327 ?_;refine run ?_;repeat((apply aE;first|exact(hk)|exact(dH m _ _ _ _ _ af)|exact(dd m _ _ _ _ _ af ok)|exact(bD m _ _ _ _ _ _ af af)|exact(fK _)|exact(e1 _ af)|exact(e1' _ af)|exact(e2 _ af)|exact(c1 _ af));refine run ?_)
  exact aG
 ·have e:m.risky a s=(S0 (s+1:Nat) 6 (m.nx (a+1) 2) 0 0 zE zE zC,a+1+1,s+1):=by simp[Mk.risky,hc]
  rw[e];rw[hc]at hk;refine fo Tryz.func327 ?_;refine run ?_;repeat((apply aE;first|exact(hk)|exact(dH m _ _ _ _ _ af)|exact(dd m _ _ _ _ _ af ok)|exact(bD m _ _ _ _ _ _ af af)|exact(fK _)|exact(e1 _ af)|exact(e1' _ af)|exact(e2 _ af)|exact(c1 _ af));refine run ?_)
  exact aG
 ·have e:m.risky a s=(S0 (s+1:Nat) 7 (m.nx (a+1) 2) 0 0 zE zE zC,a+1+1,s+1):=by simp[Mk.risky,hc]
  rw[e];rw[hc]at hk;refine fo Tryz.func327 ?_;refine run ?_;repeat((apply aE;first|exact(hk)|exact(dH m _ _ _ _ _ af)|exact(dd m _ _ _ _ _ af ok)|exact(bD m _ _ _ _ _ _ af af)|exact(fK _)|exact(e1 _ af)|exact(e1' _ af)|exact(e2 _ af)|exact(c1 _ af));refine run ?_)
  exact aG
 ·have e:m.risky a s=(S0 (s+1:Nat) 8 (m.nx (a+1) 2) (m.nx (a+1+1) 2) 0 zE zE zC,a+1+1+1,s+1):=by simp[Mk.risky,hc]
  rw[e];rw[hc]at hk;refine fo Tryz.func327 ?_;refine run ?_;repeat((apply aE;first|exact(hk)|exact(dH m _ _ _ _ _ af)|exact(dd m _ _ _ _ _ af ok)|exact(bD m _ _ _ _ _ _ af af)|exact(fK _)|exact(e1 _ af)|exact(e1' _ af)|exact(e2 _ af)|exact(c1 _ af));refine run ?_)
  exact aG
 ·have e:m.risky a s=(S0 (s+1:Nat) 10 (m.tg (a+1)) (m.nx (a+1+1) 2) 0 zE zE zC,a+1+1+1,s+1):=by simp[Mk.risky,hc]
  rw[e];rw[hc]at hk;refine fo Tryz.func327 ?_;refine run ?_;repeat((apply aE;first|exact(hk)|exact(dH m _ _ _ _ _ af)|exact(dd m _ _ _ _ _ af ok)|exact(bD m _ _ _ _ _ _ af af)|exact(fK _)|exact(e1 _ af)|exact(e1' _ af)|exact(e2 _ af)|exact(c1 _ af));refine run ?_)
  exact aG
 ·have e:m.risky a s=(S0 (s+1:Nat) (16+m.nx (a+1) 2) 0 (m.nx (a+1+1) 3) 0 zE zE zC,a+1+1+1,s+1):=by simp[Mk.risky,hc]
  rw[e];rw[hc]at hk;have b1:=m.bS (a+1) (n:=2) af;refine fo Tryz.func327 ?_;refine run ?_;repeat((apply aE;first|exact(hk)|exact(dH m _ _ _ _ _ af)|exact(dd m _ _ _ _ _ af ok)|exact(bD m _ _ _ _ _ _ af af)|exact(fK _)|exact(e1 _ af)|exact(e1' _ af)|exact(e2 _ af)|exact(c1 _ af));refine run ?_)
  exact aG
 ·have e:m.risky a s=(S0 (s+1:Nat) 18 0 0 0 (m.expr 1 (a+1)).1 zE zC,(m.expr 1 (a+1)).2,s+1):=by simp[Mk.risky,hc]
  rw[e];rw[hc]at hk;refine fo Tryz.func327 ?_;refine run ?_;repeat((apply aE;first|exact(hk)|exact(dH m _ _ _ _ _ af)|exact(dd m _ _ _ _ _ af ok)|exact(bD m _ _ _ _ _ _ af af)|exact(fK _)|exact(e1 _ af)|exact(e1' _ af)|exact(e2 _ af)|exact(c1 _ af));refine run ?_)
  exact aG
 ·have e:m.risky a s=(S0 (s+1:Nat) 19 (m.tg (a+1)) 0 0 zE zE zC,a+1+1,s+1):=by simp[Mk.risky,hc]
  rw[e];rw[hc]at hk;refine fo Tryz.func327 ?_;refine run ?_;repeat((apply aE;first|exact(hk)|exact(dH m _ _ _ _ _ af)|exact(dd m _ _ _ _ _ af ok)|exact(bD m _ _ _ _ _ _ af af)|exact(fK _)|exact(e1 _ af)|exact(e1' _ af)|exact(e2 _ af)|exact(c1 _ af));refine run ?_)
  exact aG
 ·have e:m.risky a s=(S0 (s+1:Nat) 21 0 (m.nx (a+1) 3) 0 (m.expr 1 (a+1+1)).1 zE zC,(m.expr 1 (a+1+1)).2,s+1):=by simp[Mk.risky,hc]
  rw[e];rw[hc]at hk;refine fo Tryz.func327 ?_;refine run ?_;repeat((apply aE;first|exact(hk)|exact(dH m _ _ _ _ _ af)|exact(dd m _ _ _ _ _ af ok)|exact(bD m _ _ _ _ _ _ af af)|exact(fK _)|exact(e1 _ af)|exact(e1' _ af)|exact(e2 _ af)|exact(c1 _ af));refine run ?_)
  exact aG
 ·have e:m.risky a s=(S0 (s+1:Nat) 22 0 (m.nx (a+1) 3) 0 zE zE zC,a+1+1,s+1):=by simp[Mk.risky,hc]
  rw[e];rw[hc]at hk;refine fo Tryz.func327 ?_;refine run ?_;repeat((apply aE;first|exact(hk)|exact(dH m _ _ _ _ _ af)|exact(dd m _ _ _ _ _ af ok)|exact(bD m _ _ _ _ _ _ af af)|exact(fK _)|exact(e1 _ af)|exact(e1' _ af)|exact(e2 _ af)|exact(c1 _ af));refine run ?_)
  exact aG
 ·have e:m.risky a s=(S0 (s+1:Nat) 23 0 0 0 zE zE (m.cond 1 (a+1)).1,(m.cond 1 (a+1)).2,s+1):=by simp[Mk.risky,hc]
  rw[e];rw[hc]at hk;refine fo Tryz.func327 ?_;refine run ?_;repeat((apply aE;first|exact(hk)|exact(dH m _ _ _ _ _ af)|exact(dd m _ _ _ _ _ af ok)|exact(bD m _ _ _ _ _ _ af af)|exact(fK _)|exact(e1 _ af)|exact(e1' _ af)|exact(e2 _ af)|exact(c1 _ af));refine run ?_)
  exact aG
 ·have e:m.risky a s=(S0 (s+1:Nat) 9 (m.nx (a+1) 2) 0 0 (m.expr 1 (a+1+1)).1 zE zC,(m.expr 1 (a+1+1)).2,s+1):=by simp[Mk.risky,hc]
  rw[e];rw[hc]at hk;refine fo Tryz.func327 ?_;refine run ?_;repeat((apply aE;first|exact(hk)|exact(dH m _ _ _ _ _ af)|exact(dd m _ _ _ _ _ af ok)|exact(bD m _ _ _ _ _ _ af af)|exact(fK _)|exact(e1 _ af)|exact(e1' _ af)|exact(e2 _ af)|exact(c1 _ af));refine run ?_)
  exact aG
def a_.Qh{α:Type}{xs:List α}{f:α->au}{i:Int}(k:Nat)(x:α){n:Nat}{K:au->Prop}(e:i=k)(hx:xs[k]? =some x)(hn:n=(xs.map f).length)(h:K (f x)):a_ n (xs.map f) i K:=by obtain⟨hk,rfl⟩:=rD.1 hx;subst e;exact a_.map hk hn h
def Mk.mo(m:Mk)(a:Nat):Nat->List au×Nat|0=>([],a)|i+1=>((m.mo a i).1++[cI (m.expr 1 (m.mo a i).2).1],(m.expr 1 (m.mo a i).2).2)
def Mk.args(m:Mk)(a:Nat):Nat->List Ex×Nat|0=>([],a)|i+1=>((m.args a i).1++[(m.expr 1 (m.args a i).2).1],(m.expr 1 (m.args a i).2).2)
theorem Mk.B6(m:Mk)(a:Nat):∀i,m.mo a i=((m.args a i).1.map cI,(m.args a i).2)|0=>rfl|i+1=>by simp only[Mk.mo,Mk.args,Mk.B6 m a i];simp
theorem Mk.Hm(m:Mk)(a:Nat):∀i,(m.mo a i).1.length=i∧a<=(m.mo a i).2∧(m.mo a i).2<=a+6*i|0=>by simp[Mk.mo]|i+1=>by have h1:=Mk.Hm m a i;have h2:=m.fJ 1 (m.mo a i).2;simp only[uT]at h2;simp only[Mk.mo,fA,eJ,km];omega
def Mk.FU(m:Mk)(a:Nat):Nat->List au|0=>[]|i+1=>m.FU a i++[it (m.nx (a+i) 2)]
def Mk.cO(m:Mk)(a:Nat):Nat->List Int|0=>[]|i+1=>m.cO a i++[m.nx (a+i) 2]
theorem Mk.ML(m:Mk)(a:Nat):∀i,m.FU a i=(m.cO a i).map it|0=>rfl|i+1=>by simp only[Mk.FU,Mk.cO,Mk.ML m a i];simp
theorem Mk.Ie(m:Mk)(a:Nat):∀i,(m.FU a i).length=i|0=>rfl|i+1=>by simp only[Mk.FU,fA,Mk.Ie m a i];rfl
def Mk.nH(m:Mk):Int:=((m.aF.map oL).length:Nat)
def zEr:List au:=[it 0,it 0,it 0,.sl 4 [] true]
def zCr:List au:=[it 0,.sl 4 [] true,.sl 3 [] true]
def zH:Hd:=⟨0,0,0,[],[]⟩
def Mk.hd(m:Mk)(a:Nat):Hd:=m.aF.getD (m.nx a m.nH).toNat zH
def Mk.call(m:Mk)(a s d:Nat):Sm×Nat×Nat:=
 if m.aF.length=0∨2<=d then(S0 (s+1:Nat) 1 (m.tg a) 0 0 (qc 1) zE zC,a+1,d)
 else let h:=m.hd (a+1);let x:=m.args (a+1+1) h.params.length;(.mk (s+1:Nat) 13 (m.tg a) h.id 0 zE zE zC x.1 (m.cO x.2 h.given.length) [] [],x.2+h.given.length,d+1)
def UG(x n h:Int)(es:List Ex)(ps:List Int):encS (.mk x 13 n h 0 zE zE zC es ps [] [])= .agg ([it x,it 13,it n,it h,it 0]++(cE zE++(cE zE++(cC zC++[.sl 4 (es.map cI) false,.sl 1 (ps.map it) false,.sl 20 [] false,.sl 20 [] false])))):=by simp[encS,cS,Sm.site,Sm.op,Sm.n,Sm.m,Sm.v,Sm.x,Sm.y,Sm.c,Sm.args,Sm.cO,Sm.body,Sm.sY,ua,xj,ints]
def Yf(m:Mk)(a s l p d:Nat)(hc:m.calm=false)(h:a+1000<2^60)(h' :s+10<2^60)(hd:d<2^60)(ok:m.Ok)(hh:∀h∈m.aF,h.params.length<=12∧h.given.length<=12)(hl:m.aF.length<2^30):aj Tryz.prog 324 [mp] (jX m a s l p d) (encS (m.call a s d).1) (jX m (m.call a s d).2.1 (s+1) l p (m.call a s d).2.2):=by
 by_cases h0:m.aF.length=0∨2<=d
 ·have e:m.call a s d=(S0 (s+1:Nat) 1 (m.tg a) 0 0 (qc 1) zE zC,a+1,d):=by rw[Mk.call,aq h0]
  rw[e];refine(dw ((((m.aF.map oL).length:Nat):Int)==0)).elim (λh1=> ?_) (λh1=> ?_)
  ·refine fo Tryz.func324 ?_;refine run ?_;repeat((apply aE;first|exact(dH m _ _ _ _ _ af)|exact(dd m _ _ _ _ _ af ok)|exact(fK _));refine run ?_)
   exact aG
  ·have h2:decide ((d:Int)>=2)=true:=(by simp at h1;simp[h1]at h0;exact aA);refine fo Tryz.func324 ?_;refine run ?_;repeat((apply aE;first|exact(dH m _ _ _ _ _ af)|exact(dd m _ _ _ _ _ af ok)|exact(fK _));refine run ?_)
   exact aG
 ·have n1:((((m.aF.map oL).length:Nat):Int)==0)=false:=by simp;intro e;simp[e]at h0
  have n2:decide ((d:Int)>=2)=false:=by simp at h0 ⊢;omega
  have hb:=m.bS (a+1) (n:=m.nH) (by simp[Mk.nH];simp at h0;have:=h0.1;cases hm:m.aF with|nil=>exact absurd hm this|cons _ _=>simp);have hx:(m.nx (a+1) m.nH).toNat<m.aF.length:=by have:=hb.2;simp[Mk.nH]at this ⊢;omega
  have e0:m.hd (a+1)=m.aF[(m.nx (a+1) m.nH).toNat]:=by simp[Mk.hd,List.getD,hx]
  have hp:=hh (m.hd (a+1)) (by rw[e0];simp);have e:m.call a s d=(.mk (s+1:Nat) 13 (m.tg a) (m.hd (a+1)).id 0 zE zE zC (m.args (a+1+1) (m.hd (a+1)).params.length).1 (m.cO (m.args (a+1+1) (m.hd (a+1)).params.length).2 (m.hd (a+1)).given.length) [] [],(m.args (a+1+1) (m.hd (a+1)).params.length).2+(m.hd (a+1)).given.length,d+1):=by rw[Mk.call,ah h0]
  rw[e];refine fo Tryz.func324 ?_;refine run ?_;repeat((apply aE;first|exact(dH m _ _ _ _ _ af)|exact(dd m _ _ _ _ _ af ok)|exact(fK _)|exact(bD m _ _ _ _ _ m.nH af af));refine run ?_)
  refine a_.Qh (m.nx (a+1) m.nH).toNat (m.hd (a+1)) af (by rw[e0];simp[hx]) rfl ?_;refine run ?_;refine a_.Qh (m.nx (a+1) m.nH).toNat (m.hd (a+1)) af (by rw[e0];simp[hx]) rfl ?_;refine run ?_;refine bB.mk ⟨[.cell 3 16 20010],aZ.np (((m.hd (a+1)).params.map bp).length) (λ_=>True) (λk=>⟨[(5,it k)],[(3,.agg ([it (s+1:Nat),it 13,it (m.tg a),it (m.hd (a+1)).id,it 0]++(zEr++(zEr++(zCr++[.ref 20010 (m.mo (a+1+1) k).1.length,.sl 1 [] true,.sl 20 [] true,.sl 20 [] true]))))),(1000,N1 m (m.mo (a+1+1) k).2 (s+1) l p (d+1))],[(20010,⟨4,true,(m.mo (a+1+1) k).1⟩)]⟩) (trivial) ?_⟩;intro k hk hJ;have ga:=m.Hm (a+1+1) k;have gl:((m.hd (a+1)).params.map bp).length=(m.hd (a+1)).params.length:=ag
  have one:∀a,a+6<2^60->aj Tryz.prog 325 [mp,it 1] (jX m a (s+1) l p (d+1)) (cI (m.expr 1 a).1) (jX m ((m.expr 1 a).2) (s+1) l p (d+1)):=λa h=>qM m (s+1) l p (d+1) Pb 1 a nZ af;have ha:=ja k ((m.hd (a+1)).params.map bp).length;refine Br.mk (λhb=> ?_) (λhb=> ?_)
  ·have hk1:k<((m.hd (a+1)).params.map bp).length:=AA;refine run ?_;repeat((apply aE;first|exact(one _ af));refine run ?_)
   exact tM hk1
  ·have hk1:k=((m.hd (a+1)).params.map bp).length:=(by simp at hb;omega);have gp:=m.Ie (m.mo (a+1+1) k).2;refine bB.mk ⟨[.cell 3 17 20016],aZ.np (((m.hd (a+1)).given.map bp).length) (λ_=>True) (λj=>⟨[(6,it j)],[(3,.agg ([it (s+1:Nat),it 13,it (m.tg a),it (m.hd (a+1)).id,it 0]++(zEr++(zEr++(zCr++[.ref 20010 (m.mo (a+1+1) k).1.length,.ref 20016 (m.FU (m.mo (a+1+1) k).2 j).length,.sl 20 [] true,.sl 20 [] true]))))),(1000,N1 m ((m.mo (a+1+1) k).2+j) (s+1) l p (d+1))],[(20016,⟨1,true,m.FU (m.mo (a+1+1) k).2 j⟩)]⟩) (trivial) ?_⟩;intro j hj hJ2;refine Br.mk (λhb2=> ?_) (λhb2=> ?_)
   ·have hj1:j<((m.hd (a+1)).given.map bp).length:=(by simpa using hb2);have gm:((m.hd (a+1)).given.map bp).length=(m.hd (a+1)).given.length:=by simp
    have gq:=gp j;refine run ?_;repeat((apply aE;first|exact(bD m _ _ _ _ _ _ af af));refine run ?_)
    exact tM hj1
   refine run ?_;have hj1:j=(m.hd (a+1)).given.length:=by simp at hb2;simp at hj;omega
   subst hj1;have hk2:k=(m.hd (a+1)).params.length:=by simpa using hk1
   subst hk2;have e2:(m.args (a+1+1) (m.hd (a+1)).params.length).1.map cI=(m.mo (a+1+1) (m.hd (a+1)).params.length).1:=by rw[m.B6]
   have e4:(m.args (a+1+1) (m.hd (a+1)).params.length).2=(m.mo (a+1+1) (m.hd (a+1)).params.length).2:=(by rw[m.B6]);refine fu.mk ?_ ?_;rw[UG,e2,e4,<-m.ML];rfl;rw[e4];rfl
def Ko:=@List.getD_eq_getElem?_getD
structure Ms where
 a:Nat
 s:Nat
 l:Nat
 d:Nat
def Mk.other(m:Mk)(k:Int)(dep:Nat)(x:Ms):List Sm×Ms:=
 if 4<=k∧k<10 then([(m.call x.a x.s x.d).1],⟨(m.call x.a x.s x.d).2.1,x.s+1,x.l,(m.call x.a x.s x.d).2.2⟩)
 else if k=10 then([S0 (x.s+1:Nat) 14 0 0 (1+m.nx x.a 3) zE zE zC],⟨x.a+1,x.s+1,x.l,x.d⟩)
 else if k=11∧dep<2 then([S0 (x.s+1:Nat) 24 0 0 0 (m.expr 1 x.a).1 zE zC],⟨(m.expr 1 x.a).2,x.s+1,x.l,x.d⟩)
 else if k<4 then((m.simple x.a x.s).1,⟨(m.simple x.a x.s).2.1,(m.simple x.a x.s).2.2,x.l,x.d⟩)
 else([(m.risky x.a x.s).1],⟨(m.risky x.a x.s).2.1,(m.risky x.a x.s).2.2,x.l,x.d⟩)
def Mk.nested(m:Mk)(R:Nat->Ms->List Sm×Ms)(k:Int)(x:Ms):Sm×Ms:=
 if k=6 then let c:=m.cond 1 x.a;let b:=R (1+m.nx (c.2+1) 2).toNat ⟨c.2+1+1,x.s+1,x.l,x.d⟩;(.mk (x.s+1:Nat) 12 0 0 (1+m.nx c.2 3) zE zE c.1 [] [] b.1 [],b.2)
 else if k=7 then let b:=R (1+m.nx (x.a+1) 2).toNat ⟨x.a+1+1,x.s+1,x.l,x.d⟩;let e:=R (m.nx b.2.a 2).toNat ⟨b.2.a+1,b.2.s,b.2.l,b.2.d⟩;(.mk (x.s+1:Nat) 15 (m.tg x.a) 0 0 zE zE zC [] [] b.1 e.1,e.2)
 else let c:=m.cond 1 x.a;let b:=R (1+m.nx c.2 2).toNat ⟨c.2+1,x.s+1,x.l,x.d⟩;let e:=R (m.nx b.2.a 2).toNat ⟨b.2.a+1,b.2.s,b.2.l,b.2.d⟩;(.mk (x.s+1:Nat) 11 0 0 0 zE zE c.1 [] [] b.1 e.1,e.2)
def pC(step:Ms->List Sm×Ms):Nat->Ms->List Sm×Ms|0,x=>([],x)|n+1,x=>if x.l=0 then([],x)else((step x).1++(pC step n (step x).2).1,(pC step n (step x).2).2)
def Mk.step(m:Mk)(dep:Nat)(R:Nat->Ms->List Sm×Ms)(x:Ms):List Sm×Ms:=
 if 0<dep∧4<=m.nx x.a 16∧m.nx x.a 16<=7 then([(m.nested R (m.nx x.a 16) ⟨x.a+1,x.s,x.l-1,x.d⟩).1],(m.nested R (m.nx x.a 16) ⟨x.a+1,x.s,x.l-1,x.d⟩).2)
 else m.other (m.nx x.a 16) dep ⟨x.a+1,x.s,x.l-1,x.d⟩
def Mk.stmts(m:Mk):Nat->Nat->Ms->List Sm×Ms|0,n,x=>pC (m.step 0 λ_ x=>([],x)) n x|dep+1,n,x=>pC (m.step (dep+1) (m.stmts dep)) n x
def jC(x y:Ms):Prop:=y.a+200*y.l<=x.a+200*x.l∧y.s+10*y.l<=x.s+10*x.l∧y.l<=x.l∧(x.d<=2->y.d<=2)
def jC.refl(x:Ms):jC x x:=⟨af,af,af,λh=>h⟩
def jC.trans{x y z:Ms}(h:jC x y)(k:jC y z):jC x z:=⟨by have:=h.1;have:=k.1;omega,by have:=h.2.1;have:=k.2.1;omega,by have:=h.2.2.1;have:=k.2.2.1;omega,λe=>k.2.2.2 (h.2.2.2 e)⟩
def Mk.P1(m:Mk)(a s:Nat):(m.simple a s).2.1<=a+40∧(m.simple a s).2.2<=s+3∧(m.simple a s).1.length<=3:=by
 have h1:=m.fJ 1 (a+1);have h2:=m.fJ 2 (a+1+1);simp only[uT]at h1 h2;unfold Mk.simple;repeat' split
 all_goals (try dsimp only)
 all_goals refine⟨af,af,ag⟩
def Yy{α:Type}{P:α->Prop}{c:Prop}[Decidable c]{x y:α}(hx:P x)(hy:P y):P (if c then x else y):=by split<;>assumption
def Mk.TP(m:Mk)(a s:Nat):(m.risky a s).2.1<=a+40∧(m.risky a s).2.2<=s+3:=by
 have h1:=m.fJ 1 (a+1);have h2:=m.fJ 1 (a+1+1);have h3:=m.fJ 1 (a+1+1+1);have h4:=m.fJ 1 (m.expr 1 (a+1+1)).2;have h5:=m.vC 1 (a+1);simp only[uT,DQ]at h1 h2 h3 h4 h5;have key:(λz:Sm×Nat×Nat=>z.2.1<=a+40∧z.2.2<=s+3) (m.risky a s):=by
  unfold Mk.risky;repeat' refine Yy (P:=λz:Sm×Nat×Nat=>z.2.1<=a+40∧z.2.2<=s+3) ?_ ?_
  all_goals dsimp only
  all_goals omega
 exact key
def Mk.args_at(m:Mk)(a i:Nat):a<=(m.args a i).2∧(m.args a i).2<=a+6*i:=by have h:=m.Hm a i;rw[m.B6]at h;exact h.2
def Mk.hd_mem(m:Mk)(a:Nat)(P:Hd->Prop)(hP:∀h∈m.aF,P h)(h0:P zH):P (m.hd a):=by unfold Mk.hd;rw[Ko];cases h:m.aF[(m.nx a m.nH).toNat]? with|none=>exact h0|some x=>exact hP x (we h)
def Mk.ZP(m:Mk)(a s d:Nat)(hh:∀h∈m.aF,h.params.length<=12∧h.given.length<=12):(m.call a s d).2.1<=a+100∧(d<=2->(m.call a s d).2.2<=2):=by have h0:=m.hd_mem (a+1) _ hh (by simp[zH]);have h1:=m.args_at (a+1+1) (m.hd (a+1)).params.length;unfold Mk.call;split;simp only;omega;simp only;omega
def Mk.Ij(m:Mk)(k:Int)(dep:Nat)(x:Ms)(hh:∀h∈m.aF,h.params.length<=12∧h.given.length<=12):(m.other k dep x).2.a<=x.a+100∧(m.other k dep x).2.s<=x.s+3∧(m.other k dep x).2.l=x.l∧(x.d<=2->(m.other k dep x).2.d<=2)∧(m.other k dep x).1.length<=3:=by
 have h1:=m.ZP x.a x.s x.d hh;have h2:=m.P1 x.a x.s;have h3:=m.TP x.a x.s;have h4:=m.fJ 1 x.a;simp only[uT]at h4;unfold Mk.other;repeat' split
 all_goals dsimp only
 all_goals refine⟨?_,?_,rfl,?_,?_⟩
 all_goals first|omega|simp|exact h1.2|exact h2.2.2|exact λh=>h
def Mk.Qf(m:Mk){R:Nat->Ms->List Sm×Ms}(hR:∀n x,jC x (R n x).2)(k:Int)(x:Ms):(m.nested R k x).2.a+200*(m.nested R k x).2.l<=x.a+100+200*x.l∧(m.nested R k x).2.s+10*(m.nested R k x).2.l<=x.s+3+10*x.l∧(m.nested R k x).2.l<=x.l∧(x.d<=2->(m.nested R k x).2.d<=2):=by have h1:=m.vC 1 x.a;simp only[DQ]at h1;unfold Mk.nested;split;have h2:=hR (1+m.nx ((m.cond 1 x.a).2+1) 2).toNat ⟨(m.cond 1 x.a).2+1+1,x.s+1,x.l,x.d⟩;simp only[jC]at h2 ⊢;omega;split;have h2:=hR (1+m.nx (x.a+1) 2).toNat ⟨x.a+1+1,x.s+1,x.l,x.d⟩;have h3:=hR (m.nx (R (1+m.nx (x.a+1) 2).toNat ⟨x.a+1+1,x.s+1,x.l,x.d⟩).2.a 2).toNat ⟨(R (1+m.nx (x.a+1) 2).toNat ⟨x.a+1+1,x.s+1,x.l,x.d⟩).2.a+1,(R (1+m.nx (x.a+1) 2).toNat ⟨x.a+1+1,x.s+1,x.l,x.d⟩).2.s,(R (1+m.nx (x.a+1) 2).toNat ⟨x.a+1+1,x.s+1,x.l,x.d⟩).2.l,(R (1+m.nx (x.a+1) 2).toNat ⟨x.a+1+1,x.s+1,x.l,x.d⟩).2.d⟩;simp only[jC]at h2 h3 ⊢;omega;have h2:=hR (1+m.nx (m.cond 1 x.a).2 2).toNat ⟨(m.cond 1 x.a).2+1,x.s+1,x.l,x.d⟩;have h3:=hR (m.nx (R (1+m.nx (m.cond 1 x.a).2 2).toNat ⟨(m.cond 1 x.a).2+1,x.s+1,x.l,x.d⟩).2.a 2).toNat ⟨(R (1+m.nx (m.cond 1 x.a).2 2).toNat ⟨(m.cond 1 x.a).2+1,x.s+1,x.l,x.d⟩).2.a+1,(R (1+m.nx (m.cond 1 x.a).2 2).toNat ⟨(m.cond 1 x.a).2+1,x.s+1,x.l,x.d⟩).2.s,(R (1+m.nx (m.cond 1 x.a).2 2).toNat ⟨(m.cond 1 x.a).2+1,x.s+1,x.l,x.d⟩).2.l,(R (1+m.nx (m.cond 1 x.a).2 2).toNat ⟨(m.cond 1 x.a).2+1,x.s+1,x.l,x.d⟩).2.d⟩;simp only[jC]at h2 h3 ⊢;omega
def Mk.wu(m:Mk)(hh:∀h∈m.aF,h.params.length<=12∧h.given.length<=12)(dep:Nat){R:Nat->Ms->List Sm×Ms}(hR:∀n x,jC x (R n x).2)(x:Ms)(hl:x.l≠0):jC x (m.step dep R x).2∧(m.step dep R x).1.length<=3:=by have h1:=m.Ij (m.nx x.a 16) dep ⟨x.a+1,x.s,x.l-1,x.d⟩ hh;have h2:=m.Qf hR (m.nx x.a 16) ⟨x.a+1,x.s,x.l-1,x.d⟩;unfold Mk.step;split;simp only[jC,eJ,km]at h2 ⊢;omega;simp only[jC]at h1 ⊢;omega
theorem FJ{step:Ms->List Sm×Ms}(h:∀x,x.l≠0->jC x (step x).2):∀n x,jC x (pC step n x).2|0,x=>jC.refl x|n+1,x=>by simp only[pC];split;exact jC.refl x;rename_i hl;exact(h x hl).trans (FJ h n _)
theorem Mk.lC(m:Mk)(hh:∀h∈m.aF,h.params.length<=12∧h.given.length<=12):∀dep n x,jC x (m.stmts dep n x).2|0,n,x=>FJ (λx hl=>(m.wu hh 0 (λ_ x=>jC.refl x) x hl).1) n x|dep+1,n,x=>FJ (λx hl=>(m.wu hh (dep+1) (m.lC hh dep) x hl).1) n x
structure Mk.Ot(m:Mk):Prop where
 ok:m.Ok
 calm:m.calm=false
 aF:∀h∈m.aF,h.params.length<=12∧h.given.length<=12
 nh:m.aF.length<2^30
def XF(m:Mk)(k:Int)(dep a s l p d:Nat)(fine:m.Ot)(h:a+1000<2^60)(h' :s+10<2^60)(hd:d<2^60)(hk:0<=k∧k<16):aj Tryz.prog 268 [mp,it k,it dep] (jX m a s l p d) (fj 20 encS (m.other k dep ⟨a,s,l,d⟩).1) (jX m (m.other k dep ⟨a,s,l,d⟩).2.a (m.other k dep ⟨a,s,l,d⟩).2.s l p (m.other k dep ⟨a,s,l,d⟩).2.d):=by
 have hc:=fine.calm;have hc' :(!m.calm)=true:=by simp[hc]
 have hv:0<m.D.vars:=by have:=fine.ok.vars;have:=m.M5;omega
 have one:∀a,a+6<2^60->aj Tryz.prog 325 [mp,it 1] (jX m a (s+1) l p d) (cI (m.expr 1 a).1) (jX m ((m.expr 1 a).2) (s+1) l p d):=λa h=>qM m (s+1) l p d hv 1 a nZ af;by_cases c1:4<=k∧k<10
 ·have e:m.other k dep ⟨a,s,l,d⟩=([(m.call a s d).1],⟨(m.call a s d).2.1,s+1,l,(m.call a s d).2.2⟩):=by rw[Mk.other,aq c1]
  have e1:decide (k>=4)=true:=aA
  have e2:decide (k<10)=true:=aA
  rw[e];refine fo Tryz.func268 ?_;refine run ?_;repeat((apply aE;first|exact(Yf m a s l p d hc h h' hd fine.ok fine.aF fine.nh));refine run ?_)
  exact aG
 have e12:(decide (k>=4)&&decide (k<10))=false:=aA
 by_cases c2:k=10
 ·have e:m.other k dep ⟨a,s,l,d⟩=([S0 (s+1:Nat) 14 0 0 (1+m.nx a 3) zE zE zC],⟨a+1,s+1,l,d⟩):=by rw[Mk.other,ah c1,aq c2]
  have b:=m.bS a (n:=3) af;rw[e];subst c2;refine fo Tryz.func268 ?_;refine run ?_;repeat((apply aE;first|exact(dH m _ _ _ _ _ af)|exact(bD m _ _ _ _ _ _ af af));refine run ?_)
  exact aG
 have e3:(k==10)=false:=by simpa using c2
 by_cases c3:k=11∧dep<2
 ·have e:m.other k dep ⟨a,s,l,d⟩=([S0 (s+1:Nat) 24 0 0 0 (m.expr 1 a).1 zE zC],⟨(m.expr 1 a).2,s+1,l,d⟩):=by rw[Mk.other,ah c1,ah c2,aq c3]
  have e6:decide ((dep:Int)<2)=true:=aA
  rw[e];obtain⟨rfl,_⟩:=c3;refine fo Tryz.func268 ?_;refine run ?_;repeat((apply aE;first|exact(dH m _ _ _ _ _ af)|exact(one _ af));refine run ?_)
  exact aG
 by_cases c4:k<4
 ·have e:m.other k dep ⟨a,s,l,d⟩=((m.simple a s).1,⟨(m.simple a s).2.1,(m.simple a s).2.2,l,d⟩):=by rw[Mk.other,ah c1,ah c2,ah c3,aq c4]
  have e1:decide (k>=4)=false:=aA
  have e4:(k==11)=false:=aA
  have e5:decide (k<4)=true:=by simpa using c4
  rw[e];refine fo Tryz.func268 ?_;refine run ?_;repeat((apply aE;first|exact(TD m a s l p d af af fine.ok));refine run ?_)
  exact aG
 ·have e:m.other k dep ⟨a,s,l,d⟩=([(m.risky a s).1],⟨(m.risky a s).2.1,(m.risky a s).2.2,l,d⟩):=by rw[Mk.other,ah c1,ah c2,ah c3,ah c4]
  have e1:decide (k>=4)=true:=aA
  have e2:decide (k<10)=false:=aA
  have e5:decide (k<4)=false:=by simpa using c4
  rw[e];refine(dw (k==11)).elim (λe4=> ?_) (λe4=> ?_)
  ·have e6:decide ((dep:Int)<2)=false:=(by simp at e4 c3 ⊢;have:=c3 e4;omega);refine fo Tryz.func268 ?_;refine run ?_;repeat((apply aE;first|exact(MF m a s l p d af af fine.ok));refine run ?_)
   exact aG
  ·refine fo Tryz.func268 ?_;refine run ?_;repeat((apply aE;first|exact(MF m a s l p d af af fine.ok));refine run ?_)
   exact aG
def aa7(m:Mk)(pb:Nat)(l' :Int)(R:Nat->Ms->List Sm×Ms):Prop:=∀(n a s l p d:Nat),n<=2->a+200*l+1000<2^59->s+10*l+100<2^59->d<=2->p<pb->l<2^50->aj Tryz.prog 220 [mp,it n,it l'] (jX m a s l p d) (fj 20 encS (R n ⟨a,s,l,d⟩).1) (jX m (R n ⟨a,s,l,d⟩).2.a (R n ⟨a,s,l,d⟩).2.s (R n ⟨a,s,l,d⟩).2.l p (R n ⟨a,s,l,d⟩).2.d)
def CX(x o n v:Int)(c:Co)(b e:List Sm):encS (.mk x o n 0 v zE zE c [] [] b e)= .agg ([it x,it o,it n,it 0,it v]++(cE zE++(cE zE++(cC c++[.sl 4 [] false,.sl 1 [] false,fj 20 encS b,fj 20 encS e])))):=by simp[encS,cS,Sm.site,Sm.op,Sm.n,Sm.m,Sm.v,Sm.x,Sm.y,Sm.c,Sm.args,Sm.cO,Sm.body,Sm.sY,jz,CW,ints,fj]
def T5(m:Mk)(k:Int)(dep a s l p d:Nat)(h:dep=0∨k<4∨7<k):aj Tryz.prog 267 [mp,it k,it dep] (jX m a s l p d) (.bR [encS (S0 0 0 0 0 0 zE zE zC),bo false]) (jX m a s l p d):=by
 refine(dw ((dep:Int)==0)).elim (λe1=> ?_) (λe1=> ?_);refine fo Tryz.func267 ?_;exact aT;refine(dw (decide (k<4))).elim (λe2=> ?_) (λe2=> ?_);refine fo Tryz.func267 ?_;exact aT;have e3:decide (k>7)=true:=by simp at e1 e2 ⊢;omega
 refine fo Tryz.func267 ?_;exact aT
def T4(m:Mk)(k:Int)(dep a s l p d:Nat)(fine:m.Ot)(h:a+200*l+1100<2^59)(h' :s+10*l+103<2^59)(hd:d<=2){pb:Nat}(hpb:pb<=2^58)(hp:p+1<pb)(hl:l<2^50)(hk:4<=k∧k<=7)(hdep:dep<2^50){R:Nat->Ms->List Sm×Ms}(hR:aa7 m pb (((dep+1:Nat):Int) - 1) R)(hu:∀n x,jC x (R n x).2):aj Tryz.prog 267 [mp,it k,it (dep+1:Nat)] (jX m a s l p d) (.bR [encS (m.nested R k ⟨a,s,l,d⟩).1,bo true]) (jX m (m.nested R k ⟨a,s,l,d⟩).2.a (m.nested R k ⟨a,s,l,d⟩).2.s (m.nested R k ⟨a,s,l,d⟩).2.l p (m.nested R k ⟨a,s,l,d⟩).2.d):=by
 have hv:0<m.D.vars:=by have:=fine.ok.vars;have:=m.M5;omega
 have e1:(((dep+1:Nat):Int)==0)=false:=aA
 have e2:decide (k<4)=false:=aA
 have e3:decide (k>7)=false:=aA
 have c1:aj Tryz.prog 322 [mp,it 1] (jX m a (s+1) l p d) (fN (m.cond 1 a).1) (jX m ((m.cond 1 a).2) (s+1) l p d):=LC m (s+1) l p d hv 1 a uk af;have g1:=m.vC 1 a;simp only[DQ]at g1;by_cases k6:k=6
 ·subst k6;have b1:=m.bS (m.cond 1 a).2 (n:=3) af;have b2:=m.bS ((m.cond 1 a).2+1) (n:=2) af;have n1:((1+m.nx ((m.cond 1 a).2+1) 2).toNat:Int)=1+m.nx ((m.cond 1 a).2+1) 2:=by omega
  have r1:=hR (1+m.nx ((m.cond 1 a).2+1) 2).toNat ((m.cond 1 a).2+1+1) (s+1) l (p+1) d af af af hd hp hl;rw[n1]at r1;have e:m.nested R 6 ⟨a,s,l,d⟩=(.mk (s+1:Nat) 12 0 0 (1+m.nx (m.cond 1 a).2 3) zE zE (m.cond 1 a).1 [] [] (R (1+m.nx ((m.cond 1 a).2+1) 2).toNat ⟨(m.cond 1 a).2+1+1,s+1,l,d⟩).1 [],(R (1+m.nx ((m.cond 1 a).2+1) 2).toNat ⟨(m.cond 1 a).2+1+1,s+1,l,d⟩).2):=by rw[Mk.nested,aq rfl]
  rw[e];have p1:((p+1:Nat):Int) - 1=p:=af
  refine fo Tryz.func267 ?_;refine run ?_;repeat((apply aE;first|exact(dH m _ _ _ _ _ af)|exact(c1)|exact(bD m _ _ _ _ _ _ af af)|exact(r1));refine run ?_)
  exact fu.mk (by rw[CX];rfl) rfl
 by_cases k7:k=7
 ·subst k7;have b2:=m.bS (a+1) (n:=2) af;have n1:((1+m.nx (a+1) 2).toNat:Int)=1+m.nx (a+1) 2:=by omega
  have u1:=hu (1+m.nx (a+1) 2).toNat ⟨a+1+1,s+1,l,d⟩;have r1:=hR (1+m.nx (a+1) 2).toNat (a+1+1) (s+1) l p d af af af hd af hl;generalize hb:R (1+m.nx (a+1) 2).toNat ⟨a+1+1,s+1,l,d⟩=b at*;have b3:=m.bS b.2.a (n:=2) af;have n2:((m.nx b.2.a 2).toNat:Int)=m.nx b.2.a 2:=af
  simp only[jC]at u1;have r2:=hR (m.nx b.2.a 2).toNat (b.2.a+1) b.2.s b.2.l p b.2.d af af af af af af;rw[n1]at r1;rw[n2]at r2;have e:m.nested R 7 ⟨a,s,l,d⟩=(.mk (s+1:Nat) 15 (m.tg a) 0 0 zE zE zC [] [] b.1 (R (m.nx b.2.a 2).toNat ⟨b.2.a+1,b.2.s,b.2.l,b.2.d⟩).1,(R (m.nx b.2.a 2).toNat ⟨b.2.a+1,b.2.s,b.2.l,b.2.d⟩).2):=by rw[Mk.nested,ah af,aq rfl];simp only[hb]
  rw[e];refine fo Tryz.func267 ?_;refine run ?_;repeat((apply aE;first|exact(dH m _ _ _ _ _ af)|exact(dd m _ _ _ _ _ af fine.ok)|exact(r1)|exact(r2)|exact(bD m _ _ _ _ _ _ af af));refine run ?_)
  exact fu.mk (by rw[CX];rfl) rfl
 ·have k67:(k==6)=false:=by simpa using k6
  have k77:(k==7)=false:=by simpa using k7
  have b2:=m.bS (m.cond 1 a).2 (n:=2) af;have n1:((1+m.nx (m.cond 1 a).2 2).toNat:Int)=1+m.nx (m.cond 1 a).2 2:=af
  have u1:=hu (1+m.nx (m.cond 1 a).2 2).toNat ⟨(m.cond 1 a).2+1,s+1,l,d⟩;have r1:=hR (1+m.nx (m.cond 1 a).2 2).toNat ((m.cond 1 a).2+1) (s+1) l p d af af af hd af hl;generalize hb:R (1+m.nx (m.cond 1 a).2 2).toNat ⟨(m.cond 1 a).2+1,s+1,l,d⟩=b at*;have b3:=m.bS b.2.a (n:=2) af;have n2:((m.nx b.2.a 2).toNat:Int)=m.nx b.2.a 2:=af
  simp only[jC]at u1;have r2:=hR (m.nx b.2.a 2).toNat (b.2.a+1) b.2.s b.2.l p b.2.d af af af af af af;rw[n1]at r1;rw[n2]at r2;have e:m.nested R k ⟨a,s,l,d⟩=(.mk (s+1:Nat) 11 0 0 0 zE zE (m.cond 1 a).1 [] [] b.1 (R (m.nx b.2.a 2).toNat ⟨b.2.a+1,b.2.s,b.2.l,b.2.d⟩).1,(R (m.nx b.2.a 2).toNat ⟨b.2.a+1,b.2.s,b.2.l,b.2.d⟩).2):=by rw[Mk.nested,ah k6,ah k7];simp only[hb]
  rw[e];refine fo Tryz.func267 ?_;refine run ?_;repeat((apply aE;first|exact(dH m _ _ _ _ _ af)|exact(c1)|exact(r1)|exact(r2)|exact(bD m _ _ _ _ _ _ af af));refine run ?_)
  exact fu.mk (by rw[CX];rfl) rfl
def aZ.inv{W:List Nat}{body:St->(Out->St->Prop)->Prop}{K:Out->St->Prop}{s:St}{ι:Type}(J:ι->Prop)(m:ι->vX)(μ:ι->Nat)(i0:ι)(h0:J i0)(hh:Holds s (s.with W (m i0)) (m i0))(hd:yZ s W=true)(hr:yY s (di W)=true)(ht:∀i,tidy W (di W) (m i)=true∧j8 s (m i).H=true∧j7 s (m i).R=true)(hb:∀i,J i->body (s.with W (m i)) λe s' =>match e with| .normal=>∃j:{i // J i},μ j.1<μ i∧s'.y=s.y∧Holds s' (s.with W (m j.1)) (m j.1)|e=>K e s'):aZ W body K s:=⟨{i // J i},⟨i0,h0⟩,λi=>m i.1,λ_=>s.y,λi=>μ i.1,⟨rfl,hh⟩,hd,hr,λi=>⟨ht i.1,hb i.1 i.2⟩⟩
structure Rnd where
 i:Nat
 acc:List au
 x:Ms
structure Ji(step:Ms->List Sm×Ms)(n:Nat)(x0:Ms)(r:Rnd):Prop where
 i:r.i<=n
 out:r.acc++(pC step (n - r.i) r.x).1.map encS=(pC step n x0).1.map encS
 QH :(pC step (n - r.i) r.x).2=(pC step n x0).2
 less:jC x0 r.x
 len:r.acc.length<=3*r.i
def Ji.next{step:Ms->List Sm×Ms}{n:Nat}{x0:Ms}{r:Rnd}(h:Ji step n x0 r)(h1:r.i<n)(h2:r.x.l≠0)(hl:jC r.x (step r.x).2)(h3:(step r.x).1.length<=3):Ji step n x0 ⟨r.i+1,r.acc++(step r.x).1.map encS,(step r.x).2⟩:=by
 have e:n - r.i=(n - (r.i+1))+1:=af
 have o:=h.out;have q:=h.QH;rw[e]at o q;simp only[pC,ah h2]at o q;refine⟨h1,?_,q,h.less.trans hl,?_⟩;rw[<-o];simp;have:=h.len;simp only[fA,cZ];omega
def Ji.last{step:Ms->List Sm×Ms}{n:Nat}{x0:Ms}{r:Rnd}(h:Ji step n x0 r)(h1:r.i=n∨r.x.l=0):r.acc=(pC step n x0).1.map encS∧r.x=(pC step n x0).2:=by
 have o:=h.out;have q:=h.QH;have e:pC step (n - r.i) r.x=([],r.x):=by rcases h1 with h1|h1;rw[h1,lP];rfl;cases n - r.i with|zero=>rfl|succ k=>simp only[pC,aq h1]
 rw[e]at o q;exact⟨by simpa using o,q⟩
def SD(m:Mk)(fine:m.Ot)(dep:Nat)(hdep:dep<2^40){R:Nat->Ms->List Sm×Ms}(hu:∀n x,jC x (R n x).2)(hR:0<dep->aa7 m (2^50+1 - dep) ((dep:Int) - 1) R)(n a s l p d:Nat)(hn:n<=2^20)(h:a+200*l+1000<2^59)(h' :s+10*l+100<2^59)(hd:d<=2)(hp:p<2^50 - dep)(hl:l<2^50):aj Tryz.prog 220 [mp,it n,it dep] (jX m a s l p d) (fj 20 encS (pC (m.step dep R) n ⟨a,s,l,d⟩).1) (jX m (pC (m.step dep R) n ⟨a,s,l,d⟩).2.a (pC (m.step dep R) n ⟨a,s,l,d⟩).2.s (pC (m.step dep R) n ⟨a,s,l,d⟩).2.l p (pC (m.step dep R) n ⟨a,s,l,d⟩).2.d):=by
 refine fo Tryz.func220 ?_;refine run ?_
 refine bB.mk ⟨[],aZ.inv (Ji (m.step dep R) n ⟨a,s,l,d⟩) (λr=>⟨[(8,it r.i),(7,.ref 12 r.acc.length)],[(1000,N1 m r.x.a r.x.s r.x.l p r.x.d)],[(12,⟨20,true,r.acc⟩)]⟩) (λr=>n - r.i) ⟨0,[],⟨a,s,l,d⟩⟩
  ⟨dL _,ag,ag,jC.refl _,ag⟩ ?_ ?_ ?_ ?_ ?_⟩
 exact vH;exact aB;exact aB;intro r;exact s9;intro r hr;have q1:=hr.i;have q2:=hr.less;have q3:=hr.len;simp only[jC]at q2;by_cases hlast:r.i=n∨r.x.l=0;obtain⟨z1,z2⟩:=hr.last hlast;rw[<-z2];refine(dw (decide ((r.i:Int)<n))).elim (λb1=> ?_) (λb1=> ?_);have b2:decide ((r.x.l:Int)>0)=false:=(by simp at b1 ⊢;omega);refine run ?_;exact fu.mk (by rw[fj,<-z1];rfl) rfl;refine run ?_;exact fu.mk (by rw[fj,<-z1];rfl) rfl;have b1:decide ((r.i:Int)<n)=true:=aA
 have b2:decide ((r.x.l:Int)>0)=true:=aA
 have el:(r.x.l:Int) - 1=((r.x.l - 1:Nat):Int):=af
 have bk:=m.bS r.x.a (n:=16) af;have hs:=m.wu fine.aF dep hu r.x af;have hnx:=hr.next af af hs.1 hs.2
 by_cases DH:0<dep∧4<=m.nx r.x.a 16∧m.nx r.x.a 16<=7
 ·have e:m.step dep R r.x=([(m.nested R (m.nx r.x.a 16) ⟨r.x.a+1,r.x.s,r.x.l-1,r.x.d⟩).1],(m.nested R (m.nx r.x.a 16) ⟨r.x.a+1,r.x.s,r.x.l-1,r.x.d⟩).2):=by rw[Mk.step,aq DH]
  rw[e]at hnx;obtain⟨dep',rfl⟩:∃k,dep=k+1:=⟨dep - 1,af⟩;have hc:=T4 m (m.nx r.x.a 16) dep' (r.x.a+1) r.x.s (r.x.l-1) p r.x.d fine af af af (pb:=2^50+1 - (dep' +1)) af af af DH.2 af (hR DH.1) hu;refine run ?_;repeat((apply aE;first|exact(bD m _ _ _ _ _ _ af af)|exact(hc));refine run ?_)
  refine⟨⟨_,hnx⟩,?_,?_⟩;show n - (r.i+1)<n - r.i;omega;exact vH
 ·have e:m.step dep R r.x=m.other (m.nx r.x.a 16) dep ⟨r.x.a+1,r.x.s,r.x.l-1,r.x.d⟩:=by rw[Mk.step,ah DH]
  rw[e]at hnx hs;have hc:=T5 m (m.nx r.x.a 16) dep (r.x.a+1) r.x.s (r.x.l-1) p r.x.d af;have hx:=(m.Ij (m.nx r.x.a 16) dep ⟨r.x.a+1,r.x.s,r.x.l-1,r.x.d⟩ fine.aF).2.2.1;have ho:aj Tryz.prog 268 [mp,it (m.nx r.x.a 16),it dep] (jX m (r.x.a+1) r.x.s (r.x.l-1) p r.x.d) (fj 20 encS (m.other (m.nx r.x.a 16) dep ⟨r.x.a+1,r.x.s,r.x.l-1,r.x.d⟩).1)
   (jX m (m.other (m.nx r.x.a 16) dep ⟨r.x.a+1,r.x.s,r.x.l-1,r.x.d⟩).2.a (m.other (m.nx r.x.a 16) dep ⟨r.x.a+1,r.x.s,r.x.l-1,r.x.d⟩).2.s (m.other (m.nx r.x.a 16) dep ⟨r.x.a+1,r.x.s,r.x.l-1,r.x.d⟩).2.l p (m.other (m.nx r.x.a 16) dep ⟨r.x.a+1,r.x.s,r.x.l-1,r.x.d⟩).2.d):=by
   rw[hx];exact XF m (m.nx r.x.a 16) dep (r.x.a+1) r.x.s (r.x.l-1) p r.x.d fine af af af bk
  have h3:=hs.2;refine run ?_;repeat((apply aE;first|exact(bD m _ _ _ _ _ _ af af)|exact(hc)|exact(ho));refine run ?_)
  refine⟨⟨_,hnx⟩,?_,?_⟩;show n - (r.i+1)<n - r.i;omega;exact vH
theorem Bd(m:Mk)(fine:m.Ot)(n:Nat)(hn:n<=2^20):∀(dep a s l p d:Nat),dep<2^40->a+200*l+1000<2^59->s+10*l+100<2^59->d<=2->p<2^50 - dep->l<2^50->aj Tryz.prog 220 [mp,it n,it dep] (jX m a s l p d) (fj 20 encS (m.stmts dep n ⟨a,s,l,d⟩).1) (jX m (m.stmts dep n ⟨a,s,l,d⟩).2.a (m.stmts dep n ⟨a,s,l,d⟩).2.s (m.stmts dep n ⟨a,s,l,d⟩).2.l p (m.stmts dep n ⟨a,s,l,d⟩).2.d)
 |0,a,s,l,p,d,h1,h2,h3,h4,h5,h6=>SD m fine 0 h1 (λ_ x=>jC.refl x) (λh=>absurd h (fP 0)) n a s l p d hn h2 h3 h4 h5 h6
 |dep+1,a,s,l,p,d,h1,h2,h3,h4,h5,h6=>by
  refine SD m fine (dep+1) h1 (m.lC fine.aF dep) (λ_=> ?_) n a s l p d hn h2 h3 h4 h5 h6;intro n a s l p d g1 g2 g3 g4 g5 g6;have e:((dep+1:Nat):Int) - 1=(dep:Int):=af
  rw[e];exact Bd m fine n af dep a s l p d af g2 g3 g4 af g6
def J2:=@Nat.zero_lt_succ
def Ws{G:Prop}(h:G:=by let part:Int:=m.dD a;let gs:List pL:=[];let ar:List Ar:=[⟨4,0⟩];exact VE):G:=h
def Wm{G:Prop}(h:G:=by let part:Int:=0;let gs:List pL:=[];let ar:List Ar:=[⟨4,0⟩];exact VE):G:=h
def JQ{G:Prop}(h:G:=by rw[cZ];exact pl):G:=h
def xR{G:Prop}(h:G:=by simp only[Mk.dG];omega):G:=h
def Db{G:Prop}(h:G:=by have YN:0<ar.length:=J2 _;have YM:ar.length<2^40:=tf rfl;exact dcG):G:=h
def Jo{G:Prop}(h:G:=by have YN:0<ar.length:=J2 _;have YM:ar.length<2^40:=tf rfl;exact dcF):G:=h
def VE{G:Prop}(h:G:=by have YN:0<ar.length:=J2 _;have YM:ar.length<2^40:=tf rfl;exact dcT):G:=h
def Rc{G:Prop}(h:G:=by refine⟨⟨⟨v - 1,k+1,acc++[bp (m.rng (a+1+1+1+1+1+k))]⟩,by exact bu,by exact bu,by rw[w3];simp[Mk.params]⟩,by exact bu,?_⟩;exact vH):G:=h
def cq:Dc:=⟨[⟨0,20,1⟩,⟨-5,5,0⟩],[⟨0,9,1⟩,⟨0,100,2⟩],[⟨2,⟨0,15,1⟩⟩],[0,1,3],3,3,2⟩
def DL:aj Tryz.prog 40 [] fZ (.agg (ZR cq)) fZ:=by refine fo Tryz.func40 ?_;exact aT
def lV(d:Df):Hd:=⟨d.id,d.xd,d.part,d.params,d.given⟩
def E3(d:Df):aj Tryz.prog 41 [bQ d] fZ (oL (lV d)) fZ:=by refine fo Tryz.func41 ?_;exact aT
def Lz(m:Mk)(nm:Nat)(a s l p d:Nat)(n:Nat):au:= .agg ([U_ m.L,it a]++(ZR m.d++([.ref 1000 (m.aF.map oL).length,.ref 1001 (m.defs.map bQ).length,.ref 1002 (m.th.map it).length]++([it m.D.id,it m.D.site,.str m.D.name,it m.D.xd,it m.D.part,.ref nm n,fj 3 bp m.D.given,it m.D.vars,it m.D.refs,fj 2 kz m.D.aK,it m.D.lW,fj 20 encS m.D.body]++[it s,it l,it p,it d,bo m.calm]))))
def ctR(m:Mk)(a s l p d:Nat)(ps:List au):Ct:=⟨[Lz m 1003 a s l p d ps.length],[⟨5,true,m.aF.map oL⟩,⟨12,true,m.defs.map bQ⟩,⟨1,true,m.th.map it⟩,⟨3,true,ps⟩]⟩
def XQ(m:Mk)(ps:List au)(a s l p d:Nat)(n:Int)(h:a<2^60)(hn:0<n):aj Tryz.prog 170 [mp,it n] (ctR m a s l p d ps) (it (m.nx a n)) (ctR m (a+1) s l p d ps):=by
 by_cases hl:a<m.L.length;have hb:decide ((a:Int)+1>((m.L.map λb=>au.int .u8 b.toNat).length:Nat))=false:=aA
 have hu:=AP (m.L[a]);refine fo Tryz.func170 ?_;refine run ?_;refine a_.mapE a af af rfl ?_;refine run ?_;refine fu.mk (aL it ?_) rfl;simp[Mk.nx,List.getD,hl];have hb:decide ((a:Int)+1>((m.L.map λb=>au.int .u8 b.toNat).length:Nat))=true:=aA
 refine fo Tryz.func170 ?_;refine run ?_;refine fu.mk (aL it ?_) rfl;simp[Mk.nx,List.getD,hl]
def encMkA(m:Mk)(nm:Nat)(a s l p d:Nat)(n:Nat):au:= .agg ([U_ m.L,it a]++(ZR m.d++([.ref 1000 (m.aF.map oL).length,.ref 1001 (m.defs.map bQ).length,.ref 1002 (m.th.map it).length]++([it m.D.id,it m.D.site,.str m.D.name,it m.D.xd,it m.D.part,fj 3 bp m.D.params,fj 3 bp m.D.given,it m.D.vars,it m.D.refs,.ref nm n,it m.D.lW,fj 20 encS m.D.body]++[it s,it l,it p,it d,bo m.calm]))))
def ctA(m:Mk)(a s l p d:Nat)(ps:List au):Ct:=⟨[encMkA m 1003 a s l p d ps.length],[⟨5,true,m.aF.map oL⟩,⟨12,true,m.defs.map bQ⟩,⟨1,true,m.th.map it⟩,⟨2,true,ps⟩]⟩
def XR(m:Mk)(ps:List au)(a s l p d:Nat)(n:Int)(h:a<2^60)(hn:0<n):aj Tryz.prog 170 [mp,it n] (ctA m a s l p d ps) (it (m.nx a n)) (ctA m (a+1) s l p d ps):=by
 by_cases hl:a<m.L.length;have hb:decide ((a:Int)+1>((m.L.map λb=>au.int .u8 b.toNat).length:Nat))=false:=aA
 have hu:=AP (m.L[a]);refine fo Tryz.func170 ?_;refine run ?_;refine a_.mapE a af af rfl ?_;refine run ?_;refine fu.mk (aL it ?_) rfl;simp[Mk.nx,List.getD,hl];have hb:decide ((a:Int)+1>((m.L.map λb=>au.int .u8 b.toNat).length:Nat))=true:=aA
 refine fo Tryz.func170 ?_;refine run ?_;refine fu.mk (aL it ?_) rfl;simp[Mk.nx,List.getD,hl]
def TO:List pL:=[⟨0,3,0⟩,⟨-2,5,1⟩,⟨0,9,3⟩,⟨2,2,0⟩]
def Mk.rng(m:Mk)(a:Nat):pL:=TO.getD (m.nx a 4).toNat ⟨0,0,0⟩
def Mk.KG(m:Mk)(a:Nat):TO[(m.nx a 4).toNat]? =some (m.rng a):=by
 have h:=m.bS a (n:=4) af;have h2:(m.nx a 4).toNat<TO.length:=by simp[TO];omega
 simp[Mk.rng,List.getD,h2]
def Mk.params(m:Mk)(a:Nat):Nat->List pL|0=>[]|i+1=>m.params a i++[m.rng (a+i)]
theorem Mk.jf(m:Mk)(a:Nat):∀i,(m.params a i).length=i|0=>rfl|i+1=>by simp only[Mk.params,fA,m.jf a i];rfl
def B3:List Int:=[400,60,20,2000]
def Mk.lW(m:Mk)(a:Nat):Int:=B3.getD (m.nx a 4).toNat 0
def Mk.yA(m:Mk)(a:Nat):B3[(m.nx a 4).toNat]? =some (m.lW a):=by
 have h:=m.bS a (n:=4) af;have h2:(m.nx a 4).toNat<B3.length:=by simp[B3];omega
 simp[Mk.lW,List.getD,h2]
def letters:List UInt8:=[97,98,99,100,101,102,103,104]
def nameOf(id:Int):List UInt8:=cut letters (some (id.tmod 8)) (some (id.tmod 8+1))
def Mk.bU(m:Mk)(D:Df):Mk:=⟨m.L,m.d,m.aF,m.defs,m.th,D,m.calm⟩
def Dv(m:Mk)(D:Df)(ps:List au)(a s l p d:Nat)(n:Int)(h:a<2^60)(hn:0<n):aj Tryz.prog 170 [mp,it n] (ctR (m.bU D) a s l p d ps) (it (m.nx a n)) (ctR (m.bU D) (a+1) s l p d ps):=XQ (m.bU D) ps a s l p d n h hn
def XS(m:Mk)(D:Df)(ps:List au)(a s l p d:Nat)(n:Int)(h:a<2^60)(hn:0<n):aj Tryz.prog 170 [mp,it n] (ctA (m.bU D) a s l p d ps) (it (m.nx a n)) (ctA (m.bU D) (a+1) s l p d ps):=XR (m.bU D) ps a s l p d n h hn
def Bv(m:Mk)(D:Df)(a s l p d:Nat)(n:Int)(h:a<2^60)(hn:0<n):aj Tryz.prog 170 [mp,it n] (jX (m.bU D) a s l p d) (it (m.nx a n)) (jX (m.bU D) (a+1) s l p d):=bD (m.bU D) a s l p d n h hn
def Lj:Nat->List Ad|1=>[.cell 1000 17 32,.aR 1000 18,.aR 1000 21,.aR 1000 23]|10=>[.aR 1000 17]|12=>[.aR 1000 18]|17=>[.aR 1000 21]|_=>[]
structure PR where
 v:Int
 k:Nat
 acc:List au
def Mk.dG(m:Mk)(id:Int)(a:Nat)(part:Int)(ps gs:List pL)(vars refs:Int)(ar:List Ar)(body:List Sm)(site:Int):Df:=⟨id,site,nameOf id,m.nx a 2,part,ps,gs,vars,refs,ar,m.lW (a+1+1),body⟩
def Mk.dD(m:Mk)(a:Nat):Int:=(IntKind.i64.wrap ((m.nx (a+1) 6).tdiv 2)).tmod 3
def dh:pL:=⟨-10,10,1⟩
structure Mk.Core(m:Mk):Prop where
 calm:m.calm=false
 aF:∀h∈m.aF,h.params.length<=12∧h.given.length<=12
 nh:m.aF.length<2^30
def Mk.Cq{m:Mk}(h:m.Core){D:Df}(h1:(D.params.length:Int)<D.vars)(h2:D.vars<2^40)(h3:0<D.aK.length)(h4:D.aK.length<2^40):(m.bU D).Ot:=⟨⟨by rw[Mk.M5];exact⟨h1,h2,by show(D.params.length:Int)<_;omega⟩,by rw[Mk.nA_eq];exact⟨by show(0:Int)<(D.aK.length:Int);omega,by show(D.aK.length:Int)<_;omega⟩⟩,h.calm,h.aF,h.nh⟩
def lO(m:Mk)(D:Df)(a s l p d:Nat):Ct:=jX ⟨m.L,m.d,m.aF++[lV D],m.defs++[D],m.th,D,m.calm⟩ a s l p d
def G8(m:Mk)(D:Df)(a s l p d:Nat):lO m D a s l p d=⟨[.agg ([U_ m.L,it a]++(ZR m.d++([.ref 1000 (m.aF.map oL++[oL (lV D)]).length,.ref 1001 (m.defs.map bQ++[bQ D]).length,.ref 1002 (m.th.map it).length]++(cD D++[it s,it l,it p,it d,bo m.calm]))))],[⟨5,true,m.aF.map oL++[oL (lV D)]⟩,⟨12,true,m.defs.map bQ++[bQ D]⟩,⟨1,true,m.th.map it⟩]⟩:=by simp[lO,jX,N1]
def Mk.de(m:Mk)(id:Int)(a s:Nat)(part:Int)(c:Nat)(gs:List pL)(b2:Nat)(ar:List Ar):Df×Ms:=
 (m.dG id a part (m.params (a+1+1+1+1+1) c) gs ((((m.params (a+1+1+1+1+1) c).map bp).length:Nat)+2+m.nx ((a+1+1+1+1+1+c)+1) 2) 2 ar
  ((m.bU (m.dG id a part (m.params (a+1+1+1+1+1) c) gs ((((m.params (a+1+1+1+1+1) c).map bp).length:Nat)+2+m.nx ((a+1+1+1+1+1+c)+1) 2) 2 ar [] 0)).stmts 2 (1+m.nx b2 5).toNat ⟨b2+1,s,9,0⟩).1
  (((m.bU (m.dG id a part (m.params (a+1+1+1+1+1) c) gs ((((m.params (a+1+1+1+1+1) c).map bp).length:Nat)+2+m.nx ((a+1+1+1+1+1+c)+1) 2) 2 ar [] 0)).stmts 2 (1+m.nx b2 5).toNat ⟨b2+1,s,9,0⟩).2.s+1:Nat),((m.bU (m.dG id a part (m.params (a+1+1+1+1+1) c) gs ((((m.params (a+1+1+1+1+1) c).map bp).length:Nat)+2+m.nx ((a+1+1+1+1+1+c)+1) 2) 2 ar [] 0)).stmts 2 (1+m.nx b2 5).toNat ⟨b2+1,s,9,0⟩).2)
def dcT{G:Prop}(x:G:=by
 show aj Tryz.prog 171 [mp,it id,bo true] (jX m a s l p d) (.bR []) (lO m (m.dG id a part (m.params (a+1+1+1+1+1) 0) gs (((((m.params (a+1+1+1+1+1) 0).map bp).length:Nat):Int)+2+m.nx ((a+1+1+1+1+1+0)+1) 2) 2 ar ((m.bU (m.dG id a part (m.params (a+1+1+1+1+1) 0) gs (((((m.params (a+1+1+1+1+1) 0).map bp).length:Nat):Int)+2+m.nx ((a+1+1+1+1+1+0)+1) 2) 2 ar [] 0)).stmts 2 (1+m.nx ((a+1+1+1+1+1+0)+1+1) 5).toNat ⟨((a+1+1+1+1+1+0)+1+1)+1,s,9,0⟩).1 (((m.bU (m.dG id a part (m.params (a+1+1+1+1+1) 0) gs (((((m.params (a+1+1+1+1+1) 0).map bp).length:Nat):Int)+2+m.nx ((a+1+1+1+1+1+0)+1) 2) 2 ar [] 0)).stmts 2 (1+m.nx ((a+1+1+1+1+1+0)+1+1) 5).toNat ⟨((a+1+1+1+1+1+0)+1+1)+1,s,9,0⟩).2.s+1:Nat)) ((m.bU (m.dG id a part (m.params (a+1+1+1+1+1) 0) gs (((((m.params (a+1+1+1+1+1) 0).map bp).length:Nat):Int)+2+m.nx ((a+1+1+1+1+1+0)+1) 2) 2 ar [] 0)).stmts 2 (1+m.nx ((a+1+1+1+1+1+0)+1+1) 5).toNat ⟨((a+1+1+1+1+1+0)+1+1)+1,s,9,0⟩).2.a (((m.bU (m.dG id a part (m.params (a+1+1+1+1+1) 0) gs (((((m.params (a+1+1+1+1+1) 0).map bp).length:Nat):Int)+2+m.nx ((a+1+1+1+1+1+0)+1) 2) 2 ar [] 0)).stmts 2 (1+m.nx ((a+1+1+1+1+1+0)+1+1) 5).toNat ⟨((a+1+1+1+1+1+0)+1+1)+1,s,9,0⟩).2.s+1) ((m.bU (m.dG id a part (m.params (a+1+1+1+1+1) 0) gs (((((m.params (a+1+1+1+1+1) 0).map bp).length:Nat):Int)+2+m.nx ((a+1+1+1+1+1+0)+1) 2) 2 ar [] 0)).stmts 2 (1+m.nx ((a+1+1+1+1+1+0)+1+1) 5).toNat ⟨((a+1+1+1+1+1+0)+1+1)+1,s,9,0⟩).2.l p ((m.bU (m.dG id a part (m.params (a+1+1+1+1+1) 0) gs (((((m.params (a+1+1+1+1+1) 0).map bp).length:Nat):Int)+2+m.nx ((a+1+1+1+1+1+0)+1) 2) 2 ar [] 0)).stmts 2 (1+m.nx ((a+1+1+1+1+1+0)+1+1) 5).toNat ⟨((a+1+1+1+1+1+0)+1+1)+1,s,9,0⟩).2.d);have bi:0<=id.tmod 8∧id.tmod 8<8:=⟨dz _ hid.1,fw _ af⟩;have n0:=m.bS a (n:=2) af;have n1:=m.bS (a+1) (n:=6) af;have n2:=m.bS (a+1+1) (n:=4) af;have hcalm:=fine.calm;have bX:=m.bS (a+1+1+1+1) (n:=3) af;have bv:=m.bS ((a+1+1+1+1+1+0)+1) (n:=2) af;have b5:=m.bS ((a+1+1+1+1+1+0)+1+1) (n:=5) af;have pl:(m.params (a+1+1+1+1+1) 0).length=0:=m.jf _ _;have pl2:((m.params (a+1+1+1+1+1) 0).map bp).length=0:=JQ
 have pl2a:((m.bU (m.dG id a part (m.params (a+1+1+1+1+1) 0) [] 0 0 [] [] 0)).D.params.map bp).length=0:=pl2;have pl2b:((m.bU (m.dG id a part (m.params (a+1+1+1+1+1) 0) gs 0 0 [] [] 0)).D.params.map bp).length=0:=pl2;have pl3:decide (((((m.params (a+1+1+1+1+1) 0).map bp).length:Nat):Int)>0)=false:=by rw[pl2];rfl
 have k1:((1+m.nx ((a+1+1+1+1+1+0)+1+1) 5).toNat:Int)=1+m.nx ((a+1+1+1+1+1+0)+1+1) 5:=af
 have DJ:(m.bU (m.dG id a part (m.params (a+1+1+1+1+1) 0) gs (((((m.params (a+1+1+1+1+1) 0).map bp).length:Nat):Int)+2+m.nx ((a+1+1+1+1+1+0)+1) 2) 2 ar [] 0)).Ot:=Mk.Cq fine xR xR YN YM;have r1:=Bd _ DJ (1+m.nx ((a+1+1+1+1+1+0)+1+1) 5).toNat af 2 (((a+1+1+1+1+1+0)+1+1)+1) s 9 p 0 af af af af af af;rw[k1]at r1;have us:=(m.bU (m.dG id a part (m.params (a+1+1+1+1+1) 0) gs (((((m.params (a+1+1+1+1+1) 0).map bp).length:Nat):Int)+2+m.nx ((a+1+1+1+1+1+0)+1) 2) 2 ar [] 0)).lC DJ.aF 2 (1+m.nx ((a+1+1+1+1+1+0)+1+1) 5).toNat ⟨((a+1+1+1+1+1+0)+1+1)+1,s,9,0⟩;simp only[jC]at us;rw[G8];generalize hR:(m.bU (m.dG id a part (m.params (a+1+1+1+1+1) 0) gs (((((m.params (a+1+1+1+1+1) 0).map bp).length:Nat):Int)+2+m.nx ((a+1+1+1+1+1+0)+1) 2) 2 ar [] 0)).stmts 2 (1+m.nx ((a+1+1+1+1+1+0)+1+1) 5).toNat ⟨((a+1+1+1+1+1+0)+1+1)+1,s,9,0⟩=rr at r1 us ⊢;have hl1:(m.bU (m.dG id a part (m.params (a+1+1+1+1+1) 0) gs (((((m.params (a+1+1+1+1+1) 0).map bp).length:Nat):Int)+2+m.nx ((a+1+1+1+1+1+0)+1) 2) 2 ar rr.1 0)).defs.length<2^20:=hlen.2;have hl2:(m.bU (m.dG id a part (m.params (a+1+1+1+1+1) 0) gs (((((m.params (a+1+1+1+1+1) 0).map bp).length:Nat):Int)+2+m.nx ((a+1+1+1+1+1+0)+1) 2) 2 ar rr.1 0)).aF.length<2^20:=hlen.1;have hl3:(m.bU (m.dG id a part (m.params (a+1+1+1+1+1) 0) gs ((((m.params (a+1+1+1+1+1) 0).length:Nat):Int)+2+m.nx ((a+1+1+1+1+1+0)+1) 2) 2 ar rr.1 0)).defs.length<2^20:=hlen.2;have hl4:(m.bU (m.dG id a part (m.params (a+1+1+1+1+1) 0) gs ((((m.params (a+1+1+1+1+1) 0).length:Nat):Int)+2+m.nx ((a+1+1+1+1+1+0)+1) 2) 2 ar rr.1 0)).aF.length<2^20:=hlen.1;have hl5:(m.bU (m.dG id a part (m.params (a+1+1+1+1+1) 0) gs ((((m.params (a+1+1+1+1+1) 0).length:Nat):Int)+2+m.nx (a+5+1) 2) 2 ar rr.1 0)).defs.length<2^20:=hlen.2;have hl6:(m.bU (m.dG id a part (m.params (a+1+1+1+1+1) 0) gs ((((m.params (a+1+1+1+1+1) 0).length:Nat):Int)+2+m.nx (a+5+1) 2) 2 ar rr.1 0)).aF.length<2^20:=hlen.1;refine eg hm Tryz.func171 (λ_=>false) [] Lj aB ?_;refine run ?_;repeat((apply aE;first|exact(bD m _ _ _ _ _ _ af af));refine run ?_)
 iterate 2 refine a_.Qh (f:=it) (m.nx (a+1+1) 4).toNat (m.lW (a+1+1)) af (m.yA (a+1+1)) rfl ?_;refine run ?_
 refine run ?_;repeat((apply aE;first|exact(Dv m (m.dG id a (m.dD a) [] [] 0 0 [] [] 0) [] _ _ _ _ _ _ af af)|exact(Dv m (m.dG id a part [] [] 0 0 [] [] 0) [] _ _ _ _ _ _ af af));refine run ?_)
 refine bB.mk ⟨[],aZ.inv (λr:PR=>r.v=m.nx (a+1+1+1+1) 3 - r.k∧r.k<=0∧r.acc=(m.params (a+1+1+1+1+1) r.k).map bp) (λr=>⟨[(7,it r.v)],[(1000,Lz (m.bU (m.dG id a part [] [] 0 0 [] [] 0)) 32 (a+1+1+1+1+1+r.k) s l p d r.acc.length)],[(32,⟨3,true,r.acc⟩)]⟩) (λr=>0 - r.k) ⟨m.nx (a+1+1+1+1) 3,0,[]⟩ ⟨ag,dL _,rfl⟩ ?_ ?_ ?_ ?_ ?_⟩;exact vH;exact aB;exact aB;intro r;exact s9
 rintro ⟨v,k,acc⟩ ⟨w1,w2,w3⟩
 dsimp only at w1 w2 w3 ⊢;have hb1:k=0:=af
 subst hb1 w3;refine Br.mk (λhb=> ?_) (λhb=> ?_);all_goals
  refine run ?_;repeat((apply aE;first|exact(Bv m (m.dG id a part (m.params (a+1+1+1+1+1) 0) [] 0 0 [] [] 0) _ _ _ _ _ _ af af)|exact(Bv m (m.dG id a part (m.params (a+1+1+1+1+1) 0) gs 0 0 [] [] 0) _ _ _ _ _ _ af af)|exact(XS m (m.dG id a part (m.params (a+1+1+1+1+1) 0) gs (((((m.params (a+1+1+1+1+1) 0).map bp).length:Nat):Int)+2+m.nx ((a+1+1+1+1+1+0)+1) 2) 2 [] [] 0) [kz ⟨4,0⟩] _ _ _ _ _ _ af af)|exact(Bv m (m.dG id a part (m.params (a+1+1+1+1+1) 0) gs (((((m.params (a+1+1+1+1+1) 0).map bp).length:Nat):Int)+2+m.nx ((a+1+1+1+1+1+0)+1) 2) 2 ar [] 0) _ _ _ _ _ _ af af)|exact(r1)|exact(dH (m.bU (m.dG id a part (m.params (a+1+1+1+1+1) 0) gs (((((m.params (a+1+1+1+1+1) 0).map bp).length:Nat):Int)+2+m.nx ((a+1+1+1+1+1+0)+1) 2) 2 ar rr.1 0)) _ _ _ _ _ af)|exact(E3 (m.dG id a part (m.params (a+1+1+1+1+1) 0) gs (((((m.params (a+1+1+1+1+1) 0).map bp).length:Nat):Int)+2+m.nx ((a+1+1+1+1+1+0)+1) 2) 2 ar rr.1 (rr.2.s+1:Nat))));refine run ?_)
  exact aG):G:=x
def dcF{G:Prop}(x:G:=by
 show aj Tryz.prog 171 [mp,it id,bo false] (jX m a s l p d) (.bR []) (lO m (m.dG id a part (m.params (a+1+1+1+1+1) (m.nx (a+1+1+1+1) 3).toNat) gs (((((m.params (a+1+1+1+1+1) (m.nx (a+1+1+1+1) 3).toNat).map bp).length:Nat):Int)+2+m.nx ((a+1+1+1+1+1+(m.nx (a+1+1+1+1) 3).toNat)+1) 2) 2 ar ((m.bU (m.dG id a part (m.params (a+1+1+1+1+1) (m.nx (a+1+1+1+1) 3).toNat) gs (((((m.params (a+1+1+1+1+1) (m.nx (a+1+1+1+1) 3).toNat).map bp).length:Nat):Int)+2+m.nx ((a+1+1+1+1+1+(m.nx (a+1+1+1+1) 3).toNat)+1) 2) 2 ar [] 0)).stmts 2 (1+m.nx ((a+1+1+1+1+1+(m.nx (a+1+1+1+1) 3).toNat)+1+1) 5).toNat ⟨((a+1+1+1+1+1+(m.nx (a+1+1+1+1) 3).toNat)+1+1)+1,s,9,0⟩).1 (((m.bU (m.dG id a part (m.params (a+1+1+1+1+1) (m.nx (a+1+1+1+1) 3).toNat) gs (((((m.params (a+1+1+1+1+1) (m.nx (a+1+1+1+1) 3).toNat).map bp).length:Nat):Int)+2+m.nx ((a+1+1+1+1+1+(m.nx (a+1+1+1+1) 3).toNat)+1) 2) 2 ar [] 0)).stmts 2 (1+m.nx ((a+1+1+1+1+1+(m.nx (a+1+1+1+1) 3).toNat)+1+1) 5).toNat ⟨((a+1+1+1+1+1+(m.nx (a+1+1+1+1) 3).toNat)+1+1)+1,s,9,0⟩).2.s+1:Nat)) ((m.bU (m.dG id a part (m.params (a+1+1+1+1+1) (m.nx (a+1+1+1+1) 3).toNat) gs (((((m.params (a+1+1+1+1+1) (m.nx (a+1+1+1+1) 3).toNat).map bp).length:Nat):Int)+2+m.nx ((a+1+1+1+1+1+(m.nx (a+1+1+1+1) 3).toNat)+1) 2) 2 ar [] 0)).stmts 2 (1+m.nx ((a+1+1+1+1+1+(m.nx (a+1+1+1+1) 3).toNat)+1+1) 5).toNat ⟨((a+1+1+1+1+1+(m.nx (a+1+1+1+1) 3).toNat)+1+1)+1,s,9,0⟩).2.a (((m.bU (m.dG id a part (m.params (a+1+1+1+1+1) (m.nx (a+1+1+1+1) 3).toNat) gs (((((m.params (a+1+1+1+1+1) (m.nx (a+1+1+1+1) 3).toNat).map bp).length:Nat):Int)+2+m.nx ((a+1+1+1+1+1+(m.nx (a+1+1+1+1) 3).toNat)+1) 2) 2 ar [] 0)).stmts 2 (1+m.nx ((a+1+1+1+1+1+(m.nx (a+1+1+1+1) 3).toNat)+1+1) 5).toNat ⟨((a+1+1+1+1+1+(m.nx (a+1+1+1+1) 3).toNat)+1+1)+1,s,9,0⟩).2.s+1) ((m.bU (m.dG id a part (m.params (a+1+1+1+1+1) (m.nx (a+1+1+1+1) 3).toNat) gs (((((m.params (a+1+1+1+1+1) (m.nx (a+1+1+1+1) 3).toNat).map bp).length:Nat):Int)+2+m.nx ((a+1+1+1+1+1+(m.nx (a+1+1+1+1) 3).toNat)+1) 2) 2 ar [] 0)).stmts 2 (1+m.nx ((a+1+1+1+1+1+(m.nx (a+1+1+1+1) 3).toNat)+1+1) 5).toNat ⟨((a+1+1+1+1+1+(m.nx (a+1+1+1+1) 3).toNat)+1+1)+1,s,9,0⟩).2.l p ((m.bU (m.dG id a part (m.params (a+1+1+1+1+1) (m.nx (a+1+1+1+1) 3).toNat) gs (((((m.params (a+1+1+1+1+1) (m.nx (a+1+1+1+1) 3).toNat).map bp).length:Nat):Int)+2+m.nx ((a+1+1+1+1+1+(m.nx (a+1+1+1+1) 3).toNat)+1) 2) 2 ar [] 0)).stmts 2 (1+m.nx ((a+1+1+1+1+1+(m.nx (a+1+1+1+1) 3).toNat)+1+1) 5).toNat ⟨((a+1+1+1+1+1+(m.nx (a+1+1+1+1) 3).toNat)+1+1)+1,s,9,0⟩).2.d);have bi:0<=id.tmod 8∧id.tmod 8<8:=⟨dz _ hid.1,fw _ af⟩;have n0:=m.bS a (n:=2) af;have n1:=m.bS (a+1) (n:=6) af;have n2:=m.bS (a+1+1) (n:=4) af;have hcalm:=fine.calm;have bX:=m.bS (a+1+1+1+1) (n:=3) af;have bv:=m.bS ((a+1+1+1+1+1+(m.nx (a+1+1+1+1) 3).toNat)+1) (n:=2) af;have b5:=m.bS ((a+1+1+1+1+1+(m.nx (a+1+1+1+1) 3).toNat)+1+1) (n:=5) af;have pl:(m.params (a+1+1+1+1+1) (m.nx (a+1+1+1+1) 3).toNat).length=(m.nx (a+1+1+1+1) 3).toNat:=m.jf _ _;have pl2:((m.params (a+1+1+1+1+1) (m.nx (a+1+1+1+1) 3).toNat).map bp).length=(m.nx (a+1+1+1+1) 3).toNat:=JQ
 have pl2a:((m.bU (m.dG id a part (m.params (a+1+1+1+1+1) (m.nx (a+1+1+1+1) 3).toNat) [] 0 0 [] [] 0)).D.params.map bp).length=(m.nx (a+1+1+1+1) 3).toNat:=pl2;have pl2b:((m.bU (m.dG id a part (m.params (a+1+1+1+1+1) (m.nx (a+1+1+1+1) 3).toNat) gs 0 0 [] [] 0)).D.params.map bp).length=(m.nx (a+1+1+1+1) 3).toNat:=pl2;have pl3:decide ((((m.params (a+1+1+1+1+1) (m.nx (a+1+1+1+1) 3).toNat).map bp).length:Nat)>(0:Int))=false:=by rw[pl2,hX];rfl
 have k1:((1+m.nx ((a+1+1+1+1+1+(m.nx (a+1+1+1+1) 3).toNat)+1+1) 5).toNat:Int)=1+m.nx ((a+1+1+1+1+1+(m.nx (a+1+1+1+1) 3).toNat)+1+1) 5:=af
 have DJ:(m.bU (m.dG id a part (m.params (a+1+1+1+1+1) (m.nx (a+1+1+1+1) 3).toNat) gs (((((m.params (a+1+1+1+1+1) (m.nx (a+1+1+1+1) 3).toNat).map bp).length:Nat):Int)+2+m.nx ((a+1+1+1+1+1+(m.nx (a+1+1+1+1) 3).toNat)+1) 2) 2 ar [] 0)).Ot:=Mk.Cq fine xR xR YN YM;have r1:=Bd _ DJ (1+m.nx ((a+1+1+1+1+1+(m.nx (a+1+1+1+1) 3).toNat)+1+1) 5).toNat af 2 (((a+1+1+1+1+1+(m.nx (a+1+1+1+1) 3).toNat)+1+1)+1) s 9 p 0 af af af af af af;rw[k1]at r1;have us:=(m.bU (m.dG id a part (m.params (a+1+1+1+1+1) (m.nx (a+1+1+1+1) 3).toNat) gs (((((m.params (a+1+1+1+1+1) (m.nx (a+1+1+1+1) 3).toNat).map bp).length:Nat):Int)+2+m.nx ((a+1+1+1+1+1+(m.nx (a+1+1+1+1) 3).toNat)+1) 2) 2 ar [] 0)).lC DJ.aF 2 (1+m.nx ((a+1+1+1+1+1+(m.nx (a+1+1+1+1) 3).toNat)+1+1) 5).toNat ⟨((a+1+1+1+1+1+(m.nx (a+1+1+1+1) 3).toNat)+1+1)+1,s,9,0⟩;simp only[jC]at us;rw[G8];generalize hR:(m.bU (m.dG id a part (m.params (a+1+1+1+1+1) (m.nx (a+1+1+1+1) 3).toNat) gs (((((m.params (a+1+1+1+1+1) (m.nx (a+1+1+1+1) 3).toNat).map bp).length:Nat):Int)+2+m.nx ((a+1+1+1+1+1+(m.nx (a+1+1+1+1) 3).toNat)+1) 2) 2 ar [] 0)).stmts 2 (1+m.nx ((a+1+1+1+1+1+(m.nx (a+1+1+1+1) 3).toNat)+1+1) 5).toNat ⟨((a+1+1+1+1+1+(m.nx (a+1+1+1+1) 3).toNat)+1+1)+1,s,9,0⟩=rr at r1 us ⊢;have hl1:(m.bU (m.dG id a part (m.params (a+1+1+1+1+1) (m.nx (a+1+1+1+1) 3).toNat) gs (((((m.params (a+1+1+1+1+1) (m.nx (a+1+1+1+1) 3).toNat).map bp).length:Nat):Int)+2+m.nx ((a+1+1+1+1+1+(m.nx (a+1+1+1+1) 3).toNat)+1) 2) 2 ar rr.1 0)).defs.length<2^20:=hlen.2;have hl2:(m.bU (m.dG id a part (m.params (a+1+1+1+1+1) (m.nx (a+1+1+1+1) 3).toNat) gs (((((m.params (a+1+1+1+1+1) (m.nx (a+1+1+1+1) 3).toNat).map bp).length:Nat):Int)+2+m.nx ((a+1+1+1+1+1+(m.nx (a+1+1+1+1) 3).toNat)+1) 2) 2 ar rr.1 0)).aF.length<2^20:=hlen.1;have hl3:(m.bU (m.dG id a part (m.params (a+1+1+1+1+1) (m.nx (a+1+1+1+1) 3).toNat) gs ((((m.params (a+1+1+1+1+1) (m.nx (a+1+1+1+1) 3).toNat).length:Nat):Int)+2+m.nx ((a+1+1+1+1+1+(m.nx (a+1+1+1+1) 3).toNat)+1) 2) 2 ar rr.1 0)).defs.length<2^20:=hlen.2;have hl4:(m.bU (m.dG id a part (m.params (a+1+1+1+1+1) (m.nx (a+1+1+1+1) 3).toNat) gs ((((m.params (a+1+1+1+1+1) (m.nx (a+1+1+1+1) 3).toNat).length:Nat):Int)+2+m.nx ((a+1+1+1+1+1+(m.nx (a+1+1+1+1) 3).toNat)+1) 2) 2 ar rr.1 0)).aF.length<2^20:=hlen.1;refine eg hm Tryz.func171 (λ_=>false) [] Lj aB ?_;refine run ?_;repeat((apply aE;first|exact(bD m _ _ _ _ _ _ af af));refine run ?_)
 iterate 2 refine a_.Qh (f:=it) (m.nx (a+1+1) 4).toNat (m.lW (a+1+1)) af (m.yA (a+1+1)) rfl ?_;refine run ?_
 refine run ?_;repeat((apply aE;first|exact(Dv m (m.dG id a (m.dD a) [] [] 0 0 [] [] 0) [] _ _ _ _ _ _ af af)|exact(Dv m (m.dG id a part [] [] 0 0 [] [] 0) [] _ _ _ _ _ _ af af));refine run ?_)
 refine bB.mk ⟨[],aZ.inv (λr:PR=>r.v=m.nx (a+1+1+1+1) 3 - r.k∧r.k<=(m.nx (a+1+1+1+1) 3).toNat∧r.acc=(m.params (a+1+1+1+1+1) r.k).map bp) (λr=>⟨[(7,it r.v)],[(1000,Lz (m.bU (m.dG id a part [] [] 0 0 [] [] 0)) 32 (a+1+1+1+1+1+r.k) s l p d r.acc.length)],[(32,⟨3,true,r.acc⟩)]⟩) (λr=>(m.nx (a+1+1+1+1) 3).toNat - r.k) ⟨m.nx (a+1+1+1+1) 3,0,[]⟩ ⟨ag,dL _,rfl⟩ ?_ ?_ ?_ ?_ ?_⟩;exact vH;exact aB;exact aB;intro r;exact s9
 rintro ⟨v,k,acc⟩ ⟨w1,w2,w3⟩
 dsimp only at w1 w2 w3 ⊢;refine Br.mk (λhb=> ?_) (λhb=> ?_)
 ·have hb1:0<v:=by simpa using hb
  have hl:acc.length=k:=by rw[w3];simp[m.jf]
  have bk:=m.bS (a+1+1+1+1+1+k) (n:=4) af;refine run ?_;repeat((apply aE;first|exact(Dv m (m.dG id a part [] [] 0 0 [] [] 0) _ _ _ _ _ _ _ af af));refine run ?_)
  iterate 2 refine a_.Qh (f:=bp) (m.nx (a+1+1+1+1+1+k) 4).toNat (m.rng (a+1+1+1+1+1+k)) af (m.KG _) rfl ?_;refine run ?_
  exact Rc
 ·have hb1:k=(m.nx (a+1+1+1+1) 3).toNat:=by simp at hb;omega
  subst hb1 w3;refine run ?_;repeat((apply aE;first|exact(Bv m (m.dG id a part (m.params (a+1+1+1+1+1) (m.nx (a+1+1+1+1) 3).toNat) [] 0 0 [] [] 0) _ _ _ _ _ _ af af)|exact(Bv m (m.dG id a part (m.params (a+1+1+1+1+1) (m.nx (a+1+1+1+1) 3).toNat) gs 0 0 [] [] 0) _ _ _ _ _ _ af af)|exact(XS m (m.dG id a part (m.params (a+1+1+1+1+1) (m.nx (a+1+1+1+1) 3).toNat) gs (((((m.params (a+1+1+1+1+1) (m.nx (a+1+1+1+1) 3).toNat).map bp).length:Nat):Int)+2+m.nx ((a+1+1+1+1+1+(m.nx (a+1+1+1+1) 3).toNat)+1) 2) 2 [] [] 0) [kz ⟨4,0⟩] _ _ _ _ _ _ af af)|exact(Bv m (m.dG id a part (m.params (a+1+1+1+1+1) (m.nx (a+1+1+1+1) 3).toNat) gs (((((m.params (a+1+1+1+1+1) (m.nx (a+1+1+1+1) 3).toNat).map bp).length:Nat):Int)+2+m.nx ((a+1+1+1+1+1+(m.nx (a+1+1+1+1) 3).toNat)+1) 2) 2 ar [] 0) _ _ _ _ _ _ af af)|exact(r1)|exact(dH (m.bU (m.dG id a part (m.params (a+1+1+1+1+1) (m.nx (a+1+1+1+1) 3).toNat) gs (((((m.params (a+1+1+1+1+1) (m.nx (a+1+1+1+1) 3).toNat).map bp).length:Nat):Int)+2+m.nx ((a+1+1+1+1+1+(m.nx (a+1+1+1+1) 3).toNat)+1) 2) 2 ar rr.1 0)) _ _ _ _ _ af)|exact(E3 (m.dG id a part (m.params (a+1+1+1+1+1) (m.nx (a+1+1+1+1) 3).toNat) gs (((((m.params (a+1+1+1+1+1) (m.nx (a+1+1+1+1) 3).toNat).map bp).length:Nat):Int)+2+m.nx ((a+1+1+1+1+1+(m.nx (a+1+1+1+1) 3).toNat)+1) 2) 2 ar rr.1 (rr.2.s+1:Nat))));refine run ?_)
  exact aG):G:=x
def dcG{G:Prop}(x:G:=by
 show aj Tryz.prog 171 [mp,it id,bo false] (jX m a s l p d) (.bR []) (lO m (m.dG id a part (m.params (a+1+1+1+1+1) (m.nx (a+1+1+1+1) 3).toNat) gs (((((m.params (a+1+1+1+1+1) (m.nx (a+1+1+1+1) 3).toNat).map bp).length:Nat):Int)+2+m.nx ((a+1+1+1+1+1+(m.nx (a+1+1+1+1) 3).toNat)+1) 2) 2 ar ((m.bU (m.dG id a part (m.params (a+1+1+1+1+1) (m.nx (a+1+1+1+1) 3).toNat) gs (((((m.params (a+1+1+1+1+1) (m.nx (a+1+1+1+1) 3).toNat).map bp).length:Nat):Int)+2+m.nx ((a+1+1+1+1+1+(m.nx (a+1+1+1+1) 3).toNat)+1) 2) 2 ar [] 0)).stmts 2 (1+m.nx ((a+1+1+1+1+1+(m.nx (a+1+1+1+1) 3).toNat)+1+1+1) 5).toNat ⟨((a+1+1+1+1+1+(m.nx (a+1+1+1+1) 3).toNat)+1+1+1)+1,s,9,0⟩).1 (((m.bU (m.dG id a part (m.params (a+1+1+1+1+1) (m.nx (a+1+1+1+1) 3).toNat) gs (((((m.params (a+1+1+1+1+1) (m.nx (a+1+1+1+1) 3).toNat).map bp).length:Nat):Int)+2+m.nx ((a+1+1+1+1+1+(m.nx (a+1+1+1+1) 3).toNat)+1) 2) 2 ar [] 0)).stmts 2 (1+m.nx ((a+1+1+1+1+1+(m.nx (a+1+1+1+1) 3).toNat)+1+1+1) 5).toNat ⟨((a+1+1+1+1+1+(m.nx (a+1+1+1+1) 3).toNat)+1+1+1)+1,s,9,0⟩).2.s+1:Nat)) ((m.bU (m.dG id a part (m.params (a+1+1+1+1+1) (m.nx (a+1+1+1+1) 3).toNat) gs (((((m.params (a+1+1+1+1+1) (m.nx (a+1+1+1+1) 3).toNat).map bp).length:Nat):Int)+2+m.nx ((a+1+1+1+1+1+(m.nx (a+1+1+1+1) 3).toNat)+1) 2) 2 ar [] 0)).stmts 2 (1+m.nx ((a+1+1+1+1+1+(m.nx (a+1+1+1+1) 3).toNat)+1+1+1) 5).toNat ⟨((a+1+1+1+1+1+(m.nx (a+1+1+1+1) 3).toNat)+1+1+1)+1,s,9,0⟩).2.a (((m.bU (m.dG id a part (m.params (a+1+1+1+1+1) (m.nx (a+1+1+1+1) 3).toNat) gs (((((m.params (a+1+1+1+1+1) (m.nx (a+1+1+1+1) 3).toNat).map bp).length:Nat):Int)+2+m.nx ((a+1+1+1+1+1+(m.nx (a+1+1+1+1) 3).toNat)+1) 2) 2 ar [] 0)).stmts 2 (1+m.nx ((a+1+1+1+1+1+(m.nx (a+1+1+1+1) 3).toNat)+1+1+1) 5).toNat ⟨((a+1+1+1+1+1+(m.nx (a+1+1+1+1) 3).toNat)+1+1+1)+1,s,9,0⟩).2.s+1) ((m.bU (m.dG id a part (m.params (a+1+1+1+1+1) (m.nx (a+1+1+1+1) 3).toNat) gs (((((m.params (a+1+1+1+1+1) (m.nx (a+1+1+1+1) 3).toNat).map bp).length:Nat):Int)+2+m.nx ((a+1+1+1+1+1+(m.nx (a+1+1+1+1) 3).toNat)+1) 2) 2 ar [] 0)).stmts 2 (1+m.nx ((a+1+1+1+1+1+(m.nx (a+1+1+1+1) 3).toNat)+1+1+1) 5).toNat ⟨((a+1+1+1+1+1+(m.nx (a+1+1+1+1) 3).toNat)+1+1+1)+1,s,9,0⟩).2.l p ((m.bU (m.dG id a part (m.params (a+1+1+1+1+1) (m.nx (a+1+1+1+1) 3).toNat) gs (((((m.params (a+1+1+1+1+1) (m.nx (a+1+1+1+1) 3).toNat).map bp).length:Nat):Int)+2+m.nx ((a+1+1+1+1+1+(m.nx (a+1+1+1+1) 3).toNat)+1) 2) 2 ar [] 0)).stmts 2 (1+m.nx ((a+1+1+1+1+1+(m.nx (a+1+1+1+1) 3).toNat)+1+1+1) 5).toNat ⟨((a+1+1+1+1+1+(m.nx (a+1+1+1+1) 3).toNat)+1+1+1)+1,s,9,0⟩).2.d);have bi:0<=id.tmod 8∧id.tmod 8<8:=⟨dz _ hid.1,fw _ af⟩;have n0:=m.bS a (n:=2) af;have n1:=m.bS (a+1) (n:=6) af;have n2:=m.bS (a+1+1) (n:=4) af;have hcalm:=fine.calm;have bX:=m.bS (a+1+1+1+1) (n:=3) af;have bv:=m.bS ((a+1+1+1+1+1+(m.nx (a+1+1+1+1) 3).toNat)+1) (n:=2) af;have b5:=m.bS ((a+1+1+1+1+1+(m.nx (a+1+1+1+1) 3).toNat)+1+1+1) (n:=5) af;have pl:(m.params (a+1+1+1+1+1) (m.nx (a+1+1+1+1) 3).toNat).length=(m.nx (a+1+1+1+1) 3).toNat:=m.jf _ _;have pl2:((m.params (a+1+1+1+1+1) (m.nx (a+1+1+1+1) 3).toNat).map bp).length=(m.nx (a+1+1+1+1) 3).toNat:=JQ
 have pl2a:((m.bU (m.dG id a part (m.params (a+1+1+1+1+1) (m.nx (a+1+1+1+1) 3).toNat) [] 0 0 [] [] 0)).D.params.map bp).length=(m.nx (a+1+1+1+1) 3).toNat:=pl2;have pl2b:((m.bU (m.dG id a part (m.params (a+1+1+1+1+1) (m.nx (a+1+1+1+1) 3).toNat) gs 0 0 [] [] 0)).D.params.map bp).length=(m.nx (a+1+1+1+1) 3).toNat:=pl2;have pl3:decide (((((m.params (a+1+1+1+1+1) (m.nx (a+1+1+1+1) 3).toNat).map bp).length:Nat):Int)>0)=true:=by rw[pl2];exact aA
 have k1:((1+m.nx ((a+1+1+1+1+1+(m.nx (a+1+1+1+1) 3).toNat)+1+1+1) 5).toNat:Int)=1+m.nx ((a+1+1+1+1+1+(m.nx (a+1+1+1+1) 3).toNat)+1+1+1) 5:=af
 have DJ:(m.bU (m.dG id a part (m.params (a+1+1+1+1+1) (m.nx (a+1+1+1+1) 3).toNat) gs (((((m.params (a+1+1+1+1+1) (m.nx (a+1+1+1+1) 3).toNat).map bp).length:Nat):Int)+2+m.nx ((a+1+1+1+1+1+(m.nx (a+1+1+1+1) 3).toNat)+1) 2) 2 ar [] 0)).Ot:=Mk.Cq fine xR xR YN YM;have r1:=Bd _ DJ (1+m.nx ((a+1+1+1+1+1+(m.nx (a+1+1+1+1) 3).toNat)+1+1+1) 5).toNat af 2 (((a+1+1+1+1+1+(m.nx (a+1+1+1+1) 3).toNat)+1+1+1)+1) s 9 p 0 af af af af af af;rw[k1]at r1;have us:=(m.bU (m.dG id a part (m.params (a+1+1+1+1+1) (m.nx (a+1+1+1+1) 3).toNat) gs (((((m.params (a+1+1+1+1+1) (m.nx (a+1+1+1+1) 3).toNat).map bp).length:Nat):Int)+2+m.nx ((a+1+1+1+1+1+(m.nx (a+1+1+1+1) 3).toNat)+1) 2) 2 ar [] 0)).lC DJ.aF 2 (1+m.nx ((a+1+1+1+1+1+(m.nx (a+1+1+1+1) 3).toNat)+1+1+1) 5).toNat ⟨((a+1+1+1+1+1+(m.nx (a+1+1+1+1) 3).toNat)+1+1+1)+1,s,9,0⟩;simp only[jC]at us;rw[G8];generalize hR:(m.bU (m.dG id a part (m.params (a+1+1+1+1+1) (m.nx (a+1+1+1+1) 3).toNat) gs (((((m.params (a+1+1+1+1+1) (m.nx (a+1+1+1+1) 3).toNat).map bp).length:Nat):Int)+2+m.nx ((a+1+1+1+1+1+(m.nx (a+1+1+1+1) 3).toNat)+1) 2) 2 ar [] 0)).stmts 2 (1+m.nx ((a+1+1+1+1+1+(m.nx (a+1+1+1+1) 3).toNat)+1+1+1) 5).toNat ⟨((a+1+1+1+1+1+(m.nx (a+1+1+1+1) 3).toNat)+1+1+1)+1,s,9,0⟩=rr at r1 us ⊢;have hl1:(m.bU (m.dG id a part (m.params (a+1+1+1+1+1) (m.nx (a+1+1+1+1) 3).toNat) gs (((((m.params (a+1+1+1+1+1) (m.nx (a+1+1+1+1) 3).toNat).map bp).length:Nat):Int)+2+m.nx ((a+1+1+1+1+1+(m.nx (a+1+1+1+1) 3).toNat)+1) 2) 2 ar rr.1 0)).defs.length<2^20:=hlen.2;have hl2:(m.bU (m.dG id a part (m.params (a+1+1+1+1+1) (m.nx (a+1+1+1+1) 3).toNat) gs (((((m.params (a+1+1+1+1+1) (m.nx (a+1+1+1+1) 3).toNat).map bp).length:Nat):Int)+2+m.nx ((a+1+1+1+1+1+(m.nx (a+1+1+1+1) 3).toNat)+1) 2) 2 ar rr.1 0)).aF.length<2^20:=hlen.1;have hl3:(m.bU (m.dG id a part (m.params (a+1+1+1+1+1) (m.nx (a+1+1+1+1) 3).toNat) gs ((((m.params (a+1+1+1+1+1) (m.nx (a+1+1+1+1) 3).toNat).length:Nat):Int)+2+m.nx ((a+1+1+1+1+1+(m.nx (a+1+1+1+1) 3).toNat)+1) 2) 2 ar rr.1 0)).defs.length<2^20:=hlen.2;have hl4:(m.bU (m.dG id a part (m.params (a+1+1+1+1+1) (m.nx (a+1+1+1+1) 3).toNat) gs ((((m.params (a+1+1+1+1+1) (m.nx (a+1+1+1+1) 3).toNat).length:Nat):Int)+2+m.nx ((a+1+1+1+1+1+(m.nx (a+1+1+1+1) 3).toNat)+1) 2) 2 ar rr.1 0)).aF.length<2^20:=hlen.1;refine eg hm Tryz.func171 (λ_=>false) [] Lj aB ?_;refine run ?_;repeat((apply aE;first|exact(bD m _ _ _ _ _ _ af af));refine run ?_)
 iterate 2 refine a_.Qh (f:=it) (m.nx (a+1+1) 4).toNat (m.lW (a+1+1)) af (m.yA (a+1+1)) rfl ?_;refine run ?_
 refine run ?_;repeat((apply aE;first|exact(Dv m (m.dG id a (m.dD a) [] [] 0 0 [] [] 0) [] _ _ _ _ _ _ af af)|exact(Dv m (m.dG id a part [] [] 0 0 [] [] 0) [] _ _ _ _ _ _ af af));refine run ?_)
 refine bB.mk ⟨[],aZ.inv (λr:PR=>r.v=m.nx (a+1+1+1+1) 3 - r.k∧r.k<=(m.nx (a+1+1+1+1) 3).toNat∧r.acc=(m.params (a+1+1+1+1+1) r.k).map bp) (λr=>⟨[(7,it r.v)],[(1000,Lz (m.bU (m.dG id a part [] [] 0 0 [] [] 0)) 32 (a+1+1+1+1+1+r.k) s l p d r.acc.length)],[(32,⟨3,true,r.acc⟩)]⟩) (λr=>(m.nx (a+1+1+1+1) 3).toNat - r.k) ⟨m.nx (a+1+1+1+1) 3,0,[]⟩ ⟨ag,dL _,rfl⟩ ?_ ?_ ?_ ?_ ?_⟩;exact vH;exact aB;exact aB;intro r;exact s9
 rintro ⟨v,k,acc⟩ ⟨w1,w2,w3⟩
 dsimp only at w1 w2 w3 ⊢;refine Br.mk (λhb=> ?_) (λhb=> ?_)
 ·have hb1:0<v:=by simpa using hb
  have hl:acc.length=k:=by rw[w3];simp[m.jf]
  have bk:=m.bS (a+1+1+1+1+1+k) (n:=4) af;refine run ?_;repeat((apply aE;first|exact(Dv m (m.dG id a part [] [] 0 0 [] [] 0) _ _ _ _ _ _ _ af af));refine run ?_)
  iterate 2 refine a_.Qh (f:=bp) (m.nx (a+1+1+1+1+1+k) 4).toNat (m.rng (a+1+1+1+1+1+k)) af (m.KG _) rfl ?_;refine run ?_
  exact Rc
 ·have hb1:k=(m.nx (a+1+1+1+1) 3).toNat:=by simp at hb;omega
  subst hb1 w3;refine run ?_;repeat((apply aE;first|exact(Bv m (m.dG id a part (m.params (a+1+1+1+1+1) (m.nx (a+1+1+1+1) 3).toNat) [] 0 0 [] [] 0) _ _ _ _ _ _ af af)|exact(Bv m (m.dG id a part (m.params (a+1+1+1+1+1) (m.nx (a+1+1+1+1) 3).toNat) gs 0 0 [] [] 0) _ _ _ _ _ _ af af)|exact(XS m (m.dG id a part (m.params (a+1+1+1+1+1) (m.nx (a+1+1+1+1) 3).toNat) gs (((((m.params (a+1+1+1+1+1) (m.nx (a+1+1+1+1) 3).toNat).map bp).length:Nat):Int)+2+m.nx ((a+1+1+1+1+1+(m.nx (a+1+1+1+1) 3).toNat)+1) 2) 2 [] [] 0) [kz ⟨4,0⟩] _ _ _ _ _ _ af af)|exact(Bv m (m.dG id a part (m.params (a+1+1+1+1+1) (m.nx (a+1+1+1+1) 3).toNat) gs (((((m.params (a+1+1+1+1+1) (m.nx (a+1+1+1+1) 3).toNat).map bp).length:Nat):Int)+2+m.nx ((a+1+1+1+1+1+(m.nx (a+1+1+1+1) 3).toNat)+1) 2) 2 ar [] 0) _ _ _ _ _ _ af af)|exact(r1)|exact(dH (m.bU (m.dG id a part (m.params (a+1+1+1+1+1) (m.nx (a+1+1+1+1) 3).toNat) gs (((((m.params (a+1+1+1+1+1) (m.nx (a+1+1+1+1) 3).toNat).map bp).length:Nat):Int)+2+m.nx ((a+1+1+1+1+1+(m.nx (a+1+1+1+1) 3).toNat)+1) 2) 2 ar rr.1 0)) _ _ _ _ _ af)|exact(E3 (m.dG id a part (m.params (a+1+1+1+1+1) (m.nx (a+1+1+1+1) 3).toNat) gs (((((m.params (a+1+1+1+1+1) (m.nx (a+1+1+1+1) 3).toNat).map bp).length:Nat):Int)+2+m.nx ((a+1+1+1+1+1+(m.nx (a+1+1+1+1) 3).toNat)+1) 2) 2 ar rr.1 (rr.2.s+1:Nat))));refine run ?_)
  exact aG):G:=x
def def_t11(m:Mk)(id:Int)(a s l p d:Nat)(fine:m.Core)(hid:0<=id∧id<100)(h:a+5000<2^58)(h' :s+300<2^58)(hp:p<2^40)(hlen:m.aF.length<2^20∧m.defs.length<2^20)(t0:(m.nx (a+1+1+1) 2==0)=true)(t1:(m.nx (a+1+1+1+1+1+0) 4==0)=true):aj Tryz.prog 171 [mp,it id,bo true] (jX m a s l p d) (.bR []) (lO m (m.de id a s (0) 0 [] ((a+1+1+1+1+1+0)+1+1) [⟨4,0⟩]).1 (m.de id a s (0) 0 [] ((a+1+1+1+1+1+0)+1+1) [⟨4,0⟩]).2.a ((m.de id a s (0) 0 [] ((a+1+1+1+1+1+0)+1+1) [⟨4,0⟩]).2.s+1) (m.de id a s (0) 0 [] ((a+1+1+1+1+1+0)+1+1) [⟨4,0⟩]).2.l p (m.de id a s (0) 0 [] ((a+1+1+1+1+1+0)+1+1) [⟨4,0⟩]).2.d):=Wm
def Zp(m:Mk)(id:Int)(a s l p d:Nat)(fine:m.Core)(hid:0<=id∧id<100)(h:a+5000<2^58)(h' :s+300<2^58)(hp:p<2^40)(hlen:m.aF.length<2^20∧m.defs.length<2^20)(t0:(m.nx (a+1+1+1) 2==0)=true)(t1:(m.nx (a+1+1+1+1+1+(m.nx (a+1+1+1+1) 3).toNat) 4==0)=true)(hX:m.nx (a+1+1+1+1) 3=0):aj Tryz.prog 171 [mp,it id,bo false] (jX m a s l p d) (.bR []) (lO m (m.de id a s (0) (m.nx (a+1+1+1+1) 3).toNat [dh] ((a+1+1+1+1+1+(m.nx (a+1+1+1+1) 3).toNat)+1+1) [⟨4,0⟩]).1 (m.de id a s (0) (m.nx (a+1+1+1+1) 3).toNat [dh] ((a+1+1+1+1+1+(m.nx (a+1+1+1+1) 3).toNat)+1+1) [⟨4,0⟩]).2.a ((m.de id a s (0) (m.nx (a+1+1+1+1) 3).toNat [dh] ((a+1+1+1+1+1+(m.nx (a+1+1+1+1) 3).toNat)+1+1) [⟨4,0⟩]).2.s+1) (m.de id a s (0) (m.nx (a+1+1+1+1) 3).toNat [dh] ((a+1+1+1+1+1+(m.nx (a+1+1+1+1) 3).toNat)+1+1) [⟨4,0⟩]).2.l p (m.de id a s (0) (m.nx (a+1+1+1+1) 3).toNat [dh] ((a+1+1+1+1+1+(m.nx (a+1+1+1+1) 3).toNat)+1+1) [⟨4,0⟩]).2.d):=by let part:Int:=0;let gs:List pL:=[dh];let ar:List Ar:=[⟨4,0⟩];exact Jo
def Zo(m:Mk)(id:Int)(a s l p d:Nat)(fine:m.Core)(hid:0<=id∧id<100)(h:a+5000<2^58)(h' :s+300<2^58)(hp:p<2^40)(hlen:m.aF.length<2^20∧m.defs.length<2^20)(t0:(m.nx (a+1+1+1) 2==0)=true)(t1:(m.nx (a+1+1+1+1+1+(m.nx (a+1+1+1+1) 3).toNat) 4==0)=true)(hX:0<m.nx (a+1+1+1+1) 3)(t2:(m.nx ((a+1+1+1+1+1+(m.nx (a+1+1+1+1) 3).toNat)+1+1) 2==0)=true):aj Tryz.prog 171 [mp,it id,bo false] (jX m a s l p d) (.bR []) (lO m (m.de id a s (0) (m.nx (a+1+1+1+1) 3).toNat [dh] ((a+1+1+1+1+1+(m.nx (a+1+1+1+1) 3).toNat)+1+1+1) [⟨4,0⟩,⟨8,1⟩]).1 (m.de id a s (0) (m.nx (a+1+1+1+1) 3).toNat [dh] ((a+1+1+1+1+1+(m.nx (a+1+1+1+1) 3).toNat)+1+1+1) [⟨4,0⟩,⟨8,1⟩]).2.a ((m.de id a s (0) (m.nx (a+1+1+1+1) 3).toNat [dh] ((a+1+1+1+1+1+(m.nx (a+1+1+1+1) 3).toNat)+1+1+1) [⟨4,0⟩,⟨8,1⟩]).2.s+1) (m.de id a s (0) (m.nx (a+1+1+1+1) 3).toNat [dh] ((a+1+1+1+1+1+(m.nx (a+1+1+1+1) 3).toNat)+1+1+1) [⟨4,0⟩,⟨8,1⟩]).2.l p (m.de id a s (0) (m.nx (a+1+1+1+1) 3).toNat [dh] ((a+1+1+1+1+1+(m.nx (a+1+1+1+1) 3).toNat)+1+1+1) [⟨4,0⟩,⟨8,1⟩]).2.d):=by let part:Int:=0;let gs:List pL:=[dh];let ar:List Ar:=[⟨4,0⟩,⟨8,1⟩];exact Db
def Zn(m:Mk)(id:Int)(a s l p d:Nat)(fine:m.Core)(hid:0<=id∧id<100)(h:a+5000<2^58)(h' :s+300<2^58)(hp:p<2^40)(hlen:m.aF.length<2^20∧m.defs.length<2^20)(t0:(m.nx (a+1+1+1) 2==0)=true)(t1:(m.nx (a+1+1+1+1+1+(m.nx (a+1+1+1+1) 3).toNat) 4==0)=true)(hX:0<m.nx (a+1+1+1+1) 3)(t2:(m.nx ((a+1+1+1+1+1+(m.nx (a+1+1+1+1) 3).toNat)+1+1) 2==0)=false):aj Tryz.prog 171 [mp,it id,bo false] (jX m a s l p d) (.bR []) (lO m (m.de id a s (0) (m.nx (a+1+1+1+1) 3).toNat [dh] ((a+1+1+1+1+1+(m.nx (a+1+1+1+1) 3).toNat)+1+1+1) [⟨4,0⟩]).1 (m.de id a s (0) (m.nx (a+1+1+1+1) 3).toNat [dh] ((a+1+1+1+1+1+(m.nx (a+1+1+1+1) 3).toNat)+1+1+1) [⟨4,0⟩]).2.a ((m.de id a s (0) (m.nx (a+1+1+1+1) 3).toNat [dh] ((a+1+1+1+1+1+(m.nx (a+1+1+1+1) 3).toNat)+1+1+1) [⟨4,0⟩]).2.s+1) (m.de id a s (0) (m.nx (a+1+1+1+1) 3).toNat [dh] ((a+1+1+1+1+1+(m.nx (a+1+1+1+1) 3).toNat)+1+1+1) [⟨4,0⟩]).2.l p (m.de id a s (0) (m.nx (a+1+1+1+1) 3).toNat [dh] ((a+1+1+1+1+1+(m.nx (a+1+1+1+1) 3).toNat)+1+1+1) [⟨4,0⟩]).2.d):=by let part:Int:=0;let gs:List pL:=[dh];let ar:List Ar:=[⟨4,0⟩];exact Db
def def_t10(m:Mk)(id:Int)(a s l p d:Nat)(fine:m.Core)(hid:0<=id∧id<100)(h:a+5000<2^58)(h' :s+300<2^58)(hp:p<2^40)(hlen:m.aF.length<2^20∧m.defs.length<2^20)(t0:(m.nx (a+1+1+1) 2==0)=true)(t1:(m.nx (a+1+1+1+1+1+0) 4==0)=false):aj Tryz.prog 171 [mp,it id,bo true] (jX m a s l p d) (.bR []) (lO m (m.de id a s (0) 0 [] ((a+1+1+1+1+1+0)+1+1) [⟨4,0⟩]).1 (m.de id a s (0) 0 [] ((a+1+1+1+1+1+0)+1+1) [⟨4,0⟩]).2.a ((m.de id a s (0) 0 [] ((a+1+1+1+1+1+0)+1+1) [⟨4,0⟩]).2.s+1) (m.de id a s (0) 0 [] ((a+1+1+1+1+1+0)+1+1) [⟨4,0⟩]).2.l p (m.de id a s (0) 0 [] ((a+1+1+1+1+1+0)+1+1) [⟨4,0⟩]).2.d):=Wm
def Zs(m:Mk)(id:Int)(a s l p d:Nat)(fine:m.Core)(hid:0<=id∧id<100)(h:a+5000<2^58)(h' :s+300<2^58)(hp:p<2^40)(hlen:m.aF.length<2^20∧m.defs.length<2^20)(t0:(m.nx (a+1+1+1) 2==0)=true)(t1:(m.nx (a+1+1+1+1+1+(m.nx (a+1+1+1+1) 3).toNat) 4==0)=false)(hX:m.nx (a+1+1+1+1) 3=0):aj Tryz.prog 171 [mp,it id,bo false] (jX m a s l p d) (.bR []) (lO m (m.de id a s (0) (m.nx (a+1+1+1+1) 3).toNat [] ((a+1+1+1+1+1+(m.nx (a+1+1+1+1) 3).toNat)+1+1) [⟨4,0⟩]).1 (m.de id a s (0) (m.nx (a+1+1+1+1) 3).toNat [] ((a+1+1+1+1+1+(m.nx (a+1+1+1+1) 3).toNat)+1+1) [⟨4,0⟩]).2.a ((m.de id a s (0) (m.nx (a+1+1+1+1) 3).toNat [] ((a+1+1+1+1+1+(m.nx (a+1+1+1+1) 3).toNat)+1+1) [⟨4,0⟩]).2.s+1) (m.de id a s (0) (m.nx (a+1+1+1+1) 3).toNat [] ((a+1+1+1+1+1+(m.nx (a+1+1+1+1) 3).toNat)+1+1) [⟨4,0⟩]).2.l p (m.de id a s (0) (m.nx (a+1+1+1+1) 3).toNat [] ((a+1+1+1+1+1+(m.nx (a+1+1+1+1) 3).toNat)+1+1) [⟨4,0⟩]).2.d):=by let part:Int:=0;let gs:List pL:=[];let ar:List Ar:=[⟨4,0⟩];exact Jo
def Zr(m:Mk)(id:Int)(a s l p d:Nat)(fine:m.Core)(hid:0<=id∧id<100)(h:a+5000<2^58)(h' :s+300<2^58)(hp:p<2^40)(hlen:m.aF.length<2^20∧m.defs.length<2^20)(t0:(m.nx (a+1+1+1) 2==0)=true)(t1:(m.nx (a+1+1+1+1+1+(m.nx (a+1+1+1+1) 3).toNat) 4==0)=false)(hX:0<m.nx (a+1+1+1+1) 3)(t2:(m.nx ((a+1+1+1+1+1+(m.nx (a+1+1+1+1) 3).toNat)+1+1) 2==0)=true):aj Tryz.prog 171 [mp,it id,bo false] (jX m a s l p d) (.bR []) (lO m (m.de id a s (0) (m.nx (a+1+1+1+1) 3).toNat [] ((a+1+1+1+1+1+(m.nx (a+1+1+1+1) 3).toNat)+1+1+1) [⟨4,0⟩,⟨8,1⟩]).1 (m.de id a s (0) (m.nx (a+1+1+1+1) 3).toNat [] ((a+1+1+1+1+1+(m.nx (a+1+1+1+1) 3).toNat)+1+1+1) [⟨4,0⟩,⟨8,1⟩]).2.a ((m.de id a s (0) (m.nx (a+1+1+1+1) 3).toNat [] ((a+1+1+1+1+1+(m.nx (a+1+1+1+1) 3).toNat)+1+1+1) [⟨4,0⟩,⟨8,1⟩]).2.s+1) (m.de id a s (0) (m.nx (a+1+1+1+1) 3).toNat [] ((a+1+1+1+1+1+(m.nx (a+1+1+1+1) 3).toNat)+1+1+1) [⟨4,0⟩,⟨8,1⟩]).2.l p (m.de id a s (0) (m.nx (a+1+1+1+1) 3).toNat [] ((a+1+1+1+1+1+(m.nx (a+1+1+1+1) 3).toNat)+1+1+1) [⟨4,0⟩,⟨8,1⟩]).2.d):=by let part:Int:=0;let gs:List pL:=[];let ar:List Ar:=[⟨4,0⟩,⟨8,1⟩];exact Db
def Zq(m:Mk)(id:Int)(a s l p d:Nat)(fine:m.Core)(hid:0<=id∧id<100)(h:a+5000<2^58)(h' :s+300<2^58)(hp:p<2^40)(hlen:m.aF.length<2^20∧m.defs.length<2^20)(t0:(m.nx (a+1+1+1) 2==0)=true)(t1:(m.nx (a+1+1+1+1+1+(m.nx (a+1+1+1+1) 3).toNat) 4==0)=false)(hX:0<m.nx (a+1+1+1+1) 3)(t2:(m.nx ((a+1+1+1+1+1+(m.nx (a+1+1+1+1) 3).toNat)+1+1) 2==0)=false):aj Tryz.prog 171 [mp,it id,bo false] (jX m a s l p d) (.bR []) (lO m (m.de id a s (0) (m.nx (a+1+1+1+1) 3).toNat [] ((a+1+1+1+1+1+(m.nx (a+1+1+1+1) 3).toNat)+1+1+1) [⟨4,0⟩]).1 (m.de id a s (0) (m.nx (a+1+1+1+1) 3).toNat [] ((a+1+1+1+1+1+(m.nx (a+1+1+1+1) 3).toNat)+1+1+1) [⟨4,0⟩]).2.a ((m.de id a s (0) (m.nx (a+1+1+1+1) 3).toNat [] ((a+1+1+1+1+1+(m.nx (a+1+1+1+1) 3).toNat)+1+1+1) [⟨4,0⟩]).2.s+1) (m.de id a s (0) (m.nx (a+1+1+1+1) 3).toNat [] ((a+1+1+1+1+1+(m.nx (a+1+1+1+1) 3).toNat)+1+1+1) [⟨4,0⟩]).2.l p (m.de id a s (0) (m.nx (a+1+1+1+1) 3).toNat [] ((a+1+1+1+1+1+(m.nx (a+1+1+1+1) 3).toNat)+1+1+1) [⟨4,0⟩]).2.d):=by let part:Int:=0;let gs:List pL:=[];let ar:List Ar:=[⟨4,0⟩];exact Db
def def_t01(m:Mk)(id:Int)(a s l p d:Nat)(fine:m.Core)(hid:0<=id∧id<100)(h:a+5000<2^58)(h' :s+300<2^58)(hp:p<2^40)(hlen:m.aF.length<2^20∧m.defs.length<2^20)(t0:(m.nx (a+1+1+1) 2==0)=false)(t1:(m.nx (a+1+1+1+1+1+0) 4==0)=true):aj Tryz.prog 171 [mp,it id,bo true] (jX m a s l p d) (.bR []) (lO m (m.de id a s (m.dD a) 0 [] ((a+1+1+1+1+1+0)+1+1) [⟨4,0⟩]).1 (m.de id a s (m.dD a) 0 [] ((a+1+1+1+1+1+0)+1+1) [⟨4,0⟩]).2.a ((m.de id a s (m.dD a) 0 [] ((a+1+1+1+1+1+0)+1+1) [⟨4,0⟩]).2.s+1) (m.de id a s (m.dD a) 0 [] ((a+1+1+1+1+1+0)+1+1) [⟨4,0⟩]).2.l p (m.de id a s (m.dD a) 0 [] ((a+1+1+1+1+1+0)+1+1) [⟨4,0⟩]).2.d):=Ws
def Zv(m:Mk)(id:Int)(a s l p d:Nat)(fine:m.Core)(hid:0<=id∧id<100)(h:a+5000<2^58)(h' :s+300<2^58)(hp:p<2^40)(hlen:m.aF.length<2^20∧m.defs.length<2^20)(t0:(m.nx (a+1+1+1) 2==0)=false)(t1:(m.nx (a+1+1+1+1+1+(m.nx (a+1+1+1+1) 3).toNat) 4==0)=true)(hX:m.nx (a+1+1+1+1) 3=0):aj Tryz.prog 171 [mp,it id,bo false] (jX m a s l p d) (.bR []) (lO m (m.de id a s (m.dD a) (m.nx (a+1+1+1+1) 3).toNat [dh] ((a+1+1+1+1+1+(m.nx (a+1+1+1+1) 3).toNat)+1+1) [⟨4,0⟩]).1 (m.de id a s (m.dD a) (m.nx (a+1+1+1+1) 3).toNat [dh] ((a+1+1+1+1+1+(m.nx (a+1+1+1+1) 3).toNat)+1+1) [⟨4,0⟩]).2.a ((m.de id a s (m.dD a) (m.nx (a+1+1+1+1) 3).toNat [dh] ((a+1+1+1+1+1+(m.nx (a+1+1+1+1) 3).toNat)+1+1) [⟨4,0⟩]).2.s+1) (m.de id a s (m.dD a) (m.nx (a+1+1+1+1) 3).toNat [dh] ((a+1+1+1+1+1+(m.nx (a+1+1+1+1) 3).toNat)+1+1) [⟨4,0⟩]).2.l p (m.de id a s (m.dD a) (m.nx (a+1+1+1+1) 3).toNat [dh] ((a+1+1+1+1+1+(m.nx (a+1+1+1+1) 3).toNat)+1+1) [⟨4,0⟩]).2.d):=by let part:Int:=m.dD a;let gs:List pL:=[dh];let ar:List Ar:=[⟨4,0⟩];exact Jo
def Zu(m:Mk)(id:Int)(a s l p d:Nat)(fine:m.Core)(hid:0<=id∧id<100)(h:a+5000<2^58)(h' :s+300<2^58)(hp:p<2^40)(hlen:m.aF.length<2^20∧m.defs.length<2^20)(t0:(m.nx (a+1+1+1) 2==0)=false)(t1:(m.nx (a+1+1+1+1+1+(m.nx (a+1+1+1+1) 3).toNat) 4==0)=true)(hX:0<m.nx (a+1+1+1+1) 3)(t2:(m.nx ((a+1+1+1+1+1+(m.nx (a+1+1+1+1) 3).toNat)+1+1) 2==0)=true):aj Tryz.prog 171 [mp,it id,bo false] (jX m a s l p d) (.bR []) (lO m (m.de id a s (m.dD a) (m.nx (a+1+1+1+1) 3).toNat [dh] ((a+1+1+1+1+1+(m.nx (a+1+1+1+1) 3).toNat)+1+1+1) [⟨4,0⟩,⟨8,1⟩]).1 (m.de id a s (m.dD a) (m.nx (a+1+1+1+1) 3).toNat [dh] ((a+1+1+1+1+1+(m.nx (a+1+1+1+1) 3).toNat)+1+1+1) [⟨4,0⟩,⟨8,1⟩]).2.a ((m.de id a s (m.dD a) (m.nx (a+1+1+1+1) 3).toNat [dh] ((a+1+1+1+1+1+(m.nx (a+1+1+1+1) 3).toNat)+1+1+1) [⟨4,0⟩,⟨8,1⟩]).2.s+1) (m.de id a s (m.dD a) (m.nx (a+1+1+1+1) 3).toNat [dh] ((a+1+1+1+1+1+(m.nx (a+1+1+1+1) 3).toNat)+1+1+1) [⟨4,0⟩,⟨8,1⟩]).2.l p (m.de id a s (m.dD a) (m.nx (a+1+1+1+1) 3).toNat [dh] ((a+1+1+1+1+1+(m.nx (a+1+1+1+1) 3).toNat)+1+1+1) [⟨4,0⟩,⟨8,1⟩]).2.d):=by let part:Int:=m.dD a;let gs:List pL:=[dh];let ar:List Ar:=[⟨4,0⟩,⟨8,1⟩];exact Db
def Zt(m:Mk)(id:Int)(a s l p d:Nat)(fine:m.Core)(hid:0<=id∧id<100)(h:a+5000<2^58)(h' :s+300<2^58)(hp:p<2^40)(hlen:m.aF.length<2^20∧m.defs.length<2^20)(t0:(m.nx (a+1+1+1) 2==0)=false)(t1:(m.nx (a+1+1+1+1+1+(m.nx (a+1+1+1+1) 3).toNat) 4==0)=true)(hX:0<m.nx (a+1+1+1+1) 3)(t2:(m.nx ((a+1+1+1+1+1+(m.nx (a+1+1+1+1) 3).toNat)+1+1) 2==0)=false):aj Tryz.prog 171 [mp,it id,bo false] (jX m a s l p d) (.bR []) (lO m (m.de id a s (m.dD a) (m.nx (a+1+1+1+1) 3).toNat [dh] ((a+1+1+1+1+1+(m.nx (a+1+1+1+1) 3).toNat)+1+1+1) [⟨4,0⟩]).1 (m.de id a s (m.dD a) (m.nx (a+1+1+1+1) 3).toNat [dh] ((a+1+1+1+1+1+(m.nx (a+1+1+1+1) 3).toNat)+1+1+1) [⟨4,0⟩]).2.a ((m.de id a s (m.dD a) (m.nx (a+1+1+1+1) 3).toNat [dh] ((a+1+1+1+1+1+(m.nx (a+1+1+1+1) 3).toNat)+1+1+1) [⟨4,0⟩]).2.s+1) (m.de id a s (m.dD a) (m.nx (a+1+1+1+1) 3).toNat [dh] ((a+1+1+1+1+1+(m.nx (a+1+1+1+1) 3).toNat)+1+1+1) [⟨4,0⟩]).2.l p (m.de id a s (m.dD a) (m.nx (a+1+1+1+1) 3).toNat [dh] ((a+1+1+1+1+1+(m.nx (a+1+1+1+1) 3).toNat)+1+1+1) [⟨4,0⟩]).2.d):=by let part:Int:=m.dD a;let gs:List pL:=[dh];let ar:List Ar:=[⟨4,0⟩];exact Db
def def_t00(m:Mk)(id:Int)(a s l p d:Nat)(fine:m.Core)(hid:0<=id∧id<100)(h:a+5000<2^58)(h' :s+300<2^58)(hp:p<2^40)(hlen:m.aF.length<2^20∧m.defs.length<2^20)(t0:(m.nx (a+1+1+1) 2==0)=false)(t1:(m.nx (a+1+1+1+1+1+0) 4==0)=false):aj Tryz.prog 171 [mp,it id,bo true] (jX m a s l p d) (.bR []) (lO m (m.de id a s (m.dD a) 0 [] ((a+1+1+1+1+1+0)+1+1) [⟨4,0⟩]).1 (m.de id a s (m.dD a) 0 [] ((a+1+1+1+1+1+0)+1+1) [⟨4,0⟩]).2.a ((m.de id a s (m.dD a) 0 [] ((a+1+1+1+1+1+0)+1+1) [⟨4,0⟩]).2.s+1) (m.de id a s (m.dD a) 0 [] ((a+1+1+1+1+1+0)+1+1) [⟨4,0⟩]).2.l p (m.de id a s (m.dD a) 0 [] ((a+1+1+1+1+1+0)+1+1) [⟨4,0⟩]).2.d):=Ws
def Zy(m:Mk)(id:Int)(a s l p d:Nat)(fine:m.Core)(hid:0<=id∧id<100)(h:a+5000<2^58)(h' :s+300<2^58)(hp:p<2^40)(hlen:m.aF.length<2^20∧m.defs.length<2^20)(t0:(m.nx (a+1+1+1) 2==0)=false)(t1:(m.nx (a+1+1+1+1+1+(m.nx (a+1+1+1+1) 3).toNat) 4==0)=false)(hX:m.nx (a+1+1+1+1) 3=0):aj Tryz.prog 171 [mp,it id,bo false] (jX m a s l p d) (.bR []) (lO m (m.de id a s (m.dD a) (m.nx (a+1+1+1+1) 3).toNat [] ((a+1+1+1+1+1+(m.nx (a+1+1+1+1) 3).toNat)+1+1) [⟨4,0⟩]).1 (m.de id a s (m.dD a) (m.nx (a+1+1+1+1) 3).toNat [] ((a+1+1+1+1+1+(m.nx (a+1+1+1+1) 3).toNat)+1+1) [⟨4,0⟩]).2.a ((m.de id a s (m.dD a) (m.nx (a+1+1+1+1) 3).toNat [] ((a+1+1+1+1+1+(m.nx (a+1+1+1+1) 3).toNat)+1+1) [⟨4,0⟩]).2.s+1) (m.de id a s (m.dD a) (m.nx (a+1+1+1+1) 3).toNat [] ((a+1+1+1+1+1+(m.nx (a+1+1+1+1) 3).toNat)+1+1) [⟨4,0⟩]).2.l p (m.de id a s (m.dD a) (m.nx (a+1+1+1+1) 3).toNat [] ((a+1+1+1+1+1+(m.nx (a+1+1+1+1) 3).toNat)+1+1) [⟨4,0⟩]).2.d):=by let part:Int:=m.dD a;let gs:List pL:=[];let ar:List Ar:=[⟨4,0⟩];exact Jo
def Zx(m:Mk)(id:Int)(a s l p d:Nat)(fine:m.Core)(hid:0<=id∧id<100)(h:a+5000<2^58)(h' :s+300<2^58)(hp:p<2^40)(hlen:m.aF.length<2^20∧m.defs.length<2^20)(t0:(m.nx (a+1+1+1) 2==0)=false)(t1:(m.nx (a+1+1+1+1+1+(m.nx (a+1+1+1+1) 3).toNat) 4==0)=false)(hX:0<m.nx (a+1+1+1+1) 3)(t2:(m.nx ((a+1+1+1+1+1+(m.nx (a+1+1+1+1) 3).toNat)+1+1) 2==0)=true):aj Tryz.prog 171 [mp,it id,bo false] (jX m a s l p d) (.bR []) (lO m (m.de id a s (m.dD a) (m.nx (a+1+1+1+1) 3).toNat [] ((a+1+1+1+1+1+(m.nx (a+1+1+1+1) 3).toNat)+1+1+1) [⟨4,0⟩,⟨8,1⟩]).1 (m.de id a s (m.dD a) (m.nx (a+1+1+1+1) 3).toNat [] ((a+1+1+1+1+1+(m.nx (a+1+1+1+1) 3).toNat)+1+1+1) [⟨4,0⟩,⟨8,1⟩]).2.a ((m.de id a s (m.dD a) (m.nx (a+1+1+1+1) 3).toNat [] ((a+1+1+1+1+1+(m.nx (a+1+1+1+1) 3).toNat)+1+1+1) [⟨4,0⟩,⟨8,1⟩]).2.s+1) (m.de id a s (m.dD a) (m.nx (a+1+1+1+1) 3).toNat [] ((a+1+1+1+1+1+(m.nx (a+1+1+1+1) 3).toNat)+1+1+1) [⟨4,0⟩,⟨8,1⟩]).2.l p (m.de id a s (m.dD a) (m.nx (a+1+1+1+1) 3).toNat [] ((a+1+1+1+1+1+(m.nx (a+1+1+1+1) 3).toNat)+1+1+1) [⟨4,0⟩,⟨8,1⟩]).2.d):=by let part:Int:=m.dD a;let gs:List pL:=[];let ar:List Ar:=[⟨4,0⟩,⟨8,1⟩];exact Db
def Zw(m:Mk)(id:Int)(a s l p d:Nat)(fine:m.Core)(hid:0<=id∧id<100)(h:a+5000<2^58)(h' :s+300<2^58)(hp:p<2^40)(hlen:m.aF.length<2^20∧m.defs.length<2^20)(t0:(m.nx (a+1+1+1) 2==0)=false)(t1:(m.nx (a+1+1+1+1+1+(m.nx (a+1+1+1+1) 3).toNat) 4==0)=false)(hX:0<m.nx (a+1+1+1+1) 3)(t2:(m.nx ((a+1+1+1+1+1+(m.nx (a+1+1+1+1) 3).toNat)+1+1) 2==0)=false):aj Tryz.prog 171 [mp,it id,bo false] (jX m a s l p d) (.bR []) (lO m (m.de id a s (m.dD a) (m.nx (a+1+1+1+1) 3).toNat [] ((a+1+1+1+1+1+(m.nx (a+1+1+1+1) 3).toNat)+1+1+1) [⟨4,0⟩]).1 (m.de id a s (m.dD a) (m.nx (a+1+1+1+1) 3).toNat [] ((a+1+1+1+1+1+(m.nx (a+1+1+1+1) 3).toNat)+1+1+1) [⟨4,0⟩]).2.a ((m.de id a s (m.dD a) (m.nx (a+1+1+1+1) 3).toNat [] ((a+1+1+1+1+1+(m.nx (a+1+1+1+1) 3).toNat)+1+1+1) [⟨4,0⟩]).2.s+1) (m.de id a s (m.dD a) (m.nx (a+1+1+1+1) 3).toNat [] ((a+1+1+1+1+1+(m.nx (a+1+1+1+1) 3).toNat)+1+1+1) [⟨4,0⟩]).2.l p (m.de id a s (m.dD a) (m.nx (a+1+1+1+1) 3).toNat [] ((a+1+1+1+1+1+(m.nx (a+1+1+1+1) 3).toNat)+1+1+1) [⟨4,0⟩]).2.d):=by let part:Int:=m.dD a;let gs:List pL:=[];let ar:List Ar:=[⟨4,0⟩];exact Db
def Mk.mj(m:Mk)(id:Int)(th:Bool)(a s:Nat):Df×Ms:=
 m.de id a s (if m.nx (a+1+1+1) 2==0 then 0 else m.dD a)
  (if th then 0 else(m.nx (a+1+1+1+1) 3).toNat)
  (if (m.nx ((a+1+1+1+1+1+(if th then 0 else(m.nx (a+1+1+1+1) 3).toNat))) 4==0)&& !th then[dh]else[])
  (if (if th then 0 else(m.nx (a+1+1+1+1) 3).toNat)=0 then((a+1+1+1+1+1+(if th then 0 else(m.nx (a+1+1+1+1) 3).toNat))+1+1)else((a+1+1+1+1+1+(if th then 0 else(m.nx (a+1+1+1+1) 3).toNat))+1+1+1))
  (if (if th then 0 else(m.nx (a+1+1+1+1) 3).toNat)=0 then[⟨4,0⟩]else if m.nx ((a+1+1+1+1+1+(m.nx (a+1+1+1+1) 3).toNat)+1+1) 2==0 then[⟨4,0⟩,⟨8,1⟩]else[⟨4,0⟩])
def Zm(m:Mk)(id:Int)(th:Bool)(a s l p d:Nat)(fine:m.Core)(hid:0<=id∧id<100)(h:a+5000<2^58)(h' :s+300<2^58)(hp:p<2^40)(hlen:m.aF.length<2^20∧m.defs.length<2^20):aj Tryz.prog 171 [mp,it id,bo th] (jX m a s l p d) (.bR []) (lO m (m.mj id th a s).1 (m.mj id th a s).2.a ((m.mj id th a s).2.s+1) (m.mj id th a s).2.l p (m.mj id th a s).2.d):=by
 have bX:=m.bS (a+1+1+1+1) (n:=3) af;cases th
 ·by_cases hX:m.nx (a+1+1+1+1) 3=0
  ·have hX3:(m.nx (a+1+1+1+1) 3).toNat=0:=af;cases t0:(m.nx (a+1+1+1) 2==0)<;>cases t1:(m.nx (a+1+1+1+1+1+(m.nx (a+1+1+1+1) 3).toNat) 4==0);all_goals have e:m.mj id false a s=m.de id a s (if m.nx (a+1+1+1) 2==0 then 0 else m.dD a) (m.nx (a+1+1+1+1) 3).toNat (if m.nx (a+1+1+1+1+1+(m.nx (a+1+1+1+1) 3).toNat) 4==0 then[dh]else[]) ((a+1+1+1+1+1+(m.nx (a+1+1+1+1) 3).toNat)+1+1) [⟨4,0⟩]:=(by simp only[Mk.mj,Bool.not_false,Bool.and_true,uI,jP,aq hX3]);rw[e,t0,t1]
   exact Zy m id a s l p d fine hid h h' hp hlen t0 t1 hX;exact Zv m id a s l p d fine hid h h' hp hlen t0 t1 hX;exact Zs m id a s l p d fine hid h h' hp hlen t0 t1 hX;exact Zp m id a s l p d fine hid h h' hp hlen t0 t1 hX
  ·have hX2:0<m.nx (a+1+1+1+1) 3:=af;have hX3:¬(m.nx (a+1+1+1+1) 3).toNat=0:=by omega
   cases t0:(m.nx (a+1+1+1) 2==0)<;>cases t1:(m.nx (a+1+1+1+1+1+(m.nx (a+1+1+1+1) 3).toNat) 4==0)<;>cases t2:(m.nx ((a+1+1+1+1+1+(m.nx (a+1+1+1+1) 3).toNat)+1+1) 2==0);all_goals have e:m.mj id false a s=m.de id a s (if m.nx (a+1+1+1) 2==0 then 0 else m.dD a) (m.nx (a+1+1+1+1) 3).toNat (if m.nx (a+1+1+1+1+1+(m.nx (a+1+1+1+1) 3).toNat) 4==0 then[dh]else[]) ((a+1+1+1+1+1+(m.nx (a+1+1+1+1) 3).toNat)+1+1+1) (if m.nx ((a+1+1+1+1+1+(m.nx (a+1+1+1+1) 3).toNat)+1+1) 2==0 then[⟨4,0⟩,⟨8,1⟩]else[⟨4,0⟩]):=(by simp only[Mk.mj,Bool.not_false,Bool.and_true,uI,jP,ah hX3]);rw[e,t0,t1,t2]
   exact Zw m id a s l p d fine hid h h' hp hlen t0 t1 hX2 t2;exact Zx m id a s l p d fine hid h h' hp hlen t0 t1 hX2 t2;exact Zt m id a s l p d fine hid h h' hp hlen t0 t1 hX2 t2;exact Zu m id a s l p d fine hid h h' hp hlen t0 t1 hX2 t2;exact Zq m id a s l p d fine hid h h' hp hlen t0 t1 hX2 t2;exact Zr m id a s l p d fine hid h h' hp hlen t0 t1 hX2 t2;exact Zn m id a s l p d fine hid h h' hp hlen t0 t1 hX2 t2;exact Zo m id a s l p d fine hid h h' hp hlen t0 t1 hX2 t2
 ·cases t0:(m.nx (a+1+1+1) 2==0)<;>cases t1:(m.nx (a+1+1+1+1+1+0) 4==0);all_goals have e:m.mj id true a s=m.de id a s (if m.nx (a+1+1+1) 2==0 then 0 else m.dD a) 0 [] (a+1+1+1+1+1+0+1+1) [⟨4,0⟩]:=(by simp only[Mk.mj,Bool.not_true,Bool.and_false,uI,jP,jO]);rw[e,t0]
  exact def_t00 m id a s l p d fine hid h h' hp hlen t0 t1;exact def_t01 m id a s l p d fine hid h h' hp hlen t0 t1;exact def_t10 m id a s l p d fine hid h h' hp hlen t0 t1;exact def_t11 m id a s l p d fine hid h h' hp hlen t0 t1
def Aq{G:Prop}(h:G:=by simp[cd]):G:=h
def Rq{G:Prop}(h:G:=by subst e;exact⟨en u.2.2.2.2.1 (by omega),en u.2.2.2.2.2 (by omega)⟩):G:=h
def Mk.N6(m:Mk)(hh:∀h∈m.aF,h.params.length<=12∧h.given.length<=12)(id:Int)(a s:Nat)(part:Int)(c:Nat)(gs:List pL)(b2:Nat)(ar:List Ar):(m.de id a s part c gs b2 ar).2.a<=b2+1801∧(m.de id a s part c gs b2 ar).2.s<=s+90∧(m.de id a s part c gs b2 ar).2.l<=9∧(m.de id a s part c gs b2 ar).2.d<=2∧(m.de id a s part c gs b2 ar).1.params.length=c∧(m.de id a s part c gs b2 ar).1.given.length=gs.length:=by have us:=(m.bU (m.dG id a part (m.params (a+1+1+1+1+1) c) gs ((((m.params (a+1+1+1+1+1) c).map bp).length:Nat)+2+m.nx ((a+1+1+1+1+1+c)+1) 2) 2 ar [] 0)).lC hh 2 (1+m.nx b2 5).toNat ⟨b2+1,s,9,0⟩;simp only[jC]at us;refine⟨?_,?_,?_,?_,m.jf _ _,rfl⟩;all_goals (simp only[Mk.de];omega)
def Mk.S5(m:Mk)(hh:∀h∈m.aF,h.params.length<=12∧h.given.length<=12)(id:Int)(th:Bool)(a s:Nat):(m.mj id th a s).2.a<=a+1850∧(m.mj id th a s).2.s<=s+90∧(m.mj id th a s).2.l<=9∧(m.mj id th a s).2.d<=2∧(m.mj id th a s).1.params.length<=2∧(m.mj id th a s).1.given.length<=1:=by
 have bX:=m.bS (a+1+1+1+1) (n:=3) af;obtain⟨c,hc,hc2⟩:∃c,(if th then 0 else(m.nx (a+1+1+1+1) 3).toNat)=c∧c<=2:=⟨_,rfl,iT⟩;unfold Mk.mj;rw[hc];have hb:(if c=0 then((a+1+1+1+1+1+c)+1+1)else((a+1+1+1+1+1+c)+1+1+1))<=a+10:=iT
 have hg:(if (m.nx ((a+1+1+1+1+1+c)) 4==0)&& !th then[dh]else[]).length<=1:=by split<;>simp
 have u:=m.N6 hh id a s (if m.nx (a+1+1+1) 2==0 then 0 else m.dD a) c (if (m.nx ((a+1+1+1+1+1+c)) 4==0)&& !th then[dh]else[]) (if c=0 then((a+1+1+1+1+1+c)+1+1)else((a+1+1+1+1+1+c)+1+1+1)) (if c=0 then[⟨4,0⟩]else if m.nx ((a+1+1+1+1+1+(m.nx (a+1+1+1+1) 3).toNat)+1+1) 2==0 then[⟨4,0⟩,⟨8,1⟩]else[⟨4,0⟩]);refine⟨?_,?_,?_,?_,?_,?_⟩;all_goals omega
def zD:Df:=⟨0,0,[],0,0,[],[],0,0,[],0,[]⟩
structure Vc where
 a:Nat
 s:Nat
 l:Nat
 d:Nat
 aF:List Hd
 defs:List Df
 D:Df
def Vc.mk'(L:List UInt8)(x:Vc):Mk:=⟨L,cq,x.aF,x.defs,[],x.D,false⟩
def encMkN(m:Mk)(h k t:Nat)(a s l p d:Nat):au:= .agg ([U_ m.L,it a]++(ZR m.d++([.ref h (m.aF.map oL).length,.ref k (m.defs.map bQ).length,.ref t (m.th.map it).length]++(cD m.D++[it s,it l,it p,it d,bo m.calm]))))
def Np(L:List UInt8)(last:Bool)(x:Vc):Bool:=last||(x.mk' L).nx x.a 5==0
def Gz(last:Bool)(x:Vc):Nat:=if last then x.a else x.a+1
def xn(L:List UInt8)(last:Bool)(i:Nat)(x:Vc):Df×Ms:=(x.mk' L).mj (11+i) (Np L last x) (Gz last x) x.s
def Vc.after(x:Vc)(r:Df×Ms):Vc:=⟨r.2.a,r.2.s+1,r.2.l,r.2.d,x.aF++[lV r.1],x.defs++[r.1],r.1⟩
def cd(L:List UInt8)(n:Nat):Nat->Vc|0=>⟨1,100,0,0,[],[],zD⟩|i+1=>(cd L n i).after (xn L (i+1==n) i (cd L n i))
structure MdOk(i:Nat)(x:Vc):Prop where
 a:x.a<=1+1851*i
 s:x.s<=100+91*i
 l:x.l<=9
 d:x.d<=2
 aF:∀h∈x.aF,h.params.length<=12∧h.given.length<=12
 nh:x.aF.length=i
 nd:x.defs.length=i
theorem nE(L:List UInt8)(n:Nat):∀i,MdOk i (cd L n i)
 |0=>⟨Aq,Aq,Aq,Aq,Aq,rfl,rfl⟩
 |i+1=>by
  have h:=nE L n i;have u:=((cd L n i).mk' L).S5 h.aF (11+i) (Np L (i+1==n) (cd L n i)) (Gz (i+1==n) (cd L n i)) (cd L n i).s;have ha:Gz (i+1==n) (cd L n i)<=(cd L n i).a+1:=by unfold Gz;split<;>omega
  have h1:=h.a;have h2:=h.s;refine⟨?_,?_,u.2.2.1,u.2.2.2.1,?_,?_,?_⟩;show(xn L (i+1==n) i (cd L n i)).2.a<=_;unfold xn;omega;show(xn L (i+1==n) i (cd L n i)).2.s+1<=_;unfold xn;omega;intro x hx;rcases d_.1 hx with hx|hx;exact h.aF x hx;have e:=fY.1 hx;exact Rq;show(_++[_]).length=_;rw[fA,h.nh];rfl;show(_++[_]).length=_;rw[fA,h.nd];rfl
def YJ:Nat->List Ad|2=>[.cell 15 9 16,.cell 15 10 17,.cell 15 11 18,.aR 15 17,.aR 15 18,.aR 15 21,.aR 15 23]|14=>[.aR 15 9,.aR 15 10,.aR 15 11]|_=>[]
def j0(ds:List Df):Nat->List Int->List Int|0,acc=>acc|k+1,acc=>if acc.length<2 then j0 ds k (match ds[k]? with|some D=>if D.params.length+D.given.length=0 then acc++[D.id]else acc|none=>acc)else acc
def mR(L:List UInt8):Pg:=
 let n:=(1+(zD,(⟨L,cq,[],[],[],zD,false⟩:Mk).nx 0 4).2).toNat;let x:=cd L n n;let t:=j0 x.defs n []
 ⟨cq,x.aF,x.defs,if (x.mk' L).nx x.a 3==0 then t.take 1 else t⟩
def JP{G:Prop}(h:G:=by show r.x.aF.length<_;omega):G:=h
def Vz{G:Prop}(h:G:=by have hA:q.acc.take 1=(q.t.take 1).map it:=(by rw[q4,List.map_take]);refine aN ?_;exact fu.mk (Eq.trans (aL (λx=>au.agg (ZR cq++[fj 5 oL r.x.aF,fj 12 bQ r.x.defs,.sl 1 x false])) hA) (aL qb hRe)) rfl):G:=h
def Vp{G:Prop}(h:G:=by refine aN ?_;exact fu.mk (Eq.trans (aL (λx=>au.agg (ZR cq++[fj 5 oL r.x.aF,fj 12 bQ r.x.defs,.sl 1 x false])) q4) (aL qb hRe)) rfl):G:=h
def RZ{G:Prop}(h:G:=by rw[b3]at hsu;refine aN ?_;refine⟨⟨⟨r.i+1,_⟩,⟨hk,hsu⟩⟩,ik hk (gh _),?_⟩;exact vH):G:=h
structure MdR where
 i:Nat
 x:Vc
def exN{x:Int}(h:0<=x∧x<4):∃n:Nat,1+x=(n:Int)∧n<=4∧0<n:=⟨(1+x).toNat,af,af,af⟩
structure TR where
 k:Nat
 t:List Int
 acc:List au
def ctMA(m:Mk)(acc:List au)(a s l p d:Nat):Ct:=⟨[.agg ([U_ m.L,it a]++(ZR m.d++([.ref 1000 (m.aF.map oL).length,.ref 1001 (m.defs.map bQ).length,.ref 1002 acc.length]++(cD m.D++[it s,it l,it p,it d,bo m.calm]))))],[⟨5,true,m.aF.map oL⟩,⟨12,true,m.defs.map bQ⟩,⟨1,true,acc⟩]⟩
def encMkT(m:Mk)(acc:List au)(h k t:Nat)(a s l p d:Nat):au:= .agg ([U_ m.L,it a]++(ZR m.d++([.ref h (m.aF.map oL).length,.ref k (m.defs.map bQ).length,.ref t acc.length]++(cD m.D++[it s,it l,it p,it d,bo m.calm]))))
def MX(m:Mk)(acc:List au)(ha:acc=m.th.map it)(a s l p d:Nat)(n:Int)(h:a<2^60)(hn:0<n):aj Tryz.prog 170 [mp,it n] (ctMA m acc a s l p d) (it (m.nx a n)) (ctMA m acc (a+1) s l p d):=by subst ha;exact bD m a s l p d n h hn
def th_zero{ds:List Df}{k:Nat}{t T:List Int}(h:¬0<k)(e:j0 ds k t=T):t=T:=by rw[show k=0 by omega]at e;exact e
def th_end{ds:List Df}{k:Nat}{t T:List Int}(g:¬t.length<2)(h:0<k)(e:j0 ds k t=T):t=T:=by obtain⟨j,rfl⟩:∃j,k=j+1:=⟨k - 1,af⟩;rw[j0,ah g]at e;exact e
def th_step{ds:List Df}{k:Nat}{t:List Int}(hj:k - 1<ds.length)(g:t.length<2)(h:0<k):j0 ds k t=j0 ds (k - 1) (if ds[k - 1].params.length+ds[k - 1].given.length=0 then t++[ds[k - 1].id]else t):=by obtain⟨j,rfl⟩:∃j,k=j+1:=⟨k - 1,af⟩;have hj:j<ds.length:=hj;rw[j0,aq g,iM hj];rfl
theorem Me:∀(ds:List Df) (k:Nat) (t:List Int),t.length<=(j0 ds k t).length|ds,0,t=>cu _|ds,k+1,t=>by rw[j0];split;refine en ?_ (Me ds k _);split;split;simp;exact qZ;exact qZ;exact qZ
def QK(L:List UInt8)(i:Nat)(x:Vc)(h:∀y∈x.aF,y.params.length<=12∧y.given.length<=12):(xn L true i x).1.params.length+(xn L true i x).1.given.length=0:=by have u:=(x.mk' L).N6 h;have e1:Np L true x=true:=rfl;unfold xn Mk.mj;rw[e1];have:=u (11+i) (Gz true x) x.s;simp only[Bool.not_true,Bool.and_false];rw[(this _ _ _ _ _).2.2.2.2.1,(this _ _ _ _ _).2.2.2.2.2];simp
theorem Gk(L:List UInt8)(n:Nat):∀i,∀y∈(cd L n i).defs,y.params.length<=12∧y.given.length<=12|0=>by simp[cd]|i+1=>by have h:=nE L n i;have u:=((cd L n i).mk' L).S5 h.aF (11+i) (Np L (i+1==n) (cd L n i)) (Gz (i+1==n) (cd L n i)) (cd L n i).s;intro y hy;rcases d_.1 hy with hy|hy;exact Gk L n i y hy;have e:=fY.1 hy;exact Rq
def H0(L:List UInt8)(n:Nat)(h0:0<n)(h4:n<=4):0<(j0 (cd L n n).defs n []).length:=by
 obtain⟨j,rfl⟩:∃j,n=j+1:=⟨n - 1,af⟩;have ok:=nE L (j+1) j;have hd:(cd L (j+1) (j+1)).defs=(cd L (j+1) j).defs++[(xn L true j (cd L (j+1) j)).1]:=by rw[cd,show(j+1==j+1)=true by simp];rfl
 have h:=QK L j (cd L (j+1) j) ok.aF;have hl:=ok.nd;have hj:(cd L (j+1) (j+1)).defs[j]? =some (xn L true j (cd L (j+1) j)).1:=by rw[hd,jc af,hl];simp
 rw[j0,aq ag,hj];refine jb ?_ (Me _ _ _);simp only;rw[aq h];simp
def made_ok(L:List UInt8):aj Tryz.prog 97 [.agg [U_ L],bo false] fZ (qb (mR L)) fZ:=by
 have n0:=(⟨L,cq,[],[],[],zD,false⟩:Mk).bS 0 (n:=4) af;have hex:∃n:Nat,1+(⟨L,cq,[],[],[],zD,false⟩:Mk).nx 0 4=(n:Int)∧n<=4∧0<n:=exN n0;refine hex.elim λn hn=> ?_;have hn' :=hn.1;have hn1:=hn.2.1;have hn0:=hn.2.2;have c1:=bD (⟨L,cq,[],[],[],zD,false⟩:Mk) 0 100 0 0 0 4 af af;have tnz:=H0 L n hn0 hn1;have hmP:mR L=⟨cq,(cd L n n).aF,(cd L n n).defs,if ((cd L n n).mk' L).nx (cd L n n).a 3==0 then(j0 (cd L n n).defs n []).take 1 else j0 (cd L n n).defs n []⟩:=by
  have e:(1+(zD,(⟨L,cq,[],[],[],zD,false⟩:Mk).nx 0 4).2).toNat=n:=by show(1+(⟨L,cq,[],[],[],zD,false⟩:Mk).nx 0 4).toNat=n;rw[hn'];exact lQ n
  unfold mR;rw[e]
 have hT:∃T,T=j0 (cd L n n).defs n []:=⟨_,rfl⟩;refine hT.elim λT hT=> ?_;rw[<-hT]at tnz hmP;have hR:∃R,R=mR L:=⟨_,rfl⟩;refine hR.elim λR hR=> ?_;rw[<-hR];rw[hmP]at hR;refine eg hm Tryz.func97 (λ_=>false) [false] YJ aB ?_;refine run ?_;repeat((apply aE;first|exact(DL)|exact(c1));refine run ?_)
 refine bB.mk ⟨[],aZ.of (λr:MdR=>r.i<=n∧r.x=cd L n r.i) (λr=>⟨[(7,it r.i)],[(15,encMkN (r.x.mk' L) 16 17 18 r.x.a r.x.s r.x.l 0 r.x.d)],[(16,⟨5,true,r.x.aF.map oL⟩),(17,⟨12,true,r.x.defs.map bQ⟩),(18,⟨1,true,[]⟩)]⟩)
  (λr=>n - r.i) ⟨0,⟨1,100,0,0,[],[],zD⟩⟩ ⟨dL _,rfl⟩ ?_ ?_ ?_ ?_ ?_⟩
 exact vH;exact aB;exact aB;intro r;exact s9;intro r hJ;have j1:=hJ.1;have j2:=hJ.2;have ok:=nE L n r.i;rw[<-j2]at ok;have oa:=ok.a;have os:=ok.s;have oh:=ok.nh;have od:=ok.nd;by_cases hk:r.i<n;have b1:decide ((r.i:Int)<(n:Int))=true:=qt
 have hsu:r.x.after (xn L (r.i+1==n) r.i r.x)=cd L n (r.i+1):=by rw[j2];rfl
 by_cases hl:r.i+1=n;have b2:((r.i:Int)==(n:Int) - 1)=true:=aA;have b3:(r.i+1==n)=true:=by simp;exact hl
 have c2:=Zm (r.x.mk' L) (11+r.i) true r.x.a r.x.s r.x.l 0 r.x.d ⟨rfl,ok.aF,JP⟩ af af af af ⟨JP,by show r.x.defs.length<_;omega⟩;exact RZ;have b2:((r.i:Int)==(n:Int) - 1)=false:=aA;have b3:(r.i+1==n)=false:=by simp;exact hl
 have c0:=bD (r.x.mk' L) r.x.a r.x.s r.x.l 0 r.x.d 5 af af;have c2:=Zm (r.x.mk' L) (11+r.i) ((r.x.mk' L).nx r.x.a 5==0) (r.x.a+1) r.x.s r.x.l 0 r.x.d ⟨rfl,ok.aF,JP⟩ af af af af ⟨JP,by show r.x.defs.length<_;omega⟩;exact RZ;have b1:decide ((r.i:Int)<(n:Int))=false:=aA
 have hin:r.i=n:=af
 rw[hin]at j2 od;have hRx:R=⟨cq,r.x.aF,r.x.defs,if (r.x.mk' L).nx r.x.a 3==0 then T.take 1 else T⟩:=by rw[j2];exact hR
 have hTx:j0 r.x.defs n []=T:=by rw[j2];exact hT.symm
 refine run ?_
 refine bB.mk ⟨[],aZ.of (λq:TR=>q.k<=n∧q.t.length<=2∧j0 r.x.defs q.k q.t=T∧q.acc=q.t.map it) (λq=>⟨[(8,it ((q.k:Int) - 1))],[(15,encMkT ⟨L,cq,r.x.aF,r.x.defs,q.t,r.x.D,false⟩ q.acc 16 17 18 r.x.a r.x.s r.x.l 0 r.x.d)],[(18,⟨1,true,q.acc⟩)]⟩)
  (λq=>q.k) ⟨n,[],[]⟩ ⟨cu _,ag,hTx,rfl⟩ ?_ ?_ ?_ ?_ ?_⟩
 exact vH;exact aB;exact aB;intro r;exact s9;intro q hq;have q1:=hq.1;have q2:=hq.2.1;have q3:=hq.2.2.1;have q4:=hq.2.2.2;have a1:(q.k:Int) - 1 - 1=((q.k - 1:Nat):Int) - 1∨q.k=0:=af
 by_cases gk:0<q.k;have d1:decide ((q.k:Int) - 1>=0)=true:=aA
 have a2:(q.k:Int) - 1 - 1=((q.k - 1:Nat):Int) - 1:=af
 by_cases g2:q.t.length<2;have d2:decide ((q.acc.length:Int)<2)=true:=(by rw[q4,cZ];exact aA);have q5:q.acc.length<2:=by rw[q4,cZ];exact g2
 have hj:q.k - 1<r.x.defs.length:=af;have hi:nth (r.x.defs.map bQ) (((q.k:Int) - 1).toNat)=some (bQ r.x.defs[q.k - 1]):=by rw[show((q.k:Int) - 1).toNat=q.k - 1 by omega,bW,fq hj];rfl
 have hst:=th_step hj g2 gk;have hk1:q.k - 1<=n:=af
 have hk2:q.k - 1<q.k:=af;have hk3:(q.t++[r.x.defs[q.k - 1].id]).length<=2:=by rw[fA,tt];omega
 have hk4:q.acc++[it r.x.defs[q.k - 1].id]=(q.t++[r.x.defs[q.k - 1].id]).map it:=(by rw[q4,eI];rfl);have hpl:=Gk L n n r.x.defs[q.k - 1] (by rw[<-j2];exact cU hj);have hp1:=hpl.1;have hp2:=hpl.2;have hp3:(r.x.defs[q.k - 1].params.map bp).length<=12:=by rw[cZ];exact hp1
 have hp4:(r.x.defs[q.k - 1].given.map bp).length<=12:=(by rw[cZ];exact hp2);refine(dw ((((r.x.defs[q.k - 1].params.map bp).length:Int)+((r.x.defs[q.k - 1].given.map bp).length:Int))==0)).elim (λd3=> ?_) (λd3=> ?_);have hN:(if r.x.defs[q.k - 1].params.length+r.x.defs[q.k - 1].given.length=0 then q.t++[r.x.defs[q.k - 1].id]else q.t)=q.t++[r.x.defs[q.k - 1].id]:=aq (by simp at d3;omega);rw[hN]at hst;refine run ?_;refine a_.at rfl af hi ?_;refine run ?_;refine a_.at rfl af hi ?_;refine run ?_;refine a_.at rfl af hi ?_;refine run ?_;refine a_.at rfl af hi ?_;refine run ?_;refine a_.at rfl af hi ?_;refine run ?_;refine a_.at rfl af hi ?_;refine run ?_;refine⟨⟨⟨q.k - 1,q.t++[r.x.defs[q.k - 1].id],q.acc++[it r.x.defs[q.k - 1].id]⟩,⟨hk1,hk3,hst.symm.trans q3,hk4⟩⟩,hk2,?_⟩;exact vH;have hN:(if r.x.defs[q.k - 1].params.length+r.x.defs[q.k - 1].given.length=0 then q.t++[r.x.defs[q.k - 1].id]else q.t)=q.t:=ah (by simp at d3;omega);rw[hN]at hst;refine run ?_;refine a_.at rfl af hi ?_;refine run ?_;refine a_.at rfl af hi ?_;refine run ?_;refine a_.at rfl af hi ?_;refine run ?_;refine a_.at rfl af hi ?_;refine run ?_;refine⟨⟨⟨q.k - 1,q.t,q.acc⟩,⟨hk1,q2,hst.symm.trans q3,q4⟩⟩,hk2,?_⟩;exact vH;have d2:decide ((q.acc.length:Int)<2)=false:=(by rw[q4,cZ];exact aA);have e:=th_end g2 gk q3;have c3:=MX ⟨L,cq,r.x.aF,r.x.defs,q.t,r.x.D,false⟩ q.acc q4 r.x.a r.x.s r.x.l 0 r.x.d 3 af af;have hq0:1<=q.t.length:=by rw[e];exact tnz
 have hq1:1<=q.acc.length:=(by rw[q4,cZ];exact hq0);refine(dw ((r.x.mk' L).nx r.x.a 3==0)).elim (λdB=> ?_) (λdB=> ?_);have dB' :((⟨L,cq,r.x.aF,r.x.defs,q.t,r.x.D,false⟩:Mk).nx r.x.a 3==0)=true:=dB;have hRe:(⟨cq,r.x.aF,r.x.defs,q.t.take 1⟩:Pg)=R:=by rw[hRx,aq dB,e]
 exact Vz;have dB' :((⟨L,cq,r.x.aF,r.x.defs,q.t,r.x.D,false⟩:Mk).nx r.x.a 3==0)=false:=dB;have hRe:(⟨cq,r.x.aF,r.x.defs,q.t⟩:Pg)=R:=by rw[hRx,ah (by rw[dB];simp),e]
 exact Vp;have d1:decide ((q.k:Int) - 1>=0)=false:=aA
 have e:=th_zero gk q3;have c3:=MX ⟨L,cq,r.x.aF,r.x.defs,q.t,r.x.D,false⟩ q.acc q4 r.x.a r.x.s r.x.l 0 r.x.d 3 af af;have hq0:1<=q.t.length:=by rw[e];exact tnz
 have hq1:1<=q.acc.length:=by rw[q4,cZ];exact hq0
 refine(dw ((r.x.mk' L).nx r.x.a 3==0)).elim (λdB=> ?_) (λdB=> ?_);have dB' :((⟨L,cq,r.x.aF,r.x.defs,q.t,r.x.D,false⟩:Mk).nx r.x.a 3==0)=true:=dB;have hRe:(⟨cq,r.x.aF,r.x.defs,q.t.take 1⟩:Pg)=R:=by rw[hRx,aq dB,e]
 exact Vz;have dB' :((⟨L,cq,r.x.aF,r.x.defs,q.t,r.x.D,false⟩:Mk).nx r.x.a 3==0)=false:=dB;have hRe:(⟨cq,r.x.aF,r.x.defs,q.t⟩:Pg)=R:=by rw[hRx,ah (by rw[dB];simp),e]
 exact Vp
def Made_ok(L:List UInt8):aj Tryz.prog 25 [.agg [U_ L]] fZ (qb (mR L)) fZ:=by have h:=made_ok L;have hR:∃R,R=mR L:=⟨_,rfl⟩;refine hR.elim λR hR=> ?_;rw[<-hR]at h ⊢;refine fo Tryz.func25 ?_;exact aW
def EC:=@of_decide_eq_false
def uv{G:Prop}(h:G:=by rw[o4];simp):G:=h
def xK{G:Prop}(h:G:=by rw[o5];simp):G:=h
def As{G:Prop}(h:G:=by rw[o6];simp):G:=h
def oR{G:Prop}(h:G:=by refine fo Tryz.func182 ?_;exact aW):G:=h
def HC(v:Int):Int:=if v.tmod 4294967296< -2147483648 then v.tmod 4294967296+4294967296 else if v.tmod 4294967296>2147483647 then v.tmod 4294967296 - 4294967296 else v.tmod 4294967296
def Sa(v:Int): -4294967296<v.tmod 4294967296∧v.tmod 4294967296<4294967296:=by refine⟨?_,fw _ af⟩;exact J9 _ af
def zj(v:Int): -2147483648<=HC v∧HC v<=2147483647:=by have:=Sa v;unfold HC;split;omega;split<;>omega
def yf(v:Int):aj Tryz.prog 237 [it v] fZ (it (HC v)) fZ:=by have hb:=Sa v;have ht:∃t,t=v.tmod 4294967296:=⟨_,rfl⟩;refine ht.elim λt ht=> ?_;unfold HC;rw[<-ht]at hb ⊢;refine(dw (decide (v.tmod 4294967296< -2147483648))).elim (λb1=> ?_) (λb1=> ?_);rw[aq (by rw[ht];exact tf b1),ht];rw[ht]at hb;refine fo Tryz.func237 ?_;exact aT;rw[ah (by rw[ht];exact EC b1)];refine(dw (decide (v.tmod 4294967296>2147483647))).elim (λb2=> ?_) (λb2=> ?_);rw[aq (by rw[ht];exact tf b2),ht];rw[ht]at hb;refine fo Tryz.func237 ?_;exact aT;rw[ah (by rw[ht];exact EC b2),ht];refine fo Tryz.func237 ?_;exact aT
def Bs(op a b:Int):Int:=
 if op==4 then HC (a+b)else if op==5 then HC (a - b)else if op==6 then HC (a*b)else
 if op==7 then(if b==0 then 0 else HC (IntKind.i64.wrap (a.tdiv b)))else
 if op==8 then(if b==0 then a else a.tmod b)else
 if op==9 then(if b<a then b else a)else if op==10 then(if b>a then b else a)else 0
def HJ(op a b:Int):Int:=Bs op (HC a) (HC b)
def mul_bd{a b:Int}(ha: -2147483648<=a∧a<=2147483647)(hb: -2147483648<=b∧b<=2147483647): -(2^63)<=a*b∧a*b<2^63:=by
 have h1:a.natAbs<=2147483648:=af
 have h2:b.natAbs<=2147483648:=af
 have h3:(a*b).natAbs<=2147483648*2147483648:=by rw[Int.natAbs_mul];exact xW h1 h2
 omega
def XG(op x y:Int):aj Tryz.prog 182 [it op,it x,it y] fZ (it (HJ op x y)) fZ:=by
 have w1:=yf x;have w2:=yf y;have ba:=zj x;have bb:=zj y;unfold HJ;have hA:∃a,a=HC x:=⟨_,rfl⟩;refine hA.elim λa hA=> ?_;have hB:∃b,b=HC y:=⟨_,rfl⟩;refine hB.elim λb hB=> ?_;rw[<-hA]at w1 ba ⊢;rw[<-hB]at w2 bb ⊢;have w3:=yf (a+b);have w4:=yf (a - b);have w5:=yf (a*b);have w6:=yf (IntKind.i64.wrap (a.tdiv b));have mb:=mul_bd ba bb;have mb1:=mb.1;have mb2:=mb.2;refine(dw (op==4)).elim (λo4=> ?_) (λo4=> ?_);unfold Bs;rw[aq o4];exact oR;refine(dw (op==5)).elim (λo5=> ?_) (λo5=> ?_);unfold Bs;rw[ah uv];rw[aq o5];exact oR;refine(dw (op==6)).elim (λo6=> ?_) (λo6=> ?_);unfold Bs;rw[ah uv];rw[ah xK];rw[aq o6];exact oR;refine(dw (op==7)).elim (λo7=> ?_) (λo7=> ?_);unfold Bs;rw[ah uv];rw[ah xK];rw[ah As];rw[aq o7];refine(dw (b==0)).elim (λz=> ?_) (λz=> ?_);have n0:(!(b==0))=false:=(by rw[z];rfl);rw[aq z];exact oR;have n0:(!(b==0))=true:=(by rw[z];rfl);have n1:b≠0:=by simpa using z
 rw[ah (by rw[z];simp)];exact oR;refine(dw (op==8)).elim (λo8=> ?_) (λo8=> ?_);unfold Bs;rw[ah uv];rw[ah xK];rw[ah As];rw[ah (by rw[o7];simp)];rw[aq o8];refine(dw (b==0)).elim (λz=> ?_) (λz=> ?_);have n0:(!(b==0))=false:=(by rw[z];rfl);rw[aq z];exact oR;have n0:(!(b==0))=true:=(by rw[z];rfl);have n1:b≠0:=by simpa using z
 rw[ah (by rw[z];simp)];exact oR;refine(dw (op==9)).elim (λo9=> ?_) (λo9=> ?_);unfold Bs;rw[ah uv];rw[ah xK];rw[ah As];rw[ah (by rw[o7];simp)];rw[ah (by rw[o8];simp)];rw[aq o9];exact oR;refine(dw (op==10)).elim (λXK=> ?_) (λXK=> ?_);unfold Bs;rw[ah uv];rw[ah xK];rw[ah As];rw[ah (by rw[o7];simp)];rw[ah (by rw[o8];simp)];rw[ah (by rw[o9];simp)];rw[aq XK];exact oR;unfold Bs;rw[ah uv];rw[ah xK];rw[ah As];rw[ah (by rw[o7];simp)];rw[ah (by rw[o8];simp)];rw[ah (by rw[o9];simp)];rw[ah (by rw[XK];simp)];exact oR
structure Rw where
 op:Int
 a:Int
 b:Int
 n:Int
 m:Int
 lo:Int
 hi:Int
 id:Int
 sharp:Int
def i16(n:Int):au:= .int .i16 n
def DK(x:Rw):au:= .agg [u8 x.op,u8 x.a,u8 x.b,u8 x.n,u8 x.m,i16 x.lo,i16 x.hi,u8 x.id,u8 x.sharp]
structure QY(x:Rw):Prop where
 op:0<=x.op∧x.op<256
 a:0<=x.a∧x.a<256
 b:0<=x.b∧x.b<256
 n:0<=x.n∧x.n<256
 m:0<=x.m∧x.m<256
 lo: -32768<=x.lo∧x.lo<32768
 hi: -32768<=x.hi∧x.hi<32768
 id:0<=x.id∧x.id<256
 sharp:0<=x.sharp∧x.sharp<256
structure LH where
 lo:Int
 hi:Int
def stB(op a b0:Int)(s:LH)(j:Nat):LH:=⟨if HJ op a (b0+j)<s.lo then HJ op a (b0+j)else s.lo,if HJ op a (b0+j)>s.hi then HJ op a (b0+j)else s.hi⟩
def TN(op b0:Int)(nb:Nat)(a0:Int)(s:LH)(i:Nat):LH:=(List.range nb).foldl (stB op (a0+i) b0) s
def QU(op a0 b0:Int)(na nb:Nat)(s:LH):LH:=(List.range na).foldl (TN op b0 nb a0) s
def kV{β:Type}{f:β->Nat->β}{z:β}{k:Nat}:(List.range (k+1)).foldl f z=f ((List.range k).foldl f z) k:=by rw[uQ,zc];rfl
def ru0(x:Rw):Ru:=⟨1+x.id.tmod 20,1+x.sharp.tmod 4,x.id.tmod 3,4+x.op.tmod 7,x.a - 20,x.a - 20+x.n.tmod 40,x.b - 20,x.b - 20+x.m.tmod 40,if x.hi<x.lo then x.hi else x.lo,if x.hi>x.lo then x.hi else x.lo⟩
def Ni(x:Rw):LH:=QU (4+x.op.tmod 7) (x.a - 20) (x.b - 20) (x.n.tmod 40+1).toNat (x.m.tmod 40+1).toNat ⟨HJ (4+x.op.tmod 7) (x.a - 20) (x.b - 20),HJ (4+x.op.tmod 7) (x.a - 20) (x.b - 20)⟩
def yS(x:Rw):Ru:=if x.sharp.tmod 2==1 then ru0 x else{ru0 x with lo:=(Ni x).lo,hi:=(Ni x).hi}
def yL{x:Int}(h:0<=x)(n:Int)(hn:0<n):0<=x.tmod n∧x.tmod n<n:=⟨dz _ h,fw _ hn⟩
structure AB where
 k:Nat
 v:Int
 s:LH
def Yi(x:Rw)(h:QY x):aj Tryz.prog 109 [DK x] fZ (gM (yS x)) fZ:=by
 have t1:=yL h.id.1 20 af;have t2:=yL h.sharp.1 4 af;have t3:=yL h.id.1 3 af;have t4:=yL h.op.1 7 af;have t5:=yL h.n.1 40 af;have t6:=yL h.m.1 40 af;have ba:=h.a;have bb:=h.b;have bl:=h.lo;have bh:=h.hi;refine(dw (x.sharp.tmod 2==1)).elim (λb1=> ?_) (λb1=> ?_);have e:yS x=ru0 x:=aq b1;rw[e];refine fo Tryz.func109 ?_;exact aT;have e:yS x={ru0 x with lo:=(Ni x).lo,hi:=(Ni x).hi}:=ah (by rw[b1];simp);have hN:∃na:Nat,(na:Int)=x.n.tmod 40+1:=⟨(x.n.tmod 40+1).toNat,af⟩;refine hN.elim λna hna=> ?_;have hM:∃nb:Nat,(nb:Int)=x.m.tmod 40+1:=⟨(x.m.tmod 40+1).toNat,af⟩;refine hM.elim λnb hnb=> ?_;have hZ:∃Z,Z=Ni x:=⟨_,rfl⟩;refine hZ.elim λZ hZ=> ?_;rw[e,<-hZ];have hZ' :Z=QU (4+x.op.tmod 7) (x.a - 20) (x.b - 20) na nb ⟨HJ (4+x.op.tmod 7) (x.a - 20) (x.b - 20),HJ (4+x.op.tmod 7) (x.a - 20) (x.b - 20)⟩:=by rw[hZ,Ni,<-hna,<-hnb];rfl
 have c0:=XG (4+x.op.tmod 7) (x.a - 20) (x.b - 20);refine fo Tryz.func109 ?_;refine aN ?_;refine bB.mk ⟨[],aZ.lp (λr:AB=>r.k<=na∧r.v=x.a - 20+(r.k:Int)∧r.s=QU (4+x.op.tmod 7) (x.a - 20) (x.b - 20) r.k nb ⟨HJ (4+x.op.tmod 7) (x.a - 20) (x.b - 20),HJ (4+x.op.tmod 7) (x.a - 20) (x.b - 20)⟩) (λr=>⟨[(4,it r.v)],[(3,gM {ru0 x with lo:=r.s.lo,hi:=r.s.hi})],[]⟩) (λr=>na - r.k) ⟨0,x.a - 20,⟨HJ (4+x.op.tmod 7) (x.a - 20) (x.b - 20),HJ (4+x.op.tmod 7) (x.a - 20) (x.b - 20)⟩⟩ ⟨dL _,ag,rfl⟩ ?_⟩;intro r hJ;have h1:=hJ.1;have h0:=hJ.2.1;have h2:=hJ.2.2;by_cases hk:r.k<na;have d1:decide (r.v<=x.a - 20+x.n.tmod 40)=true:=aA;refine run ?_;refine bB.mk ⟨[],aZ.lp (λq:AB=>q.k<=nb∧q.v=x.b - 20+(q.k:Int)∧q.s=TN (4+x.op.tmod 7) (x.b - 20) q.k (x.a - 20) r.s r.k) (λq=>⟨[(5,it q.v)],[(3,gM {ru0 x with lo:=q.s.lo,hi:=q.s.hi})],[]⟩) (λq=>nb - q.k) ⟨0,x.b - 20,r.s⟩ ⟨dL _,ag,rfl⟩ ?_⟩;intro q hq;have g1:=hq.1;have g0:=hq.2.1;have g2:=hq.2.2;by_cases gk:q.k<nb;have e1:decide (q.v<=x.b - 20+x.m.tmod 40)=true:=aA;have c1:=XG (4+x.op.tmod 7) r.v q.v;have gN:(⟨if HJ (4+x.op.tmod 7) r.v q.v<q.s.lo then HJ (4+x.op.tmod 7) r.v q.v else q.s.lo,if HJ (4+x.op.tmod 7) r.v q.v>q.s.hi then HJ (4+x.op.tmod 7) r.v q.v else q.s.hi⟩:LH)=TN (4+x.op.tmod 7) (x.b - 20) (q.k+1) (x.a - 20) r.s r.k:=by unfold TN;rw[kV];unfold TN at g2;rw[<-g2,h0,g0];rfl
 have gV:q.v+1=x.b - 20+((q.k+1:Nat):Int):=(by rw[g0];omega);refine aN ?_;refine⟨⟨⟨q.k+1,x.b - 20+((q.k+1:Nat):Int),_⟩,⟨gk,rfl,gN⟩⟩,ik gk (gh _),?_⟩;exact vH;have e1:decide (q.v<=x.b - 20+x.m.tmod 40)=false:=aA;have hN:q.s=QU (4+x.op.tmod 7) (x.a - 20) (x.b - 20) (r.k+1) nb ⟨HJ (4+x.op.tmod 7) (x.a - 20) (x.b - 20),HJ (4+x.op.tmod 7) (x.a - 20) (x.b - 20)⟩:=by unfold QU;rw[kV];unfold QU at h2;rw[<-h2,g2,show q.k=nb by omega]
 have hV:r.v+1=x.a - 20+((r.k+1:Nat):Int):=(by rw[h0];omega);refine run ?_;refine⟨⟨⟨r.k+1,x.a - 20+((r.k+1:Nat):Int),q.s⟩,⟨hk,rfl,hN⟩⟩,ik hk (gh _),?_⟩;exact vH;have d1:decide (r.v<=x.a - 20+x.n.tmod 40)=false:=aA;have ez:Z=r.s:=by rw[hZ',h2,show r.k=na by omega]
 refine run ?_;exact fu.mk (aL (λs:LH=>gM {ru0 x with lo:=s.lo,hi:=s.hi}) ez.symm) rfl
def Wi{G:Prop}(h:G:=by rw[hA,cZ];exact(List.takeWhile_sublist _).length_le):G:=h
def V8{G:Prop}(h:G:=by rw[g2,hA,og (by omega),<-hX];simp[Ti]):G:=h
def Rj{G:Prop}(h:G:=by have gN:q.acc++[bF l[q.k]]=(r.acc++[bF ⟨a,b,0⟩])++((l.take (q.k+1)).filter λx=>ib X x).map bF:=(by rw[g2,flt_yes gk c2,eI,<-pP];rfl);refine run ?_;refine a_.map gk rfl ?_;refine aN ?_;refine a_.map gk rfl ?_;refine run ?_;exact Jw):G:=h
def Rg{G:Prop}(h:G:=by have gN:q.acc=(r.acc++[bF ⟨a,b,0⟩])++((l.take (q.k+1)).filter λx=>ib X x).map bF:=(by rw[g2,flt_no gk c2]);refine run ?_;refine a_.map gk rfl ?_;refine aN ?_;exact Jw):G:=h
def ib(x y:Pa):Bool:=decide (x.a<y.a)||(x.a==y.a&&decide (x.b<y.b))
def Gs(x y:Pa):aj Tryz.prog 142 [bF x,bF y] fZ (bo (ib x y)) fZ:=by
 refine(dw (decide (x.a<y.a))).elim (λc1=> ?_) (λc1=> ?_);have e:ib x y=true:=by unfold ib;rw[c1];rfl
 rw[e];refine fo Tryz.func142 ?_;exact aT;refine(dw (x.a==y.a)).elim (λc2=> ?_) (λc2=> ?_);have e:ib x y=decide (x.b<y.b):=(by unfold ib;rw[c1,c2];rfl);rw[e];refine fo Tryz.func142 ?_;exact aT;have e:ib x y=false:=(by unfold ib;rw[c1,c2];rfl);rw[e];refine fo Tryz.func142 ?_;exact aT
def Ti(l:List Pa)(X:Pa):List Pa:=(l.takeWhile λx=>ib x X)++[X]++l.filter λx=>ib X x
def wi(l:List Pa)(a b:Int)(X:Pa)(hX:X=⟨a,b,0⟩)(hl:l.length<2^28):aj Tryz.prog 69 [fj 3 bF l,it a,it b] fZ (fj 3 bF (Ti l X)) fZ:=by
 refine fo Tryz.func69 ?_;refine run ?_;refine bB.mk ⟨[],aZ.lp (λr:CR=>r.k<=l.length∧r.acc=(l.take r.k).map bF∧(l.takeWhile λx=>ib x X)=l.take r.k++(l.drop r.k).takeWhile λx=>ib x X) (λr=>⟨[(9,it r.k),(8,.ref 14 r.acc.length)],[],[(14,⟨3,true,r.acc⟩)]⟩) (λr=>l.length - r.k) ⟨0,[]⟩ ⟨dL _,ag,ag⟩ ?_⟩;intro r hJ;have h1:=hJ.1;have h2:=hJ.2.1;have h3:=hJ.2.2;by_cases hk:r.k<l.length;have b1:decide ((r.k:Int)<((l.map bF).length:Nat))=true:=qt
 have ch:aj Tryz.prog 142 [bF l[r.k],bF ⟨a,b,0⟩] fZ (bo (ib l[r.k] X)) fZ:=by rw[<-hX];exact Gs l[r.k] X
 refine(dw (ib l[r.k] X)).elim (λb2=> ?_) (λb2=> ?_);have hN:r.acc++[bF l[r.k]]=(l.take (r.k+1)).map bF:=(by rw[h2,take_one hk,eI];rfl);have hT:(l.takeWhile λx=>ib x X)=l.take (r.k+1)++(l.drop (r.k+1)).takeWhile λx=>ib x X:=by rw[h3,tw_yes hk b2,take_one hk,pP];rfl
 have hlen:r.acc.length=r.k:=(by rw[h2,cZ,mF];omega);refine run ?_;refine a_.map hk rfl ?_;refine aN ?_;refine a_.map hk rfl ?_;refine run ?_;refine⟨⟨⟨r.k+1,_⟩,⟨hk,hN,hT⟩⟩,ik hk (gh _),?_⟩;exact vH;have hA:r.acc=(l.takeWhile λx=>ib x X).map bF:=(by rw[h3,tw_no hk b2,h2];simp);have hlen1:r.acc.length<=l.length:=Wi
 refine run ?_;refine a_.map hk rfl ?_;refine aN ?_;refine run ?_;refine bB.mk ⟨[],aZ.lp (λq:CR=>q.k<=l.length∧q.acc=(r.acc++[bF ⟨a,b,0⟩])++((l.take q.k).filter λx=>ib X x).map bF) (λq=>⟨[(10,it q.k),(8,.ref 14 q.acc.length)],[],[(14,⟨3,true,q.acc⟩)]⟩) (λq=>l.length - q.k) ⟨0,r.acc++[bF ⟨a,b,0⟩]⟩ ⟨dL _,ag⟩ ?_⟩;intro q hq;have g1:=hq.1;have g2:=hq.2;have hle:=Y1 (p:=λx=>ib X x) (l:=l) q.k;have glen:q.acc.length=r.acc.length+1+((l.take q.k).filter λx=>ib X x).length:=by rw[g2];exact aA
 by_cases gk:q.k<l.length;have c1:decide ((q.k:Int)<((l.map bF).length:Nat))=true:=(by simp;exact gk);have cg:aj Tryz.prog 142 [bF ⟨a,b,0⟩,bF l[q.k]] fZ (bo (ib X l[q.k])) fZ:=by rw[<-hX];exact Gs X l[q.k]
 refine(dw (ib X l[q.k])).elim (λc2=> ?_) (λc2=> ?_);exact Rj;exact Rg;have c1:decide ((q.k:Int)<((l.map bF).length:Nat))=false:=aA;have e:q.acc=(Ti l X).map bF:=V8
 refine run ?_;exact fu.mk (aL (λx=>au.sl 3 x false) e) rfl;have b1:decide ((r.k:Int)<((l.map bF).length:Nat))=false:=aA
 have hA:r.acc=(l.takeWhile λx=>ib x X).map bF:=by rw[h3,uK af,h2];simp
 have hlen1:r.acc.length<=l.length:=Wi
 refine run ?_;refine bB.mk ⟨[],aZ.lp (λq:CR=>q.k<=l.length∧q.acc=(r.acc++[bF ⟨a,b,0⟩])++((l.take q.k).filter λx=>ib X x).map bF) (λq=>⟨[(10,it q.k),(8,.ref 14 q.acc.length)],[],[(14,⟨3,true,q.acc⟩)]⟩) (λq=>l.length - q.k) ⟨0,r.acc++[bF ⟨a,b,0⟩]⟩ ⟨dL _,ag⟩ ?_⟩;intro q hq;have g1:=hq.1;have g2:=hq.2;have hle:=Y1 (p:=λx=>ib X x) (l:=l) q.k;have glen:q.acc.length=r.acc.length+1+((l.take q.k).filter λx=>ib X x).length:=by rw[g2];exact aA
 by_cases gk:q.k<l.length;have c1:decide ((q.k:Int)<((l.map bF).length:Nat))=true:=by simp;exact gk
 have cg:aj Tryz.prog 142 [bF ⟨a,b,0⟩,bF l[q.k]] fZ (bo (ib X l[q.k])) fZ:=by rw[<-hX];exact Gs X l[q.k]
 refine(dw (ib X l[q.k])).elim (λc2=> ?_) (λc2=> ?_);exact Rj;exact Rg;have c1:decide ((q.k:Int)<((l.map bF).length:Nat))=false:=aA
 have e:q.acc=(Ti l X).map bF:=V8
 refine run ?_;exact fu.mk (aL (λx=>au.sl 3 x false) e) rfl
def qj(a:Int):Int:=if 0 - a>a then 0 - a else a
def Z'(a:Int)(h: -(2^40)<a∧a<2^40):aj Tryz.prog 141 [it a] fZ (it (qj a)) fZ:=by have h1:=h.1;have h2:=h.2;refine fo Tryz.func141 ?_;exact aT
def uc(lo hi m r mask:Int):au:= .agg [it lo,it hi,it m,it r,it mask]
def ia(lo hi m:Int):Int:=if lo==hi then 0 else m
def EL(lo hi m r mask:Int):aj Tryz.prog 140 [uc lo hi m r mask] fZ (it (ia lo hi m)) fZ:=by unfold ia;refine(dw (lo==hi)).elim (λb=> ?_) (λb=> ?_);rw[aq b];refine fo Tryz.func140 ?_;exact aT;rw[ah (by rw[b];simp)];refine fo Tryz.func140 ?_;exact aT
def modId(a m:Int):Int:=(a.tmod m+m).tmod m
def mod_ok(a m:Int)(h:0<m∧m<2^40):aj Tryz.prog 184 [it a,it m] fZ (it (modId a m)) fZ:=by
 have h1:=h.1;have h2:=h.2;have t1:a.tmod m<m:=fw _ h1;have t2: -m<a.tmod m:=J9 _ h1;have hz:m≠0:=af
 refine fo Tryz.func184 ?_;exact aT
def qK(a b:Int):Int:=(Nat.gcd a.toNat b.toNat:Nat)
structure GId where
 x:Int
 y:Int
def YW{x y:Int}(hx:0<=x)(hy:0<y):Nat.gcd y.toNat (x.tmod y).toNat=Nat.gcd x.toNat y.toNat:=by obtain⟨a,rfl⟩:=uL hx;obtain⟨b,rfl⟩:=uL (xT hy);have e:((a:Int).tmod (b:Int)).toNat=a%b:=rfl;rw[e];show Nat.gcd b (a%b)=Nat.gcd a b;rw[Es b,<-Nat.gcd_rec,Es]
def Ll(a b:Int)(ha:0<=a)(hb:0<=b):aj Tryz.prog 139 [it a,it b] fZ (it (qK a b)) fZ:=by
 refine fo Tryz.func139 ?_;refine run ?_;refine bB.mk ⟨[],aZ.lp (λr:GId=>0<=r.x∧0<=r.y∧Nat.gcd r.x.toNat r.y.toNat=Nat.gcd a.toNat b.toNat) (λr=>⟨[(0,it r.x),(1,it r.y)],[],[]⟩) (λr=>r.y.toNat) ⟨a,b⟩ ⟨ha,hb,rfl⟩ ?_⟩;intro r hJ;have h1:=hJ.1;have h2:=hJ.2.1;have h3:=hJ.2.2;by_cases hk:r.y=0;have b1:(!(r.y==0))=false:=by rw[hk];rfl
 have e:r.x=qK a b:=by rw[qK,<-h3,hk];exact aA
 refine run ?_;exact fu.mk (aL it e) rfl;have b1:(!(r.y==0))=true:=qt
 have hp:0<r.y:=af
 have g:=YW h1 hp;have t1:r.x.tmod r.y<r.y:=fw _ hp;have t2:0<=r.x.tmod r.y:=dz _ h1;have hm' :(r.x.tmod r.y).toNat<r.y.toNat:=af
 refine run ?_;refine⟨⟨⟨r.y,r.x.tmod r.y⟩,⟨h2,t2,g.trans h3⟩⟩,hm',?_⟩;exact vH
def quo_bd{d m:Int}(hd:0<=d)(h2:d<2^30)(hm:0<m):IntKind.i64.wrap (d.tdiv m)*m<=d∧0<=IntKind.i64.wrap (d.tdiv m)*m:=by have e:d.tdiv m=d / m:=gP hd;have h0:0<=d / m:=xY hd af;have h1:d / m*m<=d:=Int.ediv_mul_le d af;have h3:d / m<=d:=J3 m hd;rw[e,wrap_i64 af af];exact⟨h1,oc h0 af⟩
def hiR(lo hi m:Int):Int:=lo+IntKind.i64.wrap ((hi - lo).tdiv m)*m
def Ta(lo hi m mask:Int):au:=
 if decide (m>0)then(if lo==hiR lo hi m then uc lo lo 1 0 mask else uc lo (hiR lo hi m) m (modId lo m) mask)
 else uc lo lo 1 0 mask
def S'(lo hi m mask:Int)(h1: -(2^20)<lo)(h2:lo<=hi)(h3:hi<2^20)(h4:0<=m∧m<2^40)(h5:m=0->lo=hi):aj Tryz.prog 115 [it lo,it hi,it m,it mask] fZ (Ta lo hi m mask) fZ:=by
 unfold Ta;refine(dw (decide (m>0))).elim (λb1=> ?_) (λb1=> ?_);have hm0:0<m:=tf b1;have q:=quo_bd (d:=hi - lo) (m:=m) af af hm0;have q1:=q.1;have q2:=q.2;have hz:m≠0:=af
 have c:=mod_ok lo m ⟨hm0,h4.2⟩;rw[aq b1];refine(dw (lo==hiR lo hi m)).elim (λb2=> ?_) (λb2=> ?_);have b3:(lo==lo+IntKind.i64.wrap ((hi - lo).tdiv m)*m)=true:=b2;rw[aq b2];refine fo Tryz.func115 ?_;exact aW;have b3:(lo==lo+IntKind.i64.wrap ((hi - lo).tdiv m)*m)=false:=b2;rw[ah (by rw[b2];simp)];refine fo Tryz.func115 ?_;exact aW;have e:lo=hi:=h5 (by have:=EC b1;omega);have b2:(lo==hi)=true:=uu
 rw[ah (by rw[b1];simp)];refine fo Tryz.func115 ?_;exact aT
def XJ(v mask:Int)(h: -(2^20)<v∧v<2^20):aj Tryz.prog 68 [.agg [it v,it mask]] fZ (uc v v 1 0 mask) fZ:=by have c:aj Tryz.prog 115 [it v,it v,it 0,it mask] fZ (uc v v 1 0 mask) fZ:=S' v v 0 mask h.1 (pd _) h.2 ⟨pd _,af⟩ (λ_=>rfl);refine fo Tryz.func68 ?_;exact aW
def or_zero{k:Int}(h:0<=k∧k<4):(((BitVec.ofInt IntKind.i64.bits k|||BitVec.ofInt IntKind.i64.bits 0).toNat:Nat):Int)=k:=by
 have:k=0∨k=1∨k=2∨k=3:=af
 rcases this with rfl|rfl|rfl|rfl<;>decide
def Ys(v w k:Int)(h1: -(2^19)<v)(h2:v<=w)(h3:w<2^19)(hk:0<=k∧k<4):aj Tryz.prog 67 [uc v v 1 0 k,uc w w 1 0 0] fZ (Ta v w (w - v) k) fZ:=by
 have s1:aj Tryz.prog 140 [uc v v 1 0 k] fZ (it 0) fZ:=by have:=EL v v 1 0 k;rwa[show ia v v 1=0 by simp[ia]]at this
 have s2:aj Tryz.prog 140 [uc w w 1 0 0] fZ (it 0) fZ:=by have:=EL w w 1 0 0;rwa[show ia w w 1=0 by simp[ia]]at this
 have g1:aj Tryz.prog 139 [it 0,it 0] fZ (it 0) fZ:=Ll 0 0 af af;have a1:aj Tryz.prog 141 [it (v - w)] fZ (it (w - v)) fZ:=by have:=Z' (v - w) ⟨af,af⟩;rwa[show qj (v - w)=w - v by unfold qj;split<;>omega]at this
 have g2:aj Tryz.prog 139 [it 0,it (w - v)] fZ (it (w - v)) fZ:=by have:=Ll 0 (w - v) af af;rwa[show qK 0 (w - v)=w - v by simp[qK];omega]at this
 have o:=or_zero hk;have b:=S' v w (w - v) k af h2 af ⟨af,af⟩ (λ_=>af);have m1:(if w<v then w else v)=v:=ah af;have m2:(if w>v then w else v)=w:=iT
 have b' :aj Tryz.prog 115 [it (if w<v then w else v),it (if w>v then w else v),it (w - v),it k] fZ (Ta v w (w - v) k) fZ:=by rw[m1,m2];exact b
 have hR:∃R,R=Ta v w (w - v) k:=⟨_,rfl⟩;refine hR.elim λR hR=> ?_;have hRs:∃x1 x2 x3 x4,R=uc x1 x2 x3 x4 k:=by rw[hR];unfold Ta;split;split<;>exact⟨_,_,_,_,rfl⟩;exact⟨_,_,_,_,rfl⟩
 refine hRs.elim λx1 h=>h.elim λx2 h=>h.elim λx3 h=>h.elim λx4 h=> ?_;rw[<-hR,h]at b' ⊢;refine fo Tryz.func67 ?_;exact aW
def Ao:C 48 [] (ai zR):=by refine fo Tryz.func48 ?_;exact aT
def NQ(a:Av):C 119 [ai a] (ai (dU a)):=by
 unfold dU;refine(dw (decide (a.lo<a.hi))).elim (λb1=> ?_) (λb1=> ?_)
 ·have h:=tf b1;first|rw[aq h]|skip
  refine fo Tryz.func119 ?_;exact aT
 ·have h:=EC b1;first|rw[ah h]|skip
  refine fo Tryz.func119 ?_;exact aT
def r8(b:List UInt8):au:= .sl 1 (b.map (λb:UInt8=>au.int .u8 b.toNat)) false
def qi(l:List UInt8)(i:Int):Int:=if l.length=0 then 0 else((l.getD (i.tmod l.length).toNat 0).toNat:Nat)
def xt(l:List UInt8)(i:Int)(hl:l.length<2^63)(hi:0<=i∧i<2^40):C 121 [r8 l,it i] (it (qi l i)):=by
 unfold qi;by_cases h0:l.length=0;have b1:(((((l.map (λb:UInt8=>au.int .u8 b.toNat)).length:Nat):Int))==0)=true:=by simp[h0]
 rw[aq h0];refine fo Tryz.func121 ?_;exact aT;have b1:(((((l.map (λb:UInt8=>au.int .u8 b.toNat)).length:Nat):Int))==0)=false:=by simpa using h0
 have hm1:=dz (l.length:Int) hi.1;have hm2:=fw i (show(0:Int)<(l.length:Int) by omega);have hlt:(i.tmod l.length).toNat<l.length:=af
 have hx:nth (l.map (λb:UInt8=>au.int .u8 b.toNat)) (i.tmod (((l.map (λb:UInt8=>au.int .u8 b.toNat)).length:Nat):Int)).toNat=some (.int .u8 (l[(i.tmod l.length).toNat]).toNat):=by rw[cZ,bW,fq hlt];rfl
 have hm3:0<=i.tmod (((l.map (λb:UInt8=>au.int .u8 b.toNat)).length:Nat):Int):=by rw[cZ];exact hm1
 have hg:l.getD (i.tmod l.length).toNat 0=l[(i.tmod l.length).toNat]:=by simp[hlt]
 have hu:=AP (l[(i.tmod l.length).toNat]);have hne:(((l.map (λb:UInt8=>au.int .u8 b.toNat)).length:Nat):Int)≠0:=ui
 rw[ah h0,hg];refine fo Tryz.func121 ?_;refine run ?_;refine a_.at rfl hm3 hx ?_;exact aT
def byD_in{lo hi mask:Int}(h:lo<=hi)(h1: -(2^20)<lo)(h2:hi<2^20):Ta lo hi 1 mask=ai (m7 lo hi 1 mask):=by
 have e1:hiR lo hi 1=hi:=by unfold hiR;rw[Int.tdiv_one,wrap_i64 af af];omega
 have e2:hi - (hi - lo).tmod 1=hi:=by rw[Int.tmod_one];omega
 unfold Ta m7;rw[e1,e2,aq (show decide ((1:Int)>0)=true by decide),aq (show(0:Int)<1 by decide)];by_cases hh:lo=hi;rw[aq (show(lo==hi)=true by simpa using hh),aq hh];rfl;rw[ah (show ¬(lo==hi)=true by simpa using hh),ah hh];rfl
def Qs(r:pL)(h1: -(2^20)<r.lo)(h2:r.lo<=r.hi)(h3:r.hi<2^20):C 47 [bp r] (ai (jj r)):=by have c:=S' r.lo r.hi 1 r.mask h1 h2 h3 af af;rw[byD_in h2 h1 h3]at c;show C 47 [bp r] (ai (m7 r.lo r.hi 1 r.mask));generalize m7 r.lo r.hi 1 r.mask=A at c ⊢;refine fo Tryz.func47 ?_;exact aW
def V'{G:Prop}(h:G:=by rw[jd hkv,eI];rfl):G:=h
def VH{G:Prop}(h:G:=by refine aN ?_;have pM:=aL (λx=>some (Row.mk 6 true x)) e;have Hx:=aL (λx:List au=>some (bx5 (.ref 20003 (((A_ d).take d.vars.toNat).map ai).length) (.ref 20009 x.length) (.ref 17 (((d.aK.map kz).length:Nat):Int).toNat) (fM d.vars.toNat d.params.length) (iD 1 (lZ d)))) e;exact tM hk1):G:=h
def uj{G:Prop}(h:G:=by rw[cZ,mF];omega):G:=h
def VD{G:Prop}(h:G:=by refine aN ?_;have pM:=aL (λx=>some (Row.mk 5 true x)) e;have Hx:=aL (λx:List au=>some (bx5 (.ref 20003 x.length) (.sl 6 [] true) (.ref 17 (((d.aK.map kz).length:Nat):Int).toNat) (fM d.vars.toNat d.params.length) (iD 1 (lZ d)))) e;exact tM hk1):G:=h
def Rb{G:Prop}(h:G:=by rw[jc (by simpa using h)];simp at h2;rw[EI,aq (by exact aA)];rfl):G:=h
def Arith.WN{x:Int}{K:Int->Prop}(h1:0<=x)(h2:x<18446744073709551616)(h:K x):Arith .u64 x K:=⟨by rw[wrap_u64,Ew h1 h2];exact h⟩
def I7(d:Df)(f:Fa)(level:Int)(h:2<=level):C 51 [bQ d,it level,bg f] (bg f):=by
 have b2:decide (level>=2)=true:=gI
 refine(dw f.dead).elim (λb1=> ?_) (λb1=> ?_);refine fo Tryz.func51 ?_;exact aT;refine fo Tryz.func51 ?_;exact aT
def R7{d:Df}(hd:yG d)(hp:d.params.length<=d.vars):(A_ d).length=d.vars.toNat:=by simp[A_];omega
def some_get{α:Type}{l:List α}{k:Nat}{x:α}(h2:k<l.length)(h:l[k]? =some x):l[k]=x:=by rw[iM h2]at h;exact Option.some.inj h
def vs0_lo{d:Df}{k:Nat}(h:k<d.params.length)(h2:k<(A_ d).length):(A_ d)[k]=jj d.params[k]:=some_get h2 (by unfold A_;rw[kR gI];simp[h])
def vs0_hi{d:Df}{k:Nat}(h:d.params.length<=k)(h2:k<(A_ d).length):(A_ d)[k]=zR:=some_get h2 (by unfold A_ at*;exact Rb)
def EP{d:Df}(hg:d.given.length<=d.refs):(Ca d).length=d.refs.toNat:=by simp[Ca];omega
def rs0_lo{d:Df}{k:Nat}(h:k<d.given.length)(h2:k<(Ca d).length):(Ca d)[k]=⟨2,jj d.given[k]⟩:=some_get h2 (by unfold Ca;rw[kR gI];simp[h])
def rs0_hi{d:Df}{k:Nat}(h:d.given.length<=k)(h2:k<(Ca d).length):(Ca d)[k]=⟨1,zR⟩:=some_get h2 (by unfold Ca at*;exact Rb)
def Tt{d:Df}(hd:yG d)(hp:∀r∈d.params,-(2^20)<r.lo∧r.lo<=r.hi∧r.hi<2^20)(hg:∀r∈d.given,-(2^20)<r.lo∧r.lo<=r.hi∧r.hi<2^20)(hgn:d.given.length<=d.refs)(hpt:0<=d.part∧d.part<=15)(hN:C 118 [it d.vars,it ((d.params.map bp).length:Nat)] (dF (fM d.vars.toNat d.params.length))):C 120 [bQ d,it 2] (bg (ku d)):=by
 have pb:=ES hpt;have pb1:=pb.1;have pb2:=pb.2;have pt1:=hpt.1;have hvs:=hd.vars;have hpn:=hd.pn;have hrs:=hd.refs;have han:=hd.an;have hpv:=hd.pv;have hal:(d.aK.map kz).length=d.aK.length:=cZ ..;have hA:0<=((d.aK.map kz).length:Int)∧((d.aK.map kz).length:Int)<=2^20:=by rw[hal];omega
 have hvl:=R7 hd hpv;have hrl:=EP hgn;have hL3:(((d.aK.map kz).length:Nat):Int).toNat=(List.replicate (((d.aK.map kz).length:Nat):Int).toNat (it 0)).length:=ag
 have eF:bg (ku d)= .agg [bo false,.sl 5 (((A_ d).take d.vars.toNat).map ai) false,dF (fM d.vars.toNat d.params.length),.sl 6 (((Ca d).take d.refs.toNat).map aO) false,.sl 1 (List.replicate (((d.aK.map kz).length:Nat):Int).toNat (it 0)) false,it 0,it 0,it (iD 1 (lZ d))]:=by rw[og af,og af];unfold bg cF ku fj ints;simp[List.map_replicate]
 have hD:=I7 d (ku d) 2 az;rw[eF]at hD ⊢;refine eg hm Tryz.func120 (λ_=>false) [] (λn=>bif Nat.beq n 14 then[.aR 5 1,.aR 5 3,.aR 5 4]else[]) aB ?_;have oe:(((BitVec.ofInt IntKind.i64.bits 1|||BitVec.ofInt IntKind.i64.bits (IntKind.i64.wrap (1*2^min d.part.toNat IntKind.i64.bits))).toNat:Nat):Int)=iD 1 (lZ d):=rfl;have hvl:=R7 hd hpv;have hrl:=EP hgn;refine aN ?_;refine Arith.WN hpt.1 af ?_;refine aN ?_;refine bB.mk ⟨[.cell 5 1 20003],aZ.np d.vars.toNat (λ_=>True) (λk=>⟨[(6,it k)],[(5,bx5 (.ref 20003 (((A_ d).take k).map ai).length) (.sl 6 [] true) (.ref 17 (((d.aK.map kz).length:Nat):Int).toNat) (fM d.vars.toNat d.params.length) (iD 1 (lZ d)))],[(20003,⟨5,true,((A_ d).take k).map ai⟩)]⟩) trivial ?_⟩;intro k hk hJ;have hlk:(((A_ d).take k).map ai).length=k:=uj
 by_cases hk1:k<d.vars.toNat;have b1:decide ((k:Int)<d.vars)=true:=aA
 have hkv:k<(A_ d).length:=af
 have e:((A_ d).take k).map ai++[ai (A_ d)[k]]=((A_ d).take (k+1)).map ai:=V'
 by_cases hk2:k<d.params.length;have b2:decide ((k:Int)<((d.params.map bp).length:Nat))=true:=(by simp;exact hk2);have hr:=hp _ (cU hk2);have c:=Qs d.params[k] hr.1 hr.2.1 hr.2.2;have e2:∃R,C 47 [bp d.params[k]] (ai R)∧((A_ d).take k).map ai++[ai R]=((A_ d).take (k+1)).map ai:=⟨jj d.params[k],c,by rw[<-vs0_lo hk2 hkv];exact e⟩;refine e2.elim λR hR=> ?_;have c:=hR.1;have e:=hR.2;refine aN ?_;refine a_.map hk2 rfl ?_;exact VD;have b2:decide ((k:Int)<((d.params.map bp).length:Nat))=false:=aA;have e:((A_ d).take k).map ai++[ai zR]=((A_ d).take (k+1)).map ai:=by rw[<-vs0_hi af hkv];exact e
 have c:=Ao;exact VD;have b1:decide ((k:Int)<d.vars)=false:=aA
 have hkk:k=d.vars.toNat:=af
 subst hkk;refine run ?_;refine bB.mk ⟨[.cell 5 3 20009],aZ.np d.refs.toNat (λ_=>True) (λk=>⟨[(7,it k)],[(5,bx5 (.ref 20003 (((A_ d).take d.vars.toNat).map ai).length) (.ref 20009 (((Ca d).take k).map aO).length) (.ref 17 (((d.aK.map kz).length:Nat):Int).toNat) (fM d.vars.toNat d.params.length) (iD 1 (lZ d)))],[(20009,⟨6,true,((Ca d).take k).map aO⟩)]⟩) trivial ?_⟩;intro k hk hJ;have hlk:(((Ca d).take k).map aO).length=k:=uj
 by_cases hk1:k<d.refs.toNat;have b1:decide ((k:Int)<d.refs)=true:=aA
 have hkv:k<(Ca d).length:=af
 have e:((Ca d).take k).map aO++[aO (Ca d)[k]]=((Ca d).take (k+1)).map aO:=V'
 by_cases hk2:k<d.given.length;have b2:decide ((k:Int)<((d.given.map bp).length:Nat))=true:=(by simp;exact hk2);have hr:=hg _ (cU hk2);have c:=Qs d.given[k] hr.1 hr.2.1 hr.2.2;have e2:∃R,C 47 [bp d.given[k]] (ai R)∧((Ca d).take k).map aO++[aO ⟨2,R⟩]=((Ca d).take (k+1)).map aO:=⟨jj d.given[k],c,by rw[<-rs0_lo hk2 hkv];exact e⟩;refine e2.elim λR hR=> ?_;have c:=hR.1;have e:=hR.2;refine aN ?_;refine a_.map hk2 rfl ?_;exact VH;have b2:decide ((k:Int)<((d.given.map bp).length:Nat))=false:=aA;have e:((Ca d).take k).map aO++[aO ⟨1,zR⟩]=((Ca d).take (k+1)).map aO:=by rw[<-rs0_hi af hkv];exact e
 have c:=Ao;exact VH;have b1:decide ((k:Int)<d.refs)=false:=aA
 have hkk:k=d.refs.toNat:=af
 subst hkk;exact aW
def Vk{G:Prop}(h:G:=by refine aN ?_;have pM:=aL (λx=>some (Row.mk 2 true x)) e;have Hx:=aL (λx:List au=>some (au.ref 9 x.length)) e;exact tM hk1):G:=h
structure Wd where
 v:Int
 mask:Int
def jH(w:Wd):au:= .agg [it w.v,it w.mask]
structure Ns where
 w:List UInt8
 b:List UInt8
def SZ(n:Ns):au:= .agg [r8 n.w,r8 n.b]
def wd0(a b:Int):Wd:=⟨a.tmod 24 - 6,b.tmod 4⟩
def wdP(r:pL)(w:Wd):Wd:=⟨r.lo+(w.v+6).tmod (r.hi - r.lo+1),bz w.mask r.mask⟩
def rG(d:Df)(n:Ns)(k:Nat):Wd:=if h:k<d.params.length then wdP d.params[k] (wd0 (qi n.w (2*(k:Int))) (qi n.w (2*(k:Int)+1)))else wd0 (qi n.w (2*(k:Int))) (qi n.w (2*(k:Int)+1))
def gi(d:Df)(n:Ns):List Wd:=(List.range d.vars.toNat).map (rG d n)
def kD(l:List UInt8)(i:Int):0<=qi l i∧qi l i<256:=by unfold qi;split;omega;have:=AP (l.getD (i.tmod l.length).toNat 0);omega
def WD(d:Df)(n:Ns)(hv:0<=d.vars∧d.vars<=2^20)(hl:n.w.length<2^63)(hp:∀r∈d.params,-(2^20)<r.lo∧r.lo<=r.hi∧r.hi<2^20∧0<=r.mask∧r.mask<=255):C 53 [bQ d,SZ n] (fj 2 jH (gi d n)):=by
 have hv1:=hv.2;have hwl:(gi d n).length=d.vars.toNat:=by simp[gi]
 refine fo Tryz.func53 ?_;refine run ?_;refine bB.mk ⟨[],aZ.np d.vars.toNat (λ_=>True) (λk=>⟨[(6,it k),(5,.ref 9 (((gi d n).take k).map jH).length)],[],[(9,⟨2,true,((gi d n).take k).map jH⟩)]⟩) trivial ?_⟩;intro k hk hJ;have hlk:(((gi d n).take k).map jH).length=k:=uj
 by_cases hk1:k<d.vars.toNat;have b1:decide ((k:Int)<d.vars)=true:=aA
 have hkv:k<(gi d n).length:=af
 have e:((gi d n).take k).map jH++[jH (rG d n k)]=((gi d n).take (k+1)).map jH:=by rw[jd hkv,eI,show(gi d n)[k]=rG d n k by simp[gi]];rfl
 have c1:=xt n.w (2*(k:Int)) hl af;have c2:=xt n.w (2*(k:Int)+1) hl af;have a1:=kD n.w (2*(k:Int));have a2:=kD n.w (2*(k:Int)+1);by_cases hk2:k<d.params.length;have b2:decide ((k:Int)<((d.params.map bp).length:Nat))=true:=(by simp;exact hk2);have hr:=hp _ (cU hk2);have e3:∃(R:pL) (a b:Int),d.params[k]=R∧C 121 [r8 n.w,it (2*(k:Int))] (it a)∧C 121 [r8 n.w,it (2*(k:Int)+1)] (it b)∧(0<=a∧a<256)∧(0<=b∧b<256)∧((gi d n).take k).map jH++[jH (wdP R (wd0 a b))]=((gi d n).take (k+1)).map jH:=⟨_,_,_,rfl,c1,c2,a1,a2,by rw[<-e];unfold rG;rw[dif_pos hk2]⟩;refine e3.elim λR e3=>e3.elim λa e3=>e3.elim λb e3=> ?_;have hR:=e3.1;have c1:=e3.2.1;have c2:=e3.2.2.1;have a1:=e3.2.2.2.1;have a2:=e3.2.2.2.2.1;have e:=e3.2.2.2.2.2;have hr2: -(2^20)<R.lo∧R.lo<=R.hi∧R.hi<2^20∧0<=R.mask∧R.mask<=255:=hR▸hr;have m1:=dz 24 a1.1;have m2:=fw a (show(0:Int)<24 by decide);have m3:=dz 4 a2.1;have m4:=fw b (show(0:Int)<4 by decide);have m5:=dz (R.hi - R.lo+1) (show 0<=a.tmod 24 - 6+6 by omega);have m6:=fw (a.tmod 24 - 6+6) (show(0:Int)<R.hi - R.lo+1 by omega);have hz:R.hi - R.lo+1≠0:=af
 have e4:=nS (b.tmod 4) R.mask;have d4:=iP (a:=b.tmod 4) (b:=R.mask) (n:=8) af hr2.2.2.2.1 af;have hx:nth (d.params.map bp) ((k:Int)).toNat=some (bp R):=by rw[bW,lQ,fq hk2,hR];rfl
 refine aN ?_;refine a_.at rfl (dX k) hx ?_;exact Vk;have b2:decide ((k:Int)<((d.params.map bp).length:Nat))=false:=aA;have e3:∃(a b:Int),C 121 [r8 n.w,it (2*(k:Int))] (it a)∧C 121 [r8 n.w,it (2*(k:Int)+1)] (it b)∧(0<=a∧a<256)∧(0<=b∧b<256)∧((gi d n).take k).map jH++[jH (wd0 a b)]=((gi d n).take (k+1)).map jH:=⟨_,_,c1,c2,a1,a2,by rw[<-e];unfold rG;rw[dif_neg hk2]⟩;refine e3.elim λa e3=>e3.elim λb e3=> ?_;have c1:=e3.1;have c2:=e3.2.1;have a1:=e3.2.2.1;have a2:=e3.2.2.2.1;have e:=e3.2.2.2.2;have m1:=dz 24 a1.1;have m2:=fw a (show(0:Int)<24 by decide);have m3:=dz 4 a2.1;have m4:=fw b (show(0:Int)<4 by decide);exact Vk;have b1:decide ((k:Int)<d.vars)=false:=aA
 have e:((gi d n).take k).map jH=(gi d n).map jH:=za
 refine run ?_;exact fu.mk (aL (λx=>au.sl 2 x false) e) rfl
def ZS{lo hi m mask:Int}(h:lo<=hi)(h1: -(2^20)<lo)(h2:hi<2^20)(hm:0<=m)(h0:m=0->lo=hi):Ta lo hi m mask=ai (m7 lo hi m mask):=by
 unfold Ta m7;by_cases hm0:0<m;have q:(hi - lo).tdiv m*m=hi - lo - (hi - lo).tmod m:=by have:=Int.tdiv_mul_add_tmod (hi - lo) m;omega
 have t1:=dz m (show 0<=hi - lo by omega);have d1:(hi - lo).tdiv m=(hi - lo) / m:=gP af;have d2:0<=(hi - lo) / m:=xY af hm;have d3:(hi - lo) / m<=hi - lo:=J3 m af;have e1:hiR lo hi m=hi - (hi - lo).tmod m:=by unfold hiR;rw[wrap_i64 (by rw[d1];omega) (by rw[d1];omega),q];omega
 rw[e1,aq (show decide (m>0)=true by simpa using hm0),aq hm0];by_cases hh:lo=hi - (hi - lo).tmod m;rw[aq (show(lo==hi - (hi - lo).tmod m)=true by simpa using hh),aq hh];rfl;rw[ah (show ¬(lo==hi - (hi - lo).tmod m)=true by simpa using hh),ah hh];rfl;rw[ah (show ¬decide (m>0)=true by simpa using hm0),ah hm0,aq (h0 af)];rfl
def SR(a b:Int):0<=qK a b:=by unfold qK;omega
def Yv(a b:Av)(ha:aU a)(hb:aU b)(a1: -(2^19)<a.lo)(a2:a.hi<2^19)(b1: -(2^19)<b.lo)(b2:b.hi<2^19)(hg:dK (aD a) [aD b,(a.lo - b.lo).natAbs]=qK (qK (ia a.lo a.hi a.m) (ia b.lo b.hi b.m)) (qj (a.lo - b.lo)))(hs:0<=ia a.lo a.hi a.m∧0<=ia b.lo b.hi b.m)(hg2:qK (qK (ia a.lo a.hi a.m) (ia b.lo b.hi b.m)) (qj (a.lo - b.lo))<2^40)(hg0:qK (qK (ia a.lo a.hi a.m) (ia b.lo b.hi b.m)) (qj (a.lo - b.lo))=0->a.lo=a.hi∧b.lo=b.hi∧a.lo=b.lo):C 67 [ai a,ai b] (ai (fR a b)):=by
 have ale:=ha.le;have ble:=hb.le;have s1:=EL a.lo a.hi a.m a.r a.mask;have s2:=EL b.lo b.hi b.m b.r b.mask;have g1:=Ll (ia a.lo a.hi a.m) (ia b.lo b.hi b.m) hs.1 hs.2;have ab:=Z' (a.lo - b.lo) ⟨af,af⟩;have hab:0<=qj (a.lo - b.lo):=by unfold qj;split<;>omega
 have g2:=Ll (qK (ia a.lo a.hi a.m) (ia b.lo b.hi b.m)) (qj (a.lo - b.lo)) (SR _ _) hab;have hgn:=SR (qK (ia a.lo a.hi a.m) (ia b.lo b.hi b.m)) (qj (a.lo - b.lo));unfold fR;rw[hg];generalize qK (qK (ia a.lo a.hi a.m) (ia b.lo b.hi b.m)) (qj (a.lo - b.lo))=M at*;generalize qK (ia a.lo a.hi a.m) (ia b.lo b.hi b.m)=M1 at*;generalize qj (a.lo - b.lo)=D at*;generalize ia a.lo a.hi a.m=S1 at*;generalize ia b.lo b.hi b.m=S2 at*;have l1: -(2^20)<(if b.lo<a.lo then b.lo else a.lo):=iT
 have l2:(if b.hi>a.hi then b.hi else a.hi)<2^20:=iT
 have l3:(if b.lo<a.lo then b.lo else a.lo)<=(if b.hi>a.hi then b.hi else a.hi):=by split<;>split<;>omega
 have l4:M=0->(if b.lo<a.lo then b.lo else a.lo)=(if b.hi>a.hi then b.hi else a.hi):=λh=>by have:=hg0 h;split<;>split<;>omega
 have cb:=S' (if b.lo<a.lo then b.lo else a.lo) (if b.hi>a.hi then b.hi else a.hi) M (iD a.mask b.mask) l1 l3 l2 ⟨hgn,hg2⟩ l4;rw[ZS l3 l1 l2 hgn l4]at cb;have oe:=Bq a.mask b.mask;have k0:=ha.k0;have k1:=ha.k1;have k2:=hb.k0;have k3:=hb.k1;have od:=or8 k0 k1 k2 k3;generalize m7 (if b.lo<a.lo then b.lo else a.lo) (if b.hi>a.hi then b.hi else a.hi) M (iD a.mask b.mask)=R at cb ⊢;refine fo Tryz.func67 ?_;exact aW
def GV(x y:Nat):Nat.gcd x y<=x+y:=by rcases AX x with h|h;subst h;rw[Nat.gcd_zero_left];omega;have:=Nat.gcd_le_left y h;omega
def yj(a:Av):ia a.lo a.hi a.m=aD a:=by unfold ia aD;by_cases h:a.lo=a.hi;rw[aq h,aq gI];rw[ah h,ah gI]
def Om(x:Int):qj x=(x.natAbs:Nat):=by unfold qj;split<;>omega
def CJ(a b:Av)(ha:aU a)(hb:aU b)(a1: -(2^19)<a.lo)(a2:a.hi<2^19)(b1: -(2^19)<b.lo)(b2:b.hi<2^19):C 67 [ai a,ai b] (ai (fR a b)):=by
 have am:=ha.m;have bm:=hb.m;have al:=ha.le;have bl:=hb.le;have amy:=ha.many;have bmy:=hb.many;have s1:0<=aD a∧aD a<=2^20∧(aD a=0->a.lo=a.hi):=by unfold aD;split<;>omega
 have s2:0<=aD b∧aD b<=2^20∧(aD b=0->b.lo=b.hi):=by unfold aD;split<;>omega
 have hg:((dK (aD a) [aD b,(a.lo - b.lo).natAbs]:Nat):Int)=qK (qK (ia a.lo a.hi a.m) (ia b.lo b.hi b.m)) (qj (a.lo - b.lo)):=by
  rw[yj,yj,Om];unfold dK qK;simp only[ta,List.foldl_nil,lQ,Int.natAbs_natCast];have e1:(aD a).natAbs=(aD a).toNat:=af
  have e2:(aD b).natAbs=(aD b).toNat:=af
  rw[e1,e2]
 have hv:qK (qK (ia a.lo a.hi a.m) (ia b.lo b.hi b.m)) (qj (a.lo - b.lo))=(Nat.gcd (Nat.gcd (aD a).toNat (aD b).toNat) (a.lo - b.lo).natAbs:Nat):=by rw[yj,yj,Om];unfold qK;simp only[lQ]
 have q1:=GV (Nat.gcd (aD a).toNat (aD b).toNat) (a.lo - b.lo).natAbs;have q2:=GV (aD a).toNat (aD b).toNat;refine Yv a b ha hb a1 a2 b1 b2 hg ?_ ?_ ?_;rw[yj,yj];exact⟨s1.1,s2.1⟩;rw[hv];omega;rw[hv];intro h;have h0:Nat.gcd (Nat.gcd (aD a).toNat (aD b).toNat) (a.lo - b.lo).natAbs=0:=af
 have h1:=Ka.1 h0;have h2:=Ka.1 h1.1;have h3:=s1.2.2 af;have h4:=s2.2.2 af;omega
abbrev Mp(β:Type):=List (Option (Int×β))
section
variable{β:Type}{enc:β->au}
def sE(enc:β->au):Option (Int×β)->au|some (k,v)=> .me (.int .i64 k) (enc v)|none=> .md
def Uh(n:Int):Mp β->Nat->Option Nat
 |[],_=>none|some (k,_)::r,i=>match n==k with|true=>some i|false=>Uh n r (i+1)
 |none::r,i=>Uh n r (i+1)
def wO(n:Int):Mp β->Option β
 |[]=>none|some (k,v)::r=>match n==k with|true=>some v|false=>wO n r
 |none::r=>wO n r
def Qj(n:Int)(v:β)(es:Mp β):Mp β:=match Uh n es 0 with|some i=>es.set i (some (n,v))|none=>es++[some (n,v)]
theorem yq(enc:β->au)(n:Int):∀(es:Mp β) (i:Nat),tV .i64 n (es.map (sE enc)) i=some (Uh n es i)|[],_=>rfl|some (k,v)::r,i=>by simp only[n_,sE,tV,Uh,BF];cases n==k;exact yq enc n r (i+1);rfl|none::r,i=>by simp only[n_,sE,tV,Uh];exact yq enc n r (i+1)
theorem Gm{n:Int}:∀{es:Mp β} {i:Nat},Uh n es i=none->wO n es=none
 |[],_,_=>rfl|some (k,v)::r,i,h=>by simp only[Uh]at h;simp only[wO];cases hb:n==k with|true=>rw[hb]at h;cases h|false=>rw[hb]at h;exact Gm h
 |none::r,i,h=>Gm (es:=r) (i:=i+1) h
theorem Gl{n:Int}:∀{es:Mp β} {i j:Nat},Uh n es i=some j->∃l v r,es=l++some (n,v)::r∧j=i+l.length∧wO n l=none∧wO n es=some v
 |[],_,_,h=>jl
 |some (k,v)::r,i,j,h=>by
  simp only[Uh]at h;cases hb:n==k with
  |true=>
   rw[hb]at h;cases h;have e:n=k:=AA
   subst e;exact⟨[],v,r,rfl,ag,rfl,by simp only[wO,hb]⟩
  |false=>rw[hb]at h;obtain⟨l,v',r',h1,h2,h3,h4⟩:=Gl (es:=r) h;exact⟨some (k,v)::l,v',r',Ap,by rw[h2,eJ];omega,by simp only[wO,hb];exact h3,by simp only[wO,hb];exact h4⟩
 |none::r,i,j,h=>by obtain⟨l,v',r',h1,h2,h3,h4⟩:=Gl (es:=r) (i:=i+1) h;exact⟨none::l,v',r',Ap,by rw[h2,eJ];omega,h3,h4⟩
def Yk(enc:β->au)(n:Int)(v:β)(es:Mp β):(Qj n v es).map (sE enc)=match Uh n es 0 with|some i=>(es.map (sE enc)).set i (.me (.int .i64 n) (enc v))|none=>es.map (sE enc)++[.me (.int .i64 n) (enc v)]:=by unfold Qj;cases Uh n es 0 with|none=>simp[sE]|some i=>simp[jL,sE]
end
abbrev oC(es:Mp Bool):Row:=⟨0,true,es.map (sE bo)⟩
def AS:=@List.take_length
def V_{G:Prop}(h:G:=by have h1:=hro.lo;have h2:=hro.le;have h3:=hro.hi;exact bu):G:=h
def Pm{G:Prop}(h:G:=by rw[ug _ _ _ _ _ hk1];exact hap):G:=h
def Vj{G:Prop}(h:G:=by have pM:=aL (λs:Us=>some (ai s.1)) e.symm;have Hx:=aL (λs:Us=>some (oC s.2)) e.symm;exact tM hk1):G:=h
def Vw{G:Prop}(h:G:=by refine run ?_;have pM:=aL (λs:Us=>some (ai s.1)) e.symm;have Hx:=(aL (λx=>some (Row.mk 0 true x)) e2.symm).trans (aL (λs:Us=>some (oC s.2)) e.symm);exact tM hk1):G:=h
def Aj{G:Prop}(h:G:=by refine run ?_;refine a_.map hk1 rfl ?_;refine run ?_;exact Vj):G:=h
structure HR(r:Ru):Prop where
 lo: -2147483648<=r.lo
 le:r.lo<=r.hi
 hi:r.hi<=2147483647
abbrev Us:=Av×Mp Bool
def sb(op:Int)(x y:Av)(s:Us)(r:Ru):Us:=
 if r.op≠op∨x.lo<r.alo∨x.hi>r.ahi∨y.lo<r.blo∨y.hi>r.bhi then s else match kY s.1 (jj ⟨r.lo,r.hi,255⟩)with
  |some m=>if m=s.1 then s else(m,Qj r.id true s.2)
  |none=>s
def pJ(op:Int)(x y:Av)(s:Us)(l:List Ru):Us:=l.foldl (sb op x y) s
def ug(op:Int)(x y:Av)(s:Us)(l:List Ru){k:Nat}(h:k<l.length):pJ op x y s (l.take (k+1))=sb op x y (pJ op x y s (l.take k)) l[k]:=by unfold pJ;rw[jd h,zc];rfl
def in_ok{r:Ru}(h:HR r):aU (jj ⟨r.lo,r.hi,255⟩):=by have h1:=h.lo;have h2:=h.le;have h3:=h.hi;show aU (m7 r.lo r.hi 1 255);exact(kL af af af af af af af).1
def Z5{op:Int}{x y:Av}{s:Us}{r:Ru}(h:aU s.1)(hr:HR r):aU (sb op x y s r).1:=by unfold sb;split;exact h;split;rename_i m hm;split;exact h;exact EU h (in_ok hr) hm;exact h
theorem QS{op:Int}{x y:Av}:∀{l:List Ru} {s:Us},aU s.1->(∀r∈l,HR r)->aU (pJ op x y s l).1|[],_,h,_=>h|r::l,s,h,hl=>QS (l:=l) (s:=sb op x y s r) (Z5 h (hl r ag)) (λq hq=>hl q (by simp[hq]))
theorem apply_c(rules:List Ru)(hl:rules.length<=2^30)(hr:∀r∈rules,HR r)(op:Int)(x y z:Av)(hz:aU z)(u:Mp Bool):aj Tryz.prog 451 [.dR 1000,fj 10 gM rules,it op,ai x,ai y,ai z] ⟨[],[oC u]⟩ (ai (pJ op x y (z,u) rules).1) ⟨[],[oC (pJ op x y (z,u) rules).2]⟩:=by
 refine fo Tryz.func451 ?_;refine run ?_;refine bB.mk ⟨[],aZ.np (rules.length) (λ_=>True) (λk=>⟨[(19,it k)],[(11,ai (pJ op x y (z,u) (rules.take k)).1)],[(1000,oC (pJ op x y (z,u) (rules.take k)).2)]⟩) trivial ?_⟩;intro k hk hJ;by_cases hk1:k<rules.length;have b1:decide ((k:Int)<((rules.map gM).length:Nat))=true:=gw
 have hro:=hr _ (cU hk1);have hso:aU (pJ op x y (z,u) (rules.take k)).1:=QS hz (λr hq=>hr r (pQ hq));have ci:=Lf ⟨rules[k].lo,rules[k].hi,255⟩ V_ V_;have cm:=KX (pJ op x y (z,u) (rules.take k)).1 (jj ⟨rules[k].lo,rules[k].hi,255⟩) hso (in_ok hro);by_cases p0:rules[k].op≠op;have q0:(rules[k].op !=op)=true:=(by simpa using p0);have e:pJ op x y (z,u) (rules.take (k+1))=(pJ op x y (z,u) (rules.take k)):=by rw[ug _ _ _ _ _ hk1];unfold sb;rw[aq (Or.inl p0)]
 exact Aj;have q0:(rules[k].op !=op)=false:=(by simpa using p0);by_cases p1:x.lo<rules[k].alo;have q1:decide (x.lo<rules[k].alo)=true:=tB p1;have e:pJ op x y (z,u) (rules.take (k+1))=(pJ op x y (z,u) (rules.take k)):=by rw[ug _ _ _ _ _ hk1];unfold sb;rw[aq (Or.inr (Or.inl p1))]
 exact Aj;have q1:decide (x.lo<rules[k].alo)=false:=fB p1;by_cases p2:x.hi>rules[k].ahi;have q2:decide (x.hi>rules[k].ahi)=true:=tB p2;have e:pJ op x y (z,u) (rules.take (k+1))=(pJ op x y (z,u) (rules.take k)):=by rw[ug _ _ _ _ _ hk1];unfold sb;rw[aq (Or.inr (Or.inr (Or.inl p2)))]
 exact Aj;have q2:decide (x.hi>rules[k].ahi)=false:=fB p2;by_cases p3:y.lo<rules[k].blo;have q3:decide (y.lo<rules[k].blo)=true:=tB p3;have e:pJ op x y (z,u) (rules.take (k+1))=(pJ op x y (z,u) (rules.take k)):=by rw[ug _ _ _ _ _ hk1];unfold sb;rw[aq (Or.inr (Or.inr (Or.inr (Or.inl p3))))]
 exact Aj;have q3:decide (y.lo<rules[k].blo)=false:=fB p3;by_cases p4:y.hi>rules[k].bhi;have q4:decide (y.hi>rules[k].bhi)=true:=tB p4;have e:pJ op x y (z,u) (rules.take (k+1))=(pJ op x y (z,u) (rules.take k)):=by rw[ug _ _ _ _ _ hk1];unfold sb;rw[aq (Or.inr (Or.inr (Or.inr (Or.inr (p4)))))]
 exact Aj;have q4:decide (y.hi>rules[k].bhi)=false:=fB p4;have hno:¬(rules[k].op≠op∨x.lo<rules[k].alo∨x.hi>rules[k].ahi∨y.lo<rules[k].blo∨y.hi>rules[k].bhi):=λh=>by rcases h with h|h|h|h|h<;>contradiction
 have hap:sb op x y (pJ op x y (z,u) (rules.take k)) rules[k]=match kY (pJ op x y (z,u) (rules.take k)).1 (jj ⟨rules[k].lo,rules[k].hi,255⟩)with
  |some m=>if m=(pJ op x y (z,u) (rules.take k)).1 then(pJ op x y (z,u) (rules.take k))else(m,Qj rules[k].id true (pJ op x y (z,u) (rules.take k)).2)
  |none=>(pJ op x y (z,u) (rules.take k)):=by unfold sb;rw[ah hno]
 refine(Exists.intro _ rfl:∃M,M=kY (pJ op x y (z,u) (rules.take k)).1 (jj ⟨rules[k].lo,rules[k].hi,255⟩)).elim λM hM=> ?_;rw[<-hM]at cm hap;refine(Exists.intro _ rfl:∃J,J=jj ⟨rules[k].lo,rules[k].hi,255⟩).elim λJ hJ=> ?_;rw[<-hJ]at cm ci
 refine(match M,cm,hap with
  |none,cm,hap=> ?_|some m,cm,hap=> ?_)
 dsimp only at hap;have cm' :C 364 [ai (pJ op x y (z,u) (rules.take k)).1,ai J] (.bR [ai zA,bo false]):=cm;have e:pJ op x y (z,u) (rules.take (k+1))=(pJ op x y (z,u) (rules.take k)):=Pm
 refine aN ?_;refine a_.map hk1 rfl ?_;refine aN ?_;exact Vj;dsimp only at hap;have cm' :C 364 [ai (pJ op x y (z,u) (rules.take k)).1,ai J] (.bR [ai m,bo true]):=cm;by_cases pe:m=(pJ op x y (z,u) (rules.take k)).1;have q:(!(m.lo==(pJ op x y (z,u) (rules.take k)).1.lo&&(m.hi==(pJ op x y (z,u) (rules.take k)).1.hi&&(m.m==(pJ op x y (z,u) (rules.take k)).1.m&&(m.r==(pJ op x y (z,u) (rules.take k)).1.r&&(m.mask==(pJ op x y (z,u) (rules.take k)).1.mask&&true))))))=false:=aL not ((G6 m _).trans (decide_eq_true pe));rw[aq pe]at hap;have e:pJ op x y (z,u) (rules.take (k+1))=(pJ op x y (z,u) (rules.take k)):=Pm
 refine aN ?_;refine a_.map hk1 rfl ?_;refine aN ?_;exact Vj;have q:(!(m.lo==(pJ op x y (z,u) (rules.take k)).1.lo&&(m.hi==(pJ op x y (z,u) (rules.take k)).1.hi&&(m.m==(pJ op x y (z,u) (rules.take k)).1.m&&(m.r==(pJ op x y (z,u) (rules.take k)).1.r&&(m.mask==(pJ op x y (z,u) (rules.take k)).1.mask&&true))))))=true:=aL not ((G6 m _).trans (decide_eq_false pe));rw[ah pe]at hap;have e:pJ op x y (z,u) (rules.take (k+1))=(m,Qj rules[k].id true (pJ op x y (z,u) (rules.take k)).2):=Pm
 have e2:=Yk bo rules[k].id true (pJ op x y (z,u) (rules.take k)).2;refine(Option.eq_none_or_eq_some (Uh rules[k].id (pJ op x y (z,u) (rules.take k)).2 0)).elim (λhm=> ?_) (λhm=>hm.elim λi hm=> ?_);rw[hm]at e2;dsimp only at e2;refine aN ?_;refine a_.map hk1 rfl ?_;refine aN ?_;refine nY.mk ⟨none,(yq bo _ _ 0).trans (aL some hm),?_⟩;exact Vw;rw[hm]at e2;dsimp only at e2;refine aN ?_;refine a_.map hk1 rfl ?_;refine aN ?_;refine nY.mk ⟨some i,(yq bo _ _ 0).trans (aL some hm),?_⟩;exact Vw;have b1:decide ((k:Int)<((rules.map gM).length:Nat))=false:=aA
 have hkk:k=rules.length:=af
 subst hkk;have e:pJ op x y (z,u) (rules.take rules.length)=pJ op x y (z,u) rules:=by rw[AS]
 refine run ?_;exact fu.mk (aL (λs:Us=>ai s.1) e) (aL (λs:Us=>Ct.mk [] [oC s.2]) e)
def gL(d:Df)(rules:List Ru)(f:Fa):Ex->Mp Bool->Us
 | .mk op n v a,u=>if op<4∨op>10 then(iI d f (.mk op n v a),u)else match a with
   |[x,y]=>pJ op (gL d rules f x u).1 (gL d rules f y (gL d rules f x u).2).1
    (opA op (gL d rules f x u).1 (gL d rules f y (gL d rules f x u).2).1,(gL d rules f y (gL d rules f x u).2).2) rules
   |_=>(zR,u)
def oK(d:Df)(rules:List Ru)(f:Fa)(op n v:Int)(u:Mp Bool)(h:op<4):gL d rules f (.mk op n v []) u=(iI d f (.mk op n v []),u):=by rw[gL,aq (.inl h)]<;>simp
def CU(d:Df)(rules:List Ru)(f:Fa)(op:Int)(x y:Ex)(u:Mp Bool)(h:4<=op∧op<=10):gL d rules f (.mk op 0 0 [x,y]) u=pJ op (gL d rules f x u).1 (gL d rules f y (gL d rules f x u).2).1 (opA op (gL d rules f x u).1 (gL d rules f y (gL d rules f x u).2).1,(gL d rules f y (gL d rules f x u).2).2) rules:=by rw[gL,ah af]
def G4{d:Df}{f:Fa}{rules:List Ru}(hd:yG d)(hf:qO d f)(hr:∀r∈rules,HR r){k:Nat}{e:Ex}{z:Nat}(he:jY d.vars d.aK.length k e z):∀u,aU (gL d rules f e u).1:=by induction he with|num h=>intro u;rw[oK _ _ _ _ _ _ _ af];exact nM hd.LM hf.va (jY.num (vars:=d.vars) (na:=d.aK.length) (k:=0) h)|var h=>intro u;rw[oK _ _ _ _ _ _ _ af];exact nM hd.LM hf.va (jY.var (vars:=d.vars) (na:=d.aK.length) (k:=0) h)|len h=>intro u;rw[oK _ _ _ _ _ _ _ af];exact nM hd.LM hf.va (jY.len (vars:=d.vars) (na:=d.aK.length) (k:=0) h)|bin h _ _ iha ihb=>intro u;rw[CU _ _ _ _ _ _ _ h];exact QS (XH (iha u) (ihb _)) hr
def Lv(d:Df)(f:Fa)(rules:List Ru)(e:Ex)(X:Av)(h:e.op<4)(c:C 423 [bQ d,bg f,cI e] (ai X))(u:Mp Bool):aj Tryz.prog 406 [.dR 1000,bQ d,fj 10 gM rules,bg f,cI e] ⟨[],[oC u]⟩ (ai X) ⟨[],[oC u]⟩:=by have b:=tB h;refine fo Tryz.func406 ?_;exact aW
def evU_bin(d:Df)(f:Fa)(rules:List Ru)(op:Int)(x y:Ex)(h:4<=op∧op<=10)(X Y O Z:Av)(u u1 u2 u3:Mp Bool)(c1:aj Tryz.prog 406 [.dR 1000,bQ d,fj 10 gM rules,bg f,cI x] ⟨[],[oC u]⟩ (ai X) ⟨[],[oC u1]⟩)(c2:aj Tryz.prog 406 [.dR 1000,bQ d,fj 10 gM rules,bg f,cI y] ⟨[],[oC u1]⟩ (ai Y) ⟨[],[oC u2]⟩)(c3:C 452 [it op,ai X,ai Y] (ai O))(c4:aj Tryz.prog 451 [.dR 1000,fj 10 gM rules,it op,ai X,ai Y,ai O] ⟨[],[oC u2]⟩ (ai Z) ⟨[],[oC u3]⟩):aj Tryz.prog 406 [.dR 1000,bQ d,fj 10 gM rules,bg f,.agg [it op,it 0,it 0,.sl 4 [cI x,cI y] false]] ⟨[],[oC u]⟩ (ai Z) ⟨[],[oC u3]⟩:=by
 have b1:decide (op<4)=false:=fB af;have b2:decide (op>10)=false:=fB af;refine fo Tryz.func406 ?_;refine aN ?_;repeat((refine a_.at rfl az rfl ?_);refine run ?_;repeat((apply aE;first|exact c1|exact c2|exact c3|exact c4);refine run ?_))
 exact aG
theorem evalU_c{d:Df}{f:Fa}{rules:List Ru}(hd:yG d)(hf:qO d f)(hl:rules.length<=2^30)(hr:∀r∈rules,HR r){k:Nat}{e:Ex}{z:Nat}(he:jY d.vars d.aK.length k e z):∀u:Mp Bool,aj Tryz.prog 406 [.dR 1000,bQ d,fj 10 gM rules,bg f,cI e] ⟨[],[oC u]⟩ (ai (gL d rules f e u).1) ⟨[],[oC (gL d rules f e u).2]⟩:=by
 induction he with
 |num h=>intro u;rw[oK _ _ _ _ _ _ _ af];exact Lv d f rules _ _ (by show(1:Int)<4;omega) (BU hd hf (jY.num (k:=0) h)) u|var h=>intro u;rw[oK _ _ _ _ _ _ _ af];exact Lv d f rules _ _ (by show(2:Int)<4;omega) (BU hd hf (jY.var (k:=0) h)) u|len h=>intro u;rw[oK _ _ _ _ _ _ _ af];exact Lv d f rules _ _ (by show(3:Int)<4;omega) (BU hd hf (jY.len (k:=0) h)) u
 | @bin k op a b x y h ha hb iha ihb=>
   intro u
   have oa:=G4 (rules:=rules) hd hf hr ha u
   have ob:=G4 (rules:=rules) hd hf hr hb (gL d rules f a u).2
   rw[CU _ _ _ _ _ _ _ h]
   have eE:cI (.mk op 0 0 [a,b])= .agg [it op,it 0,it 0,.sl 4 [cI a,cI b] false]:=by unfold cI cE;simp[jz,Sr,cE,cI,Ex.op,Ex.n,Ex.v,Ex.a]
   rw[eE]
   exact evU_bin d f rules op a b h _ _ _ _ u _ _ _ (iha u) (ihb _) (opA_c op _ _ h oa ob) (apply_c rules hl hr op _ _ _ (XH oa ob) _)
end Abs
