/- A part of a proof: an abstract machine, proved sound, or contracts of functions. No condition. -/
import Derived.Test.YtakobiabkfeelaaGreatT10
set_option linter.unusedVariables false
set_option linter.unusedSimpArgs false
set_option linter.defProp false
set_option maxRecDepth 100000
set_option maxHeartbeats 4000000
namespace Abs
open Go Go.Proofs Tryz
variable{G:Prop}
def MJ:=@Nat.zero_lt_succ
def aax(h:G:=by let part:Int:=m.dE a;let gs:List pG:=[];let ar:List Ar:=[⟨4,0⟩];exact Zu):=h
def aar(h:G:=by let part:Int:=0;let gs:List pG:=[];let ar:List Ar:=[⟨4,0⟩];exact Zu):=h
def wm(h:G:=by have aep:0<ar.length:=MJ _;have aeo:ar.length<2^40:=tH rfl;exact dcG):=h
def Ko(h:G:=by have aep:0<ar.length:=MJ _;have aeo:ar.length<2^40:=tH rfl;exact dcF):=h
def Zu(h:G:=by have aep:0<ar.length:=MJ _;have aeo:ar.length<2^40:=tH rfl;exact dcT):=h
def xQ(h:G:=by simp only[Mk.dG];omega):=h
def EH(h:G:=by rw[dn];exact pl):=h
def Uf(h:G:=by refine⟨⟨⟨v - 1,k+1,acc++[bc (m.rng (a+1+1+1+1+1+k))]⟩,by exact bu,by exact bu,by rw[w3];simp[Mk.params]⟩,by exact bu,?_⟩;exact vQ):=h
def cq:Dc:=⟨[⟨0,20,1⟩,⟨-5,5,0⟩],[⟨0,9,1⟩,⟨0,100,2⟩],[⟨2,⟨0,15,1⟩⟩],[0,1,3],3,3,2⟩
def D':aj prog 40 [] fV (.agg (cDc cq)) fV:=by refine fo func40 ?_;exact bz
def l_(d:Df):Hd:=⟨d.id,d.xj,d.part,d.params,d.given⟩
def FY(d:Df):aj prog 41 [bR d] fV (oY (l_ d)) fV:=by refine fo func41 ?_;exact bz
def Ou(m:Mk)(nm:Nat)(a s l p d:Nat)(n:Nat):au:= .agg ([Y2 m.L,it a]++(cDc m.d++([.ref 1000 (m.aF.map oY).length,.ref 1001 (m.defs.map bR).length,.ref 1002 (m.th.map it).length]++([it m.D.id,it m.D.site,.str m.D.name,it m.D.xj,it m.D.part,.ref nm n,fj 3 bc m.D.given,it m.D.vars,it m.D.refs,fj 2 kO m.D.aK,it m.D.mf,fj 20 encS m.D.body]++[it s,it l,it p,it d,bo m.calm]))))
def ctR(m:Mk)(a s l p d:Nat)(ps:List au):Ct:=⟨[Ou m 1003 a s l p d ps.length],[⟨5,true,m.aF.map oY⟩,⟨12,true,m.defs.map bR⟩,⟨1,true,m.th.map it⟩,⟨3,true,ps⟩]⟩
def ad3(m:Mk)(ps:List au)(a s l p d:Nat)(n:Int)(h:a<2^60)(hn:0<n):aj prog 170 [mp,it n] (ctR m a s l p d ps) (it (m.nx a n)) (ctR m (a+1) s l p d ps):=by
 by_cases hl:a<m.L.length;have hb:decide ((a:Int)+1>((m.L.map λb=>au.int .u8 b.toNat).length:Nat))=false:=az
 have hu:=Bd (m.L[a]);refine fo func170 ?_;refine run ?_;refine bt.ani a E E rfl ?_;refine run ?_;refine fP.mk (aL it ?_) rfl;simp[Mk.nx,List.getD,hl];have hb:decide ((a:Int)+1>((m.L.map λb=>au.int .u8 b.toNat).length:Nat))=true:=az
 refine fo func170 ?_;refine run ?_;refine fP.mk (aL it ?_) rfl;simp[Mk.nx,List.getD,hl]
def aoq(m:Mk)(nm:Nat)(a s l p d:Nat)(n:Nat):au:= .agg ([Y2 m.L,it a]++(cDc m.d++([.ref 1000 (m.aF.map oY).length,.ref 1001 (m.defs.map bR).length,.ref 1002 (m.th.map it).length]++([it m.D.id,it m.D.site,.str m.D.name,it m.D.xj,it m.D.part,fj 3 bc m.D.params,fj 3 bc m.D.given,it m.D.vars,it m.D.refs,.ref nm n,it m.D.mf,fj 20 encS m.D.body]++[it s,it l,it p,it d,bo m.calm]))))
def ctA(m:Mk)(a s l p d:Nat)(ps:List au):Ct:=⟨[aoq m 1003 a s l p d ps.length],[⟨5,true,m.aF.map oY⟩,⟨12,true,m.defs.map bR⟩,⟨1,true,m.th.map it⟩,⟨2,true,ps⟩]⟩
def ad4(m:Mk)(ps:List au)(a s l p d:Nat)(n:Int)(h:a<2^60)(hn:0<n):aj prog 170 [mp,it n] (ctA m a s l p d ps) (it (m.nx a n)) (ctA m (a+1) s l p d ps):=by
 by_cases hl:a<m.L.length;have hb:decide ((a:Int)+1>((m.L.map λb=>au.int .u8 b.toNat).length:Nat))=false:=az
 have hu:=Bd (m.L[a]);refine fo func170 ?_;refine run ?_;refine bt.ani a E E rfl ?_;refine run ?_;refine fP.mk (aL it ?_) rfl;simp[Mk.nx,List.getD,hl];have hb:decide ((a:Int)+1>((m.L.map λb=>au.int .u8 b.toNat).length:Nat))=true:=az
 refine fo func170 ?_;refine run ?_;refine fP.mk (aL it ?_) rfl;simp[Mk.nx,List.getD,hl]
def XN:List pG:=[⟨0,3,0⟩,⟨-2,5,1⟩,⟨0,9,3⟩,⟨2,2,0⟩]
def Mk.rng(m:Mk)(a:Nat):pG:=XN.getD (m.nx a 4).toNat ⟨0,0,0⟩
def Mk.Nw(m:Mk)(a:Nat):XN[(m.nx a 4).toNat]? =some (m.rng a):=by
 have h:=m.bT a (n:=4) E;have h2:(m.nx a 4).toNat<XN.length:=by simp[XN];omega
 simp[Mk.rng,List.getD,h2]
def Mk.params(m:Mk)(a:Nat):Nat->List pG|0=>[]|i+1=>m.params a i++[m.rng (a+i)]
theorem Mk.jr(m:Mk)(a:Nat):∀i,(m.params a i).length=i|0=>rfl|i+1=>by simp only[Mk.params,fx,m.jr a i];rfl
def Cs:List Int:=[400,60,20,2000]
def Mk.mf(m:Mk)(a:Nat):Int:=Cs.getD (m.nx a 4).toNat 0
def Mk.yL(m:Mk)(a:Nat):Cs[(m.nx a 4).toNat]? =some (m.mf a):=by
 have h:=m.bT a (n:=4) E;have h2:(m.nx a 4).toNat<Cs.length:=by simp[Cs];omega
 simp[Mk.mf,List.getD,h2]
def letters:List UInt8:=[97,98,99,100,101,102,103,104]
def nameOf(id:Int):List UInt8:=cut letters (some (id.tmod 8)) (some (id.tmod 8+1))
def Mk.bU(m:Mk)(D:Df):Mk:=⟨m.L,m.d,m.aF,m.defs,m.th,D,m.calm⟩
def DW(m:Mk)(D:Df)(ps:List au)(a s l p d:Nat)(n:Int)(h:a<2^60)(hn:0<n):aj prog 170 [mp,it n] (ctR (m.bU D) a s l p d ps) (it (m.nx a n)) (ctR (m.bU D) (a+1) s l p d ps):=ad3 (m.bU D) ps a s l p d n h hn
def ad5(m:Mk)(D:Df)(ps:List au)(a s l p d:Nat)(n:Int)(h:a<2^60)(hn:0<n):aj prog 170 [mp,it n] (ctA (m.bU D) a s l p d ps) (it (m.nx a n)) (ctA (m.bU D) (a+1) s l p d ps):=ad4 (m.bU D) ps a s l p d n h hn
def BT(m:Mk)(D:Df)(a s l p d:Nat)(n:Int)(h:a<2^60)(hn:0<n):aj prog 170 [mp,it n] (kg (m.bU D) a s l p d) (it (m.nx a n)) (kg (m.bU D) (a+1) s l p d):=bB (m.bU D) a s l p d n h hn
def Oa:Nat->List Ad|1=>[.cell 1000 17 32,.aS 1000 18,.aS 1000 21,.aS 1000 23]|10=>[.aS 1000 17]|12=>[.aS 1000 18]|17=>[.aS 1000 21]|_=>[]
structure PR where
 v:Int
 k:Nat
 acc:List au
def Mk.dG(m:Mk)(id:Int)(a:Nat)(part:Int)(ps gs:List pG)(vars refs:Int)(ar:List Ar)(body:List Sm)(site:Int):Df:=⟨id,site,nameOf id,m.nx a 2,part,ps,gs,vars,refs,ar,m.mf (a+1+1),body⟩
def Mk.dE(m:Mk)(a:Nat):Int:=(IntKind.i64.wrap ((m.nx (a+1) 6).tdiv 2)).tmod 3
def di:pG:=⟨-10,10,1⟩
structure Mk.Core(m:Mk):Prop where
 calm:m.calm=false
 aF:∀h∈m.aF,h.params.length<=12∧h.given.length<=12
 nh:m.aF.length<2^30
def Mk.CW{m:Mk}(h:m.Core){D:Df}(h1:(D.params.length:Int)<D.vars)(h2:D.vars<2^40)(h3:0<D.aK.length)(h4:D.aK.length<2^40):(m.bU D).Q8:=⟨⟨by rw[Mk.Wu];exact⟨h1,h2,by show(D.params.length:Int)<_;omega⟩,by rw[Mk.al3];exact⟨by show(0:Int)<(D.aK.length:Int);omega,by show(D.aK.length:Int)<_;omega⟩⟩,h.calm,h.aF,h.nh⟩
def lY(m:Mk)(D:Df)(a s l p d:Nat):Ct:=kg ⟨m.L,m.d,m.aF++[l_ D],m.defs++[D],m.th,D,m.calm⟩ a s l p d
def HW(m:Mk)(D:Df)(a s l p d:Nat):lY m D a s l p d=⟨[.agg ([Y2 m.L,it a]++(cDc m.d++([.ref 1000 (m.aF.map oY++[oY (l_ D)]).length,.ref 1001 (m.defs.map bR++[bR D]).length,.ref 1002 (m.th.map it).length]++(cD D++[it s,it l,it p,it d,bo m.calm]))))],[⟨5,true,m.aF.map oY++[oY (l_ D)]⟩,⟨12,true,m.defs.map bR++[bR D]⟩,⟨1,true,m.th.map it⟩]⟩:=by simp[lY,kg,QB]
def Mk.dh(m:Mk)(id:Int)(a s:Nat)(part:Int)(c:Nat)(gs:List pG)(b2:Nat)(ar:List Ar):Df×Ms:=
 (m.dG id a part (m.params (a+1+1+1+1+1) c) gs ((((m.params (a+1+1+1+1+1) c).map bc).length:Nat)+2+m.nx ((a+1+1+1+1+1+c)+1) 2) 2 ar
  ((m.bU (m.dG id a part (m.params (a+1+1+1+1+1) c) gs ((((m.params (a+1+1+1+1+1) c).map bc).length:Nat)+2+m.nx ((a+1+1+1+1+1+c)+1) 2) 2 ar [] 0)).stmts 2 (1+m.nx b2 5).toNat ⟨b2+1,s,9,0⟩).1
  (((m.bU (m.dG id a part (m.params (a+1+1+1+1+1) c) gs ((((m.params (a+1+1+1+1+1) c).map bc).length:Nat)+2+m.nx ((a+1+1+1+1+1+c)+1) 2) 2 ar [] 0)).stmts 2 (1+m.nx b2 5).toNat ⟨b2+1,s,9,0⟩).2.s+1:Nat),((m.bU (m.dG id a part (m.params (a+1+1+1+1+1) c) gs ((((m.params (a+1+1+1+1+1) c).map bc).length:Nat)+2+m.nx ((a+1+1+1+1+1+c)+1) 2) 2 ar [] 0)).stmts 2 (1+m.nx b2 5).toNat ⟨b2+1,s,9,0⟩).2)
def dcT{G:Prop}(x:G:=by
 show aj prog 171 [mp,it id,bo true] (kg m a s l p d) (.bS []) (lY m (m.dG id a part (m.params (a+1+1+1+1+1) 0) gs (((((m.params (a+1+1+1+1+1) 0).map bc).length:Nat):Int)+2+m.nx ((a+1+1+1+1+1+0)+1) 2) 2 ar ((m.bU (m.dG id a part (m.params (a+1+1+1+1+1) 0) gs (((((m.params (a+1+1+1+1+1) 0).map bc).length:Nat):Int)+2+m.nx ((a+1+1+1+1+1+0)+1) 2) 2 ar [] 0)).stmts 2 (1+m.nx ((a+1+1+1+1+1+0)+1+1) 5).toNat ⟨((a+1+1+1+1+1+0)+1+1)+1,s,9,0⟩).1 (((m.bU (m.dG id a part (m.params (a+1+1+1+1+1) 0) gs (((((m.params (a+1+1+1+1+1) 0).map bc).length:Nat):Int)+2+m.nx ((a+1+1+1+1+1+0)+1) 2) 2 ar [] 0)).stmts 2 (1+m.nx ((a+1+1+1+1+1+0)+1+1) 5).toNat ⟨((a+1+1+1+1+1+0)+1+1)+1,s,9,0⟩).2.s+1:Nat)) ((m.bU (m.dG id a part (m.params (a+1+1+1+1+1) 0) gs (((((m.params (a+1+1+1+1+1) 0).map bc).length:Nat):Int)+2+m.nx ((a+1+1+1+1+1+0)+1) 2) 2 ar [] 0)).stmts 2 (1+m.nx ((a+1+1+1+1+1+0)+1+1) 5).toNat ⟨((a+1+1+1+1+1+0)+1+1)+1,s,9,0⟩).2.a (((m.bU (m.dG id a part (m.params (a+1+1+1+1+1) 0) gs (((((m.params (a+1+1+1+1+1) 0).map bc).length:Nat):Int)+2+m.nx ((a+1+1+1+1+1+0)+1) 2) 2 ar [] 0)).stmts 2 (1+m.nx ((a+1+1+1+1+1+0)+1+1) 5).toNat ⟨((a+1+1+1+1+1+0)+1+1)+1,s,9,0⟩).2.s+1) ((m.bU (m.dG id a part (m.params (a+1+1+1+1+1) 0) gs (((((m.params (a+1+1+1+1+1) 0).map bc).length:Nat):Int)+2+m.nx ((a+1+1+1+1+1+0)+1) 2) 2 ar [] 0)).stmts 2 (1+m.nx ((a+1+1+1+1+1+0)+1+1) 5).toNat ⟨((a+1+1+1+1+1+0)+1+1)+1,s,9,0⟩).2.l p ((m.bU (m.dG id a part (m.params (a+1+1+1+1+1) 0) gs (((((m.params (a+1+1+1+1+1) 0).map bc).length:Nat):Int)+2+m.nx ((a+1+1+1+1+1+0)+1) 2) 2 ar [] 0)).stmts 2 (1+m.nx ((a+1+1+1+1+1+0)+1+1) 5).toNat ⟨((a+1+1+1+1+1+0)+1+1)+1,s,9,0⟩).2.d);have bi:0<=id.tmod 8∧id.tmod 8<8:=⟨dz _ hid.1,fi _ E⟩;have n0:=m.bT a (n:=2) E;have n1:=m.bT (a+1) (n:=6) E;have n2:=m.bT (a+1+1) (n:=4) E;have hcalm:=fine.calm;have bX:=m.bT (a+1+1+1+1) (n:=3) E;have bv:=m.bT ((a+1+1+1+1+1+0)+1) (n:=2) E;have b5:=m.bT ((a+1+1+1+1+1+0)+1+1) (n:=5) E;have pl:(m.params (a+1+1+1+1+1) 0).length=0:=m.jr _ _;have pl2:((m.params (a+1+1+1+1+1) 0).map bc).length=0:=EH
 have aqa:((m.bU (m.dG id a part (m.params (a+1+1+1+1+1) 0) [] 0 0 [] [] 0)).D.params.map bc).length=0:=pl2;have aq9:((m.bU (m.dG id a part (m.params (a+1+1+1+1+1) 0) gs 0 0 [] [] 0)).D.params.map bc).length=0:=pl2;have pl3:decide (((((m.params (a+1+1+1+1+1) 0).map bc).length:Nat):Int)>0)=false:=by rw[pl2];rfl
 have k1:((1+m.nx ((a+1+1+1+1+1+0)+1+1) 5).toNat:Int)=1+m.nx ((a+1+1+1+1+1+0)+1+1) 5:=E
 have D9:(m.bU (m.dG id a part (m.params (a+1+1+1+1+1) 0) gs (((((m.params (a+1+1+1+1+1) 0).map bc).length:Nat):Int)+2+m.nx ((a+1+1+1+1+1+0)+1) 2) 2 ar [] 0)).Q8:=Mk.CW fine xQ xQ aep aeo;have r1:=BB _ D9 (1+m.nx ((a+1+1+1+1+1+0)+1+1) 5).toNat E 2 (((a+1+1+1+1+1+0)+1+1)+1) s 9 p 0 E E E E E E;rw[k1]at r1;have us:=(m.bU (m.dG id a part (m.params (a+1+1+1+1+1) 0) gs (((((m.params (a+1+1+1+1+1) 0).map bc).length:Nat):Int)+2+m.nx ((a+1+1+1+1+1+0)+1) 2) 2 ar [] 0)).lM D9.aF 2 (1+m.nx ((a+1+1+1+1+1+0)+1+1) 5).toNat ⟨((a+1+1+1+1+1+0)+1+1)+1,s,9,0⟩;simp only[jN]at us;rw[HW];generalize hR:(m.bU (m.dG id a part (m.params (a+1+1+1+1+1) 0) gs (((((m.params (a+1+1+1+1+1) 0).map bc).length:Nat):Int)+2+m.nx ((a+1+1+1+1+1+0)+1) 2) 2 ar [] 0)).stmts 2 (1+m.nx ((a+1+1+1+1+1+0)+1+1) 5).toNat ⟨((a+1+1+1+1+1+0)+1+1)+1,s,9,0⟩=rr at r1 us ⊢;have hl1:(m.bU (m.dG id a part (m.params (a+1+1+1+1+1) 0) gs (((((m.params (a+1+1+1+1+1) 0).map bc).length:Nat):Int)+2+m.nx ((a+1+1+1+1+1+0)+1) 2) 2 ar rr.1 0)).defs.length<2^20:=hlen.2;have hl2:(m.bU (m.dG id a part (m.params (a+1+1+1+1+1) 0) gs (((((m.params (a+1+1+1+1+1) 0).map bc).length:Nat):Int)+2+m.nx ((a+1+1+1+1+1+0)+1) 2) 2 ar rr.1 0)).aF.length<2^20:=hlen.1;have hl3:(m.bU (m.dG id a part (m.params (a+1+1+1+1+1) 0) gs ((((m.params (a+1+1+1+1+1) 0).length:Nat):Int)+2+m.nx ((a+1+1+1+1+1+0)+1) 2) 2 ar rr.1 0)).defs.length<2^20:=hlen.2;have hl4:(m.bU (m.dG id a part (m.params (a+1+1+1+1+1) 0) gs ((((m.params (a+1+1+1+1+1) 0).length:Nat):Int)+2+m.nx ((a+1+1+1+1+1+0)+1) 2) 2 ar rr.1 0)).aF.length<2^20:=hlen.1;have hl5:(m.bU (m.dG id a part (m.params (a+1+1+1+1+1) 0) gs ((((m.params (a+1+1+1+1+1) 0).length:Nat):Int)+2+m.nx (a+5+1) 2) 2 ar rr.1 0)).defs.length<2^20:=hlen.2;have hl6:(m.bU (m.dG id a part (m.params (a+1+1+1+1+1) 0) gs ((((m.params (a+1+1+1+1+1) 0).length:Nat):Int)+2+m.nx (a+5+1) 2) 2 ar rr.1 0)).aF.length<2^20:=hlen.1;refine d_ hm func171 (λ_=>false) [] Oa aA ?_;refine run ?_;repeat((apply aE;first|exact(bB m _ _ _ _ _ _ E E));refine run ?_)
 iterate 2 refine bt.SH (f:=it) (m.nx (a+1+1) 4).toNat (m.mf (a+1+1)) E (m.yL (a+1+1)) rfl ?_;refine run ?_
 refine run ?_;repeat((apply aE;first|exact(DW m (m.dG id a (m.dE a) [] [] 0 0 [] [] 0) [] _ _ _ _ _ _ E E)|exact(DW m (m.dG id a part [] [] 0 0 [] [] 0) [] _ _ _ _ _ _ E E));refine run ?_)
 refine bF.mk ⟨[],aY.inv (λr:PR=>r.v=m.nx (a+1+1+1+1) 3 - r.k∧r.k<=0∧r.acc=(m.params (a+1+1+1+1+1) r.k).map bc) (λr=>⟨[(7,it r.v)],[(1000,Ou (m.bU (m.dG id a part [] [] 0 0 [] [] 0)) 32 (a+1+1+1+1+1+r.k) s l p d r.acc.length)],[(32,⟨3,true,r.acc⟩)]⟩) (λr=>0 - r.k) ⟨m.nx (a+1+1+1+1) 3,0,[]⟩ ⟨O,dM _,rfl⟩ ?_ ?_ ?_ ?_ ?_⟩;exact vQ;exact aA;exact aA;exact xJ
 rintro ⟨v,k,acc⟩ ⟨w1,w2,w3⟩
 dsimp only at w1 w2 w3 ⊢;have hb1:k=0:=E
 subst hb1 w3;refine Br.mk (λhb=> ?_) (λhb=> ?_);all_goals
  refine run ?_;repeat((apply aE;first|exact(BT m (m.dG id a part (m.params (a+1+1+1+1+1) 0) [] 0 0 [] [] 0) _ _ _ _ _ _ E E)|exact(BT m (m.dG id a part (m.params (a+1+1+1+1+1) 0) gs 0 0 [] [] 0) _ _ _ _ _ _ E E)|exact(ad5 m (m.dG id a part (m.params (a+1+1+1+1+1) 0) gs (((((m.params (a+1+1+1+1+1) 0).map bc).length:Nat):Int)+2+m.nx ((a+1+1+1+1+1+0)+1) 2) 2 [] [] 0) [kO ⟨4,0⟩] _ _ _ _ _ _ E E)|exact(BT m (m.dG id a part (m.params (a+1+1+1+1+1) 0) gs (((((m.params (a+1+1+1+1+1) 0).map bc).length:Nat):Int)+2+m.nx ((a+1+1+1+1+1+0)+1) 2) 2 ar [] 0) _ _ _ _ _ _ E E)|exact(r1)|exact(dJ (m.bU (m.dG id a part (m.params (a+1+1+1+1+1) 0) gs (((((m.params (a+1+1+1+1+1) 0).map bc).length:Nat):Int)+2+m.nx ((a+1+1+1+1+1+0)+1) 2) 2 ar rr.1 0)) _ _ _ _ _ E)|exact(FY (m.dG id a part (m.params (a+1+1+1+1+1) 0) gs (((((m.params (a+1+1+1+1+1) 0).map bc).length:Nat):Int)+2+m.nx ((a+1+1+1+1+1+0)+1) 2) 2 ar rr.1 (rr.2.s+1:Nat))));refine run ?_)
  exact aG):G:=x
def dcF{G:Prop}(x:G:=by
 show aj prog 171 [mp,it id,bo false] (kg m a s l p d) (.bS []) (lY m (m.dG id a part (m.params (a+1+1+1+1+1) (m.nx (a+1+1+1+1) 3).toNat) gs (((((m.params (a+1+1+1+1+1) (m.nx (a+1+1+1+1) 3).toNat).map bc).length:Nat):Int)+2+m.nx ((a+1+1+1+1+1+(m.nx (a+1+1+1+1) 3).toNat)+1) 2) 2 ar ((m.bU (m.dG id a part (m.params (a+1+1+1+1+1) (m.nx (a+1+1+1+1) 3).toNat) gs (((((m.params (a+1+1+1+1+1) (m.nx (a+1+1+1+1) 3).toNat).map bc).length:Nat):Int)+2+m.nx ((a+1+1+1+1+1+(m.nx (a+1+1+1+1) 3).toNat)+1) 2) 2 ar [] 0)).stmts 2 (1+m.nx ((a+1+1+1+1+1+(m.nx (a+1+1+1+1) 3).toNat)+1+1) 5).toNat ⟨((a+1+1+1+1+1+(m.nx (a+1+1+1+1) 3).toNat)+1+1)+1,s,9,0⟩).1 (((m.bU (m.dG id a part (m.params (a+1+1+1+1+1) (m.nx (a+1+1+1+1) 3).toNat) gs (((((m.params (a+1+1+1+1+1) (m.nx (a+1+1+1+1) 3).toNat).map bc).length:Nat):Int)+2+m.nx ((a+1+1+1+1+1+(m.nx (a+1+1+1+1) 3).toNat)+1) 2) 2 ar [] 0)).stmts 2 (1+m.nx ((a+1+1+1+1+1+(m.nx (a+1+1+1+1) 3).toNat)+1+1) 5).toNat ⟨((a+1+1+1+1+1+(m.nx (a+1+1+1+1) 3).toNat)+1+1)+1,s,9,0⟩).2.s+1:Nat)) ((m.bU (m.dG id a part (m.params (a+1+1+1+1+1) (m.nx (a+1+1+1+1) 3).toNat) gs (((((m.params (a+1+1+1+1+1) (m.nx (a+1+1+1+1) 3).toNat).map bc).length:Nat):Int)+2+m.nx ((a+1+1+1+1+1+(m.nx (a+1+1+1+1) 3).toNat)+1) 2) 2 ar [] 0)).stmts 2 (1+m.nx ((a+1+1+1+1+1+(m.nx (a+1+1+1+1) 3).toNat)+1+1) 5).toNat ⟨((a+1+1+1+1+1+(m.nx (a+1+1+1+1) 3).toNat)+1+1)+1,s,9,0⟩).2.a (((m.bU (m.dG id a part (m.params (a+1+1+1+1+1) (m.nx (a+1+1+1+1) 3).toNat) gs (((((m.params (a+1+1+1+1+1) (m.nx (a+1+1+1+1) 3).toNat).map bc).length:Nat):Int)+2+m.nx ((a+1+1+1+1+1+(m.nx (a+1+1+1+1) 3).toNat)+1) 2) 2 ar [] 0)).stmts 2 (1+m.nx ((a+1+1+1+1+1+(m.nx (a+1+1+1+1) 3).toNat)+1+1) 5).toNat ⟨((a+1+1+1+1+1+(m.nx (a+1+1+1+1) 3).toNat)+1+1)+1,s,9,0⟩).2.s+1) ((m.bU (m.dG id a part (m.params (a+1+1+1+1+1) (m.nx (a+1+1+1+1) 3).toNat) gs (((((m.params (a+1+1+1+1+1) (m.nx (a+1+1+1+1) 3).toNat).map bc).length:Nat):Int)+2+m.nx ((a+1+1+1+1+1+(m.nx (a+1+1+1+1) 3).toNat)+1) 2) 2 ar [] 0)).stmts 2 (1+m.nx ((a+1+1+1+1+1+(m.nx (a+1+1+1+1) 3).toNat)+1+1) 5).toNat ⟨((a+1+1+1+1+1+(m.nx (a+1+1+1+1) 3).toNat)+1+1)+1,s,9,0⟩).2.l p ((m.bU (m.dG id a part (m.params (a+1+1+1+1+1) (m.nx (a+1+1+1+1) 3).toNat) gs (((((m.params (a+1+1+1+1+1) (m.nx (a+1+1+1+1) 3).toNat).map bc).length:Nat):Int)+2+m.nx ((a+1+1+1+1+1+(m.nx (a+1+1+1+1) 3).toNat)+1) 2) 2 ar [] 0)).stmts 2 (1+m.nx ((a+1+1+1+1+1+(m.nx (a+1+1+1+1) 3).toNat)+1+1) 5).toNat ⟨((a+1+1+1+1+1+(m.nx (a+1+1+1+1) 3).toNat)+1+1)+1,s,9,0⟩).2.d);have bi:0<=id.tmod 8∧id.tmod 8<8:=⟨dz _ hid.1,fi _ E⟩;have n0:=m.bT a (n:=2) E;have n1:=m.bT (a+1) (n:=6) E;have n2:=m.bT (a+1+1) (n:=4) E;have hcalm:=fine.calm;have bX:=m.bT (a+1+1+1+1) (n:=3) E;have bv:=m.bT ((a+1+1+1+1+1+(m.nx (a+1+1+1+1) 3).toNat)+1) (n:=2) E;have b5:=m.bT ((a+1+1+1+1+1+(m.nx (a+1+1+1+1) 3).toNat)+1+1) (n:=5) E;have pl:(m.params (a+1+1+1+1+1) (m.nx (a+1+1+1+1) 3).toNat).length=(m.nx (a+1+1+1+1) 3).toNat:=m.jr _ _;have pl2:((m.params (a+1+1+1+1+1) (m.nx (a+1+1+1+1) 3).toNat).map bc).length=(m.nx (a+1+1+1+1) 3).toNat:=EH
 have aqa:((m.bU (m.dG id a part (m.params (a+1+1+1+1+1) (m.nx (a+1+1+1+1) 3).toNat) [] 0 0 [] [] 0)).D.params.map bc).length=(m.nx (a+1+1+1+1) 3).toNat:=pl2;have aq9:((m.bU (m.dG id a part (m.params (a+1+1+1+1+1) (m.nx (a+1+1+1+1) 3).toNat) gs 0 0 [] [] 0)).D.params.map bc).length=(m.nx (a+1+1+1+1) 3).toNat:=pl2;have pl3:decide ((((m.params (a+1+1+1+1+1) (m.nx (a+1+1+1+1) 3).toNat).map bc).length:Nat)>(0:Int))=false:=by rw[pl2,hX];rfl
 have k1:((1+m.nx ((a+1+1+1+1+1+(m.nx (a+1+1+1+1) 3).toNat)+1+1) 5).toNat:Int)=1+m.nx ((a+1+1+1+1+1+(m.nx (a+1+1+1+1) 3).toNat)+1+1) 5:=E
 have D9:(m.bU (m.dG id a part (m.params (a+1+1+1+1+1) (m.nx (a+1+1+1+1) 3).toNat) gs (((((m.params (a+1+1+1+1+1) (m.nx (a+1+1+1+1) 3).toNat).map bc).length:Nat):Int)+2+m.nx ((a+1+1+1+1+1+(m.nx (a+1+1+1+1) 3).toNat)+1) 2) 2 ar [] 0)).Q8:=Mk.CW fine xQ xQ aep aeo;have r1:=BB _ D9 (1+m.nx ((a+1+1+1+1+1+(m.nx (a+1+1+1+1) 3).toNat)+1+1) 5).toNat E 2 (((a+1+1+1+1+1+(m.nx (a+1+1+1+1) 3).toNat)+1+1)+1) s 9 p 0 E E E E E E;rw[k1]at r1;have us:=(m.bU (m.dG id a part (m.params (a+1+1+1+1+1) (m.nx (a+1+1+1+1) 3).toNat) gs (((((m.params (a+1+1+1+1+1) (m.nx (a+1+1+1+1) 3).toNat).map bc).length:Nat):Int)+2+m.nx ((a+1+1+1+1+1+(m.nx (a+1+1+1+1) 3).toNat)+1) 2) 2 ar [] 0)).lM D9.aF 2 (1+m.nx ((a+1+1+1+1+1+(m.nx (a+1+1+1+1) 3).toNat)+1+1) 5).toNat ⟨((a+1+1+1+1+1+(m.nx (a+1+1+1+1) 3).toNat)+1+1)+1,s,9,0⟩;simp only[jN]at us;rw[HW];generalize hR:(m.bU (m.dG id a part (m.params (a+1+1+1+1+1) (m.nx (a+1+1+1+1) 3).toNat) gs (((((m.params (a+1+1+1+1+1) (m.nx (a+1+1+1+1) 3).toNat).map bc).length:Nat):Int)+2+m.nx ((a+1+1+1+1+1+(m.nx (a+1+1+1+1) 3).toNat)+1) 2) 2 ar [] 0)).stmts 2 (1+m.nx ((a+1+1+1+1+1+(m.nx (a+1+1+1+1) 3).toNat)+1+1) 5).toNat ⟨((a+1+1+1+1+1+(m.nx (a+1+1+1+1) 3).toNat)+1+1)+1,s,9,0⟩=rr at r1 us ⊢;have hl1:(m.bU (m.dG id a part (m.params (a+1+1+1+1+1) (m.nx (a+1+1+1+1) 3).toNat) gs (((((m.params (a+1+1+1+1+1) (m.nx (a+1+1+1+1) 3).toNat).map bc).length:Nat):Int)+2+m.nx ((a+1+1+1+1+1+(m.nx (a+1+1+1+1) 3).toNat)+1) 2) 2 ar rr.1 0)).defs.length<2^20:=hlen.2;have hl2:(m.bU (m.dG id a part (m.params (a+1+1+1+1+1) (m.nx (a+1+1+1+1) 3).toNat) gs (((((m.params (a+1+1+1+1+1) (m.nx (a+1+1+1+1) 3).toNat).map bc).length:Nat):Int)+2+m.nx ((a+1+1+1+1+1+(m.nx (a+1+1+1+1) 3).toNat)+1) 2) 2 ar rr.1 0)).aF.length<2^20:=hlen.1;have hl3:(m.bU (m.dG id a part (m.params (a+1+1+1+1+1) (m.nx (a+1+1+1+1) 3).toNat) gs ((((m.params (a+1+1+1+1+1) (m.nx (a+1+1+1+1) 3).toNat).length:Nat):Int)+2+m.nx ((a+1+1+1+1+1+(m.nx (a+1+1+1+1) 3).toNat)+1) 2) 2 ar rr.1 0)).defs.length<2^20:=hlen.2;have hl4:(m.bU (m.dG id a part (m.params (a+1+1+1+1+1) (m.nx (a+1+1+1+1) 3).toNat) gs ((((m.params (a+1+1+1+1+1) (m.nx (a+1+1+1+1) 3).toNat).length:Nat):Int)+2+m.nx ((a+1+1+1+1+1+(m.nx (a+1+1+1+1) 3).toNat)+1) 2) 2 ar rr.1 0)).aF.length<2^20:=hlen.1;refine d_ hm func171 (λ_=>false) [] Oa aA ?_;refine run ?_;repeat((apply aE;first|exact(bB m _ _ _ _ _ _ E E));refine run ?_)
 iterate 2 refine bt.SH (f:=it) (m.nx (a+1+1) 4).toNat (m.mf (a+1+1)) E (m.yL (a+1+1)) rfl ?_;refine run ?_
 refine run ?_;repeat((apply aE;first|exact(DW m (m.dG id a (m.dE a) [] [] 0 0 [] [] 0) [] _ _ _ _ _ _ E E)|exact(DW m (m.dG id a part [] [] 0 0 [] [] 0) [] _ _ _ _ _ _ E E));refine run ?_)
 refine bF.mk ⟨[],aY.inv (λr:PR=>r.v=m.nx (a+1+1+1+1) 3 - r.k∧r.k<=(m.nx (a+1+1+1+1) 3).toNat∧r.acc=(m.params (a+1+1+1+1+1) r.k).map bc) (λr=>⟨[(7,it r.v)],[(1000,Ou (m.bU (m.dG id a part [] [] 0 0 [] [] 0)) 32 (a+1+1+1+1+1+r.k) s l p d r.acc.length)],[(32,⟨3,true,r.acc⟩)]⟩) (λr=>(m.nx (a+1+1+1+1) 3).toNat - r.k) ⟨m.nx (a+1+1+1+1) 3,0,[]⟩ ⟨O,dM _,rfl⟩ ?_ ?_ ?_ ?_ ?_⟩;exact vQ;exact aA;exact aA;exact xJ
 rintro ⟨v,k,acc⟩ ⟨w1,w2,w3⟩
 dsimp only at w1 w2 w3 ⊢;refine Br.mk (λhb=> ?_) (λhb=> ?_)
 ·have hb1:0<v:=by exact qu
  have hl:acc.length=k:=by rw[w3];simp[m.jr]
  have bk:=m.bT (a+1+1+1+1+1+k) (n:=4) E;refine run ?_;repeat((apply aE;first|exact(DW m (m.dG id a part [] [] 0 0 [] [] 0) _ _ _ _ _ _ _ E E));refine run ?_)
  iterate 2 refine bt.SH (f:=bc) (m.nx (a+1+1+1+1+1+k) 4).toNat (m.rng (a+1+1+1+1+1+k)) E (m.Nw _) rfl ?_;refine run ?_
  exact Uf
 ·have hb1:k=(m.nx (a+1+1+1+1) 3).toNat:=by simp at hb;omega
  subst hb1 w3;refine run ?_;repeat((apply aE;first|exact(BT m (m.dG id a part (m.params (a+1+1+1+1+1) (m.nx (a+1+1+1+1) 3).toNat) [] 0 0 [] [] 0) _ _ _ _ _ _ E E)|exact(BT m (m.dG id a part (m.params (a+1+1+1+1+1) (m.nx (a+1+1+1+1) 3).toNat) gs 0 0 [] [] 0) _ _ _ _ _ _ E E)|exact(ad5 m (m.dG id a part (m.params (a+1+1+1+1+1) (m.nx (a+1+1+1+1) 3).toNat) gs (((((m.params (a+1+1+1+1+1) (m.nx (a+1+1+1+1) 3).toNat).map bc).length:Nat):Int)+2+m.nx ((a+1+1+1+1+1+(m.nx (a+1+1+1+1) 3).toNat)+1) 2) 2 [] [] 0) [kO ⟨4,0⟩] _ _ _ _ _ _ E E)|exact(BT m (m.dG id a part (m.params (a+1+1+1+1+1) (m.nx (a+1+1+1+1) 3).toNat) gs (((((m.params (a+1+1+1+1+1) (m.nx (a+1+1+1+1) 3).toNat).map bc).length:Nat):Int)+2+m.nx ((a+1+1+1+1+1+(m.nx (a+1+1+1+1) 3).toNat)+1) 2) 2 ar [] 0) _ _ _ _ _ _ E E)|exact(r1)|exact(dJ (m.bU (m.dG id a part (m.params (a+1+1+1+1+1) (m.nx (a+1+1+1+1) 3).toNat) gs (((((m.params (a+1+1+1+1+1) (m.nx (a+1+1+1+1) 3).toNat).map bc).length:Nat):Int)+2+m.nx ((a+1+1+1+1+1+(m.nx (a+1+1+1+1) 3).toNat)+1) 2) 2 ar rr.1 0)) _ _ _ _ _ E)|exact(FY (m.dG id a part (m.params (a+1+1+1+1+1) (m.nx (a+1+1+1+1) 3).toNat) gs (((((m.params (a+1+1+1+1+1) (m.nx (a+1+1+1+1) 3).toNat).map bc).length:Nat):Int)+2+m.nx ((a+1+1+1+1+1+(m.nx (a+1+1+1+1) 3).toNat)+1) 2) 2 ar rr.1 (rr.2.s+1:Nat))));refine run ?_)
  exact aG):G:=x
def dcG{G:Prop}(x:G:=by
 show aj prog 171 [mp,it id,bo false] (kg m a s l p d) (.bS []) (lY m (m.dG id a part (m.params (a+1+1+1+1+1) (m.nx (a+1+1+1+1) 3).toNat) gs (((((m.params (a+1+1+1+1+1) (m.nx (a+1+1+1+1) 3).toNat).map bc).length:Nat):Int)+2+m.nx ((a+1+1+1+1+1+(m.nx (a+1+1+1+1) 3).toNat)+1) 2) 2 ar ((m.bU (m.dG id a part (m.params (a+1+1+1+1+1) (m.nx (a+1+1+1+1) 3).toNat) gs (((((m.params (a+1+1+1+1+1) (m.nx (a+1+1+1+1) 3).toNat).map bc).length:Nat):Int)+2+m.nx ((a+1+1+1+1+1+(m.nx (a+1+1+1+1) 3).toNat)+1) 2) 2 ar [] 0)).stmts 2 (1+m.nx ((a+1+1+1+1+1+(m.nx (a+1+1+1+1) 3).toNat)+1+1+1) 5).toNat ⟨((a+1+1+1+1+1+(m.nx (a+1+1+1+1) 3).toNat)+1+1+1)+1,s,9,0⟩).1 (((m.bU (m.dG id a part (m.params (a+1+1+1+1+1) (m.nx (a+1+1+1+1) 3).toNat) gs (((((m.params (a+1+1+1+1+1) (m.nx (a+1+1+1+1) 3).toNat).map bc).length:Nat):Int)+2+m.nx ((a+1+1+1+1+1+(m.nx (a+1+1+1+1) 3).toNat)+1) 2) 2 ar [] 0)).stmts 2 (1+m.nx ((a+1+1+1+1+1+(m.nx (a+1+1+1+1) 3).toNat)+1+1+1) 5).toNat ⟨((a+1+1+1+1+1+(m.nx (a+1+1+1+1) 3).toNat)+1+1+1)+1,s,9,0⟩).2.s+1:Nat)) ((m.bU (m.dG id a part (m.params (a+1+1+1+1+1) (m.nx (a+1+1+1+1) 3).toNat) gs (((((m.params (a+1+1+1+1+1) (m.nx (a+1+1+1+1) 3).toNat).map bc).length:Nat):Int)+2+m.nx ((a+1+1+1+1+1+(m.nx (a+1+1+1+1) 3).toNat)+1) 2) 2 ar [] 0)).stmts 2 (1+m.nx ((a+1+1+1+1+1+(m.nx (a+1+1+1+1) 3).toNat)+1+1+1) 5).toNat ⟨((a+1+1+1+1+1+(m.nx (a+1+1+1+1) 3).toNat)+1+1+1)+1,s,9,0⟩).2.a (((m.bU (m.dG id a part (m.params (a+1+1+1+1+1) (m.nx (a+1+1+1+1) 3).toNat) gs (((((m.params (a+1+1+1+1+1) (m.nx (a+1+1+1+1) 3).toNat).map bc).length:Nat):Int)+2+m.nx ((a+1+1+1+1+1+(m.nx (a+1+1+1+1) 3).toNat)+1) 2) 2 ar [] 0)).stmts 2 (1+m.nx ((a+1+1+1+1+1+(m.nx (a+1+1+1+1) 3).toNat)+1+1+1) 5).toNat ⟨((a+1+1+1+1+1+(m.nx (a+1+1+1+1) 3).toNat)+1+1+1)+1,s,9,0⟩).2.s+1) ((m.bU (m.dG id a part (m.params (a+1+1+1+1+1) (m.nx (a+1+1+1+1) 3).toNat) gs (((((m.params (a+1+1+1+1+1) (m.nx (a+1+1+1+1) 3).toNat).map bc).length:Nat):Int)+2+m.nx ((a+1+1+1+1+1+(m.nx (a+1+1+1+1) 3).toNat)+1) 2) 2 ar [] 0)).stmts 2 (1+m.nx ((a+1+1+1+1+1+(m.nx (a+1+1+1+1) 3).toNat)+1+1+1) 5).toNat ⟨((a+1+1+1+1+1+(m.nx (a+1+1+1+1) 3).toNat)+1+1+1)+1,s,9,0⟩).2.l p ((m.bU (m.dG id a part (m.params (a+1+1+1+1+1) (m.nx (a+1+1+1+1) 3).toNat) gs (((((m.params (a+1+1+1+1+1) (m.nx (a+1+1+1+1) 3).toNat).map bc).length:Nat):Int)+2+m.nx ((a+1+1+1+1+1+(m.nx (a+1+1+1+1) 3).toNat)+1) 2) 2 ar [] 0)).stmts 2 (1+m.nx ((a+1+1+1+1+1+(m.nx (a+1+1+1+1) 3).toNat)+1+1+1) 5).toNat ⟨((a+1+1+1+1+1+(m.nx (a+1+1+1+1) 3).toNat)+1+1+1)+1,s,9,0⟩).2.d);have bi:0<=id.tmod 8∧id.tmod 8<8:=⟨dz _ hid.1,fi _ E⟩;have n0:=m.bT a (n:=2) E;have n1:=m.bT (a+1) (n:=6) E;have n2:=m.bT (a+1+1) (n:=4) E;have hcalm:=fine.calm;have bX:=m.bT (a+1+1+1+1) (n:=3) E;have bv:=m.bT ((a+1+1+1+1+1+(m.nx (a+1+1+1+1) 3).toNat)+1) (n:=2) E;have b5:=m.bT ((a+1+1+1+1+1+(m.nx (a+1+1+1+1) 3).toNat)+1+1+1) (n:=5) E;have pl:(m.params (a+1+1+1+1+1) (m.nx (a+1+1+1+1) 3).toNat).length=(m.nx (a+1+1+1+1) 3).toNat:=m.jr _ _;have pl2:((m.params (a+1+1+1+1+1) (m.nx (a+1+1+1+1) 3).toNat).map bc).length=(m.nx (a+1+1+1+1) 3).toNat:=EH
 have aqa:((m.bU (m.dG id a part (m.params (a+1+1+1+1+1) (m.nx (a+1+1+1+1) 3).toNat) [] 0 0 [] [] 0)).D.params.map bc).length=(m.nx (a+1+1+1+1) 3).toNat:=pl2;have aq9:((m.bU (m.dG id a part (m.params (a+1+1+1+1+1) (m.nx (a+1+1+1+1) 3).toNat) gs 0 0 [] [] 0)).D.params.map bc).length=(m.nx (a+1+1+1+1) 3).toNat:=pl2;have pl3:decide (((((m.params (a+1+1+1+1+1) (m.nx (a+1+1+1+1) 3).toNat).map bc).length:Nat):Int)>0)=true:=by rw[pl2];exact az
 have k1:((1+m.nx ((a+1+1+1+1+1+(m.nx (a+1+1+1+1) 3).toNat)+1+1+1) 5).toNat:Int)=1+m.nx ((a+1+1+1+1+1+(m.nx (a+1+1+1+1) 3).toNat)+1+1+1) 5:=E
 have D9:(m.bU (m.dG id a part (m.params (a+1+1+1+1+1) (m.nx (a+1+1+1+1) 3).toNat) gs (((((m.params (a+1+1+1+1+1) (m.nx (a+1+1+1+1) 3).toNat).map bc).length:Nat):Int)+2+m.nx ((a+1+1+1+1+1+(m.nx (a+1+1+1+1) 3).toNat)+1) 2) 2 ar [] 0)).Q8:=Mk.CW fine xQ xQ aep aeo;have r1:=BB _ D9 (1+m.nx ((a+1+1+1+1+1+(m.nx (a+1+1+1+1) 3).toNat)+1+1+1) 5).toNat E 2 (((a+1+1+1+1+1+(m.nx (a+1+1+1+1) 3).toNat)+1+1+1)+1) s 9 p 0 E E E E E E;rw[k1]at r1;have us:=(m.bU (m.dG id a part (m.params (a+1+1+1+1+1) (m.nx (a+1+1+1+1) 3).toNat) gs (((((m.params (a+1+1+1+1+1) (m.nx (a+1+1+1+1) 3).toNat).map bc).length:Nat):Int)+2+m.nx ((a+1+1+1+1+1+(m.nx (a+1+1+1+1) 3).toNat)+1) 2) 2 ar [] 0)).lM D9.aF 2 (1+m.nx ((a+1+1+1+1+1+(m.nx (a+1+1+1+1) 3).toNat)+1+1+1) 5).toNat ⟨((a+1+1+1+1+1+(m.nx (a+1+1+1+1) 3).toNat)+1+1+1)+1,s,9,0⟩;simp only[jN]at us;rw[HW];generalize hR:(m.bU (m.dG id a part (m.params (a+1+1+1+1+1) (m.nx (a+1+1+1+1) 3).toNat) gs (((((m.params (a+1+1+1+1+1) (m.nx (a+1+1+1+1) 3).toNat).map bc).length:Nat):Int)+2+m.nx ((a+1+1+1+1+1+(m.nx (a+1+1+1+1) 3).toNat)+1) 2) 2 ar [] 0)).stmts 2 (1+m.nx ((a+1+1+1+1+1+(m.nx (a+1+1+1+1) 3).toNat)+1+1+1) 5).toNat ⟨((a+1+1+1+1+1+(m.nx (a+1+1+1+1) 3).toNat)+1+1+1)+1,s,9,0⟩=rr at r1 us ⊢;have hl1:(m.bU (m.dG id a part (m.params (a+1+1+1+1+1) (m.nx (a+1+1+1+1) 3).toNat) gs (((((m.params (a+1+1+1+1+1) (m.nx (a+1+1+1+1) 3).toNat).map bc).length:Nat):Int)+2+m.nx ((a+1+1+1+1+1+(m.nx (a+1+1+1+1) 3).toNat)+1) 2) 2 ar rr.1 0)).defs.length<2^20:=hlen.2;have hl2:(m.bU (m.dG id a part (m.params (a+1+1+1+1+1) (m.nx (a+1+1+1+1) 3).toNat) gs (((((m.params (a+1+1+1+1+1) (m.nx (a+1+1+1+1) 3).toNat).map bc).length:Nat):Int)+2+m.nx ((a+1+1+1+1+1+(m.nx (a+1+1+1+1) 3).toNat)+1) 2) 2 ar rr.1 0)).aF.length<2^20:=hlen.1;have hl3:(m.bU (m.dG id a part (m.params (a+1+1+1+1+1) (m.nx (a+1+1+1+1) 3).toNat) gs ((((m.params (a+1+1+1+1+1) (m.nx (a+1+1+1+1) 3).toNat).length:Nat):Int)+2+m.nx ((a+1+1+1+1+1+(m.nx (a+1+1+1+1) 3).toNat)+1) 2) 2 ar rr.1 0)).defs.length<2^20:=hlen.2;have hl4:(m.bU (m.dG id a part (m.params (a+1+1+1+1+1) (m.nx (a+1+1+1+1) 3).toNat) gs ((((m.params (a+1+1+1+1+1) (m.nx (a+1+1+1+1) 3).toNat).length:Nat):Int)+2+m.nx ((a+1+1+1+1+1+(m.nx (a+1+1+1+1) 3).toNat)+1) 2) 2 ar rr.1 0)).aF.length<2^20:=hlen.1;refine d_ hm func171 (λ_=>false) [] Oa aA ?_;refine run ?_;repeat((apply aE;first|exact(bB m _ _ _ _ _ _ E E));refine run ?_)
 iterate 2 refine bt.SH (f:=it) (m.nx (a+1+1) 4).toNat (m.mf (a+1+1)) E (m.yL (a+1+1)) rfl ?_;refine run ?_
 refine run ?_;repeat((apply aE;first|exact(DW m (m.dG id a (m.dE a) [] [] 0 0 [] [] 0) [] _ _ _ _ _ _ E E)|exact(DW m (m.dG id a part [] [] 0 0 [] [] 0) [] _ _ _ _ _ _ E E));refine run ?_)
 refine bF.mk ⟨[],aY.inv (λr:PR=>r.v=m.nx (a+1+1+1+1) 3 - r.k∧r.k<=(m.nx (a+1+1+1+1) 3).toNat∧r.acc=(m.params (a+1+1+1+1+1) r.k).map bc) (λr=>⟨[(7,it r.v)],[(1000,Ou (m.bU (m.dG id a part [] [] 0 0 [] [] 0)) 32 (a+1+1+1+1+1+r.k) s l p d r.acc.length)],[(32,⟨3,true,r.acc⟩)]⟩) (λr=>(m.nx (a+1+1+1+1) 3).toNat - r.k) ⟨m.nx (a+1+1+1+1) 3,0,[]⟩ ⟨O,dM _,rfl⟩ ?_ ?_ ?_ ?_ ?_⟩;exact vQ;exact aA;exact aA;exact xJ
 rintro ⟨v,k,acc⟩ ⟨w1,w2,w3⟩
 dsimp only at w1 w2 w3 ⊢;refine Br.mk (λhb=> ?_) (λhb=> ?_)
 ·have hb1:0<v:=by exact qu
  have hl:acc.length=k:=by rw[w3];simp[m.jr]
  have bk:=m.bT (a+1+1+1+1+1+k) (n:=4) E;refine run ?_;repeat((apply aE;first|exact(DW m (m.dG id a part [] [] 0 0 [] [] 0) _ _ _ _ _ _ _ E E));refine run ?_)
  iterate 2 refine bt.SH (f:=bc) (m.nx (a+1+1+1+1+1+k) 4).toNat (m.rng (a+1+1+1+1+1+k)) E (m.Nw _) rfl ?_;refine run ?_
  exact Uf
 ·have hb1:k=(m.nx (a+1+1+1+1) 3).toNat:=by simp at hb;omega
  subst hb1 w3;refine run ?_;repeat((apply aE;first|exact(BT m (m.dG id a part (m.params (a+1+1+1+1+1) (m.nx (a+1+1+1+1) 3).toNat) [] 0 0 [] [] 0) _ _ _ _ _ _ E E)|exact(BT m (m.dG id a part (m.params (a+1+1+1+1+1) (m.nx (a+1+1+1+1) 3).toNat) gs 0 0 [] [] 0) _ _ _ _ _ _ E E)|exact(ad5 m (m.dG id a part (m.params (a+1+1+1+1+1) (m.nx (a+1+1+1+1) 3).toNat) gs (((((m.params (a+1+1+1+1+1) (m.nx (a+1+1+1+1) 3).toNat).map bc).length:Nat):Int)+2+m.nx ((a+1+1+1+1+1+(m.nx (a+1+1+1+1) 3).toNat)+1) 2) 2 [] [] 0) [kO ⟨4,0⟩] _ _ _ _ _ _ E E)|exact(BT m (m.dG id a part (m.params (a+1+1+1+1+1) (m.nx (a+1+1+1+1) 3).toNat) gs (((((m.params (a+1+1+1+1+1) (m.nx (a+1+1+1+1) 3).toNat).map bc).length:Nat):Int)+2+m.nx ((a+1+1+1+1+1+(m.nx (a+1+1+1+1) 3).toNat)+1) 2) 2 ar [] 0) _ _ _ _ _ _ E E)|exact(r1)|exact(dJ (m.bU (m.dG id a part (m.params (a+1+1+1+1+1) (m.nx (a+1+1+1+1) 3).toNat) gs (((((m.params (a+1+1+1+1+1) (m.nx (a+1+1+1+1) 3).toNat).map bc).length:Nat):Int)+2+m.nx ((a+1+1+1+1+1+(m.nx (a+1+1+1+1) 3).toNat)+1) 2) 2 ar rr.1 0)) _ _ _ _ _ E)|exact(FY (m.dG id a part (m.params (a+1+1+1+1+1) (m.nx (a+1+1+1+1) 3).toNat) gs (((((m.params (a+1+1+1+1+1) (m.nx (a+1+1+1+1) 3).toNat).map bc).length:Nat):Int)+2+m.nx ((a+1+1+1+1+1+(m.nx (a+1+1+1+1) 3).toNat)+1) 2) 2 ar rr.1 (rr.2.s+1:Nat))));refine run ?_)
  exact aG):G:=x
def ajm(m:Mk)(id:Int)(a s l p d:Nat)(fine:m.Core)(hid:0<=id∧id<100)(h:a+5000<2^58)(h' :s+300<2^58)(hp:p<2^40)(hlen:m.aF.length<2^20∧m.defs.length<2^20)(t0:(m.nx (a+1+1+1) 2==0)=true)(t1:(m.nx (a+1+1+1+1+1+0) 4==0)=true):aj prog 171 [mp,it id,bo true] (kg m a s l p d) (.bS []) (lY m (m.dh id a s (0) 0 [] ((a+1+1+1+1+1+0)+1+1) [⟨4,0⟩]).1 (m.dh id a s (0) 0 [] ((a+1+1+1+1+1+0)+1+1) [⟨4,0⟩]).2.a ((m.dh id a s (0) 0 [] ((a+1+1+1+1+1+0)+1+1) [⟨4,0⟩]).2.s+1) (m.dh id a s (0) 0 [] ((a+1+1+1+1+1+0)+1+1) [⟨4,0⟩]).2.l p (m.dh id a s (0) 0 [] ((a+1+1+1+1+1+0)+1+1) [⟨4,0⟩]).2.d):=aar
def afo(m:Mk)(id:Int)(a s l p d:Nat)(fine:m.Core)(hid:0<=id∧id<100)(h:a+5000<2^58)(h' :s+300<2^58)(hp:p<2^40)(hlen:m.aF.length<2^20∧m.defs.length<2^20)(t0:(m.nx (a+1+1+1) 2==0)=true)(t1:(m.nx (a+1+1+1+1+1+(m.nx (a+1+1+1+1) 3).toNat) 4==0)=true)(hX:m.nx (a+1+1+1+1) 3=0):aj prog 171 [mp,it id,bo false] (kg m a s l p d) (.bS []) (lY m (m.dh id a s (0) (m.nx (a+1+1+1+1) 3).toNat [di] ((a+1+1+1+1+1+(m.nx (a+1+1+1+1) 3).toNat)+1+1) [⟨4,0⟩]).1 (m.dh id a s (0) (m.nx (a+1+1+1+1) 3).toNat [di] ((a+1+1+1+1+1+(m.nx (a+1+1+1+1) 3).toNat)+1+1) [⟨4,0⟩]).2.a ((m.dh id a s (0) (m.nx (a+1+1+1+1) 3).toNat [di] ((a+1+1+1+1+1+(m.nx (a+1+1+1+1) 3).toNat)+1+1) [⟨4,0⟩]).2.s+1) (m.dh id a s (0) (m.nx (a+1+1+1+1) 3).toNat [di] ((a+1+1+1+1+1+(m.nx (a+1+1+1+1) 3).toNat)+1+1) [⟨4,0⟩]).2.l p (m.dh id a s (0) (m.nx (a+1+1+1+1) 3).toNat [di] ((a+1+1+1+1+1+(m.nx (a+1+1+1+1) 3).toNat)+1+1) [⟨4,0⟩]).2.d):=by let part:Int:=0;let gs:List pG:=[di];let ar:List Ar:=[⟨4,0⟩];exact Ko
def afn(m:Mk)(id:Int)(a s l p d:Nat)(fine:m.Core)(hid:0<=id∧id<100)(h:a+5000<2^58)(h' :s+300<2^58)(hp:p<2^40)(hlen:m.aF.length<2^20∧m.defs.length<2^20)(t0:(m.nx (a+1+1+1) 2==0)=true)(t1:(m.nx (a+1+1+1+1+1+(m.nx (a+1+1+1+1) 3).toNat) 4==0)=true)(hX:0<m.nx (a+1+1+1+1) 3)(t2:(m.nx ((a+1+1+1+1+1+(m.nx (a+1+1+1+1) 3).toNat)+1+1) 2==0)=true):aj prog 171 [mp,it id,bo false] (kg m a s l p d) (.bS []) (lY m (m.dh id a s (0) (m.nx (a+1+1+1+1) 3).toNat [di] ((a+1+1+1+1+1+(m.nx (a+1+1+1+1) 3).toNat)+1+1+1) [⟨4,0⟩,⟨8,1⟩]).1 (m.dh id a s (0) (m.nx (a+1+1+1+1) 3).toNat [di] ((a+1+1+1+1+1+(m.nx (a+1+1+1+1) 3).toNat)+1+1+1) [⟨4,0⟩,⟨8,1⟩]).2.a ((m.dh id a s (0) (m.nx (a+1+1+1+1) 3).toNat [di] ((a+1+1+1+1+1+(m.nx (a+1+1+1+1) 3).toNat)+1+1+1) [⟨4,0⟩,⟨8,1⟩]).2.s+1) (m.dh id a s (0) (m.nx (a+1+1+1+1) 3).toNat [di] ((a+1+1+1+1+1+(m.nx (a+1+1+1+1) 3).toNat)+1+1+1) [⟨4,0⟩,⟨8,1⟩]).2.l p (m.dh id a s (0) (m.nx (a+1+1+1+1) 3).toNat [di] ((a+1+1+1+1+1+(m.nx (a+1+1+1+1) 3).toNat)+1+1+1) [⟨4,0⟩,⟨8,1⟩]).2.d):=by let part:Int:=0;let gs:List pG:=[di];let ar:List Ar:=[⟨4,0⟩,⟨8,1⟩];exact wm
def afm(m:Mk)(id:Int)(a s l p d:Nat)(fine:m.Core)(hid:0<=id∧id<100)(h:a+5000<2^58)(h' :s+300<2^58)(hp:p<2^40)(hlen:m.aF.length<2^20∧m.defs.length<2^20)(t0:(m.nx (a+1+1+1) 2==0)=true)(t1:(m.nx (a+1+1+1+1+1+(m.nx (a+1+1+1+1) 3).toNat) 4==0)=true)(hX:0<m.nx (a+1+1+1+1) 3)(t2:(m.nx ((a+1+1+1+1+1+(m.nx (a+1+1+1+1) 3).toNat)+1+1) 2==0)=false):aj prog 171 [mp,it id,bo false] (kg m a s l p d) (.bS []) (lY m (m.dh id a s (0) (m.nx (a+1+1+1+1) 3).toNat [di] ((a+1+1+1+1+1+(m.nx (a+1+1+1+1) 3).toNat)+1+1+1) [⟨4,0⟩]).1 (m.dh id a s (0) (m.nx (a+1+1+1+1) 3).toNat [di] ((a+1+1+1+1+1+(m.nx (a+1+1+1+1) 3).toNat)+1+1+1) [⟨4,0⟩]).2.a ((m.dh id a s (0) (m.nx (a+1+1+1+1) 3).toNat [di] ((a+1+1+1+1+1+(m.nx (a+1+1+1+1) 3).toNat)+1+1+1) [⟨4,0⟩]).2.s+1) (m.dh id a s (0) (m.nx (a+1+1+1+1) 3).toNat [di] ((a+1+1+1+1+1+(m.nx (a+1+1+1+1) 3).toNat)+1+1+1) [⟨4,0⟩]).2.l p (m.dh id a s (0) (m.nx (a+1+1+1+1) 3).toNat [di] ((a+1+1+1+1+1+(m.nx (a+1+1+1+1) 3).toNat)+1+1+1) [⟨4,0⟩]).2.d):=by let part:Int:=0;let gs:List pG:=[di];let ar:List Ar:=[⟨4,0⟩];exact wm
def ajn(m:Mk)(id:Int)(a s l p d:Nat)(fine:m.Core)(hid:0<=id∧id<100)(h:a+5000<2^58)(h' :s+300<2^58)(hp:p<2^40)(hlen:m.aF.length<2^20∧m.defs.length<2^20)(t0:(m.nx (a+1+1+1) 2==0)=true)(t1:(m.nx (a+1+1+1+1+1+0) 4==0)=false):aj prog 171 [mp,it id,bo true] (kg m a s l p d) (.bS []) (lY m (m.dh id a s (0) 0 [] ((a+1+1+1+1+1+0)+1+1) [⟨4,0⟩]).1 (m.dh id a s (0) 0 [] ((a+1+1+1+1+1+0)+1+1) [⟨4,0⟩]).2.a ((m.dh id a s (0) 0 [] ((a+1+1+1+1+1+0)+1+1) [⟨4,0⟩]).2.s+1) (m.dh id a s (0) 0 [] ((a+1+1+1+1+1+0)+1+1) [⟨4,0⟩]).2.l p (m.dh id a s (0) 0 [] ((a+1+1+1+1+1+0)+1+1) [⟨4,0⟩]).2.d):=aar
def afr(m:Mk)(id:Int)(a s l p d:Nat)(fine:m.Core)(hid:0<=id∧id<100)(h:a+5000<2^58)(h' :s+300<2^58)(hp:p<2^40)(hlen:m.aF.length<2^20∧m.defs.length<2^20)(t0:(m.nx (a+1+1+1) 2==0)=true)(t1:(m.nx (a+1+1+1+1+1+(m.nx (a+1+1+1+1) 3).toNat) 4==0)=false)(hX:m.nx (a+1+1+1+1) 3=0):aj prog 171 [mp,it id,bo false] (kg m a s l p d) (.bS []) (lY m (m.dh id a s (0) (m.nx (a+1+1+1+1) 3).toNat [] ((a+1+1+1+1+1+(m.nx (a+1+1+1+1) 3).toNat)+1+1) [⟨4,0⟩]).1 (m.dh id a s (0) (m.nx (a+1+1+1+1) 3).toNat [] ((a+1+1+1+1+1+(m.nx (a+1+1+1+1) 3).toNat)+1+1) [⟨4,0⟩]).2.a ((m.dh id a s (0) (m.nx (a+1+1+1+1) 3).toNat [] ((a+1+1+1+1+1+(m.nx (a+1+1+1+1) 3).toNat)+1+1) [⟨4,0⟩]).2.s+1) (m.dh id a s (0) (m.nx (a+1+1+1+1) 3).toNat [] ((a+1+1+1+1+1+(m.nx (a+1+1+1+1) 3).toNat)+1+1) [⟨4,0⟩]).2.l p (m.dh id a s (0) (m.nx (a+1+1+1+1) 3).toNat [] ((a+1+1+1+1+1+(m.nx (a+1+1+1+1) 3).toNat)+1+1) [⟨4,0⟩]).2.d):=by let part:Int:=0;let gs:List pG:=[];let ar:List Ar:=[⟨4,0⟩];exact Ko
def afq(m:Mk)(id:Int)(a s l p d:Nat)(fine:m.Core)(hid:0<=id∧id<100)(h:a+5000<2^58)(h' :s+300<2^58)(hp:p<2^40)(hlen:m.aF.length<2^20∧m.defs.length<2^20)(t0:(m.nx (a+1+1+1) 2==0)=true)(t1:(m.nx (a+1+1+1+1+1+(m.nx (a+1+1+1+1) 3).toNat) 4==0)=false)(hX:0<m.nx (a+1+1+1+1) 3)(t2:(m.nx ((a+1+1+1+1+1+(m.nx (a+1+1+1+1) 3).toNat)+1+1) 2==0)=true):aj prog 171 [mp,it id,bo false] (kg m a s l p d) (.bS []) (lY m (m.dh id a s (0) (m.nx (a+1+1+1+1) 3).toNat [] ((a+1+1+1+1+1+(m.nx (a+1+1+1+1) 3).toNat)+1+1+1) [⟨4,0⟩,⟨8,1⟩]).1 (m.dh id a s (0) (m.nx (a+1+1+1+1) 3).toNat [] ((a+1+1+1+1+1+(m.nx (a+1+1+1+1) 3).toNat)+1+1+1) [⟨4,0⟩,⟨8,1⟩]).2.a ((m.dh id a s (0) (m.nx (a+1+1+1+1) 3).toNat [] ((a+1+1+1+1+1+(m.nx (a+1+1+1+1) 3).toNat)+1+1+1) [⟨4,0⟩,⟨8,1⟩]).2.s+1) (m.dh id a s (0) (m.nx (a+1+1+1+1) 3).toNat [] ((a+1+1+1+1+1+(m.nx (a+1+1+1+1) 3).toNat)+1+1+1) [⟨4,0⟩,⟨8,1⟩]).2.l p (m.dh id a s (0) (m.nx (a+1+1+1+1) 3).toNat [] ((a+1+1+1+1+1+(m.nx (a+1+1+1+1) 3).toNat)+1+1+1) [⟨4,0⟩,⟨8,1⟩]).2.d):=by let part:Int:=0;let gs:List pG:=[];let ar:List Ar:=[⟨4,0⟩,⟨8,1⟩];exact wm
def afp(m:Mk)(id:Int)(a s l p d:Nat)(fine:m.Core)(hid:0<=id∧id<100)(h:a+5000<2^58)(h' :s+300<2^58)(hp:p<2^40)(hlen:m.aF.length<2^20∧m.defs.length<2^20)(t0:(m.nx (a+1+1+1) 2==0)=true)(t1:(m.nx (a+1+1+1+1+1+(m.nx (a+1+1+1+1) 3).toNat) 4==0)=false)(hX:0<m.nx (a+1+1+1+1) 3)(t2:(m.nx ((a+1+1+1+1+1+(m.nx (a+1+1+1+1) 3).toNat)+1+1) 2==0)=false):aj prog 171 [mp,it id,bo false] (kg m a s l p d) (.bS []) (lY m (m.dh id a s (0) (m.nx (a+1+1+1+1) 3).toNat [] ((a+1+1+1+1+1+(m.nx (a+1+1+1+1) 3).toNat)+1+1+1) [⟨4,0⟩]).1 (m.dh id a s (0) (m.nx (a+1+1+1+1) 3).toNat [] ((a+1+1+1+1+1+(m.nx (a+1+1+1+1) 3).toNat)+1+1+1) [⟨4,0⟩]).2.a ((m.dh id a s (0) (m.nx (a+1+1+1+1) 3).toNat [] ((a+1+1+1+1+1+(m.nx (a+1+1+1+1) 3).toNat)+1+1+1) [⟨4,0⟩]).2.s+1) (m.dh id a s (0) (m.nx (a+1+1+1+1) 3).toNat [] ((a+1+1+1+1+1+(m.nx (a+1+1+1+1) 3).toNat)+1+1+1) [⟨4,0⟩]).2.l p (m.dh id a s (0) (m.nx (a+1+1+1+1) 3).toNat [] ((a+1+1+1+1+1+(m.nx (a+1+1+1+1) 3).toNat)+1+1+1) [⟨4,0⟩]).2.d):=by let part:Int:=0;let gs:List pG:=[];let ar:List Ar:=[⟨4,0⟩];exact wm
def ajo(m:Mk)(id:Int)(a s l p d:Nat)(fine:m.Core)(hid:0<=id∧id<100)(h:a+5000<2^58)(h' :s+300<2^58)(hp:p<2^40)(hlen:m.aF.length<2^20∧m.defs.length<2^20)(t0:(m.nx (a+1+1+1) 2==0)=false)(t1:(m.nx (a+1+1+1+1+1+0) 4==0)=true):aj prog 171 [mp,it id,bo true] (kg m a s l p d) (.bS []) (lY m (m.dh id a s (m.dE a) 0 [] ((a+1+1+1+1+1+0)+1+1) [⟨4,0⟩]).1 (m.dh id a s (m.dE a) 0 [] ((a+1+1+1+1+1+0)+1+1) [⟨4,0⟩]).2.a ((m.dh id a s (m.dE a) 0 [] ((a+1+1+1+1+1+0)+1+1) [⟨4,0⟩]).2.s+1) (m.dh id a s (m.dE a) 0 [] ((a+1+1+1+1+1+0)+1+1) [⟨4,0⟩]).2.l p (m.dh id a s (m.dE a) 0 [] ((a+1+1+1+1+1+0)+1+1) [⟨4,0⟩]).2.d):=aax
def afu(m:Mk)(id:Int)(a s l p d:Nat)(fine:m.Core)(hid:0<=id∧id<100)(h:a+5000<2^58)(h' :s+300<2^58)(hp:p<2^40)(hlen:m.aF.length<2^20∧m.defs.length<2^20)(t0:(m.nx (a+1+1+1) 2==0)=false)(t1:(m.nx (a+1+1+1+1+1+(m.nx (a+1+1+1+1) 3).toNat) 4==0)=true)(hX:m.nx (a+1+1+1+1) 3=0):aj prog 171 [mp,it id,bo false] (kg m a s l p d) (.bS []) (lY m (m.dh id a s (m.dE a) (m.nx (a+1+1+1+1) 3).toNat [di] ((a+1+1+1+1+1+(m.nx (a+1+1+1+1) 3).toNat)+1+1) [⟨4,0⟩]).1 (m.dh id a s (m.dE a) (m.nx (a+1+1+1+1) 3).toNat [di] ((a+1+1+1+1+1+(m.nx (a+1+1+1+1) 3).toNat)+1+1) [⟨4,0⟩]).2.a ((m.dh id a s (m.dE a) (m.nx (a+1+1+1+1) 3).toNat [di] ((a+1+1+1+1+1+(m.nx (a+1+1+1+1) 3).toNat)+1+1) [⟨4,0⟩]).2.s+1) (m.dh id a s (m.dE a) (m.nx (a+1+1+1+1) 3).toNat [di] ((a+1+1+1+1+1+(m.nx (a+1+1+1+1) 3).toNat)+1+1) [⟨4,0⟩]).2.l p (m.dh id a s (m.dE a) (m.nx (a+1+1+1+1) 3).toNat [di] ((a+1+1+1+1+1+(m.nx (a+1+1+1+1) 3).toNat)+1+1) [⟨4,0⟩]).2.d):=by let part:Int:=m.dE a;let gs:List pG:=[di];let ar:List Ar:=[⟨4,0⟩];exact Ko
def aft(m:Mk)(id:Int)(a s l p d:Nat)(fine:m.Core)(hid:0<=id∧id<100)(h:a+5000<2^58)(h' :s+300<2^58)(hp:p<2^40)(hlen:m.aF.length<2^20∧m.defs.length<2^20)(t0:(m.nx (a+1+1+1) 2==0)=false)(t1:(m.nx (a+1+1+1+1+1+(m.nx (a+1+1+1+1) 3).toNat) 4==0)=true)(hX:0<m.nx (a+1+1+1+1) 3)(t2:(m.nx ((a+1+1+1+1+1+(m.nx (a+1+1+1+1) 3).toNat)+1+1) 2==0)=true):aj prog 171 [mp,it id,bo false] (kg m a s l p d) (.bS []) (lY m (m.dh id a s (m.dE a) (m.nx (a+1+1+1+1) 3).toNat [di] ((a+1+1+1+1+1+(m.nx (a+1+1+1+1) 3).toNat)+1+1+1) [⟨4,0⟩,⟨8,1⟩]).1 (m.dh id a s (m.dE a) (m.nx (a+1+1+1+1) 3).toNat [di] ((a+1+1+1+1+1+(m.nx (a+1+1+1+1) 3).toNat)+1+1+1) [⟨4,0⟩,⟨8,1⟩]).2.a ((m.dh id a s (m.dE a) (m.nx (a+1+1+1+1) 3).toNat [di] ((a+1+1+1+1+1+(m.nx (a+1+1+1+1) 3).toNat)+1+1+1) [⟨4,0⟩,⟨8,1⟩]).2.s+1) (m.dh id a s (m.dE a) (m.nx (a+1+1+1+1) 3).toNat [di] ((a+1+1+1+1+1+(m.nx (a+1+1+1+1) 3).toNat)+1+1+1) [⟨4,0⟩,⟨8,1⟩]).2.l p (m.dh id a s (m.dE a) (m.nx (a+1+1+1+1) 3).toNat [di] ((a+1+1+1+1+1+(m.nx (a+1+1+1+1) 3).toNat)+1+1+1) [⟨4,0⟩,⟨8,1⟩]).2.d):=by let part:Int:=m.dE a;let gs:List pG:=[di];let ar:List Ar:=[⟨4,0⟩,⟨8,1⟩];exact wm
def afs(m:Mk)(id:Int)(a s l p d:Nat)(fine:m.Core)(hid:0<=id∧id<100)(h:a+5000<2^58)(h' :s+300<2^58)(hp:p<2^40)(hlen:m.aF.length<2^20∧m.defs.length<2^20)(t0:(m.nx (a+1+1+1) 2==0)=false)(t1:(m.nx (a+1+1+1+1+1+(m.nx (a+1+1+1+1) 3).toNat) 4==0)=true)(hX:0<m.nx (a+1+1+1+1) 3)(t2:(m.nx ((a+1+1+1+1+1+(m.nx (a+1+1+1+1) 3).toNat)+1+1) 2==0)=false):aj prog 171 [mp,it id,bo false] (kg m a s l p d) (.bS []) (lY m (m.dh id a s (m.dE a) (m.nx (a+1+1+1+1) 3).toNat [di] ((a+1+1+1+1+1+(m.nx (a+1+1+1+1) 3).toNat)+1+1+1) [⟨4,0⟩]).1 (m.dh id a s (m.dE a) (m.nx (a+1+1+1+1) 3).toNat [di] ((a+1+1+1+1+1+(m.nx (a+1+1+1+1) 3).toNat)+1+1+1) [⟨4,0⟩]).2.a ((m.dh id a s (m.dE a) (m.nx (a+1+1+1+1) 3).toNat [di] ((a+1+1+1+1+1+(m.nx (a+1+1+1+1) 3).toNat)+1+1+1) [⟨4,0⟩]).2.s+1) (m.dh id a s (m.dE a) (m.nx (a+1+1+1+1) 3).toNat [di] ((a+1+1+1+1+1+(m.nx (a+1+1+1+1) 3).toNat)+1+1+1) [⟨4,0⟩]).2.l p (m.dh id a s (m.dE a) (m.nx (a+1+1+1+1) 3).toNat [di] ((a+1+1+1+1+1+(m.nx (a+1+1+1+1) 3).toNat)+1+1+1) [⟨4,0⟩]).2.d):=by let part:Int:=m.dE a;let gs:List pG:=[di];let ar:List Ar:=[⟨4,0⟩];exact wm
def ajp(m:Mk)(id:Int)(a s l p d:Nat)(fine:m.Core)(hid:0<=id∧id<100)(h:a+5000<2^58)(h' :s+300<2^58)(hp:p<2^40)(hlen:m.aF.length<2^20∧m.defs.length<2^20)(t0:(m.nx (a+1+1+1) 2==0)=false)(t1:(m.nx (a+1+1+1+1+1+0) 4==0)=false):aj prog 171 [mp,it id,bo true] (kg m a s l p d) (.bS []) (lY m (m.dh id a s (m.dE a) 0 [] ((a+1+1+1+1+1+0)+1+1) [⟨4,0⟩]).1 (m.dh id a s (m.dE a) 0 [] ((a+1+1+1+1+1+0)+1+1) [⟨4,0⟩]).2.a ((m.dh id a s (m.dE a) 0 [] ((a+1+1+1+1+1+0)+1+1) [⟨4,0⟩]).2.s+1) (m.dh id a s (m.dE a) 0 [] ((a+1+1+1+1+1+0)+1+1) [⟨4,0⟩]).2.l p (m.dh id a s (m.dE a) 0 [] ((a+1+1+1+1+1+0)+1+1) [⟨4,0⟩]).2.d):=aax
def afx(m:Mk)(id:Int)(a s l p d:Nat)(fine:m.Core)(hid:0<=id∧id<100)(h:a+5000<2^58)(h' :s+300<2^58)(hp:p<2^40)(hlen:m.aF.length<2^20∧m.defs.length<2^20)(t0:(m.nx (a+1+1+1) 2==0)=false)(t1:(m.nx (a+1+1+1+1+1+(m.nx (a+1+1+1+1) 3).toNat) 4==0)=false)(hX:m.nx (a+1+1+1+1) 3=0):aj prog 171 [mp,it id,bo false] (kg m a s l p d) (.bS []) (lY m (m.dh id a s (m.dE a) (m.nx (a+1+1+1+1) 3).toNat [] ((a+1+1+1+1+1+(m.nx (a+1+1+1+1) 3).toNat)+1+1) [⟨4,0⟩]).1 (m.dh id a s (m.dE a) (m.nx (a+1+1+1+1) 3).toNat [] ((a+1+1+1+1+1+(m.nx (a+1+1+1+1) 3).toNat)+1+1) [⟨4,0⟩]).2.a ((m.dh id a s (m.dE a) (m.nx (a+1+1+1+1) 3).toNat [] ((a+1+1+1+1+1+(m.nx (a+1+1+1+1) 3).toNat)+1+1) [⟨4,0⟩]).2.s+1) (m.dh id a s (m.dE a) (m.nx (a+1+1+1+1) 3).toNat [] ((a+1+1+1+1+1+(m.nx (a+1+1+1+1) 3).toNat)+1+1) [⟨4,0⟩]).2.l p (m.dh id a s (m.dE a) (m.nx (a+1+1+1+1) 3).toNat [] ((a+1+1+1+1+1+(m.nx (a+1+1+1+1) 3).toNat)+1+1) [⟨4,0⟩]).2.d):=by let part:Int:=m.dE a;let gs:List pG:=[];let ar:List Ar:=[⟨4,0⟩];exact Ko
def afw(m:Mk)(id:Int)(a s l p d:Nat)(fine:m.Core)(hid:0<=id∧id<100)(h:a+5000<2^58)(h' :s+300<2^58)(hp:p<2^40)(hlen:m.aF.length<2^20∧m.defs.length<2^20)(t0:(m.nx (a+1+1+1) 2==0)=false)(t1:(m.nx (a+1+1+1+1+1+(m.nx (a+1+1+1+1) 3).toNat) 4==0)=false)(hX:0<m.nx (a+1+1+1+1) 3)(t2:(m.nx ((a+1+1+1+1+1+(m.nx (a+1+1+1+1) 3).toNat)+1+1) 2==0)=true):aj prog 171 [mp,it id,bo false] (kg m a s l p d) (.bS []) (lY m (m.dh id a s (m.dE a) (m.nx (a+1+1+1+1) 3).toNat [] ((a+1+1+1+1+1+(m.nx (a+1+1+1+1) 3).toNat)+1+1+1) [⟨4,0⟩,⟨8,1⟩]).1 (m.dh id a s (m.dE a) (m.nx (a+1+1+1+1) 3).toNat [] ((a+1+1+1+1+1+(m.nx (a+1+1+1+1) 3).toNat)+1+1+1) [⟨4,0⟩,⟨8,1⟩]).2.a ((m.dh id a s (m.dE a) (m.nx (a+1+1+1+1) 3).toNat [] ((a+1+1+1+1+1+(m.nx (a+1+1+1+1) 3).toNat)+1+1+1) [⟨4,0⟩,⟨8,1⟩]).2.s+1) (m.dh id a s (m.dE a) (m.nx (a+1+1+1+1) 3).toNat [] ((a+1+1+1+1+1+(m.nx (a+1+1+1+1) 3).toNat)+1+1+1) [⟨4,0⟩,⟨8,1⟩]).2.l p (m.dh id a s (m.dE a) (m.nx (a+1+1+1+1) 3).toNat [] ((a+1+1+1+1+1+(m.nx (a+1+1+1+1) 3).toNat)+1+1+1) [⟨4,0⟩,⟨8,1⟩]).2.d):=by let part:Int:=m.dE a;let gs:List pG:=[];let ar:List Ar:=[⟨4,0⟩,⟨8,1⟩];exact wm
def afv(m:Mk)(id:Int)(a s l p d:Nat)(fine:m.Core)(hid:0<=id∧id<100)(h:a+5000<2^58)(h' :s+300<2^58)(hp:p<2^40)(hlen:m.aF.length<2^20∧m.defs.length<2^20)(t0:(m.nx (a+1+1+1) 2==0)=false)(t1:(m.nx (a+1+1+1+1+1+(m.nx (a+1+1+1+1) 3).toNat) 4==0)=false)(hX:0<m.nx (a+1+1+1+1) 3)(t2:(m.nx ((a+1+1+1+1+1+(m.nx (a+1+1+1+1) 3).toNat)+1+1) 2==0)=false):aj prog 171 [mp,it id,bo false] (kg m a s l p d) (.bS []) (lY m (m.dh id a s (m.dE a) (m.nx (a+1+1+1+1) 3).toNat [] ((a+1+1+1+1+1+(m.nx (a+1+1+1+1) 3).toNat)+1+1+1) [⟨4,0⟩]).1 (m.dh id a s (m.dE a) (m.nx (a+1+1+1+1) 3).toNat [] ((a+1+1+1+1+1+(m.nx (a+1+1+1+1) 3).toNat)+1+1+1) [⟨4,0⟩]).2.a ((m.dh id a s (m.dE a) (m.nx (a+1+1+1+1) 3).toNat [] ((a+1+1+1+1+1+(m.nx (a+1+1+1+1) 3).toNat)+1+1+1) [⟨4,0⟩]).2.s+1) (m.dh id a s (m.dE a) (m.nx (a+1+1+1+1) 3).toNat [] ((a+1+1+1+1+1+(m.nx (a+1+1+1+1) 3).toNat)+1+1+1) [⟨4,0⟩]).2.l p (m.dh id a s (m.dE a) (m.nx (a+1+1+1+1) 3).toNat [] ((a+1+1+1+1+1+(m.nx (a+1+1+1+1) 3).toNat)+1+1+1) [⟨4,0⟩]).2.d):=by let part:Int:=m.dE a;let gs:List pG:=[];let ar:List Ar:=[⟨4,0⟩];exact wm
def Mk.mE(m:Mk)(id:Int)(th:Bool)(a s:Nat):Df×Ms:=
 m.dh id a s (if m.nx (a+1+1+1) 2==0 then 0 else m.dE a)
  (if th then 0 else(m.nx (a+1+1+1+1) 3).toNat)
  (if (m.nx ((a+1+1+1+1+1+(if th then 0 else(m.nx (a+1+1+1+1) 3).toNat))) 4==0)&& !th then[di]else[])
  (if (if th then 0 else(m.nx (a+1+1+1+1) 3).toNat)=0 then((a+1+1+1+1+1+(if th then 0 else(m.nx (a+1+1+1+1) 3).toNat))+1+1)else((a+1+1+1+1+1+(if th then 0 else(m.nx (a+1+1+1+1) 3).toNat))+1+1+1))
  (if (if th then 0 else(m.nx (a+1+1+1+1) 3).toNat)=0 then[⟨4,0⟩]else if m.nx ((a+1+1+1+1+1+(m.nx (a+1+1+1+1) 3).toNat)+1+1) 2==0 then[⟨4,0⟩,⟨8,1⟩]else[⟨4,0⟩])
def afl(m:Mk)(id:Int)(th:Bool)(a s l p d:Nat)(fine:m.Core)(hid:0<=id∧id<100)(h:a+5000<2^58)(h' :s+300<2^58)(hp:p<2^40)(hlen:m.aF.length<2^20∧m.defs.length<2^20):aj prog 171 [mp,it id,bo th] (kg m a s l p d) (.bS []) (lY m (m.mE id th a s).1 (m.mE id th a s).2.a ((m.mE id th a s).2.s+1) (m.mE id th a s).2.l p (m.mE id th a s).2.d):=by
 have bX:=m.bT (a+1+1+1+1) (n:=3) E;cases th
 ·by_cases hX:m.nx (a+1+1+1+1) 3=0
  ·have hX3:(m.nx (a+1+1+1+1) 3).toNat=0:=E;cases t0:(m.nx (a+1+1+1) 2==0)<;>cases t1:(m.nx (a+1+1+1+1+1+(m.nx (a+1+1+1+1) 3).toNat) 4==0);all_goals have e:m.mE id false a s=m.dh id a s (if m.nx (a+1+1+1) 2==0 then 0 else m.dE a) (m.nx (a+1+1+1+1) 3).toNat (if m.nx (a+1+1+1+1+1+(m.nx (a+1+1+1+1) 3).toNat) 4==0 then[di]else[]) ((a+1+1+1+1+1+(m.nx (a+1+1+1+1) 3).toNat)+1+1) [⟨4,0⟩]:=(by simp only[Mk.mE,Bool.not_false,Bool.and_true,uV,jZ,ak hX3]);rw[e,t0,t1]
   exact afx m id a s l p d fine hid h h' hp hlen t0 t1 hX;exact afu m id a s l p d fine hid h h' hp hlen t0 t1 hX;exact afr m id a s l p d fine hid h h' hp hlen t0 t1 hX;exact afo m id a s l p d fine hid h h' hp hlen t0 t1 hX
  ·have hX2:0<m.nx (a+1+1+1+1) 3:=E;have hX3:¬(m.nx (a+1+1+1+1) 3).toNat=0:=by omega
   cases t0:(m.nx (a+1+1+1) 2==0)<;>cases t1:(m.nx (a+1+1+1+1+1+(m.nx (a+1+1+1+1) 3).toNat) 4==0)<;>cases t2:(m.nx ((a+1+1+1+1+1+(m.nx (a+1+1+1+1) 3).toNat)+1+1) 2==0);all_goals have e:m.mE id false a s=m.dh id a s (if m.nx (a+1+1+1) 2==0 then 0 else m.dE a) (m.nx (a+1+1+1+1) 3).toNat (if m.nx (a+1+1+1+1+1+(m.nx (a+1+1+1+1) 3).toNat) 4==0 then[di]else[]) ((a+1+1+1+1+1+(m.nx (a+1+1+1+1) 3).toNat)+1+1+1) (if m.nx ((a+1+1+1+1+1+(m.nx (a+1+1+1+1) 3).toNat)+1+1) 2==0 then[⟨4,0⟩,⟨8,1⟩]else[⟨4,0⟩]):=(by simp only[Mk.mE,Bool.not_false,Bool.and_true,uV,jZ,Z hX3]);rw[e,t0,t1,t2]
   exact afv m id a s l p d fine hid h h' hp hlen t0 t1 hX2 t2;exact afw m id a s l p d fine hid h h' hp hlen t0 t1 hX2 t2;exact afs m id a s l p d fine hid h h' hp hlen t0 t1 hX2 t2;exact aft m id a s l p d fine hid h h' hp hlen t0 t1 hX2 t2;exact afp m id a s l p d fine hid h h' hp hlen t0 t1 hX2 t2;exact afq m id a s l p d fine hid h h' hp hlen t0 t1 hX2 t2;exact afm m id a s l p d fine hid h h' hp hlen t0 t1 hX2 t2;exact afn m id a s l p d fine hid h h' hp hlen t0 t1 hX2 t2
 ·cases t0:(m.nx (a+1+1+1) 2==0)<;>cases t1:(m.nx (a+1+1+1+1+1+0) 4==0);all_goals have e:m.mE id true a s=m.dh id a s (if m.nx (a+1+1+1) 2==0 then 0 else m.dE a) 0 [] (a+1+1+1+1+1+0+1+1) [⟨4,0⟩]:=(by simp only[Mk.mE,Bool.not_true,Bool.and_false,uV,jZ,jX]);rw[e,t0]
  exact ajp m id a s l p d fine hid h h' hp hlen t0 t1;exact ajo m id a s l p d fine hid h h' hp hlen t0 t1;exact ajn m id a s l p d fine hid h h' hp hlen t0 t1;exact ajm m id a s l p d fine hid h h' hp hlen t0 t1
end Abs
namespace Abs
open Go Go.Proofs
variable{G:Prop}
def AU(h:G:=by simp[cd]):=h
def UZ(h:G:=by subst e;exact⟨eW u.2.2.2.2.1 (by omega),eW u.2.2.2.2.2 (by omega)⟩):=h
def Mk.QG(m:Mk)(hh:∀h∈m.aF,h.params.length<=12∧h.given.length<=12)(id:Int)(a s:Nat)(part:Int)(c:Nat)(gs:List pG)(b2:Nat)(ar:List Ar):(m.dh id a s part c gs b2 ar).2.a<=b2+1801∧(m.dh id a s part c gs b2 ar).2.s<=s+90∧(m.dh id a s part c gs b2 ar).2.l<=9∧(m.dh id a s part c gs b2 ar).2.d<=2∧(m.dh id a s part c gs b2 ar).1.params.length=c∧(m.dh id a s part c gs b2 ar).1.given.length=gs.length:=by have us:=(m.bU (m.dG id a part (m.params (a+1+1+1+1+1) c) gs ((((m.params (a+1+1+1+1+1) c).map bc).length:Nat)+2+m.nx ((a+1+1+1+1+1+c)+1) 2) 2 ar [] 0)).lM hh 2 (1+m.nx b2 5).toNat ⟨b2+1,s,9,0⟩;simp only[jN]at us;refine⟨?_,?_,?_,?_,m.jr _ _,rfl⟩;all_goals (simp only[Mk.dh];omega)
def Mk.W5(m:Mk)(hh:∀h∈m.aF,h.params.length<=12∧h.given.length<=12)(id:Int)(th:Bool)(a s:Nat):(m.mE id th a s).2.a<=a+1850∧(m.mE id th a s).2.s<=s+90∧(m.mE id th a s).2.l<=9∧(m.mE id th a s).2.d<=2∧(m.mE id th a s).1.params.length<=2∧(m.mE id th a s).1.given.length<=1:=by
 have bX:=m.bT (a+1+1+1+1) (n:=3) E;obtain⟨c,hc,hc2⟩:∃c,(if th then 0 else(m.nx (a+1+1+1+1) 3).toNat)=c∧c<=2:=⟨_,rfl,i_⟩;unfold Mk.mE;rw[hc];have hb:(if c=0 then((a+1+1+1+1+1+c)+1+1)else((a+1+1+1+1+1+c)+1+1+1))<=a+10:=i_
 have hg:(if (m.nx ((a+1+1+1+1+1+c)) 4==0)&& !th then[di]else[]).length<=1:=by split<;>simp
 have u:=m.QG hh id a s (if m.nx (a+1+1+1) 2==0 then 0 else m.dE a) c (if (m.nx ((a+1+1+1+1+1+c)) 4==0)&& !th then[di]else[]) (if c=0 then((a+1+1+1+1+1+c)+1+1)else((a+1+1+1+1+1+c)+1+1+1)) (if c=0 then[⟨4,0⟩]else if m.nx ((a+1+1+1+1+1+(m.nx (a+1+1+1+1) 3).toNat)+1+1) 2==0 then[⟨4,0⟩,⟨8,1⟩]else[⟨4,0⟩]);refine⟨?_,?_,?_,?_,?_,?_⟩;all_goals omega
def zD:Df:=⟨0,0,[],0,0,[],[],0,0,[],0,[]⟩
structure Y5 where
 a:Nat
 s:Nat
 l:Nat
 d:Nat
 aF:List Hd
 defs:List Df
 D:Df
def Y5.mk'(L:List UInt8)(x:Y5):Mk:=⟨L,cq,x.aF,x.defs,[],x.D,false⟩
def aop(m:Mk)(h k t:Nat)(a s l p d:Nat):au:= .agg ([Y2 m.L,it a]++(cDc m.d++([.ref h (m.aF.map oY).length,.ref k (m.defs.map bR).length,.ref t (m.th.map it).length]++(cD m.D++[it s,it l,it p,it d,bo m.calm]))))
def P3(L:List UInt8)(last:Bool)(x:Y5):Bool:=last||(x.mk' L).nx x.a 5==0
def Hs(last:Bool)(x:Y5):Nat:=if last then x.a else x.a+1
def xu(L:List UInt8)(last:Bool)(i:Nat)(x:Y5):Df×Ms:=(x.mk' L).mE (11+i) (P3 L last x) (Hs last x) x.s
def Y5.after(x:Y5)(r:Df×Ms):Y5:=⟨r.2.a,r.2.s+1,r.2.l,r.2.d,x.aF++[l_ r.1],x.defs++[r.1],r.1⟩
def cd(L:List UInt8)(n:Nat):Nat->Y5|0=>⟨1,100,0,0,[],[],zD⟩|i+1=>(cd L n i).after (xu L (i+1==n) i (cd L n i))
structure avi(i:Nat)(x:Y5):Prop where
 a:x.a<=1+1851*i
 s:x.s<=100+91*i
 l:x.l<=9
 d:x.d<=2
 aF:∀h∈x.aF,h.params.length<=12∧h.given.length<=12
 nh:x.aF.length=i
 nd:x.defs.length=i
theorem nV(L:List UInt8)(n:Nat):∀i,avi i (cd L n i)
 |0=>⟨AU,AU,AU,AU,AU,rfl,rfl⟩
 |i+1=>by
  have h:=nV L n i;have u:=((cd L n i).mk' L).W5 h.aF (11+i) (P3 L (i+1==n) (cd L n i)) (Hs (i+1==n) (cd L n i)) (cd L n i).s;have ha:Hs (i+1==n) (cd L n i)<=(cd L n i).a+1:=by unfold Hs;split<;>omega
  have h1:=h.a;have h2:=h.s;refine⟨?_,?_,u.2.2.1,u.2.2.2.1,?_,?_,?_⟩;show(xu L (i+1==n) i (cd L n i)).2.a<=_;unfold xu;omega;show(xu L (i+1==n) i (cd L n i)).2.s+1<=_;unfold xu;omega;intro x hx;rcases dY.1 hx with hx|hx;exact h.aF x hx;have e:=gg.1 hx;exact UZ;show(_++[_]).length=_;rw[fx,h.nh];rfl;show(_++[_]).length=_;rw[fx,h.nd];rfl
def ael:Nat->List Ad|2=>[.cell 15 9 16,.cell 15 10 17,.cell 15 11 18,.aS 15 17,.aS 15 18,.aS 15 21,.aS 15 23]|14=>[.aS 15 9,.aS 15 10,.aS 15 11]|_=>[]
def ki(ds:List Df):Nat->List Int->List Int|0,acc=>acc|k+1,acc=>if acc.length<2 then ki ds k (match ds[k]? with|some D=>if D.params.length+D.given.length=0 then acc++[D.id]else acc|none=>acc)else acc
def mo(L:List UInt8):Pg:=
 let n:=(1+(zD,(⟨L,cq,[],[],[],zD,false⟩:Mk).nx 0 4).2).toNat;let x:=cd L n n;let t:=ki x.defs n []
 ⟨cq,x.aF,x.defs,if (x.mk' L).nx x.a 3==0 then t.take 1 else t⟩
end Abs
namespace Abs
open Go Go.Proofs Tryz
variable{G:Prop}
def ZX(h:G:=by rw[q4,dn];exact az):=h
def ZV(h:G:=by rw[hRx,Z (by rw[dB];simp),e]):=h
def ZK(h:G:=by rw[q4,dn];exact hq0):=h
def Fc(h:G:=by show r.x.aF.length<_;omega):=h
def VH(h:G:=by show r.x.defs.length<_;omega):=h
def Zp(h:G:=by have hA:q.acc.take 1=(q.t.take 1).map it:=(by rw[q4,List.map_take]);refine aM ?_;exact fP.mk (Eq.trans (aL (λx=>au.agg (cDc cq++[fj 5 oY r.x.aF,fj 12 bR r.x.defs,.sl 1 x false])) hA) (aL qe hRe)) rfl):=h
def Ze(h:G:=by refine aM ?_;exact fP.mk (Eq.trans (aL (λx=>au.agg (cDc cq++[fj 5 oY r.x.aF,fj 12 bR r.x.defs,.sl 1 x false])) q4) (aL qe hRe)) rfl):=h
def Vp(h:G:=by rw[b3]at hsu;refine aM ?_;refine⟨⟨⟨r.i+1,_⟩,⟨hk,hsu⟩⟩,iy hk (gb _),?_⟩;exact vQ):=h
structure MdR where
 i:Nat
 x:Y5
def exN{x:Int}(h:0<=x∧x<4):∃n:Nat,1+x=(n:Int)∧n<=4∧0<n:=⟨(1+x).toNat,E,E,E⟩
structure TR where
 k:Nat
 t:List Int
 acc:List au
def asi(m:Mk)(acc:List au)(a s l p d:Nat):Ct:=⟨[.agg ([Y2 m.L,it a]++(cDc m.d++([.ref 1000 (m.aF.map oY).length,.ref 1001 (m.defs.map bR).length,.ref 1002 acc.length]++(cD m.D++[it s,it l,it p,it d,bo m.calm]))))],[⟨5,true,m.aF.map oY⟩,⟨12,true,m.defs.map bR⟩,⟨1,true,acc⟩]⟩
def aoo(m:Mk)(acc:List au)(h k t:Nat)(a s l p d:Nat):au:= .agg ([Y2 m.L,it a]++(cDc m.d++([.ref h (m.aF.map oY).length,.ref k (m.defs.map bR).length,.ref t acc.length]++(cD m.D++[it s,it l,it p,it d,bo m.calm]))))
def PC(m:Mk)(acc:List au)(ha:acc=m.th.map it)(a s l p d:Nat)(n:Int)(h:a<2^60)(hn:0<n):aj prog 170 [mp,it n] (asi m acc a s l p d) (it (m.nx a n)) (asi m acc (a+1) s l p d):=by subst ha;exact bB m a s l p d n h hn
def ahn{ds:List Df}{k:Nat}{t T:List Int}(h:¬0<k)(e:ki ds k t=T):t=T:=by rw[show k=0 by omega]at e;exact e
def amc{ds:List Df}{k:Nat}{t T:List Int}(g:¬t.length<2)(h:0<k)(e:ki ds k t=T):t=T:=by obtain⟨j,rfl⟩:∃j,k=j+1:=⟨k - 1,E⟩;rw[ki,Z g]at e;exact e
def aho{ds:List Df}{k:Nat}{t:List Int}(hj:k - 1<ds.length)(g:t.length<2)(h:0<k):ki ds k t=ki ds (k - 1) (if ds[k - 1].params.length+ds[k - 1].given.length=0 then t++[ds[k - 1].id]else t):=by obtain⟨j,rfl⟩:∃j,k=j+1:=⟨k - 1,E⟩;have hj:j<ds.length:=hj;rw[ki,ak g,iW hj];rfl
theorem O3:∀(ds:List Df) (k:Nat) (t:List Int),t.length<=(ki ds k t).length|ds,0,t=>cJ _|ds,k+1,t=>by rw[ki];split;refine eW ?_ (O3 ds k _);split;split;simp;exact tF;exact tF;exact tF
def Td(L:List UInt8)(i:Nat)(x:Y5)(h:∀y∈x.aF,y.params.length<=12∧y.given.length<=12):(xu L true i x).1.params.length+(xu L true i x).1.given.length=0:=by have u:=(x.mk' L).QG h;have e1:P3 L true x=true:=rfl;unfold xu Mk.mE;rw[e1];have:=u (11+i) (Hs true x) x.s;simp only[Bool.not_true,Bool.and_false];rw[(this _ _ _ _ _).2.2.2.2.1,(this _ _ _ _ _).2.2.2.2.2];simp
theorem Hf(L:List UInt8)(n:Nat):∀i,∀y∈(cd L n i).defs,y.params.length<=12∧y.given.length<=12|0=>by simp[cd]|i+1=>by have h:=nV L n i;have u:=((cd L n i).mk' L).W5 h.aF (11+i) (P3 L (i+1==n) (cd L n i)) (Hs (i+1==n) (cd L n i)) (cd L n i).s;intro y hy;rcases dY.1 hy with hy|hy;exact Hf L n i y hy;have e:=gg.1 hy;exact UZ
def Jb(L:List UInt8)(n:Nat)(h0:0<n)(h4:n<=4):0<(ki (cd L n n).defs n []).length:=by
 obtain⟨j,rfl⟩:∃j,n=j+1:=⟨n - 1,E⟩;have ok:=nV L (j+1) j;have hd:(cd L (j+1) (j+1)).defs=(cd L (j+1) j).defs++[(xu L true j (cd L (j+1) j)).1]:=by rw[cd,show(j+1==j+1)=true by simp];rfl
 have h:=Td L j (cd L (j+1) j) ok.aF;have hl:=ok.nd;have hj:(cd L (j+1) (j+1)).defs[j]? =some (xu L true j (cd L (j+1) j)).1:=by rw[hd,jn E,hl];simp
 rw[ki,ak O,hj];refine jm ?_ (O3 _ _ _);simp only;rw[ak h];simp
def aih(L:List UInt8):aj prog 97 [.agg [Y2 L],bo false] fV (qe (mo L)) fV:=by
 have n0:=(⟨L,cq,[],[],[],zD,false⟩:Mk).bT 0 (n:=4) E;have hex:∃n:Nat,1+(⟨L,cq,[],[],[],zD,false⟩:Mk).nx 0 4=(n:Int)∧n<=4∧0<n:=exN n0;refine hex.elim λn hn=> ?_;have hn' :=hn.1;have hn1:=hn.2.1;have hn0:=hn.2.2;have c1:=bB (⟨L,cq,[],[],[],zD,false⟩:Mk) 0 100 0 0 0 4 E E;have tnz:=Jb L n hn0 hn1;have hmP:mo L=⟨cq,(cd L n n).aF,(cd L n n).defs,if ((cd L n n).mk' L).nx (cd L n n).a 3==0 then(ki (cd L n n).defs n []).take 1 else ki (cd L n n).defs n []⟩:=by
  have e:(1+(zD,(⟨L,cq,[],[],[],zD,false⟩:Mk).nx 0 4).2).toNat=n:=by show(1+(⟨L,cq,[],[],[],zD,false⟩:Mk).nx 0 4).toNat=n;rw[hn'];exact oF n
  unfold mo;rw[e]
 have hT:∃T,T=ki (cd L n n).defs n []:=⟨_,rfl⟩;refine hT.elim λT hT=> ?_;rw[<-hT]at tnz hmP;have hR:∃R,R=mo L:=⟨_,rfl⟩;refine hR.elim λR hR=> ?_;rw[<-hR];rw[hmP]at hR;refine d_ hm func97 (λ_=>false) [false] ael aA ?_;refine run ?_;repeat((apply aE;first|exact(D')|exact(c1));refine run ?_)
 refine bF.mk ⟨[],aY.of (λr:MdR=>r.i<=n∧r.x=cd L n r.i) (λr=>⟨[(7,it r.i)],[(15,aop (r.x.mk' L) 16 17 18 r.x.a r.x.s r.x.l 0 r.x.d)],[(16,⟨5,true,r.x.aF.map oY⟩),(17,⟨12,true,r.x.defs.map bR⟩),(18,⟨1,true,[]⟩)]⟩)
  (λr=>n - r.i) ⟨0,⟨1,100,0,0,[],[],zD⟩⟩ ⟨dM _,rfl⟩ ?_ ?_ ?_ ?_ ?_⟩
 exact vQ;exact aA;exact aA;exact xJ;intro r hJ;have j1:=hJ.1;have j2:=hJ.2;have ok:=nV L n r.i;rw[<-j2]at ok;have oa:=ok.a;have os:=ok.s;have oh:=ok.nh;have od:=ok.nd;by_cases hk:r.i<n;have b1:decide ((r.i:Int)<(n:Int))=true:=qw
 have hsu:r.x.after (xu L (r.i+1==n) r.i r.x)=cd L n (r.i+1):=by rw[j2];rfl
 by_cases hl:r.i+1=n;have b2:((r.i:Int)==(n:Int) - 1)=true:=az;have b3:(r.i+1==n)=true:=by simp;exact hl
 have c2:=afl (r.x.mk' L) (11+r.i) true r.x.a r.x.s r.x.l 0 r.x.d ⟨rfl,ok.aF,Fc⟩ E E E E ⟨Fc,VH⟩;exact Vp;have b2:((r.i:Int)==(n:Int) - 1)=false:=az;have b3:(r.i+1==n)=false:=by simp;exact hl
 have c0:=bB (r.x.mk' L) r.x.a r.x.s r.x.l 0 r.x.d 5 E E;have c2:=afl (r.x.mk' L) (11+r.i) ((r.x.mk' L).nx r.x.a 5==0) (r.x.a+1) r.x.s r.x.l 0 r.x.d ⟨rfl,ok.aF,Fc⟩ E E E E ⟨Fc,VH⟩;exact Vp;have b1:decide ((r.i:Int)<(n:Int))=false:=az
 have hin:r.i=n:=E
 rw[hin]at j2 od;have hRx:R=⟨cq,r.x.aF,r.x.defs,if (r.x.mk' L).nx r.x.a 3==0 then T.take 1 else T⟩:=by rw[j2];exact hR
 have hTx:ki r.x.defs n []=T:=by rw[j2];exact hT.symm
 refine run ?_
 refine bF.mk ⟨[],aY.of (λq:TR=>q.k<=n∧q.t.length<=2∧ki r.x.defs q.k q.t=T∧q.acc=q.t.map it) (λq=>⟨[(8,it ((q.k:Int) - 1))],[(15,aoo ⟨L,cq,r.x.aF,r.x.defs,q.t,r.x.D,false⟩ q.acc 16 17 18 r.x.a r.x.s r.x.l 0 r.x.d)],[(18,⟨1,true,q.acc⟩)]⟩)
  (λq=>q.k) ⟨n,[],[]⟩ ⟨cJ _,O,hTx,rfl⟩ ?_ ?_ ?_ ?_ ?_⟩
 exact vQ;exact aA;exact aA;exact xJ;intro q hq;have q1:=hq.1;have q2:=hq.2.1;have q3:=hq.2.2.1;have q4:=hq.2.2.2;have a1:(q.k:Int) - 1 - 1=((q.k - 1:Nat):Int) - 1∨q.k=0:=E
 by_cases gk:0<q.k;have d1:decide ((q.k:Int) - 1>=0)=true:=az
 have a2:(q.k:Int) - 1 - 1=((q.k - 1:Nat):Int) - 1:=E
 by_cases g2:q.t.length<2;have d2:decide ((q.acc.length:Int)<2)=true:=ZX;have q5:q.acc.length<2:=by rw[q4,dn];exact g2
 have hj:q.k - 1<r.x.defs.length:=E;have hi:nth (r.x.defs.map bR) (((q.k:Int) - 1).toNat)=some (bR r.x.defs[q.k - 1]):=by rw[show((q.k:Int) - 1).toNat=q.k - 1 by omega,c_,gQ hj];rfl
 have hst:=aho hj g2 gk;have hk1:q.k - 1<=n:=E
 have hk2:q.k - 1<q.k:=E;have hk3:(q.t++[r.x.defs[q.k - 1].id]).length<=2:=by rw[fx,tI];omega
 have hk4:q.acc++[it r.x.defs[q.k - 1].id]=(q.t++[r.x.defs[q.k - 1].id]).map it:=(by rw[q4,eu];rfl);have hpl:=Hf L n n r.x.defs[q.k - 1] (by rw[<-j2];exact cU hj);have hp1:=hpl.1;have hp2:=hpl.2;have hp3:(r.x.defs[q.k - 1].params.map bc).length<=12:=by rw[dn];exact hp1
 have hp4:(r.x.defs[q.k - 1].given.map bc).length<=12:=(by rw[dn];exact hp2);refine(dD ((((r.x.defs[q.k - 1].params.map bc).length:Int)+((r.x.defs[q.k - 1].given.map bc).length:Int))==0)).elim (λd3=> ?_) (λd3=> ?_);have hN:(if r.x.defs[q.k - 1].params.length+r.x.defs[q.k - 1].given.length=0 then q.t++[r.x.defs[q.k - 1].id]else q.t)=q.t++[r.x.defs[q.k - 1].id]:=ak (by simp at d3;omega);rw[hN]at hst;refine run ?_;refine bt.at rfl E hi ?_;refine run ?_;refine bt.at rfl E hi ?_;refine run ?_;refine bt.at rfl E hi ?_;refine run ?_;refine bt.at rfl E hi ?_;refine run ?_;refine bt.at rfl E hi ?_;refine run ?_;refine bt.at rfl E hi ?_;refine run ?_;refine⟨⟨⟨q.k - 1,q.t++[r.x.defs[q.k - 1].id],q.acc++[it r.x.defs[q.k - 1].id]⟩,⟨hk1,hk3,hst.symm.trans q3,hk4⟩⟩,hk2,?_⟩;exact vQ;have hN:(if r.x.defs[q.k - 1].params.length+r.x.defs[q.k - 1].given.length=0 then q.t++[r.x.defs[q.k - 1].id]else q.t)=q.t:=Z (by simp at d3;omega);rw[hN]at hst;refine run ?_;refine bt.at rfl E hi ?_;refine run ?_;refine bt.at rfl E hi ?_;refine run ?_;refine bt.at rfl E hi ?_;refine run ?_;refine bt.at rfl E hi ?_;refine run ?_;refine⟨⟨⟨q.k - 1,q.t,q.acc⟩,⟨hk1,q2,hst.symm.trans q3,q4⟩⟩,hk2,?_⟩;exact vQ;have d2:decide ((q.acc.length:Int)<2)=false:=ZX;have e:=amc g2 gk q3;have c3:=PC ⟨L,cq,r.x.aF,r.x.defs,q.t,r.x.D,false⟩ q.acc q4 r.x.a r.x.s r.x.l 0 r.x.d 3 E E;have hq0:1<=q.t.length:=by rw[e];exact tnz
 have hq1:1<=q.acc.length:=ZK;refine(dD ((r.x.mk' L).nx r.x.a 3==0)).elim (λdB=> ?_) (λdB=> ?_);have dB' :((⟨L,cq,r.x.aF,r.x.defs,q.t,r.x.D,false⟩:Mk).nx r.x.a 3==0)=true:=dB;have hRe:(⟨cq,r.x.aF,r.x.defs,q.t.take 1⟩:Pg)=R:=by rw[hRx,ak dB,e]
 exact Zp;have dB' :((⟨L,cq,r.x.aF,r.x.defs,q.t,r.x.D,false⟩:Mk).nx r.x.a 3==0)=false:=dB;have hRe:(⟨cq,r.x.aF,r.x.defs,q.t⟩:Pg)=R:=ZV
 exact Ze;have d1:decide ((q.k:Int) - 1>=0)=false:=az
 have e:=ahn gk q3;have c3:=PC ⟨L,cq,r.x.aF,r.x.defs,q.t,r.x.D,false⟩ q.acc q4 r.x.a r.x.s r.x.l 0 r.x.d 3 E E;have hq0:1<=q.t.length:=by rw[e];exact tnz
 have hq1:1<=q.acc.length:=ZK
 refine(dD ((r.x.mk' L).nx r.x.a 3==0)).elim (λdB=> ?_) (λdB=> ?_);have dB' :((⟨L,cq,r.x.aF,r.x.defs,q.t,r.x.D,false⟩:Mk).nx r.x.a 3==0)=true:=dB;have hRe:(⟨cq,r.x.aF,r.x.defs,q.t.take 1⟩:Pg)=R:=by rw[hRx,ak dB,e]
 exact Zp;have dB' :((⟨L,cq,r.x.aF,r.x.defs,q.t,r.x.D,false⟩:Mk).nx r.x.a 3==0)=false:=dB;have hRe:(⟨cq,r.x.aF,r.x.defs,q.t⟩:Pg)=R:=ZV
 exact Ze
def akf(L:List UInt8):aj prog 25 [.agg [Y2 L]] fV (qe (mo L)) fV:=by have h:=aih L;have hR:∃R,R=mo L:=⟨_,rfl⟩;refine hR.elim λR hR=> ?_;rw[<-hR]at h ⊢;refine fo func25 ?_;exact bp
end Abs
namespace Abs
open Go Go.Proofs
end Abs
namespace Abs
open Go Go.Proofs Tryz
variable{G:Prop}
def Ft:=@of_decide_eq_false
def uM(h:G:=by rw[o4];simp):=h
def ya(h:G:=by rw[o5];simp):=h
def AV(h:G:=by rw[o6];simp):=h
def EX(h:G:=by rw[o7];simp):=h
def Ly(h:G:=by rw[o8];simp):=h
def qz(h:G:=by refine fo Tryz.func182 ?_;exact bp):=h
def KG(h:G:=by refine fo Tryz.func237 ?_;exact bz):=h
def TE(h:G:=by have n0:(!(b==0))=false:=(by rw[z];rfl);rw[ak z];exact qz):=h
def Iy(v:Int):Int:=if v.tmod 4294967296< -2147483648 then v.tmod 4294967296+4294967296 else if v.tmod 4294967296>2147483647 then v.tmod 4294967296 - 4294967296 else v.tmod 4294967296
def V6(v:Int): -4294967296<v.tmod 4294967296∧v.tmod 4294967296<4294967296:=by refine⟨?_,fi _ E⟩;exact MS _ E
def zv(v:Int): -2147483648<=Iy v∧Iy v<=2147483647:=by have:=V6 v;unfold Iy;split;omega;split<;>omega
def yp(v:Int):aj prog 237 [it v] fV (it (Iy v)) fV:=by have hb:=V6 v;have ht:∃t,t=v.tmod 4294967296:=⟨_,rfl⟩;refine ht.elim λt ht=> ?_;unfold Iy;rw[<-ht]at hb ⊢;refine(dD (decide (v.tmod 4294967296< -2147483648))).elim (λb1=> ?_) (λb1=> ?_);rw[ak (by rw[ht];exact tH b1),ht];rw[ht]at hb;exact KG;rw[Z (by rw[ht];exact Ft b1)];refine(dD (decide (v.tmod 4294967296>2147483647))).elim (λb2=> ?_) (λb2=> ?_);rw[ak (by rw[ht];exact tH b2),ht];rw[ht]at hb;exact KG;rw[Z (by rw[ht];exact Ft b2),ht];exact KG
def BP(op a b:Int):Int:=
 if op==4 then Iy (a+b)else if op==5 then Iy (a - b)else if op==6 then Iy (a*b)else
 if op==7 then(if b==0 then 0 else Iy (IntKind.i64.wrap (a.tdiv b)))else
 if op==8 then(if b==0 then a else a.tmod b)else
 if op==9 then(if b<a then b else a)else if op==10 then(if b>a then b else a)else 0
def II(op a b:Int):Int:=BP op (Iy a) (Iy b)
def anf{a b:Int}(ha: -2147483648<=a∧a<=2147483647)(hb: -2147483648<=b∧b<=2147483647): -(2^63)<=a*b∧a*b<2^63:=by
 have h1:a.natAbs<=2147483648:=E
 have h2:b.natAbs<=2147483648:=E
 have h3:(a*b).natAbs<=2147483648*2147483648:=aa9
 omega
def acu(op x y:Int):aj prog 182 [it op,it x,it y] fV (it (II op x y)) fV:=by
 have w1:=yp x;have w2:=yp y;have ba:=zv x;have bb:=zv y;unfold II;have hA:∃a,a=Iy x:=⟨_,rfl⟩;refine hA.elim λa hA=> ?_;have hB:∃b,b=Iy y:=⟨_,rfl⟩;refine hB.elim λb hB=> ?_;rw[<-hA]at w1 ba ⊢;rw[<-hB]at w2 bb ⊢;have w3:=yp (a+b);have w4:=yp (a - b);have w5:=yp (a*b);have w6:=yp (IntKind.i64.wrap (a.tdiv b));have mb:=anf ba bb;have mb1:=mb.1;have mb2:=mb.2;refine(dD (op==4)).elim (λo4=> ?_) (λo4=> ?_);unfold BP;rw[ak o4];exact qz;refine(dD (op==5)).elim (λo5=> ?_) (λo5=> ?_);unfold BP;rw[Z uM];rw[ak o5];exact qz;refine(dD (op==6)).elim (λo6=> ?_) (λo6=> ?_);unfold BP;rw[Z uM];rw[Z ya];rw[ak o6];exact qz;refine(dD (op==7)).elim (λo7=> ?_) (λo7=> ?_);unfold BP;rw[Z uM];rw[Z ya];rw[Z AV];rw[ak o7];refine(dD (b==0)).elim (λz=> ?_) (λz=> ?_);exact TE;have n0:(!(b==0))=true:=(by rw[z];rfl);have n1:b≠0:=by simpa using z
 rw[Z (by rw[z];simp)];exact qz;refine(dD (op==8)).elim (λo8=> ?_) (λo8=> ?_);unfold BP;rw[Z uM];rw[Z ya];rw[Z AV];rw[Z EX];rw[ak o8];refine(dD (b==0)).elim (λz=> ?_) (λz=> ?_);exact TE;have n0:(!(b==0))=true:=(by rw[z];rfl);have n1:b≠0:=by simpa using z
 rw[Z (by rw[z];simp)];exact qz;refine(dD (op==9)).elim (λo9=> ?_) (λo9=> ?_);unfold BP;rw[Z uM];rw[Z ya];rw[Z AV];rw[Z EX];rw[Z Ly];rw[ak o9];exact qz;refine(dD (op==10)).elim (λo10=> ?_) (λo10=> ?_);unfold BP;rw[Z uM];rw[Z ya];rw[Z AV];rw[Z EX];rw[Z Ly];rw[Z (by rw[o9];simp)];rw[ak o10];exact qz;unfold BP;rw[Z uM];rw[Z ya];rw[Z AV];rw[Z EX];rw[Z Ly];rw[Z (by rw[o9];simp)];rw[Z (by rw[o10];simp)];exact qz
structure Rw where
 op:Int
 a:Int
 b:Int
 n:Int
 m:Int
 lo:Int
 hi:Int
 id:Int
 sharp:Int
def i16(n:Int):au:= .int .i16 n
def D_(x:Rw):au:= .agg [u8 x.op,u8 x.a,u8 x.b,u8 x.n,u8 x.m,i16 x.lo,i16 x.hi,u8 x.id,u8 x.sharp]
structure Ts(x:Rw):Prop where
 op:0<=x.op∧x.op<256
 a:0<=x.a∧x.a<256
 b:0<=x.b∧x.b<256
 n:0<=x.n∧x.n<256
 m:0<=x.m∧x.m<256
 lo: -32768<=x.lo∧x.lo<32768
 hi: -32768<=x.hi∧x.hi<32768
 id:0<=x.id∧x.id<256
 sharp:0<=x.sharp∧x.sharp<256
structure LH where
 lo:Int
 hi:Int
def stB(op a b0:Int)(s:LH)(j:Nat):LH:=⟨if II op a (b0+j)<s.lo then II op a (b0+j)else s.lo,if II op a (b0+j)>s.hi then II op a (b0+j)else s.hi⟩
def XM(op b0:Int)(nb:Nat)(a0:Int)(s:LH)(i:Nat):LH:=(List.range nb).foldl (stB op (a0+i) b0) s
def To(op a0 b0:Int)(na nb:Nat)(s:LH):LH:=(List.range na).foldl (XM op b0 nb a0) s
def oM{β:Type}{f:β->Nat->β}{z:β}{k:Nat}:(List.range (k+1)).foldl f z=f ((List.range k).foldl f z) k:=by rw[uZ,Bi];rfl
def ru0(x:Rw):Ru:=⟨1+x.id.tmod 20,1+x.sharp.tmod 4,x.id.tmod 3,4+x.op.tmod 7,x.a - 20,x.a - 20+x.n.tmod 40,x.b - 20,x.b - 20+x.m.tmod 40,if x.hi<x.lo then x.hi else x.lo,if x.hi>x.lo then x.hi else x.lo⟩
def PX(x:Rw):LH:=To (4+x.op.tmod 7) (x.a - 20) (x.b - 20) (x.n.tmod 40+1).toNat (x.m.tmod 40+1).toNat ⟨II (4+x.op.tmod 7) (x.a - 20) (x.b - 20),II (4+x.op.tmod 7) (x.a - 20) (x.b - 20)⟩
def zd(x:Rw):Ru:=if x.sharp.tmod 2==1 then ru0 x else{ru0 x with lo:=(PX x).lo,hi:=(PX x).hi}
def yW{x:Int}(h:0<=x)(n:Int)(hn:0<n):0<=x.tmod n∧x.tmod n<n:=⟨dz _ h,fi _ hn⟩
structure AB where
 k:Nat
 v:Int
 s:LH
def adw(x:Rw)(h:Ts x):aj prog 109 [D_ x] fV (gU (zd x)) fV:=by
 have t1:=yW h.id.1 20 E;have t2:=yW h.sharp.1 4 E;have t3:=yW h.id.1 3 E;have t4:=yW h.op.1 7 E;have t5:=yW h.n.1 40 E;have t6:=yW h.m.1 40 E;have ba:=h.a;have bb:=h.b;have bl:=h.lo;have bh:=h.hi;refine(dD (x.sharp.tmod 2==1)).elim (λb1=> ?_) (λb1=> ?_);have e:zd x=ru0 x:=ak b1;rw[e];refine fo func109 ?_;exact bz;have e:zd x={ru0 x with lo:=(PX x).lo,hi:=(PX x).hi}:=Z (by rw[b1];simp);have hN:∃na:Nat,(na:Int)=x.n.tmod 40+1:=⟨(x.n.tmod 40+1).toNat,E⟩;refine hN.elim λna hna=> ?_;have hM:∃nb:Nat,(nb:Int)=x.m.tmod 40+1:=⟨(x.m.tmod 40+1).toNat,E⟩;refine hM.elim λnb hnb=> ?_;have hZ:∃ah,ah=PX x:=⟨_,rfl⟩;refine hZ.elim λah hZ=> ?_;rw[e,<-hZ];have hZ' :ah=To (4+x.op.tmod 7) (x.a - 20) (x.b - 20) na nb ⟨II (4+x.op.tmod 7) (x.a - 20) (x.b - 20),II (4+x.op.tmod 7) (x.a - 20) (x.b - 20)⟩:=by rw[hZ,PX,<-hna,<-hnb];rfl
 have c0:=acu (4+x.op.tmod 7) (x.a - 20) (x.b - 20);refine fo func109 ?_;refine aM ?_;refine bF.mk ⟨[],aY.lp (λr:AB=>r.k<=na∧r.v=x.a - 20+(r.k:Int)∧r.s=To (4+x.op.tmod 7) (x.a - 20) (x.b - 20) r.k nb ⟨II (4+x.op.tmod 7) (x.a - 20) (x.b - 20),II (4+x.op.tmod 7) (x.a - 20) (x.b - 20)⟩) (λr=>⟨[(4,it r.v)],[(3,gU {ru0 x with lo:=r.s.lo,hi:=r.s.hi})],[]⟩) (λr=>na - r.k) ⟨0,x.a - 20,⟨II (4+x.op.tmod 7) (x.a - 20) (x.b - 20),II (4+x.op.tmod 7) (x.a - 20) (x.b - 20)⟩⟩ ⟨dM _,O,rfl⟩ ?_⟩;intro r hJ;have h1:=hJ.1;have h0:=hJ.2.1;have h2:=hJ.2.2;by_cases hk:r.k<na;have d1:decide (r.v<=x.a - 20+x.n.tmod 40)=true:=az;refine run ?_;refine bF.mk ⟨[],aY.lp (λq:AB=>q.k<=nb∧q.v=x.b - 20+(q.k:Int)∧q.s=XM (4+x.op.tmod 7) (x.b - 20) q.k (x.a - 20) r.s r.k) (λq=>⟨[(5,it q.v)],[(3,gU {ru0 x with lo:=q.s.lo,hi:=q.s.hi})],[]⟩) (λq=>nb - q.k) ⟨0,x.b - 20,r.s⟩ ⟨dM _,O,rfl⟩ ?_⟩;intro q hq;have g1:=hq.1;have g0:=hq.2.1;have g2:=hq.2.2;by_cases gk:q.k<nb;have e1:decide (q.v<=x.b - 20+x.m.tmod 40)=true:=az;have c1:=acu (4+x.op.tmod 7) r.v q.v;have gN:(⟨if II (4+x.op.tmod 7) r.v q.v<q.s.lo then II (4+x.op.tmod 7) r.v q.v else q.s.lo,if II (4+x.op.tmod 7) r.v q.v>q.s.hi then II (4+x.op.tmod 7) r.v q.v else q.s.hi⟩:LH)=XM (4+x.op.tmod 7) (x.b - 20) (q.k+1) (x.a - 20) r.s r.k:=by unfold XM;rw[oM];unfold XM at g2;rw[<-g2,h0,g0];rfl
 have gV:q.v+1=x.b - 20+((q.k+1:Nat):Int):=(by rw[g0];omega);refine aM ?_;refine⟨⟨⟨q.k+1,x.b - 20+((q.k+1:Nat):Int),_⟩,⟨gk,rfl,gN⟩⟩,iy gk (gb _),?_⟩;exact vQ;have e1:decide (q.v<=x.b - 20+x.m.tmod 40)=false:=az;have hN:q.s=To (4+x.op.tmod 7) (x.a - 20) (x.b - 20) (r.k+1) nb ⟨II (4+x.op.tmod 7) (x.a - 20) (x.b - 20),II (4+x.op.tmod 7) (x.a - 20) (x.b - 20)⟩:=by unfold To;rw[oM];unfold To at h2;rw[<-h2,g2,show q.k=nb by omega]
 have hV:r.v+1=x.a - 20+((r.k+1:Nat):Int):=(by rw[h0];omega);refine run ?_;refine⟨⟨⟨r.k+1,x.a - 20+((r.k+1:Nat):Int),q.s⟩,⟨hk,rfl,hN⟩⟩,iy hk (gb _),?_⟩;exact vQ;have d1:decide (r.v<=x.a - 20+x.n.tmod 40)=false:=az;have ez:ah=r.s:=by rw[hZ',h2,show r.k=na by omega]
 refine run ?_;exact fP.mk (aL (λs:LH=>gU {ru0 x with lo:=s.lo,hi:=s.hi}) ez.symm) rfl
end Abs
namespace Abs
open Go Go.Proofs
end Abs
namespace Abs
open Go Go.Proofs Tryz
variable{G:Prop}
def aak(h:G:=by rw[g2,hA,oG (by omega),<-hX];simp[Xl]):=h
def ZI(h:G:=by rw[<-hX];exact PY X l[q.k]):=h
def VA(h:G:=by unfold iG;rw[c1,c2];rfl):=h
def UF(h:G:=by refine run ?_;exact fP.mk (aL (λx=>au.sl 3 x false) e) rfl):=h
def Uy(h:G:=by rw[hA,dn];exact(List.takeWhile_sublist _).length_le):=h
def ah9(h:G:=by rw[g2,aix gk c2,eu,<-rH];rfl):=h
def Uj(h:G:=by have gN:q.acc++[bQ l[q.k]]=(r.acc++[bQ ⟨a,b,0⟩])++((l.take (q.k+1)).filter λx=>iG X x).map bQ:=(by exact ah9);refine run ?_;refine bt.map gk rfl ?_;refine aM ?_;refine bt.map gk rfl ?_;refine run ?_;exact K7):=h
def Uh(h:G:=by have gN:q.acc=(r.acc++[bQ ⟨a,b,0⟩])++((l.take (q.k+1)).filter λx=>iG X x).map bQ:=(by rw[g2,ao9 gk c2]);refine run ?_;refine bt.map gk rfl ?_;refine aM ?_;exact K7):=h
def KK(h:G:=by rw[e];refine fo Tryz.func142 ?_;exact bz):=h
def iG(x y:Pa):Bool:=decide (x.a<y.a)||(x.a==y.a&&decide (x.b<y.b))
def PY(x y:Pa):aj prog 142 [bQ x,bQ y] fV (bo (iG x y)) fV:=by
 refine(dD (decide (x.a<y.a))).elim (λc1=> ?_) (λc1=> ?_);have e:iG x y=true:=by unfold iG;rw[c1];rfl
 exact KK;refine(dD (x.a==y.a)).elim (λc2=> ?_) (λc2=> ?_);have e:iG x y=decide (x.b<y.b):=VA;exact KK;have e:iG x y=false:=VA;exact KK
def Xl(l:List Pa)(X:Pa):List Pa:=(l.takeWhile λx=>iG x X)++[X]++l.filter λx=>iG X x
def wz(l:List Pa)(a b:Int)(X:Pa)(hX:X=⟨a,b,0⟩)(hl:l.length<2^28):aj prog 69 [fj 3 bQ l,it a,it b] fV (fj 3 bQ (Xl l X)) fV:=by
 refine fo func69 ?_;refine run ?_;refine bF.mk ⟨[],aY.lp (λr:CR=>r.k<=l.length∧r.acc=(l.take r.k).map bQ∧(l.takeWhile λx=>iG x X)=l.take r.k++(l.drop r.k).takeWhile λx=>iG x X) (λr=>⟨[(9,it r.k),(8,.ref 14 r.acc.length)],[],[(14,⟨3,true,r.acc⟩)]⟩) (λr=>l.length - r.k) ⟨0,[]⟩ ⟨dM _,O,O⟩ ?_⟩;intro r hJ;have h1:=hJ.1;have h2:=hJ.2.1;have h3:=hJ.2.2;by_cases hk:r.k<l.length;have b1:decide ((r.k:Int)<((l.map bQ).length:Nat))=true:=qw
 have ch:aj prog 142 [bQ l[r.k],bQ ⟨a,b,0⟩] fV (bo (iG l[r.k] X)) fV:=by rw[<-hX];exact PY l[r.k] X
 refine(dD (iG l[r.k] X)).elim (λb2=> ?_) (λb2=> ?_);have hN:r.acc++[bQ l[r.k]]=(l.take (r.k+1)).map bQ:=(by rw[h2,take_one hk,eu];rfl);have hT:(l.takeWhile λx=>iG x X)=l.take (r.k+1)++(l.drop (r.k+1)).takeWhile λx=>iG x X:=by rw[h3,am8 hk b2,take_one hk,rH];rfl
 have hlen:r.acc.length=r.k:=(by rw[h2,dn,l7];omega);refine run ?_;refine bt.map hk rfl ?_;refine aM ?_;refine bt.map hk rfl ?_;refine run ?_;refine⟨⟨⟨r.k+1,_⟩,⟨hk,hN,hT⟩⟩,iy hk (gb _),?_⟩;exact vQ;have hA:r.acc=(l.takeWhile λx=>iG x X).map bQ:=(by rw[h3,apv hk b2,h2];simp);have hlen1:r.acc.length<=l.length:=Uy
 refine run ?_;refine bt.map hk rfl ?_;refine aM ?_;refine run ?_;refine bF.mk ⟨[],aY.lp (λq:CR=>q.k<=l.length∧q.acc=(r.acc++[bQ ⟨a,b,0⟩])++((l.take q.k).filter λx=>iG X x).map bQ) (λq=>⟨[(10,it q.k),(8,.ref 14 q.acc.length)],[],[(14,⟨3,true,q.acc⟩)]⟩) (λq=>l.length - q.k) ⟨0,r.acc++[bQ ⟨a,b,0⟩]⟩ ⟨dM _,O⟩ ?_⟩;intro q hq;have g1:=hq.1;have g2:=hq.2;have hle:=af1 (p:=λx=>iG X x) (l:=l) q.k;have as6:q.acc.length=r.acc.length+1+((l.take q.k).filter λx=>iG X x).length:=by rw[g2];exact az
 by_cases gk:q.k<l.length;have c1:decide ((q.k:Int)<((l.map bQ).length:Nat))=true:=(by simp;exact gk);have cg:aj prog 142 [bQ ⟨a,b,0⟩,bQ l[q.k]] fV (bo (iG X l[q.k])) fV:=ZI
 refine(dD (iG X l[q.k])).elim (λc2=> ?_) (λc2=> ?_);exact Uj;exact Uh;have c1:decide ((q.k:Int)<((l.map bQ).length:Nat))=false:=az;have e:q.acc=(Xl l X).map bQ:=aak
 exact UF;have b1:decide ((r.k:Int)<((l.map bQ).length:Nat))=false:=az
 have hA:r.acc=(l.takeWhile λx=>iG x X).map bQ:=by rw[h3,zu E,h2];simp
 have hlen1:r.acc.length<=l.length:=Uy
 refine run ?_;refine bF.mk ⟨[],aY.lp (λq:CR=>q.k<=l.length∧q.acc=(r.acc++[bQ ⟨a,b,0⟩])++((l.take q.k).filter λx=>iG X x).map bQ) (λq=>⟨[(10,it q.k),(8,.ref 14 q.acc.length)],[],[(14,⟨3,true,q.acc⟩)]⟩) (λq=>l.length - q.k) ⟨0,r.acc++[bQ ⟨a,b,0⟩]⟩ ⟨dM _,O⟩ ?_⟩;intro q hq;have g1:=hq.1;have g2:=hq.2;have hle:=af1 (p:=λx=>iG X x) (l:=l) q.k;have as6:q.acc.length=r.acc.length+1+((l.take q.k).filter λx=>iG X x).length:=by rw[g2];exact az
 by_cases gk:q.k<l.length;have c1:decide ((q.k:Int)<((l.map bQ).length:Nat))=true:=by simp;exact gk
 have cg:aj prog 142 [bQ ⟨a,b,0⟩,bQ l[q.k]] fV (bo (iG X l[q.k])) fV:=ZI
 refine(dD (iG X l[q.k])).elim (λc2=> ?_) (λc2=> ?_);exact Uj;exact Uh;have c1:decide ((q.k:Int)<((l.map bQ).length:Nat))=false:=az
 have e:q.acc=(Xl l X).map bQ:=aak
 exact UF
def qm(a:Int):Int:=if 0 - a>a then 0 - a else a
def agu(a:Int)(h: -(2^40)<a∧a<2^40):aj prog 141 [it a] fV (it (qm a)) fV:=by have h1:=h.1;have h2:=h.2;refine fo func141 ?_;exact bz
def uw(lo hi m r mask:Int):au:= .agg [it lo,it hi,it m,it r,it mask]
def il(lo hi m:Int):Int:=if lo==hi then 0 else m
def FF(lo hi m r mask:Int):aj prog 140 [uw lo hi m r mask] fV (it (il lo hi m)) fV:=by unfold il;refine(dD (lo==hi)).elim (λb=> ?_) (λb=> ?_);rw[ak b];refine fo func140 ?_;exact bz;rw[Z (by rw[b];simp)];refine fo func140 ?_;exact bz
def al5(a m:Int):Int:=(a.tmod m+m).tmod m
def ang(a m:Int)(h:0<m∧m<2^40):aj prog 184 [it a,it m] fV (it (al5 a m)) fV:=by
 have h1:=h.1;have h2:=h.2;have t1:a.tmod m<m:=fi _ h1;have t2: -m<a.tmod m:=MS _ h1;have hz:m≠0:=E
 refine fo func184 ?_;exact bz
def qO(a b:Int):Int:=(Nat.gcd a.toNat b.toNat:Nat)
structure GId where
 x:Int
 y:Int
def aew{x y:Int}(hx:0<=x)(hy:0<y):Nat.gcd y.toNat (x.tmod y).toNat=Nat.gcd x.toNat y.toNat:=by obtain⟨a,rfl⟩:=tJ hx;obtain⟨b,rfl⟩:=tJ (yh hy);have e:((a:Int).tmod (b:Int)).toNat=a%b:=rfl;rw[e];show Nat.gcd b (a%b)=Nat.gcd a b;rw[Fh b,<-Nat.gcd_rec,Fh]
def Oc(a b:Int)(ha:0<=a)(hb:0<=b):aj prog 139 [it a,it b] fV (it (qO a b)) fV:=by
 refine fo func139 ?_;refine run ?_;refine bF.mk ⟨[],aY.lp (λr:GId=>0<=r.x∧0<=r.y∧Nat.gcd r.x.toNat r.y.toNat=Nat.gcd a.toNat b.toNat) (λr=>⟨[(0,it r.x),(1,it r.y)],[],[]⟩) (λr=>r.y.toNat) ⟨a,b⟩ ⟨ha,hb,rfl⟩ ?_⟩;intro r hJ;have h1:=hJ.1;have h2:=hJ.2.1;have h3:=hJ.2.2;by_cases hk:r.y=0;have b1:(!(r.y==0))=false:=by rw[hk];rfl
 have e:r.x=qO a b:=by rw[qO,<-h3,hk];exact az
 refine run ?_;exact fP.mk (aL it e) rfl;have b1:(!(r.y==0))=true:=qw
 have hp:0<r.y:=E
 have g:=aew h1 hp;have t1:r.x.tmod r.y<r.y:=fi _ hp;have t2:0<=r.x.tmod r.y:=dz _ h1;have hm' :(r.x.tmod r.y).toNat<r.y.toNat:=E
 refine run ?_;refine⟨⟨⟨r.y,r.x.tmod r.y⟩,⟨h2,t2,g.trans h3⟩⟩,hm',?_⟩;exact vQ
def Et(h:G:=by exact⟨_,_,_,_,rfl⟩):=h
def amz{d m:Int}(hd:0<=d)(h2:d<2^30)(hm:0<m):IntKind.i64.wrap (d.tdiv m)*m<=d∧0<=IntKind.i64.wrap (d.tdiv m)*m:=by have e:d.tdiv m=d / m:=gh hd;have h0:0<=d / m:=yj hd E;have h1:d / m*m<=d:=Int.ediv_mul_le d E;have h3:d / m<=d:=ML m hd;rw[e,wrap_i64 E E];exact⟨h1,oE h0 E⟩
def hiR(lo hi m:Int):Int:=lo+IntKind.i64.wrap ((hi - lo).tdiv m)*m
def Xc(lo hi m mask:Int):au:=
 if decide (m>0)then(if lo==hiR lo hi m then uw lo lo 1 0 mask else uw lo (hiR lo hi m) m (al5 lo m) mask)
 else uw lo lo 1 0 mask
def Xb(lo hi m mask:Int)(h1: -(2^20)<lo)(h2:lo<=hi)(h3:hi<2^20)(h4:0<=m∧m<2^40)(h5:m=0->lo=hi):aj prog 115 [it lo,it hi,it m,it mask] fV (Xc lo hi m mask) fV:=by
 unfold Xc;refine(dD (decide (m>0))).elim (λb1=> ?_) (λb1=> ?_);have hm0:0<m:=tH b1;have q:=amz (d:=hi - lo) (m:=m) E E hm0;have q1:=q.1;have q2:=q.2;have hz:m≠0:=E
 have c:=ang lo m ⟨hm0,h4.2⟩;rw[ak b1];refine(dD (lo==hiR lo hi m)).elim (λb2=> ?_) (λb2=> ?_);have b3:(lo==lo+IntKind.i64.wrap ((hi - lo).tdiv m)*m)=true:=b2;rw[ak b2];refine fo func115 ?_;exact bp;have b3:(lo==lo+IntKind.i64.wrap ((hi - lo).tdiv m)*m)=false:=b2;rw[Z (by rw[b2];simp)];refine fo func115 ?_;exact bp;have e:lo=hi:=h5 (by have:=Ft b1;omega);have b2:(lo==hi)=true:=uK
 rw[Z (by rw[b1];simp)];refine fo func115 ?_;exact bz
def acx(v mask:Int)(h: -(2^20)<v∧v<2^20):aj prog 68 [.agg [it v,it mask]] fV (uw v v 1 0 mask) fV:=by have c:aj prog 115 [it v,it v,it 0,it mask] fV (uw v v 1 0 mask) fV:=Xb v v 0 mask h.1 (pt _) h.2 ⟨pt _,E⟩ (λ_=>rfl);refine fo func68 ?_;exact bp
def or_zero{k:Int}(h:0<=k∧k<4):(((BitVec.ofInt IntKind.i64.bits k|||BitVec.ofInt IntKind.i64.bits 0).toNat:Nat):Int)=k:=by
 have:k=0∨k=1∨k=2∨k=3:=E
 rcases this with rfl|rfl|rfl|rfl<;>decide
def ae5(v w k:Int)(h1: -(2^19)<v)(h2:v<=w)(h3:w<2^19)(hk:0<=k∧k<4):aj prog 67 [uw v v 1 0 k,uw w w 1 0 0] fV (Xc v w (w - v) k) fV:=by
 have s1:aj prog 140 [uw v v 1 0 k] fV (it 0) fV:=by have:=FF v v 1 0 k;rwa[show il v v 1=0 by simp[il]]at this
 have s2:aj prog 140 [uw w w 1 0 0] fV (it 0) fV:=by have:=FF w w 1 0 0;rwa[show il w w 1=0 by simp[il]]at this
 have g1:aj prog 139 [it 0,it 0] fV (it 0) fV:=Oc 0 0 E E;have a1:aj prog 141 [it (v - w)] fV (it (w - v)) fV:=by have:=agu (v - w) ⟨E,E⟩;rwa[show qm (v - w)=w - v by unfold qm;split<;>omega]at this
 have g2:aj prog 139 [it 0,it (w - v)] fV (it (w - v)) fV:=by have:=Oc 0 (w - v) E E;rwa[show qO 0 (w - v)=w - v by simp[qO];omega]at this
 have o:=or_zero hk;have b:=Xb v w (w - v) k E h2 E ⟨E,E⟩ (λ_=>E);have m1:(if w<v then w else v)=v:=Z E;have m2:(if w>v then w else v)=w:=i_
 have b' :aj prog 115 [it (if w<v then w else v),it (if w>v then w else v),it (w - v),it k] fV (Xc v w (w - v) k) fV:=by rw[m1,m2];exact b
 have hR:∃R,R=Xc v w (w - v) k:=⟨_,rfl⟩;refine hR.elim λR hR=> ?_;have hRs:∃x1 x2 x3 x4,R=uw x1 x2 x3 x4 k:=by rw[hR];unfold Xc;split;split<;>exact Et;exact Et
 refine hRs.elim λx1 h=>h.elim λx2 h=>h.elim λx3 h=>h.elim λx4 h=> ?_;rw[<-hR,h]at b' ⊢;refine fo func67 ?_;exact bp
def AN:C 48 [] (ai zR):=by refine fo func48 ?_;exact bz
def Qq(a:Av):C 119 [ai a] (ai (dU a)):=by
 unfold dU;refine(dD (decide (a.lo<a.hi))).elim (λb1=> ?_) (λb1=> ?_)
 ·have h:=tH b1;first|rw[ak h]|skip
  refine fo func119 ?_;exact bz
 ·have h:=Ft b1;first|rw[Z h]|skip
  refine fo func119 ?_;exact bz
def sd(b:List UInt8):au:= .sl 1 (b.map (λb:UInt8=>au.int .u8 b.toNat)) false
def qk(l:List UInt8)(i:Int):Int:=if l.length=0 then 0 else((l.getD (i.tmod l.length).toNat 0).toNat:Nat)
def xx(l:List UInt8)(i:Int)(hl:l.length<2^63)(hi:0<=i∧i<2^40):C 121 [sd l,it i] (it (qk l i)):=by
 unfold qk;by_cases h0:l.length=0;have b1:(((((l.map (λb:UInt8=>au.int .u8 b.toNat)).length:Nat):Int))==0)=true:=by simp[h0]
 rw[ak h0];refine fo func121 ?_;exact bz;have b1:(((((l.map (λb:UInt8=>au.int .u8 b.toNat)).length:Nat):Int))==0)=false:=LI
 have hm1:=dz (l.length:Int) hi.1;have hm2:=fi i (show(0:Int)<(l.length:Int) by omega);have hlt:(i.tmod l.length).toNat<l.length:=E
 have hx:nth (l.map (λb:UInt8=>au.int .u8 b.toNat)) (i.tmod (((l.map (λb:UInt8=>au.int .u8 b.toNat)).length:Nat):Int)).toNat=some (.int .u8 (l[(i.tmod l.length).toNat]).toNat):=by rw[dn,c_,gQ hlt];rfl
 have hm3:0<=i.tmod (((l.map (λb:UInt8=>au.int .u8 b.toNat)).length:Nat):Int):=by rw[dn];exact hm1
 have hg:l.getD (i.tmod l.length).toNat 0=l[(i.tmod l.length).toNat]:=by simp[hlt]
 have hu:=Bd (l[(i.tmod l.length).toNat]);have hne:(((l.map (λb:UInt8=>au.int .u8 b.toNat)).length:Nat):Int)≠0:=uA
 rw[Z h0,hg];refine fo func121 ?_;refine run ?_;refine bt.at rfl hm3 hx ?_;exact bz
def ap5{lo hi mask:Int}(h:lo<=hi)(h1: -(2^20)<lo)(h2:hi<2^20):Xc lo hi 1 mask=ai (mh lo hi 1 mask):=by
 have e1:hiR lo hi 1=hi:=by unfold hiR;rw[Int.tdiv_one,wrap_i64 E E];omega
 have e2:hi - (hi - lo).tmod 1=hi:=by rw[Ba];omega
 unfold Xc mh;rw[e1,e2,ak (show decide ((1:Int)>0)=true by decide),ak (show(0:Int)<1 by decide)];by_cases hh:lo=hi;rw[ak (show(lo==hi)=true by simpa using hh),ak hh];rfl;rw[Z (show ¬(lo==hi)=true by simpa using hh),Z hh];rfl
def SV(r:pG)(h1: -(2^20)<r.lo)(h2:r.lo<=r.hi)(h3:r.hi<2^20):C 47 [bc r] (ai (jh r)):=by have c:=Xb r.lo r.hi 1 r.mask h1 h2 h3 E E;rw[ap5 h2 h1 h3]at c;show C 47 [bc r] (ai (mh r.lo r.hi 1 r.mask));generalize mh r.lo r.hi 1 r.mask=A at c ⊢;refine fo func47 ?_;exact bp
def LL(h:G:=by simp;exact hk2):=h
def Zy(h:G:=by refine aM ?_;have qV:=aL (λx=>some (Row.mk 6 true x)) e;have Iu:=aL (λx:List au=>some (bx5 (.ref 20003 (((Bw d).take d.vars.toNat).map ai).length) (.ref 20009 x.length) (.ref 17 (((d.aK.map kO).length:Nat):Int).toNat) (fR d.vars.toNat d.params.length) (iQ 1 (mm d)))) e;exact y_ hk1):=h
def uB(h:G:=by rw[dn,l7];omega):=h
def Zt(h:G:=by refine aM ?_;have qV:=aL (λx=>some (Row.mk 5 true x)) e;have Iu:=aL (λx:List au=>some (bx5 (.ref 20003 x.length) (.sl 6 [] true) (.ref 17 (((d.aK.map kO).length:Nat):Int).toNat) (fR d.vars.toNat d.params.length) (iQ 1 (mm d)))) e;exact y_ hk1):=h
def Ul(h:G:=by rw[jY hkv,eu];rfl):=h
def ah8(h:G:=by simp at h2;rw[FC,ak (by exact az)];rfl):=h
def TD(h:G:=by rw[jn (by exact eQ)];exact ah8):=h
def Arith.ahk{x:Int}{K:Int->Prop}(h1:0<=x)(h2:x<18446744073709551616)(h:K x):Arith .u64 x K:=⟨by rw[wrap_u64,Fm h1 h2];exact h⟩
def JZ(d:Df)(f:Fa)(level:Int)(h:2<=level):C 51 [bR d,it level,aZ f] (aZ f):=by
 have b2:decide (level>=2)=true:=eQ
 refine(dD f.dead).elim (λb1=> ?_) (λb1=> ?_);refine fo func51 ?_;exact bz;refine fo func51 ?_;exact bz
def VZ{d:Df}(hd:yR d)(hp:d.params.length<=d.vars):(Bw d).length=d.vars.toNat:=by simp[Bw];omega
def some_get{α:Type}{l:List α}{k:Nat}{x:α}(h2:k<l.length)(h:l[k]? =some x):l[k]=x:=by rw[iW h2]at h;exact Option.some.inj h
def am3{d:Df}{k:Nat}(h:k<d.params.length)(h2:k<(Bw d).length):(Bw d)[k]=jh d.params[k]:=some_get h2 (by unfold Bw;rw[lj eQ];simp[h])
def am4{d:Df}{k:Nat}(h:d.params.length<=k)(h2:k<(Bw d).length):(Bw d)[k]=zR:=some_get h2 (by unfold Bw at*;exact TD)
def FJ{d:Df}(hg:d.given.length<=d.refs):(CF d).length=d.refs.toNat:=by simp[CF];omega
def amp{d:Df}{k:Nat}(h:k<d.given.length)(h2:k<(CF d).length):(CF d)[k]=⟨2,jh d.given[k]⟩:=some_get h2 (by unfold CF;rw[lj eQ];simp[h])
def amq{d:Df}{k:Nat}(h:d.given.length<=k)(h2:k<(CF d).length):(CF d)[k]=⟨1,zR⟩:=some_get h2 (by unfold CF at*;exact TD)
def Xv{d:Df}(hd:yR d)(hp:∀r∈d.params,-(2^20)<r.lo∧r.lo<=r.hi∧r.hi<2^20)(hg:∀r∈d.given,-(2^20)<r.lo∧r.lo<=r.hi∧r.hi<2^20)(hgn:d.given.length<=d.refs)(hpt:0<=d.part∧d.part<=15)(hN:C 118 [it d.vars,it ((d.params.map bc).length:Nat)] (dI (fR d.vars.toNat d.params.length))):C 120 [bR d,it 2] (aZ (kL d)):=by
 have pb:=FN hpt;have pb1:=pb.1;have pb2:=pb.2;have pt1:=hpt.1;have hvs:=hd.vars;have hpn:=hd.pn;have hrs:=hd.refs;have han:=hd.an;have hpv:=hd.pv;have hal:(d.aK.map kO).length=d.aK.length:=dn ..;have hA:0<=((d.aK.map kO).length:Int)∧((d.aK.map kO).length:Int)<=2^20:=by rw[hal];omega
 have hvl:=VZ hd hpv;have hrl:=FJ hgn;have hL3:(((d.aK.map kO).length:Nat):Int).toNat=(List.replicate (((d.aK.map kO).length:Nat):Int).toNat (it 0)).length:=O
 have eF:aZ (kL d)= .agg [bo false,.sl 5 (((Bw d).take d.vars.toNat).map ai) false,dI (fR d.vars.toNat d.params.length),.sl 6 (((CF d).take d.refs.toNat).map aN) false,.sl 1 (List.replicate (((d.aK.map kO).length:Nat):Int).toNat (it 0)) false,it 0,it 0,it (iQ 1 (mm d))]:=by rw[oG E,oG E];unfold aZ cF kL fj ints;simp[List.map_replicate]
 have hD:=JZ d (kL d) 2 aw;rw[eF]at hD ⊢;refine d_ hm func120 (λ_=>false) [] (λn=>bif Nat.beq n 14 then[.aS 5 1,.aS 5 3,.aS 5 4]else[]) aA ?_;have oe:(((BitVec.ofInt IntKind.i64.bits 1|||BitVec.ofInt IntKind.i64.bits (IntKind.i64.wrap (1*2^min d.part.toNat IntKind.i64.bits))).toNat:Nat):Int)=iQ 1 (mm d):=rfl;have hvl:=VZ hd hpv;have hrl:=FJ hgn;refine aM ?_;refine Arith.ahk hpt.1 E ?_;refine aM ?_;refine bF.mk ⟨[.cell 5 1 20003],aY.np d.vars.toNat (λ_=>True) (λk=>⟨[(6,it k)],[(5,bx5 (.ref 20003 (((Bw d).take k).map ai).length) (.sl 6 [] true) (.ref 17 (((d.aK.map kO).length:Nat):Int).toNat) (fR d.vars.toNat d.params.length) (iQ 1 (mm d)))],[(20003,⟨5,true,((Bw d).take k).map ai⟩)]⟩) trivial ?_⟩;intro k hk hJ;have hlk:(((Bw d).take k).map ai).length=k:=uB
 by_cases hk1:k<d.vars.toNat;have b1:decide ((k:Int)<d.vars)=true:=az
 have hkv:k<(Bw d).length:=E
 have e:((Bw d).take k).map ai++[ai (Bw d)[k]]=((Bw d).take (k+1)).map ai:=Ul
 by_cases hk2:k<d.params.length;have b2:decide ((k:Int)<((d.params.map bc).length:Nat))=true:=LL;have hr:=hp _ (cU hk2);have c:=SV d.params[k] hr.1 hr.2.1 hr.2.2;have e2:∃R,C 47 [bc d.params[k]] (ai R)∧((Bw d).take k).map ai++[ai R]=((Bw d).take (k+1)).map ai:=⟨jh d.params[k],c,by rw[<-am3 hk2 hkv];exact e⟩;refine e2.elim λR hR=> ?_;have c:=hR.1;have e:=hR.2;refine aM ?_;refine bt.map hk2 rfl ?_;exact Zt;have b2:decide ((k:Int)<((d.params.map bc).length:Nat))=false:=az;have e:((Bw d).take k).map ai++[ai zR]=((Bw d).take (k+1)).map ai:=by rw[<-am4 E hkv];exact e
 have c:=AN;exact Zt;have b1:decide ((k:Int)<d.vars)=false:=az
 have hkk:k=d.vars.toNat:=E
 subst hkk;refine run ?_;refine bF.mk ⟨[.cell 5 3 20009],aY.np d.refs.toNat (λ_=>True) (λk=>⟨[(7,it k)],[(5,bx5 (.ref 20003 (((Bw d).take d.vars.toNat).map ai).length) (.ref 20009 (((CF d).take k).map aN).length) (.ref 17 (((d.aK.map kO).length:Nat):Int).toNat) (fR d.vars.toNat d.params.length) (iQ 1 (mm d)))],[(20009,⟨6,true,((CF d).take k).map aN⟩)]⟩) trivial ?_⟩;intro k hk hJ;have hlk:(((CF d).take k).map aN).length=k:=uB
 by_cases hk1:k<d.refs.toNat;have b1:decide ((k:Int)<d.refs)=true:=az
 have hkv:k<(CF d).length:=E
 have e:((CF d).take k).map aN++[aN (CF d)[k]]=((CF d).take (k+1)).map aN:=Ul
 by_cases hk2:k<d.given.length;have b2:decide ((k:Int)<((d.given.map bc).length:Nat))=true:=LL;have hr:=hg _ (cU hk2);have c:=SV d.given[k] hr.1 hr.2.1 hr.2.2;have e2:∃R,C 47 [bc d.given[k]] (ai R)∧((CF d).take k).map aN++[aN ⟨2,R⟩]=((CF d).take (k+1)).map aN:=⟨jh d.given[k],c,by rw[<-amp hk2 hkv];exact e⟩;refine e2.elim λR hR=> ?_;have c:=hR.1;have e:=hR.2;refine aM ?_;refine bt.map hk2 rfl ?_;exact Zy;have b2:decide ((k:Int)<((d.given.map bc).length:Nat))=false:=az;have e:((CF d).take k).map aN++[aN ⟨1,zR⟩]=((CF d).take (k+1)).map aN:=by rw[<-amq E hkv];exact e
 have c:=AN;exact Zy;have b1:decide ((k:Int)<d.refs)=false:=az
 have hkk:k=d.refs.toNat:=E
 subst hkk;exact bp
def Za(h:G:=by refine aM ?_;have qV:=aL (λx=>some (Row.mk 2 true x)) e;have Iu:=aL (λx:List au=>some (au.ref 9 x.length)) e;exact y_ hk1):=h
structure Wd where
 v:Int
 mask:Int
def jR(w:Wd):au:= .agg [it w.v,it w.mask]
structure Ns where
 w:List UInt8
 b:List UInt8
def WZ(n:Ns):au:= .agg [sd n.w,sd n.b]
def wd0(a b:Int):Wd:=⟨a.tmod 24 - 6,b.tmod 4⟩
def wdP(r:pG)(w:Wd):Wd:=⟨r.lo+(w.v+6).tmod (r.hi - r.lo+1),a_ w.mask r.mask⟩
def rL(d:Df)(n:Ns)(k:Nat):Wd:=if h:k<d.params.length then wdP d.params[k] (wd0 (qk n.w (2*(k:Int))) (qk n.w (2*(k:Int)+1)))else wd0 (qk n.w (2*(k:Int))) (qk n.w (2*(k:Int)+1))
def gi(d:Df)(n:Ns):List Wd:=(List.range d.vars.toNat).map (rL d n)
def kP(l:List UInt8)(i:Int):0<=qk l i∧qk l i<256:=by unfold qk;split;omega;have:=Bd (l.getD (i.tmod l.length).toNat 0);omega
def ab3(d:Df)(n:Ns)(hv:0<=d.vars∧d.vars<=2^20)(hl:n.w.length<2^63)(hp:∀r∈d.params,-(2^20)<r.lo∧r.lo<=r.hi∧r.hi<2^20∧0<=r.mask∧r.mask<=255):C 53 [bR d,WZ n] (fj 2 jR (gi d n)):=by
 have hv1:=hv.2;have hwl:(gi d n).length=d.vars.toNat:=by simp[gi]
 refine fo func53 ?_;refine run ?_;refine bF.mk ⟨[],aY.np d.vars.toNat (λ_=>True) (λk=>⟨[(6,it k),(5,.ref 9 (((gi d n).take k).map jR).length)],[],[(9,⟨2,true,((gi d n).take k).map jR⟩)]⟩) trivial ?_⟩;intro k hk hJ;have hlk:(((gi d n).take k).map jR).length=k:=uB
 by_cases hk1:k<d.vars.toNat;have b1:decide ((k:Int)<d.vars)=true:=az
 have hkv:k<(gi d n).length:=E
 have e:((gi d n).take k).map jR++[jR (rL d n k)]=((gi d n).take (k+1)).map jR:=by rw[jY hkv,eu,show(gi d n)[k]=rL d n k by simp[gi]];rfl
 have c1:=xx n.w (2*(k:Int)) hl E;have c2:=xx n.w (2*(k:Int)+1) hl E;have a1:=kP n.w (2*(k:Int));have a2:=kP n.w (2*(k:Int)+1);by_cases hk2:k<d.params.length;have b2:decide ((k:Int)<((d.params.map bc).length:Nat))=true:=LL;have hr:=hp _ (cU hk2);have e3:∃(R:pG) (a b:Int),d.params[k]=R∧C 121 [sd n.w,it (2*(k:Int))] (it a)∧C 121 [sd n.w,it (2*(k:Int)+1)] (it b)∧(0<=a∧a<256)∧(0<=b∧b<256)∧((gi d n).take k).map jR++[jR (wdP R (wd0 a b))]=((gi d n).take (k+1)).map jR:=⟨_,_,_,rfl,c1,c2,a1,a2,by rw[<-e];unfold rL;rw[dif_pos hk2]⟩;refine e3.elim λR e3=>e3.elim λa e3=>e3.elim λb e3=> ?_;have hR:=e3.1;have c1:=e3.2.1;have c2:=e3.2.2.1;have a1:=e3.2.2.2.1;have a2:=e3.2.2.2.2.1;have e:=e3.2.2.2.2.2;have hr2: -(2^20)<R.lo∧R.lo<=R.hi∧R.hi<2^20∧0<=R.mask∧R.mask<=255:=hR▸hr;have m1:=dz 24 a1.1;have m2:=fi a (show(0:Int)<24 by decide);have m3:=dz 4 a2.1;have m4:=fi b (show(0:Int)<4 by decide);have m5:=dz (R.hi - R.lo+1) (show 0<=a.tmod 24 - 6+6 by omega);have m6:=fi (a.tmod 24 - 6+6) (show(0:Int)<R.hi - R.lo+1 by omega);have hz:R.hi - R.lo+1≠0:=E
 have e4:=ov (b.tmod 4) R.mask;have d4:=iZ (a:=b.tmod 4) (b:=R.mask) (n:=8) E hr2.2.2.2.1 E;have hx:nth (d.params.map bc) ((k:Int)).toNat=some (bc R):=by rw[c_,oF,gQ hk2,hR];rfl
 refine aM ?_;refine bt.at rfl (ft k) hx ?_;exact Za;have b2:decide ((k:Int)<((d.params.map bc).length:Nat))=false:=az;have e3:∃(a b:Int),C 121 [sd n.w,it (2*(k:Int))] (it a)∧C 121 [sd n.w,it (2*(k:Int)+1)] (it b)∧(0<=a∧a<256)∧(0<=b∧b<256)∧((gi d n).take k).map jR++[jR (wd0 a b)]=((gi d n).take (k+1)).map jR:=⟨_,_,c1,c2,a1,a2,by rw[<-e];unfold rL;rw[dif_neg hk2]⟩;refine e3.elim λa e3=>e3.elim λb e3=> ?_;have c1:=e3.1;have c2:=e3.2.1;have a1:=e3.2.2.1;have a2:=e3.2.2.2.1;have e:=e3.2.2.2.2;have m1:=dz 24 a1.1;have m2:=fi a (show(0:Int)<24 by decide);have m3:=dz 4 a2.1;have m4:=fi b (show(0:Int)<4 by decide);exact Za;have b1:decide ((k:Int)<d.vars)=false:=az
 have e:((gi d n).take k).map jR=(gi d n).map jR:=zm
 refine run ?_;exact fP.mk (aL (λx=>au.sl 2 x false) e) rfl
def aga{lo hi m mask:Int}(h:lo<=hi)(h1: -(2^20)<lo)(h2:hi<2^20)(hm:0<=m)(h0:m=0->lo=hi):Xc lo hi m mask=ai (mh lo hi m mask):=by
 unfold Xc mh;by_cases hm0:0<m;have q:(hi - lo).tdiv m*m=hi - lo - (hi - lo).tmod m:=by have:=Int.tdiv_mul_add_tmod (hi - lo) m;omega
 have t1:=dz m (show 0<=hi - lo by omega);have d1:(hi - lo).tdiv m=(hi - lo) / m:=gh E;have d2:0<=(hi - lo) / m:=yj E hm;have d3:(hi - lo) / m<=hi - lo:=ML m E;have e1:hiR lo hi m=hi - (hi - lo).tmod m:=by unfold hiR;rw[wrap_i64 (by rw[d1];omega) (by rw[d1];omega),q];omega
 rw[e1,ak (show decide (m>0)=true by simpa using hm0),ak hm0];by_cases hh:lo=hi - (hi - lo).tmod m;rw[ak (show(lo==hi - (hi - lo).tmod m)=true by simpa using hh),ak hh];rfl;rw[Z (show ¬(lo==hi - (hi - lo).tmod m)=true by simpa using hh),Z hh];rfl;rw[Z (show ¬decide (m>0)=true by simpa using hm0),Z hm0,ak (h0 E)];rfl
def WS(a b:Int):0<=qO a b:=by unfold qO;omega
def ae8(a b:Av)(ha:aR a)(hb:aR b)(a1: -(2^19)<a.lo)(a2:a.hi<2^19)(b1: -(2^19)<b.lo)(b2:b.hi<2^19)(hg:dH (aB a) [aB b,(a.lo - b.lo).natAbs]=qO (qO (il a.lo a.hi a.m) (il b.lo b.hi b.m)) (qm (a.lo - b.lo)))(hs:0<=il a.lo a.hi a.m∧0<=il b.lo b.hi b.m)(hg2:qO (qO (il a.lo a.hi a.m) (il b.lo b.hi b.m)) (qm (a.lo - b.lo))<2^40)(hg0:qO (qO (il a.lo a.hi a.m) (il b.lo b.hi b.m)) (qm (a.lo - b.lo))=0->a.lo=a.hi∧b.lo=b.hi∧a.lo=b.lo):C 67 [ai a,ai b] (ai (fG a b)):=by
 have ale:=ha.le;have ble:=hb.le;have s1:=FF a.lo a.hi a.m a.r a.mask;have s2:=FF b.lo b.hi b.m b.r b.mask;have g1:=Oc (il a.lo a.hi a.m) (il b.lo b.hi b.m) hs.1 hs.2;have ab:=agu (a.lo - b.lo) ⟨E,E⟩;have hab:0<=qm (a.lo - b.lo):=by unfold qm;split<;>omega
 have g2:=Oc (qO (il a.lo a.hi a.m) (il b.lo b.hi b.m)) (qm (a.lo - b.lo)) (WS _ _) hab;have hgn:=WS (qO (il a.lo a.hi a.m) (il b.lo b.hi b.m)) (qm (a.lo - b.lo));unfold fG;rw[hg];generalize qO (qO (il a.lo a.hi a.m) (il b.lo b.hi b.m)) (qm (a.lo - b.lo))=M at*;generalize qO (il a.lo a.hi a.m) (il b.lo b.hi b.m)=M1 at*;generalize qm (a.lo - b.lo)=D at*;generalize il a.lo a.hi a.m=S1 at*;generalize il b.lo b.hi b.m=S2 at*;have l1: -(2^20)<(if b.lo<a.lo then b.lo else a.lo):=i_
 have l2:(if b.hi>a.hi then b.hi else a.hi)<2^20:=i_
 have l3:(if b.lo<a.lo then b.lo else a.lo)<=(if b.hi>a.hi then b.hi else a.hi):=Mr
 have l4:M=0->(if b.lo<a.lo then b.lo else a.lo)=(if b.hi>a.hi then b.hi else a.hi):=λh=>by have:=hg0 h;split<;>split<;>omega
 have cb:=Xb (if b.lo<a.lo then b.lo else a.lo) (if b.hi>a.hi then b.hi else a.hi) M (iQ a.mask b.mask) l1 l3 l2 ⟨hgn,hg2⟩ l4;rw[aga l3 l1 l2 hgn l4]at cb;have oe:=BO a.mask b.mask;have k0:=ha.k0;have k1:=ha.k1;have k2:=hb.k0;have k3:=hb.k1;have od:=or8 k0 k1 k2 k3;generalize mh (if b.lo<a.lo then b.lo else a.lo) (if b.hi>a.hi then b.hi else a.hi) M (iQ a.mask b.mask)=R at cb ⊢;refine fo func67 ?_;exact bp
end Abs
namespace Abs
open Go Go.Proofs
variable{G:Prop}
def HL(x y:Nat):Nat.gcd x y<=x+y:=by rcases Bk x with h|h;subst h;rw[Nat.gcd_zero_left];omega;have:=Nat.gcd_le_left y h;omega
def yu(a:Av):il a.lo a.hi a.m=aB a:=by unfold il aB;by_cases h:a.lo=a.hi;rw[ak h,ak eQ];rw[Z h,Z eQ]
def Q3(x:Int):qm x=(x.natAbs:Nat):=by unfold qm;split<;>omega
def Dh(a b:Av)(ha:aR a)(hb:aR b)(a1: -(2^19)<a.lo)(a2:a.hi<2^19)(b1: -(2^19)<b.lo)(b2:b.hi<2^19):C 67 [ai a,ai b] (ai (fG a b)):=by
 have am:=ha.m;have bm:=hb.m;have al:=ha.le;have bl:=hb.le;have amy:=ha.many;have bmy:=hb.many;have s1:0<=aB a∧aB a<=2^20∧(aB a=0->a.lo=a.hi):=by unfold aB;split<;>omega
 have s2:0<=aB b∧aB b<=2^20∧(aB b=0->b.lo=b.hi):=by unfold aB;split<;>omega
 have hg:((dH (aB a) [aB b,(a.lo - b.lo).natAbs]:Nat):Int)=qO (qO (il a.lo a.hi a.m) (il b.lo b.hi b.m)) (qm (a.lo - b.lo)):=by
  rw[yu,yu,Q3];unfold dH qO;simp only[sN,List.foldl_nil,oF,Int.natAbs_natCast];have e1:(aB a).natAbs=(aB a).toNat:=E
  have e2:(aB b).natAbs=(aB b).toNat:=E
  rw[e1,e2]
 have hv:qO (qO (il a.lo a.hi a.m) (il b.lo b.hi b.m)) (qm (a.lo - b.lo))=(Nat.gcd (Nat.gcd (aB a).toNat (aB b).toNat) (a.lo - b.lo).natAbs:Nat):=by rw[yu,yu,Q3];unfold qO;simp only[oF]
 have q1:=HL (Nat.gcd (aB a).toNat (aB b).toNat) (a.lo - b.lo).natAbs;have q2:=HL (aB a).toNat (aB b).toNat;refine ae8 a b ha hb a1 a2 b1 b2 hg ?_ ?_ ?_;rw[yu,yu];exact⟨s1.1,s2.1⟩;rw[hv];omega;rw[hv];intro h;have h0:Nat.gcd (Nat.gcd (aB a).toNat (aB b).toNat) (a.lo - b.lo).natAbs=0:=E
 have h1:=MU.1 h0;have h2:=MU.1 h1.1;have h3:=s1.2.2 E;have h4:=s2.2.2 E;omega
def arV(n:Ns)(w:Wd)(v:Nat):Av:=
 let x:=qk n.b v;let a:=kM w.v w.mask;let a:=if x.tmod 3>0 then fG a (kM (w.v+(1+(x.tdiv 3).tmod 5)*x.tdiv 16) (x.tmod 4))else a
 if x.tmod 3>1 then fG a (kM (w.v - x.tdiv 32) 0)else a
def arK(n:Ns)(ws:List Wd)(v p:Nat):Int:=
 let x:=qk n.b (7*(v:Int)+p)
 if x.tmod 2=1 then(ws.getD v ⟨0,0⟩).v - (ws.getD p ⟨0,0⟩).v+(x.tdiv 2).tmod 4 else NG
def arR(n:Ns)(i:Nat):Rf:=
 let x:=qk n.b (3*(i:Int)+1)
 if 1+x.tmod 3=1 then⟨1,zR⟩else⟨1+x.tmod 3,fG (kM (x.tdiv 8) 0) (kM (x.tdiv 16) (x.tmod 4))⟩
def eB(d:Df)(n:Ns)(ws:List Wd):Fa:=
 {kL d with
  v:=(List.range ws.length).map λv=>arV n (ws.getD v ⟨0,0⟩) v
  ju:=(List.range ws.length).map λv=>(List.range d.params.length).map λp=>arK n ws v p
  refs:=(List.range d.refs.toNat).map (arR n)
  may:=a_ (qk n.b 2) 7
  ei:=a_ (a_ (qk n.b 2) 7) (qk n.b 5)
  parts:=iQ (iQ 1 (mm d)) (a_ (qk n.b 6) 7)}
def ago(a b:Int):kq (a_ a b) a=0:=by
 unfold kq a_;rw[wU];generalize BitVec.ofInt 64 a=x;generalize BitVec.ofInt 64 b=y;have:(x&&&y)&&& ~~~x=0#64:=by apply M8;intro i hi;simp[hi];intro h;simp[h]
 exact nw
def A6(h:G:=by simp[eB]):=h
def CG(h:G:=by exact⟨by decide,by decide⟩):=h
def i7(h:G:=by rw[e16];omega):=h
def qy(h:G:=by rw[e32];omega):=h
def TT(h:G:=by exact⟨⟨by decide,by decide⟩,Bt,λ_=>rfl⟩):=h
def qx(h:G:=by rw[e8];omega):=h
def apk(n:Ns)(w:Wd)(v:Nat)(h1: -(2^20)<w.v∧w.v<2^20)(h2:0<=w.mask∧w.mask<=255):aR (arV n w v):=by have hx:=kP n.b v;unfold arV;dsimp only;generalize qk n.b v=x at hx ⊢;have d1:=dz 4 hx.1;have d2:=fi x (show(0:Int)<4 by decide);have e3:x.tdiv 3=x / 3:=gh hx.1;have e16:x.tdiv 16=x / 16:=gh hx.1;have e32:x.tdiv 32=x / 32:=gh hx.1;have m1:=dz 5 (show 0<=x.tdiv 3 by rw[e3];omega);have m2:=fi (x.tdiv 3) (show(0:Int)<5 by decide);have p1:0<=(1+(x.tdiv 3).tmod 5)*x.tdiv 16:=oE E i7;have p2:(1+(x.tdiv 3).tmod 5)*x.tdiv 16<=5*15:=sM E i7 i7 aw;have a0:aR (kM w.v w.mask):=jy E E h2.1 h2.2;have a1:aR (kM (w.v+(1+(x.tdiv 3).tmod 5)*x.tdiv 16) (x.tmod 4)):=jy E E d1 E;have a2:aR (kM (w.v - x.tdiv 32) 0):=jy qy qy aw aw;split;split;exact(qL (qL a0 a1).1 a2).1;exact(qL a0 a2).1;split;exact(qL a0 a1).1;exact a0
def apm(n:Ns)(i:Nat):IZ (arR n i):=by have hx:=kP n.b (3*(i:Int)+1);unfold arR;dsimp only;generalize qk n.b (3*(i:Int)+1)=x at hx ⊢;have d1:=dz 4 hx.1;have d2:=fi x (show(0:Int)<4 by decide);have d3:=dz 3 hx.1;have d4:=fi x (show(0:Int)<3 by decide);have e8:x.tdiv 8=x / 8:=gh hx.1;have e16:x.tdiv 16=x / 16:=gh hx.1;have a1:aR (kM (x.tdiv 8) 0):=jy qx qx aw aw;have a2:aR (kM (x.tdiv 16) (x.tmod 4)):=jy i7 i7 d1 E;split;exact TT;rename_i h;exact⟨⟨bu,bu⟩,(qL a1 a2).1,λe=>absurd e h⟩
def YV{d:Df}(hd:yR d)(n:Ns)(ws:List Wd)(hl:ws.length=d.vars.toNat)(hw:∀w∈ws,(-(2^20)<w.v∧w.v<2^20)∧(0<=w.mask∧w.mask<=255))(hpt:0<=d.part∧d.part<=15):pT d (eB d n ws):=by
 have hg:∀k,(-(2^20)<(ws.getD k ⟨0,0⟩).v∧(ws.getD k ⟨0,0⟩).v<2^20)∧(0<=(ws.getD k ⟨0,0⟩).mask∧(ws.getD k ⟨0,0⟩).mask<=255):=λk=>by by_cases hk:k<ws.length;have e:ws.getD k ⟨0,0⟩=ws[k]:=AP;rw[e];exact hw _ (cU hk);have e:ws.getD k ⟨0,0⟩=⟨0,0⟩:=(by simp[u7 hk]);rw[e];exact⟨⟨aw,aw⟩,aw,aw⟩
 have pb:=FN hpt;have b2:=kP n.b 2;have b5:=kP n.b 5;have b6:=kP n.b 6;have y1:=iZ (a:=qk n.b 2) (b:=7) (n:=8) E aw aw;have y2:=iZ (a:=a_ (qk n.b 2) 7) (b:=qk n.b 5) (n:=8) E b5.1 E;have y3:=iZ (a:=qk n.b 6) (b:=7) (n:=16) E aw aw;have y4:=sY (a:=iQ 1 (mm d)) (b:=a_ (qk n.b 6) 7) (n:=16) E pb.1 E y3.1 y3.2;refine⟨rfl,by simp[eB,hl],?_,⟨by simp[eB,hl],?_⟩,A6,?_,by simp[eB,kL],?_,?_,?_,?_,ago _ _⟩;intro a ha;simp only[eB,dV]at ha;obtain⟨v,_,rfl⟩:=ha;exact apk n _ v (hg v).1 (hg v).2;intro l hl2;simp only[eB,dV]at hl2;obtain⟨v,_,rfl⟩:=hl2;refine⟨O,λk hk=> ?_⟩;simp only[dV]at hk;obtain⟨p,_,rfl⟩:=hk;rw[HF];unfold arK;have hx:=kP n.b (7*(v:Int)+p);dsimp only;generalize qk n.b (7*(v:Int)+p)=x at hx ⊢;split;right;have e2:x.tdiv 2=x / 2:=gh hx.1;have m1:=dz 4 (show 0<=x.tdiv 2 by rw[e2];omega);have m2:=fi (x.tdiv 2) (show(0:Int)<4 by decide);have h1:=(hg v).1;have h2:=(hg p).1;omega;left;rfl;intro r hr;simp only[eB,dV]at hr;obtain⟨i,_,rfl⟩:=hr;exact apm n i;intro x hx;simp only[eB,kL]at hx;rw[Gg hx];exact CG;show 0<=a_ (a_ (qk n.b 2) 7) (qk n.b 5)∧_<=255;exact⟨y2.1,by show a_ (a_ (qk n.b 2) 7) (qk n.b 5)<=255;omega⟩;show 0<=a_ (qk n.b 2) 7∧_<=255;exact⟨y1.1,by show a_ (qk n.b 2) 7<=255;omega⟩;exact⟨y4.1,by show iQ (iQ 1 (mm d)) (a_ (qk n.b 6) 7)<=65535;omega⟩
def Xm(d:Df)(n:Ns)(k:Nat)(hp:∀r∈d.params,-(2^20)<r.lo∧r.lo<=r.hi∧r.hi<2^20∧0<=r.mask∧r.mask<=255):(-(2^20)<(rL d n k).v∧(rL d n k).v<2^20)∧(0<=(rL d n k).mask∧(rL d n k).mask<=255):=by have a1:=kP n.w (2*(k:Int));have a2:=kP n.w (2*(k:Int)+1);unfold rL;generalize qk n.w (2*(k:Int))=a at a1 ⊢;generalize qk n.w (2*(k:Int)+1)=b at a2 ⊢;have m1:=dz 24 a1.1;have m2:=fi a (show(0:Int)<24 by decide);have m3:=dz 4 a2.1;have m4:=fi b (show(0:Int)<4 by decide);split;rename_i hk;have hr:=hp _ (cU hk);generalize d.params[k]=R at hr ⊢;have m5:=dz (R.hi - R.lo+1) (show 0<=a.tmod 24 - 6+6 by omega);have m6:=fi (a.tmod 24 - 6+6) (show(0:Int)<R.hi - R.lo+1 by omega);have d4:=iZ (a:=b.tmod 4) (b:=R.mask) (n:=8) E hr.2.2.2.1 E;unfold wdP wd0;exact bu;unfold wd0;exact bu
def I7(d:Df)(n:Ns):(gi d n).length=d.vars.toNat:=by simp[gi]
def OR{d:Df}{n:Ns}(hp:∀r∈d.params,-(2^20)<r.lo∧r.lo<=r.hi∧r.hi<2^20∧0<=r.mask∧r.mask<=255):∀w∈gi d n,(-(2^20)<w.v∧w.v<2^20)∧(0<=w.mask∧w.mask<=255):=λw hw=>by unfold gi at hw;obtain⟨k,_,rfl⟩:=dV.1 hw;exact Xm d n k hp
def LC(h:G:=by rw[e2];omega):=h
def bxA(v g r arr:au)(ei may parts:Int):au:= .agg [bo false,v,g,r,arr,it ei,it may,it parts]
def QC(f:Fa)(h:f.dead=false):aZ f=bxA (fj 5 ai f.v) (dI f.ju) (fj 6 aN f.refs) (ints f.arr) f.ei f.may f.parts:=by obtain⟨d,v,g,r,arr,mu,ma,pa⟩:=f;dsimp only at h;subst h;rfl
def G4(v mask:Int)(h: -(2^20)<v∧v<2^20):C 68 [.agg [it v,it mask]] (ai (kM v mask)):=acx v mask h
def ap6(lo hi k:Int)(m:Nat)(h:lo<=hi):(mh lo hi m k).lo=lo∧(mh lo hi m k).hi<=hi:=by unfold mh;by_cases hm:(0:Int)<m;rw[ak hm];have h1:=dz (m:Int) (show 0<=hi - lo by omega);split;exact⟨rfl,h⟩;exact⟨rfl,bu⟩;rw[Z hm];split;exact⟨rfl,h⟩;exact⟨rfl,pt _⟩
def ae9(a b:Av)(ha:a.lo<=a.hi)(hb:b.lo<=b.hi):(a.lo<=(fG a b).lo∨b.lo<=(fG a b).lo)∧((fG a b).hi<=a.hi∨(fG a b).hi<=b.hi):=by
 unfold fG;have h:=ap6 (if b.lo<a.lo then b.lo else a.lo) (if b.hi>a.hi then b.hi else a.hi) (iQ a.mask b.mask) (dH (aB a) [aB b,(a.lo - b.lo).natAbs]) Mr;rw[h.1];refine⟨i_,?_⟩;have hmax:(if b.hi>a.hi then b.hi else a.hi)<=a.hi∨(if b.hi>a.hi then b.hi else a.hi)<=b.hi:=i_
 exact hmax.imp (Int.le_trans h.2) (Int.le_trans h.2)
def apl(n:Ns)(w:Wd)(k:Nat)(hn:n.b.length<2^63)(hk:k<2^20)(h1: -(2^18)<w.v∧w.v<2^18)(h2:0<=w.mask∧w.mask<=255):∃x A0 AR,arV n w k=AR∧(0<=x∧x<256)∧C 121 [sd n.b,it (k:Int)] (it x)∧C 68 [.agg [it w.v,it w.mask]] (ai A0)∧((x.tmod 3=0∧A0=AR)∨(x.tmod 3=1∧∃A1,C 68 [.agg [it (w.v+(1+(x.tdiv 3).tmod 5)*x.tdiv 16),it (x.tmod 4)]] (ai A1)∧C 67 [ai A0,ai A1] (ai AR))∨(x.tmod 3=2∧∃A1 A2 B1,C 68 [.agg [it (w.v+(1+(x.tdiv 3).tmod 5)*x.tdiv 16),it (x.tmod 4)]] (ai A1)∧C 67 [ai A0,ai A1] (ai B1)∧C 68 [.agg [it (w.v - x.tdiv 32),it 0]] (ai A2)∧C 67 [ai B1,ai A2] (ai AR))):=by have cx:=xx n.b (k:Int) hn E;have hx:=kP n.b k;refine⟨qk n.b k,kM w.v w.mask,_,rfl,hx,cx,G4 _ _ E,?_⟩;unfold arV;dsimp only;generalize qk n.b k=x at hx ⊢;have d1:=dz 4 hx.1;have d2:=fi x (show(0:Int)<4 by decide);have d3:=dz 3 hx.1;have d4:=fi x (show(0:Int)<3 by decide);have e3:x.tdiv 3=x / 3:=gh hx.1;have e16:x.tdiv 16=x / 16:=gh hx.1;have e32:x.tdiv 32=x / 32:=gh hx.1;have m1:=dz 5 (show 0<=x.tdiv 3 by rw[e3];omega);have m2:=fi (x.tdiv 3) (show(0:Int)<5 by decide);have p1:0<=(1+(x.tdiv 3).tmod 5)*x.tdiv 16:=oE E i7;have p2:(1+(x.tdiv 3).tmod 5)*x.tdiv 16<=5*15:=sM E i7 i7 aw;have a0:aR (kM w.v w.mask):=jy E E h2.1 h2.2;have a1:aR (kM (w.v+(1+(x.tdiv 3).tmod 5)*x.tdiv 16) (x.tmod 4)):=jy E E d1 E;have a2:aR (kM (w.v - x.tdiv 32) 0):=jy qy qy aw aw;have c1:=G4 (w.v+(1+(x.tdiv 3).tmod 5)*x.tdiv 16) (x.tmod 4) E;have c2:=G4 (w.v - x.tdiv 32) 0 qy;have j1:=Dh _ _ a0 a1 (by show _<w.v;omega) (by show w.v<_;omega) (by show _<w.v+_;omega) (by show w.v+_<_;omega);have b1:=(qL a0 a1).1;rcases(show x.tmod 3=0∨x.tmod 3=1∨x.tmod 3=2 by omega)with h|h|h;left;rw[Z (show ¬x.tmod 3>1 by omega),Z (show ¬x.tmod 3>0 by omega)];exact⟨h,rfl⟩;right;left;rw[Z (show ¬x.tmod 3>1 by omega),ak (show x.tmod 3>0 by omega)];exact⟨h,_,c1,j1⟩;right;right;rw[ak (show x.tmod 3>1 by omega),ak (show x.tmod 3>0 by omega)];have hle:=ae9 (kM w.v w.mask) (kM (w.v+(1+(x.tdiv 3).tmod 5)*x.tdiv 16) (x.tmod 4)) (pt _) (pt _);have q1:(kM w.v w.mask).lo=w.v∧(kM w.v w.mask).hi=w.v:=⟨rfl,rfl⟩;have q2:(kM (w.v+(1+(x.tdiv 3).tmod 5)*x.tdiv 16) (x.tmod 4)).lo=w.v+(1+(x.tdiv 3).tmod 5)*x.tdiv 16∧(kM (w.v+(1+(x.tdiv 3).tmod 5)*x.tdiv 16) (x.tmod 4)).hi=w.v+(1+(x.tdiv 3).tmod 5)*x.tdiv 16:=⟨rfl,rfl⟩;refine⟨h,_,_,_,c1,j1,c2,Dh _ _ b1 a2 ?_ ?_ ?_ ?_⟩;omega;omega;show _<w.v - _;exact qy;show w.v - _<_;exact qy
def apo(n:Ns)(ws:List Wd)(v p:Nat)(hn:n.b.length<2^63)(hv:v<ws.length)(hp:p<ws.length)(hl:ws.length<=2^20):∃x K,arK n ws v p=K∧(0<=x∧x<256)∧C 121 [sd n.b,it (7*(v:Int)+p)] (it x)∧(0<=(x.tdiv 2).tmod 4∧(x.tdiv 2).tmod 4<4)∧((x.tmod 2=1∧K=ws[v].v - ws[p].v+(x.tdiv 2).tmod 4)∨(x.tmod 2≠1∧K=NG)):=by
 have cx:=xx n.b (7*(v:Int)+p) hn E;have hx:=kP n.b (7*(v:Int)+p);refine⟨qk n.b (7*(v:Int)+p),_,rfl,hx,cx,?_,?_⟩;have e2:(qk n.b (7*(v:Int)+p)).tdiv 2=qk n.b (7*(v:Int)+p) / 2:=gh hx.1;exact⟨dz 4 LC,fi _ aw⟩;unfold arK;dsimp only;have e1:ws.getD v ⟨0,0⟩=ws[v]:=by simp[hv]
 have e2:ws.getD p ⟨0,0⟩=ws[p]:=by simp[hp]
 rw[e1,e2];by_cases h:(qk n.b (7*(v:Int)+p)).tmod 2=1;left;rw[ak h];exact⟨h,rfl⟩;right;rw[Z h];exact⟨h,rfl⟩
def apn(n:Ns)(i:Nat)(hn:n.b.length<2^63)(hi:i<2^21):∃x R,arR n i=R∧(0<=x∧x<256)∧C 121 [sd n.b,it (3*(i:Int)+1)] (it x)∧(0<=x.tmod 3∧x.tmod 3<3)∧((1+x.tmod 3=1∧R=⟨1+x.tmod 3,zR⟩)∨(1+x.tmod 3≠1∧∃A B J,C 68 [.agg [it (x.tdiv 8),it 0]] (ai A)∧C 68 [.agg [it (x.tdiv 16),it (x.tmod 4)]] (ai B)∧C 67 [ai A,ai B] (ai J)∧R=⟨1+x.tmod 3,J⟩)):=by have cx:=xx n.b (3*(i:Int)+1) hn E;have hx:=kP n.b (3*(i:Int)+1);refine⟨qk n.b (3*(i:Int)+1),_,rfl,hx,cx,?_,?_⟩;exact⟨dz 3 hx.1,fi _ aw⟩;unfold arR;dsimp only;generalize qk n.b (3*(i:Int)+1)=x at hx ⊢;by_cases h:1+x.tmod 3=1;left;rw[ak h];exact⟨h,by rw[h]⟩;right;rw[Z h];have d1:=dz 4 hx.1;have d2:=fi x (show(0:Int)<4 by decide);have e8:x.tdiv 8=x / 8:=gh hx.1;have e16:x.tdiv 16=x / 16:=gh hx.1;have a1:aR (kM (x.tdiv 8) 0):=jy qx qx aw aw;have a2:aR (kM (x.tdiv 16) (x.tmod 4)):=jy i7 i7 d1 E;exact⟨h,_,_,_,G4 _ _ qx,G4 _ _ i7,Dh _ _ a1 a2 (by show _<x.tdiv 8;exact qx) (by show x.tdiv 8<_;exact qx) (by show _<x.tdiv 16;exact i7) (by show x.tdiv 16<_;exact i7),rfl⟩
def rW(a b:List Rf)(k:Nat):List Rf:=a.take k++b.drop k
def PL{a b:List Rf}(h:a.length=b.length){k:Nat}(hk:k<=a.length):(rW a b k).length=a.length:=by simp[rW];omega
def adm{a b:List Rf}(h:a.length=b.length){k:Nat}(hk:k<a.length):(rW a b k).set k a[k]=rW a b (k+1):=by
 unfold rW;have hk2:k<b.length:=E
 have hl:(a.take k).length=k:=rB
 rw[Bo _ _ E,hl,lZ,uX hk2,Bj,jY hk,rH];rfl
end Abs
namespace Abs
open Go Go.Proofs Tryz
variable{G:Prop}
def Me(h:G:=by rw[w16,e16];omega):=h
def Md(h:G:=by rw[<-h4.2];exact e):=h
def sK(h:G:=by rw[h4.1];rfl):=h
def ZD(h:G:=by refine aM ?_;refine bt.at rfl (ft k) hx ?_;refine aM ?_;have qV:=aL (λx=>some (Row.mk 5 true x)) e;have Iu:=aL (λx:List au=>some (bxA (.ref 20004 x.length) (dI G0) (fj 6 aN R0) (ints A) 0 0 P)) e;exact y_ hk1):=h
def Zx(h:G:=by refine aM ?_;refine bt.at rfl (ft i) hxi ?_;refine aM ?_;refine bt.at rfl (ft i) hxi ?_;refine aM ?_;have qV:=aL (λx:List au=>some (bxA (.sl 5 ((V.take ws.length).map ai) false) (.sl 1 ((G.take v).map ints) false) (.sl 6 x false) (ints A) 0 0 P)) e;exact y_ hi1):=h
def Zb(h:G:=by refine aM ?_;have qV:=aL (λx:List au=>some (au.ref 91 x.length)) e;have Iu:=aL (λx=>some (Row.mk 1 true x)) e;exact y_ hp1):=h
def Y9(h:G:=by have h:=aia d.vars.toNat d.params.length (by omega) (by omega);rw[Bm (by omega)]at h;rw[dn];exact h):=h
def Ua(h:G:=by refine aM ?_;refine bt.at rfl (ft k) hx ?_;exact ZD):=h
def Tk{d:Df}(hd:yR d)(n:Ns)(ws:List Wd)(hn:n.b.length<2^63)(hwl:ws.length=d.vars.toNat)(hw:∀w∈ws,(-(2^18)<w.v∧w.v<2^18)∧(0<=w.mask∧w.mask<=255))(hp:∀r∈d.params,-(2^20)<r.lo∧r.lo<=r.hi∧r.hi<2^20)(hg:∀r∈d.given,-(2^20)<r.lo∧r.lo<=r.hi∧r.hi<2^20)(hgn:d.given.length<=d.refs)(hpt:0<=d.part∧d.part<=15):C 52 [bR d,fj 2 jR ws,WZ n] (aZ (eB d n ws)):=by
 have hvs:=hd.vars;have hpn:=hd.pn;have hrs:=hd.refs;have hpv:=hd.pv;have hN:C 118 [it d.vars,it ((d.params.map bc).length:Nat)] (dI (fR d.vars.toNat d.params.length)):=Y9
 have c0:=Xv hd hp hg hgn hpt hN;rw[QC _ rfl]at c0;rw[QC _ rfl];have au6:ws.length<=2^20:=E
 have hVl:(eB d n ws).v.length=ws.length:=A6
 have hVg:∀k (h:k<ws.length),((eB d n ws).v[k]' E)=arV n ws[k] k:=λk h=>by simp[eB,h]
 have hGl:(eB d n ws).ju.length=ws.length:=A6
 have hGg:∀k (h:k<ws.length),((eB d n ws).ju[k]' E)=(List.range d.params.length).map (arK n ws k):=λk h=>A6
 have hRl:(eB d n ws).refs.length=(CF d).length:=by rw[FJ hgn];simp[eB]
 have hRg:∀k (h:k<(CF d).length),((eB d n ws).refs[k]' E)=arR n k:=λk h=>A6
 have hrl2:(CF d).length<=2^20:=by rw[FJ hgn];omega
 have hA:(kL d).arr=(eB d n ws).arr:=rfl;have k2:=xx n.b 2 hn E;have k5:=xx n.b 5 hn E;have k6:=xx n.b 6 hn E;have arx:(eB d n ws).may=a_ (qk n.b 2) 7:=rfl;have alb:(eB d n ws).ei=a_ (a_ (qk n.b 2) 7) (qk n.b 5):=rfl;have arv:(eB d n ws).parts=iQ (kL d).parts (a_ (qk n.b 6) 7):=rfl;rw[arx,alb,arv];rw[hA]at c0;have c1:∃V0 G0,C 120 [bR d,it 2] (bxA (fj 5 ai V0) (dI G0) (fj 6 aN (CF d)) (ints (eB d n ws).arr) 0 0 (kL d).parts):=⟨_,_,c0⟩;clear c0 arx alb arv hA;generalize (eB d n ws).arr=A at c1 ⊢;have hPe:(kL d).parts=iQ 1 (mm d):=rfl;have hPb:0<=(kL d).parts∧(kL d).parts<2^16:=by have pb:=FN hpt;rw[hPe];omega
 clear hPe;generalize (kL d).parts=P at c1 hPb ⊢;have hV:∃V,V=(eB d n ws).v∧V.length=ws.length∧∀k (h:k<ws.length) (h2:k<V.length),V[k]=arV n ws[k] k:=⟨_,rfl,hVl,λk h _=>hVg k h⟩;have hG:∃G,G=(eB d n ws).ju∧G.length=ws.length∧∀k (h:k<ws.length) (h2:k<G.length),G[k]=(List.range d.params.length).map (arK n ws k):=⟨_,rfl,hGl,λk h _=>hGg k h⟩;have hR:∃R,R=(eB d n ws).refs∧R.length=(CF d).length∧∀k (h2:k<R.length),R[k]=arR n k:=⟨_,rfl,hRl,λk h=>hRg k E⟩;clear hVl hVg hGl hGg hRl hRg;obtain⟨V,hVe,hVl,hVg⟩:=hV;obtain⟨G,hGe,hGl,hGg⟩:=hG;obtain⟨R,hRe,hRl,hRg⟩:=hR;rw[<-hVe,<-hGe,<-hRe];clear hVe hGe hRe;generalize CF d=R0 at hRl hrl2 c1;have n2:=kP n.b 2;have n5:=kP n.b 5;have n6:=kP n.b 6;generalize qk n.b 2=x2 at k2 n2 ⊢;generalize qk n.b 5=x5 at k5 n5 ⊢;generalize qk n.b 6=x6 at k6 n6 ⊢;refine c1.elim λV0 c1=>c1.elim λG0 c1=> ?_;refine d_ hm func52 (λ_=>false) [] (λn=>bif Nat.beq n 14 then[.aS 7 1]else bif Nat.beq n 27 then[.lay 14]else bif Nat.beq n 28 then[.lay 12]else bif Nat.beq n 31 then[.aS 7 3]else[]) aA ?_;have y2:=ov x2 7;have y5:=ov (a_ x2 7) x5;have y6:=ov x6 7;have y7:=BO P (a_ x6 7);have v2:=iZ (a:=x2) (b:=7) (n:=8) E aw aw;have v5:=iZ (a:=a_ x2 7) (b:=x5) (n:=8) E n5.1 E;have v6:=iZ (a:=x6) (b:=7) (n:=16) E aw aw;have v7:=sY (a:=P) (b:=a_ x6 7) (n:=16) E hPb.1 hPb.2 v6.1 v6.2;refine aM ?_;refine bF.mk ⟨[.cell 7 1 20004],aY.np ws.length (λ_=>True) (λk=>⟨[(8,it k)],[(7,bxA (.ref 20004 ((V.take k).map ai).length) (dI G0) (fj 6 aN R0) (ints A) 0 0 P)],[(20004,⟨5,true,(V.take k).map ai⟩)]⟩) trivial ?_⟩;intro k hk hJ;have hlk:((V.take k).map ai).length=k:=uB
 by_cases hk1:k<ws.length;have b1:decide ((k:Int)<((ws.map jR).length:Nat))=true:=az
 have hkv:k<V.length:=E
 have hwk:=hw _ (cU hk1);have h3:∃(a b x:Int) (A0 AR:Av),nth (ws.map jR) ((k:Int)).toNat=some (.agg [it a,it b])∧(V.take k).map ai++[ai AR]=(V.take (k+1)).map ai∧((-(2^18)<a∧a<2^18)∧(0<=b∧b<=255))∧(0<=x∧x<256)∧C 121 [sd n.b,it (k:Int)] (it x)∧C 68 [.agg [it a,it b]] (ai A0)∧
  ((x.tmod 3=0∧A0=AR)∨
   (x.tmod 3=1∧∃A1,C 68 [.agg [it (a+(1+(x.tdiv 3).tmod 5)*x.tdiv 16),it (x.tmod 4)]] (ai A1)∧C 67 [ai A0,ai A1] (ai AR))∨
   (x.tmod 3=2∧∃A1 A2 B1,C 68 [.agg [it (a+(1+(x.tdiv 3).tmod 5)*x.tdiv 16),it (x.tmod 4)]] (ai A1)∧C 67 [ai A0,ai A1] (ai B1)∧C 68 [.agg [it (a - x.tdiv 32),it 0]] (ai A2)∧C 67 [ai B1,ai A2] (ai AR))):=by
  obtain⟨x,A0,AR,e,h1,h2,h3,h4⟩:=apl n ws[k] k hn E hwk.1 hwk.2;refine⟨_,_,x,A0,AR,by rw[c_,oF,gQ hk1];rfl,?_,hwk,h1,h2,h3,h4⟩;rw[jY hkv,eu,hVg k hk1 hkv,e];rfl
 refine h3.elim λa h3=>h3.elim λb h3=>h3.elim λx h3=>h3.elim λA0 h3=>h3.elim λAR h3=> ?_;have hx:=h3.1;have e:=h3.2.1;have hab:=h3.2.2.1;have hxb:=h3.2.2.2.1;have cx:=h3.2.2.2.2.1;have cA:=h3.2.2.2.2.2.1;have d1:=dz 4 hxb.1;have d2:=fi x (show(0:Int)<4 by decide);have e3:x.tdiv 3=x / 3:=gh hxb.1;have e16:x.tdiv 16=x / 16:=gh hxb.1;have e32:x.tdiv 32=x / 32:=gh hxb.1;have w3:IntKind.i64.wrap (x.tdiv 3)=x.tdiv 3:=wrap_i64 (by rw[e3];omega) (by rw[e3];omega);have w16:IntKind.i64.wrap (x.tdiv 16)=x.tdiv 16:=wrap_i64 i7 i7;have As:IntKind.i64.wrap (x.tdiv 32)=x.tdiv 32:=wrap_i64 qy qy;have m1:0<=(IntKind.i64.wrap (x.tdiv 3)).tmod 5:=dz 5 (show 0<=IntKind.i64.wrap (x.tdiv 3) by rw[w3,e3];omega);have m2:=fi (IntKind.i64.wrap (x.tdiv 3)) (show(0:Int)<5 by decide);have p1:0<=(1+(IntKind.i64.wrap (x.tdiv 3)).tmod 5)*IntKind.i64.wrap (x.tdiv 16):=oE E Me;have p2:(1+(IntKind.i64.wrap (x.tdiv 3)).tmod 5)*IntKind.i64.wrap (x.tdiv 16)<=5*15:=sM E Me Me aw;have q32:0<=IntKind.i64.wrap (x.tdiv 32)∧IntKind.i64.wrap (x.tdiv 32)<8:=by rw[As,e32];omega
 clear e3 e16 e32;refine h3.2.2.2.2.2.2.elim (λh4=> ?_) (λh4=>h4.elim (λh4=> ?_) (λh4=> ?_));have b2:decide (x.tmod 3>0)=false:=sK;have b3:decide (x.tmod 3>1)=false:=sK
 have cB:C 68 [.agg [it a,it b]] (ai AR):=h4.2▸cA;exact ZD;have b2:decide (x.tmod 3>0)=true:=sK;have b3:decide (x.tmod 3>1)=false:=sK
 refine h4.2.elim λA1 h5=> ?_;have c2:C 68 [.agg [it (a+(1+(IntKind.i64.wrap (x.tdiv 3)).tmod 5)*IntKind.i64.wrap (x.tdiv 16)),it (x.tmod 4)]] (ai A1):=by rw[w3,w16];exact h5.1
 have c3:=h5.2;exact Ua;have b2:decide (x.tmod 3>0)=true:=sK;have b3:decide (x.tmod 3>1)=true:=sK
 refine h4.2.elim λA1 h5=>h5.elim λA2 h5=>h5.elim λB1 h5=> ?_;have c2:C 68 [.agg [it (a+(1+(IntKind.i64.wrap (x.tdiv 3)).tmod 5)*IntKind.i64.wrap (x.tdiv 16)),it (x.tmod 4)]] (ai A1):=by rw[w3,w16];exact h5.1
 have c3:=h5.2.1;have c4:C 68 [.agg [it (a - IntKind.i64.wrap (x.tdiv 32)),it 0]] (ai A2):=by rw[As];exact h5.2.2.1
 have c5:=h5.2.2.2;refine aM ?_;refine bt.at rfl (ft k) hx ?_;exact Ua;have b1:decide ((k:Int)<((ws.map jR).length:Nat))=false:=az
 have hkk:k=ws.length:=E
 subst hkk;have eV:(V.take ws.length).map ai=V.map ai:=zm
 have hgl:∀v,v<=ws.length->((G.take v).map ints).length=v:=λv h=>uB
 refine run ?_;refine bF.mk ⟨[],aY.np ws.length (λ_=>True) (λv=>⟨[(13,it v),(12,.ref 84 ((G.take v).map ints).length)],[],[(84,⟨1,true,(G.take v).map ints⟩)]⟩) trivial ?_⟩;intro v hv0 hJ2;have hlv:=hgl v hv0;by_cases hv1:v<ws.length;have b2:decide ((v:Int)<((ws.map jR).length:Nat))=true:=az
 have hgv:v<G.length:=E
 have hrow:∃row:List Int,row=(List.range d.params.length).map (arK n ws v)∧row.length=d.params.length∧∀p (h:p<row.length),row[p]=arK n ws v p:=⟨_,rfl,O,λp h=>O⟩;refine hrow.elim λrow hrow=> ?_;have hnext:(G.take v).map ints++[ints row]=(G.take (v+1)).map ints:=by rw[jY hgv,eu,hGg v hv1 hgv,<-hrow.1];rfl
 have hrl:=hrow.2.1;have hrg:=hrow.2.2;have hxv:nth (ws.map jR) ((v:Int)).toNat=some (.agg [it ws[v].v,it ws[v].mask]):=by rw[c_,oF,gQ hv1];rfl
 have hwv:=hw _ (cU hv1);have hh:∃wv mv,nth (ws.map jR) ((v:Int)).toNat=some (.agg [it wv,it mv])∧ws[v].v=wv∧-(2^18)<wv∧wv<2^18:=⟨_,_,hxv,rfl,hwv.1⟩;clear hrow hxv hwv;refine hh.elim λwv hh=>hh.elim λmv hh=> ?_;have hxv:=hh.1;have hwv:=hh.2.1;have hwb:=hh.2.2;have hpl:∀p,p<=d.params.length->((row.take p).map it).length=p:=λp h=>uB
 refine run ?_;refine bF.mk ⟨[],aY.np d.params.length (λ_=>True) (λp=>⟨[(15,it p),(14,.ref 91 ((row.take p).map it).length)],[],[(91,⟨1,true,(row.take p).map it⟩)]⟩) trivial ?_⟩;intro p hp0 hJ3;have hlp:=hpl p hp0;by_cases hp1:p<d.params.length;have b3:decide ((p:Int)<((d.params.map bc).length:Nat))=true:=az;have hpw:p<ws.length:=E
 have hwp:=hw _ (cU hpw);have hpr:p<row.length:=E
 have hs:∃(wp mp x K:Int),nth (ws.map jR) ((p:Int)).toNat=some (.agg [it wp,it mp])∧(-(2^18)<wp∧wp<2^18)∧(0<=x∧x<256)∧C 121 [sd n.b,it (7*(v:Int)+p)] (it x)∧(0<=(IntKind.i64.wrap (x.tdiv 2)).tmod 4∧(IntKind.i64.wrap (x.tdiv 2)).tmod 4<4)∧(row.take p).map it++[it K]=(row.take (p+1)).map it∧
  ((x.tmod 2==1)=true∧K=wv - wp+(IntKind.i64.wrap (x.tdiv 2)).tmod 4∨(x.tmod 2==1)=false∧K=NG):=by
  obtain⟨x,K,e,h1,h2,h3,h4⟩:=apo n ws v p hn hv1 hpw au6;have e2:x.tdiv 2=x / 2:=gh h1.1;have w2:IntKind.i64.wrap (x.tdiv 2)=x.tdiv 2:=wrap_i64 LC LC;rw[hwv]at h4;refine⟨ws[p].v,ws[p].mask,x,K,by rw[c_,oF,gQ hpw];rfl,hwp.1,h1,h2,by rw[w2];exact h3,?_,?_⟩;rw[jY hpr,eu,hrg p hpr,e];rfl;rw[w2];exact h4.imp (λh=>⟨by simpa using h.1,h.2⟩) (λh=>⟨by simpa using h.1,h.2⟩)
 refine hs.elim λwp hs=>hs.elim λmp hs=>hs.elim λx hs=>hs.elim λK hs=> ?_;have hxp:=hs.1;have avo:=hs.2.1;have hxb:=hs.2.2.1;have cx:=hs.2.2.2.1;have hm4:=hs.2.2.2.2.1;have e:=hs.2.2.2.2.2.1;refine hs.2.2.2.2.2.2.elim (λh4=> ?_) (λh4=> ?_);have b4:=h4.1;have e:(row.take p).map it++[it (wv - wp+(IntKind.i64.wrap (x.tdiv 2)).tmod 4)]=(row.take (p+1)).map it:=Md
 refine aM ?_;refine bt.at rfl (ft v) hxv ?_;refine aM ?_;refine bt.at rfl (ft p) hxp ?_;exact Zb;have b4:=h4.1;have e:(row.take p).map it++[it NG]=(row.take (p+1)).map it:=Md
 exact Zb;have b3:decide ((p:Int)<((d.params.map bc).length:Nat))=false:=az;have hr2:((row.take p).map it)=row.map it:=zm
 have hn2:(G.take v).map ints++[au.sl 1 ((row.take p).map it) false]=(G.take (v+1)).map ints:=(by rw[hr2];exact hnext);refine run ?_;have qV:=aL (λx:List au=>some (au.ref 84 x.length)) hn2;exact UC;have b2:decide ((v:Int)<((ws.map jR).length:Nat))=false:=az
 have eG:(G.take v).map ints=G.map ints:=zm
 refine run ?_;refine bF.mk ⟨[],aY.np R0.length (λ_=>True) (λi=>⟨[(18,it i)],[(7,bxA (.sl 5 ((V.take ws.length).map ai) false) (.sl 1 ((G.take v).map ints) false) (fj 6 aN (rW R R0 i)) (ints A) 0 0 P)],[]⟩) trivial ?_⟩;intro i hi0 hJ4;have hml:i<=R0.length->((rW R R0 i).map aN).length=R0.length:=λh=>by rw[dn,PL hRl E];exact hRl
 by_cases hi1:i<R0.length;have hml:=hml hi0;have b3:decide ((i:Int)<(((rW R R0 i).map aN).length:Nat))=true:=by rw[hml];simp;exact hi1
 have hir:i<R.length:=E
 have hs:∃(x:Int) (Rr:Rf),(0<=x∧x<256)∧C 121 [sd n.b,it (3*(i:Int)+1)] (it x)∧(0<=x.tmod 3∧x.tmod 3<3)∧((rW R R0 i).map aN).set i (aN Rr)=(rW R R0 (i+1)).map aN∧
  ((1+x.tmod 3=1∧Rr=⟨1+x.tmod 3,zR⟩)∨
   (1+x.tmod 3≠1∧∃A B J,C 68 [.agg [it (IntKind.i64.wrap (x.tdiv 8)),it 0]] (ai A)∧C 68 [.agg [it (IntKind.i64.wrap (x.tdiv 16)),it (x.tmod 4)]] (ai B)∧C 67 [ai A,ai B] (ai J)∧Rr=⟨1+x.tmod 3,J⟩)):=by
  obtain⟨x,Rr,e,h1,h2,h3,h4⟩:=apn n i hn E;have e8:x.tdiv 8=x / 8:=gh h1.1;have e16:x.tdiv 16=x / 16:=gh h1.1;have w8:IntKind.i64.wrap (x.tdiv 8)=x.tdiv 8:=wrap_i64 qx qx;have w16:IntKind.i64.wrap (x.tdiv 16)=x.tdiv 16:=wrap_i64 i7 i7;refine⟨x,Rr,h1,h2,h3,?_,by rw[w8,w16];exact h4⟩;rw[<-adm hRl hir,jU,hRg i hir,e]
 refine hs.elim λx hs=>hs.elim λRr hs=> ?_;have hxb:=hs.1;have cx:=hs.2.1;have hm3:=hs.2.2.1;have e:=hs.2.2.2.1;have cz:=AN;have avr:(rW R R0 i).length=R0.length:=by rw[PL hRl E];exact hRl
 have hrl3:(rW R R0 i).length<=4294967296:=E
 have hxi:∃X,nth ((rW R R0 i).map aN) ((i:Nat):Int).toNat=some (aN X):=⟨(rW R R0 i)[i]' E,by rw[c_,oF,gQ E];rfl⟩;refine hxi.elim λX hxi=> ?_;have hi5:((i:Nat):Int).toNat<((rW R R0 i).map aN).length:=E
 refine hs.2.2.2.2.elim (λh4=> ?_) (λh4=> ?_);have b4:(1+x.tmod 3 !=1)=false:=sK;have b5:(!(1+x.tmod 3==1))=false:=sK
 have e:((rW R R0 i).map aN).set i (aN ⟨1+x.tmod 3,zR⟩)=(rW R R0 (i+1)).map aN:=Md;exact Zx;have b4:(1+x.tmod 3 !=1)=true:=(by simpa using h4.1);have b5:(!(1+x.tmod 3==1))=true:=by simpa using h4.1
 refine h4.2.elim λA1 h5=>h5.elim λB1 h5=>h5.elim λJ1 h5=> ?_;have c1:=h5.1;have c2:=h5.2.1;have c3:=h5.2.2.1;have e:((rW R R0 i).map aN).set i (aN ⟨1+x.tmod 3,J1⟩)=(rW R R0 (i+1)).map aN:=by rw[<-h5.2.2.2];exact e
 exact Zx;have b3:decide ((i:Int)<(((rW R R0 i).map aN).length:Nat))=false:=by rw[hml hi0];exact az
 have eR:(rW R R0 i).map aN=R.map aN:=by
  have hi6:i=R0.length:=E
  subst hi6;unfold rW;rw[List.drop_length,jV,oG E]
 have eA:bxA (.sl 5 ((V.take ws.length).map ai) false) (.sl 1 ((G.take v).map ints) false) (.sl 6 ((rW R R0 i).map aN) false) (ints A) (a_ (a_ x2 7) x5) (a_ x2 7) (iQ P (a_ x6 7))=bxA (fj 5 ai V) (dI G) (fj 6 aN R) (ints A) (a_ (a_ x2 7) x5) (a_ x2 7) (iQ P (a_ x6 7)):=by rw[eV,eG,eR];rfl
 refine aM ?_;exact fP.mk eA rfl
def as1:Nat->List Ad:=λn=>bif Nat.beq n 40019 then[.lay 0]else[]
def ace(g:nj)(hl:g.length<=2^30)(hi:∀xs∈g,xs.length<=2^30):aj prog 185 [dI g] fV (.cQ 1000 g.length) ⟨[],[XL g]⟩:=by
 refine d_ hm func185 (λ_=>false) [true] as1 aA ?_;refine run ?_;refine bF.mk ⟨[.nest 3 20003],kQ.mk ⟨rfl,λe he=>by cases he⟩ (aY.nat (g.length) (λ_=>True) (λk=>⟨[(4,it k),(3,.cQ 20003 k)],[],[(20003,⟨0,true,(g.take k).map bV⟩)]⟩) trivial ?_ ?_ ?_ ?_ ?_)⟩;exact vQ;exact aA;exact aA;intro k;exact Ga;intro k hk hJ;by_cases hk1:k<g.length
 ·have b1:decide ((k:Int)<((g.map ints).length:Nat))=true:=by exact gL
  have hx:=hi _ (cU hk1);have hln:((g.take k).map bV).length=k:=az
  have e0:(g.take k).map bV++[bV g[k]]=(g.take (k+1)).map bV:=Ll
  refine run ?_;refine bt.map hk1 rfl ?_;refine run ?_;refine nxr hk1 ?_;repeat' (first|exact trivial|exact rfl|exact aL (λx=>some (Row.mk 0 true x)) e0|exact aL (λn=>some (au.cQ 20003 n)) (by rw[hln])|refine⟨?_,?_⟩|refine⟨?_,?_,?_⟩)
 have b1:decide ((k:Int)<((g.map ints).length:Nat))=false:=az
 have hkk:k=g.length:=E
 subst hkk;have e:(g.take g.length).map bV=g.map bV:=O
 have hln:((g.take g.length).map bV).length=g.length:=O
 refine run ?_;exact fP.mk rfl (aL (λx=>Ct.mk [] [Row.mk 0 true x]) e)
theorem ac2(g h:nj)(hl:g.length<=2^30)(hi:∀xs∈g,xs.length<=2^30)(hs:g.length=h.length)(hh:∀v (h1:v<g.length) (h2:v<h.length),g[v].length=h[v].length):aj prog 117 [dI g,dI h] fV (dI (pN g h)) fV:=by
 have hc:=ace g hl hi;refine d_ hm func117 (λ_=>false) [] (λn=>bif Nat.beq n 9 then[.Hr 5]else[]) aA ?_;refine aM ?_;have e00:g.map bV=(aU eX g h 0).map bV:=AX
 have qV:=aL (λx=>some (Row.mk 0 true x)) e00;refine bF.mk ⟨[],aY.np (g.length) (λ_=>True) (λv=>⟨[(6,it v)],[],[(5090,⟨0,true,(aU eX g h v).map bV⟩)]⟩) trivial ?_⟩;intro v hv hJ;by_cases hv1:v<g.length
 ·have b1:decide ((v:Int)<((g.map ints).length:Nat))=true:=by simp;exact hv1
  have hv2:v<h.length:=hs▸hv1;have hlv:g[v].length=h[v].length:=hh v hv1 hv2;have hX:(aU eX g h v).length=g.length:=kU hs;have e01:(aU eX g h v).map bV=((aU eX g h v).set v (aU mx g[v] h[v] 0)).map bV:=by rw[BW];congr 1;apply uU;intro j;by_cases hj:j=v;subst hj;rw[CS (by rw[hX];exact hv1),C_ hs hv1];rw[uW (gB hj)]
  refine run ?_;have qV:=aL (λx=>some (Row.mk 0 true x)) e01;refine bF.mk ⟨[],aY.np (g[v].length) (λ_=>True) (λp=>⟨[(7,it p)],[],[(5090,⟨0,true,((aU eX g h v).set v (aU mx g[v] h[v] p)).map bV⟩)]⟩) trivial ?_⟩;intro p hp hJ2;by_cases hp1:p<g[v].length
  ·have b2:decide ((p:Int)<((g[v].map it).length:Nat))=true:=LK;have hp2:p<h[v].length:=hlv▸hp1;have hM:(aU mx g[v] h[v] p).length=g[v].length:=kU hlv;have hown:nth (((aU eX g h v).set v (aU mx g[v] h[v] p)).map bV) v=some (bV (aU mx g[v] h[v] p)):=by exact UE
   have hlen:(((aU eX g h v).set v (aU mx g[v] h[v] p)).map bV).length=g.length:=(by simp[hX]);have hown' :nth (((aU eX g h v).set v (aU mx g[v] h[v] p)).map bV) ((v:Int)).toNat=some (.own ((aU mx g[v] h[v] p).map it)):=hown;have hat:nth ((aU mx g[v] h[v] p).map it) ((p:Int)).toNat=some (it g[v][p]):=by rw[show((p:Int)).toNat=p from rfl,c_,aJ,C_ hlv hp1];rfl
   have hlx:=hi _ (cU hv1);have hml:((aU mx g[v] h[v] p).map it).length=g[v].length:=xZ
   refine run ?_;refine bt.map hv1 rfl ?_;refine run ?_
   repeat((first
    |refine bt.at hlen.symm E hown ?_|refine bt.map hv1 rfl ?_|refine bt.map hv2 rfl ?_|refine bt.map hp1 rfl ?_|refine bt.map hp2 rfl ?_|refine Ij.mk ⟨_,hown',?_⟩);refine run ?_)
   have e02:(((aU eX g h v).set v (aU mx g[v] h[v] p)).map bV).set v (.own (((aU mx g[v] h[v] p).map it).set p (it (mx g[v][p] h[v][p]))))=((aU eX g h v).set v (aU mx g[v] h[v] (p+1))).map bV:=akq;exact CJ
  have b2:decide ((p:Int)<((g[v].map it).length:Nat))=false:=az;have hpp:p=g[v].length:=E
  subst hpp;have e03:((aU eX g h v).set v (aU mx g[v] h[v] g[v].length)).map bV=(aU eX g h (v+1)).map bV:=ZY
  refine run ?_;refine bt.map hv1 rfl ?_;exact UQ
 have b1:decide ((v:Int)<((g.map ints).length:Nat))=false:=az
 have hvv:v=g.length:=E
 subst hvv;have hX:((aU eX g h g.length).map bV).length=g.length:=by simp[kU hs]
 have e:((aU eX g h g.length).map bV).map fW=(pN g h).map ints:=ZJ
 exact Vh
def VJ(h:G:=by unfold oq;rw[b0,b1,b2];rfl):=h
def afc{d:Df}{f:Fa}(hd:yR d)(hf:pT d f)(level:Int):C 51 [bR d,it level,aZ f] (aZ (oq d level f)):=by
 have hvs:=hd.vars;have hpn:=hd.pn;have hrs:=hd.refs;have b0:f.dead=false:=hf.live;refine(dD (decide (level>=2))).elim (λb1=> ?_) (λb1=> ?_);have e:oq d level f=f:=by unfold oq;rw[b1,Bool.or_true];rfl
 rw[e];exact JZ d f level (tH b1);have hN:C 118 [it d.vars,it ((d.params.map bc).length:Nat)] (dI (fR d.vars.toNat d.params.length)):=Y9
 have hgo:=FO d.vars.toNat d.params.length;have hG:=ac2 f.ju (fR d.vars.toNat d.params.length) (by rw[hf.ju.len];omega) (HM hf.ju E) (by rw[hf.ju.len,hgo.len]) (λv h1 h2=>aav);have hvl:f.v.length<=1048576:=by rw[hf.v];omega
 have hrl:f.refs.length<=1048576:=by rw[hf.refs];omega
 refine(dD (decide (level>=1))).elim (λb2=> ?_) (λb2=> ?_);have e:oq d level f={f with ju:=pN f.ju (fR d.vars.toNat d.params.length)}:=VJ
 rw[e];generalize fR d.vars.toNat d.params.length=N at hN hG ⊢;generalize pN f.ju N=G at hG ⊢;clear hf hgo e;refine fo func51 ?_;exact bp;have e:oq d level f={f with ju:=pN f.ju (fR d.vars.toNat d.params.length),v:=f.v.map dU,refs:=f.refs.map λr=>⟨r.s,dU r.a⟩}:=VJ
 rw[e];generalize fR d.vars.toNat d.params.length=N at hN hG ⊢;generalize pN f.ju N=G at hG ⊢;have hV:∃V,V=f.v.map dU∧V.length=f.v.length∧∀k (h:k<f.v.length) (h2:k<V.length),V[k]=dU f.v[k]:=⟨_,rfl,O,λk h h2=>O⟩;have hR:∃R,R=f.refs.map (λr=>(⟨r.s,dU r.a⟩:Rf))∧R.length=f.refs.length∧∀k (h:k<f.refs.length) (h2:k<R.length),R[k]=⟨f.refs[k].s,dU f.refs[k].a⟩:=⟨_,rfl,O,λk h h2=>O⟩;obtain⟨V,hVe,hVl,hVg⟩:=hV;obtain⟨R,hRe,hRl,hRg⟩:=hR;rw[<-hVe,<-hRe];clear hf hgo e hVe hRe;refine fo func51 ?_;refine aM ?_;refine bF.mk ⟨[],aY.np f.v.length (λ_=>True) (λk=>⟨[(9,it k),(7,.ref 31 ((V.take k).map ai).length)],[],[(31,⟨5,true,(V.take k).map ai⟩)]⟩) trivial ?_⟩;intro k hk hJ;have hlk:((V.take k).map ai).length=k:=uB
 by_cases hk1:k<f.v.length;have b3:decide ((k:Int)<((f.v.map ai).length:Nat))=true:=gL;have hkv:k<V.length:=E
 have e:((V.take k).map ai)++[ai (dU f.v[k])]=(V.take (k+1)).map ai:=(by rw[jY hkv,eu,hVg k hk1 hkv];rfl);have c:=Qq f.v[k];refine aM ?_;refine bt.map hk1 rfl ?_;refine aM ?_;have qV:=aL (λx=>some (Row.mk 5 true x)) e;have Iu:=aL (λx:List au=>some (au.ref 31 x.length)) e;exact y_ hk1;have b3:decide ((k:Int)<((f.v.map ai).length:Nat))=false:=az
 have eV:(V.take k).map ai=V.map ai:=zm
 refine run ?_;refine bF.mk ⟨[],aY.np f.refs.length (λ_=>True) (λj=>⟨[(10,it j),(8,.ref 32 ((R.take j).map aN).length)],[],[(32,⟨6,true,(R.take j).map aN⟩)]⟩) trivial ?_⟩;intro j hj hJ2;have hlj:((R.take j).map aN).length=j:=uB
 by_cases hj1:j<f.refs.length;have b4:decide ((j:Int)<((f.refs.map aN).length:Nat))=true:=(by simp;exact hj1);have hjr:j<R.length:=E
 have e:((R.take j).map aN)++[aN ⟨f.refs[j].s,dU f.refs[j].a⟩]=(R.take (j+1)).map aN:=(by rw[jY hjr,eu,hRg j hj1 hjr];rfl);have c:=Qq f.refs[j].a;refine aM ?_;refine bt.map hj1 rfl ?_;refine aM ?_;refine bt.map hj1 rfl ?_;refine aM ?_;have qV:=aL (λx=>some (Row.mk 6 true x)) e;have Iu:=aL (λx:List au=>some (au.ref 32 x.length)) e;exact y_ hj1;have b4:decide ((j:Int)<((f.refs.map aN).length:Nat))=false:=az
 have eR:(R.take j).map aN=R.map aN:=zm
 have eA:au.agg [bo f.dead,.sl 5 ((V.take k).map ai) false,dI G,.sl 6 ((R.take j).map aN) false,ints f.arr,it f.ei,it f.may,it f.parts]=aZ {f with ju:=G,v:=V,refs:=R}:=by rw[eV,eR];rfl
 refine run ?_;exact fP.mk eA rfl
def RW(h:G:=by rw[oM,h2];rw[show j=3 by omega]at q2;exact q2):=h
def aa5(h:G:=by rw[MN];exact Nat.and_le_right):=h
def ZL(h:G:=by rw[hS,<-h2,show k=3 by omega];rfl):=h
def Mf(h:G:=by rw[oM,q2]):=h
def ZF(h:G:=by have hb:(IntKind.u16.wrap (((BitVec.ofInt IntKind.u16.bits (n.h.fdiv (2^min (IntKind.u64.wrap ((3*(k:Int)+(j:Int)).tmod 16)).toNat IntKind.u16.bits))&&&BitVec.ofInt IntKind.u16.bits 1).toNat:Nat):Int)==1)=true:=d3;have e:DI n.h k qs j=Xl qs ⟨k,j,0⟩:=ak (by rw[d2,d3];rfl);refine run ?_;refine bt.at rfl (ft _) rfl ?_;refine run ?_;refine Arith.mk ?_;refine run ?_;refine Arith.mk ?_;refine aM ?_;refine⟨⟨.S3 (j+1) (Xl qs ⟨k,j,0⟩),⟨g3,hst.trans e⟩⟩,iy g3 (gb _),?_⟩;exact vQ):=h
def ZE(h:G:=by have hb:(IntKind.u16.wrap (((BitVec.ofInt IntKind.u16.bits (n.h.fdiv (2^min (IntKind.u64.wrap ((3*(k:Int)+(j:Int)).tmod 16)).toNat IntKind.u16.bits))&&&BitVec.ofInt IntKind.u16.bits 1).toNat:Nat):Int)==1)=false:=d3;have e:DI n.h k qs j=qs:=Z (by rw[d2,d3];simp);refine run ?_;refine bt.at rfl (ft _) rfl ?_;refine run ?_;refine Arith.mk ?_;refine run ?_;refine Arith.mk ?_;refine aM ?_;refine⟨⟨.S3 (j+1) qs,⟨g3,hst.trans e⟩⟩,iy g3 (gb _),?_⟩;exact vQ):=h
def ZA(h:G:=by refine run ?_;exact fP.mk (aL (λx=>au.agg [it id,it x1,it x2,it x3,it x4,it (n.b.tmod 4),it (IntKind.i64.wrap (n.d.tmod 8*2^min (1:Int).toNat IntKind.i64.bits)),it (((BitVec.ofInt IntKind.i64.bits n.e&&&BitVec.ofInt IntKind.i64.bits 7).toNat:Nat):Int),it (((BitVec.ofInt IntKind.i64.bits n.f&&&BitVec.ofInt IntKind.i64.bits 7).toNat:Nat):Int),fj 3 bQ x,it n.g]) e) rfl):=h
def Zk(h:G:=by have e:DI n.h k qs j=qs:=Z (by rw[d2];simp);refine run ?_;refine⟨⟨.S3 (j+1) qs,⟨g3,hst.trans e⟩⟩,iy g3 (gb _),?_⟩;exact vQ):=h
def Lp(h:G:=by exact PJ.both (λk=>⟨rfl,rfl,rfl⟩) (λk a=>⟨rfl,rfl,rfl⟩)):=h
def Vj(h:G:=by refine run ?_;refine⟨⟨.S3 (k+1) qs,⟨hk,e⟩⟩,iy hk (gb _),?_⟩;exact vQ):=h
def Ve(h:G:=by refine⟨⟨.raw (j+1),⟨g3,hst.trans e⟩⟩,iy g3 (gb _),?_⟩;exact vQ):=h
def u16(n:Int):au:= .int .u16 n
structure N8 where
 a:Int
 b:Int
 c:Int
 d:Int
 e:Int
 f:Int
 g:Int
 h:Int
def W0(n:N8):au:= .agg [u16 n.a,u16 n.b,u16 n.c,u16 n.d,u16 n.e,u16 n.f,u16 n.g,u16 n.h]
structure apr(n:N8):Prop where
 a:0<=n.a∧n.a<65536
 b:0<=n.b∧n.b<65536
 c:0<=n.c∧n.c<65536
 d:0<=n.d∧n.d<65536
 e:0<=n.e∧n.e<65536
 f:0<=n.f∧n.f<65536
 g:0<=n.g∧n.g<65536
 h:0<=n.h∧n.h<65536
def aka(x:Int):(((BitVec.ofInt IntKind.i64.bits x&&&BitVec.ofInt IntKind.i64.bits 7).toNat:Nat):Int)<=7∧0<=(((BitVec.ofInt IntKind.i64.bits x&&&BitVec.ofInt IntKind.i64.bits 7).toNat:Nat):Int):=by
 refine⟨?_,ft _⟩;have h:(BitVec.ofInt IntKind.i64.bits x&&&BitVec.ofInt IntKind.i64.bits 7).toNat<=(BitVec.ofInt IntKind.i64.bits 7).toNat:=aa5
 have h2:(BitVec.ofInt IntKind.i64.bits 7).toNat=7:=aw
 omega
def Sa(x:Int):0<=IntKind.u64.wrap x:=by simp[IntKind.wrap,IntKind.bits,IntKind.signed];omega
def ak3(h:Int)(k j:Nat):Bool:=IntKind.u16.wrap (((BitVec.ofInt IntKind.u16.bits (h.fdiv (2^min (IntKind.u64.wrap ((3*(k:Int)+(j:Int)).tmod 16)).toNat IntKind.u16.bits))&&&BitVec.ofInt IntKind.u16.bits 1).toNat:Nat):Int)==1
def DI(h:Int)(a:Nat)(ps:List Pa)(b:Nat):List Pa:=if (!decide ((a:Int)=(b:Int)))&&ak3 h a b then Xl ps ⟨a,b,0⟩else ps
def YY(h:Int)(ps:List Pa)(a:Nat):List Pa:=(List.range 3).foldl (DI h a) ps
def akc(h:Int):List Pa:=(List.range 3).foldl (YY h) []
def ahg(l:List Pa)(X:Pa):(Xl l X).length<=l.length+1:=by have:=abg (p:=λx=>iG x X) (q:=λx=>iG X x) (λx h=>by simp[iG]at h ⊢;omega) l;simp only[Xl,fx,tI];omega
inductive PJ where
 |raw (k:Nat)
 |S3 (k:Nat) (ps:List Pa)
def PJ.both{P:PJ->Prop}(a:∀k,P (.raw k))(b:∀k a,P (.S3 k a)):∀i,P i| .raw k=>a k| .S3 k x=>b k x
def PJ.k:PJ->Nat| .raw k=>k| .S3 k _=>k
def aht(h:Int)(a:Nat)(ps:List Pa)(b:Nat):(DI h a ps b).length<=ps.length+1:=by unfold DI;split;exact ahg _ _;omega
theorem BD(h:Int)(a:Nat)(ps:List Pa):∀j,((List.range j).foldl (DI h a) ps).length<=ps.length+j|0=>by simp|j+1=>by rw[oM];have:=BD h a ps j;have:=aht h a ((List.range j).foldl (DI h a) ps) j;omega
theorem F9(h:Int):∀k,((List.range k).foldl (YY h) []).length<=3*k|0=>by simp|k+1=>by rw[oM];have:=F9 h k;have:=BD h k ((List.range k).foldl (YY h) []) 3;unfold YY at*;omega
def agq(h:Int):(akc h).length<=9:=F9 h 3
structure Q6(s:Sy):Prop where
 r:∃lo c m:Int,(-20<=lo∧lo<20)∧(0<=c∧c<30)∧(0<=m∧m<4)∧Xc lo (lo+c) (lo+c - lo) m=uw s.Nx s.Ny s.rm s.rr s.nO
 l:0<=s.aQ∧s.aQ<=7
 d:0<=s.kV∧s.kV<=7
 al:∃h:Int,s.fD=akc h
 t:∃k:Nat,k<8∧s.jo=((2*k:Nat):Int)
def alz{l:List Pa}{X:Pa}(h:∀x∈l,x.a≠x.b)(hX:X.a≠X.b):∀x∈Xl l X,x.a≠x.b:=λx hx=>by unfold Xl at hx;rcases dY.1 hx with hx|hx;rcases dY.1 hx with hx|hx;exact h x (List.takeWhile_subset _ hx);rw[gg.1 hx];exact hX;exact h x (List.mem_filter.1 hx).1
def ami(h:Int)(a b:Nat){ps:List Pa}(hp:∀x∈ps,x.a≠x.b):∀x∈DI h a ps b,x.a≠x.b:=by unfold DI;split;rename_i hc;rw[aX]at hc;exact alz hp (by simpa using hc.1);exact hp
theorem aby(h:Int)(a:Nat):∀(l:List Nat) {ps:List Pa},(∀x∈ps,x.a≠x.b)->∀x∈l.foldl (DI h a) ps,x.a≠x.b|[],_,hp=>hp|b::l,_,hp=>aby h a l (ami h a b hp)
theorem QY(h:Int):∀(l:List Nat) {ps:List Pa},(∀x∈ps,x.a≠x.b)->∀x∈l.foldl (YY h) ps,x.a≠x.b|[],_,hp=>hp|a::l,_,hp=>QY h l (aby h a _ hp)
def akb(h:Int):∀x∈akc h,x.a≠x.b:=QY h _ (λx hx=>uG)
def Q6.ne{s:Sy}(k:Q6 s):∀x∈s.fD,x.a≠x.b:=by obtain⟨n,e⟩:=k.al;rw[e];exact akb n
def amb{x:Int}(h:0<=x∧x<8):∃k:Nat,k<8∧IntKind.i64.wrap (x*2^min (1:Int).toNat IntKind.i64.bits)=((2*k:Nat):Int):=by
 obtain⟨n,rfl⟩:=tJ h.1;have this:∀n:Nat,n<8->IntKind.i64.wrap ((n:Int)*2^min (1:Int).toNat IntKind.i64.bits)=((2*n:Nat):Int):=aw
 exact⟨n,E,this n E⟩
def Xz(p:Pg)(id:Int)(n:N8)(hn:apr n)(hL:p.d.aQ=3)(hP:p.d.parts=3):∃s:Sy,s.id=id∧s.fD.length<=9∧Q6 s∧aj prog 16 [qe p,it id,W0 n] fV (eO s) fV:=by
 have ha:=hn.a;have hb:=hn.b;have hc:=hn.c;have hd:=hn.d;have he:=hn.e;have hf:=hn.f;have hg:=hn.g;have t1:=yW ha.1 40 E;have t2:=yW hb.1 4 E;have t3:=yW hc.1 30 E;have t4:=yW hd.1 8 E;have o1:=acx (n.a.tmod 40 - 20) (n.b.tmod 4) ⟨E,E⟩;have o2:=acx (n.a.tmod 40 - 20+n.c.tmod 30) 0 ⟨E,E⟩;have j:=ae5 (n.a.tmod 40 - 20) (n.a.tmod 40 - 20+n.c.tmod 30) (n.b.tmod 4) E E E t2;have hRs:∃x1 x2 x3 x4,Xc (n.a.tmod 40 - 20) (n.a.tmod 40 - 20+n.c.tmod 30) (n.a.tmod 40 - 20+n.c.tmod 30 - (n.a.tmod 40 - 20)) (n.b.tmod 4)=uw x1 x2 x3 x4 (n.b.tmod 4):=by unfold Xc;split;split<;>exact Et;exact Et
 refine hRs.elim λx1 h=>h.elim λx2 h=>h.elim λx3 h=>h.elim λx4 h=> ?_;rw[h]at j;have s0:IntKind.u64.wrap p.d.aQ=3:=by rw[hL];decide
 have z0:0<=IntKind.u64.wrap p.d.aQ:=E
 have s1:IntKind.i64.wrap (1*2^(min (IntKind.u64.wrap p.d.aQ).toNat IntKind.i64.bits)) - 1=7:=by rw[s0];decide
 have s2:IntKind.u64.wrap p.d.parts=3:=by rw[hP];decide
 have z2:0<=IntKind.u64.wrap p.d.parts:=E
 have s3:IntKind.i64.wrap (1*2^(min (IntKind.u64.wrap p.d.parts).toNat IntKind.i64.bits)) - 1=7:=by rw[s2];decide
 have e1:=(aka n.e).1;have e2:=(aka n.e).2;have f1:=(aka n.f).1;have f2:=(aka n.f).2;have auz:∃S,S=akc n.h:=⟨_,rfl⟩;refine auz.elim λS hS=> ?_;by_cases hSl:S.length<=9
 rotate_left
 exact absurd (by rw[hS];exact agq n.h) hSl;refine⟨⟨id,x1,x2,x3,x4,n.b.tmod 4,IntKind.i64.wrap (n.d.tmod 8*2^min (1:Int).toNat IntKind.i64.bits),(((BitVec.ofInt IntKind.i64.bits n.e&&&BitVec.ofInt IntKind.i64.bits 7).toNat:Nat):Int),(((BitVec.ofInt IntKind.i64.bits n.f&&&BitVec.ofInt IntKind.i64.bits 7).toNat:Nat):Int),S,n.g⟩,rfl,hSl,⟨⟨n.a.tmod 40 - 20,n.c.tmod 30,n.b.tmod 4,⟨E,E⟩,⟨E,E⟩,⟨E,E⟩,h⟩,⟨e2,e1⟩,⟨f2,f1⟩,⟨n.h,hS⟩,amb t4⟩,?_⟩;refine fo func16 ?_;refine aM ?_;refine bt.at rfl (ft _) rfl ?_;refine aM ?_;refine bt.at rfl (ft _) rfl ?_;refine aM ?_;refine bt.at rfl (ft _) rfl ?_;refine aM ?_;refine bt.at rfl (ft _) rfl ?_;refine aM ?_;refine bt.at rfl (ft _) rfl ?_;refine aM ?_;refine Arith.mk ?_;refine aM ?_;refine bt.at rfl (ft _) rfl ?_;refine aM ?_;refine Arith.mk ?_;refine aM ?_;refine bt.at rfl (ft _) rfl ?_;refine aM ?_;refine bF.mk ⟨[],aY.of (λi:PJ=>match i with| .raw k=>k<=3∧(List.range k).foldl (YY n.h) []=[]| .S3 k ps=>k<=3∧(List.range k).foldl (YY n.h) []=ps) (λi=>match i with| .raw k=>⟨[(9,it k)],[(8,.agg [it id,it x1,it x2,it x3,it x4,it (n.b.tmod 4),it (IntKind.i64.wrap (n.d.tmod 8*2^min (1:Int).toNat IntKind.i64.bits)),it (((BitVec.ofInt IntKind.i64.bits n.e&&&BitVec.ofInt IntKind.i64.bits 7).toNat:Nat):Int),it (((BitVec.ofInt IntKind.i64.bits n.f&&&BitVec.ofInt IntKind.i64.bits 7).toNat:Nat):Int),.sl 3 [] true,it n.g])],[]⟩| .S3 k ps=>⟨[(9,it k)],[(8,.agg [it id,it x1,it x2,it x3,it x4,it (n.b.tmod 4),it (IntKind.i64.wrap (n.d.tmod 8*2^min (1:Int).toNat IntKind.i64.bits)),it (((BitVec.ofInt IntKind.i64.bits n.e&&&BitVec.ofInt IntKind.i64.bits 7).toNat:Nat):Int),it (((BitVec.ofInt IntKind.i64.bits n.f&&&BitVec.ofInt IntKind.i64.bits 7).toNat:Nat):Int),fj 3 bQ ps,it n.g])],[]⟩) (λi=>3 - i.k) (.raw 0) ⟨dM _,rfl⟩ ?_ ?_ ?_ ?_ ?_⟩;exact vQ;exact aA;exact aA;exact Lp;refine PJ.both (λk=> ?_) (λk ps=> ?_);intro hJ;have h1:k<=3:=hJ.1;have h2:(List.range k).foldl (YY n.h) []=([]:List Pa):=hJ.2;have hpl:=F9 n.h k;rw[h2]at hpl;by_cases hk:k<3;have b1:decide ((k:Int)<p.d.aQ)=true:=kR;refine run ?_;refine bF.mk ⟨[],aY.of (λi:PJ=>match i with| .raw j=>j<=3∧(List.range j).foldl (DI n.h k) ([]:List Pa)=[]| .S3 j qs=>j<=3∧(List.range j).foldl (DI n.h k) ([]:List Pa)=qs) (λi=>match i with| .raw j=>⟨[(10,it j)],[(8,.agg [it id,it x1,it x2,it x3,it x4,it (n.b.tmod 4),it (IntKind.i64.wrap (n.d.tmod 8*2^min (1:Int).toNat IntKind.i64.bits)),it (((BitVec.ofInt IntKind.i64.bits n.e&&&BitVec.ofInt IntKind.i64.bits 7).toNat:Nat):Int),it (((BitVec.ofInt IntKind.i64.bits n.f&&&BitVec.ofInt IntKind.i64.bits 7).toNat:Nat):Int),.sl 3 [] true,it n.g])],[]⟩| .S3 j ps=>⟨[(10,it j)],[(8,.agg [it id,it x1,it x2,it x3,it x4,it (n.b.tmod 4),it (IntKind.i64.wrap (n.d.tmod 8*2^min (1:Int).toNat IntKind.i64.bits)),it (((BitVec.ofInt IntKind.i64.bits n.e&&&BitVec.ofInt IntKind.i64.bits 7).toNat:Nat):Int),it (((BitVec.ofInt IntKind.i64.bits n.f&&&BitVec.ofInt IntKind.i64.bits 7).toNat:Nat):Int),fj 3 bQ ps,it n.g])],[]⟩) (λi=>3 - i.k) (.raw 0) ⟨dM _,rfl⟩ ?_ ?_ ?_ ?_ ?_⟩;exact vQ;exact aA;exact aA;exact Lp;refine PJ.both (λj=> ?_) (λj qs=> ?_);intro hq;have q1:j<=3:=hq.1;have q2:(List.range j).foldl (DI n.h k) ([]:List Pa)=([]:List Pa):=hq.2;have ql:=BD n.h k ([]:List Pa) j;rw[q2]at ql;by_cases g3:j<3;have d1:decide ((j:Int)<p.d.aQ)=true:=kR;have z:=Sa ((3*(k:Int)+(j:Int)).tmod 16);have hst:(List.range (j+1)).foldl (DI n.h k) ([]:List Pa)=DI n.h k ([]:List Pa) j:=Mf
 have w:=wz ([]:List Pa) k j ⟨k,j,0⟩ rfl E;refine(dD (!decide ((k:Int)=(j:Int)))).elim (λd2=> ?_) (λd2=> ?_);refine(dD (ak3 n.h k j)).elim (λd3=> ?_) (λd3=> ?_);have hb:(IntKind.u16.wrap (((BitVec.ofInt IntKind.u16.bits (n.h.fdiv (2^min (IntKind.u64.wrap ((3*(k:Int)+(j:Int)).tmod 16)).toNat IntKind.u16.bits))&&&BitVec.ofInt IntKind.u16.bits 1).toNat:Nat):Int)==1)=true:=d3;have e:DI n.h k ([]:List Pa) j=Xl ([]:List Pa) ⟨k,j,0⟩:=ak (by rw[d2,d3];rfl);refine run ?_;refine bt.at rfl (ft _) rfl ?_;refine run ?_;refine Arith.mk ?_;refine run ?_;refine Arith.mk ?_;refine aM ?_;refine⟨⟨.S3 (j+1) (Xl ([]:List Pa) ⟨k,j,0⟩),⟨g3,hst.trans e⟩⟩,iy g3 (gb _),?_⟩;exact vQ;have hb:(IntKind.u16.wrap (((BitVec.ofInt IntKind.u16.bits (n.h.fdiv (2^min (IntKind.u64.wrap ((3*(k:Int)+(j:Int)).tmod 16)).toNat IntKind.u16.bits))&&&BitVec.ofInt IntKind.u16.bits 1).toNat:Nat):Int)==1)=false:=d3;have e:DI n.h k ([]:List Pa) j=([]:List Pa):=Z (by rw[d2,d3];simp);refine run ?_;refine bt.at rfl (ft _) rfl ?_;refine run ?_;refine Arith.mk ?_;refine run ?_;refine Arith.mk ?_;refine aM ?_;exact Ve;have e:DI n.h k ([]:List Pa) j=([]:List Pa):=Z (by rw[d2];simp);refine run ?_;exact Ve;have d1:decide ((j:Int)<p.d.aQ)=false:=kR;have e:(List.range (k+1)).foldl (YY n.h) []=([]:List Pa):=RW
 refine run ?_;refine⟨⟨.raw (k+1),⟨hk,e⟩⟩,iy hk (gb _),?_⟩;exact vQ;intro hq;have q1:j<=3:=hq.1;have q2:(List.range j).foldl (DI n.h k) ([]:List Pa)=qs:=hq.2;have ql:=BD n.h k ([]:List Pa) j;rw[q2]at ql;by_cases g3:j<3;have d1:decide ((j:Int)<p.d.aQ)=true:=kR;have z:=Sa ((3*(k:Int)+(j:Int)).tmod 16);have hst:(List.range (j+1)).foldl (DI n.h k) ([]:List Pa)=DI n.h k qs j:=Mf
 have w:=wz qs k j ⟨k,j,0⟩ rfl E;refine(dD (!decide ((k:Int)=(j:Int)))).elim (λd2=> ?_) (λd2=> ?_);refine(dD (ak3 n.h k j)).elim (λd3=> ?_) (λd3=> ?_);exact ZF;exact ZE;exact Zk;have d1:decide ((j:Int)<p.d.aQ)=false:=kR;have e:(List.range (k+1)).foldl (YY n.h) []=qs:=RW
 exact Vj;have b1:decide ((k:Int)<p.d.aQ)=false:=kR;have e:([]:List Pa)=S:=ZL
 exact ZA;intro hJ;have h1:k<=3:=hJ.1;have h2:(List.range k).foldl (YY n.h) []=ps:=hJ.2;have hpl:=F9 n.h k;rw[h2]at hpl;by_cases hk:k<3;have b1:decide ((k:Int)<p.d.aQ)=true:=kR;refine run ?_;refine bF.mk ⟨[],aY.of (λi:PJ=>match i with| .raw j=>False| .S3 j qs=>j<=3∧(List.range j).foldl (DI n.h k) ps=qs) (λi=>match i with| .raw j=>⟨[(10,it j)],[(8,.agg [it id,it x1,it x2,it x3,it x4,it (n.b.tmod 4),it (IntKind.i64.wrap (n.d.tmod 8*2^min (1:Int).toNat IntKind.i64.bits)),it (((BitVec.ofInt IntKind.i64.bits n.e&&&BitVec.ofInt IntKind.i64.bits 7).toNat:Nat):Int),it (((BitVec.ofInt IntKind.i64.bits n.f&&&BitVec.ofInt IntKind.i64.bits 7).toNat:Nat):Int),.sl 3 [] true,it n.g])],[]⟩| .S3 j ps=>⟨[(10,it j)],[(8,.agg [it id,it x1,it x2,it x3,it x4,it (n.b.tmod 4),it (IntKind.i64.wrap (n.d.tmod 8*2^min (1:Int).toNat IntKind.i64.bits)),it (((BitVec.ofInt IntKind.i64.bits n.e&&&BitVec.ofInt IntKind.i64.bits 7).toNat:Nat):Int),it (((BitVec.ofInt IntKind.i64.bits n.f&&&BitVec.ofInt IntKind.i64.bits 7).toNat:Nat):Int),fj 3 bQ ps,it n.g])],[]⟩) (λi=>3 - i.k) (.S3 0 ps) ⟨dM _,rfl⟩ ?_ ?_ ?_ ?_ ?_⟩;exact vQ;exact aA;exact aA;exact Lp;refine PJ.both (λj=> ?_) (λj qs=> ?_);intro hq;exact hq.elim;intro hq;have q1:j<=3:=hq.1;have q2:(List.range j).foldl (DI n.h k) ps=qs:=hq.2;have ql:=BD n.h k ps j;rw[q2]at ql;by_cases g3:j<3;have d1:decide ((j:Int)<p.d.aQ)=true:=kR;have z:=Sa ((3*(k:Int)+(j:Int)).tmod 16);have hst:(List.range (j+1)).foldl (DI n.h k) ps=DI n.h k qs j:=Mf
 have w:=wz qs k j ⟨k,j,0⟩ rfl E;refine(dD (!decide ((k:Int)=(j:Int)))).elim (λd2=> ?_) (λd2=> ?_);refine(dD (ak3 n.h k j)).elim (λd3=> ?_) (λd3=> ?_);exact ZF;exact ZE;exact Zk;have d1:decide ((j:Int)<p.d.aQ)=false:=kR;have e:(List.range (k+1)).foldl (YY n.h) []=qs:=RW
 exact Vj;have b1:decide ((k:Int)<p.d.aQ)=false:=kR;have e:ps=S:=ZL
 exact ZA
def Uo(h:G:=by rw[h2,dn,dn,l7];omega):=h
def rO(d:Df):List Int:=(wa d.body).map (·.site)++[d.site]
def Sl(d:Df)(h:zI d.body<2^30):aj prog 49 [bR d] fV (ints (rO d)) fV:=by
 have hf:=Qp _ d.body (gb _) h;have hfl:=Dq d.body;have hL:∃L,L=wa d.body:=⟨_,rfl⟩;refine hL.elim λL hL=> ?_;rw[<-hL]at hf hfl;have hs:rO d=L.map (·.site)++[d.site]:=by rw[hL];rfl
 refine fo func49 ?_;refine aM ?_;refine bF.mk ⟨[],aY.lp (λr:CR=>r.k<=L.length∧r.acc=((L.take r.k).map (·.site)).map it) (λr=>⟨[(5,it r.k),(4,.ref 9 r.acc.length)],[],[(9,⟨1,true,r.acc⟩)]⟩) (λr=>L.length - r.k) ⟨0,[]⟩ ⟨dM _,rfl⟩ ?_⟩;intro r hJ;have h1:=hJ.1;have h2:=hJ.2;have hlen:r.acc.length=r.k:=Uo
 by_cases hk:r.k<L.length;have b1:decide ((r.k:Int)<((L.map encS).length:Nat))=true:=qw
 have hN:r.acc++[it L[r.k].site]=((L.take (r.k+1)).map (·.site)).map it:=by rw[h2,map_take hk,eu];rfl
 refine run ?_;refine bt.map hk rfl ?_;refine run ?_;exact Rz;have b1:decide ((r.k:Int)<((L.map encS).length:Nat))=false:=az
 have e:r.acc++[it d.site]=(rO d).map it:=by rw[h2,oG E,hs,eu];rfl
 exact EF
def zSm:Sm:= .mk 0 0 0 0 0 (.mk 0 0 0 []) (.mk 0 0 0 []) (.mk 0 [] []) [] [] [] []
def J8(L:List Sm)(n:Int):Option Sm:=L.find? (λs=>s.site==n)
def atD:Option Sm->au|some s=> .bS [encS s,bo true]|none=> .bS [encS zSm,bo false]
def ak4{L:List Sm}{n:Int}{k:Nat}(hk:k<L.length)(h:(L[k].site==n)=true):J8 (L.drop k) n=some L[k]:=by unfold J8;rw[uX hk,List.find?_cons,h]
def ap8{L:List Sm}{n:Int}{k:Nat}(hk:k<L.length)(h:(L[k].site==n)=false):J8 (L.drop k) n=J8 (L.drop (k+1)) n:=by unfold J8;rw[uX hk,List.find?_cons,h]
def ak5{L:List Sm}{n:Int}{k:Nat}(hk:¬k<L.length):J8 (L.drop k) n=none:=by unfold J8;exact K5
def at4(d:Df)(n:Int)(h:zI d.body<2^30):C 50 [bR d,it n] (atD (J8 (wa d.body) n)):=by
 have hf:=Qp _ d.body (gb _) h;have hfl:=Dq d.body;have hL:∃L,L=wa d.body:=⟨_,rfl⟩;refine hL.elim λL hL=> ?_;rw[<-hL]at hf hfl ⊢;clear hL;refine fo func50 ?_;refine aM ?_;refine bF.mk ⟨[],aY.lp (λk:Nat=>k<=L.length∧J8 L n=J8 (L.drop k) n) (λk=>⟨[(7,it k)],[],[]⟩) (λk=>L.length - k) 0 ⟨dM _,O⟩ ?_⟩;intro k hJ;have h1:=hJ.1;have h2:=hJ.2;by_cases hk:k<L.length;have b1:decide ((k:Int)<((L.map encS).length:Nat))=true:=qw
 refine(dD (L[k].site==n)).elim (λb2=> ?_) (λb2=> ?_);have e:=h2.trans (ak4 hk b2);refine run ?_;refine bt.map hk rfl ?_;refine run ?_;refine bt.map hk rfl ?_;refine run ?_;exact fP.mk (aL atD e.symm) rfl;have e:=h2.trans (ap8 hk b2);exact T8;have b1:decide ((k:Int)<((L.map encS).length:Nat))=false:=az
 have e:=h2.trans (ak5 hk);refine run ?_;exact fP.mk (Eq.trans (b:=atD none) aA (aL atD e.symm)) rfl
def abn{s:Sy}(h:Q6 s):aR ⟨s.Nx,s.Ny,s.rm,s.rr,s.nO⟩:=by obtain⟨lo,c,m,h1,h2,h3,h4⟩:=h.r;have e:Xc lo (lo+c) (lo+c - lo) m=ai (mh lo (lo+c) (lo+c - lo) m):=aga E E E E E;have a:aR (mh lo (lo+c) (lo+c - lo) m):=(ka E E E h3.1 E E E).1;rw[e]at h4;have h5:ai (mh lo (lo+c) (lo+c - lo) m)= .agg [it s.Nx,it s.Ny,it s.rm,it s.rr,it s.nO]:=h4;generalize mh lo (lo+c) (lo+c - lo) m=X at a h5;obtain⟨x1,x2,x3,x4,x5⟩:=X;have h6:au.agg [it x1,it x2,it x3,it x4,it x5]= .agg [it s.Nx,it s.Ny,it s.rm,it s.rr,it s.nO]:=h5;simp only[au.agg.injEq,List.cons.injEq,it,au.int.injEq,true_and,and_true]at h6;obtain⟨rfl,rfl,rfl,rfl,rfl⟩:=h6;exact a
end Abs
namespace Abs
open Go Go.Proofs
variable{G:Prop}
def live:Mp Bool->Nat|[]=>0|some _::r=>live r+1|none::r=>live r
structure CD(r:pG):Prop where
 lo: -2147483648<=r.lo
 le:r.lo<=r.hi
 hi:r.hi<=2147483647
 mask:0<=r.mask∧r.mask<=255
def Es(h:G:=by rw[Nat.pow_succ];omega):=h
def kh.sz{vars na:Int}{k:Nat}{e:Ex}{n:Nat}(h:kh vars na k e n):n<2^(k+1):=by induction h with|num _=>have:=Nat.one_lt_two_pow (n:=2) E;rename_i k _ _;have:=zr (n:=2) E (show 1<=k+1+1 by omega);omega|var _=>rename_i k _ _;have:=zr (n:=2) E (show 1<=k+1+1 by omega);omega|len _=>rename_i k _ _;have:=zr (n:=2) E (show 1<=k+1+1 by omega);omega|bin _ _ _ iha ihb=>rename_i k _ _ _ _ _ _ _ _;exact Es
theorem En.sz{vars na:Int}{k:Nat}{c:Co}{n:Nat}(h:En vars na k c n):n<2^(k+1):=by induction h with|test _ ha hb=>have:=ha.sz;have:=hb.sz;exact Es|not _ ih=>exact Es|and _ _ _ iha ihb=>exact Es
def kh.up{vars na:Int}{k:Nat}{e:Ex}{n:Nat}(h:kh vars na k e n):kh vars na (k+1) e n:=ako
structure Fl where
 n:Nat
 m:Nat
 v:Nat
 x:Bool
 y:Bool
 c:Bool
 call:Bool
 body:Bool
 rest:Bool
def Y0(n m v:Nat):Fl:=⟨n,m,v,false,false,false,false,false,false⟩
def flx(n m v:Nat):Fl:=⟨n,m,v,true,false,false,false,false,false⟩
def Ra:Nat->Fl|1=>flx 1 0 0|2=>flx 1 4 0|3=>⟨0,4,0,true,true,false,false,false,false⟩|4=>Y0 1 5 0|5=>flx 0 5 0|6=>Y0 3 0 0|7=>Y0 3 0 0|8=>Y0 3 3 0|9=>flx 3 0 0|10=>Y0 1 3 0|11=>⟨0,0,0,false,false,true,false,true,true⟩|12=>⟨0,0,12,false,false,true,false,true,false⟩|13=>⟨2,11,0,false,false,false,true,false,false⟩|14=>Y0 0 0 13|15=>⟨1,0,0,false,false,false,false,true,true⟩|16=>Y0 0 9 0|17=>Y0 0 9 0|18=>flx 0 7 0|19=>Y0 1 7 0|20=>Y0 1 6 0|21=>flx 0 8 0|22=>Y0 0 10 0|23=>⟨0,0,0,false,false,true,false,false,false⟩|24=>flx 0 0 0|_=>Y0 0 0 0
def iK(d:Df)(x:Dc):Nat->Int->Prop|0,n=>n=0|1,n=>(d.params.length:Int)<=n∧n<=d.vars - 1|2,n=>(d.params.length:Int)<=n∧n<=d.vars - 1|3,n=>0<=n∧n<=d.refs - 1|4,n=>0<=n∧n<=(d.aK.length:Int) - 1|5,n=>0<=n∧n<=(x.globals.length:Int) - 1|6,n=>0<=n∧n<=(x.fq.length:Int) - 1|7,n=>0<=n∧n<=(x.eJ.length:Int) - 1|8,n=>0<=n∧n<=(x.sinks.length:Int) - 1|9,n=>0<=n∧n<=x.aQ - 1|10,n=>0<=n∧n<=x.parts - 1|11,n=>1<=n∧n<=1073741824|12,n=>1<=n∧n<=16|13,n=>1<=n∧n<=31|_,_=>False
structure avj(d:Df)(x:Dc):Prop where
 vars:d.vars<2^40
 refs:d.refs<2^40
 aK:d.aK.length<2^40
 globals:x.globals.length<2^40
 fq:x.fq.length<2^40
 eJ:x.eJ.length<2^40
 sinks:x.sinks.length<2^40
 aQ:x.aQ<2^40
 parts:x.parts<2^40
 HQ:x.HQ<2^40
def VOk(d:Df)(e:Ex):Prop:=∃n,n<=60∧kh d.vars d.aK.length 10 e n
def XOk(d:Df)(b:Bool)(e:Ex):Prop:=match b with|true=>VOk d e|false=>e=zE
def TOk(d:Df)(b:Bool)(c:Co):Prop:=match b with|true=>∃n,n<=60∧En d.vars d.aK.length 10 c n|false=>c=zC
structure SOk(d:Df)(x0:Dc)(o:Nat)(s:Sm):Prop where
 op:s.op=o
 kind:1<=o∧o<=24
 site:1<=s.site∧s.site<=1073741824
 n:iK d x0 (Ra o).n s.n
 m:iK d x0 (Ra o).m s.m
 v:iK d x0 (Ra o).v s.v
 x:XOk d (Ra o).x s.x
 y:XOk d (Ra o).y s.y
 c:TOk d (Ra o).c s.c
 args:match (Ra o).call with|true=>((∀e∈s.args,VOk d e)∧s.args.length<=12)∧(∀p∈s.cO,iK d x0 3 p)∧s.cO.length<=4|false=>s.args=[]∧s.cO=[]
 body:(Ra o).body=true∨s.body=[]
 tw:(Ra o).rest=true∨s.tw=[]
def ake(s:List UInt8):Prop:=(∀b∈s,97<=b.toNat∧b.toNat<=122)∧1<=s.length∧s.length<=20
structure avl(d:Df)(a:Ar):Prop where
 len:1<=a.len∧a.len<=64
 yP :0<=a.yP ∧a.yP <=d.params.length
def vi(l:List (Sm×Nat)):List Int:=l.map λx=>x.1.site
structure OK(d:Df)(x:Dc):Prop where
 sm:avj d x
 id:1<=d.id∧d.id<=1073741824
 site:1<=d.site∧d.site<=1073741824
 name:ake d.name
 xj:0<=d.xj∧d.xj<=x.HQ - 1
 part:0<=d.part∧d.part<=x.parts - 1
 vars:(d.params.length:Int)<=d.vars∧d.vars<=12
 refs:(d.given.length:Int)<=d.refs∧d.refs<=4
 mf:1<=d.mf∧d.mf<=20000
 params:∀r∈d.params,CD r
 given:∀r∈d.given,CD r
 aK:(∀a∈d.aK,avl d a)∧d.aK.length<=4
 size:zI d.body<=199
 depth:∀z∈wi d.body 1,z.2<=10
 stmts:∀z∈wi d.body 1,∃o,SOk d x o z.1
 sites:(d.site::vi (wi d.body 1)).Nodup
structure avf(q:Qu):Prop where
 r:CD q.r
 cap:1<=q.cap∧q.cap<=16
structure avk(x:Dc):Prop where
 globals:(∀r∈x.globals,CD r)∧x.globals.length<=8
 fq:(∀r∈x.fq,CD r)∧x.fq.length<=8
 eJ:(∀q∈x.eJ,avf q)∧x.eJ.length<=4
 sinks:(∀n∈x.sinks,0<=n∧n<=255)∧x.sinks.length<=8
 aQ:0<=x.aQ∧x.aQ<=8
 parts:1<=x.parts∧x.parts<=16
 HQ:1<=x.HQ∧x.HQ<=8
def We(d:Df):List Int:=vi (wi d.body 1)++[d.site]
def My(h:G:=by intro b;cases b<;>simp):=h
def bE:Nat->Nat|0=>4|n+1=>4+2*bE n
def at3:∀n,4<=bE n|0=>cJ _|n+1=>by simp only[bE];omega
def ahh(v:Int):(wE (qf v)).length=4:=by simp[qf,wE,wEs]
def ato(v:Int):(wE (IV v)).length=4:=by simp[IV,wE,wEs]
def atp(o n v:Int):(wE (.mk o n v [])).length=4:=by simp[wE,wEs]
def atr(o:Int)(a b:Ex):(wE (afb o a b)).length=4+(wE a).length+(wE b).length:=by simp[afb,wE,wEs];omega
def wZE:(wE zE).length=4:=by simp[zE,wE,wEs]
def wZC:(wC zC).length=3:=by simp[zC,wC,wCs,wl]
def akr(o:Int)(a b:Ex):(wC (J5 o a b)).length=3+(wE a).length+(wE b).length:=by simp[J5,wC,wCs,wl];omega
def atq(a:Co):(wC (ag9 a)).length=3+(wC a).length:=by simp[ag9,wC,wCs,wl];omega
def ats(o:Int)(a b:Co):(wC (.mk o [] [a,b])).length=3+(wC a).length+(wC b).length:=by simp[wC,wCs,wl];omega
theorem Mk.kX(m:Mk):∀n a,(wE (m.expr n a).1).length<=bE n
 |0,a=>by rw[Mk.expr];simp only[ahh,bE];omega
 |n+1,a=>by
  have h1:=Mk.kX m n (a+1+1);have h2:=Mk.kX m n (m.expr n (a+1+1)).2;have h3:=at3 n;rw[Mk.expr];repeat' split
  all_goals (simp only[ahh,ato,atp,atr,bE];omega)
def bC:Nat->Nat|0=>27|n+1=>3+2*bC n
theorem alh:∀n,27<=bC n|0=>cJ _|n+1=>by have:=alh n;simp only[bC];omega
theorem Mk.F4(m:Mk):∀n a,(wC (m.cond n a).1).length<=bC n
 |0,a=>by have h1:=m.kX 1 (a+1);have h2:=m.kX 1 (m.expr 1 (a+1)).2;simp only[bE]at h1 h2;rw[Mk.cond];simp only[akr,bC];omega
 |n+1,a=>by
  have h1:=m.kX 1 (a+1);have h2:=m.kX 1 (m.expr 1 (a+1)).2;have h3:=Mk.F4 m n (a+1);have h4:=Mk.F4 m n ((m.cond n (a+1)).2+1);have h5:=alh n;simp only[bE]at h1 h2;rw[Mk.cond];repeat' split
  all_goals (simp only[akr,atq,ats,bC];omega)
def W(l:List Sm):Nat:=(l.flatMap wS).length
def Ii:W []=0:=rfl
def Tq(s:Sm)(l:List Sm):W (s::l)=(wS s).length+W l:=by simp[W]
def ati(a b:List Sm):W (a++b)=W a+W b:=by simp[W]
def wS0(site op n m v:Int)(x y:Ex)(c:Co):(wS (S0 site op n m v x y c)).length=9+(wE x).length+(wE y).length+(wC c).length:=by rw[R9];simp[S0,Sm.x,Sm.y,Sm.c,Sm.args,Sm.cO,Sm.body,Sm.tw,wl];omega
def wSB(site op n m v:Int)(x y:Ex)(c:Co)(b e:List Sm):(wS (.mk site op n m v x y c [] [] b e)).length=9+(wE x).length+(wE y).length+(wC c).length+W b+W e:=by rw[R9];simp[Sm.x,Sm.y,Sm.c,Sm.args,Sm.cO,Sm.body,Sm.tw,wl,W];omega
def wSC(site op n m v:Int)(x y:Ex)(c:Co)(es:List Ex)(ps:List Int):(wS (.mk site op n m v x y c es ps [] [])).length=9+(wE x).length+(wE y).length+(wC c).length+(es.flatMap wE).length+ps.length:=by
 have e:∀l:List Int,(l.flatMap wI).length=l.length:=λl=>by induction l with|nil=>rfl|cons x l ih=>rw[mS,fx,ih,fw];show 1+_=_;omega
 rw[R9];simp only[Sm.x,Sm.y,Sm.c,Sm.args,Sm.cO,Sm.body,Sm.tw,am1,e,Bh,kI];omega
def Mk.XA(m:Mk)(a s:Nat):W (m.simple a s).1<=366:=by
 have h1:=m.kX 1 (a+1);have h2:=m.kX 2 (a+1+1);simp only[bE]at h1 h2;unfold Mk.simple;repeat' split
 all_goals (simp only[Tq,Ii,wS0,ahh,wZE,wZC];omega)
def Mk.ac3(m:Mk)(a s:Nat):(wS (m.risky a s).1).length<=366:=by
 have h1:=m.kX 1 (a+1);have h2:=m.kX 1 (a+1+1);have h3:=m.kX 1 (a+1+1+1);have h4:=m.kX 1 (m.expr 1 (a+1+1)).2;have h5:=m.F4 1 (a+1);simp only[bE,bC]at h1 h2 h3 h4 h5;have key:(λz:Sm×Nat×Nat=>(wS z.1).length<=366) (m.risky a s):=by
  unfold Mk.risky;repeat' refine aeb (P:=λz:Sm×Nat×Nat=>(wS z.1).length<=366) ?_ ?_
  all_goals (dsimp only;rw[wS0];simp only[wZE,wZC];omega)
 exact key
theorem Mk.Xf(m:Mk)(a:Nat):∀i,((m.args a i).1.flatMap wE).length<=12*i|0=>by simp[Mk.args]|i+1=>by have h1:=Mk.Xf m a i;have h2:=m.kX 1 (m.args a i).2;simp only[bE]at h2;simp only[Mk.args,Bl,fx,mS,Bh,kI];omega
theorem Mk.GL(m:Mk)(a:Nat):∀i,(m.cO a i).length=i|0=>rfl|i+1=>by simp only[Mk.cO,fx,Mk.GL m a i];rfl
def Mk.aem(m:Mk)(hh:∀h∈m.aF,h.params.length<=12∧h.given.length<=12)(a:Nat):(m.hd a).params.length<=12∧(m.hd a).given.length<=12:=by unfold Mk.hd;rw[Nb];cases h:m.aF[(m.nx a m.nH).toNat]? with|none=>simp[zH]|some x=>exact hh x (wx h)
def Mk.aju(m:Mk)(hh:∀h∈m.aF,h.params.length<=12∧h.given.length<=12)(a s d:Nat):(wS (m.call a s d).1).length<=366:=by have h1:=m.aem hh (a+1);have h2:=m.Xf (a+1+1) (m.hd (a+1)).params.length;have h3:=m.GL (m.args (a+1+1) (m.hd (a+1)).params.length).2 (m.hd (a+1)).given.length;unfold Mk.call;split;simp only[wS0,ahh,wZE,wZC];omega;simp only[wSC,wZE,wZC,h3];omega
def Mk.acq(m:Mk)(hh:∀h∈m.aF,h.params.length<=12∧h.given.length<=12)(k:Int)(dep:Nat)(x:Ms):W (m.other k dep x).1<=366:=by
 have h1:=m.aju hh x.a x.s x.d;have h2:=m.kX 1 x.a;have h3:=m.XA x.a x.s;have h4:=m.ac3 x.a x.s;simp only[bE]at h2;unfold Mk.other;repeat' split
 all_goals (simp only[Tq,Ii,wS0,wZE,wZC];omega)
def Mk.XX(m:Mk)(R:Nat->Ms->List Sm×Ms)(B:Nat)(hR:∀n,n<=2->∀x,W (R n x).1<=B)(k:Int)(x:Ms):(wS (m.nested R k x).1).length<=74+2*B:=by
 have c:=m.F4 1 x.a;simp only[bC]at c;have tn:∀b,(1+m.nx b 2).toNat<=2∧(m.nx b 2).toNat<=2:=λb=>by have:=m.bT b (n:=2) E;omega
 unfold Mk.nested;split;have h1:=hR _ (tn ((m.cond 1 x.a).2+1)).1 ⟨(m.cond 1 x.a).2+1+1,x.s+1,x.l,x.d⟩;simp only[wSB,wZE,Ii];omega;split;have h1:=hR _ (tn (x.a+1)).1 ⟨x.a+1+1,x.s+1,x.l,x.d⟩;have h2:=λy=>hR _ (tn (R (1+m.nx (x.a+1) 2).toNat ⟨x.a+1+1,x.s+1,x.l,x.d⟩).2.a).2 y;have h3:=h2 ⟨(R (1+m.nx (x.a+1) 2).toNat ⟨x.a+1+1,x.s+1,x.l,x.d⟩).2.a+1,(R (1+m.nx (x.a+1) 2).toNat ⟨x.a+1+1,x.s+1,x.l,x.d⟩).2.s,(R (1+m.nx (x.a+1) 2).toNat ⟨x.a+1+1,x.s+1,x.l,x.d⟩).2.l,(R (1+m.nx (x.a+1) 2).toNat ⟨x.a+1+1,x.s+1,x.l,x.d⟩).2.d⟩;simp only[wSB,wZE,wZC];omega;have h1:=hR _ (tn (m.cond 1 x.a).2).1 ⟨(m.cond 1 x.a).2+1,x.s+1,x.l,x.d⟩;have h2:=λy=>hR _ (tn (R (1+m.nx (m.cond 1 x.a).2 2).toNat ⟨(m.cond 1 x.a).2+1,x.s+1,x.l,x.d⟩).2.a).2 y;have h3:=h2 ⟨(R (1+m.nx (m.cond 1 x.a).2 2).toNat ⟨(m.cond 1 x.a).2+1,x.s+1,x.l,x.d⟩).2.a+1,(R (1+m.nx (m.cond 1 x.a).2 2).toNat ⟨(m.cond 1 x.a).2+1,x.s+1,x.l,x.d⟩).2.s,(R (1+m.nx (m.cond 1 x.a).2 2).toNat ⟨(m.cond 1 x.a).2+1,x.s+1,x.l,x.d⟩).2.l,(R (1+m.nx (m.cond 1 x.a).2 2).toNat ⟨(m.cond 1 x.a).2+1,x.s+1,x.l,x.d⟩).2.d⟩;simp only[wSB,wZE];omega
theorem FI(step:Ms->List Sm×Ms)(B:Nat)(h:∀x,W (step x).1<=B):∀n x,W (pJ step n x).1<=n*B|0,x=>by simp[pJ,Ii]|n+1,x=>by have h1:=FI step B h n (step x).2;have h2:=h x;rw[pJ,rF];split;simp[Ii];simp only[ati];omega
def Mk.Nk(m:Mk)(hh:∀h∈m.aF,h.params.length<=12∧h.given.length<=12)(dep:Nat)(R:Nat->Ms->List Sm×Ms)(B:Nat)(hR:∀n,n<=2->∀x,W (R n x).1<=B)(x:Ms):W (m.step dep R x).1<=366+2*B:=by unfold Mk.step;split;have:=m.XX R B hR (m.nx x.a 16) ⟨x.a+1,x.s,x.l-1,x.d⟩;simp only[Tq,Ii];omega;have:=m.acq hh (m.nx x.a 16) dep ⟨x.a+1,x.s,x.l-1,x.d⟩;omega
def Mk.Xu(m:Mk)(hh:∀h∈m.aF,h.params.length<=12∧h.given.length<=12)(n:Nat)(x:Ms):W (m.stmts 0 n x).1<=n*366:=by rw[Mk.stmts];exact FI _ 366 (λy=>m.Nk hh 0 _ 0 (λn hn x=>by simp[Ii]) y) n x
def Mk.Xt(m:Mk)(hh:∀h∈m.aF,h.params.length<=12∧h.given.length<=12)(n:Nat)(x:Ms):W (m.stmts 1 n x).1<=n*1830:=by rw[Mk.stmts];exact FI _ 1830 (λy=>m.Nk hh 1 _ 732 (λn hn x=>by have:=m.Xu hh n x;omega) y) n x
def Mk.Xs(m:Mk)(hh:∀h∈m.aF,h.params.length<=12∧h.given.length<=12)(n:Nat)(x:Ms):W (m.stmts 2 n x).1<=n*7686:=by rw[Mk.stmts];exact FI _ 7686 (λy=>m.Nk hh 2 _ 3660 (λn hn x=>by have:=m.Xt hh n x;omega) y) n x
def SG(id:Int):(nameOf id).length<=100:=by show((letters.drop (id.tmod 8).toNat).take _).length<=100;rw[l7,MK];have:letters.length=8:=rfl;omega
structure ah3(n:Nat)(d:Df):Prop where
 id:0<=d.id∧d.id<100
 np:d.params.length<=12∧d.given.length<=12
 na:d.aK.length<=2
 w:W d.body<=40000+30*n
 nm:d.name.length<=100
def Mk.ajq(m:Mk)(hh:∀h∈m.aF,h.params.length<=12∧h.given.length<=12)(id:Int)(a s:Nat)(part:Int)(c:Nat)(gs:List pG)(b2:Nat)(ar:List Ar)(hc:c<=2)(hg:gs.length<=1)(ha:ar.length<=2)(hid:0<=id∧id<100):ah3 0 (m.dh id a s part c gs b2 ar).1:=by
 have tn:(1+m.nx b2 5).toNat<=5:=by have:=m.bT b2 (n:=5) E;omega
 refine⟨hid,⟨?_,?_⟩,ha,?_,SG id⟩;show(m.params (a+1+1+1+1+1) c).length<=12;rw[m.jr];omega;show gs.length<=12;omega;have:=(m.bU (m.dG id a part (m.params (a+1+1+1+1+1) c) gs ((((m.params (a+1+1+1+1+1) c).map bc).length:Nat)+2+m.nx ((a+1+1+1+1+1+c)+1) 2) 2 ar [] 0)).Xs hh (1+m.nx b2 5).toNat ⟨b2+1,s,9,0⟩;show W ((m.bU (m.dG id a part (m.params (a+1+1+1+1+1) c) gs ((((m.params (a+1+1+1+1+1) c).map bc).length:Nat)+2+m.nx ((a+1+1+1+1+1+c)+1) 2) 2 ar [] 0)).stmts 2 (1+m.nx b2 5).toNat ⟨b2+1,s,9,0⟩).1<=_;omega
def Mk.ap0(m:Mk)(hh:∀h∈m.aF,h.params.length<=12∧h.given.length<=12)(id:Int)(th:Bool)(a s:Nat)(hid:0<=id∧id<100):ah3 0 (m.mE id th a s).1:=by
 have bX:=m.bT (a+1+1+1+1) (n:=3) E;unfold Mk.mE;refine m.ajq hh _ _ _ _ _ _ _ _ ?_ ?_ ?_ hid;split<;>omega;have:∀b:Bool,(if b then[di]else[]).length<=1:=My
 exact this _
 ·repeat' split
  all_goals simp
theorem PQ(L:List UInt8)(n:Nat):∀i,i<=4->∀d∈(cd L n i).defs,ah3 0 d|0,_=>λd hd=>by simp[cd]at hd|i+1,hi=>λd hd=>by have h:=nV L n i;rcases dY.1 hd with hx|hx;exact PQ L n i E d hx;have e:=gg.1 hx;subst e;exact((cd L n i).mk' L).ap0 h.aF (11+i) _ _ _ E
theorem wX(L:List UInt8)(n:Nat):∀i,(cd L n i).aF=(cd L n i).defs.map l_|0=>rfl|i+1=>by show _++[_]=(_++[_]).map l_;rw[eu,<-wX L n i];rfl
structure avh(n:Nat)(p:Pg):Prop where
 aQ:p.d.aQ=3
 parts:p.d.parts=3
 decl:p.d.globals.length=2∧p.d.fq.length=2∧p.d.eJ.length=1∧p.d.sinks.length=3
 aF:p.aF=p.defs.map l_
 pos:0<p.defs.length
 nd:p.defs.length<=4+n
 th:0<p.threads.length
 nt:p.threads.length<=2
 ok:∀d∈p.defs,ah3 n d
theorem O2(ds:List Df):∀(k:Nat) (t:List Int),t.length<=2->(ki ds k t).length<=2|0,t,h=>h|k+1,t,h=>by rw[ki];split;refine O2 ds k _ ?_;split;split;rw[fx];exact az;exact h;exact h;exact h
def adx(L:List UInt8):avh 0 (mo L):=by
 have hb:=(⟨L,cq,[],[],[],zD,false⟩:Mk).bT 0 (n:=4) E;have hN:∃n,n=(1+(⟨L,cq,[],[],[],zD,false⟩:Mk).nx 0 4).toNat:=⟨_,rfl⟩;obtain⟨n,hn⟩:=hN;have e:mo L=⟨cq,(cd L n n).aF,(cd L n n).defs,if ((cd L n n).mk' L).nx (cd L n n).a 3==0 then(ki (cd L n n).defs n []).take 1 else ki (cd L n n).defs n []⟩:=by rw[hn];rfl
 have hn0:0<n:=E
 have hn4:n<=4:=E
 have hm:=nV L n n;have ht:=Jb L n hn0 hn4;have ht2:=O2 (cd L n n).defs n [] O;rw[e];refine⟨rfl,rfl,⟨rfl,rfl,rfl,rfl⟩,wX L n n,?_,?_,?_,?_,PQ L n n hn4⟩;show 0<(cd L n n).defs.length;rw[hm.nd];exact hn0;show(cd L n n).defs.length<=4+0;rw[hm.nd];exact hn4;show 0<(if ((cd L n n).mk' L).nx (cd L n n).a 3==0 then(ki (cd L n n).defs n []).take 1 else ki (cd L n n).defs n []).length;split;exact rB;exact ht;show(if ((cd L n n).mk' L).nx (cd L n n).a 3==0 then(ki (cd L n n).defs n []).take 1 else ki (cd L n n).defs n []).length<=2;split;exact rB;exact ht2
theorem Jx(L:List UInt8)(n:Nat):∀i,(cd L n i).defs.map (·.id)=(List.range i).map λj:Nat=>11+(j:Int)|0=>rfl|i+1=>by show(_++[_]).map _=_;rw[eu,Jx L n i,uZ,eu];rfl
def zZ(L:List UInt8):∃n,(mo L).defs=(cd L n n).defs∧n<=4∧0<n:=by have hb:=(⟨L,cq,[],[],[],zD,false⟩:Mk).bT 0 (n:=4) E;exact⟨(1+(⟨L,cq,[],[],[],zD,false⟩:Mk).nx 0 4).toNat,rfl,E,E⟩
def Yd(L:List UInt8):(mo L).defs.map (·.id)=(List.range (mo L).defs.length).map λj:Nat=>11+(j:Int):=by obtain⟨n,e,_,_⟩:=zZ L;rw[e,Jx,(nV L n n).nd]
def PT(L:List UInt8){i:Nat}(h:i<(mo L).defs.length):(mo L).defs[i].id=11+(i:Int):=by have e:=Yd L;have:=aL (λl:List Int=>l[i]?) e;simpa[h]using this
def Ids(l:List Df):Prop:=∀i (hi:i<l.length) j (hj:j<l.length),l[i].id=l[j].id->i=j
def Yf(L:List UInt8):Ids (mo L).defs:=λi hi j hj h=>by rw[PT L hi,PT L hj]at h;omega
def ZO(h:G:=by show(1:Int)<=((s+1:Nat):Int);omega):=h
def VL(h:G:=by show n<=((2:Nat):Int) - 1;omega):=h
def eU(h:G:=by simp[S0,Sm.op]):=h
def Aw(h:G:=by have:=h.vars;omega):=h
theorem kh.to{vars na:Int}{k:Nat}{e:Ex}{n:Nat}(h:kh vars na k e n):∀j,kh vars na (k+j) e n|0=>h|j+1=>(kh.to h j).up
theorem En.up{vars na:Int}{k:Nat}{c:Co}{n:Nat}(h:En vars na k c n):En vars na (k+1) c n:=by induction h with|test h ha hb=>exact .test h ha.up hb.up|not _ ih=>exact .not ih|and h _ _ iha ihb=>exact .and h iha ihb
theorem En.to{vars na:Int}{k:Nat}{c:Co}{n:Nat}(h:En vars na k c n):∀j,En vars na (k+j) c n|0=>h|j+1=>(En.to h j).up
def kh.v{d:Df}{k:Nat}{e:Ex}{n:Nat}(h:kh d.vars d.aK.length k e n)(hk:k<=4):VOk d e:=⟨n,by have:=h.sz;have:=zr (n:=2) E (show k+1<=5 by omega);omega,by have:=h.to (10 - k);rwa[show k+(10 - k)=10 by omega]at this⟩
def ab8(d:Df){v:Int}(h: -2147483648<=v∧v<=2147483647):VOk d (qf v):=⟨1,E,.num h⟩
theorem Mk.mY(m:Mk)(hv:0<m.D.vars):∀n a,∃z,kh m.D.vars m.D.aK.length (n+1) (m.expr n a).1 z|0,a=>by have b:=m.bT (a+1) (n:=14) E;rw[Mk.expr];exact⟨1,.num E⟩|n+1,a=>by have b:=m.bT (a+1) (n:=14) E;have b2:=m.bT (a+1) (n:=m.D.vars) hv;have b3:=m.bT (a+1) (n:=7) E;obtain⟨x,hx⟩:=Mk.mY m hv n (a+1+1);obtain⟨y,hy⟩:=Mk.mY m hv n (m.expr n (a+1+1)).2;rw[Mk.expr];split;exact⟨1,.num E⟩;split;exact⟨1,.var b2⟩;split;rename_i h;exact⟨1,.len (m.bT (a+1) (n:=m.D.aK.length) E)⟩;exact⟨_,.bin E hx hy⟩
theorem Mk.Aj(m:Mk)(hv:0<m.D.vars):∀n a,∃z,En m.D.vars m.D.aK.length (3+n) (m.cond n a).1 z
 |0,a=>by have b:=m.bT a (n:=8) E;have b2:0<=(m.nx a 8).tmod 3∧(m.nx a 8).tmod 3<3:=⟨dz _ b.1,fi _ E⟩;obtain⟨x,hx⟩:=m.mY hv 1 (a+1);obtain⟨y,hy⟩:=m.mY hv 1 (m.expr 1 (a+1)).2;rw[Mk.cond];exact⟨_,.test E hx hy⟩
 |n+1,a=>by have b:=m.bT a (n:=8) E;have b2:0<=(m.nx a 8).tmod 3∧(m.nx a 8).tmod 3<3:=⟨dz _ b.1,fi _ E⟩;have b3:=m.bT (m.cond n (a+1)).2 (n:=2) E;obtain⟨x,hx⟩:=m.mY hv 1 (a+1);obtain⟨y,hy⟩:=m.mY hv 1 (m.expr 1 (a+1)).2;obtain⟨z,hz⟩:=Mk.Aj m hv n (a+1);obtain⟨w,hw⟩:=Mk.Aj m hv n ((m.cond n (a+1)).2+1);rw[Mk.cond];split;exact⟨_,(En.test (k:=2) E hx hy).to (n+1)⟩;split;exact⟨_,.not hz⟩;exact⟨_,.and E hz hw⟩
theorem Mk.v(m:Mk)(hv:0<m.D.vars){n:Nat}(hn:n<=2)(a:Nat):VOk m.D (m.expr n a).1:=(m.mY hv n a).elim λz h=>h.v E
def Mk.t(m:Mk)(hv:0<m.D.vars)(a:Nat):TOk m.D true (m.cond 1 a).1:=(m.Aj hv 1 a).elim λz h=>⟨z,by have:=h.sz;have:2^(3+1+1)=32:=rfl;omega,h.to 6⟩
def Kd(hs:List Hd)(s:Sm):Prop:=s.op=13->∃h∈hs,s.m=h.id∧h.params.length=s.args.length∧h.given.length=s.cO.length
structure Up(s t:Nat)(l:List Int):Prop where
 le:s<=t
 inc:l.Pairwise (· <·)
 bd:∀n∈l,(s:Int)<n∧n<=t
theorem Up.nil(s:Nat):Up s s []:=⟨cJ _,.nil,λn h=>ie⟩
def Up.app{s t u:Nat}{a b:List Int}(h:Up s t a)(k:Up t u b):Up s u (a++b):=⟨eW h.le k.le,List.pairwise_append.2 ⟨h.inc,k.inc,λx hx y hy=>by have:=h.bd x hx;have:=k.bd y hy;omega⟩,λn hn=>by have:=h.le;have:=k.le;rcases dY.1 hn with hn|hn;have:=h.bd n hn;omega;have:=k.bd n hn;omega⟩
def Up.one(s:Nat):Up s (s+1) [((s+1:Nat):Int)]:=⟨E,List.pairwise_singleton _ _,λn hn=>by rw[gg.1 hn];omega⟩
theorem Up.len:∀{l:List Int} {s t:Nat},Up s t l->l.length<=t - s|[],_,_,_=>by simp|x::l,s,t,h=>by have hx:=h.bd x zo;have hp:=Fu.1 h.inc;have:=Up.len (l:=l) (s:=x.toNat) (t:=t) ⟨E,hp.2,λn hn=>by have:=hp.1 n hn;have:=h.bd n (mT _ hn);omega⟩;rw[fw];omega
structure Rt(m:Mk)(k dep s t:Nat)(ss:List Sm):Prop where
 ok:∀z∈wi ss k,(∃o,SOk m.D cq o z.1)∧Kd m.aF z.1∧z.2<=k+dep
 up:Up s t (vi (wi ss k))
theorem Rt.nil(m:Mk)(k dep s:Nat):Rt m k dep s s []:=⟨λz h=>by simp[wi]at h,Up.nil s⟩
theorem Rt.app{m:Mk}{k dep s t u:Nat}{a b:List Sm}(h:Rt m k dep s t a)(g:Rt m k dep t u b):Rt m k dep s u (a++b):=⟨λz hz=>by rw[Ae]at hz;rcases dY.1 hz with hz|hz;exact h.ok z hz;exact g.ok z hz,by rw[Ae,vi,eu];exact h.up.app g.up⟩
def Rt.nest{m:Mk}{k dep s t u:Nat}{s0:Sm}(hs:s0.site=(s+1:Nat))(ok:∃o,SOk m.D cq o s0)(hc:Kd m.aF s0)(hb:Rt m (k+1) dep (s+1) t s0.body)(he:Rt m (k+1) dep t u s0.tw):Rt m k (dep+1) s u [s0]:=by
 have e:wi [s0] k=(s0,k)::(wi s0.body (k+1)++wi s0.tw (k+1)):=by rw[wi,wi,jV,af2]
 refine⟨λz hz=> ?_,?_⟩;rw[e]at hz;rcases b_.1 hz with rfl|hz;exact⟨ok,hc,bu⟩;rcases dY.1 hz with hz|hz;have:=hb.ok z hz;exact⟨this.1,this.2.1,E⟩;have:=he.ok z hz;exact⟨this.1,this.2.1,E⟩;rw[e,vi,oD,eu];dsimp only;rw[hs];exact(Up.one s).app (hb.up.app he.up)
def Rt.flat{m:Mk}{k dep s:Nat}{s0:Sm}(hs:s0.site=(s+1:Nat))(hb:s0.body=[])(he:s0.tw=[])(ok:∃o,SOk m.D cq o s0)(hc:Kd m.aF s0):Rt m k dep s (s+1) [s0]:=by
 have e:wi [s0] k=[(s0,k)]:=by rw[wi,wi,jV,af2,hb,he];rfl
 refine⟨λz hz=> ?_,?_⟩;rw[e]at hz;rw[gg.1 hz];exact⟨ok,hc,bu⟩;rw[e];show Up s (s+1) [s0.site];rw[hs];exact Up.one s
structure Mk.Rok(m:Mk):Prop where
 vars:(m.D.params.length:Int)<m.D.vars
 arr:0<m.D.aK.length
 refs:m.D.refs=2
 aF:∀h∈m.aF,(1<=h.id∧h.id<=100)∧h.params.length<=12∧h.given.length<=4
def Mk.BA{m:Mk}(h:m.Rok)(a:Nat):(m.D.params.length:Int)<=m.tg a∧m.tg a<=m.D.vars - 1:=by have h1:=h.vars;have e:=m.Wu;have:=m.bT a (n:=m.D.vars - m.nP) E;unfold Mk.tg;omega
def jb{d:Df}{o:Nat}{op:Int}(e:op=o){s:Nat}(hs:s<1000000){n m v:Int}{x y:Ex}{c:Co}(ho:1<=o∧o<=24)(hn:iK d cq (Ra o).n n)(hm:iK d cq (Ra o).m m)(hv:iK d cq (Ra o).v v)(hx:XOk d (Ra o).x x)(hy:XOk d (Ra o).y y)(hc:TOk d (Ra o).c c)(hl:(Ra o).call=false):∃o,SOk d cq o (S0 (s+1:Nat) op n m v x y c):=⟨o,e,ho,⟨ZO,by show((s+1:Nat):Int)<=_;omega⟩,hn,hm,hv,hx,hy,hc,by rw[hl];exact sD,.inr rfl,.inr rfl⟩
def dP{hs:List Hd}{s:Sm}(h:s.op≠13):Kd hs s:=λe=>absurd e h
section
variable{d:Df}
def n3(h:d.refs=2){n:Int}(hn:0<=n∧n<2):iK d cq 3 n:=⟨hn.1,by rw[h];omega⟩
def n5{n:Int}(h:0<=n∧n<2):iK d cq 5 n:=⟨h.1,VL⟩
def n6{n:Int}(h:0<=n∧n<2):iK d cq 6 n:=⟨h.1,VL⟩
def n7:iK d cq 7 0:=⟨E,by show(0:Int)<=((1:Nat):Int) - 1;omega⟩
def n8{n:Int}(h:0<=n∧n<3):iK d cq 8 n:=⟨h.1,by show n<=((3:Nat):Int) - 1;omega⟩
def n9{n:Int}(h:0<=n∧n<3):iK d cq 9 n:=⟨h.1,by show n<=3 - 1;omega⟩
def n10{n:Int}(h:0<=n∧n<3):iK d cq 10 n:=⟨h.1,by show n<=3 - 1;omega⟩
def n4{n:Int}(h:0<=n∧n<d.aK.length):iK d cq 4 n:=⟨h.1,E⟩
end
def Mk.XB{m:Mk}(h:m.Rok)(k dep a s:Nat)(hs:s+10<1000000):Rt m k dep s (m.simple a s).2.2 (m.simple a s).1:=by
 have tg:=λa=>m.BA h a;have hv:0<m.D.vars:=Aw
 have na:=h.arr;have b4:=λa=>m.bT a (n:=4) E;have b2:=λa=>m.bT a (n:=2) E;have b3:=λa=>m.bT a (n:=3) E;have b9:=λa=>m.bT a (n:=9) E;have e4:=λa=>ab8 m.D (v:=m.nx a 4) (by have:=b4 a;omega);have e9:=λa=>ab8 m.D (v:=m.nx a 9) (by have:=b9 a;omega);unfold Mk.simple;repeat' split
 refine Rt.flat rfl rfl rfl ?_ (dP eU);exact jb (o:=2) rfl E E (tg _) (n4 E) rfl (e4 _) rfl rfl rfl;refine Rt.flat rfl rfl rfl ?_ (dP eU);exact jb (o:=3) rfl E E rfl (n4 E) rfl (e4 _) (m.v hv E _) rfl rfl;refine Rt.flat rfl rfl rfl ?_ (dP eU);exact jb (o:=4) rfl E E (tg _) (n5 (b2 _)) rfl rfl rfl rfl rfl;refine Rt.flat rfl rfl rfl ?_ (dP eU);exact jb (o:=20) rfl E E (tg _) (n6 (b2 _)) rfl rfl rfl rfl rfl
 exact(Rt.flat rfl rfl rfl (jb (o:=16) rfl E E rfl (n9 (b3 _)) rfl rfl rfl rfl rfl) (dP eU)).app ((Rt.flat rfl rfl rfl (jb (o:=5) rfl E E rfl (n5 E) rfl (e9 _) rfl rfl rfl) (dP eU)).app
  (Rt.flat rfl rfl rfl (jb (o:=17) rfl E E rfl (n9 (b3 _)) rfl rfl rfl rfl rfl) (dP eU)))
 exact(Rt.flat rfl rfl rfl (jb (o:=6) rfl E E (n3 h.refs E) rfl rfl rfl rfl rfl rfl) (dP eU)).app ((Rt.flat rfl rfl rfl (jb (o:=9) rfl E E (n3 h.refs E) rfl rfl (m.v hv E _) rfl rfl rfl) (dP eU)).app
  (Rt.flat rfl rfl rfl (jb (o:=7) rfl E E (n3 h.refs E) rfl rfl rfl rfl rfl rfl) (dP eU)))
 refine Rt.flat rfl rfl rfl ?_ (dP eU);exact jb (o:=1) rfl E E (tg _) rfl rfl (m.v hv E _) rfl rfl rfl
def VR(h:G:=by show(16+m.nx (a+1) 2)≠13;omega):=h
def Lw(h:G:=by simp[Sm.op]):=h
def Mk.ac4{m:Mk}(h:m.Rok)(k dep a s:Nat)(hs:s+10<1000000):Rt m k dep s (m.risky a s).2.2 [(m.risky a s).1]:=by
 have tg:=λa=>m.BA h a;have hv:0<m.D.vars:=Aw
 have na:=h.arr;have eA:=m.al3;have bA:=λa=>m.bT a (n:=m.nA) E;have b2:=λa=>m.bT a (n:=2) E;have b3:=λa=>m.bT a (n:=3) E;have v1:=λa=>m.v hv (n:=1) E a;have r:=h.refs;have t:=m.t hv;have key:(λz:Sm×Nat×Nat=>Rt m k dep s z.2.2 [z.1]) (m.risky a s):=by
  unfold Mk.risky;repeat' refine aeb (P:=λz:Sm×Nat×Nat=>Rt m k dep s z.2.2 [z.1]) ?_ ?_
  all_goals dsimp only
  refine Rt.flat rfl rfl rfl ?_ (dP eU);exact jb (o:=2) rfl E E (tg _) (n4 (by have:=bA (a+1+1);omega)) rfl (v1 _) rfl rfl rfl;refine Rt.flat rfl rfl rfl ?_ (dP eU);exact jb (o:=3) rfl E E rfl (n4 (by have:=bA (a+1);omega)) rfl (v1 _) (v1 _) rfl rfl;refine Rt.flat rfl rfl rfl ?_ (dP eU);exact jb (o:=5) rfl E E rfl (n5 (b2 _)) rfl (v1 _) rfl rfl rfl;refine Rt.flat rfl rfl rfl ?_ (dP eU);exact jb (o:=6) rfl E E (n3 r (b2 _)) rfl rfl rfl rfl rfl rfl;refine Rt.flat rfl rfl rfl ?_ (dP eU);exact jb (o:=7) rfl E E (n3 r (b2 _)) rfl rfl rfl rfl rfl rfl;refine Rt.flat rfl rfl rfl ?_ (dP eU);exact jb (o:=8) rfl E E (n3 r (b2 _)) (n3 r (b2 _)) rfl rfl rfl rfl rfl;refine Rt.flat rfl rfl rfl ?_ (dP eU);exact jb (o:=10) rfl E E (tg _) (n3 r (b2 _)) rfl rfl rfl rfl rfl;have q:=b2 (a+1);rcases(show m.nx (a+1) 2=0∨m.nx (a+1) 2=1 by omega)with e|e;refine Rt.flat rfl rfl rfl ?_ (dP VR);exact jb (o:=16) E E E rfl (n9 (b3 _)) rfl rfl rfl rfl rfl;refine Rt.flat rfl rfl rfl ?_ (dP VR);exact jb (o:=17) E E E rfl (n9 (b3 _)) rfl rfl rfl rfl rfl;refine Rt.flat rfl rfl rfl ?_ (dP eU);exact jb (o:=18) rfl E E rfl n7 rfl (v1 _) rfl rfl rfl;refine Rt.flat rfl rfl rfl ?_ (dP eU);exact jb (o:=19) rfl E E (tg _) n7 rfl rfl rfl rfl rfl;refine Rt.flat rfl rfl rfl ?_ (dP eU);exact jb (o:=21) rfl E E rfl (n8 (b3 _)) rfl (v1 _) rfl rfl rfl;refine Rt.flat rfl rfl rfl ?_ (dP eU);exact jb (o:=22) rfl E E rfl (n10 (b3 _)) rfl rfl rfl rfl rfl;refine Rt.flat rfl rfl rfl ?_ (dP eU);exact jb (o:=23) rfl E E rfl rfl rfl rfl rfl (t _) rfl;refine Rt.flat rfl rfl rfl ?_ (dP eU);exact jb (o:=9) rfl E E (n3 r (b2 _)) rfl rfl (v1 _) rfl rfl rfl
 exact key
theorem Mk.H7{m:Mk}(hv:0<m.D.vars)(a:Nat):∀i,(m.args a i).1.length=i∧∀e∈(m.args a i).1,VOk m.D e|0=>⟨rfl,λe he=>by simp[Mk.args]at he⟩|i+1=>by have ih:=Mk.H7 hv a i;simp only[Mk.args];refine⟨by rw[fx,ih.1];rfl,λe he=> ?_⟩;rcases dY.1 he with he|he;exact ih.2 e he;rw[gg.1 he];exact m.v hv E _
theorem Mk.GJ{m:Mk}(h:m.Rok)(a:Nat):∀i,∀n∈m.cO a i,iK m.D cq 3 n|0=>λn hn=>by simp[Mk.cO]at hn|i+1=>λn hn=>by simp only[Mk.cO]at hn;rcases dY.1 hn with hn|hn;exact Mk.GJ h a i n hn;rw[gg.1 hn];exact n3 h.refs (m.bT _ E)
def Mk.aro{m:Mk}(h:m.aF.length≠0)(a:Nat):m.hd a∈m.aF:=by
 have e:m.nH=m.aF.length:=by simp[Mk.nH]
 have b:=m.bT a (n:=m.nH) E;unfold Mk.hd;rw[Nb,iW E];exact cU _
def Mk.ajv{m:Mk}(h:m.Rok)(k dep a s d:Nat)(hs:s+10<1000000):Rt m k dep s (s+1) [(m.call a s d).1]:=by
 have tg:=λa=>m.BA h a;have hv:0<m.D.vars:=Aw
 unfold Mk.call;split;refine Rt.flat rfl rfl rfl ?_ (dP eU);exact jb (o:=1) rfl E E (tg _) rfl rfl (ab8 _ E) rfl rfl rfl;rename_i hh;have hm:=m.aro (λe=>hh (.inl e)) (a+1);have hd:=h.aF _ hm;have ha:=Mk.H7 hv (a+1+1) (m.hd (a+1)).params.length;have hp:=Mk.GJ h (m.args (a+1+1) (m.hd (a+1)).params.length).2 (m.hd (a+1)).given.length;have hpl:=m.GL (m.args (a+1+1) (m.hd (a+1)).params.length).2 (m.hd (a+1)).given.length;dsimp only;refine Rt.flat rfl rfl rfl ⟨13,rfl,E,⟨ZO,by show((s+1:Nat):Int)<=_;omega⟩,tg _,⟨hd.1.1,by show(m.hd (a+1)).id<=_;omega⟩,rfl,rfl,rfl,rfl,⟨⟨ha.2,by show(m.args _ _).1.length<=12;rw[ha.1];exact hd.2.1⟩,hp,by show(m.cO _ _).length<=4;rw[hpl];exact hd.2.2⟩,.inr rfl,.inr rfl⟩ (λ_=>⟨_,hm,rfl,ha.1.symm,hpl.symm⟩)
def Mk.acr{m:Mk}(h:m.Rok)(kk:Int)(k dep dp:Nat)(x:Ms)(hs:x.s+10<1000000):Rt m k dep x.s (m.other kk dp x).2.s (m.other kk dp x).1:=by
 have hv:0<m.D.vars:=Aw
 have b3:=m.bT x.a (n:=3) E;unfold Mk.other;repeat' split
 exact m.ajv h k dep _ _ _ hs;refine Rt.flat rfl rfl rfl ?_ (dP eU);exact jb (o:=14) rfl E E rfl rfl (by show 1<=_∧_<=(31:Int);omega) rfl rfl rfl rfl;refine Rt.flat rfl rfl rfl ?_ (dP eU);exact jb (o:=24) rfl E E rfl rfl rfl (m.v hv E _) rfl rfl rfl;exact m.XB h k dep _ _ hs;exact m.ac4 h k dep _ _ hs
def LRt(m:Mk)(dep:Nat)(R:Nat->Ms->List Sm×Ms):Prop:=∀n x k,x.s+10*x.l+10<1000000->Rt m k dep x.s (R n x).2.s (R n x).1
def Mk.XY{m:Mk}(h:m.Rok){dep:Nat}{R:Nat->Ms->List Sm×Ms}(hR:LRt m dep R)(hu:∀n x,jN x (R n x).2)(kk:Int)(x:Ms)(k:Nat)(hs:x.s+10*x.l+12<1000000):Rt m k (dep+1) x.s (m.nested R kk x).2.s [(m.nested R kk x).1]:=by
 have tg:=λa=>m.BA h a;have hv:0<m.D.vars:=Aw
 have t:=m.t hv;have sok:(1:Int)<=((x.s+1:Nat):Int)∧((x.s+1:Nat):Int)<=1073741824:=E
 unfold Mk.nested;split;have b3:=m.bT (m.cond 1 x.a).2 (n:=3) E;dsimp only;refine Rt.nest rfl ⟨12,rfl,E,sok,rfl,rfl,?_,rfl,rfl,t _,⟨rfl,rfl⟩,.inl rfl,.inr rfl⟩ (dP Lw) (hR (1+m.nx ((m.cond 1 x.a).2+1) 2).toNat ⟨(m.cond 1 x.a).2+1+1,x.s+1,x.l,x.d⟩ (k+1) bu) (Rt.nil _ _ _ _);show 1<=1+m.nx (m.cond 1 x.a).2 3∧1+m.nx (m.cond 1 x.a).2 3<=(16:Int);omega;split;have u:=hu (1+m.nx (x.a+1) 2).toNat ⟨x.a+1+1,x.s+1,x.l,x.d⟩;simp only[jN]at u;dsimp only;refine Rt.nest rfl ⟨15,rfl,E,sok,tg _,rfl,rfl,rfl,rfl,rfl,⟨rfl,rfl⟩,.inl rfl,.inl rfl⟩ (dP Lw) (hR (1+m.nx (x.a+1) 2).toNat ⟨x.a+1+1,x.s+1,x.l,x.d⟩ (k+1) bu) ?_;exact hR _ ⟨(R (1+m.nx (x.a+1) 2).toNat ⟨x.a+1+1,x.s+1,x.l,x.d⟩).2.a+1,(R (1+m.nx (x.a+1) 2).toNat ⟨x.a+1+1,x.s+1,x.l,x.d⟩).2.s,(R (1+m.nx (x.a+1) 2).toNat ⟨x.a+1+1,x.s+1,x.l,x.d⟩).2.l,(R (1+m.nx (x.a+1) 2).toNat ⟨x.a+1+1,x.s+1,x.l,x.d⟩).2.d⟩ (k+1) bu;have u:=hu (1+m.nx (m.cond 1 x.a).2 2).toNat ⟨(m.cond 1 x.a).2+1,x.s+1,x.l,x.d⟩;simp only[jN]at u;dsimp only;refine Rt.nest rfl ⟨11,rfl,E,sok,rfl,rfl,rfl,rfl,rfl,t _,⟨rfl,rfl⟩,.inl rfl,.inl rfl⟩ (dP Lw) (hR (1+m.nx (m.cond 1 x.a).2 2).toNat ⟨(m.cond 1 x.a).2+1,x.s+1,x.l,x.d⟩ (k+1) bu) ?_;exact hR _ ⟨(R (1+m.nx (m.cond 1 x.a).2 2).toNat ⟨(m.cond 1 x.a).2+1,x.s+1,x.l,x.d⟩).2.a+1,(R (1+m.nx (m.cond 1 x.a).2 2).toNat ⟨(m.cond 1 x.a).2+1,x.s+1,x.l,x.d⟩).2.s,(R (1+m.nx (m.cond 1 x.a).2 2).toNat ⟨(m.cond 1 x.a).2+1,x.s+1,x.l,x.d⟩).2.l,(R (1+m.nx (m.cond 1 x.a).2 2).toNat ⟨(m.cond 1 x.a).2+1,x.s+1,x.l,x.d⟩).2.d⟩ (k+1) bu
theorem Nu{m:Mk}{k dep:Nat}{step:Ms->List Sm×Ms}(h:∀x,x.l≠0->x.s+10*x.l+10<1000000->Rt m k dep x.s (step x).2.s (step x).1)(hu:∀x,x.l≠0->jN x (step x).2):∀n x,x.s+10*x.l+10<1000000->Rt m k dep x.s (pJ step n x).2.s (pJ step n x).1|0,x,_=>Rt.nil _ _ _ _|n+1,x,hx=>by rw[pJ];split;exact Rt.nil _ _ _ _;rename_i hl;have u:=hu x hl;have:=u.2.1;exact(h x hl hx).app (Nu h hu n _ E)
def Mk.Wa{m:Mk}(h:m.Rok)(dep:Nat){R:Nat->Ms->List Sm×Ms}(hR:∀e,dep=e+1->LRt m e R)(hu:∀n x,jN x (R n x).2)(k:Nat)(x:Ms)(hl:x.l≠0)(hs:x.s+10*x.l+10<1000000):Rt m k dep x.s (m.step dep R x).2.s (m.step dep R x).1:=by unfold Mk.step;split;rename_i hd;obtain⟨e,rfl⟩:∃e,dep=e+1:=⟨dep - 1,E⟩;exact m.XY h (hR e rfl) hu _ ⟨x.a+1,x.s,x.l-1,x.d⟩ k bu;exact m.acr h _ k dep dep ⟨x.a+1,x.s,x.l-1,x.d⟩ bu
theorem Mk.O8{m:Mk}(h:m.Rok):∀dep,LRt m dep (m.stmts dep)
 |0=>λn x k hx=>by
  have hh:∀h∈m.aF,h.params.length<=12∧h.given.length<=12:=λy hy=>by have:=h.aF y hy;omega
  rw[Mk.stmts];exact Nu (λy hl hy=>m.Wa h 0 (λe he=>E) (λn x=>jN.refl x) k y hl hy) (λy hl=>(m.wK hh 0 (λn x=>jN.refl x) y hl).1) n x hx
 |dep+1=>λn x k hx=>by
  have hh:∀h∈m.aF,h.params.length<=12∧h.given.length<=12:=λy hy=>by have:=h.aF y hy;omega
  rw[Mk.stmts];exact Nu (λy hl hy=>m.Wa h (dep+1) (λe he=>by cases he;exact Mk.O8 h dep) (m.lM hh dep) k y hl hy) (λy hl=>(m.wK hh (dep+1) (m.lM hh dep) y hl).1) n x hx
end Abs
