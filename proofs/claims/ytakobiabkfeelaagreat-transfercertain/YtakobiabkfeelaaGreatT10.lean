/- A part of a proof: an abstract machine, proved sound, or contracts of functions. No condition. -/
import Derived.Test.YtakobiabkfeelaaGreatT9
set_option linter.unusedVariables false
set_option linter.unusedSimpArgs false
set_option linter.defProp false
set_option maxRecDepth 100000
set_option maxHeartbeats 4000000
namespace Abs
open Go Go.Proofs Tryz
variable{G:Prop}
def nD(h:G:=by dsimp only[if_false,Bool.false_eq_true]at cc ⊢;refine fo Tryz.func236 ?_;exact bp):=h
def nC(h:G:=by dsimp only[if_true]at cc ⊢;refine fo Tryz.func236 ?_;exact bp):=h
def Ub(h:G:=by rw[Rs.CA];dsimp only[if_true]at ci ⊢;refine fo Tryz.func236 ?_;exact bp):=h
def Kk(h:G:=by refine fo Tryz.func236 ?_;exact bp):=h
def nU{c:Wc}{n:Int}(h:¬c.s.op=n:=by omega):¬c.s.op=n:=h
section
variable{c:Wc}{w:Wk}
def aow(h:Hd)(y:Sy)(hc:kf c)(hw:ic c w)(ho:c.s.op=1){k:Nat}{z:Nat}(he:kh c.d.vars c.d.aK.length k c.s.x z)(hn:0<=c.s.n∧c.s.n<c.d.vars):aj prog 236 [.ptr 1000 0] (bZ c w) (cV (kF c h y w) (.bS [])) (bZ c (kF c h y w).1):=by
 have o1:(c.s.op==1)=true:=aD
 have cs:=CV hc hw he;have cf:=amn hc.d hw.f c.s.n hn (iP c c.s.x w) he;unfold kF cV;rw[ak (show c.s.op=1 by omega)];obtain⟨U,hU⟩:∃U,kZ c c.s.x w={w with us:=U}:=⟨_,rfl⟩;rw[hU]at cs ⊢;generalize IC w.f c.s.n (iP c c.s.x w) c.s.x=F at*;generalize iP c c.s.x w=A at*;exact Kk
def ajh(h:Hd)(y:Sy)(hc:kf c)(hw:ic c w)(ho:c.s.op=4)(hv:0<=c.s.n∧c.s.n<c.d.vars)(hn:0<=c.s.m∧c.s.m.toNat<c.p.d.globals.length)(hr:∀q∈c.p.d.globals,m7 q):aj prog 236 [.ptr 1000 0] (bZ c w) (cV (kF c h y w) (.bS [])) (bZ c (kF c h y w).1):=by
 have o1:(c.s.op==1)=false:=aD
 have o2:(c.s.op==2)=false:=aD
 have o3:(c.s.op==3)=false:=aD
 have o4:(c.s.op==4)=true:=aD
 have hx:=NI hn.2;have hn0:=hn.1;have hR:m7 (cZ c.p.d.globals c.s.m):=by
  have e:cZ c.p.d.globals c.s.m=c.p.d.globals[c.s.m.toNat]:=E'
  exact CH
 have h1:=hR.lo;have h2:=hR.le;have h3:=hR.hi;have ci:=N6 (cZ c.p.d.globals c.s.m) E E;have ca:=rb hc hw.f hv (jh (cZ c.p.d.globals c.s.m));unfold kF cV;(repeat rw[Z nU]);rw[ak (show c.s.op=4 by omega)];generalize gW c (jh (cZ c.p.d.globals c.s.m)) w=W at*;generalize jh (cZ c.p.d.globals c.s.m)=A at*;generalize cZ c.p.d.globals c.s.m=R at*;refine fo func236 ?_;refine aM ?_;repeat((first|refine bt.at rfl hn0 hx ?_|(apply aE;first|exact ci|exact ca));refine run ?_)
 exact aG
def ajg(h:Hd)(y:Sy)(hc:kf c)(hw:ic c w)(ho:c.s.op=19)(hv:0<=c.s.n∧c.s.n<c.d.vars)(hn:0<=c.s.m∧c.s.m.toNat<c.p.d.eJ.length)(hr:∀q∈c.p.d.eJ,m7 q.r):aj prog 236 [.ptr 1000 0] (bZ c w) (cV (kF c h y w) (.bS [])) (bZ c (kF c h y w).1):=by
 have o1:(c.s.op==1)=false:=aD
 have o2:(c.s.op==2)=false:=aD
 have o3:(c.s.op==3)=false:=aD
 have o4:(c.s.op==4)=false:=aD
 have Rc:(c.s.op==19)=true:=aD
 have hx:=acz hn.2;have hn0:=hn.1;have hR:m7 ((pZ c.p.d.eJ c.s.m).r):=by
  have e:pZ c.p.d.eJ c.s.m=c.p.d.eJ[c.s.m.toNat]:=by unfold pZ;simp[hn.2]
  exact CH
 have h1:=hR.lo;have h2:=hR.le;have h3:=hR.hi;have ci:=N6 ((pZ c.p.d.eJ c.s.m).r) E E;have ca:=rb hc hw.f hv (jh ((pZ c.p.d.eJ c.s.m).r));unfold kF cV;(repeat rw[Z nU]);rw[ak (show c.s.op=19 by omega)];generalize gW c (jh ((pZ c.p.d.eJ c.s.m).r)) w=W at*;generalize jh ((pZ c.p.d.eJ c.s.m).r)=A at*;generalize pZ c.p.d.eJ c.s.m=R at*;refine fo func236 ?_;refine aM ?_;repeat((first|refine bt.at rfl hn0 hx ?_|(apply aE;first|exact ci|exact ca));refine run ?_)
 exact aG
def YG(h:Hd)(y:Sy)(hc:kf c)(hw:ic c w)(ho:c.s.op=20)(hv:0<=c.s.n∧c.s.n<c.d.vars)(hn:0<=c.s.m∧c.s.m.toNat<c.p.d.fq.length)(hr:∀q∈c.p.d.fq,m7 q):aj prog 236 [.ptr 1000 0] (bZ c w) (cV (kF c h y w) (.bS [])) (bZ c (kF c h y w).1):=by
 have o1:(c.s.op==1)=false:=aD
 have o2:(c.s.op==2)=false:=aD
 have o3:(c.s.op==3)=false:=aD
 have o4:(c.s.op==4)=false:=aD
 have Rc:(c.s.op==19)=false:=aD
 have SC:(c.s.op==20)=true:=aD
 have hx:=NI hn.2;have hn0:=hn.1;have hR:m7 (cZ c.p.d.fq c.s.m):=by
  have e:cZ c.p.d.fq c.s.m=c.p.d.fq[c.s.m.toNat]:=E'
  exact CH
 have h1:=hR.lo;have h2:=hR.le;have h3:=hR.hi;have ci:=N6 (cZ c.p.d.fq c.s.m) E E;have ca:=rb hc hw.f hv (jh (cZ c.p.d.fq c.s.m));unfold kF cV;(repeat rw[Z nU]);rw[ak (show c.s.op=20 by omega)];generalize gW c (jh (cZ c.p.d.fq c.s.m)) w=W at*;generalize jh (cZ c.p.d.fq c.s.m)=A at*;generalize cZ c.p.d.fq c.s.m=R at*;refine fo func236 ?_;refine aM ?_;repeat((first|refine bt.at rfl hn0 hx ?_|(apply aE;first|exact ci|exact ca));refine run ?_)
 exact aG
def aji(h:Hd)(y:Sy)(ho:c.s.op=5)(cc:aj prog 286 [.ptr 1000 0] (bZ c w) (cV (rU c w) (.bS [])) (bZ c (rU c w).1)):aj prog 236 [.ptr 1000 0] (bZ c w) (cV (kF c h y w) (.bS [])) (bZ c (kF c h y w).1):=by
 have o1:(c.s.op==1)=false:=aD
 have o2:(c.s.op==2)=false:=aD
 have o3:(c.s.op==3)=false:=aD
 have o4:(c.s.op==4)=false:=aD
 have Rc:(c.s.op==19)=false:=aD
 have SC:(c.s.op==20)=false:=aD
 have o5:(c.s.op==5)=true:=aD
 unfold kF cV;(repeat rw[Z nU]);rw[ak (show c.s.op=5∨c.s.op=18∨c.s.op=21 by omega)];unfold cV at cc;generalize rU c w=N at*;obtain⟨W,b⟩:=N;cases b with|false=>exact nD|true=>exact nC
def afg(h:Hd)(y:Sy)(ho:c.s.op=18)(cc:aj prog 286 [.ptr 1000 0] (bZ c w) (cV (rU c w) (.bS [])) (bZ c (rU c w).1)):aj prog 236 [.ptr 1000 0] (bZ c w) (cV (kF c h y w) (.bS [])) (bZ c (kF c h y w).1):=by
 have o1:(c.s.op==1)=false:=aD
 have o2:(c.s.op==2)=false:=aD
 have o3:(c.s.op==3)=false:=aD
 have o4:(c.s.op==4)=false:=aD
 have Rc:(c.s.op==19)=false:=aD
 have SC:(c.s.op==20)=false:=aD
 have o5:(c.s.op==5)=false:=aD
 have XW:(c.s.op==18)=true:=aD
 unfold kF cV;(repeat rw[Z nU]);rw[ak (show c.s.op=5∨c.s.op=18∨c.s.op=21 by omega)];unfold cV at cc;generalize rU c w=N at*;obtain⟨W,b⟩:=N;cases b with|false=>exact nD|true=>exact nC
def aff(h:Hd)(y:Sy)(ho:c.s.op=21)(cc:aj prog 286 [.ptr 1000 0] (bZ c w) (cV (rU c w) (.bS [])) (bZ c (rU c w).1)):aj prog 236 [.ptr 1000 0] (bZ c w) (cV (kF c h y w) (.bS [])) (bZ c (kF c h y w).1):=by
 have o1:(c.s.op==1)=false:=aD
 have o2:(c.s.op==2)=false:=aD
 have o3:(c.s.op==3)=false:=aD
 have o4:(c.s.op==4)=false:=aD
 have Rc:(c.s.op==19)=false:=aD
 have SC:(c.s.op==20)=false:=aD
 have o5:(c.s.op==5)=false:=aD
 have XW:(c.s.op==18)=false:=aD
 have YZ:(c.s.op==21)=true:=aD
 unfold kF cV;(repeat rw[Z nU]);rw[ak (show c.s.op=5∨c.s.op=18∨c.s.op=21 by omega)];unfold cV at cc;generalize rU c w=N at*;obtain⟨W,b⟩:=N;cases b with|false=>exact nD|true=>exact nC
def afk(h:Hd)(y:Sy)(ho:c.s.op=6)(cc:aj prog 287 [.ptr 1000 0] (bZ c w) (cV (gF c w) (.bS [])) (bZ c (gF c w).1)):aj prog 236 [.ptr 1000 0] (bZ c w) (cV (kF c h y w) (.bS [])) (bZ c (kF c h y w).1):=by
 have o1:(c.s.op==1)=false:=aD
 have o2:(c.s.op==2)=false:=aD
 have o3:(c.s.op==3)=false:=aD
 have o4:(c.s.op==4)=false:=aD
 have Rc:(c.s.op==19)=false:=aD
 have SC:(c.s.op==20)=false:=aD
 have o5:(c.s.op==5)=false:=aD
 have XW:(c.s.op==18)=false:=aD
 have YZ:(c.s.op==21)=false:=aD
 have o6:(c.s.op==6)=true:=aD
 unfold kF cV;(repeat rw[Z nU]);rw[Z (show ¬(c.s.op=5∨c.s.op=18∨c.s.op=21) by omega),ak (show c.s.op=6∨c.s.op=7∨c.s.op=8∨c.s.op=9∨c.s.op=10 by omega)];unfold cV at cc;generalize gF c w=N at*;obtain⟨W,b⟩:=N;cases b with|false=>exact nD|true=>exact nC
def afj(h:Hd)(y:Sy)(ho:c.s.op=7)(cc:aj prog 287 [.ptr 1000 0] (bZ c w) (cV (gF c w) (.bS [])) (bZ c (gF c w).1)):aj prog 236 [.ptr 1000 0] (bZ c w) (cV (kF c h y w) (.bS [])) (bZ c (kF c h y w).1):=by
 have o1:(c.s.op==1)=false:=aD
 have o2:(c.s.op==2)=false:=aD
 have o3:(c.s.op==3)=false:=aD
 have o4:(c.s.op==4)=false:=aD
 have Rc:(c.s.op==19)=false:=aD
 have SC:(c.s.op==20)=false:=aD
 have o5:(c.s.op==5)=false:=aD
 have XW:(c.s.op==18)=false:=aD
 have YZ:(c.s.op==21)=false:=aD
 have o6:(c.s.op==6)=false:=aD
 have o7:(c.s.op==7)=true:=aD
 unfold kF cV;(repeat rw[Z nU]);rw[Z (show ¬(c.s.op=5∨c.s.op=18∨c.s.op=21) by omega),ak (show c.s.op=6∨c.s.op=7∨c.s.op=8∨c.s.op=9∨c.s.op=10 by omega)];unfold cV at cc;generalize gF c w=N at*;obtain⟨W,b⟩:=N;cases b with|false=>exact nD|true=>exact nC
def afi(h:Hd)(y:Sy)(ho:c.s.op=8)(cc:aj prog 287 [.ptr 1000 0] (bZ c w) (cV (gF c w) (.bS [])) (bZ c (gF c w).1)):aj prog 236 [.ptr 1000 0] (bZ c w) (cV (kF c h y w) (.bS [])) (bZ c (kF c h y w).1):=by
 have o1:(c.s.op==1)=false:=aD
 have o2:(c.s.op==2)=false:=aD
 have o3:(c.s.op==3)=false:=aD
 have o4:(c.s.op==4)=false:=aD
 have Rc:(c.s.op==19)=false:=aD
 have SC:(c.s.op==20)=false:=aD
 have o5:(c.s.op==5)=false:=aD
 have XW:(c.s.op==18)=false:=aD
 have YZ:(c.s.op==21)=false:=aD
 have o6:(c.s.op==6)=false:=aD
 have o7:(c.s.op==7)=false:=aD
 have o8:(c.s.op==8)=true:=aD
 unfold kF cV;(repeat rw[Z nU]);rw[Z (show ¬(c.s.op=5∨c.s.op=18∨c.s.op=21) by omega),ak (show c.s.op=6∨c.s.op=7∨c.s.op=8∨c.s.op=9∨c.s.op=10 by omega)];unfold cV at cc;generalize gF c w=N at*;obtain⟨W,b⟩:=N;cases b with|false=>exact nD|true=>exact nC
def afh(h:Hd)(y:Sy)(ho:c.s.op=9)(cc:aj prog 287 [.ptr 1000 0] (bZ c w) (cV (gF c w) (.bS [])) (bZ c (gF c w).1)):aj prog 236 [.ptr 1000 0] (bZ c w) (cV (kF c h y w) (.bS [])) (bZ c (kF c h y w).1):=by
 have o1:(c.s.op==1)=false:=aD
 have o2:(c.s.op==2)=false:=aD
 have o3:(c.s.op==3)=false:=aD
 have o4:(c.s.op==4)=false:=aD
 have Rc:(c.s.op==19)=false:=aD
 have SC:(c.s.op==20)=false:=aD
 have o5:(c.s.op==5)=false:=aD
 have XW:(c.s.op==18)=false:=aD
 have YZ:(c.s.op==21)=false:=aD
 have o6:(c.s.op==6)=false:=aD
 have o7:(c.s.op==7)=false:=aD
 have o8:(c.s.op==8)=false:=aD
 have o9:(c.s.op==9)=true:=aD
 unfold kF cV;(repeat rw[Z nU]);rw[Z (show ¬(c.s.op=5∨c.s.op=18∨c.s.op=21) by omega),ak (show c.s.op=6∨c.s.op=7∨c.s.op=8∨c.s.op=9∨c.s.op=10 by omega)];unfold cV at cc;generalize gF c w=N at*;obtain⟨W,b⟩:=N;cases b with|false=>exact nD|true=>exact nC
def YH(h:Hd)(y:Sy)(ho:c.s.op=10)(cc:aj prog 287 [.ptr 1000 0] (bZ c w) (cV (gF c w) (.bS [])) (bZ c (gF c w).1)):aj prog 236 [.ptr 1000 0] (bZ c w) (cV (kF c h y w) (.bS [])) (bZ c (kF c h y w).1):=by
 have o1:(c.s.op==1)=false:=aD
 have o2:(c.s.op==2)=false:=aD
 have o3:(c.s.op==3)=false:=aD
 have o4:(c.s.op==4)=false:=aD
 have Rc:(c.s.op==19)=false:=aD
 have SC:(c.s.op==20)=false:=aD
 have o5:(c.s.op==5)=false:=aD
 have XW:(c.s.op==18)=false:=aD
 have YZ:(c.s.op==21)=false:=aD
 have o6:(c.s.op==6)=false:=aD
 have o7:(c.s.op==7)=false:=aD
 have o8:(c.s.op==8)=false:=aD
 have o9:(c.s.op==9)=false:=aD
 have o10:(c.s.op==10)=true:=aD
 unfold kF cV;(repeat rw[Z nU]);rw[Z (show ¬(c.s.op=5∨c.s.op=18∨c.s.op=21) by omega),ak (show c.s.op=6∨c.s.op=7∨c.s.op=8∨c.s.op=9∨c.s.op=10 by omega)];unfold cV at cc;generalize gF c w=N at*;obtain⟨W,b⟩:=N;cases b with|false=>exact nD|true=>exact nC
def YJ(h:Hd)(y:Sy)(ho:c.s.op=16)(cc:aj prog 288 [.ptr 1000 0] (bZ c w) (cV (ta c w) (.bS [])) (bZ c (ta c w).1)):aj prog 236 [.ptr 1000 0] (bZ c w) (cV (kF c h y w) (.bS [])) (bZ c (kF c h y w).1):=by
 have o1:(c.s.op==1)=false:=aD
 have o2:(c.s.op==2)=false:=aD
 have o3:(c.s.op==3)=false:=aD
 have o4:(c.s.op==4)=false:=aD
 have Rc:(c.s.op==19)=false:=aD
 have SC:(c.s.op==20)=false:=aD
 have o5:(c.s.op==5)=false:=aD
 have XW:(c.s.op==18)=false:=aD
 have YZ:(c.s.op==21)=false:=aD
 have o6:(c.s.op==6)=false:=aD
 have o7:(c.s.op==7)=false:=aD
 have o8:(c.s.op==8)=false:=aD
 have o9:(c.s.op==9)=false:=aD
 have o10:(c.s.op==10)=false:=aD
 have o16:(c.s.op==16)=true:=aD
 unfold kF cV;(repeat rw[Z nU]);rw[Z (show ¬(c.s.op=5∨c.s.op=18∨c.s.op=21) by omega),Z (show ¬(c.s.op=6∨c.s.op=7∨c.s.op=8∨c.s.op=9∨c.s.op=10) by omega),ak (show c.s.op=16∨c.s.op=17 by omega)];unfold cV at cc;generalize ta c w=N at*;obtain⟨W,b⟩:=N;cases b with|false=>exact nD|true=>exact nC
def YI(h:Hd)(y:Sy)(ho:c.s.op=17)(cc:aj prog 288 [.ptr 1000 0] (bZ c w) (cV (ta c w) (.bS [])) (bZ c (ta c w).1)):aj prog 236 [.ptr 1000 0] (bZ c w) (cV (kF c h y w) (.bS [])) (bZ c (kF c h y w).1):=by
 have o1:(c.s.op==1)=false:=aD
 have o2:(c.s.op==2)=false:=aD
 have o3:(c.s.op==3)=false:=aD
 have o4:(c.s.op==4)=false:=aD
 have Rc:(c.s.op==19)=false:=aD
 have SC:(c.s.op==20)=false:=aD
 have o5:(c.s.op==5)=false:=aD
 have XW:(c.s.op==18)=false:=aD
 have YZ:(c.s.op==21)=false:=aD
 have o6:(c.s.op==6)=false:=aD
 have o7:(c.s.op==7)=false:=aD
 have o8:(c.s.op==8)=false:=aD
 have o9:(c.s.op==9)=false:=aD
 have o10:(c.s.op==10)=false:=aD
 have o16:(c.s.op==16)=false:=aD
 have o17:(c.s.op==17)=true:=aD
 unfold kF cV;(repeat rw[Z nU]);rw[Z (show ¬(c.s.op=5∨c.s.op=18∨c.s.op=21) by omega),Z (show ¬(c.s.op=6∨c.s.op=7∨c.s.op=8∨c.s.op=9∨c.s.op=10) by omega),ak (show c.s.op=16∨c.s.op=17 by omega)];unfold cV at cc;generalize ta c w=N at*;obtain⟨W,b⟩:=N;cases b with|false=>exact nD|true=>exact nC
def aov(h:Hd)(y:Sy)(hw:ic c w)(ho:c.s.op=22)(hm' :0<=c.s.m∧c.s.m<16):aj prog 236 [.ptr 1000 0] (bZ c w) (cV (kF c h y w) (.bS [])) (bZ c (kF c h y w).1):=by
 have o1:(c.s.op==1)=false:=aD
 have o2:(c.s.op==2)=false:=aD
 have o3:(c.s.op==3)=false:=aD
 have o4:(c.s.op==4)=false:=aD
 have Rc:(c.s.op==19)=false:=aD
 have SC:(c.s.op==20)=false:=aD
 have o5:(c.s.op==5)=false:=aD
 have XW:(c.s.op==18)=false:=aD
 have YZ:(c.s.op==21)=false:=aD
 have o6:(c.s.op==6)=false:=aD
 have o7:(c.s.op==7)=false:=aD
 have o8:(c.s.op==8)=false:=aD
 have o9:(c.s.op==9)=false:=aD
 have o10:(c.s.op==10)=false:=aD
 have o16:(c.s.op==16)=false:=aD
 have o17:(c.s.op==17)=false:=aD
 have o22:(c.s.op==22)=true:=aD
 have hb:=Al hm';have hm0:=hm'.1;have hp:=hw.f.parts;have e1:=BO w.f.parts (gw c.s.m);have d1:=sY (a:=w.f.parts) (b:=gw c.s.m) (n:=16) E E E E hb.2;unfold kF cV tK;(repeat rw[Z nU]);rw[Z (show ¬(c.s.op=5∨c.s.op=18∨c.s.op=21) by omega),Z (show ¬(c.s.op=6∨c.s.op=7∨c.s.op=8∨c.s.op=9∨c.s.op=10) by omega),Z (show ¬(c.s.op=16∨c.s.op=17) by omega),ak (show c.s.op=22 by omega)];unfold gw at*;generalize iQ w.f.parts (IntKind.i64.wrap (1*2^(min c.s.m.toNat IntKind.i64.bits)))=ag at*;refine fo func236 ?_;exact bz
def YK(h:Hd)(y:Sy)(hc:kf c)(hw:ic c w)(ho:c.s.op=23){k:Nat}{z:Nat}(he:En c.d.vars c.d.aK.length k c.s.c z):aj prog 236 [.ptr 1000 0] (bZ c w) (cV (kF c h y w) (.bS [])) (bZ c (kF c h y w).1):=by
 have o1:(c.s.op==1)=false:=aD
 have o2:(c.s.op==2)=false:=aD
 have o3:(c.s.op==3)=false:=aD
 have o4:(c.s.op==4)=false:=aD
 have Rc:(c.s.op==19)=false:=aD
 have SC:(c.s.op==20)=false:=aD
 have o5:(c.s.op==5)=false:=aD
 have XW:(c.s.op==18)=false:=aD
 have YZ:(c.s.op==21)=false:=aD
 have o6:(c.s.op==6)=false:=aD
 have o7:(c.s.op==7)=false:=aD
 have o8:(c.s.op==8)=false:=aD
 have o9:(c.s.op==9)=false:=aD
 have o10:(c.s.op==10)=false:=aD
 have o16:(c.s.op==16)=false:=aD
 have o17:(c.s.op==17)=false:=aD
 have o22:(c.s.op==22)=false:=aD
 have o23:(c.s.op==23)=true:=aD
 have c1:=Dy hc.d he (.inr hw.f) false;have c2:=Dy hc.d he (.inr hw.f) true;have cf:=sa hw 10 (da c.d c.s.c w.f false).dead;unfold kF cV;(repeat rw[Z nU]);rw[Z (show ¬(c.s.op=5∨c.s.op=18∨c.s.op=21) by omega),Z (show ¬(c.s.op=6∨c.s.op=7∨c.s.op=8∨c.s.op=9∨c.s.op=10) by omega),Z (show ¬(c.s.op=16∨c.s.op=17) by omega),ak (show c.s.op=23 by omega)];obtain⟨D,hD⟩:=tj c 10 (da c.d c.s.c w.f false).dead w;rw[hD]at cf ⊢;generalize da c.d c.s.c w.f true=F2 at*;generalize da c.d c.s.c w.f false=F1 at*;exact Kk
def afd(h:Hd)(y:Sy)(ho:c.s.op=14)(hv:0<=c.s.v):aj prog 236 [.ptr 1000 0] (bZ c w) (cV (kF c h y w) (.bS [])) (bZ c (kF c h y w).1):=by
 have o1:(c.s.op==1)=false:=aD
 have o2:(c.s.op==2)=false:=aD
 have o3:(c.s.op==3)=false:=aD
 have o4:(c.s.op==4)=false:=aD
 have Rc:(c.s.op==19)=false:=aD
 have SC:(c.s.op==20)=false:=aD
 have o5:(c.s.op==5)=false:=aD
 have XW:(c.s.op==18)=false:=aD
 have YZ:(c.s.op==21)=false:=aD
 have o6:(c.s.op==6)=false:=aD
 have o7:(c.s.op==7)=false:=aD
 have o8:(c.s.op==8)=false:=aD
 have o9:(c.s.op==9)=false:=aD
 have o10:(c.s.op==10)=false:=aD
 have o16:(c.s.op==16)=false:=aD
 have o17:(c.s.op==17)=false:=aD
 have o22:(c.s.op==22)=false:=aD
 have o23:(c.s.op==23)=false:=aD
 have o14:(c.s.op==14)=true:=aD
 have ct:=V7 c w (gw c.s.v);have cp:=pL c w (bZ c (gj (gw c.s.v) w));unfold kF cV;(repeat rw[Z nU]);rw[Z (show ¬(c.s.op=5∨c.s.op=18∨c.s.op=21) by omega),Z (show ¬(c.s.op=6∨c.s.op=7∨c.s.op=8∨c.s.op=9∨c.s.op=10) by omega),Z (show ¬(c.s.op=16∨c.s.op=17) by omega),ak (show c.s.op=14 by omega)];unfold gw at*;generalize gj (IntKind.i64.wrap (1*2^(min c.s.v.toNat IntKind.i64.bits))) w=W at*;exact Kk
theorem ajk(h:Hd)(y:Sy)(hc:kf c)(hw:ic c w)(ho:c.s.op=2){k:Nat}{z:Nat}(he:kh c.d.vars c.d.aK.length k c.s.x z)(hn:0<=c.s.m∧c.s.m<c.d.aK.length)(hv:0<=c.s.n∧c.s.n<c.d.vars):aj prog 236 [.ptr 1000 0] (bZ c w) (cV (kF c h y w) (.bS [])) (bZ c (kF c h y w).1):=by
 have o1:(c.s.op==1)=false:=aD
 have o2:(c.s.op==2)=true:=aD
 have ci:=P7 hc hw he hn;obtain⟨hWi,hlv⟩:=Di hc hw he hn;unfold kF cV;rw[Z (show ¬(c.s.op=1) by omega),ak (show c.s.op=2 by omega)];unfold cV at ci;generalize jg c w=N at*;obtain⟨W,b⟩:=N;cases b with
 |true=>exact Ub
 |false=>
  rw[Rs.xB];have hW:=hlv rfl;dsimp only[if_false,Bool.false_eq_true]at ci hW ⊢;have har:=hW.f.arr;have hx:=NK (l:=W.f.arr) (n:=c.s.m) E;have hn0:=hn.1;have cl:=alm (dR W.f.arr c.s.m);have ca:=rb hc hW.f hv (Ig (dR W.f.arr c.s.m));generalize gW c (Ig (dR W.f.arr c.s.m)) W=W2 at*;generalize Ig (dR W.f.arr c.s.m)=A at*;generalize dR W.f.arr c.s.m=I at*;refine fo func236 ?_;refine aM ?_;repeat((first|refine bt.at rfl hn0 hx ?_|(apply aE;first|exact cl|exact ca));refine run ?_)
  exact aG
theorem afe(h:Hd)(y:Sy)(hc:kf c)(hw:ic c w)(ho:c.s.op=3){k:Nat}{z:Nat}(he:kh c.d.vars c.d.aK.length k c.s.x z){k2:Nat}{z2:Nat}(hy:kh c.d.vars c.d.aK.length k2 c.s.y z2)(hn:0<=c.s.m∧c.s.m<c.d.aK.length):aj prog 236 [.ptr 1000 0] (bZ c w) (cV (kF c h y w) (.bS [])) (bZ c (kF c h y w).1):=by
 have o1:(c.s.op==1)=false:=aD
 have o2:(c.s.op==2)=false:=aD
 have o3:(c.s.op==3)=true:=aD
 have ci:=P7 hc hw he hn;obtain⟨hWi,hlv⟩:=Di hc hw he hn;unfold kF cV;(repeat rw[Z nU]);rw[ak (show c.s.op=3 by omega)];unfold cV at ci;generalize jg c w=N at*;obtain⟨W,b⟩:=N;cases b with
 |true=>exact Ub
 |false=>
  rw[Rs.xB];have hW:=hlv rfl;dsimp only[if_false,Bool.false_eq_true]at ci hW ⊢;have har:=hW.f.arr;have han:=hc.d.an;have hx:=NK (l:=W.f.arr) (n:=c.s.m) E;have hn0:=hn.1;have cs:=CV hc hW hy;have hA:=sQ hc hW hy;have k0:=hA.k0;have k1:=hA.k1;obtain⟨U,hU⟩:∃U,kZ c c.s.y W={W with us:=U}:=⟨_,rfl⟩;rw[hU]at cs ⊢;have hI:0<=dR W.f.arr c.s.m∧dR W.f.arr c.s.m<=255:=by
   have hlt:c.s.m.toNat<W.f.arr.length:=E;have e:dR W.f.arr c.s.m=W.f.arr[c.s.m.toNat]:=by unfold dR;simp[hlt]
   rw[e];exact hW.f.aa _ (cU hlt)
  have c3:=QP (W.f.arr.map it) (λe=>by have h:W.f.arr=[]:=zp.1 e;rw[h]at har;simp only[kI]at har;omega) uA;have e1:=BO (dR W.f.arr c.s.m) (iP c c.s.y W).mask;have d1:=sY (a:=dR W.f.arr c.s.m) (b:=(iP c c.s.y W).mask) (n:=8) E hI.1 E k0 E;show aj prog 236 [.ptr 1000 0] (bZ c w) (.bS []) (bZ c {W with us:=U,f:={W.f with arr:=W.f.arr.set c.s.m.toNat (iQ (dR W.f.arr c.s.m) (iP c c.s.y W).mask)}});have e:bZ c {W with us:=U,f:={W.f with arr:=W.f.arr.set c.s.m.toNat (iQ (dR W.f.arr c.s.m) (iP c c.s.y W).mask)}}=ctX c {W with us:=U} (fj 5 ai W.f.v) (fj 6 aN W.f.refs) (.sl 1 ((W.f.arr.map it).set c.s.m.toNat (it (iQ (dR W.f.arr c.s.m) (iP c c.s.y W).mask))) false):=by rw[<-jU];rfl
  have el:((W.f.arr.map it).set c.s.m.toNat (it (iQ (dR W.f.arr c.s.m) (iP c c.s.y W).mask))).length=(W.f.arr.map it).length:=O
  rw[e];generalize iQ (dR W.f.arr c.s.m) (iP c c.s.y W).mask=ag at*;generalize iP c c.s.y W=A at*;generalize dR W.f.arr c.s.m=I at*;refine d_ hm func236 (λ_=>false) [] (ao2 69) aA ?_;refine aM ?_;repeat((first|refine bt.at rfl hn0 hx ?_|(apply aE;first|exact cs|exact c3));refine run ?_)
  exact aG
end
end Abs
namespace Abs
open Go Go.Proofs
section
variable{c:Wc}{w:Wk}
def ic.ref{n s:Int}{a:Av}(hw:ic c w)(hs:1<=s∧s<=3)(ha:aR a)(hz:s=1->a=zR):ic c (eg n s a w):=by refine hw.OT (f:={w.f with refs:=w.f.refs.set n.toNat ⟨s,a⟩}) ?_;have h:=hw.f;exact⟨h.live,h.v,h.va,h.ju,by rw[rG];exact h.refs,mem_set h.ra _ ⟨hs,ha,hz⟩,h.arr,h.aa,h.ei,h.may,h.parts,h.sub⟩
def ic.H5{n:Int}{a:Av}(hw:ic c w)(ha:aR a):ic c (vN n a w):=by refine hw.OT (f:={w.f with v:=w.f.v.set n.toNat a}) ?_;have h:=hw.f;exact⟨h.live,VQ,mem_set h.va _ ha,h.ju,h.refs,h.ra,h.arr,h.aa,h.ei,h.may,h.parts,h.sub⟩
def Jt(hc:kf c)(hw:ic c w){k:Nat}{e:Ex}{z:Nat}(he:kh c.d.vars c.d.aK.length k e z){r:pG}(hr:m7 r){kind:Int}(hk:1<=kind∧kind<=14):ic c (ij c e r kind w).1:=by have hv:=sQ hc hw he;have hw1:=hw.set (c:=c) he;have hw2:=hw1.find hk false;unfold ij;split;exact hw1;split;rename_i m hm;dsimp only;split;exact hw2.H5 (FP hv hr.av hm);exact hw2;exact hw2
def Pq(hw:ic c w){n:Int}(hn:0<=n∧n<c.d.refs):IZ (aP w n):=by
 have hr:=hw.f.refs;have hlt:n.toNat<w.f.refs.length:=E
 have e:aP w n=w.f.refs[n.toNat]:=by unfold aP;simp[hlt]
 rw[e];exact hw.f.ra _ (cU hlt)
def an1(hw:ic c w){h:Hd}{n:Int}{i:Nat}:ic c (tQ c h n i w).1:=by
 have hw1:=hw.find (c:=c) (k:=2) E (a_ (aP w n).s 1==0);have hw2:=hw1.find (c:=c) (k:=11) E (sr (aP w n).a (jh (cZ h.given i)));have hz:aR zR:=Bt;unfold tQ iT p_ Rs.and;dsimp only;split;exact hw1
 ·try dsimp only
  split;exact hw2;exact hw2.ref ⟨E,E⟩ hz (λ_=>rfl)
theorem H8{h:Hd}:∀{l:List Ex} {i:Nat} {w:Wk} (k:Nat),(fu c h (l.take k) i w).2=true->fu c h l i w=fu c h (l.take k) i w|[],_,_,k,_=>by simp|e::l,i,w,0,hk=>by simp[fu]at hk|e::l,i,w,k+1,hk=>by rw[List.take_succ_cons]at hk ⊢;unfold fu at hk ⊢;unfold Rs.and at hk ⊢;split;rfl;rename_i h1;rw[Z h1]at hk;exact H8 (l:=l) k hk
theorem H9{h:Hd}:∀{l:List Ex} {i:Nat} {w:Wk} (e:Ex),(fu c h l i w).2=false->fu c h (l++[e]) i w=ij c e (cZ h.params (i+l.length:Nat)) 11 (fu c h l i w).1
 |[],i,w,e,_=>by simp only[List.nil_append,fu,kI,kH];unfold Rs.and;split;rfl;rename_i hh;cases hN:ij c e (cZ h.params i) 11 w with|mk W b=>rw[hN]at hh;cases b with|true=>exact absurd rfl hh|false=>rfl
 |x::l,i,w,e,hk=>by rw[yl];unfold fu at hk ⊢;unfold Rs.and at hk ⊢;split;rename_i h1;rw[ak h1,h1]at hk;cases hk;rename_i h1;rw[Z h1]at hk;rw[H9 (l:=l) e hk];congr 2;exact az
theorem GM{h:Hd}:∀{l:List Int} {i:Nat} {w:Wk} (k:Nat),(fe c h (l.take k) i w).2=true->fe c h l i w=fe c h (l.take k) i w|[],_,_,k,_=>by simp|e::l,i,w,0,hk=>by simp[fe]at hk|e::l,i,w,k+1,hk=>by rw[List.take_succ_cons]at hk ⊢;unfold fe at hk ⊢;unfold Rs.and at hk ⊢;split;rfl;rename_i h1;rw[Z h1]at hk;exact GM (l:=l) k hk
theorem GN{h:Hd}:∀{l:List Int} {i:Nat} {w:Wk} (e:Int),(fe c h l i w).2=false->fe c h (l++[e]) i w=tQ c h e (i+l.length) (fe c h l i w).1
 |[],i,w,e,_=>by simp only[List.nil_append,fe,kI,kH];unfold Rs.and;split;rfl;rename_i hh;cases hN:tQ c h e i w with|mk W b=>rw[hN]at hh;cases b with|true=>exact absurd rfl hh|false=>rfl
 |x::l,i,w,e,hk=>by rw[yl];unfold fe at hk ⊢;unfold Rs.and at hk ⊢;split;rename_i h1;rw[ak h1,h1]at hk;cases hk;rename_i h1;rw[Z h1]at hk;rw[GN (l:=l) e hk];congr 1;exact az
theorem Cw(hc:kf c){h:Hd}(hr:∀r∈h.params,m7 r):∀{l:List Ex} {i:Nat} {w:Wk},ic c w->(∀e∈l,∃k z,kh c.d.vars c.d.aK.length k e z)->i+l.length<=h.params.length->ic c (fu c h l i w).1
 |[],_,_,hw,_,_=>hw
 |e::l,i,w,hw,he,hl=>by
  obtain⟨k,z,h1⟩:=he e O;have hlt:i<h.params.length:=by simp at hl;omega
  have hR:m7 (cZ h.params i):=by have e:cZ h.params i=h.params[i]:=(by unfold cZ;simp[hlt]);rw[e];exact hr _ (cU hlt)
  have h2:=Jt hc hw h1 hR (kind:=11) E;unfold fu Rs.and;split;exact h2;exact Cw hc hr h2 (λx hx=>he x xY) (by simp at hl;omega)
theorem FK{h:Hd}:∀{l:List Int} {i:Nat} {w:Wk},ic c w->ic c (fe c h l i w).1|[],_,_,hw=>hw|e::l,i,w,hw=>by have h2:=an1 (h:=h) (n:=e) (i:=i) hw;unfold fe Rs.and;split;exact h2;exact FK h2
end
end Abs
namespace Abs
open Go Go.Proofs Tryz
variable{G:Prop}
def Fe(h:G:=by rw[uv,dn]):=h
def Mu(h:G:=by rw[hEl];exact az):=h
def BR{c:Wc}(k:Nat)(hk:k<c.s.args.length):nth (jK c.s.args) ((k:Int)).toNat=some (cy c.s.args[k]):=by rw[uv,c_,oF,gQ hk];rfl
theorem Af(B:Nat->Bool)(h0:B 0=false):∀n,(∀k,k<=n->B k=false)∨∃m,m<n∧(∀k,k<=m->B k=false)∧B (m+1)=true
 |0=> .inl (λk hk=>(show k=0 by omega)▸h0)
 |n+1=>by
  rcases Af B h0 n with h|⟨m,hm,h1,h2⟩;cases hb:B (n+1)with|true=>exact .inr ⟨n,E,h,hb⟩|false=>refine .inl (λk hk=> ?_);by_cases hk2:k=n+1;rw[hk2];exact hb;exact h k E
  exact .inr ⟨m,E,h1,h2⟩
abbrev bx(c:Wc)(w:Wk)(s k:Nat):we:=⟨[(s,it k)],[(1000,.agg (cW c w))],[(1000,⟨3,true,w.fd.map eP⟩),(1001,⟨3,true,w.ps.map bQ⟩),(1002,⟨1,true,w.us.map it⟩)]⟩
def aY.nq{W:List Nat}{body:St->(Out->St->Prop)->Prop}{K:Out->St->Prop}{s:St}(n:Nat)(c:Wc)(F:Nat->Wk)(t:Nat)(hb:∀k,k<=n->True->body (s.with W (bx c (F k) t k)) λe s' =>match e with| .normal=>∃j:{k // k<=n∧True},n - j.1<n - k∧s'.y=s.y∧Holds s' (s.with W (bx c (F j.1) t j.1)) (bx c (F j.1) t j.1)|e=>K e s')(hh:Holds s (s.with W (bx c (F 0) t 0)) (bx c (F 0) t 0):=by repeat' (first|exact trivial|exact rfl|exact aL (λu=>some (au.agg (cW c u))) hW0.symm|exact aL (λu=>some (Row.mk 3 true (u.map eP))) auo.symm|exact aL (λu=>some (Row.mk 3 true (u.map bQ))) aun.symm|exact aL (λu=>some (Row.mk 1 true (u.map it))) aum.symm|exact aL (λu=>some (au.agg (cW c u))) hV0.symm|exact aL (λu=>some (Row.mk 3 true (u.map eP))) aur.symm|exact aL (λu=>some (Row.mk 3 true (u.map bQ))) auq.symm|exact aL (λu=>some (Row.mk 1 true (u.map it))) aup.symm|refine And.intro ?_ ?_|refine Holds.mk ?_ ?_ ?_))(hd:zj s W=true:=by exact aA)(hr:zi s (dm W)=true:=by exact aA)(ht:∀k,tidy W (dm W) (bx c (F k) t k)=true∧kl s (bx c (F k) t k).H=true∧kj s (bx c (F k) t k).R=true:=by intro k;exact Ga):aY W body K s:=aY.nat n (λ_=>True) (λk=>bx c (F k) t k) trivial hh hd hr ht hb
def xA{G:Prop}(h:G:=by
 have b1:decide ((k:Int)<((jK c.s.args).length:Nat))=true:=by rw[hEl];exact gL
 have c1:=cA k hk1;have hk2:k<h.params.length:=E
 refine run ?_;refine bt.at rfl (ft k) (hEx k hk1) ?_;refine run ?_;refine bt.map hk2 rfl ?_;refine aM ?_;exact y_ hk1):G:=h
def xP{G:Prop}(h:G:=by
 have Q:=hall k E;have q1:=Q.1;have q2:=p2 k hk1;have q3:=p3 k hk1;have q4:=Q.2.1;have q5:=Q.2.2.1;have q6:=p6 k;have q7:=Q.2.2.2;refine aM ?_;repeat((first|refine bt.map hk2 rfl ?_|(apply aE;exact gy));refine run ?_)
 refine aM ?_;exact y_ E):G:=h
def xX{G:Prop}(h:G:=by
 have b1:decide ((k:Int)<((y.fD.map bQ).length:Nat))=true:=gL
 have c1:=cX k hk1;refine run ?_;refine bt.map hk1 rfl ?_;refine aM ?_;exact y_ hk1):G:=h
def aso{G:Prop}(h:G:=by
 have hEl:(jK c.s.args).length=c.s.args.length:=Fe
 have hEx:=BR (c:=c);refine d_ hm func293 (λ_=>false) [] (air 9 99) aA ?_;refine aM ?_;refine bF.mk ⟨[],aY.nq m c W 87 ?_⟩;intro k hk hJ;have hk1:k<c.s.args.length:=E
 have b1:decide ((k:Int)<((jK c.s.args).length:Nat))=true:=by rw[hEl];exact gL
 have hk2:k<h.params.length:=E
 refine run ?_;refine bt.at rfl (ft k) (hEx k hk1) ?_;refine run ?_;by_cases hkm:k<m;have c1:=cA k hkm;refine Tt.mk (.inl ?_);refine run ?_;refine bt.map hk2 rfl ?_;refine aM ?_;exact y_ hkm
 ·have hkk:k=m:=by omega
  subst hkk;refine Tt.mk (.inr ?_);refine aM ?_;repeat((first|refine bt.map hk2 rfl ?_|(apply aE;exact cB));refine run ?_)
  exact aG):G:=h
def asn{G:Prop}(h:G:=by
 have hEl:(jK c.s.args).length=c.s.args.length:=Fe
 have hEx:=BR (c:=c);refine d_ hm func293 (λ_=>false) [] (air 14 114) aA ?_;refine aM ?_;refine bF.mk ⟨[],aY.nq c.s.args.length c W 87 ?_⟩;intro k hk hJ;by_cases hk1:k<c.s.args.length;exact xA;have b1:decide ((k:Int)<((jK c.s.args).length:Nat))=false:=Mu
 have hkk:k=c.s.args.length:=E
 subst hkk;refine aM ?_;refine bF.mk ⟨[],aY.nq m c V 107 ?_⟩;intro k hk hJ;have hk1:k<c.s.cO.length:=E
 have b1:decide ((k:Int)<((c.s.cO.map it).length:Nat))=true:=gL
 have hk2:k<h.given.length:=E
 refine run ?_;refine bt.map hk1 rfl ?_;refine run ?_;by_cases hkm:k<m;refine Tt.mk (.inl ?_);exact xP;have hkk:k=m:=E
 subst hkk;refine Tt.mk (.inr ?_);have q2:=p2 k hk1;refine aM ?_;repeat((first|refine bt.map hk2 rfl ?_|(apply aE;first|exact q|exact q2));refine run ?_)
 refine Tw.mk (Tw.mk ?_ ?_) (Tw.mk ?_ ?_)<;>(exact bp)):G:=h
def asm{G:Prop}(h:G:=by
 have hEl:(jK c.s.args).length=c.s.args.length:=Fe
 have hEx:=BR (c:=c);refine fo func293 ?_;refine aM ?_;refine bF.mk ⟨[],aY.nq c.s.args.length c W 87 ?_⟩;intro k hk hJ;by_cases hk1:k<c.s.args.length;exact xA;have b1:decide ((k:Int)<((jK c.s.args).length:Nat))=false:=Mu
 have hkk:k=c.s.args.length:=E
 subst hkk;refine aM ?_;refine bF.mk ⟨[],aY.nq m c V 107 ?_⟩;intro k hk hJ;have hk1:k<c.s.cO.length:=E
 have b1:decide ((k:Int)<((c.s.cO.map it).length:Nat))=true:=gL
 have hk2:k<h.given.length:=E
 refine run ?_;refine bt.map hk1 rfl ?_;refine run ?_;by_cases hkm:k<m;exact xP;have hkk:k=m:=E
 subst hkk;have q2:=p2 k hk1;refine aM ?_;repeat((first|refine bt.map hk2 rfl ?_|(apply aE;first|exact q1|exact q2));refine run ?_)
 exact bp):G:=h
def alg{G:Prop}(h:G:=by
 have hEl:(jK c.s.args).length=c.s.args.length:=Fe
 have hEx:=BR (c:=c);refine fo func293 ?_;refine aM ?_;refine bF.mk ⟨[],aY.nq c.s.args.length c W 87 ?_⟩;intro k hk hJ;by_cases hk1:k<c.s.args.length;exact xA;have b1:decide ((k:Int)<((jK c.s.args).length:Nat))=false:=Mu
 have hkk:k=c.s.args.length:=E
 subst hkk;refine aM ?_;refine bF.mk ⟨[],aY.nq c.s.cO.length c V 107 ?_⟩;intro k hk hJ;by_cases hk1:k<c.s.cO.length;have b1:decide ((k:Int)<((c.s.cO.map it).length:Nat))=true:=gL
 have hk2:k<h.given.length:=E
 refine run ?_;refine bt.map hk1 rfl ?_;refine run ?_;exact xP;have b1:decide ((k:Int)<((c.s.cO.map it).length:Nat))=false:=az
 have hkk:k=c.s.cO.length:=E
 subst hkk;refine aM ?_;refine bF.mk ⟨[],aY.nq y.fD.length c X 154 ?_⟩;intro k hk hJ;by_cases hk1:k<y.fD.length;exact xX;have b1:decide ((k:Int)<((y.fD.map bQ).length:Nat))=false:=az
 have hkk:k=y.fD.length:=E
 subst hkk;exact bp):G:=h
def Z7(h:G:=by obtain⟨D,hD⟩:=tj c k b w;rw[hD]):=h
structure CIn(c:Wc)(h:Hd)(y:Sy):Prop where
 cH:∃b,C 163 [qe c.p,it c.s.m] (.bS [oY h,bo b])
 cS:C 362 [fj 11 eO c.eh,it c.s.m] (.bS [eO y,bo true])∨∃ys ye,C 362 [fj 11 eO c.eh,it c.s.m] (.bS [eO ys,bo false])∧C 363 [qe c.p,it c.s.m] (.bS [eO y,it ye])
 part:0<=h.part∧h.part<16
 al:c.s.args.length<=h.params.length
 ab:c.s.args.length<2^40
 ae:∀e∈c.s.args,∃k z,kh c.d.vars c.d.aK.length k e z
 pr:∀r∈h.params,m7 r
 gr:∀r∈h.given,m7 r
 pl:c.s.cO.length<=h.given.length
 pb:c.s.cO.length<2^40
 pn:∀n∈c.s.cO,0<=n∧n<c.d.refs
 lk:0<=y.aQ∧y.aQ<2^16
 ld:0<=y.kV∧y.kV<=65535
 yb:y.fD.length<2^20
 nv:c.s.n<c.d.vars
def uz(w w' :Wk):Prop:=w'.Au=w.Au∧w'.ps=w.ps
theorem uz.trans{a b d:Wk}(h:uz a b)(k:uz b d):uz a d:=⟨k.1.trans h.1,k.2.trans h.2⟩
def yI(c:Wc)(k:Int)(b:Bool)(w:Wk):uz w (bP c k b w):=by obtain⟨D,hD⟩:=tj c k b w;rw[hD];exact sD
def Dn(c:Wc)(k:Int)(b:Bool)(w:Wk):(bP c k b w).f=w.f:=Z7
def PF(c:Wc)(e:Ex)(r:pG)(k:Int)(w:Wk):uz w (ij c e r k w).1:=by have h:=yI c k false (kZ c e w);have h2:uz w (bP c k false (kZ c e w)):=⟨h.1,h.2⟩;unfold ij;split;exact sD;split;dsimp only;split;exact⟨h2.1,h2.2⟩;exact h2;exact h2
theorem J_(c:Wc)(h:Hd):∀(l:List Ex) (i:Nat) (w:Wk),uz w (fu c h l i w).1|[],_,_=>⟨rfl,rfl⟩|e::l,i,w=>by have h1:=PF c e (cZ h.params i) 11 w;unfold fu Rs.and;split;exact h1;exact h1.trans (J_ c h l (i+1) _)
def ach(c:Wc)(h:Hd)(n:Int)(i:Nat)(w:Wk):uz w (tQ c h n i w).1:=by
 have h1:=yI c 2 (a_ (aP w n).s 1==0) w;have h2:=h1.trans (yI c 11 (sr (aP w n).a (jh (cZ h.given i))) _);unfold tQ iT p_ Rs.and;dsimp only;split;exact h1
 ·try dsimp only
  split;exact h2;exact⟨h2.1,h2.2⟩
theorem Jl(c:Wc)(h:Hd):∀(l:List Int) (i:Nat) (w:Wk),uz w (fe c h l i w).1|[],_,_=>⟨rfl,rfl⟩|e::l,i,w=>by have h1:=ach c h e i w;unfold fe Rs.and;split;exact h1;exact h1.trans (Jl c h l (i+1) _)
def C7{l:List pG}{k:Nat}(hk:k<l.length):cZ l (k:Nat)=l[k]:=by unfold cZ;simp[hk]
def pT.part{d:Df}{f:Fa}(h:pT d f){P:Int}(hP:0<=P∧P<=65535):pT d {f with parts:=P}:=⟨h.live,h.v,h.va,h.ju,h.refs,h.ra,h.arr,h.aa,h.ei,h.may,hP,h.sub⟩
section
variable{c:Wc}{h:Hd}{y:Sy}
def agm{w:Wk}{k:Nat}(hk:k<c.s.args.length)(hs:(fu c h (c.s.args.take k) 0 w).2=false):fu c h (c.s.args.take (k+1)) 0 w=ij c c.s.args[k] (cZ h.params (k:Nat)) 11 (fu c h (c.s.args.take k) 0 w).1:=by rw[jY hk,H9 _ hs,l7,eI,yk (Ff hk)]
def acg{w:Wk}{k:Nat}(hk:k<c.s.cO.length)(hs:(fe c h (c.s.cO.take k) 0 w).2=false):fe c h (c.s.cO.take (k+1)) 0 w=tQ c h c.s.cO[k] k (fe c h (c.s.cO.take k) 0 w).1:=by rw[jY hk,GN _ hs,l7,eI,yk (Ff hk)]
def Wh(hc:kf c)(hi:CIn c h y){w:Wk}(hw:ic c w){k:Nat}(hk:k<c.s.args.length)(hk2:k<h.params.length)(hs:(fu c h (c.s.args.take k) 0 w).2=false):aj prog 351 [.ptr 1000 0,cy c.s.args[k],bc h.params[k],it 11] (bZ c (fu c h (c.s.args.take k) 0 w).1) (cV (fu c h (c.s.args.take (k+1)) 0 w) (.bS [])) (bZ c (fu c h (c.s.args.take (k+1)) 0 w).1):=by obtain⟨kk,z,he⟩:=hi.ae c.s.args[k] (cU hk);rw[agm hk hs,C7 hk2];exact Ha hc (Cw hc hi.pr hw (λe he=>hi.ae e (pV he)) (by rw[l7];have:=hi.al;omega)) he (hi.pr _ (cU hk2)) 11 E
def XQ{V:Wk}(hV:ic c V){n:Int}{k:Nat}(hn:0<=n∧n.toNat<V.f.refs.length)(hrl:V.f.refs.length<=1048576):((tQ c h n k V).2=true∧aj prog 355 [.ptr 1000 0,it n] (bZ c V) (vw 347) (bZ c (tQ c h n k V).1))∨(aj prog 355 [.ptr 1000 0,it n] (bZ c V) (ai (aP V n).a) (bZ c (iT c n V).1)∧aj prog 289 [.ptr 1000 0,it 11,bo (sr (aP V n).a (jh (cZ h.given k)))] (bZ c (iT c n V).1) (.bS []) (bZ c (bP c 11 (sr (aP V n).a (jh (cZ h.given k))) (iT c n V).1))∧((jf (aP V n).a (jh (cZ h.given k))).isSome=false∧tQ c h n k V=(bP c 11 (sr (aP V n).a (jh (cZ h.given k))) (iT c n V).1,true)∨(jf (aP V n).a (jh (cZ h.given k))).isSome=true∧tQ c h n k V=(eg n 1 zR (bP c 11 (sr (aP V n).a (jh (cZ h.given k))) (iT c n V).1),false)∧aj prog 356 [.ptr 1000 0,it n,it 1,ai zR] (bZ c (bP c 11 (sr (aP V n).a (jh (cZ h.given k))) (iT c n V).1)) (.bS []) (bZ c (eg n 1 zR (bP c 11 (sr (aP V n).a (jh (cZ h.given k))) (iT c n V).1))))):=by
 obtain⟨D,hD,hx⟩:=G' hV n hn;rcases hx with⟨hs,e,cf⟩|⟨hs,e,cf⟩;left;have hp:tQ c h n k V=({V with fd:=D},true):=by unfold tQ;rw[e,Rs.CA]
 rw[hp];exact⟨rfl,cf⟩;right;have hp:tQ c h n k V=(p_ (bP c 11 (sr (aP V n).a (jh (cZ h.given k))) {V with fd:=D}) (jf (aP V n).a (jh (cZ h.given k))).isSome).and λw=>(eg n 1 zR w,false):=by unfold tQ;rw[e,Rs.xB]
 have e1:(iT c n V).1={V with fd:=D}:=by rw[e]
 rw[e1];refine⟨cf,sa hD 11 _,?_⟩;unfold p_ at hp;have hf:=Dn c 11 (sr (aP V n).a (jh (cZ h.given k))) {V with fd:=D};cases hm:(jf (aP V n).a (jh (cZ h.given k))).isSome with|false=>left;rw[hm]at hp;exact⟨rfl,hp.trans (Rs.CA _ _)⟩|true=>right;rw[hm]at hp;exact⟨rfl,hp.trans (Rs.xB _ _),rQ c _ n 1 zR (by rw[hf];exact hn) (by rw[hf];exact hrl)⟩
def iD(c:Wc)(l:List Pa)(w:Wk):Wk:=l.foldl (λw (x:Pa)=>vT c x.a x.b w) w
theorem GX:∀{l:List Pa} {w:Wk},ic c w->ic c (iD c l w)∧(iD c l w).ps.length<=w.ps.length+l.length∧(iD c l w).Au=w.Au∧(iD c l w).f=w.f|[],w,hw=>⟨hw,by simp[iD],rfl,rfl⟩|x::l,w,hw=>by have h1:=GX (l:=l) (hw.pair x.a x.b);have h2:(vT c x.a x.b w).ps.length<=w.ps.length+1:=Hz;refine⟨h1.1,?_,h1.2.2.1,h1.2.2.2⟩;have h3:=h1.2.1;show(iD c l (vT c x.a x.b w)).ps.length<=_;simp only[fw];omega
def acm{l:List Pa}{w:Wk}{k:Nat}(hk:k<l.length):iD c (l.take (k+1)) w=vT c l[k].a l[k].b (iD c (l.take k) w):=by unfold iD;exact Uq
end
def yf:=@Prod.ext
def ZU(h:G:=by rw[hcall,hB];exact Rs.CA _ _):=h
def UK(h:G:=by exact sY (n:=16) (by omega) (by omega) (by omega) (by omega) (by omega)):=h
def TZ(h:G:=by rw[Fi]at h1 h2;exact yf h2.symm h1):=h
section
variable{c:Wc}{w:Wk}{h:Hd}{y:Sy}
def ap2(hc:kf c)(hw:ic c w)(hi:CIn c h y)(hl:0<=w.Au∧w.Au<2^60)(hps:w.ps.length<2^20):aj prog 293 [.ptr 1000 0] (bZ c w) (cV (qj c h y w) (.bS [])) (bZ c (qj c h y w).1):=by
 obtain⟨bh,cH⟩:=hi.cH;have hp:=hi.part;have hwp:=hw.f.parts;have hal:=hi.al;have hab:=hi.ab;have hpl:=hi.pl;have hpb:=hi.pb;obtain⟨FS,hFS⟩:∃x,x=a_ (w.f.parts.fdiv (2^(min h.part.toNat IntKind.i64.bits))) 1:=⟨_,rfl⟩;have e1:(((BitVec.ofInt IntKind.i64.bits (w.f.parts.fdiv (2^(min h.part.toNat IntKind.i64.bits)))&&&BitVec.ofInt IntKind.i64.bits 1).toNat:Nat):Int)=FS:=(ov _ _).trans hFS.symm;have d1:0<=FS∧FS<2:=by rw[hFS];exact iZ (n:=1) E E E
 have hsh:uc w.f.parts h.part.toNat=(FS==1):=by rw[hFS];rfl
 have cf:=sa hw 13 (FS==1);have hw1:=hw.find (c:=c) (k:=13) E (FS==1);obtain⟨D,hD⟩:=tj c 13 (FS==1) w;have d3' :=Al (m:=h.part) E;have d3:0<IntKind.i64.wrap (1*2^(min h.part.toNat IntKind.i64.bits))∧IntKind.i64.wrap (1*2^(min h.part.toNat IntKind.i64.bits))<2^16:=Al (m:=h.part) E;obtain⟨PP,hPP⟩:∃x,x=iQ w.f.parts (gw h.part):=⟨_,rfl⟩;have e2:(((BitVec.ofInt IntKind.i64.bits w.f.parts|||BitVec.ofInt IntKind.i64.bits (IntKind.i64.wrap (1*2^(min h.part.toNat IntKind.i64.bits)))).toNat:Nat):Int)=PP:=(BO _ _).trans hPP.symm;have d2:0<=PP∧PP<2^16:=by rw[hPP];exact UK
 have h0:tK (gw h.part) (bP c 13 (uc w.f.parts h.part.toNat) w)={w with fd:=D,f:={w.f with parts:=PP}}:=by rw[hsh,hD,hPP];rfl
 rw[hD]at cf hw1;have hw0:ic c {w with fd:=D,f:={w.f with parts:=PP}}:=hw1.OT (f:={w.f with parts:=PP}) (hw.f.part E);have hcall:qj c h y w=(fu c h c.s.args 0 {w with fd:=D,f:={w.f with parts:=PP}}).and (λw=>(fe c h c.s.cO 0 w).and λw=>(Gq c y w,false)):=by unfold qj;rw[h0]
 have k0:uz w {w with fd:=D,f:={w.f with parts:=PP}}:=⟨rfl,rfl⟩;obtain⟨w0,hW⟩:∃w0:Wk,w0={w with fd:=D,f:={w.f with parts:=PP}}:=⟨_,rfl⟩;rw[<-hW]at hw0 hcall k0;have hWk:∀k,ic c (fu c h (c.s.args.take k) 0 w0).1:=λk=>Cw hc hi.pr hw0 (λe he=>hi.ae e (pV he)) rB;have hWK:∀k,uz w (fu c h (c.s.args.take k) 0 w0).1:=λk=>k0.trans (J_ c h _ 0 w0);obtain⟨W,hWd⟩:∃W:Nat->Wk,∀k,W k=(fu c h (c.s.args.take k) 0 w0).1:=⟨λk=>(fu c h (c.s.args.take k) 0 w0).1,λ_=>rfl⟩;have hW0:W 0={w with fd:=D,f:={w.f with parts:=PP}}:=(hWd 0).trans hW;have auo:(W 0).fd=D:=by rw[hW0]
 have aun:(W 0).ps=w.ps:=by rw[hW0]
 have aum:(W 0).us=w.us:=by rw[hW0]
 have cG:∀k (hk:k<c.s.args.length) (hk2:k<h.params.length),(fu c h (c.s.args.take k) 0 w0).2=false->(fu c h (c.s.args.take (k+1)) 0 w0).2=false->aj prog 351 [.ptr 1000 0,cy c.s.args[k],bc h.params[k],it 11] (bZ c (W k)) (.bS []) (bZ c (W (k+1))):=λk hk hk2 hs ht=>by have:=Wh hc hi hw0 hk hk2 hs;unfold cV at this;rw[Z sI,<-hWd,<-hWd]at this;exact dj
 rcases Af (λk=>(fu c h (c.s.args.take k) 0 w0).2) rfl c.s.args.length with hgo|⟨m,hm1,hgo,hst⟩;case inr=>
  have hB:fu c h c.s.args 0 w0=(W (m+1),true):=(H8 (m+1) hst).trans (yf (hWd (m+1)).symm hst);have hres:qj c h y w=(W (m+1),true):=ZU
  have cB:aj prog 351 [.ptr 1000 0,cy c.s.args[m],bc (h.params[m]' E),it 11] (bZ c (W m)) (vw 347) (bZ c (W (m+1))):=by have:=Wh hc hi hw0 hm1 E (hgo m (cJ m));unfold cV at this;rw[ak hst,<-hWd,<-hWd]at this;exact dj
  rw[hres];show aj prog 293 [.ptr 1000 0] (bZ c w) (vw 347) (bZ c (W (m+1)));have cA:∀k (hk:k<m),aj prog 351 [.ptr 1000 0,cy (c.s.args[k]' E),bc (h.params[k]' E),it 11] (bZ c (W k)) (.bS []) (bZ c (W (k+1))):=λk hk=>cG k E E (hgo k E) (hgo (k+1) E);rcases hi.cS with cS|⟨ys,ye,cS,cT⟩<;>exact aso
 have cA:∀k (hk:k<c.s.args.length),aj prog 351 [.ptr 1000 0,cy c.s.args[k],bc (h.params[k]' E),it 11] (bZ c (W k)) (.bS []) (bZ c (W (k+1))):=λk hk=>cG k hk E (hgo k E) (hgo (k+1) E);have hA:fu c h c.s.args 0 w0=(W c.s.args.length,false):=by have h1:=hgo c.s.args.length (cJ _);have h2:=hWd c.s.args.length;exact TZ
 rw[hA,Rs.xB]at hcall;have hu:=hWk c.s.args.length;have hK:=hWK c.s.args.length;rw[<-hWd]at hu hK;obtain⟨u,hud⟩:∃u,u=W c.s.args.length:=⟨_,rfl⟩;rw[<-hud]at hcall hu hK;have hVk:∀k,ic c (fe c h (c.s.cO.take k) 0 u).1:=λk=>FK hu;have hVK:∀k,uz w (fe c h (c.s.cO.take k) 0 u).1:=λk=>hK.trans (Jl c h _ 0 u);obtain⟨V,hVd⟩:∃V:Nat->Wk,∀k,V k=(fe c h (c.s.cO.take k) 0 u).1:=⟨λk=>(fe c h (c.s.cO.take k) 0 u).1,λ_=>rfl⟩;have hV0:V 0=W c.s.args.length:=(hVd 0).trans hud;have aur:(V 0).fd=(W c.s.args.length).fd:=by rw[hV0]
 have auq:(V 0).ps=(W c.s.args.length).ps:=by rw[hV0]
 have aup:(V 0).us=(W c.s.args.length).us:=by rw[hV0]
 have cM:=sE;obtain⟨N,hN⟩:∃N:Nat->Int,∀k (hk:k<c.s.cO.length),c.s.cO[k]=N k:=⟨λk=>c.s.cO.getD k 0,λk hk=>AP⟩;obtain⟨A,hAd⟩:∃A:Nat->Av,∀k,A k=(aP (V k) (N k)).a:=⟨_,λ_=>rfl⟩;obtain⟨I,hId⟩:∃I:Nat->Av,∀k:Nat,I k=jh (cZ h.given k):=⟨_,λ_=>rfl⟩;obtain⟨B,hBd⟩:∃B:Nat->Bool,∀k,B k=sr (A k) (I k):=⟨_,λ_=>rfl⟩;obtain⟨V1,hV1⟩:∃V1:Nat->Wk,∀k,V1 k=(iT c (N k) (V k)).1:=⟨_,λ_=>rfl⟩;obtain⟨V2,hV2⟩:∃V2:Nat->Wk,∀k,V2 k=bP c 11 (B k) (V1 k):=⟨_,λ_=>rfl⟩;obtain⟨MM,hMM⟩:∃MM:Nat->Av,∀k,MM k=NC (jf (A k) (I k)):=⟨_,λ_=>rfl⟩;have p2:∀k (hk:k<c.s.cO.length),C 106 [bc (h.given[k]' E)] (ai (I k)):=λk hk=>by
  have hk2:k<h.given.length:=E
  have hR:=hi.gr _ (cU hk2);have h1:=hR.lo;have h2:=hR.le;have h3:=hR.hi;rw[hId,C7 hk2];exact N6 _ E E
 have ary:∀k,k<c.s.cO.length->aR (I k):=λk hk=>by
  have hk2:k<h.given.length:=E
  rw[hId,C7 hk2];exact(hi.gr _ (cU hk2)).av
 have hNn:∀k,k<c.s.cO.length->0<=N k∧N k<c.d.refs:=λk hk=>by rw[<-hN k hk];exact hi.pn _ (cU hk)
 have hVw:∀k,ic c (V k):=λk=>by rw[hVd];exact hVk k
 have as4:∀k,k<c.s.cO.length->aR (A k):=λk hk=>by rw[hAd];exact(Pq (hVw k) (hNn k hk)).a
 have p3:∀k,k<c.s.cO.length->C 73 [ai (A k),ai (I k)] (bo (B k)):=λk hk=>by rw[hBd];exact al6 _ _ (as4 k hk) (ary k hk)
 have p5:∀k,k<c.s.cO.length->C 364 [ai (A k),ai (I k)] (.bS [ai (MM k),bo (jf (A k) (I k)).isSome]):=λk hk=>by rw[hMM];exact NP _ _ (as4 k hk) (ary k hk)
 have hR:∀k (hk:k<c.s.cO.length),(fe c h (c.s.cO.take k) 0 u).2=false->
  ((fe c h (c.s.cO.take (k+1)) 0 u).2=true∧aj prog 355 [.ptr 1000 0,it c.s.cO[k]] (bZ c (V k)) (vw 347) (bZ c (V (k+1))))∨
  (aj prog 355 [.ptr 1000 0,it c.s.cO[k]] (bZ c (V k)) (ai (A k)) (bZ c (V1 k))∧
   aj prog 289 [.ptr 1000 0,it 11,bo (B k)] (bZ c (V1 k)) (.bS []) (bZ c (V2 k))∧
   ((jf (A k) (I k)).isSome=false∧(fe c h (c.s.cO.take (k+1)) 0 u).2=true∧V (k+1)=V2 k∨
     (jf (A k) (I k)).isSome=true∧(fe c h (c.s.cO.take (k+1)) 0 u).2=false∧
      aj prog 356 [.ptr 1000 0,it c.s.cO[k],it 1,ai zR] (bZ c (V2 k)) (.bS []) (bZ c (V (k+1))))):=λk hk hs=>by
  have hr:=(hVw k).f.refs;have hn:=hNn k hk;have q:=XQ (h:=h) (hVw k) (n:=N k) (k:=k) E ((hVw k).f.yv hc.d);have e:=acg (w:=u) hk hs;rw[hN k hk,<-hVd]at e;rw[<-hAd,<-hId,<-hBd,<-hV1,<-hV2]at q;rw[hVd (k+1),e,hN k hk];rcases q with q|⟨q1,q2,q3⟩;exact .inl q;refine .inr ⟨q1,q2,?_⟩;rcases q3 with⟨q3,q4⟩|⟨q3,q4,q5⟩;left;rw[q4];exact⟨q3,rfl,rfl⟩;right;rw[q4];exact⟨q3,rfl,q5⟩
 have ark:∀k (hk:k<c.s.cO.length),(fe c h (c.s.cO.take k) 0 u).2=false->(fe c h (c.s.cO.take (k+1)) 0 u).2=false->
  aj prog 355 [.ptr 1000 0,it c.s.cO[k]] (bZ c (V k)) (ai (A k)) (bZ c (V1 k))∧aj prog 289 [.ptr 1000 0,it 11,bo (B k)] (bZ c (V1 k)) (.bS []) (bZ c (V2 k))∧C 364 [ai (A k),ai (I k)] (.bS [ai (MM k),bo true])∧aj prog 356 [.ptr 1000 0,it c.s.cO[k],it 1,ai zR] (bZ c (V2 k)) (.bS []) (bZ c (V (k+1))):=λk hk hs ht=>by
  have q5:=p5 k hk;rcases hR k hk hs with⟨q,_⟩|⟨q1,q2,⟨_,q,_⟩|⟨q3,_,q4⟩⟩;rw[q]at ht;cases ht;rw[q]at ht;cases ht;rw[q3]at q5;exact⟨q1,q2,q5,q4⟩
 have p6:∀k,aj prog 292 [.ptr 1000 0,bo true] (bZ c (V2 k)) (.bS []) (bZ c (V2 k)):=λk=>sX c w _;rcases Af (λk=>(fe c h (c.s.cO.take k) 0 u).2) rfl c.s.cO.length with SZ|⟨m,hm1,SZ,hst⟩
 case inr=>
  have hB:fe c h c.s.cO 0 u=(V (m+1),true):=(GM (m+1) hst).trans (yf (hVd (m+1)).symm hst);have hres:qj c h y w=(V (m+1),true):=ZU
  rw[hres];show aj prog 293 [.ptr 1000 0] (bZ c w) (vw 347) (bZ c (V (m+1)));have hall:=λk (hk:k<m)=>ark k E (SZ k E) (SZ (k+1) E);rcases hR m hm1 (SZ m (cJ m))with⟨_,q⟩|⟨q1,q2,⟨q3,_,q4⟩|⟨_,q,_⟩⟩
  rcases hi.cS with cS|⟨ys,ye,cS,cT⟩<;>exact asn;have q5:=p5 m hm1;rw[q3]at q5;rw[q4];have q6:aj prog 292 [.ptr 1000 0,bo false] (bZ c (V2 m)) (vw 347) (bZ c (V2 m)):=pL c w _;have p3m:=p3 m hm1;rcases hi.cS with cS|⟨ys,ye,cS,cT⟩<;>exact asm;rw[hst]at q;cases q
 have hall:=λk (hk:k<c.s.cO.length)=>ark k hk (SZ k E) (SZ (k+1) E);have hP:fe c h c.s.cO 0 u=(V c.s.cO.length,false):=by have h1:=SZ c.s.cO.length (cJ _);have h2:=hVd c.s.cO.length;exact TZ
 rw[hP,Rs.xB]at hcall;have hv:=hVw c.s.cO.length;have hvK:=hVK c.s.cO.length;rw[<-hVd]at hvK;have hlk:=hi.lk;have hld:=hi.ld;have hyb:=hi.yb;have hmay:=hv.f.may;obtain⟨FL,hFL⟩:∃x,x=a_ y.aQ (V c.s.cO.length).f.may:=⟨_,rfl⟩;have e3:(((BitVec.ofInt IntKind.i64.bits y.aQ&&&BitVec.ofInt IntKind.i64.bits (V c.s.cO.length).f.may).toNat:Nat):Int)=FL:=(ov _ _).trans hFL.symm;have d4:0<=FL∧FL<2^16:=by rw[hFL];exact iZ (n:=16) E E E
 have cL:=sa hv 4 (FL==0);have hv3:=hv.find (c:=c) (k:=4) E (FL==0);have hk3:=hvK.trans (yI c 4 (FL==0) _);have hf3:=Dn c 4 (FL==0) (V c.s.cO.length);obtain⟨w3,hw3⟩:∃w3,w3=bP c 4 (FL==0) (V c.s.cO.length):=⟨_,rfl⟩;rw[<-hw3]at cL hv3 hk3 hf3;obtain⟨X,hX⟩:∃X:Nat->Wk,∀k,X k=iD c (y.fD.take k) w3:=⟨_,λ_=>rfl⟩;have hX0:X 0=w3:=hX 0;have hXk:∀k,ic c (X k)∧(X k).ps.length<=w3.ps.length+y.fD.length∧(X k).Au=w3.Au∧(X k).f=w3.f:=λk=>by have:=GX (c:=c) (l:=y.fD.take k) hv3;rw[hX];refine⟨this.1,?_,this.2.2⟩;have h2:=this.2.1;rw[l7]at h2;omega
 have avp:w3.ps.length<2^20:=by rw[hk3.2];exact hps
 have cX:∀k (hk:k<y.fD.length),aj prog 365 [.ptr 1000 0,it y.fD[k].a,it y.fD[k].b] (bZ c (X k)) (.bS []) (bZ c (X (k+1))):=λk hk=>by have h1:=hXk k;rw[show X (k+1)=vT c y.fD[k].a y.fD[k].b (X k) by rw[hX,hX,acm hk]];exact acn h1.1 E _ _
 have hXn:=hXk y.fD.length;have hXl:X y.fD.length=iD c y.fD w3:=by rw[hX,Fi]
 have cK:=abh hXn.1 E y.aQ E (by rw[hXn.2.2.1,hk3.1];exact hl);obtain⟨T1,hT1⟩:∃T1,T1=nJ c y.aQ (X y.fD.length):=⟨_,rfl⟩;have aus:T1.f=(V c.s.cO.length).f:=by rw[hT1];show(X y.fD.length).f=_;rw[hXn.2.2.2,hf3]
 rw[<-hT1]at cK;have cR:=V7 c T1 y.jo;obtain⟨T2,hT2⟩:∃T2,T2=gj y.jo T1:=⟨_,rfl⟩;have art:T2.f=(V c.s.cO.length).f:=by rw[hT2,<-aus];unfold gj;split<;>rfl
 rw[<-hT2]at cR;obtain⟨QQ,hQQ⟩:∃x,x=iQ T2.f.parts y.kV:=⟨_,rfl⟩;have e4:(((BitVec.ofInt IntKind.i64.bits T2.f.parts|||BitVec.ofInt IntKind.i64.bits y.kV).toNat:Nat):Int)=QQ:=(BO _ _).trans hQQ.symm;have hvp:=hv.f.parts;have d5:0<=QQ∧QQ<2^16:=by rw[hQQ,art];exact UK
 have hLf:pT c.d ({T2 with f:={T2.f with parts:=QQ}}:Wk).f:=by show pT c.d {T2.f with parts:=QQ};rw[art];exact hv.f.part E
 have hsum:Gq c y (V c.s.cO.length)=(if c.s.n>=0 then gW c ⟨y.Nx,y.Ny,y.rm,y.rr,y.nO⟩ {T2 with f:={T2.f with parts:=QQ}}else{T2 with f:={T2.f with parts:=QQ}}):=by rw[hQQ,hT2,hT1,hXl,hw3,hFL];rfl
 have avu:aj prog 289 [.ptr 1000 0,it 4,bo (FL==0)] (bZ c (V c.s.cO.length)) (.bS []) (bZ c (X 0)):=by rw[hX0];exact cL
 by_cases hn:c.s.n>=0;have hng:decide (c.s.n>=0)=true:=by simpa using hn
 have hres:qj c h y w=(gW c ⟨y.Nx,y.Ny,y.rm,y.rr,y.nO⟩ {T2 with f:={T2.f with parts:=QQ}},false):=by rw[hcall,hsum,ak hn]
 have cGG:=rb (w:={T2 with f:={T2.f with parts:=QQ}}) hc hLf ⟨E,hi.nv⟩ ⟨y.Nx,y.Ny,y.rm,y.rr,y.nO⟩;rw[hres];show aj prog 293 [.ptr 1000 0] (bZ c w) (.bS []) (bZ c (gW c ⟨y.Nx,y.Ny,y.rm,y.rr,y.nO⟩ {T2 with f:={T2.f with parts:=QQ}}));rcases hi.cS with cS|⟨ys,ye,cS,cT⟩<;>exact alg;have hng:decide (c.s.n>=0)=false:=by simpa using hn
 have hres:qj c h y w=({T2 with f:={T2.f with parts:=QQ}},false):=by rw[hcall,hsum,Z hn]
 rw[hres];show aj prog 293 [.ptr 1000 0] (bZ c w) (.bS []) (bZ c {T2 with f:={T2.f with parts:=QQ}});rcases hi.cS with cS|⟨ys,ye,cS,cT⟩<;>exact alg
end
section
variable{c:Wc}{w:Wk}
def ajl(h:Hd)(y:Sy)(ho:c.s.op=13)(cc:aj prog 293 [.ptr 1000 0] (bZ c w) (cV (qj c h y w) (.bS [])) (bZ c (qj c h y w).1)):aj prog 236 [.ptr 1000 0] (bZ c w) (cV (kF c h y w) (.bS [])) (bZ c (kF c h y w).1):=by
 have o1:(c.s.op==1)=false:=aD
 have o2:(c.s.op==2)=false:=aD
 have o3:(c.s.op==3)=false:=aD
 have o4:(c.s.op==4)=false:=aD
 have Rc:(c.s.op==19)=false:=aD
 have SC:(c.s.op==20)=false:=aD
 have o5:(c.s.op==5)=false:=aD
 have XW:(c.s.op==18)=false:=aD
 have YZ:(c.s.op==21)=false:=aD
 have o6:(c.s.op==6)=false:=aD
 have o7:(c.s.op==7)=false:=aD
 have o8:(c.s.op==8)=false:=aD
 have o9:(c.s.op==9)=false:=aD
 have o10:(c.s.op==10)=false:=aD
 have o16:(c.s.op==16)=false:=aD
 have o17:(c.s.op==17)=false:=aD
 have o22:(c.s.op==22)=false:=aD
 have o23:(c.s.op==23)=false:=aD
 have o14:(c.s.op==14)=false:=aD
 have o13:(c.s.op==13)=true:=aD
 unfold kF cV;(repeat rw[Z nU]);rw[Z (show ¬(c.s.op=5∨c.s.op=18∨c.s.op=21) by omega),Z (show ¬(c.s.op=6∨c.s.op=7∨c.s.op=8∨c.s.op=9∨c.s.op=10) by omega),Z (show ¬(c.s.op=16∨c.s.op=17) by omega),ak (show c.s.op=13 by omega)];unfold cV at cc;generalize qj c h y w=N at*;obtain⟨W,b⟩:=N;cases b with|false=>exact nD|true=>exact nC
def ajj(h:Hd)(y:Sy)(ho:c.s.op=11∨c.s.op=12∨c.s.op=15):aj prog 236 [.ptr 1000 0] (bZ c w) (cV (kF c h y w) (.bS [])) (bZ c (kF c h y w).1):=by have o1:=fE (show c.s.op≠1 by omega);have o2:=fE (show c.s.op≠2 by omega);have o3:=fE (show c.s.op≠3 by omega);have o4:=fE (show c.s.op≠4 by omega);have Rc:=fE (show c.s.op≠19 by omega);have SC:=fE (show c.s.op≠20 by omega);have o5:=fE (show c.s.op≠5 by omega);have XW:=fE (show c.s.op≠18 by omega);have YZ:=fE (show c.s.op≠21 by omega);have o6:=fE (show c.s.op≠6 by omega);have o7:=fE (show c.s.op≠7 by omega);have o8:=fE (show c.s.op≠8 by omega);have o9:=fE (show c.s.op≠9 by omega);have o10:=fE (show c.s.op≠10 by omega);have o16:=fE (show c.s.op≠16 by omega);have o17:=fE (show c.s.op≠17 by omega);have o22:=fE (show c.s.op≠22 by omega);have o23:=fE (show c.s.op≠23 by omega);have o14:=fE (show c.s.op≠14 by omega);have o13:=fE (show c.s.op≠13 by omega);unfold kF cV;(repeat rw[Z nU]);rw[Z (show ¬(c.s.op=5∨c.s.op=18∨c.s.op=21) by omega),Z (show ¬(c.s.op=6∨c.s.op=7∨c.s.op=8∨c.s.op=9∨c.s.op=10) by omega),Z (show ¬(c.s.op=16∨c.s.op=17) by omega)];show aj prog 236 [.ptr 1000 0] (bZ c w) (.bS []) (bZ c w);refine fo func236 ?_;exact bz
end
end Abs
namespace Abs
open Go Go.Proofs Go.RowKit Tryz
def SL{P:Program}(w:World){ops:Array Oper}{rest:List Oper}{o:Oper}{a:Act}{Q:Go.Exit->Act->World->Prop}(hg:o.guard=none)(t:TypeId)(p x:Operand)(ho:o.op= .store t p x)(v u:Value)(hv:a.eval p=v)(hu:a.eval x=u){w' :World}(hr:(Instr.storeAt t v u).run P w= .ok () w')(h:wpList P ops Q rest (a.put o.dst undef) w'):wpList P ops Q (o::rest) a w:=wpList_plain hg λ_ hK=>by unfold Oper.wp execOp;simp only[ho,hv,hu,Sem.run_bind,hr,Result.andThen_ok,Sem.run_pure];exact hK _ _ h
def W6:Value:= .agg #[.bool true,.slice none 0 0,.slice none 0 0,.slice none 0 0,.slice none 0 0,.int .i64 0,.int .i64 0,.int .i64 0]
def J0(γ:Gh):bD γ W6 (aZ iq):=by refine .agg rfl (λi v hv=> ?_) (λi v d hv hd=> ?_);rcases i with _|_|_|_|_|_|_|_|i<;>simp at hv<;>subst hv<;>rfl;rcases i with _|_|_|_|_|_|_|_|i<;>simp at hv<;>subst hv<;>simp[cF,nth,iq]at hd<;>subst hd;exact .pure (.bool _);exact AJ;exact AJ;exact AJ;exact AJ;exact Er;exact Er;exact Er
def YR(pb bx:Nat)(w:World)(hp:w.cell? ⟨pb,0,none⟩=some (.pointer (some ⟨bx,0,none⟩))){C:Array Value}{e:TypeId}{fz:Nat×Nat}(hb:w.heap[bx]? =some (.cells C e fz))(hf:qT fz C.size)(hC:C.size=74)(L:List Value)(hL:L=W6.cells.toList):CallsD prog 235 #[.pointer (some ⟨pb,0,none⟩)] (.panicking (qh 347)) w λe' u' w' =>e' = .returned (.tuple #[])∧u' = .panicking [{v:= .iface 347 (.agg #[]),recovered:=true}]∧w' =dA (w.alloc (.cells #[] 347)) bx (.cells (aI C.toList 65 L).toArray e fz):=by
 have hta:∀w:World,(Instr.typeAssert (.iface 347 (.agg #[])) 20 347 true).run prog w= .ok (.tuple #[.agg #[],.bool true]) w:=λ_=>rfl;have hlt:=cI hb;have hpl:=mM hp;have hb1:(w.alloc (.cells #[] 347)).heap[bx]? =some (.cells C e fz):=(bN w _ bx hlt).trans hb;have hp1:(w.alloc (.cells #[] 347)).cell? ⟨pb,0,none⟩=some (.pointer (some ⟨bx,0,none⟩)):=(fJ (w:=w) (bN w _ pb hpl)).trans hp;have hst:=ln (P:=prog) (w:=w.alloc (.cells #[] 347)) (t:=59) (off:=65) aA (J0 ⟨λ_ _=>none,λ_=>none,λ_=>none⟩) ja aA hb1 hf (by rw[hC];decide);rw[<-hL]at hst;clear hL;refine callsD_of_wpS func235 rfl λc₀ cs hu=> ?_;apply wpS_seq;apply wpS_region;simp[wpOpsS,go_sem,recoverD,hu,qh,ntmps235,Exit.thenS];refine wpS_of_wp ?_
 go_wp2_with (refine SL _ rfl 59 _ _ rfl _ _ rfl rfl hst ?_)
 simp[bodyPostS,results,results235,Act.put]
def Tg(p:Addr)(w:World):CallsD prog 235 #[.pointer (some p)] .returning w λe' u' w' =>e' = .returned (.tuple #[])∧u' = .returning∧w' =w:=by
 refine callsD_of_wpS func235 rfl λc₀ cs hu=> ?_;apply wpS_seq;apply wpS_region;simp[wpOpsS,go_sem,recoverD,hu,ntmps235,Exit.thenS];refine wpS_of_wp ?_
 go_wp2
 trace_state
 cases c₀;simp_all [bodyPostS,results,results235,Act.put]
def ao5(bx:Nat)(w:World)(R R' :Ending->World->Prop)(L:List Value)(hL:L=W6.cells.toList)(hdo:Calls prog 236 #[.pointer (some ⟨bx,0,none⟩)] (w.alloc (.cells #[.pointer (some ⟨bx,0,none⟩)] 288)) R)(hret:∀v w2,R (.returned v) w2->R' (.returned (.tuple #[])) w2)(auc:∀ch w2,R (.panicked ch) w2->ch=qh 347∧w2.cell? ⟨w.heap.size,0,none⟩=some (.pointer (some ⟨bx,0,none⟩))∧∃C e fz,w2.heap[bx]? =some (.cells C e fz)∧qT fz C.size∧C.size=74∧R' (.returned (.tuple #[])) (dA (w2.alloc (.cells #[] 347)) bx (.cells (aI C.toList 65 L).toArray e fz)))(hout:∀w2,¬R .outgrown w2):Calls prog 181 #[.pointer (some ⟨bx,0,none⟩)] w R' :=by
 have hmf:∀(fn:Fn) (first cap:Array Value) (w:World),(Instr.makeFunc fn first cap).run prog w= .ok (.func fn first cap) w:=λ_ _ _ _=>rfl
 go_enter_defers func181,ntmps181
 go_wp2_with (fail)
 refine hdo.mono ?_
 rintro (v|ch|_) w2 h
 ·dsimp only
  go_wp2
  refine leaves_cons (f:=235) (args:= #[.pointer (some ⟨w.heap.size,0,none⟩)]) O (by simp[go_sem]) ?_;refine(Tg ⟨w.heap.size,0,none⟩ w2).mono ?_
  rintro e u' w'' ⟨rfl,rfl,rfl⟩
  have:=hret v w'' h;simpa[Leaves,settle,results,results181,go_sem]using this
 ·dsimp only;obtain⟨rfl,h1,C,e,fz,h2,h3,h4,h5⟩:=auc ch w2 h;refine leaves_cons (f:=235) (args:= #[.pointer (some ⟨w.heap.size,0,none⟩)]) O (by simp[go_sem]) ?_;refine(YR w.heap.size bx w2 h1 h2 h3 h4 L hL).mono ?_
  rintro e u' w'' ⟨rfl,rfl,rfl⟩
  simpa[Leaves,settle,results,results181,go_sem]using h5
 exact absurd h (hout w2)
end Abs
namespace Abs
open Go Go.Proofs Tryz
variable{G:Prop}
def Mem.aom{X:Nat->Prop}{γ:Gh}{s:St}{w:World}(m:Mem (Cx.of 0 γ.X w γ.I) γ s w)(o:Obj):Mem (Cx.of 0 γ.X (dN w o) γ.I) γ s (dN w o):=by have p:=m.push o;refine⟨p.iw,λl d h=> ?_,p.gx,p.inj,p.F3,λk r h=> ?_,p.gE,p.k_,λb o v h=> .inl h,Frame.refl _ _,λb hb=> .inl hb⟩;obtain⟨b,h1,h2,h3⟩:=p.box l d h;exact⟨b,h1,h2,.inr (.inl ⟨l,h1⟩)⟩;obtain⟨t,h1,h2,h3,h4,h5⟩:=p.row k r h;exact⟨t,h1,h2,h3,h4,h5.dX λb hb _=> .inr (.inr ⟨k,t,h1,hb⟩)⟩
def Mem.ae3{X:Nat->Prop}{I:Nat->Nat->Option Value}{γ:Gh}{s:St}{w w2:World}{o:Obj}(m:Mem (Cx.of 0 X (dN w o) I) γ s w2):Mem (Cx.of 0 X w I) γ s w2:=by
 have hs:w.heap.size<(dN w o).heap.size:=x_
 have hm:∀b,(Cx.of 0 X (dN w o) I).dX b->(Cx.of 0 X w I).dX b:=λb h=>by rcases h with h|h;exact .inl E;exact .inr h
 refine⟨m.iw,λl d h=> ?_,m.gx,m.inj,m.F3,λk r h=> ?_,m.gE,m.k_,λb o v h=> ?_,?_,λb hb=>hm b (m.new b hb)⟩;obtain⟨b,h1,h2,h3⟩:=m.box l d h;exact⟨b,h1,h2,hm b h3⟩;obtain⟨t,h1,h2,h3,h4,h5⟩:=m.row k r h;exact⟨t,h1,h2,h3,h4,h5.dX λb _ h=>hm b h⟩;rcases m.kN b o v h with h|h;exact iM;exact .inr (hm b h);have f:Frame (dN w o) w2 X:=m.frame;exact⟨f.os,f.tape,f.output,by have:=f.size;omega,λb hb hx=>(f.block b E hx).trans (bN w o b hb)⟩
theorem Ql{cs cs' :List au}{R R' :List Row}{r:au}{out:List au}(h:aj prog 236 [.ptr 1000 0] ⟨[.agg cs],R⟩ r ⟨[.agg cs'],R'⟩)(hr:(rT r=none∧out=cs')∨(rT r=some 347∧cs'.length=74∧out=aI cs' 65 (cF iq))):aj prog 181 [.ptr 1000 0] ⟨[.agg cs],R⟩ (.bS []) ⟨[.agg out],R'⟩:=by
 refine⟨⟨_,func181,aA,aA⟩,λγ w vs hs hrep hmem=> ?_⟩;obtain⟨v0,rfl⟩:=ND (hs:vs.size=1);obtain⟨bx,hbx,rfl⟩:=GP (hrep 0 v0 _ rfl rfl);have hX:γ.X bx:= .inl ⟨1000,hbx⟩;have hnew:¬γ.X w.heap.size:=λhh=>by rcases hh with⟨l,hl⟩|⟨k,t,ht,hb⟩;exact absurd (hmem.vU hl) (fQ _);exact absurd (hmem.kK ht hb).1 (fQ _)
 have hdo:=h.go γ (dN w (.cells #[.pointer (some ⟨bx,0,none⟩)] 288)) #[.pointer (some ⟨bx,0,none⟩)] rfl hrep ((hmem.aom (X:=γ.X) _).names rfl rfl);refine Calls.mono (ao5 bx w _ (λe w' =>∃v,e= .returned v∧v= .tuple #[]∧∃γ',Ext γ γ' ∧Mem (Cx.of 0 γ.X w γ.I) γ' (init [] ⟨[.agg out],R'⟩) w') _ rfl hdo ?_ ?_ ?_) ?_
 ·rintro v w2 ⟨γ',h1,h2,h3⟩
  rcases hr with⟨_,rfl⟩|⟨hp,_,_⟩;exact⟨_,rfl,rfl,γ',h1,h3.ae3⟩;exfalso;have:=J7 hp;unfold rT at hp;split at hp;split at hp
  ·cases h2 with
   |pure r=>cases r
   | @bS us ds hl hh=>
     have hp0:0<us.size:=sJ
     have:=hh 0 us[0] _ (kJ hp0) rfl
     exact this.uf.2 rfl
  cases hp;cases hp
 ·rintro ch w2 ⟨γ',q,h1,h2,h3,h4⟩
  rcases hr with⟨hp,_⟩|⟨hp,hl,rfl⟩;rw[hp]at h2;cases h2;rw[hp]at h2;cases h2;have hf:Frame (dN w (.cells #[.pointer (some ⟨bx,0,none⟩)] 288)) w2 γ.X:=h4.frame;have arh :=h1.mu _ _ hbx;obtain⟨b,hb1,⟨C,e,fz,c1,c2,c3,c4⟩,hb3⟩:=h4.box 1000 (.agg cs') rfl;rw[arh]at hb1;cases hb1;have hcell:w2.heap[w.heap.size]? =some (.cells #[.pointer (some ⟨bx,0,none⟩)] 288 (0,0)):=(hf.block _ x_ hnew).trans (dd w _);refine⟨h3,by rw[ep hcell];rfl,C,e,fz,c1,c2,by rw[c3];exact hl,_,rfl,rfl,γ',h1,?_⟩;have hp:=(h4.ae3).push (.cells #[] 347);have dv:=jE (J0 γ') ja;have hdl:W6.cells.toList.length=8:=rfl;have IQ:C.toList.length=C.size:=O
  refine Mem.names (s:=init [] ⟨[.agg (aI cs' 65 (cF iq))],R'⟩) ?_ rfl rfl;refine hp.Sr (l:=1000) (b:=bx) (d:= .agg cs') (d' := .agg (aI cs' 65 (cF iq))) rfl arh xT (by rw[show(cells (.agg (aI cs' 65 (cF iq))))=aI cs' 65 (cF iq) from rfl,aV];have c3' :C.size=cs'.length:=c3;simpa[aV]using c3') (λi v x hv hx=> ?_) ?_ rfl;rw[ua,hdl,IQ]at hv;have hx' :nth (aI cs' 65 (cF iq)) i=some x:=hx;rw[fA,show(cF iq).length=8 from rfl]at hx';have c3' :C.size=cs'.length:=c3;by_cases hi:65<=i∧i<65+8∧i<C.size;rw[ak hi]at hv;rw[ak ⟨hi.1,hi.2.1,E⟩]at hx';exact dv.2 (i - 65) v x lK hx';rw[Z hi]at hv;rw[Z E]at hx';exact c4 i v x lK hx';funext k;by_cases hk:k=1000;subst hk;rfl;show aW (λ_=>none) 1000 _ k=aW (aW (λ_=>none) 1000 _) 1000 _ k;rw[aO _ _ _ _ hk,aO _ _ _ _ hk,aO _ _ _ _ hk]
 intro w2 h;exact h
 ·rintro e w' ⟨v,rfl,rfl,γ',h1,h2⟩
  exact⟨γ',h1,.bS rfl (λi v d hv=>uJ),h2⟩
def ap3(c:Wc)(w:Wk):(cW c w).length=74:=rfl
def ajy(c:Wc)(w:Wk):aI (cW c w) 65 (cF iq)=cW c {w with f:=iq}:=rfl
def ao6{c:Wc}{w:Wk}{h:Hd}{y:Sy}(hd:aj prog 236 [.ptr 1000 0] (bZ c w) (cV (kF c h y w) (.bS [])) (bZ c (kF c h y w).1)):aj prog 181 [.ptr 1000 0] (bZ c w) (.bS []) (bZ c (Cd c h y w)):=by unfold Cd;unfold cV at hd;generalize kF c h y w=N at hd ⊢;obtain⟨W,b⟩:=N;cases b with|false=>exact Ql (out:=cW c W) hd (.inl ⟨rfl,rfl⟩)|true=>exact Ql (out:=cW c {W with f:=iq}) hd (.inr ⟨rfl,ap3 c W,(ajy c W).symm⟩)
def Ai(w:Wk):au:= .agg (cF w.nx++(cF w.th++[it w.DG,it w.Au,fj 3 eP w.fd,fj 3 bQ w.ps,ints w.us]))
def aru:Nat->List Ad:=λn=>
 bif Nat.beq n 5 then[.aS 23 1,.aS 23 2,.aS 23 3,.aS 23 4,.aS 23 9,.aS 23 10,.aS 23 11,.aS 23 12,.cell 23 18 39,.cell 23 19 5390,.cell 23 20 5391]
 else bif Nat.beq n 7 then[.aS 23 18,.aS 23 19,.aS 23 20]
 else bif Nat.beq n 4 then[.aS 23 1,.aS 23 2,.aS 23 3,.aS 23 4,.aS 23 9,.aS 23 10,.aS 23 11,.aS 23 12,.aS 23 18,.aS 23 19,.aS 23 20]
 else[]
def Pk(c:Wc){f:Fa}(hf:f.dead=true):C 108 [qe c.p,.agg [it c.level,fj 10 gU c.rules],bR c.d,encS c.s,aZ f,fj 11 eO c.eh] (Ai {wk0 f with nx:=iq}):=by refine d_ hm func108 (λ_=>false) [] aru aA ?_;exact bz
def Pj(c:Wc){f:Fa}{G:Wk}{X Y:Fa}(hf:f.dead=false)(cg:aj prog 181 [.ptr 1000 0] (bZ c (wk0 f)) (.bS []) (bZ c G))(c1:C 107 [bR c.d,it c.level,aZ G.f] (aZ X))(c2:C 107 [bR c.d,it c.level,aZ G.th] (aZ Y)):C 108 [qe c.p,.agg [it c.level,fj 10 gU c.rules],bR c.d,encS c.s,aZ f,fj 11 eO c.eh] (Ai {G with nx:=X,th:=Y}):=by refine d_ hm func108 (λ_=>false) [] aru aA ?_;exact bp
def aan(h:G:=by rcases hf with rfl|hf;exact absurd hd (by simp[iq]);exact hf):=h
structure PIn(p:Pg):Prop where
 g:∀r∈p.d.globals,m7 r
 q:∀q∈p.d.eJ,m7 q.r
 c:∀r∈p.d.fq,m7 r
 s:∀s∈p.d.sinks,0<=s∧s<=255
structure Xi(c:Wc)(h:Hd)(y:Sy):Prop where
 op:1<=c.s.op∧c.s.op<=23
 ex:c.s.op=1∨c.s.op=2∨c.s.op=3∨c.s.op=5∨c.s.op=9∨c.s.op=18∨c.s.op=21->∃k z,kh c.d.vars c.d.aK.length k c.s.x z
 ey:c.s.op=3->∃k z,kh c.d.vars c.d.aK.length k c.s.y z
 ec:c.s.op=23->∃k z,En c.d.vars c.d.aK.length k c.s.c z
 nv:c.s.op=1∨c.s.op=2∨c.s.op=4∨c.s.op=10∨c.s.op=19∨c.s.op=20->0<=c.s.n∧c.s.n<c.d.vars
 nr:c.s.op=6∨c.s.op=7∨c.s.op=8∨c.s.op=9->0<=c.s.n∧c.s.n<c.d.refs
 mr:c.s.op=8∨c.s.op=10->0<=c.s.m∧c.s.m<c.d.refs
 ma:c.s.op=2∨c.s.op=3->0<=c.s.m∧c.s.m<c.d.aK.length
 mg:c.s.op=4∨c.s.op=5->0<=c.s.m∧c.s.m.toNat<c.p.d.globals.length
 mq:c.s.op=18∨c.s.op=19->0<=c.s.m∧c.s.m.toNat<c.p.d.eJ.length
 mc:c.s.op=20->0<=c.s.m∧c.s.m.toNat<c.p.d.fq.length
 ms:c.s.op=21->0<=c.s.m∧c.s.m.toNat<c.p.d.sinks.length
 ml:c.s.op=16∨c.s.op=17->0<=c.s.m∧c.s.m<8
 mu:c.s.op=22->0<=c.s.m∧c.s.m<16
 v:c.s.op=14->0<=c.s.v
 call:c.s.op=13->CIn c h y
def av3{c:Wc}{w:Wk}{h:Hd}{y:Sy}(hc:kf c)(hw:ic c w)(hp:PIn c.p)(hi:Xi c h y)(hl:0<=w.Au∧w.Au<2^60)(hps:w.ps.length<2^20):aj prog 236 [.ptr 1000 0] (bZ c w) (cV (kF c h y w) (.bS [])) (bZ c (kF c h y w).1):=by
 have hop:=hi.op;have hcase:c.s.op=1∨c.s.op=2∨c.s.op=3∨c.s.op=4∨c.s.op=5∨c.s.op=6∨c.s.op=7∨c.s.op=8∨c.s.op=9∨c.s.op=10∨(c.s.op=11∨c.s.op=12∨c.s.op=15)∨c.s.op=13∨c.s.op=14∨c.s.op=16∨c.s.op=17∨c.s.op=18∨c.s.op=19∨c.s.op=20∨c.s.op=21∨c.s.op=22∨c.s.op=23:=E
 rcases hcase with ho|ho|ho|ho|ho|ho|ho|ho|ho|ho|ho|ho|ho|ho|ho|ho|ho|ho|ho|ho|ho;obtain⟨k,z,he⟩:=hi.ex E;exact aow h y hc hw ho he (hi.nv E);obtain⟨k,z,he⟩:=hi.ex E;exact ajk h y hc hw ho he (hi.ma E) (hi.nv E);obtain⟨k,z,he⟩:=hi.ex E;obtain⟨k2,z2,hy⟩:=hi.ey ho;exact afe h y hc hw ho he hy (hi.ma E);exact ajh h y hc hw ho (hi.nv E) (hi.mg E) hp.g;obtain⟨k,z,he⟩:=hi.ex E;exact aji h y ho (XV hc hw ho he (hi.mg E) hp.g);exact afk h y ho (adh hc hw ho (hi.nr E));exact afj h y ho (X7 hc hw ho (hi.nr E));exact afi h y ho (X6 hc hw ho (hi.nr E) (hi.mr E));obtain⟨k,z,he⟩:=hi.ex E;exact afh h y ho (adg hc hw ho (hi.nr E) he);exact YH h y ho (adi hc hw ho (hi.mr E) (hi.nv E));exact ajj h y ho;exact ajl h y ho (ap2 hc hw (hi.call ho) hl hps);exact afd h y ho (hi.v ho);exact YJ h y ho (adz hw E E (hi.ml E) hl);exact YI h y ho (adz hw E E (hi.ml E) hl);obtain⟨k,z,he⟩:=hi.ex E;exact afg h y ho (acp hc hw ho he (hi.mq E) hp.q);exact ajg h y hc hw ho (hi.nv E) (hi.mq E) hp.q;exact YG h y hc hw ho (hi.nv E) (hi.mc E) hp.c;obtain⟨k,z,he⟩:=hi.ex E;exact aff h y ho (aco hc hw ho he (hi.ms E) hp.s);exact aov h y hw ho (hi.mu ho);obtain⟨k,z,he⟩:=hi.ec ho;exact YK h y hc hw ho he
def Nd{c:Wc}{f:Fa}(hf:pT c.d f):ic c (wk0 f):=⟨hf,List.Pairwise.nil,λx hx=>uG,List.Pairwise.nil,List.Pairwise.nil,λx hx=>uG⟩
def ad9{d:Df}(hd:yR d)(hp:d.params.length<=2):C 105 [it d.vars,it ((d.params.map bc).length:Nat)] (dI (fR d.vars.toNat d.params.length)):=by have hv:=hd.vars;have h:=al2 d.vars.toNat d.params.length E E;rwa[Bm E,show(d.params.length:Int)=(((d.params.map bc).length:Nat):Int) by rw[dn]]at h
theorem abq{c:Wc}{f:Fa}{h:Hd}{y:Sy}(hc:kf c)(hf:sn c.d f)(hp:PIn c.p)(hi:Xi c h y)(hpn:c.d.params.length<=2)(h1:f.dead=false->sn c.d (Cd c h y (wk0 f)).f)(h2:f.dead=false->sn c.d (Cd c h y (wk0 f)).th):C 108 [qe c.p,.agg [it c.level,fj 10 gU c.rules],bR c.d,encS c.s,aZ f,fj 11 eO c.eh] (Ai (nL c h y f)):=by
 unfold nL;cases hd:f.dead with
 |true=>rw[ak rfl];exact Pk c hd
 |false=>
  rw[Z O];have hl:pT c.d f:=aan
  have cg:=ao6 (av3 hc (Nd hl) hp hi ⟨pt 0,by show(0:Int)<2^60;decide⟩ (by show 0<2^20;decide));exact Pj c hd cg (Ov hc.d (h1 hd) (ad9 hc.d hpn) c.level) (Ov hc.d (h2 hd) (ad9 hc.d hpn) c.level)
end Abs
namespace Abs
open Go Go.Proofs
variable{G:Prop}
def M8:=@BitVec.eq_of_getLsbD_eq
def akp(h:G:=by apply M8;intro i hi;have h2:=aL (λv=>v.getLsbD i) h1;simp[hi]at h2 ⊢;cases hx:x.getLsbD i<;>cases hy:y.getLsbD i<;>cases hz:z.getLsbD i<;>simp_all):=h
def Vq(h:G:=by have e:cZ c.p.d.globals c.s.m=c.p.d.globals[c.s.m.toNat]:=(by unfold cZ;simp[hn.2]);rw[e];exact hp.g _ (cU hn.2)):=h
def Vn(h:G:=by have e:pZ c.p.d.eJ c.s.m=c.p.d.eJ[c.s.m.toNat]:=(by unfold pZ;simp[hn.2]);rw[e];exact hp.q _ (cU hn.2)):=h
def UI(h:G:=by exact .of (Jt hc hw he hR (by omega)) (by rw[Js];exact ht)):=h
def AG(h:G:=by rw[tf];exact ht):=h
def AF(h:G:=by rw[aib];exact ht):=h
def wU(x:BitVec 64):BitVec.ofInt 64 ((x.toNat:Nat):Int)=x:=O
def DB{a m:Int}(h:kq a m=0):BitVec.ofInt 64 a&&& ~~~BitVec.ofInt 64 m=0#64:=by
 unfold kq at h;apply M7;have:(BitVec.ofInt 64 a&&& ~~~BitVec.ofInt 64 m).toNat=0:=E
 exact nw
def ak8{a m b:Int}(h:kq a m=0):kq (iQ a b) (iQ m b)=0:=by
 have h1:=DB h;unfold kq iQ;rw[wU,wU];generalize BitVec.ofInt 64 a=x at*;generalize BitVec.ofInt 64 m=y at*;generalize BitVec.ofInt 64 b=z at*;have:(x|||z)&&& ~~~(y|||z)=0#64:=akp
 exact nw
def agp{a m b:Int}(h:kq a m=0):kq (kq a b) (kq m b)=0:=by
 have h1:=DB h;unfold kq;rw[wU,wU];generalize BitVec.ofInt 64 a=x at*;generalize BitVec.ofInt 64 m=y at*;generalize BitVec.ofInt 64 b=z at*;have:(x&&& ~~~z)&&& ~~~(y&&& ~~~z)=0#64:=akp
 exact nw
def av7{m:Int}(h:0<=m∧m<8):0<gw m∧gw m<2^8:=by
 have:m=0∨m=1∨m=2∨m=3∨m=4∨m=5∨m=6∨m=7:=E
 rcases this with rfl|rfl|rfl|rfl|rfl|rfl|rfl|rfl<;>decide
def tf(c:Wc)(k:Int)(b:Bool)(w:Wk):(bP c k b w).th=w.th:=Z7
def Js(c:Wc)(e:Ex)(r:pG)(k:Int)(w:Wk):(ij c e r k w).1.th=w.th:=by have h:=tf c k false (kZ c e w);have h2:(bP c k false (kZ c e w)).th=w.th:=h;unfold ij;split;rfl;split;dsimp only;split;exact h2;exact h2;exact h2
def Yl(c:Wc)(w:Wk):(jg c w).1.th=w.th:=by have h:=tf c 1 false (kZ c c.s.x w);unfold jg;split;rfl;exact h
theorem Xe(c:Wc)(h:Hd):∀(l:List Ex) (i:Nat) (w:Wk),(fu c h l i w).1.th=w.th|[],_,_=>rfl|e::l,i,w=>by have h1:=Js c e (cZ h.params i) 11 w;unfold fu Rs.and;split;exact h1;exact(Xe c h l (i+1) _).trans h1
def an0(c:Wc)(h:Hd)(n:Int)(i:Nat)(w:Wk):(tQ c h n i w).1.th=w.th:=by
 have h1:=tf c 2 (a_ (aP w n).s 1==0) w;have h2:=(tf c 11 (sr (aP w n).a (jh (cZ h.given i))) _).trans h1;unfold tQ iT p_ Rs.and;dsimp only;split;exact h1
 ·try dsimp only
  split;exact h2;exact h2
theorem Wo(c:Wc)(h:Hd):∀(l:List Int) (i:Nat) (w:Wk),(fe c h l i w).1.th=w.th|[],_,_=>rfl|e::l,i,w=>by have h1:=an0 c h e i w;unfold fe Rs.and;split;exact h1;exact(Wo c h l (i+1) _).trans h1
theorem Pu(c:Wc):∀(l:List Pa) (w:Wk),(iD c l w).th=w.th|[],_=>rfl|x::l,w=>(Pu c l (vT c x.a x.b w)).trans rfl
def Wl{c:Wc}{w:Wk}(hw:ic c w){n:Int}(hn:0<=n∧n<c.d.refs):aR (aP w n).a:=(Pq hw hn).a
structure Kp(c:Wc)(r:Rs):Prop where
 f:r.2=false->sn c.d r.1.f
 t:sn c.d r.1.th
def Kp.of{c:Wc}{r:Rs}(h1:ic c r.1)(h2:sn c.d r.1.th):Kp c r:=⟨λ_=> .inr h1.f,h2⟩
section
variable{c:Wc}{w:Wk}{h:Hd}{y:Sy}
def Dz(hw:ic c w)(ht:sn c.d w.th)(hn:0<=c.s.n∧c.s.n<c.d.vars){a:Av}(ha:aR a):Kp c (gW c a w,false):=⟨λ_=> .inr (hw.f.set hn.1 hn.2 ha zEx),ht⟩
def yz(hw:ic c w)(n:Int):ic c (iT c n w).1:=by have h1:=hw.find (c:=c) (k:=2) E (a_ (aP w n).s 1==0);exact h1
def aib(n:Int):(iT c n w).1.th=w.th:=tf c 2 _ w
def WV(hw:ic c w)(ht:sn c.d w.th)(n:Int){a:Av}(ha:aR a):Kp c (sb c n a w)∧((sb c n a w).2=false->ic c (sb c n a w).1):=by
 have h1:=hw.find (c:=c) (k:=3) E (a_ (aP w n).s 2==0);have h2:=tf c 3 (a_ (aP w n).s 2==0) w;have h3:ic c (sb c n a w).1∧(sb c n a w).1.th=w.th:=by unfold sb p_ Rs.and;split;exact⟨h1,h2⟩;exact⟨h1.ref ⟨E,E⟩ ha (λe=>absurd e aw),h2⟩
 exact⟨.of h3.1 (by rw[h3.2];exact ht),λ_=>h3.1⟩
def aie(hc:kf c)(hw:ic c w)(ht:sn c.d w.th)(hi:Xi c h y):Kp c (gF c w):=by
 unfold gF;split;exact(WV hw ht _ Bt).1;split;unfold Rs.and;split;exact .of (yz hw _) AF;exact .of ((yz hw _).ref ⟨E,E⟩ Bt (λ_=>rfl)) (by show sn c.d (iT c c.s.n w).1.th;exact AF);split;rename_i ho;have ha:=Wl (yz hw c.s.m) (hi.mr E);have hn:=yz hw c.s.m;have htt:sn c.d (iT c c.s.m w).1.th:=AF
 unfold Rs.and;split;exact .of hn htt;dsimp only;split;exact .of (hn.ref ⟨E,E⟩ ha (λe=>absurd e aw)) htt;have hf:=WV hn htt c.s.n ha;split;exact hf.1;rename_i h2;exact .of ((hf.2 nE).ref ⟨E,E⟩ Bt (λ_=>rfl)) hf.1.t;split;rename_i ho;obtain⟨k,z,he⟩:=hi.ex E;have hn:=yz hw c.s.n;have htt:sn c.d (iT c c.s.n w).1.th:=AF
 unfold Rs.and;split;exact .of hn htt;exact .of ((hn.set he).ref ⟨E,E⟩ (sQ hc hn he) (λe=>absurd e aw)) htt;split;rename_i ho;have hn:=yz hw c.s.m;have htt:sn c.d (iT c c.s.m w).1.th:=AF
 have ha:=Wl hn (hi.mr E);unfold Rs.and;split;exact .of hn htt;exact Dz (hn.ref ⟨E,E⟩ ha (λe=>absurd e aw)) htt (hi.nv E) ha;exact .of hw ht
def an4(hc:kf c)(hw:ic c w)(ht:sn c.d w.th)(hi:Xi c h y)(hp:PIn c.p)(ho:c.s.op=5∨c.s.op=18∨c.s.op=21):Kp c (rU c w):=by
 obtain⟨k,z,he⟩:=hi.ex E;unfold rU;split;rename_i h5;have hn:=hi.mg E;have hR:m7 (cZ c.p.d.globals c.s.m):=Vq
 exact UI;split;rename_i h18;have hn:=hi.mq E;have hR:m7 (pZ c.p.d.eJ c.s.m).r:=Vn
 exact UI;split;rename_i h21;have hn:=hi.ms h21;have hS:0<=dR c.p.d.sinks c.s.m∧dR c.p.d.sinks c.s.m<=255:=by have e:dR c.p.d.sinks c.s.m=c.p.d.sinks[c.s.m.toNat]:=(by unfold dR;simp[hn.2]);rw[e];exact hp.s _ (cU hn.2)
 have hw2:=(hw.set (c:=c) he).find (c:=c) (k:=7) E (kq (iP c c.s.x w).mask (dR c.p.d.sinks c.s.m)==0);have htt:sn c.d (bP c 7 (kq (iP c c.s.x w).mask (dR c.p.d.sinks c.s.m)==0) (kZ c c.s.x w)).th:=AG
 split;rename_i h2;have hx:=Ot he h2;have hv:=hw.f.v;have hlt:c.s.x.n.toNat<w.f.v.length:=E
 have hA:aR (gV w.f c.s.x.n):=(by have e:gV w.f c.s.x.n=w.f.v[c.s.x.n.toNat]:=(by unfold gV;simp[hlt]);rw[e];exact hw.f.va _ (cU hlt));have hb:=iZ (a:=(gV w.f c.s.x.n).mask) (b:=dR c.p.d.sinks c.s.m) (n:=8) E hS.1 E;exact .of (hw2.H5 (FQ hA hb.1 E)) htt;exact .of hw2 htt;exact .of hw ht
def aii(hw:ic c w)(ht:sn c.d w.th)(hm' :0<=c.s.m∧c.s.m<8):Kp c (ta c w):=by
 have hb:=av7 hm';have hmu:=hw.f.ei;have hma:=hw.f.may;unfold ta;split;have hw1:=hw.find (c:=c) (k:=5) E (!(a_ w.f.ei (gw c.s.m)==0));have ht1:sn c.d (bP c 5 (!(a_ w.f.ei (gw c.s.m)==0)) w).th:=AG
 have hf:=Dn c 5 (!(a_ w.f.ei (gw c.s.m)==0)) w;unfold p_ Rs.and;split;exact .of hw1 ht1;refine⟨λ_=> .inr ?_,ht1⟩;dsimp only;rw[hf];have h:=hw.f;have b1:=CB (a:=w.f.ei) (b:=gw c.s.m) (n:=8) E hmu.1 E;have b2:=CB (a:=w.f.may) (b:=gw c.s.m) (n:=8) E hma.1 E;exact⟨h.live,h.v,h.va,h.ju,h.refs,h.ra,h.arr,h.aa,bu,bu,h.parts,agp h.sub⟩;have hw1:=hw.find (c:=c) (k:=4) E (a_ w.f.may (gw c.s.m)==0);have ht1:sn c.d (bP c 4 (a_ w.f.may (gw c.s.m)==0) w).th:=AG
 have hf:=Dn c 4 (a_ w.f.may (gw c.s.m)==0) w;unfold p_ Rs.and;split;exact .of hw1 ht1;refine⟨λ_=> .inr ?_,ht1⟩;dsimp only[nJ];rw[hf];have h:=hw.f;have b1:=sY (a:=w.f.ei) (b:=gw c.s.m) (n:=8) E hmu.1 E E hb.2;have b2:=sY (a:=w.f.may) (b:=gw c.s.m) (n:=8) E hma.1 E E hb.2;exact⟨h.live,h.v,h.va,h.ju,h.refs,h.ra,h.arr,h.aa,bu,bu,h.parts,ak8 h.sub⟩
end
def Zv(h:G:=by have b:=sY (a:=w.f.parts) (b:=gw h.part) (n:=16) (by omega) hwp.1 (by omega) (by omega) d3.2;exact hw1.OT (f:={(bP c 13 (uc w.f.parts h.part.toNat) w).f with parts:=iQ (bP c 13 (uc w.f.parts h.part.toNat) w).f.parts (gw h.part)}) (hw1.f.part (by rw[hf1];omega))):=h
def K8(h:G:=by exact Dz hw ht (hi.nv (by omega)) hR.av):=h
section
variable{c:Wc}{w:Wk}{h:Hd}{y:Sy}
def O1(hf:sn c.d w.f)(ht:sn c.d w.th)(b:Int):sn c.d (gj b w).th∧(gj b w).f=w.f:=by unfold gj;split;exact⟨ht,rfl⟩;exact⟨hf,rfl⟩
def JG(hc:kf c)(hw:ic c w)(ht:sn c.d w.th){k:Nat}{z:Nat}(he:kh c.d.vars c.d.aK.length k c.s.x z)(hn:0<=c.s.m∧c.s.m<c.d.aK.length):Kp c (jg c w)∧((jg c w).2=false->ic c (jg c w).1):=by have h1:=(Di hc hw he hn).2;exact⟨⟨λh=> .inr (h1 h).f,by rw[Yl];exact ht⟩,h1⟩
def P6{l:List Int}(h:∀n∈l,0<=n∧n<=255){n:Int}(hn:n.toNat<l.length):0<=dR l n∧dR l n<=255:=by
 have e:dR l n=l[n.toNat]:=by unfold dR;simp[hn]
 rw[e];exact h _ (cU hn)
def ajw(hc:kf c)(hw:ic c w)(ht:sn c.d w.th)(hi:CIn c h y)(hav:0<=c.s.n->aR ⟨y.Nx,y.Ny,y.rm,y.rr,y.nO⟩):Kp c (qj c h y w):=by
 have hwp:=hw.f.parts;have hp:=hi.part;have hld:=hi.ld;have d3:=Al (m:=h.part) E;have hw1:=hw.find (c:=c) (k:=13) E (uc w.f.parts h.part.toNat);have hf1:=Dn c 13 (uc w.f.parts h.part.toNat) w;have ht1:sn c.d (bP c 13 (uc w.f.parts h.part.toNat) w).th:=AG
 have hw0:ic c (tK (gw h.part) (bP c 13 (uc w.f.parts h.part.toNat) w)):=Zv
 have ht0:sn c.d (tK (gw h.part) (bP c 13 (uc w.f.parts h.part.toNat) w)).th:=ht1;unfold qj;generalize tK (gw h.part) (bP c 13 (uc w.f.parts h.part.toNat) w)=w0 at hw0 ht0 ⊢;have hwA:ic c (fu c h c.s.args 0 w0).1:=Cw hc hi.pr hw0 hi.ae (by have:=hi.al;omega);have htA:sn c.d (fu c h c.s.args 0 w0).1.th:=by rw[Xe];exact ht0
 generalize fu c h c.s.args 0 w0=A at hwA htA ⊢;unfold Rs.and;split;exact .of hwA htA;show Kp c (Rs.and (fe c h c.s.cO 0 A.1) λw=>(Gq c y w,false));have hwP:ic c (fe c h c.s.cO 0 A.1).1:=FK hwA;have htP:sn c.d (fe c h c.s.cO 0 A.1).1.th:=by rw[Wo];exact htA
 generalize fe c h c.s.cO 0 A.1=B at hwP htP ⊢;unfold Rs.and;split;exact .of hwP htP;have h4:=hwP.find (c:=c) (k:=4) E (a_ y.aQ B.1.f.may==0);have h4t:sn c.d (bP c 4 (a_ y.aQ B.1.f.may==0) B.1).th:=by rw[tf];exact htP
 have h5:=GX (c:=c) (l:=y.fD) h4;have h5t:sn c.d (iD c y.fD (bP c 4 (a_ y.aQ B.1.f.may==0) B.1)).th:=by rw[Pu];exact h4t
 have e:Gq c y B.1=(if c.s.n>=0 then gW c ⟨y.Nx,y.Ny,y.rm,y.rr,y.nO⟩ (tK y.kV (gj y.jo (nJ c y.aQ (iD c y.fD (bP c 4 (a_ y.aQ B.1.f.may==0) B.1)))))else tK y.kV (gj y.jo (nJ c y.aQ (iD c y.fD (bP c 4 (a_ y.aQ B.1.f.may==0) B.1))))):=rfl;generalize iD c y.fD (bP c 4 (a_ y.aQ B.1.f.may==0) B.1)=u at h5 h5t e;have hu:=h5.1.f;have h6:=O1 (c:=c) (w:=nJ c y.aQ u) (.inr hu) h5t y.jo;have hup:=hu.parts;have hL:pT c.d (tK y.kV (gj y.jo (nJ c y.aQ u))).f:=by show pT c.d {(gj y.jo (nJ c y.aQ u)).f with parts:=iQ (gj y.jo (nJ c y.aQ u)).f.parts y.kV};rw[h6.2];have b:=sY (a:=u.f.parts) (b:=y.kV) (n:=16) E hup.1 E E E;exact hu.part (P:=iQ u.f.parts y.kV) E
 have hT:sn c.d (tK y.kV (gj y.jo (nJ c y.aQ u))).th:=h6.1;dsimp only;rw[e];split;rename_i hn;exact⟨λ_=> .inr (hL.set hn hi.nv (hav hn) zEx),hT⟩;exact⟨λ_=> .inr hL,hT⟩
def asc(hc:kf c)(hw:ic c w)(ht:sn c.d w.th)(hp:PIn c.p)(hi:Xi c h y)(hav:c.s.op=13->0<=c.s.n->aR ⟨y.Nx,y.Ny,y.rm,y.rr,y.nO⟩):Kp c (kF c h y w):=by
 unfold kF;by_cases ho:c.s.op=1;rw[ak ho];obtain⟨k,z,he⟩:=hi.ex E;have hn:=hi.nv E;exact⟨λ_=> .inr (hw.f.set hn.1 hn.2 (sQ hc hw he) c.s.x),ht⟩;rw[Z ho];clear ho;by_cases ho:c.s.op=2;rw[ak ho];obtain⟨k,z,he⟩:=hi.ex E;have hm:=hi.ma E;have h1:=JG hc hw ht he hm;unfold Rs.and;split;exact h1.1;rename_i h2;have hw2:=h1.2 nE;have hb:=P6 hw2.f.aa (n:=c.s.m) (by have:=hw2.f.arr;omega);exact Dz hw2 h1.1.t (hi.nv E) (QX hb.1 hb.2);rw[Z ho];clear ho;by_cases ho:c.s.op=3;rw[ak ho];obtain⟨k,z,he⟩:=hi.ex E;obtain⟨k2,z2,hy⟩:=hi.ey ho;have hm:=hi.ma E;have h1:=JG hc hw ht he hm;unfold Rs.and;split;exact h1.1;rename_i h2;have hw2:=h1.2 nE;have hb:=P6 hw2.f.aa (n:=c.s.m) (by have:=hw2.f.arr;omega);have hv:=sQ hc hw2 hy;have k0:=hv.k0;have k1:=hv.k1;have b:=or8 hb.1 hb.2 k0 k1;refine⟨λ_=> .inr ?_,h1.1.t⟩;have hh:=hw2.f;exact⟨hh.live,hh.v,hh.va,hh.ju,hh.refs,hh.ra,by show(List.set _ _ _).length=_;rw[rG];exact hh.arr,mem_set hh.aa _ b,hh.ei,hh.may,hh.parts,hh.sub⟩;rw[Z ho];clear ho;by_cases ho:c.s.op=4;rw[ak ho];have hn:=hi.mg E;have hR:m7 (cZ c.p.d.globals c.s.m):=Vq
 exact K8;rw[Z ho];clear ho;by_cases ho:c.s.op=19;rw[ak ho];have hn:=hi.mq E;have hR:m7 (pZ c.p.d.eJ c.s.m).r:=Vn
 exact K8;rw[Z ho];clear ho;by_cases ho:c.s.op=20;rw[ak ho];have hn:=hi.mc E;have hR:m7 (cZ c.p.d.fq c.s.m):=by have e:cZ c.p.d.fq c.s.m=c.p.d.fq[c.s.m.toNat]:=E';rw[e];exact hp.c _ (cU hn.2)
 exact K8;rw[Z ho];clear ho;by_cases ho:c.s.op=5∨c.s.op=18∨c.s.op=21;rw[ak ho];exact an4 hc hw ht hi hp ho;rw[Z ho];clear ho;by_cases ho:c.s.op=6∨c.s.op=7∨c.s.op=8∨c.s.op=9∨c.s.op=10;rw[ak ho];exact aie hc hw ht hi;rw[Z ho];clear ho;by_cases ho:c.s.op=16∨c.s.op=17;rw[ak ho];exact aii hw ht (hi.ml E);rw[Z ho];clear ho;by_cases ho:c.s.op=22;rw[ak ho];have hb:=Al (hi.mu ho);have hwp:=hw.f.parts;have b:=sY (a:=w.f.parts) (b:=gw c.s.m) (n:=16) E hwp.1 E E hb.2;exact⟨λ_=> .inr (hw.f.part E),ht⟩;rw[Z ho];clear ho;by_cases ho:c.s.op=23;rw[ak ho];obtain⟨k,z,he⟩:=hi.ec ho;have ht2:sn c.d (bP c 10 (da c.d c.s.c w.f false).dead w).th:=AG
 exact⟨λ_=>mZ hc.d.J9 he (.inr hw.f) true,ht2⟩;rw[Z ho];clear ho;by_cases ho:c.s.op=14;rw[ak ho];have h6:=O1 (c:=c) (w:=w) (.inr hw.f) ht (gw c.s.v);exact⟨λh=>absurd h O,h6.1⟩;rw[Z ho];clear ho;by_cases ho:c.s.op=13;rw[ak ho];exact ajw hc hw ht (hi.call ho) (hav ho);rw[Z ho];exact .of hw ht
def WR(hc:kf c)(hw:ic c w)(ht:sn c.d w.th)(hp:PIn c.p)(hi:Xi c h y)(hav:c.s.op=13->0<=c.s.n->aR ⟨y.Nx,y.Ny,y.rm,y.rr,y.nO⟩):sn c.d (Cd c h y w).f∧sn c.d (Cd c h y w).th:=by have h1:=asc hc hw ht hp hi hav;unfold Cd;split;exact⟨.inl rfl,h1.t⟩;rename_i h2;exact⟨h1.f nE,h1.t⟩
def Wb{f:Fa}(hc:kf c)(hf:sn c.d f)(hp:PIn c.p)(hi:Xi c h y)(hpn:c.d.params.length<=2)(hav:c.s.op=13->0<=c.s.n->aR ⟨y.Nx,y.Ny,y.rm,y.rr,y.nO⟩):C 108 [qe c.p,.agg [it c.level,fj 10 gU c.rules],bR c.d,encS c.s,aZ f,fj 11 eO c.eh] (Ai (nL c h y f)):=by
 have hl:f.dead=false->pT c.d f:=λhd=>aan
 exact abq hc hf hp hi hpn (λhd=>(WR hc (Nd (hl hd)) (.inl rfl) hp hi hav).1) (λhd=>(WR hc (Nd (hl hd)) (.inl rfl) hp hi hav).2)
end
def VC(h:G:=by have:=ha.lo;unfold MI;omega):=h
def Mc(h:G:=by unfold lC;omega):=h
def rM{b:Av}(h:aR b):iz b b.lo=true:=by have:=h.le;simp[iz];omega
def OU{b:Av}(h:aR b):iz b b.hi=true:=by have:=h.le;have:=h.div;simp[iz];omega
theorem Qs{a b:Av}{k:Int}:∀{n:Nat},km a b k n=none->∀i:Nat,i<n->iz b (a.lo+i*a.m)=false|0,_,i,hi=>absurd hi (Nat.not_lt_zero i)|n+1,h,i,hi=>by rw[km]at h;unfold qP at h;split at h;cases h;rename_i hw;by_cases e:i=n;subst e;simpa using hw;exact Qs h i E
def yJ{a b:Av}{k:Int}(ha:aR a)(h:Oh a b k=none){t:Int}(ht:iz a t=true):iz b t=false:=by
 simp only[iz,aX,wu,beq_iff_eq]at ht;obtain⟨h1,h2,h3⟩:=ht;have hm:=ha.m;have hd:t - a.lo=a.m*(t - a.lo).tdiv a.m:=by have:=Fx (t - a.lo) a.m;omega
 have hq:0<=(t - a.lo).tdiv a.m:=Int.tdiv_nonneg E E;have hle:(t - a.lo).tdiv a.m<=(a.hi - a.lo).tdiv a.m:=by rw[gh E,gh E];exact Int.ediv_le_ediv E E
 have hc:iJ a=(a.hi - a.lo).tdiv a.m+1:=rfl;have r:=Qs h ((t - a.lo).tdiv a.m).toNat E;rw[Bm hq,Int.mul_comm,<-hd,show a.lo+(t - a.lo)=t by omega]at r;exact r
def J2{a:Av}(h:aB a=0)(ha:aR a):a.lo=a.hi∧iJ a<=64:=by have e:=(gM ha).2.2.1 h;refine⟨e,?_⟩;unfold iJ;rw[e,Int.sub_self,Int.zero_tdiv];omega
def Jw{a b:Av}(ha:aR a)(hb:aR b)(h:aB a=0∨aB b=0){t:Int}(h1:iz a t=true)(h2:iz b t=true):jf a b≠none:=by
 unfold jf;intro e;split at e;rw[yJ ha e h1]at h2;cases h2;rename_i hc;have hc2:iJ b<=64:=by rcases h with h|h;exact absurd (J2 h ha).2 hc;exact(J2 h hb).2
 rw[ak hc2]at e;rw[yJ hb e h2]at h1;cases h1
def QR{a:Av}(ha:aR a){lo:Int}(h:lo<=a.hi):lC a lo<=a.hi∧a.lo<=lC a lo∧lo<=lC a lo∧(lC a lo - a.lo).tmod a.m=0:=by
 have hm:=ha.m;have hle:=ha.le;have hp:0<a.m:=E
 have hx:=qi a.lo lo;have hxh:mx a.lo lo<=a.hi:=lL
 have hF:=oP (a.lo - mx a.lo lo) hp;have hd:a.m∣lC a lo - a.lo:=by unfold lC;rw[ug _ hp];have:=Bp (a.lo - mx a.lo lo) a.m;exact⟨-((a.lo - mx a.lo lo) / a.m),by rw[Int.mul_neg];omega⟩
 have hdh:a.m∣a.hi - a.lo:=Int.dvd_of_tmod_eq_zero ha.div;have hle2:lC a lo<=a.hi:=by
  obtain⟨x,hx1⟩:=hd;obtain⟨y,hy1⟩:=hdh;have hlt:lC a lo<mx a.lo lo+a.m:=Mc
  by_cases hxy:x<=y;have:=MH hxy (by omega:0<=a.m);omega;exfalso;have:=MH (show y+1<=x by omega) (by omega:0<=a.m);rw[Int.mul_add,Int.mul_one]at this;omega
 exact⟨hle2,Mc,Mc,Int.tmod_eq_zero_of_dvd hd⟩
def ag3{a:Av}(ha:aR a){lo:Int}(h:lo<=a.lo):lC a lo=a.lo:=by
 have e:mx a.lo lo=a.lo:=lL
 unfold lC;rw[e,Int.sub_self,ug _ L6,Int.zero_emod];omega
def Xa{a:Av}(ha:aR a){lo hi:Int}(hl:lo<=a.hi){x:Av}(h:ko a lo hi=some x):iz a x.lo=true:=by unfold ko at h;split at h;cases h;rename_i hn;cases h;have c:=QR ha hl;have hm:=ha.m;have hF:=oP (a.lo - mx a.lo lo) (show 0<a.m by omega);have e:(mh (lC a lo) (mn a.hi hi) a.m a.mask).lo=lC a lo:=(ka (lo:=lC a lo) (hi:=mn a.hi hi) (m:=a.m) (k:=a.mask) (by have:=ha.lo;omega) E (by have:=ha.hi;have:=zb a.hi hi;omega) ha.k0 ha.k1 E (by have:=ha.many;have:=ha.one;have:=ha.lo;have:=ha.hi;have:=ha.le;omega)).2.1;simp only[iz,aX,wu,beq_iff_eq];rw[e];exact⟨c.2.1,c.1,c.2.2.2⟩
def Oz{a:Av}(ha:aR a){lo:Int}(h:ko a lo MA=none):a.hi<lo:=by
 by_cases hl:lo<=a.hi;exfalso;unfold ko at h;have c:=QR ha hl;have e:mn a.hi MA=a.hi:=by unfold mn;rw[Z (by have:=ha.hi;unfold MA;omega)]
 rw[Z (by rw[e];omega)]at h;cases h;omega
def OA{a:Av}(ha:aR a){hi:Int}(h:ko a MI hi=none):hi<a.lo:=by unfold ko at h;split at h;rename_i hg;rw[ag3 ha VC]at hg;have:=ha.le;unfold mn at hg;split at hg<;>omega;cases h
def JA{a b:Av}(ha:aR a)(hb:aR b){d:Int}(h:rY a b d=none):b.hi<a.lo+d:=by unfold rY at h;split at h;cases h;rename_i hn;cases h1:ko a MI (b.hi - d)with|none=>have:=OA ha h1;omega|some x=>cases h2:ko b (a.lo+d) MA with|none=>have:=Oz hb h2;omega|some y=>exact absurd h2 (hn _ _ h1)
def Bv{a b:Av}(ha:aR a)(h:gY a b=none):aB b=0∧(a.lo=b.lo∨a.hi=b.lo):=by
 unfold gY at h;split at h;cases h
 ·rename_i hs;refine⟨qo,?_⟩;repeat' split at h
  all_goals first|cases h|exact .inl gy|exact .inr gy
def R7{a b:Av}(ha:aR a){x:Av}(h:gY a b=some x):iz a x.lo=true∧(x=a∨aB b=0):=by
 unfold gY at h;split at h;cases h;exact⟨rM ha,.inl rfl⟩;rename_i hs;have hs:aB b=0:=qo
 have hle:=ha.le;split at h;refine⟨?_,.inr hs⟩;by_cases hl:a.lo+1<=a.hi;exact Xa ha hl h;exfalso;unfold ko at h;split at h;cases h;rename_i hn;have:=qi a.lo (a.lo+1);have hF:=oP (a.lo - mx a.lo (a.lo+1)) (show 0<a.m by have:=ha.m;omega);have:=zb a.hi MA;unfold lC at hn;omega;split at h;exact⟨Xa ha VC h,.inr hs⟩;cases h;exact⟨rM ha,.inl rfl⟩
def DN{op:Int}{a b:Av}(ha:aR a)(hb:aR b)(h1:mK op true a b=none)(h2:mK op false a b=none):False:=by
 unfold mK at h1 h2;by_cases h4:op=4;rw[ak h4,ak rfl]at h1;rw[ak h4,Z O]at h2;unfold equalA at h1;have hm:jf a b=none:=by split at h1;cases h1;exact gy
 split at h2;rename_i hw;obtain⟨hs,hl⟩:=Bv ha hw;have hw:=rM hb;refine Jw ha hb (.inr hs) (t:=b.lo) ?_ hw hm;rcases hl with e|e<;>rw[<-e];exact rM ha;exact OU ha;rename_i x hx;obtain⟨l1,l2⟩:=R7 ha hx;split at h2;rename_i hw;obtain⟨hs,hl⟩:=Bv hb hw;have hxb:iz b x.lo=true:=by rcases hl with e|e<;>rw[<-e];exact rM hb;exact OU hb
 exact Jw ha hb (l2.elim (λe=> .inl (e▸hs)) .inr) l1 hxb hm;cases h2;rw[Z h4]at h1 h2;by_cases h3:op=2∨op=3;rw[ak h3,ak rfl]at h1;rw[ak h3,Z O]at h2;have k1:=JA ha hb h1;have k2:rY b a (1 - (3 - op))=none:=by split at h2;cases h2;exact gy
 have k2:=JA hb ha k2;have:=ha.le;have:=hb.le;omega;rw[Z h3]at h1;cases h1
def SO{a b:Fa}(h:(uk a b).dead=true):a.dead=true∧b.dead=true:=by unfold uk at h;split at h;rename_i k;exact⟨k,h⟩;split at h;rename_i k;exact⟨h,k⟩;cases h
def J3{d:Df}{f:Fa}(hl:f.dead=false){op:Int}{b:Bool}{x y:Ex}(h:(QN d f op b x y).dead=true):mK op b (iU d f x) (iU d f y)=none:=by unfold QN at h;split at h;exact gy;dsimp only at h;rw[hl]at h;cases h
theorem QW{d:Df}(hd:Iq d){vars na:Int}{k:Nat}{c:Co}{z:Nat}(hc:En vars na k c z):∀{f:Fa} (_:pT d f) (b:Bool),(da d c f b).dead=true->(da d c f (!b)).dead=true->False:=by
 induction hc with
 |test ho hx hy=>intro f hf b h1 h2;rw[vO d hf.live ho.1]at h1 h2;have h1:=J3 hf.live h1;have h2:=J3 hf.live h2;cases b with|true=>exact DN (jJ hd hf.va hx) (jJ hd hf.va hy) h1 h2|false=>exact DN (jJ hd hf.va hx) (jJ hd hf.va hy) h2 h1
 |not _ ih=>intro f hf b h1 h2;rw[xz d hf.live]at h1 h2;exact ih hf _ h1 h2
 | @and k op x y _ _ ho hx hy iha ihb=>
   have key:∀{f:Fa} (_:pT d f) (b:Bool),decide (op=6)=b->(da d (.mk op [] [x,y]) f b).dead=true->(da d (.mk op [] [x,y]) f (!b)).dead=true->False:=by
    intro f hf b hb h1 h2
    rw[tC d hf.live ho.1,ak hb]at h1
    rw[tC d hf.live ho.1,Z (by rw[hb];cases b<;>simp)]at h2
    rw[Bool.not_not]at h2
    obtain⟨h3,h4⟩:=SO h2
    rcases mZ hd hx (.inr hf) b with e|e
    ·exact iha hf b (by rw[e];rfl) h3
    ·exact ihb e b h1 h4
   intro f hf b h1 h2
   by_cases hb:decide (op=6)=b
   ·exact key hf b hb h1 h2
   ·exact key hf (!b) (by cases b<;>simp_all) h2 (by rw[Bool.not_not];exact h1)
def aio{α:Type}{c:α->Int}{x:α}{l:List α}:qb c x l≠[]:=by unfold qb;split;rename_i h;intro e;rw[e]at h;simp[pO]at h;intro e;have:=aL List.length e;simp at this
def FZ{c:Wc}{k:Int}{w:Wk}{b:Bool}(hb:b=false):(bP c k b w).fd≠[]:=by subst hb;unfold bP;rw[Z O];exact aio
def ak0(lo hi m k:Int):(mh lo hi m k).lo=lo:=by unfold mh;simp only[apply_ite Av.lo,ite_self]
def anm{a b:Av}(ha:aR a)(hb:aR b)(hm:b.m=1)(h:sr a b=true):iz b a.lo=true∧b.lo<=a.lo:=by
 have e:fG a b=b:=by simpa[sr]using h
 unfold fG at e;have h1:=ha.le;have h2:=hb.le;have e1:=aL Av.lo e;rw[ak0]at e1;have hlo:b.lo<=a.lo:=by split at e1<;>omega
 have hhi:a.lo<=b.hi:=by
  rcases Int.lt_or_le b.hi a.lo with hg|hg;exfalso;rw[ak (show b.lo<a.lo by omega),Z (show ¬b.hi>a.hi by omega)]at e;have n0:((a.lo - b.lo).natAbs:Int)≠0:=E
  have g1:=og (a:=aB a) (l:=[aB b,((a.lo - b.lo).natAbs:Nat)]) (x:=((a.lo - b.lo).natAbs:Nat)) O n0;have g2:dH (aB a) [aB b,((a.lo - b.lo).natAbs:Nat)]≠0:=λh=>n0 ((lU h).2 _ O);generalize dH (aB a) [aB b,((a.lo - b.lo).natAbs:Nat)]=g at*;have t2:=fi (a.hi - b.lo) (show(0:Int)<g by omega);unfold mh at e;rw[ak (show(0:Int)<g by omega)]at e;split at e;have:=aL Av.hi e;simp only at this;omega;have e2:=aL Av.hi e;have e3:=aL Av.m e;simp only at e2 e3;rw[e3,hm,Ba]at e2;omega;exact hg
 exact⟨by simp[iz,hm];omega,hlo⟩
theorem adq{a b:Av}(ha:aR a)(hb:aR b)(hm:b.m=1)(h:sr a b=true):(jf a b).isSome=true:=by
 obtain⟨h1,h2⟩:=anm ha hb hm h;cases e:jf a b with
 |some x=>rfl
 |none=>
  exfalso;unfold jf at e;split at e;rw[yJ ha e (rM ha)]at h1;cases h1;split at e;have:=yJ hb e h1;rw[rM ha]at this;cases this;have hG:(im a b:Int)=1:=by unfold im dH;rw[hm];simp
  rw[hG,Ba,Z O]at e;split at e;rename_i hF;have hN:h_ a b=1:=by unfold h_;rw[hG,hm];rfl
  have hK:zc a b=0:=(by unfold zc;rw[hN];exact PK _);have hx:mx a.lo b.lo=a.lo:=lL
  have hE:wW a b=a.lo:=(by unfold wW;rw[hN,hK,hx,Int.mul_zero,Int.add_zero,Int.sub_self,Int.mul_one,ug _ L6,Int.zero_emod];omega);have hl:=ha.le;have hbh:a.lo<=b.hi:=by simp[iz]at h1;omega
  rw[hE]at hF;unfold mn at hF;split at hF<;>omega;cases e
def ar3(r:pG):(jh r).m=1:=by unfold jh mh;rw[ak aw];split<;>rfl
def acb{c:Wc}{w:Wk}(hw:ic c w)(n:Int):aR (aP w n).a:=by
 unfold aP;by_cases hn:n.toNat<w.f.refs.length;have e:w.f.refs.getD n.toNat ⟨0,zR⟩=w.f.refs[n.toNat]:=uH
 rw[e];exact(hw.f.ra _ (cU hn)).a;have e:w.f.refs.getD n.toNat ⟨0,zR⟩=⟨0,zR⟩:=uH
 rw[e];exact Bt
structure Lv(w:Wk):Prop where
 l:w.f.dead=false
 t:w.DG=0
 d:w.th.dead=true
structure Gd(r:Rs):Prop where
 s:r.2=true->r.1.fd≠[]
 l:r.2=false->r.1.f.dead=false
 t:r.1.DG=0
 d:r.1.th.dead=true
section
variable{c:Wc}{w:Wk}{h:Hd}{y:Sy}
def Lv.gd(k:Lv w):Gd (w,false):=⟨λh=>ie,λ_=>k.l,k.t,k.d⟩
def Lv.to(k:Lv w){w' :Wk}(h1:w'.f.dead=w.f.dead)(h2:w'.DG=w.DG)(h3:w'.th=w.th):Lv w' :=⟨h1.trans k.l,h2.trans k.t,by rw[h3];exact k.d⟩
def Lv.find(k:Lv w)(n:Int)(b:Bool):Lv (bP c n b w):=by obtain⟨D,hD⟩:=tj c n b w;rw[hD];exact k.to rfl rfl rfl
theorem Gd.and{r:Rs}{k:Wk->Rs}(g:Gd r)(hk:Lv r.1->Gd (k r.1)):Gd (r.and k):=by unfold Rs.and;split;exact g;rename_i h2;exact hk ⟨g.l nE,g.t,g.d⟩
def C5(f:Fa)(v:Int)(a:Av)(e:Ex):(IC f v a e).dead=f.dead:=by unfold IC;split<;>rfl
def Lv.set(k:Lv w)(e:Ex):Lv (kZ c e w):=k.to rfl rfl rfl
def Lv.H5(k:Lv w)(n:Int)(a:Av):Lv (vN n a w):=k.to rfl rfl rfl
def Lv.assign(k:Lv w)(a:Av):Lv (gW c a w):=k.to (C5 _ _ _ _) rfl rfl
def Lv.record(k:Lv w)(n s:Int)(a:Av):Lv (eg n s a w):=k.to rfl rfl rfl
def Lv.use(k:Lv w)(b:Int):Lv (tK b w):=k.to rfl rfl rfl
theorem Lv.p_(k:Lv w){n:Int}{b p:Bool}(hp:p=false->b=false):Gd (p_ (bP c n b w) p):=
 have q:=k.find (c:=c) n b
 ⟨λh=>FZ (hp (by simpa[Abs.p_]using h)),λ_=>q.l,q.t,q.d⟩
def Gd.narrow(k:Lv w)(e:Ex)(r:pG)(n:Int):Gd (ij c e r n w):=by unfold ij;split;exact(k.set e).gd;have q:=(k.set (c:=c) e).find (c:=c) n false;split;show Gd (if e.op=2 then _ else _,false);split;exact(q.H5 _ _).gd;exact q.gd;exact⟨λ_=>FZ rfl,λh=>ie,q.t,q.d⟩
def Gd.inside(k:Lv w):Gd (jg c w):=by unfold jg;split;exact(k.set _).gd;have q:=(k.set (c:=c) c.s.x).find (c:=c) 1 false;exact⟨λ_=>FZ (c:=c) (k:=1) (w:=kZ c c.s.x w) rfl,λh=>h,q.t,q.d⟩
def Gd.BU(k:Lv w)(n:Int):Gd (iT c n w):=by
 refine k.p_ λh=> ?_;have e:(aP w n).s=1:=eQ
 rw[e];rfl
def Gd.fill(k:Lv w)(n:Int)(a:Av):Gd (sb c n a w):=by
 refine(k.p_ λh=> ?_).and λk=>(k.record _ _ _).gd;have e:(aP w n).s=2:=eQ
 rw[e];rfl
def Gd.move(k:Lv w):Gd (gF c w):=by unfold gF;split;exact Gd.fill k _ _;split;exact(Gd.BU k _).and λk=>(k.record _ _ _).gd;split;refine(Gd.BU k _).and λk=> ?_;split;exact(k.record _ _ _).gd;exact(Gd.fill k _ _).and λk=>(k.record _ _ _).gd;split;exact(Gd.BU k _).and λk=>((k.set _).record _ _ _).gd;split;exact(Gd.BU k _).and λk=>((k.record _ _ _).assign _).gd;exact k.gd
def Gd.out(k:Lv w):Gd (rU c w):=by unfold rU;split;exact Gd.narrow k _ _ _;split;exact Gd.narrow k _ _ _;split;have q:=(k.set (c:=c) c.s.x).find (c:=c) 7 (kq (iP c c.s.x w).mask (dR c.p.d.sinks c.s.m)==0);show Gd (if c.s.x.op=2 then _ else _,false);split;exact(q.H5 _ _).gd;exact q.gd;exact k.gd
def V'{a m b:Int}(hs:kq a m=0)(h:(a_ m b==0)=true):(a_ a b==0)=true:=by
 have h1:=DB hs;have h2:a_ m b=0:=eQ
 unfold a_ at h2;have h3:BitVec.ofInt 64 m&&&BitVec.ofInt 64 b=0#64:=by
  apply M7;have:(BitVec.ofInt 64 m&&&BitVec.ofInt 64 b).toNat=0:=E
  exact nw
 unfold a_;generalize BitVec.ofInt 64 a=x at*;generalize BitVec.ofInt 64 m=y at*;generalize BitVec.ofInt 64 b=z at*;have:x&&&z=0#64:=by apply M8;intro i hi;have q1:=aL (λv=>v.getLsbD i) h1;have q2:=aL (λv=>v.getLsbD i) h3;simp[hi]at q1 q2 ⊢;cases hx:x.getLsbD i<;>cases hy:y.getLsbD i<;>cases hz:z.getLsbD i<;>simp_all
 exact nw
def Gd.lock(k:Lv w)(hs:kq w.f.ei w.f.may=0):Gd (ta c w):=by
 unfold ta;split;refine(k.p_ λh=> ?_).and λk=>Lv.gd (k.to rfl rfl rfl);have h:(a_ w.f.may (gw c.s.m)==0)=true:=eQ
 rw[V' hs h];rfl;refine(k.p_ λh=> ?_).and λk=>Lv.gd (k.to rfl rfl rfl);cases hb:(a_ w.f.may (gw c.s.m)==0)with|false=>rfl|true=>rw[V' hs hb]at h;cases h
theorem Gd.args:∀(l:List Ex) (i:Nat) (w:Wk),Lv w->Gd (fu c h l i w)|[],_,_,k=>k.gd|e::l,i,w,k=>(Gd.narrow k _ _ _).and λk=>Gd.args l (i+1) _ k
def Gd.ptr(k:Lv w)(hw:ic c w)(hr:∀r∈h.given,m7 r)(n:Int){i:Nat}(hi:i<h.given.length):Gd (tQ c h n i w):=by
 have ha:=acb hw n;unfold tQ;refine(Gd.BU k _).and λk=>Gd.and (k.p_ λe=> ?_) λk=>(k.record _ _ _).gd;have hR:m7 (cZ h.given i):=by
  have q:cZ h.given i=h.given[i]:=by unfold cZ;simp[hi]
  rw[q];exact hr _ (cU hi)
 cases hl:sr (aP w n).a (jh (cZ h.given i))with|false=>rfl|true=>rw[adq ha hR.av (ar3 _) hl]at e;cases e
end
def aaw(h:G:=by show((kF c h y (wk0 f)).1.DG==0)=(oq _ _ _).dead;rw[oZ];exact k.b):=h
def La(h:G:=by rw[ak ho];exact(k.assign _).gd.ce (by omega)):=h
section
variable{c:Wc}{w:Wk}{h:Hd}{y:Sy}
theorem Wp(hr:∀r∈h.given,m7 r):∀(l:List Int) (i:Nat) (w:Wk),Lv w->ic c w->i+l.length<=h.given.length->Gd (fe c h l i w)
 |[],_,_,k,_,_=>k.gd
 |n::l,i,w,k,hw,hl=>by
  rw[fw]at hl;have hp:ic c (tQ c h n i w).1:=by have:=FK (c:=c) (h:=h) (l:=[n]) (i:=i) hw;unfold fe Rs.and at this;split at this;exact dj;exact dj
  exact(Gd.ptr k hw hr n E).and λk=>Wp hr l (i+1) _ k hp E
structure Ce(c:Wc)(r:Rs):Prop where
 a:(r.2=true∨r.1.f.dead=true)->r.1.th.dead=true->r.1.fd≠[]
 b:(r.1.DG==0)=r.1.th.dead
 t:c.s.op=14->r.2=true∧r.1.DG=gw c.s.v∧r.1.fd=[]
 o:c.s.op≠14->((r.2=true∨r.1.f.dead=true)->r.1.fd≠[])∧(c.s.op=13∨r.1.DG=0)
def Gd.ce{r:Rs}(g:Gd r)(ho:c.s.op≠14):Ce c r:=by
 have q:(r.2=true∨r.1.f.dead=true)->r.1.fd≠[]:=λh=>by cases e:r.2 with|true=>exact g.s e|false=>rcases h with h|h;rw[e]at h;cases h;rw[g.l e]at h;cases h
 exact⟨λh _=>q h,by rw[g.t,g.d];rfl,λh=>absurd h ho,λ_=>⟨q,.inr g.t⟩⟩
theorem Wq(c:Wc):∀(l:List Pa) (w:Wk),(iD c l w).f=w.f∧(iD c l w).DG=w.DG∧(iD c l w).th=w.th|[],_=>⟨rfl,rfl,rfl⟩|x::l,w=>Wq c l (vT c x.a x.b w)
def ajx(hc:kf c)(hw:ic c w)(hi:CIn c h y)(ho:c.s.op=13)(k:Lv w):Ce c (qj c h y w):=by
 have hwp:=hw.f.parts;have hp:=hi.part;have d3:=Al (m:=h.part) E;have hw1:=hw.find (c:=c) (k:=13) E (uc w.f.parts h.part.toNat);have hf1:=Dn c 13 (uc w.f.parts h.part.toNat) w;have hw0:ic c (tK (gw h.part) (bP c 13 (uc w.f.parts h.part.toNat) w)):=Zv
 have k0:Lv (tK (gw h.part) (bP c 13 (uc w.f.parts h.part.toNat) w)):=(k.find _ _).use _;unfold qj;generalize tK (gw h.part) (bP c 13 (uc w.f.parts h.part.toNat) w)=w0 at hw0 k0 ⊢;have hwA:ic c (fu c h c.s.args 0 w0).1:=Cw hc hi.pr hw0 hi.ae (by have:=hi.al;omega);have gA:Gd (fu c h c.s.args 0 w0):=Gd.args c.s.args 0 w0 k0;generalize fu c h c.s.args 0 w0=A at hwA gA ⊢;unfold Rs.and;split;exact gA.ce E;rename_i a2;have kA:Lv A.1:=⟨gA.l (by simpa using a2),gA.t,gA.d⟩;have gP:Gd (fe c h c.s.cO 0 A.1):=Wp hi.gr c.s.cO 0 A.1 kA hwA (by have:=hi.pl;omega);show Ce c (Rs.and (fe c h c.s.cO 0 A.1) λw=>(Gq c y w,false));generalize fe c h c.s.cO 0 A.1=B at gP ⊢;unfold Rs.and;split;exact gP.ce E;rename_i b2;have kB:Lv B.1:=⟨gP.l (by simpa using b2),gP.t,gP.d⟩;have k4:=kB.find (c:=c) 4 (a_ y.aQ B.1.f.may==0);have e:Gq c y B.1=(if c.s.n>=0 then gW c ⟨y.Nx,y.Ny,y.rm,y.rr,y.nO⟩ (tK y.kV (gj y.jo (nJ c y.aQ (iD c y.fD (bP c 4 (a_ y.aQ B.1.f.may==0) B.1)))))else tK y.kV (gj y.jo (nJ c y.aQ (iD c y.fD (bP c 4 (a_ y.aQ B.1.f.may==0) B.1))))):=rfl;obtain⟨p1,p2,p3⟩:=Wq c y.fD (bP c 4 (a_ y.aQ B.1.f.may==0) B.1);have k5:Lv (iD c y.fD (bP c 4 (a_ y.aQ B.1.f.may==0) B.1)):=k4.to (by rw[p1]) p2 p3;generalize iD c y.fD (bP c 4 (a_ y.aQ B.1.f.may==0) B.1)=u at k5 e;have k6:Lv (nJ c y.aQ u):=k5.to rfl rfl rfl;generalize nJ c y.aQ u=v at k6 e;have k7:(tK y.kV (gj y.jo v)).f.dead=false∧((tK y.kV (gj y.jo v)).DG==0)=(tK y.kV (gj y.jo v)).th.dead:=by show(gj y.jo v).f.dead=false∧((gj y.jo v).DG==0)=(gj y.jo v).th.dead;unfold gj;split;exact⟨k6.l,by rw[k6.t,k6.d];rfl⟩;rename_i hne;exact⟨k6.l,by show(y.jo==0)=v.f.dead;rw[k6.l];simpa using hne⟩
 have k8:(Gq c y B.1).f.dead=false∧((Gq c y B.1).DG==0)=(Gq c y B.1).th.dead:=(by rw[e];split;exact⟨(C5 _ _ _ _).trans k7.1,k7.2⟩;exact k7);have bad:(false=true∨(Gq c y B.1).f.dead=true)->False:=λh=>by rcases h with h|h;cases h;exact absurd (h.symm.trans k8.1) O
 exact⟨λh=>(bad h).elim,k8.2,λh=>E,λ_=>⟨λh=>(bad h).elim,.inl ho⟩⟩
def agd{m:Int}(h:0<=m∧m<32):gw m≠0:=by
 obtain⟨n,rfl⟩:=tJ h.1;have this:∀n:Nat,n<32->gw (n:Int)≠0:=aw
 exact this n E
def asd(hc:kf c)(hw:ic c w)(hi:Xi c h y)(hv:c.s.op=14->0<=c.s.v∧c.s.v<32)(k:Lv w)(h0:w.fd=[]):Ce c (kF c h y w):=by
 unfold kF;by_cases ho:c.s.op=1;rw[ak ho];exact Gd.ce (Lv.gd (k.to (C5 _ _ _ _) rfl rfl)) E;rw[Z ho];clear ho;by_cases ho:c.s.op=2;rw[ak ho];exact((Gd.inside k).and λk=>(k.assign _).gd).ce E;rw[Z ho];clear ho;by_cases ho:c.s.op=3;rw[ak ho];exact((Gd.inside k).and λk=>⟨λh=>ie,λ_=>k.l,k.t,k.d⟩).ce E;rw[Z ho];clear ho;by_cases ho:c.s.op=4;exact La;rw[Z ho];clear ho;by_cases ho:c.s.op=19;exact La;rw[Z ho];clear ho;by_cases ho:c.s.op=20;exact La;rw[Z ho];clear ho;by_cases ho:c.s.op=5∨c.s.op=18∨c.s.op=21;rw[ak ho];exact(Gd.out k).ce E;rw[Z ho];clear ho;by_cases ho:c.s.op=6∨c.s.op=7∨c.s.op=8∨c.s.op=9∨c.s.op=10;rw[ak ho];exact(Gd.move k).ce E;rw[Z ho];clear ho;by_cases ho:c.s.op=16∨c.s.op=17;rw[ak ho];exact(Gd.lock k hw.f.sub).ce E;rw[Z ho];clear ho;by_cases ho:c.s.op=22;rw[ak ho];exact(k.use _).gd.ce E;rw[Z ho];clear ho;by_cases ho:c.s.op=23;rw[ak ho];obtain⟨n,z,he⟩:=hi.ec ho;have q:=k.find (c:=c) 10 (da c.d c.s.c w.f false).dead;have f1:(false=true∨(da c.d c.s.c w.f true).dead=true)->(bP c 10 (da c.d c.s.c w.f false).dead w).fd≠[]:=λh=>by rcases h with h|h;cases h;refine FZ ?_;cases e:(da c.d c.s.c w.f false).dead with|false=>rfl|true=>exact(QW hc.d.J9 he hw.f true h e).elim
 exact⟨λh _=>f1 h,by show((bP c 10 _ w).DG==0)=(bP c 10 _ w).th.dead;rw[q.t,q.d];rfl,λh=>E,λ_=>⟨f1,.inr q.t⟩⟩;rw[Z ho];clear ho;by_cases ho:c.s.op=14;rw[ak ho];have hb:gw c.s.v≠0:=agd (hv ho);have e:gj (gw c.s.v) w={w with DG:=gw c.s.v,th:=w.f}:=Z hb;rw[e];exact⟨λ_ h=>absurd (h.symm.trans k.l) O,by show(gw c.s.v==0)=w.f.dead;rw[k.l];exact qu,λ_=>⟨rfl,rfl,h0⟩,λh=>absurd ho h⟩;rw[Z ho];by_cases ho2:c.s.op=13;rw[ak ho2];exact ajx hc hw (hi.call ho2) ho2 k;rw[Z ho2];exact k.gd.ce ho
def oZ(d:Df)(l:Int)(f:Fa):(oq d l f).dead=f.dead:=by unfold oq;split;rfl;split<;>rfl
structure Cl(c:Wc)(z:Wk):Prop where
 a:z.nx.dead=true->z.th.dead=true->z.fd≠[]
 b:(z.DG==0)=z.th.dead
 t:c.s.op=14->z.nx.dead=true∧z.DG=gw c.s.v∧z.fd=[]
 o:c.s.op≠14->(z.nx.dead=true->z.fd≠[])∧(c.s.op=13∨z.DG=0)
def XD{f:Fa}(hc:kf c)(hf:pT c.d f)(hi:Xi c h y)(hv:c.s.op=14->0<=c.s.v∧c.s.v<32):Cl c (nL c h y f):=by have k:=asd (h:=h) (y:=y) hc (Nd hf) hi hv ⟨hf.live,rfl,rfl⟩ rfl;unfold nL;rw[Z (by rw[hf.live];simp)];unfold Cd;split;rename_i h2;exact⟨λ_ h=>k.a (.inl h2) ((oZ _ _ _).symm.trans h),aaw,λho=>⟨oZ _ _ _,(k.t ho).2⟩,λho=>⟨λ_=>(k.o ho).1 (.inl h2),(k.o ho).2⟩⟩;exact⟨λh1 h=>k.a (.inr ((oZ _ _ _).symm.trans h1)) ((oZ _ _ _).symm.trans h),aaw,λho=>(by rename_i h2;exact absurd (k.t ho).1 h2),λho=>⟨λh1=>(k.o ho).1 (.inr ((oZ _ _ _).symm.trans h1)),(k.o ho).2⟩⟩
end
end Abs
namespace Abs
open Go Go.Proofs Tryz
variable{G:Prop}
def zm(h:G:=by rw[oG (by omega)]):=h
def Zc(h:G:=by refine run ?_;have qV:=aL (λx:List au=>some (au.ref 15 x.length)) hstep;have Iu:=aL (λx=>some (Row.mk 1 true x)) hstep;exact y_ hp1):=h
def UC(h:G:=by have Iu:=aL (λx=>some (Row.mk 1 true x)) hn2;exact y_ hv1):=h
def arw:Nat->List Ad:=λn=>bif Nat.beq n 12 then[.lay 7]else[]
def aia(vars params:Nat)(hv:vars<=2^30)(hp:params<=2^30):C 118 [it vars,it params] (dI (fR vars params)):=by
 have hlen:(fR vars params).length=vars:=by simp[fR]
 have hgl:∀v,v<=vars->(((fR vars params).take v).map ints).length=v:=λv h=>by simp[hlen];omega
 refine d_ hm func118 (λ_=>false) [] arw aA ?_;refine run ?_;refine bF.mk ⟨[],aY.np vars (λ_=>True) (λv=>⟨[(6,it v),(5,.ref 9 (((fR vars params).take v).map ints).length)],[],[(9,⟨1,true,((fR vars params).take v).map ints⟩)]⟩) trivial ?_⟩;intro v hv0 hJ;have hlv:=hgl v hv0;by_cases hv1:v<vars;have b1:decide ((v:Int)<((vars:Nat):Int))=true:=by simp;exact hv1
 have hrl:∀p,p<=params->(((tL params v).take p).map it).length=p:=λp h=>by simp[tL];omega
 have hnext:((fR vars params).take v).map ints++[ints (tL params v)]=((fR vars params).take (v+1)).map ints:=by have hg:v<(fR vars params).length:=E;rw[jY hg,eu,PD hg];rfl
 refine run ?_;refine bF.mk ⟨[],aY.np params (λ_=>True) (λp=>⟨[(8,it p),(7,.ref 15 (((tL params v).take p).map it).length)],[],[(15,⟨1,true,((tL params v).take p).map it⟩)]⟩) trivial ?_⟩;intro p hp0 hJ2;have hlp:=hrl p hp0;by_cases hp1:p<params;have b2:decide ((p:Int)<((params:Nat):Int))=true:=LK;have hstep:((tL params v).take p).map it++[it (if v=p then 0 else NG)]=((tL params v).take (p+1)).map it:=by have hg:p<(tL params v).length:=(by simpa[tL]using hp1);rw[jY hg,eu];simp[tL]
 by_cases hvp:v=p;have b3:((v:Int)==(p:Int))=true:=az;rw[ak hvp]at hstep;exact Zc;have b3:((v:Int)==(p:Int))=false:=az;rw[Z hvp]at hstep;exact Zc;have b2:decide ((p:Int)<((params:Nat):Int))=false:=az;have hpp:p=params:=E
 have hrow:((tL params v).take p).map it=(tL params v).map it:=(by rw[oG (by simp[tL];omega)]);have hn2:((fR vars params).take v).map ints++[au.sl 1 (((tL params v).take p).map it) false]=((fR vars params).take (v+1)).map ints:=by rw[hrow];exact hnext
 refine run ?_;have qV:=aL (λx:List au=>some (au.ref 9 x.length)) hn2;exact UC;have b1:decide ((v:Int)<((vars:Nat):Int))=false:=az
 have e:((fR vars params).take v).map ints=(fR vars params).map ints:=zm
 exact EF
end Abs
namespace Abs
open Go Go.Proofs
variable{G:Prop}
def M6:=@List.length_filter_le
def aai(h:G:=by rw[uX h];simp[List.takeWhile,e]):=h
def Qn{α:Type}{p:α->Bool}{l:List α}{k:Nat}(h:k<l.length):(l.take (k+1)).filter p=(l.take k).filter p++(if p l[k]then[l[k]]else[]):=by rw[List.take_add_one,List.filter_append];simp only[h,iW,Option.toList];by_cases e:p l[k]<;>simp[e]
def aix{α:Type}{p:α->Bool}{l:List α}{k:Nat}(h:k<l.length)(e:p l[k]=true):(l.take (k+1)).filter p=(l.take k).filter p++[l[k]]:=by rw[Qn h,ak e]
def ao9{α:Type}{p:α->Bool}{l:List α}{k:Nat}(h:k<l.length)(e:p l[k]=false):(l.take (k+1)).filter p=(l.take k).filter p:=by rw[Qn h,Z uK,jV]
def take_one{α:Type}{l:List α}{k:Nat}(h:k<l.length):l.take (k+1)=l.take k++[l[k]]:=(List.take_append_getElem h).symm
def af1{α:Type}{p:α->Bool}{l:List α}(k:Nat):((l.take k).filter p).length<=l.length:=by have:=M6 p (l.take k);rw[l7]at this;omega
def am8{α:Type}{p:α->Bool}{l:List α}{k:Nat}(h:k<l.length)(e:p l[k]=true):(l.drop k).takeWhile p=l[k]::(l.drop (k+1)).takeWhile p:=aai
def apv{α:Type}{p:α->Bool}{l:List α}{k:Nat}(h:k<l.length)(e:p l[k]=false):(l.drop k).takeWhile p=[]:=aai
theorem abg{α:Type}{p q:α->Bool}(h:∀x,p x=true->q x=false):∀l:List α,(l.takeWhile p).length+(l.filter q).length<=l.length|[]=>by simp|x::l=>by have ih:=abg h l;cases e:p x with|true=>simp[List.takeWhile,e,h x e];omega|false=>simp only[List.takeWhile,e,kI,eI];exact M6 _ _
mutual
def wE:Ex->List Int| .mk op n v a=>op::n::v::(a.length:Int)::wEs a
def wEs:List Ex->List Int|[]=>[]|e::l=>wE e++wEs l
end
mutual
def wC:Co->List Int| .mk op a c=>op::(wl wE a++((c.length:Int)::wCs c))
def wCs:List Co->List Int|[]=>[]|e::l=>wC e++wCs l
end
mutual
def wS:Sm->List Int| .mk site op n m v x y c args cO body tw=>[site,op,n,m,v]++(wE x++(wE y++(wC c++(wl wE args++(((cO.length:Int)::cO)++(((body.length:Int)::wSs body)++((tw.length:Int)::wSs tw)))))))
def wSs:List Sm->List Int|[]=>[]|e::l=>wS e++wSs l
end
theorem ab5:∀l,wSs l=l.flatMap wS|[]=>by simp[wSs]|e::l=>by simp[wSs,ab5 l]
def wI(n:Int):List Int:=[n]
def am0(l:List Int):wl wI l=(l.length:Int)::l:=by
 have:l.flatMap wI=l:=by induction l with|nil=>rfl|cons x l ih=>rw[mS,ih];rfl
 rw[wl,this]
def apt(s:Sm):wS s=[[s.site,s.op,s.n,s.m,s.v],wE s.x,wE s.y,wC s.c,wl wE s.args,wl wI s.cO,wl wS s.body,wl wS s.tw].flatten:=by cases s;simp[wS,am0,ab5,Sm.site,Sm.op,Sm.n,Sm.m,Sm.v,Sm.x,Sm.y,Sm.c,Sm.args,Sm.cO,Sm.body,Sm.tw];simp[wl]
def R9(s:Sm):(wS s).length=5+(wE s.x).length+(wE s.y).length+(wC s.c).length+(wl wE s.args).length+(wl wI s.cO).length+(wl wS s.body).length+(wl wS s.tw).length:=by rw[apt];exact az
def wrap_u64(x:Int):IntKind.u64.wrap x=x%18446744073709551616:=by simp[IntKind.wrap,IntKind.bits,IntKind.signed]
def w8(b:UInt8):List Int:=[(b.toNat:Int)]
end Abs
namespace Abs
open Go Go.Proofs Tryz
variable{G:Prop}
def aab(h:G:=by rw[Du];exact ih _ (by omega) (by omega)):=h
def Rz(h:G:=by refine⟨⟨⟨r.k+1,_⟩,⟨hk,hN⟩⟩,iy hk (gb _),?_⟩;exact vQ):=h
mutual
def fS:Sm->List Sm| .mk a b c d e f g h i j body tw=> .mk a b c d e f g h i j body tw::(wa body++wa tw)
def wa:List Sm->List Sm|[]=>[]|s::l=>fS s++wa l
end
def as7(s:Sm):fS s=s::(wa s.body++wa s.tw):=by cases s;simp[fS,Sm.body,Sm.tw]
theorem af4:∀l,wa l=l.flatMap fS|[]=>by simp[wa]|s::l=>by simp[wa,af4 l]
mutual
theorem aiz:∀(s:Sm) (k:Nat),(flS s k).map Prod.fst=fS s| .mk a b c d e f g h i j body tw,k=>by simp only[flS,fS,oD,eu,Ci body,Ci tw]
theorem Ci:∀(l:List Sm) (k:Nat),(wi l k).map Prod.fst=wa l|[],_=>rfl|s::l,k=>by simp only[wi,wa,eu,aiz s,Ci l]
end
def Dq(l:List Sm):(wa l).length=zI l:=by rw[<-Ci l 0,dn,Ch]
def af0{α β:Type}{w:α->List β}{l:List α}{k:Nat}(h:k<l.length):(l.take (k+1)).flatMap w=(l.take k).flatMap w++w l[k]:=by rw[take_one h];simp[-List.take_append_getElem]
def ao8(l:List Sm)(k:Nat):((l.take k).flatMap fS).length=zI (l.take k):=by rw[<-af4,Dq]
theorem Qp:∀(n:Nat) (l:List Sm),zI l<n->zI l<2^30->aj prog 116 [.sl 20 (l.map encS) false] fV (fj 20 encS (wa l)) fV:=by
 intro n;induction n with
 |zero=>intro l h;omega
 |succ n ih=>
  intro l h hb;have hl:=JB l;refine fo func116 ?_;refine run ?_;refine bF.mk ⟨[],aY.lp (λr:CR=>r.k<=l.length∧r.acc=((l.take r.k).flatMap fS).map encS) (λr=>⟨[(4,it r.k),(3,.ref 5 r.acc.length)],[],[(5,⟨20,true,r.acc⟩)]⟩) (λr=>l.length - r.k) ⟨0,[]⟩ ⟨dM _,O⟩ ?_⟩;intro r hJ;have h1:=hJ.1;have h2:=hJ.2;by_cases hk:r.k<l.length;have b1:decide ((r.k:Int)<((l.map encS).length:Nat))=true:=qw;have hz:=ame hk;have e2:=abi l[r.k];have hA:aj prog 116 [.sl 20 (xr l[r.k].body) false] fV (fj 20 encS (wa l[r.k].body)) fV:=aab
  have hB:aj prog 116 [.sl 20 (xr l[r.k].tw) false] fV (fj 20 encS (wa l[r.k].tw)) fV:=aab;have la:=Dq l[r.k].body;have lb:=Dq l[r.k].tw;have hlen:r.acc.length=zI (l.take r.k):=by rw[h2,dn,ao8]
  have hN:((r.acc++[encS l[r.k]])++(wa l[r.k].body).map encS)++(wa l[r.k].tw).map encS=((l.take (r.k+1)).flatMap fS).map encS:=(by rw[h2,af0 hk,as7];simp);refine aM ?_;refine bt.map hk rfl ?_;refine aM ?_;refine bt.map hk rfl ?_;refine aM ?_;refine bt.map hk rfl ?_;refine aM ?_;exact Rz;have b1:decide ((r.k:Int)<((l.map encS).length:Nat))=false:=az;have e:r.acc=(wa l).map encS:=by rw[h2,oG E,af4]
  refine run ?_;exact fP.mk (aL (λx=>au.sl 20 x false) e) rfl
end Abs
namespace Abs
open Go Go.Proofs
end Abs
namespace Abs
open Go Go.Proofs Tryz
variable{G:Prop}
def aal(h:G:=by unfold BF;rw[uZ,List.filter_append];simp[h]):=h
def K7(h:G:=by refine⟨⟨⟨q.k+1,_⟩,⟨gk,gN⟩⟩,iy gk (gb _),?_⟩;exact vQ):=h
def kR(h:G:=by rw[hL];exact az):=h
def agt(mask:Int):au:= .agg [it (-2147483648),it 2147483647,it 1,it 0,it mask]
def Sd:aj prog 203 [it (-2147483648),it 1] fV (it 0) fV:=by
 have a1:(-2147483648:Int).tmod 1+1=1:=aw
 refine fo func203 ?_;exact bz
def Xw:aj prog 144 [it (-2147483648),it 2147483647,it 1,it 255] fV (agt 255) fV:=by
 have h:=Sd;have a1:(2147483647:Int) - (2147483647 - -2147483648:Int).tmod 1=2147483647:=aw
 have a2:IntKind.i64.wrap ((2147483647 - -2147483648:Int).tdiv 1)*1=4294967295:=aw
 refine fo func144 ?_;exact bp
def Se:aj prog 285 [it 255] fV (agt 255) fV:=by have h:=Xw;refine fo func285 ?_;exact bp
def BF(a b:Nat):List Pa:=((List.range b).filter λj=> !(Nat.beq a j)).map λj:Nat=>⟨a,j,0⟩
def p'(n:Nat):List Pa:=(List.range n).flatMap λa=>BF a 3
def rN(c:Int):Sy:=⟨c,-2147483648,2147483647,1,0,255,4294967294,7,0,p' 3,1099511627776⟩
def ama(c:Int)(ps:au):List au:=[it c,it (-2147483648),it 2147483647,it 1,it 0,it 255,it 4294967294,it 7,it 0,ps,it 1099511627776]
def ac1{a b:Nat}(h:(!(Nat.beq a b))=true):BF a (b+1)=BF a b++[⟨a,b,0⟩]:=aal
def ai0{a b:Nat}(h:(!(Nat.beq a b))=false):BF a (b+1)=BF a b:=aal
def aic{a b:Nat}(h:(!(Nat.beq a b))=false):a=b:=by cases hb:Nat.beq a b with|true=>exact dw hb|false=>rw[hb]at h;cases h
def ade{a b:Nat}(h:(!(Nat.beq a b))=true):¬a=b:=λe=>by rw[e,Nat.beq_refl]at h;cases h
def Wg(a b:Nat):(BF a b).length<=b:=by unfold BF;rw[dn];have:=M6 (λj=> !(Nat.beq a j)) (List.range b);rwa[MP]at this
def DU(n:Nat):p' (n+1)=p' n++BF n 3:=by unfold p';rw[uZ];simp
theorem Jo:∀n,(p' n).length<=3*n|0=>by simp[p']|n+1=>by rw[DU,fx];have:=Jo n;have:=Wg n 3;omega
def V5(p:Pg)(c:Int):Sy:=if (wg (λx:Hd=>x.id==c) Iv p.aF).2 then rN c else I6
def am9(p:Pg)(c:Int):Int:=if (wg (λx:Hd=>x.id==c) Iv p.aF).2 then 0 else 4
def Xp(p:Pg)(c:Int)(hL:p.d.aQ=3)(hh:p.aF.length<2^40):aj prog 363 [qe p,it c] fV (.bS [eO (V5 p c),it (am9 p c)]) fV:=by
 have hd:=wM p c hh;have ha:=Se;have s1:IntKind.i64.wrap (1*2^(min p.d.aQ.toNat IntKind.i64.bits)) - 1=7:=by rw[hL];decide
 have hn:0<=p.d.aQ:=E
 refine(dD ((wg (λx:Hd=>x.id==c) Iv p.aF).2)).elim (λb0=> ?_) (λb0=> ?_);have e1:V5 p c=rN c:=ak b0;have c0:(!(wg (λx:Hd=>x.id==c) Iv p.aF).2)=false:=by rw[b0];rfl
 have e2:am9 p c=0:=ak b0;rw[e1,e2];refine fo func363 ?_;refine aM ?_;refine bF.mk ⟨[.cell 8 9 20006],aY.lp (λr:CR=>r.k<=3∧r.acc=(p' r.k).map bQ) (λr=>⟨[(31,it r.k)],[(8,.agg (ama c (.ref 20006 r.acc.length)))],[(20006,⟨3,true,r.acc⟩)]⟩) (λr=>3 - r.k) ⟨0,[]⟩ ⟨dM _,rfl⟩ ?_⟩;intro r hJ;have h1:=hJ.1;have h2:=hJ.2;by_cases hk:r.k<3;have b1:decide ((r.k:Int)<p.d.aQ)=true:=kR;have hlen:r.acc.length=(p' r.k).length:=by rw[h2,dn]
 have hle:=Jo r.k;refine run ?_;refine bF.mk ⟨[],aY.lp (λq:CR=>q.k<=3∧q.acc=r.acc++(BF r.k q.k).map bQ) (λq=>⟨[(37,it q.k)],[(8,.agg (ama c (.ref 20006 q.acc.length)))],[(20006,⟨3,true,q.acc⟩)]⟩) (λq=>3 - q.k) ⟨0,r.acc⟩ ⟨dM _,by simp[BF]⟩ ?_⟩;intro q hq;have q1:=hq.1;have q2:=hq.2;by_cases gk:q.k<3;have d1:decide ((q.k:Int)<p.d.aQ)=true:=kR;have as6:q.acc.length=r.acc.length+(BF r.k q.k).length:=by rw[q2];simp
 have gle:=Wg r.k q.k;refine(dD (!(Nat.beq r.k q.k))).elim (λd2=> ?_) (λd2=> ?_);have d3:¬r.k=q.k:=ade d2;have ne:(!decide ((r.k:Int)=(q.k:Int)))=true:=az
 have gN:q.acc++[bQ ⟨r.k,q.k,0⟩]=r.acc++(BF r.k (q.k+1)).map bQ:=(by rw[q2,ac1 d2,eu,<-rH];rfl);refine run ?_;exact K7;have d3:r.k=q.k:=aic d2;have ne:(!decide ((r.k:Int)=(q.k:Int)))=false:=by rw[d3];simp
 have gN:q.acc=r.acc++(BF r.k (q.k+1)).map bQ:=(by rw[q2,ai0 d2]);refine run ?_;exact K7;have d1:decide ((q.k:Int)<p.d.aQ)=false:=kR;have e:q.acc=(p' (r.k+1)).map bQ:=by rw[q2,h2,show q.k=3 by omega,DU,eu]
 refine run ?_;refine⟨⟨⟨r.k+1,_⟩,⟨hk,e⟩⟩,iy hk (gb _),?_⟩;exact vQ;have b1:decide ((r.k:Int)<p.d.aQ)=false:=kR;have e:r.acc=(p' 3).map bQ:=by rw[h2,show r.k=3 by omega]
 refine run ?_;exact fP.mk (aL (λx=>au.bS [.agg (ama c (.sl 3 x false)),it 0]) e) rfl;have e1:V5 p c=I6:=Z (by rw[b0];simp);have c0:(!(wg (λx:Hd=>x.id==c) Iv p.aF).2)=true:=by rw[b0];rfl
 have e2:am9 p c=4:=Z (by rw[b0];simp);rw[e1,e2];refine fo func363 ?_;exact bp
end Abs
namespace Abs
open Go Go.Proofs
def map_take{α β:Type}{f:α->β}{l:List α}{k:Nat}(h:k<l.length):(l.take (k+1)).map f=(l.take k).map f++[f l[k]]:=by rw[take_one h,eu];rfl
end Abs
namespace Abs
open Go Go.Proofs Tryz
variable{G:Prop}
def Bd:=@UInt8.toNat_lt
def oC(h:G:=by simp only[vd];omega):=h
def bt.ani{α:Type}{xs:List α}{f:α->au}{i:Int}(k:Nat){n:Nat}{K:au->Prop}(e:i=k)(hk:k<xs.length)(hn:n=(xs.map f).length)(h:K (f xs[k])):bt n (xs.map f) i K:=by subst e;exact bt.map hk hn h
structure Mk where
 L:List UInt8
 d:Dc
 aF:List Hd
 defs:List Df
 th:List Int
 D:Df
 calm:Bool
def QB(m:Mk)(a s l p d:Nat):au:= .agg ([Y2 m.L,it a]++(cDc m.d++([.ref 1000 (m.aF.map oY).length,.ref 1001 (m.defs.map bR).length,.ref 1002 (m.th.map it).length]++(cD m.D++[it s,it l,it p,it d,bo m.calm]))))
def kg(m:Mk)(a s l p d:Nat):Ct:=⟨[QB m a s l p d],[⟨5,true,m.aF.map oY⟩,⟨12,true,m.defs.map bR⟩,⟨1,true,m.th.map it⟩]⟩
abbrev mp:au:= .ptr 1000 0
def Mk.nx(m:Mk)(a:Nat)(n:Int):Int:=(((m.L.getD a 0).toNat:Nat):Int).tmod n
def Mk.bT(m:Mk)(a:Nat){n:Int}(h:0<n):0<=m.nx a n∧m.nx a n<n:=⟨dz _ E,fi _ h⟩
def bB(m:Mk)(a s l p d:Nat)(n:Int)(h:a<2^60)(hn:0<n):aj prog 170 [mp,it n] (kg m a s l p d) (it (m.nx a n)) (kg m (a+1) s l p d):=by
 by_cases hl:a<m.L.length;have hb:decide ((a:Int)+1>((m.L.map λb=>au.int .u8 b.toNat).length:Nat))=false:=az
 have hu:=Bd (m.L[a]);refine fo func170 ?_;refine run ?_;refine bt.ani a E E rfl ?_;refine run ?_;refine fP.mk (aL it ?_) rfl;simp[Mk.nx,List.getD,hl];have hb:decide ((a:Int)+1>((m.L.map λb=>au.int .u8 b.toNat).length:Nat))=true:=az
 refine fo func170 ?_;refine run ?_;refine fP.mk (aL it ?_) rfl;simp[Mk.nx,List.getD,hl]
def dJ(m:Mk)(a s l p d:Nat)(h:s<2^60):aj prog 221 [mp] (kg m a s l p d) (it (s+1:Nat)) (kg m a (s+1) l p d):=by refine fo func221 ?_;exact bz
def qf(v:Int):Ex:= .mk 1 0 v []
def IV(v:Int):Ex:= .mk 2 v 0 []
def afb(op:Int)(a b:Ex):Ex:= .mk op 0 0 [a,b]
def J5(op:Int)(a b:Ex):Co:= .mk op [a,b] []
def ag9(c:Co):Co:= .mk 5 [] [c]
def fN(v:Int):aj prog 45 [it v] fV (cy (qf v)) fV:=by refine fo func45 ?_;exact bz
def ab7(v:Int):aj prog 44 [it v] fV (cy (IV v)) fV:=by refine fo func44 ?_;exact bz
def age(v:Int)(a b:Ex):aj prog 377 [it v,cy a,cy b] fV (cy (afb v a b)) fV:=by cases a;cases b;refine fo func377 ?_;exact bz
def V8(v:Int)(a b:Ex):aj prog 127 [it v,cy a,cy b] fV (fO (J5 v a b)) fV:=by cases a;cases b;refine fo func127 ?_;exact bz
def ad0(a:Co):aj prog 376 [fO a] fV (fO (ag9 a)) fV:=by cases a;refine fo func376 ?_;exact bz
def Mk.expr(m:Mk):Nat->Nat->Ex×Nat
 |0,a=>(qf (m.nx (a+1) 14 - 3),a+1+1)
 |n+1,a=>
  if m.nx a 12<4 then(qf (m.nx (a+1) 14 - 3),a+1+1)
  else if m.nx a 12<9 then(IV (m.nx (a+1) m.D.vars),a+1+1)
  else if m.nx a 12=9∧0<m.D.aK.length then(.mk 3 (m.nx (a+1) m.D.aK.length) 0 [],a+1+1)
  else(afb (4+m.nx (a+1) 7) (m.expr n (a+1+1)).1 (m.expr n (m.expr n (a+1+1)).2).1,(m.expr n (m.expr n (a+1+1)).2).2)
def vd:Nat->Nat|0=>2|n+1=>2+2*vd n
def OV(n:Nat):2<=vd n:=by cases n<;>simp[vd]
theorem Mk.fM(m:Mk):∀n a,a<=(m.expr n a).2∧(m.expr n a).2<=a+vd n|0,a=>by simp only[Mk.expr,vd];omega|n+1,a=>by have h1:=Mk.fM m n (a+1+1);have h2:=Mk.fM m n (m.expr n (a+1+1)).2;have h3:=OV n;rw[Mk.expr];split;exact oC;split;exact oC;split;exact oC;exact oC
theorem qQ(m:Mk)(s l p d:Nat)(hv:0<m.D.vars)(n:Nat):∀(a:Nat) (_:a+vd n<2^60) (_:n<2^60),aj prog 325 [mp,it n] (kg m a s l p d) (cy (m.expr n a).1) (kg m ((m.expr n a).2) s l p d):=by
 induction n with
 |zero=>
  intro a h hn;have b1:=m.bT a (n:=12) E;have b2:=m.bT (a+1) (n:=14) E;simp only[vd]at h;refine(dD (decide (m.nx a 12<4))).elim (λh1=> ?_) (λh1=> ?_);all_goals
   refine fo func325 ?_;refine run ?_;repeat((apply aE;first|exact(bB m _ _ _ _ _ _ E E)|exact(fN _));refine run ?_)
   exact aG
 |succ n ih=>
  intro a h hn;have b1:=m.bT a (n:=12) E;have b2:=m.bT (a+1) (n:=14) E;have b3:=m.bT (a+1) (n:=7) E;have g1:=m.fM n (a+1+1);have g2:=m.fM n (m.expr n (a+1+1)).2;have g3:=OV n;simp only[vd]at h;have h2:(((n+1:Nat):Int)==0)=false:=az
  have e1:((n+1:Nat):Int) - 1=(n:Int):=E
  refine(dD (decide (m.nx a 12<4))).elim (λh1=> ?_) (λh1=> ?_)
  ·have e:m.expr (n+1) a=(qf (m.nx (a+1) 14 - 3),a+1+1):=(by rw[Mk.expr,ak gK]);rw[e];refine fo func325 ?_;refine run ?_;repeat((apply aE;first|exact(bB m _ _ _ _ _ _ E E)|exact(fN _));refine run ?_)
   exact aG
  have n1:¬m.nx a 12<4:=gK
  refine(dD (decide (m.nx a 12<9))).elim (λh3=> ?_) (λh3=> ?_)
  ·have e:m.expr (n+1) a=(IV (m.nx (a+1) m.D.vars),a+1+1):=(by rw[Mk.expr,Z n1,ak qv]);rw[e];refine fo func325 ?_;refine run ?_;repeat((apply aE;first|exact(bB m _ _ _ _ _ _ E E)|exact(ab7 _));refine run ?_)
   exact aG
  have n2:¬m.nx a 12<9:=qv
  by_cases h4:m.nx a 12=9∧0<m.D.aK.length
  ·have e:m.expr (n+1) a=(.mk 3 (m.nx (a+1) m.D.aK.length) 0 [],a+1+1):=(by rw[Mk.expr,Z n1,Z n2,ak h4]);have e2:(m.nx a 12==9)=true:=by simp[h4.1]
   have e3:decide ((((m.D.aK.map kO).length:Nat):Int)>0)=true:=(by simp;exact h4.2);have e4:((m.D.aK.map kO).length:Int)=m.D.aK.length:=O
   rw[e,<-e4];refine fo func325 ?_;refine run ?_;repeat((apply aE;first|exact(bB m _ _ _ _ _ _ E E));refine run ?_)
   exact aG
  have e:m.expr (n+1) a=(afb (4+m.nx (a+1) 7) (m.expr n (a+1+1)).1 (m.expr n (m.expr n (a+1+1)).2).1,(m.expr n (m.expr n (a+1+1)).2).2):=by rw[Mk.expr,Z n1,Z n2,Z h4]
  rw[e];refine(dD (m.nx a 12==9)).elim (λe2=> ?_) (λe2=> ?_)
  ·have e3:decide ((((m.D.aK.map kO).length:Nat):Int)>0)=false:=(by simp at e2 h4 ⊢;exact h4 e2);refine fo func325 ?_;refine run ?_;repeat((apply aE;first|exact(bB m _ _ _ _ _ _ E E)|exact(ih _ E E)|exact(age _ _ _));refine run ?_)
   exact aG
  ·refine fo func325 ?_;refine run ?_;repeat((apply aE;first|exact(bB m _ _ _ _ _ _ E E)|exact(ih _ E E)|exact(age _ _ _));refine run ?_)
   exact aG
def uF(h:G:=by simp only[Eb];omega):=h
def Kx(h:G:=by have:=ok.vars;have:=m.Wu;omega):=h
def Mk.nP(m:Mk):Int:=((m.D.params.map bc).length:Nat)
def Mk.nA(m:Mk):Int:=((m.D.aK.map kO).length:Nat)
def Mk.Wu(m:Mk):m.nP=m.D.params.length:=by simp[Mk.nP]
def Mk.al3(m:Mk):m.nA=m.D.aK.length:=by simp[Mk.nA]
structure Mk.Ok(m:Mk):Prop where
 vars:m.nP<m.D.vars∧m.D.vars<2^40∧m.nP<2^40
 arr:0<m.nA∧m.nA<2^40
def Mk.cond(m:Mk):Nat->Nat->Co×Nat
 |0,a=>(J5 (2+(m.nx a 8).tmod 3) (m.expr 1 (a+1)).1 (m.expr 1 (m.expr 1 (a+1)).2).1,(m.expr 1 (m.expr 1 (a+1)).2).2)
 |n+1,a=>
  if m.nx a 8<6 then(J5 (2+(m.nx a 8).tmod 3) (m.expr 1 (a+1)).1 (m.expr 1 (m.expr 1 (a+1)).2).1,(m.expr 1 (m.expr 1 (a+1)).2).2)
  else if m.nx a 8=6 then(ag9 (m.cond n (a+1)).1,(m.cond n (a+1)).2)
  else(.mk (6+m.nx (m.cond n (a+1)).2 2) [] [(m.cond n (a+1)).1,(m.cond n ((m.cond n (a+1)).2+1)).1],(m.cond n ((m.cond n (a+1)).2+1)).2)
def Eb:Nat->Nat|0=>13|n+1=>2+2*Eb n
def V3(n:Nat):13<=Eb n:=by induction n with|zero=>simp[Eb]|succ n ih=>exact uF
theorem Mk.vK(m:Mk):∀n a,a<=(m.cond n a).2∧(m.cond n a).2<=a+Eb n|0,a=>by have h1:=m.fM 1 (a+1);have h2:=m.fM 1 (m.expr 1 (a+1)).2;simp only[Mk.cond,Eb];simp only[vd]at h1 h2;omega|n+1,a=>by have h1:=m.fM 1 (a+1);have h2:=m.fM 1 (m.expr 1 (a+1)).2;have h3:=Mk.vK m n (a+1);have h4:=Mk.vK m n ((m.cond n (a+1)).2+1);have h5:=V3 n;rw[Mk.cond];simp only[vd]at h1 h2;split;exact uF;split;exact uF;exact uF
def afa(v:Int)(a b:Co):fO (.mk v [] [a,b])= .agg [it v,.sl 4 [] false,.sl 3 [fO a,fO b] false]:=by cases a;cases b;rfl
theorem Ow(m:Mk)(s l p d:Nat)(hv:0<m.D.vars)(n:Nat):∀(a:Nat) (_:a+Eb n<2^60) (_:n<2^60),aj prog 322 [mp,it n] (kg m a s l p d) (fO (m.cond n a).1) (kg m ((m.cond n a).2) s l p d):=by
 have one:∀a,a+6<2^60->aj prog 325 [mp,it 1] (kg m a s l p d) (cy (m.expr 1 a).1) (kg m ((m.expr 1 a).2) s l p d):=λa h=>qQ m s l p d hv 1 a oC E;induction n with
 |zero=>
  intro a h hn;have b1:=m.bT a (n:=8) E;have b2:0<=(m.nx a 8).tmod 3∧(m.nx a 8).tmod 3<3:=⟨dz _ b1.1,fi _ E⟩;have h1:=m.fM 1 (a+1);have h2:=m.fM 1 (m.expr 1 (a+1)).2;simp only[vd]at h1 h2;simp only[Eb]at h;refine(dD (decide (m.nx a 8<6))).elim (λh1=> ?_) (λh1=> ?_);all_goals
   refine fo func322 ?_;refine run ?_;repeat((apply aE;first|exact(bB m _ _ _ _ _ _ E E)|exact(one _ E)|exact(V8 _ _ _));refine run ?_)
   exact aG
 |succ n ih=>
  intro a h hn;have b1:=m.bT a (n:=8) E;have b2:0<=(m.nx a 8).tmod 3∧(m.nx a 8).tmod 3<3:=⟨dz _ b1.1,fi _ E⟩;have b3:=m.bT (m.cond n (a+1)).2 (n:=2) E;have g1:=m.fM 1 (a+1);have g2:=m.fM 1 (m.expr 1 (a+1)).2;simp only[vd]at g1 g2;have g3:=m.vK n (a+1);have g4:=m.vK n ((m.cond n (a+1)).2+1);have g5:=V3 n;simp only[Eb]at h;have h2:(((n+1:Nat):Int)==0)=false:=az
  have e1:((n+1:Nat):Int) - 1=(n:Int):=E
  refine(dD (decide (m.nx a 8<6))).elim (λh1=> ?_) (λh1=> ?_)
  ·have e:m.cond (n+1) a=(J5 (2+(m.nx a 8).tmod 3) (m.expr 1 (a+1)).1 (m.expr 1 (m.expr 1 (a+1)).2).1,(m.expr 1 (m.expr 1 (a+1)).2).2):=(by rw[Mk.cond,ak gK]);rw[e];refine fo func322 ?_;refine run ?_;repeat((apply aE;first|exact(bB m _ _ _ _ _ _ E E)|exact(one _ E)|exact(V8 _ _ _));refine run ?_)
   exact aG
  have n1:¬m.nx a 8<6:=gK
  refine(dD (m.nx a 8==6)).elim (λh3=> ?_) (λh3=> ?_)
  ·have e:m.cond (n+1) a=(ag9 (m.cond n (a+1)).1,(m.cond n (a+1)).2):=(by rw[Mk.cond,Z n1,ak qv]);rw[e];refine fo func322 ?_;refine run ?_;repeat((apply aE;first|exact(bB m _ _ _ _ _ _ E E)|exact(ih _ E E)|exact(ad0 _));refine run ?_)
   exact aG
  ·have e:m.cond (n+1) a=(.mk (6+m.nx (m.cond n (a+1)).2 2) [] [(m.cond n (a+1)).1,(m.cond n ((m.cond n (a+1)).2+1)).1],(m.cond n ((m.cond n (a+1)).2+1)).2):=(by rw[Mk.cond,Z n1,Z qv]);rw[e];refine fo func322 ?_;refine run ?_;repeat((apply aE;first|exact(bB m _ _ _ _ _ _ E E)|exact(ih _ E E)|exact(ad0 _));refine run ?_)
   exact fP.mk (afa _ _ _).symm rfl
def Mk.tg(m:Mk)(a:Nat):Int:=m.nP+m.nx a (m.D.vars - m.nP)
def de(m:Mk)(a s l p d:Nat)(h:a<2^60)(ok:m.Ok):aj prog 323 [mp] (kg m a s l p d) (it (m.tg a)) (kg m (a+1) s l p d):=by
 have h1:=ok.vars;have h2:=m.bT a (n:=m.D.vars - m.nP) E;have h3:m.nP=((m.D.params.map bc).length:Nat):=rfl;rw[h3]at h1 h2;refine fo func323 ?_;refine run ?_;repeat((apply aE;first|exact(bB m _ _ _ _ _ _ E E));refine run ?_)
 exact aG
def zE:Ex:= .mk 0 0 0 []
def zC:Co:= .mk 0 [] []
def S0(site op n m v:Int)(x y:Ex)(c:Co):Sm:= .mk site op n m v x y c [] [] [] []
def Mk.simple(m:Mk)(a s:Nat):List Sm×Nat×Nat:=
 if m.nx a 8=0 then([S0 (s+1:Nat) 2 (m.tg (a+1)) 0 0 (qf (m.nx (a+1+1) 4)) zE zC],a+1+1+1,s+1)
 else if m.nx a 8=1 then([S0 (s+1:Nat) 3 0 0 0 (qf (m.nx (a+1) 4)) (m.expr 2 (a+1+1)).1 zC],(m.expr 2 (a+1+1)).2,s+1)
 else if m.nx a 8=2 then([S0 (s+1:Nat) 4 (m.tg (a+1)) (m.nx (a+1+1) 2) 0 zE zE zC],a+1+1+1,s+1)
 else if m.nx a 8=3 then([S0 (s+1:Nat) 20 (m.tg (a+1)) (m.nx (a+1+1) 2) 0 zE zE zC],a+1+1+1,s+1)
 else if m.nx a 8=4 then([S0 (s+1:Nat) 16 0 (m.nx (a+1) 3) 0 zE zE zC,S0 (s+1+1:Nat) 5 0 0 0 (qf (m.nx (a+1+1) 9)) zE zC,S0 (s+1+1+1:Nat) 17 0 (m.nx (a+1) 3) 0 zE zE zC],a+1+1+1,s+1+1+1)
 else if m.nx a 8=5 then([S0 (s+1:Nat) 6 1 0 0 zE zE zC,S0 (s+1+1:Nat) 9 1 0 0 (m.expr 1 (a+1)).1 zE zC,S0 (s+1+1+1:Nat) 7 1 0 0 zE zE zC],(m.expr 1 (a+1)).2,s+1+1+1)
 else([S0 (s+1:Nat) 1 (m.tg (a+1)) 0 0 (m.expr 2 (a+1+1)).1 zE zC],(m.expr 2 (a+1+1)).2,s+1)
def Mk.risky(m:Mk)(a s:Nat):Sm×Nat×Nat:=
 if m.nx a 15=0∨m.nx a 15=1 then(S0 (s+1:Nat) 2 (m.tg (a+1)) (m.nx (a+1+1) m.nA) 0 (m.expr 1 (a+1+1+1)).1 zE zC,(m.expr 1 (a+1+1+1)).2,s+1)
 else if m.nx a 15=2 then(S0 (s+1:Nat) 3 0 (m.nx (a+1) m.nA) 0 (m.expr 1 (a+1+1)).1 (m.expr 1 (m.expr 1 (a+1+1)).2).1 zC,(m.expr 1 (m.expr 1 (a+1+1)).2).2,s+1)
 else if m.nx a 15=3 then(S0 (s+1:Nat) 5 0 (m.nx (a+1) 2) 0 (m.expr 1 (a+1+1)).1 zE zC,(m.expr 1 (a+1+1)).2,s+1)
 else if m.nx a 15=4 then(S0 (s+1:Nat) 6 (m.nx (a+1) 2) 0 0 zE zE zC,a+1+1,s+1)
 else if m.nx a 15=5 then(S0 (s+1:Nat) 7 (m.nx (a+1) 2) 0 0 zE zE zC,a+1+1,s+1)
 else if m.nx a 15=6 then(S0 (s+1:Nat) 8 (m.nx (a+1) 2) (m.nx (a+1+1) 2) 0 zE zE zC,a+1+1+1,s+1)
 else if m.nx a 15=7 then(S0 (s+1:Nat) 10 (m.tg (a+1)) (m.nx (a+1+1) 2) 0 zE zE zC,a+1+1+1,s+1)
 else if m.nx a 15=8 then(S0 (s+1:Nat) (16+m.nx (a+1) 2) 0 (m.nx (a+1+1) 3) 0 zE zE zC,a+1+1+1,s+1)
 else if m.nx a 15=9 then(S0 (s+1:Nat) 18 0 0 0 (m.expr 1 (a+1)).1 zE zC,(m.expr 1 (a+1)).2,s+1)
 else if m.nx a 15=10 then(S0 (s+1:Nat) 19 (m.tg (a+1)) 0 0 zE zE zC,a+1+1,s+1)
 else if m.nx a 15=11 then(S0 (s+1:Nat) 21 0 (m.nx (a+1) 3) 0 (m.expr 1 (a+1+1)).1 zE zC,(m.expr 1 (a+1+1)).2,s+1)
 else if m.nx a 15=12 then(S0 (s+1:Nat) 22 0 (m.nx (a+1) 3) 0 zE zE zC,a+1+1,s+1)
 else if m.nx a 15=13 then(S0 (s+1:Nat) 23 0 0 0 zE zE (m.cond 1 (a+1)).1,(m.cond 1 (a+1)).2,s+1)
 else(S0 (s+1:Nat) 9 (m.nx (a+1) 2) 0 0 (m.expr 1 (a+1+1)).1 zE zC,(m.expr 1 (a+1+1)).2,s+1)
def XC(m:Mk)(a s l p d:Nat)(h:a+100<2^60)(h' :s+10<2^60)(ok:m.Ok):aj prog 326 [mp] (kg m a s l p d) (fj 20 encS (m.simple a s).1) (kg m ((m.simple a s).2.1) ((m.simple a s).2.2) l p d):=by
 have hv:0<m.D.vars:=Kx
 have b0:=m.bT a (n:=8) E;have ha:=ok.arr;have hA:m.nA=((m.D.aK.map kO).length:Nat):=rfl;have e1:∀a,a+6<2^60->aj prog 325 [mp,it 1] (kg m a (s+1) l p d) (cy (m.expr 1 a).1) (kg m ((m.expr 1 a).2) (s+1) l p d):=λa h=>qQ m (s+1) l p d hv 1 a oC E;have e1' :∀a,a+6<2^60->aj prog 325 [mp,it 1] (kg m a (s+1+1) l p d) (cy (m.expr 1 a).1) (kg m ((m.expr 1 a).2) (s+1+1) l p d):=λa h=>qQ m (s+1+1) l p d hv 1 a oC E;have e2:∀a,a+14<2^60->aj prog 325 [mp,it 2] (kg m a (s+1) l p d) (cy (m.expr 2 a).1) (kg m ((m.expr 2 a).2) (s+1) l p d):=λa h=>qQ m (s+1) l p d hv 2 a oC E;have c1:∀a,a+28<2^60->aj prog 322 [mp,it 1] (kg m a (s+1) l p d) (fO (m.cond 1 a).1) (kg m ((m.cond 1 a).2) (s+1) l p d):=λa h=>Ow m (s+1) l p d hv 1 a uF E;have g1:=m.fM 1 (a+1);have g2:=m.fM 1 (a+1+1);simp only[vd]at g1 g2;have hk:=bB m a (s+1) l p d 8 E E;have hc:m.nx a 8=0∨m.nx a 8=1∨m.nx a 8=2∨m.nx a 8=3∨m.nx a 8=4∨m.nx a 8=5∨m.nx a 8=6∨m.nx a 8=7:=E
 rcases hc with hc|hc|hc|hc|hc|hc|hc|hc
 ·have e:m.simple a s=([S0 (s+1:Nat) 2 (m.tg (a+1)) 0 0 (qf (m.nx (a+1+1) 4)) zE zC],a+1+1+1,s+1):=by simp[Mk.simple,hc]
  rw[e];rw[hc]at hk;refine fo func326 ?_;refine run ?_;repeat((apply aE;first|exact(hk)|exact(dJ m _ _ _ _ _ E)|exact(de m _ _ _ _ _ E ok)|exact(bB m _ _ _ _ _ _ E E)|exact(fN _)|exact(e1 _ E)|exact(e1' _ E)|exact(e2 _ E)|exact(c1 _ E));refine run ?_)
  exact aG
 ·have e:m.simple a s=([S0 (s+1:Nat) 3 0 0 0 (qf (m.nx (a+1) 4)) (m.expr 2 (a+1+1)).1 zC],(m.expr 2 (a+1+1)).2,s+1):=by simp[Mk.simple,hc]
  rw[e];rw[hc]at hk;refine fo func326 ?_;refine run ?_;repeat((apply aE;first|exact(hk)|exact(dJ m _ _ _ _ _ E)|exact(de m _ _ _ _ _ E ok)|exact(bB m _ _ _ _ _ _ E E)|exact(fN _)|exact(e1 _ E)|exact(e1' _ E)|exact(e2 _ E)|exact(c1 _ E));refine run ?_)
  exact aG
 ·have e:m.simple a s=([S0 (s+1:Nat) 4 (m.tg (a+1)) (m.nx (a+1+1) 2) 0 zE zE zC],a+1+1+1,s+1):=by simp[Mk.simple,hc]
  rw[e];rw[hc]at hk;refine fo func326 ?_;refine run ?_;repeat((apply aE;first|exact(hk)|exact(dJ m _ _ _ _ _ E)|exact(de m _ _ _ _ _ E ok)|exact(bB m _ _ _ _ _ _ E E)|exact(fN _)|exact(e1 _ E)|exact(e1' _ E)|exact(e2 _ E)|exact(c1 _ E));refine run ?_)
  exact aG
 ·have e:m.simple a s=([S0 (s+1:Nat) 20 (m.tg (a+1)) (m.nx (a+1+1) 2) 0 zE zE zC],a+1+1+1,s+1):=by simp[Mk.simple,hc]
  rw[e];rw[hc]at hk;refine fo func326 ?_;refine run ?_;repeat((apply aE;first|exact(hk)|exact(dJ m _ _ _ _ _ E)|exact(de m _ _ _ _ _ E ok)|exact(bB m _ _ _ _ _ _ E E)|exact(fN _)|exact(e1 _ E)|exact(e1' _ E)|exact(e2 _ E)|exact(c1 _ E));refine run ?_)
  exact aG
 ·have e:m.simple a s=([S0 (s+1:Nat) 16 0 (m.nx (a+1) 3) 0 zE zE zC,S0 (s+1+1:Nat) 5 0 0 0 (qf (m.nx (a+1+1) 9)) zE zC,S0 (s+1+1+1:Nat) 17 0 (m.nx (a+1) 3) 0 zE zE zC],a+1+1+1,s+1+1+1):=by simp[Mk.simple,hc]
  rw[e];rw[hc]at hk;refine fo func326 ?_;refine run ?_;repeat((apply aE;first|exact(hk)|exact(dJ m _ _ _ _ _ E)|exact(de m _ _ _ _ _ E ok)|exact(bB m _ _ _ _ _ _ E E)|exact(fN _)|exact(e1 _ E)|exact(e1' _ E)|exact(e2 _ E)|exact(c1 _ E));refine run ?_)
  exact aG
 ·have e:m.simple a s=([S0 (s+1:Nat) 6 1 0 0 zE zE zC,S0 (s+1+1:Nat) 9 1 0 0 (m.expr 1 (a+1)).1 zE zC,S0 (s+1+1+1:Nat) 7 1 0 0 zE zE zC],(m.expr 1 (a+1)).2,s+1+1+1):=by simp[Mk.simple,hc]
  rw[e];rw[hc]at hk;refine fo func326 ?_;refine run ?_;repeat((apply aE;first|exact(hk)|exact(dJ m _ _ _ _ _ E)|exact(de m _ _ _ _ _ E ok)|exact(bB m _ _ _ _ _ _ E E)|exact(fN _)|exact(e1 _ E)|exact(e1' _ E)|exact(e2 _ E)|exact(c1 _ E));refine run ?_)
  exact aG
 ·have e:m.simple a s=([S0 (s+1:Nat) 1 (m.tg (a+1)) 0 0 (m.expr 2 (a+1+1)).1 zE zC],(m.expr 2 (a+1+1)).2,s+1):=by simp[Mk.simple,hc]
  rw[e];rw[hc]at hk;refine fo func326 ?_;refine run ?_;repeat((apply aE;first|exact(hk)|exact(dJ m _ _ _ _ _ E)|exact(de m _ _ _ _ _ E ok)|exact(bB m _ _ _ _ _ _ E E)|exact(fN _)|exact(e1 _ E)|exact(e1' _ E)|exact(e2 _ E)|exact(c1 _ E));refine run ?_)
  exact aG
 ·have e:m.simple a s=([S0 (s+1:Nat) 1 (m.tg (a+1)) 0 0 (m.expr 2 (a+1+1)).1 zE zC],(m.expr 2 (a+1+1)).2,s+1):=by simp[Mk.simple,hc]
  rw[e];rw[hc]at hk;refine fo func326 ?_;refine run ?_;repeat((apply aE;first|exact(hk)|exact(dJ m _ _ _ _ _ E)|exact(de m _ _ _ _ _ E ok)|exact(bB m _ _ _ _ _ _ E E)|exact(fN _)|exact(e1 _ E)|exact(e1' _ E)|exact(e2 _ E)|exact(c1 _ E));refine run ?_)
  exact aG
def Pn(m:Mk)(a s l p d:Nat)(h:a+100<2^60)(h' :s+10<2^60)(ok:m.Ok):aj prog 327 [mp] (kg m a s l p d) (encS (m.risky a s).1) (kg m ((m.risky a s).2.1) ((m.risky a s).2.2) l p d):=by
 have hv:0<m.D.vars:=Kx
 have b0:=m.bT a (n:=15) E;have ha:=ok.arr;have hA:m.nA=((m.D.aK.map kO).length:Nat):=rfl;have e1:∀a,a+6<2^60->aj prog 325 [mp,it 1] (kg m a (s+1) l p d) (cy (m.expr 1 a).1) (kg m ((m.expr 1 a).2) (s+1) l p d):=λa h=>qQ m (s+1) l p d hv 1 a oC E;have e1' :∀a,a+6<2^60->aj prog 325 [mp,it 1] (kg m a (s+1+1) l p d) (cy (m.expr 1 a).1) (kg m ((m.expr 1 a).2) (s+1+1) l p d):=λa h=>qQ m (s+1+1) l p d hv 1 a oC E;have e2:∀a,a+14<2^60->aj prog 325 [mp,it 2] (kg m a (s+1) l p d) (cy (m.expr 2 a).1) (kg m ((m.expr 2 a).2) (s+1) l p d):=λa h=>qQ m (s+1) l p d hv 2 a oC E;have c1:∀a,a+28<2^60->aj prog 322 [mp,it 1] (kg m a (s+1) l p d) (fO (m.cond 1 a).1) (kg m ((m.cond 1 a).2) (s+1) l p d):=λa h=>Ow m (s+1) l p d hv 1 a uF E;have g1:=m.fM 1 (a+1);have g2:=m.fM 1 (a+1+1);simp only[vd]at g1 g2;have hk:=bB m a (s+1) l p d 15 E E;have hc:m.nx a 15=0∨m.nx a 15=1∨m.nx a 15=2∨m.nx a 15=3∨m.nx a 15=4∨m.nx a 15=5∨m.nx a 15=6∨m.nx a 15=7∨m.nx a 15=8∨m.nx a 15=9∨m.nx a 15=10∨m.nx a 15=11∨m.nx a 15=12∨m.nx a 15=13∨m.nx a 15=14:=E
 rcases hc with hc|hc|hc|hc|hc|hc|hc|hc|hc|hc|hc|hc|hc|hc|hc
 ·have e:m.risky a s=(S0 (s+1:Nat) 2 (m.tg (a+1)) (m.nx (a+1+1) m.nA) 0 (m.expr 1 (a+1+1+1)).1 zE zC,(m.expr 1 (a+1+1+1)).2,s+1):=by simp[Mk.risky,hc]
  rw[e];rw[hc]at hk;refine fo func327 ?_;refine run ?_;repeat((apply aE;first|exact(hk)|exact(dJ m _ _ _ _ _ E)|exact(de m _ _ _ _ _ E ok)|exact(bB m _ _ _ _ _ _ E E)|exact(fN _)|exact(e1 _ E)|exact(e1' _ E)|exact(e2 _ E)|exact(c1 _ E));refine run ?_)
  exact aG
 ·have e:m.risky a s=(S0 (s+1:Nat) 2 (m.tg (a+1)) (m.nx (a+1+1) m.nA) 0 (m.expr 1 (a+1+1+1)).1 zE zC,(m.expr 1 (a+1+1+1)).2,s+1):=by simp[Mk.risky,hc]
  rw[e];rw[hc]at hk;refine fo func327 ?_;refine run ?_;repeat((apply aE;first|exact(hk)|exact(dJ m _ _ _ _ _ E)|exact(de m _ _ _ _ _ E ok)|exact(bB m _ _ _ _ _ _ E E)|exact(fN _)|exact(e1 _ E)|exact(e1' _ E)|exact(e2 _ E)|exact(c1 _ E));refine run ?_)
  exact aG
 ·have e:m.risky a s=(S0 (s+1:Nat) 3 0 (m.nx (a+1) m.nA) 0 (m.expr 1 (a+1+1)).1 (m.expr 1 (m.expr 1 (a+1+1)).2).1 zC,(m.expr 1 (m.expr 1 (a+1+1)).2).2,s+1):=by simp[Mk.risky,hc]
  rw[e];rw[hc]at hk;refine fo func327 ?_;refine run ?_;repeat((apply aE;first|exact(hk)|exact(dJ m _ _ _ _ _ E)|exact(de m _ _ _ _ _ E ok)|exact(bB m _ _ _ _ _ _ E E)|exact(fN _)|exact(e1 _ E)|exact(e1' _ E)|exact(e2 _ E)|exact(c1 _ E));refine run ?_)
  exact aG
 ·have e:m.risky a s=(S0 (s+1:Nat) 5 0 (m.nx (a+1) 2) 0 (m.expr 1 (a+1+1)).1 zE zC,(m.expr 1 (a+1+1)).2,s+1):=by simp[Mk.risky,hc]
  rw[e];rw[hc]at hk;refine fo func327 ?_;refine run ?_;repeat((apply aE;first|exact(hk)|exact(dJ m _ _ _ _ _ E)|exact(de m _ _ _ _ _ E ok)|exact(bB m _ _ _ _ _ _ E E)|exact(fN _)|exact(e1 _ E)|exact(e1' _ E)|exact(e2 _ E)|exact(c1 _ E));refine run ?_)
  exact aG
 ·have e:m.risky a s=(S0 (s+1:Nat) 6 (m.nx (a+1) 2) 0 0 zE zE zC,a+1+1,s+1):=by simp[Mk.risky,hc]
  rw[e];rw[hc]at hk;refine fo func327 ?_;refine run ?_;repeat((apply aE;first|exact(hk)|exact(dJ m _ _ _ _ _ E)|exact(de m _ _ _ _ _ E ok)|exact(bB m _ _ _ _ _ _ E E)|exact(fN _)|exact(e1 _ E)|exact(e1' _ E)|exact(e2 _ E)|exact(c1 _ E));refine run ?_)
  exact aG
 ·have e:m.risky a s=(S0 (s+1:Nat) 7 (m.nx (a+1) 2) 0 0 zE zE zC,a+1+1,s+1):=by simp[Mk.risky,hc]
  rw[e];rw[hc]at hk;refine fo func327 ?_;refine run ?_;repeat((apply aE;first|exact(hk)|exact(dJ m _ _ _ _ _ E)|exact(de m _ _ _ _ _ E ok)|exact(bB m _ _ _ _ _ _ E E)|exact(fN _)|exact(e1 _ E)|exact(e1' _ E)|exact(e2 _ E)|exact(c1 _ E));refine run ?_)
  exact aG
 ·have e:m.risky a s=(S0 (s+1:Nat) 8 (m.nx (a+1) 2) (m.nx (a+1+1) 2) 0 zE zE zC,a+1+1+1,s+1):=by simp[Mk.risky,hc]
  rw[e];rw[hc]at hk;refine fo func327 ?_;refine run ?_;repeat((apply aE;first|exact(hk)|exact(dJ m _ _ _ _ _ E)|exact(de m _ _ _ _ _ E ok)|exact(bB m _ _ _ _ _ _ E E)|exact(fN _)|exact(e1 _ E)|exact(e1' _ E)|exact(e2 _ E)|exact(c1 _ E));refine run ?_)
  exact aG
 ·have e:m.risky a s=(S0 (s+1:Nat) 10 (m.tg (a+1)) (m.nx (a+1+1) 2) 0 zE zE zC,a+1+1+1,s+1):=by simp[Mk.risky,hc]
  rw[e];rw[hc]at hk;refine fo func327 ?_;refine run ?_;repeat((apply aE;first|exact(hk)|exact(dJ m _ _ _ _ _ E)|exact(de m _ _ _ _ _ E ok)|exact(bB m _ _ _ _ _ _ E E)|exact(fN _)|exact(e1 _ E)|exact(e1' _ E)|exact(e2 _ E)|exact(c1 _ E));refine run ?_)
  exact aG
 ·have e:m.risky a s=(S0 (s+1:Nat) (16+m.nx (a+1) 2) 0 (m.nx (a+1+1) 3) 0 zE zE zC,a+1+1+1,s+1):=by simp[Mk.risky,hc]
  rw[e];rw[hc]at hk;have b1:=m.bT (a+1) (n:=2) E;refine fo func327 ?_;refine run ?_;repeat((apply aE;first|exact(hk)|exact(dJ m _ _ _ _ _ E)|exact(de m _ _ _ _ _ E ok)|exact(bB m _ _ _ _ _ _ E E)|exact(fN _)|exact(e1 _ E)|exact(e1' _ E)|exact(e2 _ E)|exact(c1 _ E));refine run ?_)
  exact aG
 ·have e:m.risky a s=(S0 (s+1:Nat) 18 0 0 0 (m.expr 1 (a+1)).1 zE zC,(m.expr 1 (a+1)).2,s+1):=by simp[Mk.risky,hc]
  rw[e];rw[hc]at hk;refine fo func327 ?_;refine run ?_;repeat((apply aE;first|exact(hk)|exact(dJ m _ _ _ _ _ E)|exact(de m _ _ _ _ _ E ok)|exact(bB m _ _ _ _ _ _ E E)|exact(fN _)|exact(e1 _ E)|exact(e1' _ E)|exact(e2 _ E)|exact(c1 _ E));refine run ?_)
  exact aG
 ·have e:m.risky a s=(S0 (s+1:Nat) 19 (m.tg (a+1)) 0 0 zE zE zC,a+1+1,s+1):=by simp[Mk.risky,hc]
  rw[e];rw[hc]at hk;refine fo func327 ?_;refine run ?_;repeat((apply aE;first|exact(hk)|exact(dJ m _ _ _ _ _ E)|exact(de m _ _ _ _ _ E ok)|exact(bB m _ _ _ _ _ _ E E)|exact(fN _)|exact(e1 _ E)|exact(e1' _ E)|exact(e2 _ E)|exact(c1 _ E));refine run ?_)
  exact aG
 ·have e:m.risky a s=(S0 (s+1:Nat) 21 0 (m.nx (a+1) 3) 0 (m.expr 1 (a+1+1)).1 zE zC,(m.expr 1 (a+1+1)).2,s+1):=by simp[Mk.risky,hc]
  rw[e];rw[hc]at hk;refine fo func327 ?_;refine run ?_;repeat((apply aE;first|exact(hk)|exact(dJ m _ _ _ _ _ E)|exact(de m _ _ _ _ _ E ok)|exact(bB m _ _ _ _ _ _ E E)|exact(fN _)|exact(e1 _ E)|exact(e1' _ E)|exact(e2 _ E)|exact(c1 _ E));refine run ?_)
  exact aG
 ·have e:m.risky a s=(S0 (s+1:Nat) 22 0 (m.nx (a+1) 3) 0 zE zE zC,a+1+1,s+1):=by simp[Mk.risky,hc]
  rw[e];rw[hc]at hk;refine fo func327 ?_;refine run ?_;repeat((apply aE;first|exact(hk)|exact(dJ m _ _ _ _ _ E)|exact(de m _ _ _ _ _ E ok)|exact(bB m _ _ _ _ _ _ E E)|exact(fN _)|exact(e1 _ E)|exact(e1' _ E)|exact(e2 _ E)|exact(c1 _ E));refine run ?_)
  exact aG
 ·have e:m.risky a s=(S0 (s+1:Nat) 23 0 0 0 zE zE (m.cond 1 (a+1)).1,(m.cond 1 (a+1)).2,s+1):=by simp[Mk.risky,hc]
  rw[e];rw[hc]at hk;refine fo func327 ?_;refine run ?_;repeat((apply aE;first|exact(hk)|exact(dJ m _ _ _ _ _ E)|exact(de m _ _ _ _ _ E ok)|exact(bB m _ _ _ _ _ _ E E)|exact(fN _)|exact(e1 _ E)|exact(e1' _ E)|exact(e2 _ E)|exact(c1 _ E));refine run ?_)
  exact aG
 ·have e:m.risky a s=(S0 (s+1:Nat) 9 (m.nx (a+1) 2) 0 0 (m.expr 1 (a+1+1)).1 zE zC,(m.expr 1 (a+1+1)).2,s+1):=by simp[Mk.risky,hc]
  rw[e];rw[hc]at hk;refine fo func327 ?_;refine run ?_;repeat((apply aE;first|exact(hk)|exact(dJ m _ _ _ _ _ E)|exact(de m _ _ _ _ _ E ok)|exact(bB m _ _ _ _ _ _ E E)|exact(fN _)|exact(e1 _ E)|exact(e1' _ E)|exact(e2 _ E)|exact(c1 _ E));refine run ?_)
  exact aG
def bt.SH{α:Type}{xs:List α}{f:α->au}{i:Int}(k:Nat)(x:α){n:Nat}{K:au->Prop}(e:i=k)(hx:xs[k]? =some x)(hn:n=(xs.map f).length)(h:K (f x)):bt n (xs.map f) i K:=by obtain⟨hk,rfl⟩:=rK.1 hx;subst e;exact bt.map hk hn h
def Mk.mG(m:Mk)(a:Nat):Nat->List au×Nat|0=>([],a)|i+1=>((m.mG a i).1++[cy (m.expr 1 (m.mG a i).2).1],(m.expr 1 (m.mG a i).2).2)
def Mk.args(m:Mk)(a:Nat):Nat->List Ex×Nat|0=>([],a)|i+1=>((m.args a i).1++[(m.expr 1 (m.args a i).2).1],(m.expr 1 (m.args a i).2).2)
theorem Mk.Cy(m:Mk)(a:Nat):∀i,m.mG a i=((m.args a i).1.map cy,(m.args a i).2)|0=>rfl|i+1=>by simp only[Mk.mG,Mk.args,Mk.Cy m a i];simp
theorem Mk.H_(m:Mk)(a:Nat):∀i,(m.mG a i).1.length=i∧a<=(m.mG a i).2∧(m.mG a i).2<=a+6*i|0=>by simp[Mk.mG]|i+1=>by have h1:=Mk.H_ m a i;have h2:=m.fM 1 (m.mG a i).2;simp only[vd]at h2;simp only[Mk.mG,fx,fw,kI];omega
def Mk.GO(m:Mk)(a:Nat):Nat->List au|0=>[]|i+1=>m.GO a i++[it (m.nx (a+i) 2)]
def Mk.cO(m:Mk)(a:Nat):Nat->List Int|0=>[]|i+1=>m.cO a i++[m.nx (a+i) 2]
theorem Mk.Ps(m:Mk)(a:Nat):∀i,m.GO a i=(m.cO a i).map it|0=>rfl|i+1=>by simp only[Mk.GO,Mk.cO,Mk.Ps m a i];simp
theorem Mk.Jm(m:Mk)(a:Nat):∀i,(m.GO a i).length=i|0=>rfl|i+1=>by simp only[Mk.GO,fx,Mk.Jm m a i];rfl
def Mk.nH(m:Mk):Int:=((m.aF.map oY).length:Nat)
def zEr:List au:=[it 0,it 0,it 0,.sl 4 [] true]
def zCr:List au:=[it 0,.sl 4 [] true,.sl 3 [] true]
def zH:Hd:=⟨0,0,0,[],[]⟩
def Mk.hd(m:Mk)(a:Nat):Hd:=m.aF.getD (m.nx a m.nH).toNat zH
def Mk.call(m:Mk)(a s d:Nat):Sm×Nat×Nat:=
 if m.aF.length=0∨2<=d then(S0 (s+1:Nat) 1 (m.tg a) 0 0 (qf 1) zE zC,a+1,d)
 else let h:=m.hd (a+1);let x:=m.args (a+1+1) h.params.length;(.mk (s+1:Nat) 13 (m.tg a) h.id 0 zE zE zC x.1 (m.cO x.2 h.given.length) [] [],x.2+h.given.length,d+1)
def YD(x n h:Int)(es:List Ex)(ps:List Int):encS (.mk x 13 n h 0 zE zE zC es ps [] [])= .agg ([it x,it 13,it n,it h,it 0]++(cE zE++(cE zE++(cC zC++[.sl 4 (es.map cy) false,.sl 1 (ps.map it) false,.sl 20 [] false,.sl 20 [] false])))):=by simp[encS,cS,Sm.site,Sm.op,Sm.n,Sm.m,Sm.v,Sm.x,Sm.y,Sm.c,Sm.args,Sm.cO,Sm.body,Sm.tw,uv,xr,ints]
def adt(m:Mk)(a s l p d:Nat)(hc:m.calm=false)(h:a+1000<2^60)(h' :s+10<2^60)(hd:d<2^60)(ok:m.Ok)(hh:∀h∈m.aF,h.params.length<=12∧h.given.length<=12)(hl:m.aF.length<2^30):aj prog 324 [mp] (kg m a s l p d) (encS (m.call a s d).1) (kg m (m.call a s d).2.1 (s+1) l p (m.call a s d).2.2):=by
 by_cases h0:m.aF.length=0∨2<=d
 ·have e:m.call a s d=(S0 (s+1:Nat) 1 (m.tg a) 0 0 (qf 1) zE zC,a+1,d):=by rw[Mk.call,ak h0]
  rw[e];refine(dD ((((m.aF.map oY).length:Nat):Int)==0)).elim (λh1=> ?_) (λh1=> ?_)
  ·refine fo func324 ?_;refine run ?_;repeat((apply aE;first|exact(dJ m _ _ _ _ _ E)|exact(de m _ _ _ _ _ E ok)|exact(fN _));refine run ?_)
   exact aG
  ·have h2:decide ((d:Int)>=2)=true:=(by simp at h1;simp[h1]at h0;exact az);refine fo func324 ?_;refine run ?_;repeat((apply aE;first|exact(dJ m _ _ _ _ _ E)|exact(de m _ _ _ _ _ E ok)|exact(fN _));refine run ?_)
   exact aG
 ·have n1:((((m.aF.map oY).length:Nat):Int)==0)=false:=by simp;intro e;simp[e]at h0
  have n2:decide ((d:Int)>=2)=false:=by simp at h0 ⊢;omega
  have hb:=m.bT (a+1) (n:=m.nH) (by simp[Mk.nH];simp at h0;have:=h0.1;cases hm:m.aF with|nil=>exact absurd hm this|cons _ _=>simp);have hx:(m.nx (a+1) m.nH).toNat<m.aF.length:=by have:=hb.2;simp[Mk.nH]at this ⊢;omega
  have e0:m.hd (a+1)=m.aF[(m.nx (a+1) m.nH).toNat]:=by simp[Mk.hd,List.getD,hx]
  have hp:=hh (m.hd (a+1)) (by rw[e0];simp);have e:m.call a s d=(.mk (s+1:Nat) 13 (m.tg a) (m.hd (a+1)).id 0 zE zE zC (m.args (a+1+1) (m.hd (a+1)).params.length).1 (m.cO (m.args (a+1+1) (m.hd (a+1)).params.length).2 (m.hd (a+1)).given.length) [] [],(m.args (a+1+1) (m.hd (a+1)).params.length).2+(m.hd (a+1)).given.length,d+1):=by rw[Mk.call,Z h0]
  rw[e];refine fo func324 ?_;refine run ?_;repeat((apply aE;first|exact(dJ m _ _ _ _ _ E)|exact(de m _ _ _ _ _ E ok)|exact(fN _)|exact(bB m _ _ _ _ _ m.nH E E));refine run ?_)
  refine bt.SH (m.nx (a+1) m.nH).toNat (m.hd (a+1)) E (by rw[e0];simp[hx]) rfl ?_;refine run ?_;refine bt.SH (m.nx (a+1) m.nH).toNat (m.hd (a+1)) E (by rw[e0];simp[hx]) rfl ?_;refine run ?_;refine bF.mk ⟨[.cell 3 16 20010],aY.np (((m.hd (a+1)).params.map bc).length) (λ_=>True) (λk=>⟨[(5,it k)],[(3,.agg ([it (s+1:Nat),it 13,it (m.tg a),it (m.hd (a+1)).id,it 0]++(zEr++(zEr++(zCr++[.ref 20010 (m.mG (a+1+1) k).1.length,.sl 1 [] true,.sl 20 [] true,.sl 20 [] true]))))),(1000,QB m (m.mG (a+1+1) k).2 (s+1) l p (d+1))],[(20010,⟨4,true,(m.mG (a+1+1) k).1⟩)]⟩) (trivial) ?_⟩;intro k hk hJ;have ga:=m.H_ (a+1+1) k;have gl:((m.hd (a+1)).params.map bc).length=(m.hd (a+1)).params.length:=O
  have one:∀a,a+6<2^60->aj prog 325 [mp,it 1] (kg m a (s+1) l p (d+1)) (cy (m.expr 1 a).1) (kg m ((m.expr 1 a).2) (s+1) l p (d+1)):=λa h=>qQ m (s+1) l p (d+1) Kx 1 a oC E;have ha:=jl k ((m.hd (a+1)).params.map bc).length;refine Br.mk (λhb=> ?_) (λhb=> ?_)
  ·have hk1:k<((m.hd (a+1)).params.map bc).length:=qu;refine run ?_;repeat((apply aE;first|exact(one _ E));refine run ?_)
   exact y_ hk1
  ·have hk1:k=((m.hd (a+1)).params.map bc).length:=(by simp at hb;omega);have gp:=m.Jm (m.mG (a+1+1) k).2;refine bF.mk ⟨[.cell 3 17 20016],aY.np (((m.hd (a+1)).given.map bc).length) (λ_=>True) (λj=>⟨[(6,it j)],[(3,.agg ([it (s+1:Nat),it 13,it (m.tg a),it (m.hd (a+1)).id,it 0]++(zEr++(zEr++(zCr++[.ref 20010 (m.mG (a+1+1) k).1.length,.ref 20016 (m.GO (m.mG (a+1+1) k).2 j).length,.sl 20 [] true,.sl 20 [] true]))))),(1000,QB m ((m.mG (a+1+1) k).2+j) (s+1) l p (d+1))],[(20016,⟨1,true,m.GO (m.mG (a+1+1) k).2 j⟩)]⟩) (trivial) ?_⟩;intro j hj hJ2;refine Br.mk (λhb2=> ?_) (λhb2=> ?_)
   ·have hj1:j<((m.hd (a+1)).given.map bc).length:=(by simpa using hb2);have gm:((m.hd (a+1)).given.map bc).length=(m.hd (a+1)).given.length:=by simp
    have gq:=gp j;refine run ?_;repeat((apply aE;first|exact(bB m _ _ _ _ _ _ E E));refine run ?_)
    exact y_ hj1
   refine run ?_;have hj1:j=(m.hd (a+1)).given.length:=by simp at hb2;simp at hj;omega
   subst hj1;have hk2:k=(m.hd (a+1)).params.length:=by simpa using hk1
   subst hk2;have e2:(m.args (a+1+1) (m.hd (a+1)).params.length).1.map cy=(m.mG (a+1+1) (m.hd (a+1)).params.length).1:=by rw[m.Cy]
   have e4:(m.args (a+1+1) (m.hd (a+1)).params.length).2=(m.mG (a+1+1) (m.hd (a+1)).params.length).2:=(by rw[m.Cy]);refine fP.mk ?_ ?_;rw[YD,e2,e4,<-m.Ps];rfl;rw[e4];rfl
end Abs
namespace Abs
open Go Go.Proofs
def Nb:=@List.getD_eq_getElem?_getD
structure Ms where
 a:Nat
 s:Nat
 l:Nat
 d:Nat
def Mk.other(m:Mk)(k:Int)(dep:Nat)(x:Ms):List Sm×Ms:=
 if 4<=k∧k<10 then([(m.call x.a x.s x.d).1],⟨(m.call x.a x.s x.d).2.1,x.s+1,x.l,(m.call x.a x.s x.d).2.2⟩)
 else if k=10 then([S0 (x.s+1:Nat) 14 0 0 (1+m.nx x.a 3) zE zE zC],⟨x.a+1,x.s+1,x.l,x.d⟩)
 else if k=11∧dep<2 then([S0 (x.s+1:Nat) 24 0 0 0 (m.expr 1 x.a).1 zE zC],⟨(m.expr 1 x.a).2,x.s+1,x.l,x.d⟩)
 else if k<4 then((m.simple x.a x.s).1,⟨(m.simple x.a x.s).2.1,(m.simple x.a x.s).2.2,x.l,x.d⟩)
 else([(m.risky x.a x.s).1],⟨(m.risky x.a x.s).2.1,(m.risky x.a x.s).2.2,x.l,x.d⟩)
def Mk.nested(m:Mk)(R:Nat->Ms->List Sm×Ms)(k:Int)(x:Ms):Sm×Ms:=
 if k=6 then let c:=m.cond 1 x.a;let b:=R (1+m.nx (c.2+1) 2).toNat ⟨c.2+1+1,x.s+1,x.l,x.d⟩;(.mk (x.s+1:Nat) 12 0 0 (1+m.nx c.2 3) zE zE c.1 [] [] b.1 [],b.2)
 else if k=7 then let b:=R (1+m.nx (x.a+1) 2).toNat ⟨x.a+1+1,x.s+1,x.l,x.d⟩;let e:=R (m.nx b.2.a 2).toNat ⟨b.2.a+1,b.2.s,b.2.l,b.2.d⟩;(.mk (x.s+1:Nat) 15 (m.tg x.a) 0 0 zE zE zC [] [] b.1 e.1,e.2)
 else let c:=m.cond 1 x.a;let b:=R (1+m.nx c.2 2).toNat ⟨c.2+1,x.s+1,x.l,x.d⟩;let e:=R (m.nx b.2.a 2).toNat ⟨b.2.a+1,b.2.s,b.2.l,b.2.d⟩;(.mk (x.s+1:Nat) 11 0 0 0 zE zE c.1 [] [] b.1 e.1,e.2)
def pJ(step:Ms->List Sm×Ms):Nat->Ms->List Sm×Ms|0,x=>([],x)|n+1,x=>if x.l=0 then([],x)else((step x).1++(pJ step n (step x).2).1,(pJ step n (step x).2).2)
def Mk.step(m:Mk)(dep:Nat)(R:Nat->Ms->List Sm×Ms)(x:Ms):List Sm×Ms:=
 if 0<dep∧4<=m.nx x.a 16∧m.nx x.a 16<=7 then([(m.nested R (m.nx x.a 16) ⟨x.a+1,x.s,x.l-1,x.d⟩).1],(m.nested R (m.nx x.a 16) ⟨x.a+1,x.s,x.l-1,x.d⟩).2)
 else m.other (m.nx x.a 16) dep ⟨x.a+1,x.s,x.l-1,x.d⟩
def Mk.stmts(m:Mk):Nat->Nat->Ms->List Sm×Ms|0,n,x=>pJ (m.step 0 λ_ x=>([],x)) n x|dep+1,n,x=>pJ (m.step (dep+1) (m.stmts dep)) n x
def jN(x y:Ms):Prop:=y.a+200*y.l<=x.a+200*x.l∧y.s+10*y.l<=x.s+10*x.l∧y.l<=x.l∧(x.d<=2->y.d<=2)
def jN.refl(x:Ms):jN x x:=⟨E,E,E,λh=>h⟩
def jN.trans{x y z:Ms}(h:jN x y)(k:jN y z):jN x z:=⟨by have:=h.1;have:=k.1;omega,by have:=h.2.1;have:=k.2.1;omega,by have:=h.2.2.1;have:=k.2.2.1;omega,λe=>k.2.2.2 (h.2.2.2 e)⟩
def Mk.Sn(m:Mk)(a s:Nat):(m.simple a s).2.1<=a+40∧(m.simple a s).2.2<=s+3∧(m.simple a s).1.length<=3:=by
 have h1:=m.fM 1 (a+1);have h2:=m.fM 2 (a+1+1);simp only[vd]at h1 h2;unfold Mk.simple;repeat' split
 all_goals (try dsimp only)
 all_goals refine⟨E,E,O⟩
def aeb{α:Type}{P:α->Prop}{c:Prop}[Decidable c]{x y:α}(hx:P x)(hy:P y):P (if c then x else y):=by split<;>exact gy
def Mk.XO(m:Mk)(a s:Nat):(m.risky a s).2.1<=a+40∧(m.risky a s).2.2<=s+3:=by
 have h1:=m.fM 1 (a+1);have h2:=m.fM 1 (a+1+1);have h3:=m.fM 1 (a+1+1+1);have h4:=m.fM 1 (m.expr 1 (a+1+1)).2;have h5:=m.vK 1 (a+1);simp only[vd,Eb]at h1 h2 h3 h4 h5;have key:(λz:Sm×Nat×Nat=>z.2.1<=a+40∧z.2.2<=s+3) (m.risky a s):=by
  unfold Mk.risky;repeat' refine aeb (P:=λz:Sm×Nat×Nat=>z.2.1<=a+40∧z.2.2<=s+3) ?_ ?_
  all_goals dsimp only
  all_goals omega
 exact key
def Mk.args_at(m:Mk)(a i:Nat):a<=(m.args a i).2∧(m.args a i).2<=a+6*i:=by have h:=m.H_ a i;rw[m.Cy]at h;exact h.2
def Mk.ao0(m:Mk)(a:Nat)(P:Hd->Prop)(hP:∀h∈m.aF,P h)(h0:P zH):P (m.hd a):=by unfold Mk.hd;rw[Nb];cases h:m.aF[(m.nx a m.nH).toNat]? with|none=>exact h0|some x=>exact hP x (wx h)
def Mk.ag8(m:Mk)(a s d:Nat)(hh:∀h∈m.aF,h.params.length<=12∧h.given.length<=12):(m.call a s d).2.1<=a+100∧(d<=2->(m.call a s d).2.2<=2):=by have h0:=m.ao0 (a+1) _ hh (by simp[zH]);have h1:=m.args_at (a+1+1) (m.hd (a+1)).params.length;unfold Mk.call;split;simp only;omega;simp only;omega
def Mk.Jp(m:Mk)(k:Int)(dep:Nat)(x:Ms)(hh:∀h∈m.aF,h.params.length<=12∧h.given.length<=12):(m.other k dep x).2.a<=x.a+100∧(m.other k dep x).2.s<=x.s+3∧(m.other k dep x).2.l=x.l∧(x.d<=2->(m.other k dep x).2.d<=2)∧(m.other k dep x).1.length<=3:=by
 have h1:=m.ag8 x.a x.s x.d hh;have h2:=m.Sn x.a x.s;have h3:=m.XO x.a x.s;have h4:=m.fM 1 x.a;simp only[vd]at h4;unfold Mk.other;repeat' split
 all_goals dsimp only
 all_goals refine⟨?_,?_,rfl,?_,?_⟩
 all_goals first|omega|simp|exact h1.2|exact h2.2.2|exact λh=>h
def Mk.SF(m:Mk){R:Nat->Ms->List Sm×Ms}(hR:∀n x,jN x (R n x).2)(k:Int)(x:Ms):(m.nested R k x).2.a+200*(m.nested R k x).2.l<=x.a+100+200*x.l∧(m.nested R k x).2.s+10*(m.nested R k x).2.l<=x.s+3+10*x.l∧(m.nested R k x).2.l<=x.l∧(x.d<=2->(m.nested R k x).2.d<=2):=by have h1:=m.vK 1 x.a;simp only[Eb]at h1;unfold Mk.nested;split;have h2:=hR (1+m.nx ((m.cond 1 x.a).2+1) 2).toNat ⟨(m.cond 1 x.a).2+1+1,x.s+1,x.l,x.d⟩;simp only[jN]at h2 ⊢;omega;split;have h2:=hR (1+m.nx (x.a+1) 2).toNat ⟨x.a+1+1,x.s+1,x.l,x.d⟩;have h3:=hR (m.nx (R (1+m.nx (x.a+1) 2).toNat ⟨x.a+1+1,x.s+1,x.l,x.d⟩).2.a 2).toNat ⟨(R (1+m.nx (x.a+1) 2).toNat ⟨x.a+1+1,x.s+1,x.l,x.d⟩).2.a+1,(R (1+m.nx (x.a+1) 2).toNat ⟨x.a+1+1,x.s+1,x.l,x.d⟩).2.s,(R (1+m.nx (x.a+1) 2).toNat ⟨x.a+1+1,x.s+1,x.l,x.d⟩).2.l,(R (1+m.nx (x.a+1) 2).toNat ⟨x.a+1+1,x.s+1,x.l,x.d⟩).2.d⟩;simp only[jN]at h2 h3 ⊢;omega;have h2:=hR (1+m.nx (m.cond 1 x.a).2 2).toNat ⟨(m.cond 1 x.a).2+1,x.s+1,x.l,x.d⟩;have h3:=hR (m.nx (R (1+m.nx (m.cond 1 x.a).2 2).toNat ⟨(m.cond 1 x.a).2+1,x.s+1,x.l,x.d⟩).2.a 2).toNat ⟨(R (1+m.nx (m.cond 1 x.a).2 2).toNat ⟨(m.cond 1 x.a).2+1,x.s+1,x.l,x.d⟩).2.a+1,(R (1+m.nx (m.cond 1 x.a).2 2).toNat ⟨(m.cond 1 x.a).2+1,x.s+1,x.l,x.d⟩).2.s,(R (1+m.nx (m.cond 1 x.a).2 2).toNat ⟨(m.cond 1 x.a).2+1,x.s+1,x.l,x.d⟩).2.l,(R (1+m.nx (m.cond 1 x.a).2 2).toNat ⟨(m.cond 1 x.a).2+1,x.s+1,x.l,x.d⟩).2.d⟩;simp only[jN]at h2 h3 ⊢;omega
def Mk.wK(m:Mk)(hh:∀h∈m.aF,h.params.length<=12∧h.given.length<=12)(dep:Nat){R:Nat->Ms->List Sm×Ms}(hR:∀n x,jN x (R n x).2)(x:Ms)(hl:x.l≠0):jN x (m.step dep R x).2∧(m.step dep R x).1.length<=3:=by have h1:=m.Jp (m.nx x.a 16) dep ⟨x.a+1,x.s,x.l-1,x.d⟩ hh;have h2:=m.SF hR (m.nx x.a 16) ⟨x.a+1,x.s,x.l-1,x.d⟩;unfold Mk.step;split;simp only[jN,fw,kI]at h2 ⊢;omega;simp only[jN]at h1 ⊢;omega
theorem GC{step:Ms->List Sm×Ms}(h:∀x,x.l≠0->jN x (step x).2):∀n x,jN x (pJ step n x).2|0,x=>jN.refl x|n+1,x=>by simp only[pJ];split;exact jN.refl x;rename_i hl;exact(h x hl).trans (GC h n _)
theorem Mk.lM(m:Mk)(hh:∀h∈m.aF,h.params.length<=12∧h.given.length<=12):∀dep n x,jN x (m.stmts dep n x).2|0,n,x=>GC (λx hl=>(m.wK hh 0 (λ_ x=>jN.refl x) x hl).1) n x|dep+1,n,x=>GC (λx hl=>(m.wK hh (dep+1) (m.lM hh dep) x hl).1) n x
end Abs
namespace Abs
open Go Go.Proofs Tryz
variable{G:Prop}
def Z8(h:G:=by have:=fine.ok.vars;have:=m.Wu;omega):=h
def K4(h:G:=by exact fP.mk (by rw[YC];rfl) rfl):=h
def KF(h:G:=by refine fo Tryz.func267 ?_;exact bz):=h
structure Mk.Q8(m:Mk):Prop where
 ok:m.Ok
 calm:m.calm=false
 aF:∀h∈m.aF,h.params.length<=12∧h.given.length<=12
 nh:m.aF.length<2^30
def acs(m:Mk)(k:Int)(dep a s l p d:Nat)(fine:m.Q8)(h:a+1000<2^60)(h' :s+10<2^60)(hd:d<2^60)(hk:0<=k∧k<16):aj prog 268 [mp,it k,it dep] (kg m a s l p d) (fj 20 encS (m.other k dep ⟨a,s,l,d⟩).1) (kg m (m.other k dep ⟨a,s,l,d⟩).2.a (m.other k dep ⟨a,s,l,d⟩).2.s l p (m.other k dep ⟨a,s,l,d⟩).2.d):=by
 have hc:=fine.calm;have hc' :(!m.calm)=true:=by simp[hc]
 have hv:0<m.D.vars:=Z8
 have one:∀a,a+6<2^60->aj prog 325 [mp,it 1] (kg m a (s+1) l p d) (cy (m.expr 1 a).1) (kg m ((m.expr 1 a).2) (s+1) l p d):=λa h=>qQ m (s+1) l p d hv 1 a oC E;by_cases c1:4<=k∧k<10
 ·have e:m.other k dep ⟨a,s,l,d⟩=([(m.call a s d).1],⟨(m.call a s d).2.1,s+1,l,(m.call a s d).2.2⟩):=by rw[Mk.other,ak c1]
  have e1:decide (k>=4)=true:=az
  have e2:decide (k<10)=true:=az
  rw[e];refine fo func268 ?_;refine run ?_;repeat((apply aE;first|exact(adt m a s l p d hc h h' hd fine.ok fine.aF fine.nh));refine run ?_)
  exact aG
 have e12:(decide (k>=4)&&decide (k<10))=false:=az
 by_cases c2:k=10
 ·have e:m.other k dep ⟨a,s,l,d⟩=([S0 (s+1:Nat) 14 0 0 (1+m.nx a 3) zE zE zC],⟨a+1,s+1,l,d⟩):=by rw[Mk.other,Z c1,ak c2]
  have b:=m.bT a (n:=3) E;rw[e];subst c2;refine fo func268 ?_;refine run ?_;repeat((apply aE;first|exact(dJ m _ _ _ _ _ E)|exact(bB m _ _ _ _ _ _ E E));refine run ?_)
  exact aG
 have e3:(k==10)=false:=by simpa using c2
 by_cases c3:k=11∧dep<2
 ·have e:m.other k dep ⟨a,s,l,d⟩=([S0 (s+1:Nat) 24 0 0 0 (m.expr 1 a).1 zE zC],⟨(m.expr 1 a).2,s+1,l,d⟩):=by rw[Mk.other,Z c1,Z c2,ak c3]
  have e6:decide ((dep:Int)<2)=true:=az
  rw[e];obtain⟨rfl,_⟩:=c3;refine fo func268 ?_;refine run ?_;repeat((apply aE;first|exact(dJ m _ _ _ _ _ E)|exact(one _ E));refine run ?_)
  exact aG
 by_cases c4:k<4
 ·have e:m.other k dep ⟨a,s,l,d⟩=((m.simple a s).1,⟨(m.simple a s).2.1,(m.simple a s).2.2,l,d⟩):=by rw[Mk.other,Z c1,Z c2,Z c3,ak c4]
  have e1:decide (k>=4)=false:=az
  have e4:(k==11)=false:=az
  have e5:decide (k<4)=true:=LJ
  rw[e];refine fo func268 ?_;refine run ?_;repeat((apply aE;first|exact(XC m a s l p d E E fine.ok));refine run ?_)
  exact aG
 ·have e:m.other k dep ⟨a,s,l,d⟩=([(m.risky a s).1],⟨(m.risky a s).2.1,(m.risky a s).2.2,l,d⟩):=by rw[Mk.other,Z c1,Z c2,Z c3,Z c4]
  have e1:decide (k>=4)=true:=az
  have e2:decide (k<10)=false:=az
  have e5:decide (k<4)=false:=LJ
  rw[e];refine(dD (k==11)).elim (λe4=> ?_) (λe4=> ?_)
  ·have e6:decide ((dep:Int)<2)=false:=(by simp at e4 c3 ⊢;have:=c3 e4;omega);refine fo func268 ?_;refine run ?_;repeat((apply aE;first|exact(Pn m a s l p d E E fine.ok));refine run ?_)
   exact aG
  ·refine fo func268 ?_;refine run ?_;repeat((apply aE;first|exact(Pn m a s l p d E E fine.ok));refine run ?_)
   exact aG
def ah1(m:Mk)(pb:Nat)(l' :Int)(R:Nat->Ms->List Sm×Ms):Prop:=∀(n a s l p d:Nat),n<=2->a+200*l+1000<2^59->s+10*l+100<2^59->d<=2->p<pb->l<2^50->aj prog 220 [mp,it n,it l'] (kg m a s l p d) (fj 20 encS (R n ⟨a,s,l,d⟩).1) (kg m (R n ⟨a,s,l,d⟩).2.a (R n ⟨a,s,l,d⟩).2.s (R n ⟨a,s,l,d⟩).2.l p (R n ⟨a,s,l,d⟩).2.d)
def YC(x o n v:Int)(c:Co)(b e:List Sm):encS (.mk x o n 0 v zE zE c [] [] b e)= .agg ([it x,it o,it n,it 0,it v]++(cE zE++(cE zE++(cC c++[.sl 4 [] false,.sl 1 [] false,fj 20 encS b,fj 20 encS e])))):=by simp[encS,cS,Sm.site,Sm.op,Sm.n,Sm.m,Sm.v,Sm.x,Sm.y,Sm.c,Sm.args,Sm.cO,Sm.body,Sm.tw,jK,Du,ints,fj]
def X0(m:Mk)(k:Int)(dep a s l p d:Nat)(h:dep=0∨k<4∨7<k):aj prog 267 [mp,it k,it dep] (kg m a s l p d) (.bS [encS (S0 0 0 0 0 0 zE zE zC),bo false]) (kg m a s l p d):=by
 refine(dD ((dep:Int)==0)).elim (λe1=> ?_) (λe1=> ?_);exact KF;refine(dD (decide (k<4))).elim (λe2=> ?_) (λe2=> ?_);exact KF;have e3:decide (k>7)=true:=by simp at e1 e2 ⊢;omega
 exact KF
def XZ(m:Mk)(k:Int)(dep a s l p d:Nat)(fine:m.Q8)(h:a+200*l+1100<2^59)(h' :s+10*l+103<2^59)(hd:d<=2){pb:Nat}(hpb:pb<=2^58)(hp:p+1<pb)(hl:l<2^50)(hk:4<=k∧k<=7)(auk:dep<2^50){R:Nat->Ms->List Sm×Ms}(hR:ah1 m pb (((dep+1:Nat):Int) - 1) R)(hu:∀n x,jN x (R n x).2):aj prog 267 [mp,it k,it (dep+1:Nat)] (kg m a s l p d) (.bS [encS (m.nested R k ⟨a,s,l,d⟩).1,bo true]) (kg m (m.nested R k ⟨a,s,l,d⟩).2.a (m.nested R k ⟨a,s,l,d⟩).2.s (m.nested R k ⟨a,s,l,d⟩).2.l p (m.nested R k ⟨a,s,l,d⟩).2.d):=by
 have hv:0<m.D.vars:=Z8
 have e1:(((dep+1:Nat):Int)==0)=false:=az
 have e2:decide (k<4)=false:=az
 have e3:decide (k>7)=false:=az
 have c1:aj prog 322 [mp,it 1] (kg m a (s+1) l p d) (fO (m.cond 1 a).1) (kg m ((m.cond 1 a).2) (s+1) l p d):=Ow m (s+1) l p d hv 1 a uF E;have g1:=m.vK 1 a;simp only[Eb]at g1;by_cases k6:k=6
 ·subst k6;have b1:=m.bT (m.cond 1 a).2 (n:=3) E;have b2:=m.bT ((m.cond 1 a).2+1) (n:=2) E;have n1:((1+m.nx ((m.cond 1 a).2+1) 2).toNat:Int)=1+m.nx ((m.cond 1 a).2+1) 2:=by omega
  have r1:=hR (1+m.nx ((m.cond 1 a).2+1) 2).toNat ((m.cond 1 a).2+1+1) (s+1) l (p+1) d E E E hd hp hl;rw[n1]at r1;have e:m.nested R 6 ⟨a,s,l,d⟩=(.mk (s+1:Nat) 12 0 0 (1+m.nx (m.cond 1 a).2 3) zE zE (m.cond 1 a).1 [] [] (R (1+m.nx ((m.cond 1 a).2+1) 2).toNat ⟨(m.cond 1 a).2+1+1,s+1,l,d⟩).1 [],(R (1+m.nx ((m.cond 1 a).2+1) 2).toNat ⟨(m.cond 1 a).2+1+1,s+1,l,d⟩).2):=by rw[Mk.nested,ak rfl]
  rw[e];have p1:((p+1:Nat):Int) - 1=p:=E
  refine fo func267 ?_;refine run ?_;repeat((apply aE;first|exact(dJ m _ _ _ _ _ E)|exact(c1)|exact(bB m _ _ _ _ _ _ E E)|exact(r1));refine run ?_)
  exact K4
 by_cases k7:k=7
 ·subst k7;have b2:=m.bT (a+1) (n:=2) E;have n1:((1+m.nx (a+1) 2).toNat:Int)=1+m.nx (a+1) 2:=by omega
  have u1:=hu (1+m.nx (a+1) 2).toNat ⟨a+1+1,s+1,l,d⟩;have r1:=hR (1+m.nx (a+1) 2).toNat (a+1+1) (s+1) l p d E E E hd E hl;generalize hb:R (1+m.nx (a+1) 2).toNat ⟨a+1+1,s+1,l,d⟩=b at*;have b3:=m.bT b.2.a (n:=2) E;have n2:((m.nx b.2.a 2).toNat:Int)=m.nx b.2.a 2:=E
  simp only[jN]at u1;have r2:=hR (m.nx b.2.a 2).toNat (b.2.a+1) b.2.s b.2.l p b.2.d E E E E E E;rw[n1]at r1;rw[n2]at r2;have e:m.nested R 7 ⟨a,s,l,d⟩=(.mk (s+1:Nat) 15 (m.tg a) 0 0 zE zE zC [] [] b.1 (R (m.nx b.2.a 2).toNat ⟨b.2.a+1,b.2.s,b.2.l,b.2.d⟩).1,(R (m.nx b.2.a 2).toNat ⟨b.2.a+1,b.2.s,b.2.l,b.2.d⟩).2):=by rw[Mk.nested,Z E,ak rfl];simp only[hb]
  rw[e];refine fo func267 ?_;refine run ?_;repeat((apply aE;first|exact(dJ m _ _ _ _ _ E)|exact(de m _ _ _ _ _ E fine.ok)|exact(r1)|exact(r2)|exact(bB m _ _ _ _ _ _ E E));refine run ?_)
  exact K4
 ·have k67:(k==6)=false:=by simpa using k6
  have k77:(k==7)=false:=by simpa using k7
  have b2:=m.bT (m.cond 1 a).2 (n:=2) E;have n1:((1+m.nx (m.cond 1 a).2 2).toNat:Int)=1+m.nx (m.cond 1 a).2 2:=E
  have u1:=hu (1+m.nx (m.cond 1 a).2 2).toNat ⟨(m.cond 1 a).2+1,s+1,l,d⟩;have r1:=hR (1+m.nx (m.cond 1 a).2 2).toNat ((m.cond 1 a).2+1) (s+1) l p d E E E hd E hl;generalize hb:R (1+m.nx (m.cond 1 a).2 2).toNat ⟨(m.cond 1 a).2+1,s+1,l,d⟩=b at*;have b3:=m.bT b.2.a (n:=2) E;have n2:((m.nx b.2.a 2).toNat:Int)=m.nx b.2.a 2:=E
  simp only[jN]at u1;have r2:=hR (m.nx b.2.a 2).toNat (b.2.a+1) b.2.s b.2.l p b.2.d E E E E E E;rw[n1]at r1;rw[n2]at r2;have e:m.nested R k ⟨a,s,l,d⟩=(.mk (s+1:Nat) 11 0 0 0 zE zE (m.cond 1 a).1 [] [] b.1 (R (m.nx b.2.a 2).toNat ⟨b.2.a+1,b.2.s,b.2.l,b.2.d⟩).1,(R (m.nx b.2.a 2).toNat ⟨b.2.a+1,b.2.s,b.2.l,b.2.d⟩).2):=by rw[Mk.nested,Z k6,Z k7];simp only[hb]
  rw[e];refine fo func267 ?_;refine run ?_;repeat((apply aE;first|exact(dJ m _ _ _ _ _ E)|exact(c1)|exact(r1)|exact(r2)|exact(bB m _ _ _ _ _ _ E E));refine run ?_)
  exact K4
def xJ(h:G:=by intro r;exact Ga):=h
def TV(h:G:=by refine run ?_;exact fP.mk (by rw[fj,<-z1];rfl) rfl):=h
def aY.inv{W:List Nat}{body:St->(Out->St->Prop)->Prop}{K:Out->St->Prop}{s:St}{ι:Type}(J:ι->Prop)(m:ι->we)(μ:ι->Nat)(i0:ι)(h0:J i0)(hh:Holds s (s.with W (m i0)) (m i0))(hd:zj s W=true)(hr:zi s (dm W)=true)(ht:∀i,tidy W (dm W) (m i)=true∧kl s (m i).H=true∧kj s (m i).R=true)(hb:∀i,J i->body (s.with W (m i)) λe s' =>match e with| .normal=>∃j:{i // J i},μ j.1<μ i∧s'.y=s.y∧Holds s' (s.with W (m j.1)) (m j.1)|e=>K e s'):aY W body K s:=⟨{i // J i},⟨i0,h0⟩,λi=>m i.1,λ_=>s.y,λi=>μ i.1,⟨rfl,hh⟩,hd,hr,λi=>⟨ht i.1,hb i.1 i.2⟩⟩
structure Rnd where
 i:Nat
 acc:List au
 x:Ms
structure Kc(step:Ms->List Sm×Ms)(n:Nat)(x0:Ms)(r:Rnd):Prop where
 i:r.i<=n
 out:r.acc++(pJ step (n - r.i) r.x).1.map encS=(pJ step n x0).1.map encS
 Ta :(pJ step (n - r.i) r.x).2=(pJ step n x0).2
 less:jN x0 r.x
 len:r.acc.length<=3*r.i
def Kc.next{step:Ms->List Sm×Ms}{n:Nat}{x0:Ms}{r:Rnd}(h:Kc step n x0 r)(h1:r.i<n)(h2:r.x.l≠0)(hl:jN r.x (step r.x).2)(h3:(step r.x).1.length<=3):Kc step n x0 ⟨r.i+1,r.acc++(step r.x).1.map encS,(step r.x).2⟩:=by
 have e:n - r.i=(n - (r.i+1))+1:=E
 have o:=h.out;have q:=h.Ta;rw[e]at o q;simp only[pJ,Z h2]at o q;refine⟨h1,?_,q,h.less.trans hl,?_⟩;rw[<-o];simp;have:=h.len;simp only[fx,dn];omega
def Kc.last{step:Ms->List Sm×Ms}{n:Nat}{x0:Ms}{r:Rnd}(h:Kc step n x0 r)(h1:r.i=n∨r.x.l=0):r.acc=(pJ step n x0).1.map encS∧r.x=(pJ step n x0).2:=by
 have o:=h.out;have q:=h.Ta;have e:pJ step (n - r.i) r.x=([],r.x):=by rcases h1 with h1|h1;rw[h1,lZ];rfl;cases n - r.i with|zero=>rfl|succ k=>simp only[pJ,ak h1]
 rw[e]at o q;exact⟨by simpa using o,q⟩
def Wy(m:Mk)(fine:m.Q8)(dep:Nat)(auk:dep<2^40){R:Nat->Ms->List Sm×Ms}(hu:∀n x,jN x (R n x).2)(hR:0<dep->ah1 m (2^50+1 - dep) ((dep:Int) - 1) R)(n a s l p d:Nat)(hn:n<=2^20)(h:a+200*l+1000<2^59)(h' :s+10*l+100<2^59)(hd:d<=2)(hp:p<2^50 - dep)(hl:l<2^50):aj prog 220 [mp,it n,it dep] (kg m a s l p d) (fj 20 encS (pJ (m.step dep R) n ⟨a,s,l,d⟩).1) (kg m (pJ (m.step dep R) n ⟨a,s,l,d⟩).2.a (pJ (m.step dep R) n ⟨a,s,l,d⟩).2.s (pJ (m.step dep R) n ⟨a,s,l,d⟩).2.l p (pJ (m.step dep R) n ⟨a,s,l,d⟩).2.d):=by
 refine fo func220 ?_;refine run ?_
 refine bF.mk ⟨[],aY.inv (Kc (m.step dep R) n ⟨a,s,l,d⟩) (λr=>⟨[(8,it r.i),(7,.ref 12 r.acc.length)],[(1000,QB m r.x.a r.x.s r.x.l p r.x.d)],[(12,⟨20,true,r.acc⟩)]⟩) (λr=>n - r.i) ⟨0,[],⟨a,s,l,d⟩⟩
  ⟨dM _,O,O,jN.refl _,O⟩ ?_ ?_ ?_ ?_ ?_⟩
 exact vQ;exact aA;exact aA;exact xJ;intro r hr;have q1:=hr.i;have q2:=hr.less;have q3:=hr.len;simp only[jN]at q2;by_cases hlast:r.i=n∨r.x.l=0;obtain⟨z1,z2⟩:=hr.last hlast;rw[<-z2];refine(dD (decide ((r.i:Int)<n))).elim (λb1=> ?_) (λb1=> ?_);have b2:decide ((r.x.l:Int)>0)=false:=(by simp at b1 ⊢;omega);exact TV;exact TV;have b1:decide ((r.i:Int)<n)=true:=az
 have b2:decide ((r.x.l:Int)>0)=true:=az
 have el:(r.x.l:Int) - 1=((r.x.l - 1:Nat):Int):=E
 have bk:=m.bT r.x.a (n:=16) E;have hs:=m.wK fine.aF dep hu r.x E;have hnx:=hr.next E E hs.1 hs.2
 by_cases D7:0<dep∧4<=m.nx r.x.a 16∧m.nx r.x.a 16<=7
 ·have e:m.step dep R r.x=([(m.nested R (m.nx r.x.a 16) ⟨r.x.a+1,r.x.s,r.x.l-1,r.x.d⟩).1],(m.nested R (m.nx r.x.a 16) ⟨r.x.a+1,r.x.s,r.x.l-1,r.x.d⟩).2):=by rw[Mk.step,ak D7]
  rw[e]at hnx;obtain⟨ash,rfl⟩:∃k,dep=k+1:=⟨dep - 1,E⟩;have hc:=XZ m (m.nx r.x.a 16) ash (r.x.a+1) r.x.s (r.x.l-1) p r.x.d fine E E E (pb:=2^50+1 - (ash +1)) E E E D7.2 E (hR D7.1) hu;refine run ?_;repeat((apply aE;first|exact(bB m _ _ _ _ _ _ E E)|exact(hc));refine run ?_)
  refine⟨⟨_,hnx⟩,?_,?_⟩;show n - (r.i+1)<n - r.i;omega;exact vQ
 ·have e:m.step dep R r.x=m.other (m.nx r.x.a 16) dep ⟨r.x.a+1,r.x.s,r.x.l-1,r.x.d⟩:=by rw[Mk.step,Z D7]
  rw[e]at hnx hs;have hc:=X0 m (m.nx r.x.a 16) dep (r.x.a+1) r.x.s (r.x.l-1) p r.x.d E;have hx:=(m.Jp (m.nx r.x.a 16) dep ⟨r.x.a+1,r.x.s,r.x.l-1,r.x.d⟩ fine.aF).2.2.1;have ho:aj prog 268 [mp,it (m.nx r.x.a 16),it dep] (kg m (r.x.a+1) r.x.s (r.x.l-1) p r.x.d) (fj 20 encS (m.other (m.nx r.x.a 16) dep ⟨r.x.a+1,r.x.s,r.x.l-1,r.x.d⟩).1)
   (kg m (m.other (m.nx r.x.a 16) dep ⟨r.x.a+1,r.x.s,r.x.l-1,r.x.d⟩).2.a (m.other (m.nx r.x.a 16) dep ⟨r.x.a+1,r.x.s,r.x.l-1,r.x.d⟩).2.s (m.other (m.nx r.x.a 16) dep ⟨r.x.a+1,r.x.s,r.x.l-1,r.x.d⟩).2.l p (m.other (m.nx r.x.a 16) dep ⟨r.x.a+1,r.x.s,r.x.l-1,r.x.d⟩).2.d):=by
   rw[hx];exact acs m (m.nx r.x.a 16) dep (r.x.a+1) r.x.s (r.x.l-1) p r.x.d fine E E E bk
  have h3:=hs.2;refine run ?_;repeat((apply aE;first|exact(bB m _ _ _ _ _ _ E E)|exact(hc)|exact(ho));refine run ?_)
  refine⟨⟨_,hnx⟩,?_,?_⟩;show n - (r.i+1)<n - r.i;omega;exact vQ
theorem BB(m:Mk)(fine:m.Q8)(n:Nat)(hn:n<=2^20):∀(dep a s l p d:Nat),dep<2^40->a+200*l+1000<2^59->s+10*l+100<2^59->d<=2->p<2^50 - dep->l<2^50->aj prog 220 [mp,it n,it dep] (kg m a s l p d) (fj 20 encS (m.stmts dep n ⟨a,s,l,d⟩).1) (kg m (m.stmts dep n ⟨a,s,l,d⟩).2.a (m.stmts dep n ⟨a,s,l,d⟩).2.s (m.stmts dep n ⟨a,s,l,d⟩).2.l p (m.stmts dep n ⟨a,s,l,d⟩).2.d)
 |0,a,s,l,p,d,h1,h2,h3,h4,h5,h6=>Wy m fine 0 h1 (λ_ x=>jN.refl x) (λh=>absurd h (fQ 0)) n a s l p d hn h2 h3 h4 h5 h6
 |dep+1,a,s,l,p,d,h1,h2,h3,h4,h5,h6=>by
  refine Wy m fine (dep+1) h1 (m.lM fine.aF dep) (λ_=> ?_) n a s l p d hn h2 h3 h4 h5 h6;intro n a s l p d g1 g2 g3 g4 g5 g6;have e:((dep+1:Nat):Int) - 1=(dep:Int):=E
  rw[e];exact BB m fine n E dep a s l p d E g2 g3 g4 E g6
end Abs
