/- A part of a proof: an abstract machine, proved sound, or contracts of functions. No condition. -/
import Derived.LoopN
import Derived.Deep.RegionLaw
import Init
import Derived.KernelRfl
import Derived.Test.YtakobiabkfeelaaGreatProg
import Derived.Test.YtakobiabkfeelaaGreatTrysMul
import Derived.Test.YtakobiabkfeelaaGreatT4
set_option linter.unusedVariables false
set_option linter.unusedSimpArgs false
set_option linter.defProp false
set_option maxRecDepth 100000
set_option maxHeartbeats 4000000
namespace Abs
open Go Go.Proofs Go.Shelf Go.RowKit Go.Lib
def uQ:=@List.range_succ
def Fk{G:Prop}(h:G:=by show(w.heap.push _).size=_;simp):G:=h
def kG{G:Prop}(h:G:=by simp[Act.eval,Act.put]):G:=h
def oW{G:Prop}(h:G:=by simp[dr,hs]):G:=h
def Vv{G:Prop}(h:G:=by have:j=0:=(by have:=(rD.1 hj).1;simp at this;omega);subst this;simp at hj;subst hj;rw[dO];exact(fh (w:=w) (bO w _ vb hv)).trans hx):G:=h
def D8{G:Prop}(h:G:=by rw[hW1];exact dn _ _ _ hlt):G:=h
def aB{G:Prop}(h:G:=by kernel_rfl):G:=h
def zs(n:Nat):Array Value:=(List.replicate n (Value.int .i64 0)).toArray
def mkN(n:Nat)(hn:n<=2)(w:World):(Instr.makeSlice 36 (.int .i64 n) (.int .i64 n)).run Tryz.prog w= .ok (.slice (some ⟨w.heap.size,0,none⟩) n n) (w.alloc (.cells (zs n) 3)):=by
 obtain⟨i0,hi0,hz0,hzs,hzb⟩:=info_parts (P:=Tryz.prog) (e:=3) (z:= .int .i64 0) (size:=1) (bytes:=8) aB;have h:n=0∨n=1∨n=2:=af
 unfold zs;rcases h with rfl|rfl|rfl<;>simp[Instr.makeSlice,run_underlying Tryz.underlying36,asInt,asIntOf,typeInfo,hi0,hzb,askRoom,roomBytes,Tryz.sizeOf3,Tryz.zeroValue3,newRow,IntKind.wrap,IntKind.bits,IntKind.signed,Value.cells]<;>(congr 2;apply mw;simp[uQ])
def rep2(vb vo vc:Nat)(x:Int)(w:World)(hx:w.cell? ⟨vb,vo,none⟩=some (.int .i64 x)):Calls Tryz.prog 176 #[.slice (some ⟨vb,vo,none⟩) (1:Nat) vc,.int .i64 2] w λe w' =>e= .returned (.slice (some ⟨w.heap.size,0,none⟩) 2 2)∧Frame w w' (λ_=>False)∧w'.heap.size=w.heap.size+1∧w'.heap[w.heap.size]? =some (.cells #[.int .i64 x,.int .i64 x] 3 (0,0)):=by
 have hsz:(Tryz.prog.info? 3).map (·.size)=some 1:=aB
 have hv:=mB hx;obtain⟨Z,hZ⟩:∃Z,Z=zs 2:=⟨_,rfl⟩;have h0:∀w,(Instr.makeSlice 36 (.int .i64 2) (.int .i64 2)).run Tryz.prog w= .ok (.slice (some ⟨w.heap.size,0,none⟩) 2 2) (w.alloc (.cells Z 3)):=λw=>by rw[hZ];exact mkN 2 az w
 have hN:(w.alloc (.cells Z 3)).heap[w.heap.size]? =some (.cells Z 3 (0,0)):=da w _;obtain⟨Z1,hZ1⟩:∃Z1:Array Value,Z1=(aJ Z.toList 0 [.int .i64 x]).toArray:=⟨_,rfl⟩;have hc1:=λty=>gj (P:=Tryz.prog) (w.alloc (.cells Z 3)) 36 36 ty 3 1 w.heap.size 0 2 2 ⟨vb,vo,none⟩ 1 vc 1 [.int .i64 x] Tryz.underlying36 hsz rfl rfl (λj v hj=>Vv) hN (λo _=>ag) (by rw[hZ];simp[zs]) (by simp[leaf]);rw[<-hZ1]at hc1;obtain⟨W1,hW1⟩:∃W1,W1=dr (w.alloc (.cells Z 3)) w.heap.size (.cells Z1 3):=⟨_,rfl⟩;have hlt:w.heap.size<(w.alloc (.cells Z 3)).heap.size:=by show _<(w.heap.push _).size;simp
 have hN1:W1.heap[w.heap.size]? =some (.cells Z1 3 (0,0)):=D8
 have hx1:Z1[0]? =some (.int .i64 x):=by rw[hZ1,hZ];rfl
 obtain⟨Z2,hZ2⟩:∃Z2:Array Value,Z2=(aJ Z1.toList 1 [.int .i64 x]).toArray:=⟨_,rfl⟩;have hc2:∀W:World,W.heap=W1.heap->∀ty dc sc,_:=λW hW ty dc sc=>gj (P:=Tryz.prog) W 36 36 ty 3 1 w.heap.size 1 1 dc ⟨w.heap.size,0,none⟩ 1 sc 1 [.int .i64 x] Tryz.underlying36 hsz rfl rfl (λj v hj=>by have:j=0:=(by have:=(rD.1 hj).1;simp at this;omega);subst this;simp at hj;subst hj;rw[dO];exact(eB (w:=W) (by rw[hW];exact hN1)).trans hx1) (by rw[hW];exact hN1) (λo _=>ag) (by rw[hZ1,hZ];simp[aX,zs]) (by simp[leaf]);rw[<-hZ2]at hc2;have hfin:∀W:World,W.heap=W1.heap->W.os=w.os->W.tape=w.tape->W.output=w.output->Frame w (dr W w.heap.size (.cells Z2 3)) (λ_=>False)∧(dr W w.heap.size (.cells Z2 3)).heap.size=w.heap.size+1∧(dr W w.heap.size (.cells Z2 3)).heap[w.heap.size]? =some (.cells #[.int .i64 x,.int .i64 x] 3 (0,0)):=λW e1 e2 e3 e4=>by
  have hs:W.heap.size=w.heap.size+1:=by rw[e1,hW1];show(Array.setIfInBounds (w.heap.push _) _ _).size=_;simp
  refine⟨⟨e2,e3,e4,oW,λk hk _=> ?_⟩,oW,?_⟩;rw[dC _ _ _ _ af,e1,hW1,dC _ _ _ _ af];exact bO w _ k hk;rw[dn _ _ _ af,hZ2,hZ1,hZ];rfl
 have hfB:=hc2 (dr (w.alloc (.cells Z 3)) w.heap.size (.cells Z1 3)).drew (by rw[hW1];rfl);have SO:=hfin (dr (w.alloc (.cells Z 3)) w.heap.size (.cells Z1 3)).drew (by rw[hW1];rfl) rfl rfl rfl;clear hZ hZ1 hZ2 hc2 hfin hW1 hN1
 go_enter Tryz.func176,Tryz.ntmps176
 go_wp2_with (fail)
 refine(Tryz.bits_Mul 1 2 az az _).mono ?_
 rintro e w1 ⟨rfl,rfl⟩
 dsimp only
 go_wp2_with (at_builtin;refine lG _ rfl _ _ 36 36 rfl _ _ rfl rfl (hc1 _) ?_)
 refine wp_loop_rounds 2 ?_;rw[Code.rounds]
 go_wp2
 go_region_law (refine ou rfl _ _ 36 36 rfl (.slice (some ⟨w1.heap.size,1,none⟩) 1 1) (.slice (some ⟨w1.heap.size,0,none⟩) 1 2) kG kG (hfB 3 1 2) ?_)
 go_wp2
 rw[Code.rounds]
 go_wp2
 go_ret
 exact⟨rfl,SO⟩
def rep1(vb vo vc:Nat)(x:Int)(w:World)(hx:w.cell? ⟨vb,vo,none⟩=some (.int .i64 x)):Calls Tryz.prog 176 #[.slice (some ⟨vb,vo,none⟩) (1:Nat) vc,.int .i64 1] w λe w' =>e= .returned (.slice (some ⟨w.heap.size,0,none⟩) 1 1)∧Frame w w' (λ_=>False)∧w'.heap.size=w.heap.size+1∧w'.heap[w.heap.size]? =some (.cells #[.int .i64 x] 3 (0,0)):=by
 have hsz:(Tryz.prog.info? 3).map (·.size)=some 1:=aB
 have hv:=mB hx;obtain⟨Z,hZ⟩:∃Z,Z=zs 1:=⟨_,rfl⟩;have h0:∀w,(Instr.makeSlice 36 (.int .i64 1) (.int .i64 1)).run Tryz.prog w= .ok (.slice (some ⟨w.heap.size,0,none⟩) 1 1) (w.alloc (.cells Z 3)):=λw=>by rw[hZ];exact mkN 1 az w
 have hN:(w.alloc (.cells Z 3)).heap[w.heap.size]? =some (.cells Z 3 (0,0)):=da w _;obtain⟨Z1,hZ1⟩:∃Z1:Array Value,Z1=(aJ Z.toList 0 [.int .i64 x]).toArray:=⟨_,rfl⟩;have hc1:=λty=>gj (P:=Tryz.prog) (w.alloc (.cells Z 3)) 36 36 ty 3 1 w.heap.size 0 1 1 ⟨vb,vo,none⟩ 1 vc 1 [.int .i64 x] Tryz.underlying36 hsz rfl rfl (λj v hj=>Vv) hN (λo _=>ag) (by rw[hZ];simp[zs]) (by simp[leaf]);rw[<-hZ1]at hc1;have hlt:w.heap.size<(w.alloc (.cells Z 3)).heap.size:=by show _<(w.heap.push _).size;simp
 have SO:Frame w (dr (w.alloc (.cells Z 3)) w.heap.size (.cells Z1 3)) (λ_=>False)∧(dr (w.alloc (.cells Z 3)) w.heap.size (.cells Z1 3)).heap.size=w.heap.size+1∧(dr (w.alloc (.cells Z 3)) w.heap.size (.cells Z1 3)).heap[w.heap.size]? =some (.cells #[.int .i64 x] 3 (0,0)):=by
  have hs:(w.alloc (.cells Z 3)).heap.size=w.heap.size+1:=Fk
  refine⟨⟨rfl,rfl,rfl,oW,λk hk _=> ?_⟩,oW,?_⟩;rw[dC _ _ _ _ af];exact bO w _ k hk;rw[dn _ _ _ af,hZ1,hZ];rfl
 clear hZ hZ1
 go_enter Tryz.func176,Tryz.ntmps176
 go_wp2_with (fail)
 refine(Tryz.bits_Mul 1 1 az az _).mono ?_
 rintro e w1 ⟨rfl,rfl⟩
 dsimp only
 go_wp2_with (at_builtin;refine lG _ rfl _ _ 36 36 rfl _ _ rfl rfl (hc1 _) ?_)
 refine wp_loop_rounds 1 ?_;rw[Code.rounds]
 go_wp2
 go_ret
 exact⟨rfl,SO⟩
def rep0(vb vo vc:Nat)(x:Int)(w:World)(hx:w.cell? ⟨vb,vo,none⟩=some (.int .i64 x)):Calls Tryz.prog 176 #[.slice (some ⟨vb,vo,none⟩) (1:Nat) vc,.int .i64 0] w λe w' =>e= .returned (.slice (some ⟨w.heap.size,0,none⟩) 0 0)∧Frame w w' (λ_=>False)∧w'.heap.size=w.heap.size+1∧w'.heap[w.heap.size]? =some (.cells #[] 3 (0,0)):=by
 obtain⟨Z,hZ⟩:∃Z,Z=zs 0:=⟨_,rfl⟩;have h0:∀w,(Instr.makeSlice 36 (.int .i64 0) (.int .i64 0)).run Tryz.prog w= .ok (.slice (some ⟨w.heap.size,0,none⟩) 0 0) (w.alloc (.cells Z 3)):=λw=>by rw[hZ];exact mkN 0 az w
 have hc1:=λty=>run_copy_none (P:=Tryz.prog) (w.alloc (.cells Z 3)) 36 36 ty 3 (some ⟨w.heap.size,0,none⟩) (some ⟨vb,vo,none⟩) 0 0 1 vc Tryz.underlying36 aB rfl;have SO:Frame w (w.alloc (.cells Z 3)) (λ_=>False)∧(w.alloc (.cells Z 3)).heap.size=w.heap.size+1∧(w.alloc (.cells Z 3)).heap[w.heap.size]? =some (.cells #[] 3 (0,0)):=by
  have hs:(w.alloc (.cells Z 3)).heap.size=w.heap.size+1:=Fk
  exact⟨⟨rfl,rfl,rfl,af,λk hk _=>bO w _ k hk⟩,hs,by rw[hZ];exact da w _⟩
 clear hZ
 go_enter Tryz.func176,Tryz.ntmps176
 go_wp2_with (fail)
 refine(Tryz.bits_Mul 1 0 az az _).mono ?_
 rintro e w1 ⟨rfl,rfl⟩
 dsimp only
 go_wp2_with (at_builtin;refine lG _ rfl _ _ 36 36 rfl _ _ rfl rfl (hc1 _) ?_)
 refine wp_loop_rounds 1 ?_;rw[Code.rounds]
 go_wp2
 go_ret
 exact⟨rfl,SO⟩
end Abs
namespace Abs
def dX:=@Int.natCast_nonneg
def fw:=@Int.tmod_lt_of_pos
def dz:=@Int.tmod_nonneg
def uL:=@Int.eq_ofNat_of_zero_le
def oc:=@Int.mul_nonneg
def zg:=@Nat.pow_le_pow_right
def Fp:=@Int.tmod_eq_emod_of_nonneg
def Ch:=@BitVec.ofInt_natCast
def pd:=@Int.le_refl
def EG:=@Int.mul_ediv_add_emod
def xY:=@Int.ediv_nonneg
def ED:=@BitVec.toNat_ofNat
def Ey:=@Int.ofNat_eq_zero
def xT:=@Int.le_of_lt
def Eu:=@Nat.mod_eq_of_lt
def Et:=@BitVec.toNat_and
def R4:=@Int.mul_le_mul_of_nonneg_left
def Ka:=@Nat.gcd_eq_zero_iff
def J_:=@Nat.lt_of_le_of_lt
def J9:=@Int.lt_tmod_of_pos
def J4:=@Nat.and_le_right
def iT{G:Prop}(h:G:=by split<;>omega):G:=h
def Re{G:Prop}(h:G:=by exact⟨⟨h1,pd _,by exact bu,hk,hk',by exact bu,λ_=>⟨rfl,rfl⟩,λh=>by dsimp only at h;omega,by simp,λh=>by dsimp only at h;omega⟩,rfl,h2,rfl⟩):G:=h
structure Av where
 lo:Int
 hi:Int
 m:Int
 r:Int
 mask:Int
 deriving DecidableEq
def iD(a b:Int):Int:=((BitVec.ofInt 64 a|||BitVec.ofInt 64 b).toNat:Nat)
def bz(a b:Int):Int:=((BitVec.ofInt 64 a&&&BitVec.ofInt 64 b).toNat:Nat)
def kO(a b:Int):Int:=((BitVec.ofInt 64 a&&& ~~~BitVec.ofInt 64 b).toNat:Nat)
def lU(a m:Int):Int:=(a.tmod m+m).tmod m
def m7(lo hi m k:Int):Av:=
 if 0<m then(if lo=hi - (hi - lo).tmod m then⟨lo,lo,1,0,k⟩else⟨lo,hi - (hi - lo).tmod m,m,lU lo m,k⟩)
 else(if lo=hi then⟨lo,lo,1,0,k⟩else⟨lo,hi,m,lU lo m,k⟩)
def aD(a:Av):Int:=if a.lo=a.hi then 0 else a.m
def kv(v k:Int):Av:=⟨v,v,1,0,k⟩
def zA:Av:=⟨0,0,0,0,0⟩
def Hq(k:Int):Av:=m7 (-2147483648) 2147483647 1 k
def dK(a:Int)(l:List Int):Nat:=l.foldl (λg b=>Nat.gcd g b.natAbs) a.natAbs
def BE(r m lo hi k:Int):Av:=m7 (lo+lU (r - lo) m) hi m k
def fR(a b:Av):Av:=m7 (if b.lo<a.lo then b.lo else a.lo) (if b.hi>a.hi then b.hi else a.hi) (dK (aD a) [aD b,(a.lo - b.lo).natAbs]) (iD a.mask b.mask)
structure aU(a:Av):Prop where
 lo: -2147483648<=a.lo
 le:a.lo<=a.hi
 hi:a.hi<=2147483647
 k0:0<=a.mask
 k1:a.mask<=255
 m:1<=a.m
 one:a.lo=a.hi->a.m=1∧a.r=0
 many:a.lo<a.hi->a.m<=a.hi - a.lo
 div:(a.hi - a.lo).tmod a.m=0
 res:a.lo<a.hi->a.r=lU a.lo a.m
def rO{a b:Int}{n:Nat}(hn:n<64)(ha:0<=a)(ha' :a<2^n)(hb:0<=b)(hb' :b<2^n):0<=iD a b∧iD a b<2^n:=by
 obtain⟨x,rfl⟩:=uL ha;obtain⟨y,rfl⟩:=uL hb;have hx:x<2^n:=by exact_mod_cast ha'
 have hy:y<2^n:=by exact_mod_cast hb'
 have h64:2^n<=2^64:=zg af af;refine⟨dX _,?_⟩;unfold iD;rw[Ch,Ch,BitVec.toNat_or,ED,ED,Eu af,Eu af];exact_mod_cast Nat.or_lt_two_pow hx hy
def iP{a b:Int}{n:Nat}(hn:n<64)(hb:0<=b)(hb' :b<2^n):0<=bz a b∧bz a b<2^n:=by
 obtain⟨y,rfl⟩:=uL hb;have hy:y<2^n:=by exact_mod_cast hb'
 have h64:2^n<=2^64:=zg af af;refine⟨dX _,?_⟩;unfold bz;rw[Ch,Et,ED,Eu (b:=2^64) af];exact_mod_cast J_ J4 hy
def B8{a b:Int}{n:Nat}(hn:n<64)(ha:0<=a)(ha' :a<2^n):0<=kO a b∧kO a b<2^n:=by
 obtain⟨x,rfl⟩:=uL ha;have hx:x<2^n:=by exact_mod_cast ha'
 have h64:2^n<=2^64:=zg af af;refine⟨dX _,?_⟩;unfold kO;rw[Ch,Et,ED,Eu (b:=2^64) af];exact_mod_cast J_ Nat.and_le_left hx
def or8{a b:Int}(ha:0<=a)(ha' :a<=255)(hb:0<=b)(hb' :b<=255):0<=iD a b∧iD a b<=255:=by have:=rO (n:=8) af ha af hb af;omega
def and8{a b:Int}(hb:0<=b)(hb' :b<=255):0<=bz a b∧bz a b<=255:=by have:=iP (a:=a) (n:=8) af hb af;omega
def pB(a:Int){m:Int}(h:0<m): -m<a.tmod m∧a.tmod m<m:=⟨J9 _ h,fw _ h⟩
def tF(a:Int){m:Int}(h:0<m):0<=lU a m∧lU a m<m:=by have:=pB a h;exact⟨dz _ af,fw _ h⟩
def Ba{a m:Int}(ha:0<=a)(h:0<m):0<=a.tmod m∧a.tmod m<m∧a.tmod m<=a∧(a - a.tmod m).tmod m=0:=by
 refine⟨dz _ ha,fw _ h,?_,?_⟩;rw[Fp ha];have h1:=EG a m;have h2:=oc (xT h) (xY ha (xT h));omega;rw[Fp ha];have h1:=EG a m;have h2:a - a%m=m*(a / m):=af
 rw[h2];exact Int.mul_tmod_right _ _
def kL{lo hi m k:Int}(h1: -2147483648<=lo)(h2:lo<=hi)(h3:hi<=2147483647)(hk:0<=k)(hk' :k<=255)(hm:0<=m)(h0:m=0->lo=hi):aU (m7 lo hi m k)∧(m7 lo hi m k).lo=lo∧(m7 lo hi m k).hi<=hi∧(m7 lo hi m k).mask=k:=by
 unfold m7;by_cases hp:0<m;obtain⟨t1,t2,t3,t4⟩:=Ba (a:=hi - lo) (m:=m) af hp;rw[aq hp];split;exact Re;rename_i hne;have e:hi - (hi - lo).tmod m - lo=(hi - lo) - (hi - lo).tmod m:=af
 have hle:m<=hi - (hi - lo).tmod m - lo:=(by rw[e];obtain⟨q,hq⟩:=Int.dvd_of_tmod_eq_zero t4;rcases Int.lt_or_le 0 q with hq0|hq0;have:m*1<=m*q:=R4 af hm;omega;have:m*q<=m*0:=R4 hq0 hm;omega);refine⟨⟨h1,bu,bu,hk,hk',bu,λh=>by dsimp only at h;omega,λh=>hle,?_,λ_=>rfl⟩,rfl,bu,rfl⟩;dsimp only;rw[e];exact t4;have e:lo=hi:=h0 af;rw[ah hp,aq e];exact Re
def jm{v k:Int}(h1: -2147483648<=v)(h2:v<=2147483647)(hk:0<=k)(hk' :k<=255):aU (kv v k):=⟨h1,pd _,h2,hk,hk',by simp[kv],λ_=>⟨rfl,rfl⟩,λh=>by simp[kv]at h,by simp[kv],λh=>by simp[kv]at h⟩
def mT{a:Int}{l:List Int}(h:dK a l=0):a=0∧∀x∈l,x=0:=by
 unfold dK at h;have key:∀(l:List Int) (g:Nat),l.foldl (λg b=>Nat.gcd g b.natAbs) g=0->g=0∧∀x∈l,x=0:=by intro l;induction l with|nil=>intro g h;exact⟨h,ag⟩|cons y l ih=>intro g h;obtain⟨h1,h2⟩:=ih _ h;rw[Ka]at h1;refine⟨h1.1,λx hx=> ?_⟩;rcases bT.1 hx with rfl|hx;exact Int.natAbs_eq_zero.1 h1.2;exact h2 x hx
 obtain⟨h1,h2⟩:=key l _ h;exact⟨Int.natAbs_eq_zero.1 h1,h2⟩
def pt{a:Int}{l:List Int}{x:Int}(hx:x∈a::l)(h0:x≠0):dK a l<=x.natAbs:=by
 have key:∀(l:List Int) (g:Nat),l.foldl (λg b=>Nat.gcd g b.natAbs) g∣g∧∀x∈l,l.foldl (λg b=>Nat.gcd g b.natAbs) g∣x.natAbs:=by intro l;induction l with|nil=>intro g;exact⟨Nat.dvd_refl _,ag⟩|cons y l ih=>intro g;obtain⟨h1,h2⟩:=ih (Nat.gcd g y.natAbs);refine⟨Nat.dvd_trans h1 (Nat.gcd_dvd_left _ _),λx hx=> ?_⟩;rcases bT.1 hx with rfl|hx;exact Nat.dvd_trans h1 (Nat.gcd_dvd_right _ _);exact h2 x hx
 obtain⟨h1,h2⟩:=key l a.natAbs;have hp:0<x.natAbs:=Int.natAbs_pos.2 h0;rcases bT.1 hx with rfl|hx;exact Nat.le_of_dvd hp h1;exact Nat.le_of_dvd hp (h2 x hx)
def gX{a:Av}(h:aU a):0<=aD a∧aD a<=a.hi - a.lo∧(aD a=0↔a.lo=a.hi):=by have h1:=h.le;have h2:=h.m;unfold aD;split;rename_i e;omega;have h3:=h.many af;omega
def qH{a b:Av}(ha:aU a)(hb:aU b):aU (fR a b)∧(fR a b).mask=iD a.mask b.mask:=by have m:=or8 ha.k0 ha.k1 hb.k0 hb.k1;have h1:=ha.le;have h2:=hb.le;have h3:=ha.lo;have h4:=hb.lo;have h5:=ha.hi;have h6:=hb.hi;have s1:=gX ha;have s2:=gX hb;have:=kL (lo:=if b.lo<a.lo then b.lo else a.lo) (hi:=if b.hi>a.hi then b.hi else a.hi) (m:=dK (aD a) [aD b,(a.lo - b.lo).natAbs]) (k:=iD a.mask b.mask) iT (by split<;>split<;>omega) iT m.1 m.2 (dX _) (λh=>by obtain⟨e1,e2⟩:=mT (Ey.1 h);have e3:=e2 (aD b) ag;have e4:=e2 ((a.lo - b.lo).natAbs) ag;have e5:=s1.2.2.1 e1;have e6:=s2.2.2.1 e3;split<;>split<;>omega);exact⟨this.1,this.2.2.2⟩
end Abs
namespace Abs
def gP:=@Int.tdiv_eq_ediv_of_nonneg
def sC:=@Int.mul_le_mul
def AQ:=@Int.mul_eq_zero
def Ew:=@Int.emod_eq_of_lt
def Kj:=@Int.mul_tdiv_add_tmod
def R5:=@Int.mul_le_mul_of_nonneg_right
def V5{G:Prop}(h:G:=by show 0<b.m.tdiv _;exact Int.lt_of_lt_of_le (by decide) q4):G:=h
def uE{G:Prop}(h:G:=by unfold mn;split<;>omega):G:=h
def oZ{G:Prop}(h:G:=by unfold mx;split<;>omega):G:=h
def RK{G:Prop}(h:G:=by obtain⟨e1,e2⟩:=mT (Ey.1 h);exact⟨s1.2.2.1 e1,s2.2.2.1 (e2 _ (by simp))⟩):G:=h
def Rm{G:Prop}(h:G:=by exact Od (by omega) m.1 m.2 (dX _) (λh=>by have:=g0 h;omega)):G:=h
def Hy(v:Int):Int:=Int.bmod v (2^64)
def mn(a b:Int):Int:=if b<a then b else a
def mx(a b:Int):Int:=if b>a then b else a
def aS(a:Int):Int:=if 0 - a>a then 0 - a else a
def MI:Int:= -2147483648
def MA:Int:=2147483647
def pT(n:Int):Bool:=decide (-2147483648<=n)&&decide (n<=2147483647)
def jV(a:Av):Int:=(a.hi - a.lo).tdiv a.m+1
def sD(b:Av)(v:Int):Bool:=decide (v>=b.lo)&&(decide (v<=b.hi)&&((v - b.lo).tmod b.m==0))
def qL(b:Av)(k:Int)(o:Option Av)(v:Int):Option Av:=if sD b v then some (match o with|none=>kv v k|some x=>fR x (kv v k))else o
def ln(a b:Av)(k:Int):Nat->Option Av|0=>none|n+1=>qL b k (ln a b k n) (a.lo+n*a.m)
def NS(a b:Av)(k:Int):Option Av:=ln a b k (jV a).toNat
def GC:Nat->Int->Int->Int->Int->Int|0,x,_,_,_=>x|n+1,x,y,a,r=>if r=0 then x else GC n y (Hy (x - Hy (a.tdiv r*y))) r (a.tmod r)
def DZ(a m:Int):Int:=if m=1 then 0 else lU (GC (m.toNat+2) 1 0 (a.tmod m) m) m
def iG(a b:Av):Int:=dK a.m [b.m]
def iv(a b:Av):Int:=b.m.tdiv (iG a b)
def Dx(a b:Av):Int:=lU (lU ((b.lo - a.lo).tdiv (iG a b)) (iv a b)*DZ (a.m.tdiv (iG a b)) (iv a b)) (iv a b)
def BA(a b:Av):Int:=mx a.lo b.lo+lU (a.lo+a.m*Dx a b - mx a.lo b.lo) (a.m*iv a b)
def kY(a b:Av):Option Av:=
 if jV a<=64 then NS a b (bz a.mask b.mask)
 else if jV b<=64 then NS b a (bz a.mask b.mask)
 else if (b.lo - a.lo).tmod (iG a b)≠0 then none
 else if BA a b>mn a.hi b.hi then none
 else some (m7 (BA a b) (mn a.hi b.hi) (a.m*iv a b) (bz a.mask b.mask))
def DM(a:Av)(lo:Int):Int:=mx a.lo lo+lU (a.lo - mx a.lo lo) a.m
def qg(a:Av)(lo hi:Int):Option Av:=if DM a lo>mn a.hi hi then none else some (m7 (DM a lo) (mn a.hi hi) a.m a.mask)
def vN(a b:Av)(d:Int):Option (Av×Av):=match qg a MI (b.hi - d),qg b (a.lo+d) MA with|some x,some y=>some (x,y)|_,_=>none
def jZ(a b:Av):Option Av:=if aD b≠0 then some a else if a.lo=b.lo then qg a (a.lo+1) MA else if a.hi=b.lo then qg a MI (a.hi - 1)else some a
def equalA(a b:Av):Option (Av×Av):=match kY a b with|some m=>some ({m with mask:=a.mask},{m with mask:=b.mask})|none=>none
def sJ(op:Int)(h:Bool)(a b:Av):Option (Av×Av):=
 if op=4 then(if h then equalA a b else match jZ a b with
  |none=>none|some x=>match jZ b x with|none=>none|some y=>some (x,y))
 else if op=2∨op=3 then(if h then vN a b (3 - op)else match vN b a (1 - (3 - op))with
  |some (y,x)=>some (x,y)|none=>none)
 else some (a,b)
def Ah(v:Int):Int:=Int.bmod v 4294967296
def CA(op a b:Int):Int:=
 if op=4 then Ah (a+b)else if op=5 then Ah (a - b)else if op=6 then Ah (a*b)
 else if op=7 then(if b=0 then Ah 0 else Ah (a.tdiv b))else if op=8 then(if b=0 then Ah a else Ah (a.tmod b))
 else if op=9 then Ah (mn a b)else if op=10 then Ah (mx a b)else 0
def yR(op a b:Int):Int:=CA op (Ah a) (Ah b)
def oM(lo hi m k:Int):Av:=if pT lo&&pT hi then m7 lo hi m k else BE lo (dK 4294967296 [m]) MI MA k
def sL(a b:Av):Int:=mn (mn (mn (a.lo*b.lo) (a.lo*b.hi)) (a.hi*b.lo)) (a.hi*b.hi)
def sM(a b:Av):Int:=mx (mx (mx (a.lo*b.lo) (a.lo*b.hi)) (a.hi*b.lo)) (a.hi*b.hi)
def mulM(a b:Av):Int:=dK (aS a.lo*aD b) [aS b.lo*aD a,Hy (aD a*aD b)]
def mU(a b:Av):Int:=if aD b=0∧b.lo≠0 then mn (a.lo.tdiv b.lo) (a.hi.tdiv b.lo)else if a.lo<0∨b.lo<0 then 0 - mx (aS a.lo) (aS a.hi)else 0
def mV(a b:Av):Int:=if aD b=0∧b.lo≠0 then mx (a.lo.tdiv b.lo) (a.hi.tdiv b.lo)else if a.lo<0∨b.lo<0 then mx (aS a.lo) (aS a.hi)else a.hi
def divA(a b:Av)(k:Int):Av:=if pT (mU a b)&&pT (mV a b)then m7 (mU a b) (mV a b) 1 k else Hq k
def Xo(a b:Av)(k:Int):Av:=
 if aD b≠0 then m7 (mn a.lo 0) (mx a.hi 0) 1 k
 else if aS b.lo=0∨(a.lo>=0∧a.hi<aS b.lo)then{a with mask:=k}
 else BE a.lo (dK (aD a) [aS b.lo]) (mx (mn a.lo 0) (1 - aS b.lo)) (mn (mx a.hi 0) (aS b.lo - 1)) k
def jB(a b:Av):Int:=dK (aD a) [aD b,aS (a.lo - b.lo)]
def HK(op:Int)(a b:Av)(k:Int):Av:=
 if op=4 then oM (a.lo+b.lo) (a.hi+b.hi) (dK (aD a) [aD b]) k
 else if op=5 then oM (a.lo - b.hi) (a.hi - b.lo) (dK (aD a) [aD b]) k
 else if op=6 then oM (sL a b) (sM a b) (mulM a b) k
 else if op=7 then divA a b k
 else if op=8 then Xo a b k
 else if op=9 then m7 (mn a.lo b.lo) (mn a.hi b.hi) (jB a b) k
 else m7 (mx a.lo b.lo) (mx a.hi b.hi) (jB a b) k
def opA(op:Int)(a b:Av):Av:=
 if (aD a=0∧aD b=0)∨op<4∨op>10 then kv (yR op a.lo b.lo) (iD a.mask b.mask)
 else HK op a b (iD a.mask b.mask)
def Dw(a b:Int):mn a b<=a∧mn a b<=b:=uE
def sO(a b:Int):a<=mx a b∧b<=mx a b:=oZ
def Ip(a:Int){m:Int}(h:0<m):lU a m=a%m:=by
 have t:=pB a h;unfold lU;rw[Fp af];have h1:=Kj a m;have h2:a.tmod m=a - m*a.tdiv m:=af
 have e:a.tmod m+m=a+m*(1 - a.tdiv m):=by rw[h2,Int.mul_sub,Int.mul_one];omega
 rw[e,Int.add_mul_emod_self_left]
def kM(a:Int):aS a=a.natAbs:=by unfold aS;split<;>omega
def Ks(v:Int):MI<=Ah v∧Ah v<=MA:=by have h1:Ah v<2147483648:=Int.bmod_lt (x:=v) (m:=4294967296) af;have h2: -2147483648<=Ah v:=Int.le_bmod (x:=v) (m:=4294967296) af;unfold MI MA;omega
def MT(op a b:Int):MI<=yR op a b∧yR op a b<=MA:=by
 unfold yR CA;repeat' split
 all_goals first|exact Ks _|decide
def Oh{k:Int}(hk:0<=k)(hk' :k<=255):aU (Hq k):=(kL af af af hk hk' af af).1
theorem Lp{a b:Av}{k:Int}(ha:aU a)(hk:0<=k)(hk' :k<=255):∀(n:Nat),n<=(jV a).toNat->∀x,ln a b k n=some x->aU x
 |0,_,x,h=>jl
 |n+1,hn,x,h=>by
  have ih:=Lp (b:=b) ha hk hk' n af;have hv:a.lo<=a.lo+n*a.m∧a.lo+n*a.m<=a.hi:=by
   have hm:=ha.m;have hd:(n:Int)<=(a.hi - a.lo).tdiv a.m:=by unfold jV at hn;omega
   have hle:=ha.le;rw[gP af]at hd;have h1:(n:Int)*a.m<=(a.hi - a.lo) / a.m*a.m:=R5 hd af;have h2:=Int.ediv_mul_le (a.hi - a.lo) (b:=a.m) af;have h3:0<=(n:Int)*a.m:=oc af af;omega
  have ho:aU (kv (a.lo+n*a.m) k):=jm (by have:=ha.lo;omega) (by have:=ha.hi;omega) hk hk';rw[ln]at h;unfold qL at h;split at h;cases hx:ln a b k n with|none=>rw[hx]at h;cases h;exact ho|some y=>rw[hx]at h;cases h;exact(qH (ih y hx) ho).1
  exact ih x h
def Mf{a b:Int}(ha:1<=a)(hb:1<=b):1<=(dK a [b]:Int)∧(dK a [b]:Int)<=a∧(dK a [b]:Int)<=b∧1<=b.tdiv (dK a [b])∧b.tdiv (dK a [b])<=b∧1<=a.tdiv (dK a [b])∧a.tdiv (dK a [b])<=a:=by obtain⟨x,rfl⟩:=uL (show 0<=a by omega);obtain⟨y,rfl⟩:=uL (show 0<=b by omega);have e:dK (x:Int) [(y:Int)]=Nat.gcd x y:=rfl;rw[e];have h1:0<Nat.gcd x y:=Nat.gcd_pos_of_pos_left _ af;have h2:Nat.gcd x y<=x:=Nat.gcd_le_left _ af;have h3:Nat.gcd x y<=y:=Nat.gcd_le_right _ af;have h4:0<y / Nat.gcd x y:=Nat.div_pos h3 h1;have h5:0<x / Nat.gcd x y:=Nat.div_pos h2 h1;have h6:y / Nat.gcd x y<=y:=Nat.div_le_self _ _;have h7:x / Nat.gcd x y<=x:=Nat.div_le_self _ _;have e1:((y:Int)).tdiv (Nat.gcd x y:Nat)=((y / Nat.gcd x y:Nat):Int):=rfl;have e2:((x:Int)).tdiv (Nat.gcd x y:Nat)=((x / Nat.gcd x y:Nat):Int):=rfl;rw[e1,e2];omega
def N9{a:Av}(ha:aU a)(h:¬jV a<=64):a.m<2^26:=by
 have hm:=ha.m;have h1:=ha.lo;have h2:=ha.hi;have h3:=ha.le;unfold jV at h;rw[gP af]at h;have h4:64<=(a.hi - a.lo) / a.m:=af
 have h5:64*a.m<=(a.hi - a.lo) / a.m*a.m:=R5 h4 af;have h6:=Int.ediv_mul_le (a.hi - a.lo) (b:=a.m) af;omega
def EU{a b:Av}(ha:aU a)(hb:aU b){x:Av}(h:kY a b=some x):aU x:=by have hk:=and8 (a:=a.mask) hb.k0 hb.k1;unfold kY at h;split at h;exact Lp ha hk.1 hk.2 _ (cu _) x h;split at h;exact Lp hb hk.1 hk.2 _ (cu _) x h;split at h;cases h;split at h;cases h;rename_i h1 h2 h3 h4;cases h;obtain⟨q1,q2,q3,q4,q5,q6,q7⟩:=Mf ha.m hb.m;have hp:0<a.m*iv a b:=Int.mul_pos (by have:=ha.m;omega) V5;have hF:=tF (a.lo+a.m*Dx a b - mx a.lo b.lo) hp;refine(kL ?_ af ?_ hk.1 hk.2 af af).1;unfold BA;have:=ha.lo;have:=sO a.lo b.lo;omega;have:=ha.hi;have:=hb.hi;unfold mn;split<;>omega
def LD{a:Av}{lo hi:Int}(ha:aU a){x:Av}(h:qg a lo hi=some x):aU x∧x.mask=a.mask:=by unfold qg at h;split at h;cases h;cases h;have hm:=ha.m;have hF:=tF (a.lo - mx a.lo lo) (show 0<a.m by omega);have:=kL (lo:=DM a lo) (hi:=mn a.hi hi) (m:=a.m) (k:=a.mask) (by unfold DM;have:=ha.lo;have:=sO a.lo lo;omega) af (by have:=ha.hi;unfold mn;split<;>omega) ha.k0 ha.k1 af af;exact⟨this.1,this.2.2.2⟩
def SF{a b:Av}{d:Int}(ha:aU a)(hb:aU b){x y:Av}(h:vN a b d=some (x,y)):aU x∧aU y:=by unfold vN at h;split at h;rename_i h1 h2;cases h;exact⟨(LD ha h1).1,(LD hb h2).1⟩;cases h
def zk{a b:Av}(ha:aU a){x:Av}(h:jZ a b=some x):aU x:=by
 unfold jZ at h;repeat' split at h
 all_goals first|(cases h;exact ha)|exact(LD ha h).1
def EV{a:Av}(ha:aU a){k:Int}(hk:0<=k)(hk' :k<=255):aU {a with mask:=k}:=⟨ha.lo,ha.le,ha.hi,hk,hk',ha.m,ha.one,ha.many,ha.div,ha.res⟩
def TQ{op:Int}{h:Bool}{a b:Av}(ha:aU a)(hb:aU b){x y:Av}(e:sJ op h a b=some (x,y)):aU x∧aU y:=by unfold sJ at e;split at e;split at e;unfold equalA at e;split at e;rename_i m hm;cases e;exact⟨EV (EU ha hb hm) ha.k0 ha.k1,EV (EU ha hb hm) hb.k0 hb.k1⟩;cases e;split at e;cases e;rename_i u hu;split at e;cases e;rename_i v hv;cases e;exact⟨zk ha hu,zk hb hv⟩;split at e;split at e;exact SF ha hb e;split at e;rename_i u v hu;cases e;exact(SF hb ha hu).symm;cases e;cases e;exact⟨ha,hb⟩
def SE{r m lo hi k t:Int}(hm:1<=m)(h1: -2147483648<=lo)(h3:hi<=2147483647)(hk:0<=k)(hk' :k<=255)(ht:lo<=t)(ht' :t<=hi)(hd:m∣t - r):aU (BE r m lo hi k):=by
 have hp:0<m:=af
 have hF:=tF (r - lo) hp;have hle:lo+lU (r - lo) m<=t:=by
  rw[Ip _ hp];have e:(r - lo)%m=(t - lo)%m:=by
   obtain⟨q,hq⟩:=hd;have:t - lo=(r - lo)+m*q:=af
   rw[this,Int.add_mul_emod_self_left]
  rw[e];have h2:=EG (t - lo) m;have h4:=oc (xT hp) (xY (show 0<=t - lo by omega) (xT hp));omega
 exact(kL af af h3 hk hk' af af).1
def YX(m:Int):1<=(dK 4294967296 [m]:Int)∧(dK 4294967296 [m]:Int)<=4294967296:=by
 have h1:0<dK 4294967296 [m]:=Nat.pos_of_ne_zero λh=>by have:=(mT h).1;omega
 have h2:=pt (a:=4294967296) (l:=[m]) (x:=4294967296) ag af;omega
def Od{lo hi m k:Int}(h:lo<=hi)(hk:0<=k)(hk' :k<=255)(hm:0<=m)(h0:m=0->lo=hi):aU (oM lo hi m k):=by
 unfold oM;split;rename_i hb;simp only[pT,bc,yd]at hb;exact(kL hb.1.1 h hb.2.2 hk hk' hm h0).1;have g:=YX m;have hp:0<(dK 4294967296 [m]:Int):=af
 have hF:=tF (lo - MI) hp;refine SE (t:=MI+lU (lo - MI) (dK 4294967296 [m])) g.1 az az hk hk' af (by unfold MI MA at*;omega) ?_;rw[Ip _ hp];have h2:=EG (lo - MI) (dK 4294967296 [m]);exact⟨-((lo - MI) / (dK 4294967296 [m])),by rw[Int.mul_neg];omega⟩
def WJ{x:Int}(h:0<=x)(h' :x<2^64)(e:Hy x=0):x=0:=by unfold Hy at e;rw[AO,Ew h (by simpa using h')]at e;simp at e;split at e<;>omega
def Gi(a:Int):mn a a=a∧mx a a=a:=by unfold mn mx;simp
def X0{a b:Av}(ha:aU a)(hb:aU b):sL a b<=sM a b∧(mulM a b=0->sL a b=sM a b):=by
 constructor;unfold sL sM;have h1:=Dw (mn (mn (a.lo*b.lo) (a.lo*b.hi)) (a.hi*b.lo)) (a.hi*b.hi);have h2:=sO (mx (mx (a.lo*b.lo) (a.lo*b.hi)) (a.hi*b.lo)) (a.hi*b.hi);omega;intro h;obtain⟨e1,e2⟩:=mT (Ey.1 h);have e3:=e2 (aS b.lo*aD a) ag;have e4:=e2 (Hy (aD a*aD b)) ag;have s1:=gX ha;have s2:=gX hb;have l1:=ha.lo;have l2:=ha.hi;have l3:=hb.lo;have l4:=hb.hi;have e5:aD a*aD b=0:=by refine WJ (oc s1.1 s2.1) ?_ e4;have:aD a*aD b<=4294967295*4294967295:=sC af af s2.1 af;omega
 have abs0:∀x,aS x=0->x=0:=λx hx=>by rw[kM]at hx;omega
 have fin:a.lo=a.hi->a.lo=0∨b.lo=b.hi->sL a b=sM a b:=λea hx=>by unfold sL sM;rcases hx with hx|hx;rw[<-ea,hx];simp[mn,mx];rw[<-ea,<-hx];simp[Gi]
 have fin2:b.lo=b.hi->b.lo=0∨a.lo=a.hi->sL a b=sM a b:=λeb hx=>by unfold sL sM;rcases hx with hx|hx;rw[<-eb,hx];simp[mn,mx];rw[<-eb,<-hx];simp[Gi]
 rcases AQ.1 e5 with z|z;refine fin (s1.2.2.1 z) ?_;rcases AQ.1 e1 with y|y;exact .inl (abs0 _ y);exact .inr (s2.2.2.1 y);refine fin2 (s2.2.2.1 z) ?_;rcases AQ.1 e3 with y|y;exact .inl (abs0 _ y);exact .inr (s1.2.2.1 y)
def rem_ok{a b:Av}{k:Int}(ha:aU a)(hb:aU b)(hk:0<=k)(hk' :k<=255):aU (Xo a b k):=by
 have l1:=ha.lo;have l2:=ha.hi;have l3:=ha.le;have l4:=hb.lo;have l5:=hb.hi;have l6:=hb.le;unfold Xo;split;have h1:=Dw a.lo 0;have h2:=sO a.hi 0;exact(kL uE af oZ hk hk' af af).1;split;exact EV ha hk hk';rename_i h1 h2;rw[not_or]at h2;have hn:1<=aS b.lo:=by have:=kM b.lo;omega
 have hn2:aS b.lo<=2147483648:=(by have:=kM b.lo;omega);have hg:1<=(dK (aD a) [aS b.lo]:Int):=by have:dK (aD a) [aS b.lo]≠0:=λh=>(by have:=(mT h).2 (aS b.lo) ag;omega);omega
 have hdv:(dK (aD a) [aS b.lo]:Int)∣aS b.lo:=(by have:dK (aD a) [aS b.lo]=Nat.gcd (aD a).natAbs (aS b.lo).natAbs:=rfl;rw[this];exact Int.ofNat_dvd_left.2 (Nat.gcd_dvd_right _ _));have hp:0<aS b.lo:=af
 have t:=pB a.lo hp;have e:=Kj a.lo (aS b.lo);have hdt:(dK (aD a) [aS b.lo]:Int)∣a.lo.tmod (aS b.lo) - a.lo:=by refine Int.dvd_trans hdv ⟨-(a.lo.tdiv (aS b.lo)),?_⟩;rw[Int.mul_neg];omega
 have tn:(0<=a.lo->0<=a.lo.tmod (aS b.lo)∧a.lo.tmod (aS b.lo)<=a.lo):=λh=>⟨dz _ h,(Ba h hp).2.2.1⟩;have tp:a.lo<0->a.lo<=a.lo.tmod (aS b.lo)∧a.lo.tmod (aS b.lo)<=0:=λh=>by have h1:a.lo.tmod (aS b.lo)= -((-a.lo).tmod (aS b.lo)):=(by rw[Int.neg_tmod];omega);have h2:=Ba (a:= -a.lo) af hp;omega
 refine SE (t:=a.lo.tmod (aS b.lo)) hg ?_ ?_ hk hk' ?_ ?_ hdt;unfold mx mn;split<;>split<;>omega;unfold mx mn;split<;>split<;>omega;unfold mx mn;split<;>split<;>omega;unfold mx mn;split<;>split<;>omega
def div_ok{a b:Av}{k:Int}(ha:aU a)(hk:0<=k)(hk' :k<=255):aU (divA a b k):=by unfold divA;split;rename_i h;simp only[pT,bc,yd]at h;refine(kL h.1.1 ?_ h.2.2 hk hk' af af).1;unfold mU mV;split;have h1:=Dw (a.lo.tdiv b.lo) (a.hi.tdiv b.lo);have h2:=sO (a.lo.tdiv b.lo) (a.hi.tdiv b.lo);omega;have h1:=kM a.lo;have h2:=sO (aS a.lo) (aS a.hi);have:=ha.le;split<;>omega;exact Oh hk hk'
def B7{a b:Av}(ha:aU a)(hb:aU b)(h:jB a b=0):a.lo=a.hi∧b.lo=b.hi∧a.lo=b.lo:=by obtain⟨e1,e2⟩:=mT (Ey.1 h);have e3:=e2 (aD b) ag;have e4:=e2 (aS (a.lo - b.lo)) ag;rw[kM]at e4;exact⟨(gX ha).2.2.1 e1,(gX hb).2.2.1 e3,af⟩
def XH{op:Int}{a b:Av}(ha:aU a)(hb:aU b):aU (opA op a b):=by
 have m:=or8 ha.k0 ha.k1 hb.k0 hb.k1;have h1:=ha.le;have h2:=hb.le;have h3:=ha.lo;have h4:=hb.lo;have h5:=ha.hi;have h6:=hb.hi;have s1:=gX ha;have s2:=gX hb;have g0:((dK (aD a) [aD b]:Nat):Int)=0->a.lo=a.hi∧b.lo=b.hi:=λh=>RK
 unfold opA;split;have:=MT op a.lo b.lo;exact jm this.1 this.2 m.1 m.2;unfold HK;split;exact Rm;split;exact Rm;split;have:=X0 ha hb;exact Od this.1 m.1 m.2 (dX _) this.2;split;exact div_ok ha m.1 m.2;split;exact rem_ok ha hb m.1 m.2;split;refine(kL ?_ ?_ ?_ m.1 m.2 (dX _) (λh=> ?_)).1;unfold mn;split<;>omega;unfold mn;split<;>split<;>omega;unfold mn;split<;>omega;have:=B7 ha hb h;unfold mn;split<;>split<;>omega;refine(kL ?_ ?_ ?_ m.1 m.2 (dX _) (λh=> ?_)).1;unfold mx;split<;>omega;unfold mx;split<;>split<;>omega;unfold mx;split<;>omega;have:=B7 ha hb h;unfold mx;split<;>split<;>omega
end Abs
namespace Abs
open Go
def ik:=@Nat.sub_lt_sub_left
def s9{G:Prop}(h:G:=by exact⟨rfl,rfl,rfl⟩):G:=h
def JC{G:Prop}(h:G:=by simp[IntKind.wrap,IntKind.signed,IntKind.bits];omega):G:=h
def Wz{b:Bool}{X Y:Prop}(h:b=true)(x:X):Br b X Y:=⟨λ_=>x,λe=>(by rw[h]at e;cases e)⟩
def noBr{b:Bool}{X Y:Prop}(h:b=false)(y:Y):Br b X Y:=⟨λe=>(by rw[h]at e;cases e),λ_=>y⟩
def wrapU8{y:Int}(h1:0<=y)(h2:y<256):IntKind.u8.wrap y=y:=JC
def Arith.u8to{x y:Int}{K:Int->Prop}(e:x=y)(h1:0<=y)(h2:y<256)(h:K y):Arith .u8 x K:=by subst e;exact⟨by rw[wrapU8 h1 h2];exact h⟩
structure ChkL(b:Bool):Prop where
 h:b=true
theorem xr{α:Type}:∀(l:List α) (K:List α->Prop),build l K->K l|[],_,h=>h|x::l,K,h=>xr l (λys=>K (x::ys)) h
def bare(r:Rec):Rec:=⟨r.rh,r.wh,r.rr,r.wr,[],[]⟩
def NA(ops:List Oper)(rs:List Rec):oI ops (rs.map bare)=oI ops rs:=by unfold oI;dsimp only;congr 1;funext j;rw[bW];congr 1;cases nth ops j with|none=>rfl|some oj=>cases nth rs j with|none=>rfl|some rj=>cases nth (jo ops []) j with|none=>rfl|some bj=>dsimp only[Option.map];congr 1;funext i;rw[bW];cases nth ops i with|none=>rfl|some oi=>cases nth rs i<;>rfl
def Yq(r:Rec)(K:Rec->Prop):Prop:=build r.rh λa=>build r.wh λb=>build r.rr λc=>build r.wr λd=>K ⟨a,b,c,d,[],[]⟩
def Uj{r:Rec}{K:Rec->Prop}(h:Yq r K):K (bare r):=xr r.wr _ (xr r.rr _ (xr r.wh _ (xr r.rh _ h)))
def Qn(l:List Rec):(List Rec->Prop)->Prop:=List.rec (motive:=λ_=>(List Rec->Prop)->Prop) (λK=>K []) (λr _ ih K=>Yq r λr' =>ih λrs=>K (r' ::rs)) l
theorem Iy:∀(l:List Rec) (K:List Rec->Prop),Qn l K->K (l.map bare)|[],_,h=>h|r::l,K,h=>Iy l (λrs=>K (bare r::rs)) (Uj (r:=r) (K:=λr' =>Qn l λrs=>K (r' ::rs)) h)
def OC.lay{ops:List Oper}{rs:List Rec}{K:Prop}(h:Qn rs λrs' =>ChkL (oI ops rs'))(k:K):OC (oI ops rs) K:=⟨by rw[<-NA];exact(Iy rs _ h).h,k⟩
structure Rest(R:Prop):Prop where
 out:R
theorem run{G R:Prop}(r:R)(h:Rest R->G:=by
 intro h
 (repeat((conv=>whnf);first
  |((with_reducible refine kE.mk ?_ ?_);(first|exact rfl|assumption|omega|(refine⟨rfl,?_⟩;simp<;>omega)|(simp<;>omega)))|((with_reducible refine OC.lay ?_ ?_);(conv=>whnf);(with_reducible refine ChkL.mk ?_);exact aB)|((with_reducible refine OC.mk ?_ ?_);exact aB)|((with_reducible refine Wz ?_ ?_);(first|assumption|exact rfl|decide))|((with_reducible refine noBr ?_ ?_);(first|assumption|exact rfl|decide))|((with_reducible refine Arith.to qn ?_ ?_ ?_);omega;omega)|((with_reducible refine Arith.i64 ?_ ?_ ?_);omega;omega)|((with_reducible refine Arith.u8to qn ?_ ?_ ?_);omega;omega)))
 exact h.out):G:=h ⟨r⟩
def aZ.lp{W:List Nat}{body:St->(Out->St->Prop)->Prop}{K:Out->St->Prop}{s:St}{ι:Type}(J:ι->Prop)(m:ι->vX)(μ:ι->Nat)(i0:ι)(h0:J i0)(hb:∀i,J i->body (s.with W (m i)) λe s' =>match e with| .normal=>∃j:{i // J i},μ j.1<μ i∧s'.y=s.y∧Holds s' (s.with W (m j.1)) (m j.1)|e=>K e s')(hh:Holds s (s.with W (m i0)) (m i0):=by repeat' (first|exact trivial|exact rfl|exact pM|exact Hx|exact zz3|exact zz4|refine⟨?_,?_⟩|refine⟨?_,?_,?_⟩))(hd:yZ s W=true:=by exact aB)(hr:yY s (di W)=true:=by exact aB)(ht:∀i,tidy W (di W) (m i)=true∧j8 s (m i).H=true∧j7 s (m i).R=true:=by intro k;exact s9):aZ W body K s:=⟨{i // J i},⟨i0,h0⟩,λi=>m i.1,λ_=>s.y,λi=>μ i.1,⟨rfl,hh⟩,hd,hr,λi=>⟨ht i.1,hb i.1 i.2⟩⟩
theorem aN{G R:Prop}(r:R)(h:Rest R->G:=by
 intro h;repeat(
 (repeat((conv=>whnf);first
  |((with_reducible refine kE.mk ?_ ?_);(first|exact rfl|assumption|omega|(refine⟨rfl,?_⟩;simp<;>omega)|(simp<;>omega)))|((with_reducible refine OC.lay ?_ ?_);(conv=>whnf);(with_reducible refine ChkL.mk ?_);exact aB)|((with_reducible refine OC.mk ?_ ?_);exact aB)|((with_reducible refine Wz ?_ ?_);(first|assumption|exact rfl|decide))|((with_reducible refine noBr ?_ ?_);(first|assumption|exact rfl|decide))|((with_reducible refine Arith.to qn ?_ ?_ ?_);omega;omega)|((with_reducible refine Arith.i64 ?_ ?_ ?_);omega;omega)|((with_reducible refine Arith.u8to qn ?_ ?_ ?_);omega;omega)))
 apply aE;assumption)
 (repeat((conv=>whnf);first
  |((with_reducible refine kE.mk ?_ ?_);(first|exact rfl|assumption|omega|(refine⟨rfl,?_⟩;simp<;>omega)|(simp<;>omega)))|((with_reducible refine OC.lay ?_ ?_);(conv=>whnf);(with_reducible refine ChkL.mk ?_);exact aB)|((with_reducible refine OC.mk ?_ ?_);exact aB)|((with_reducible refine Wz ?_ ?_);(first|assumption|exact rfl|decide))|((with_reducible refine noBr ?_ ?_);(first|assumption|exact rfl|decide))|((with_reducible refine Arith.to qn ?_ ?_ ?_);omega;omega)|((with_reducible refine Arith.i64 ?_ ?_ ?_);omega;omega)|((with_reducible refine Arith.u8to qn ?_ ?_ ?_);omega;omega)))
 exact h.out):G:=h ⟨r⟩
def fo{P:Program}{f:FuncId}{fn:Func}(hf:P.funcs[f]? =some fn){args:List au}{m:Ct}{r:au}{m' :Ct}(hx:exF P (cfA P (λ_=>false) (λ_=>[])) [] fn args m r m')(hB:fnB P fn args.length=true:=by exact aB)(hm:P.follows .mixedOrders=true:=by exact aB):aj P f args m r m' :=eg hm hf _ _ _ hB hx
def aZ.np{W:List Nat}{body:St->(Out->St->Prop)->Prop}{K:Out->St->Prop}{s:St}(n:Nat)(J:Nat->Prop)(m:Nat->vX)(h0:J 0)(hb:∀k,k<=n->J k->body (s.with W (m k)) λe s' =>match e with| .normal=>∃j:{k // k<=n∧J k},n - j.1<n - k∧s'.y=s.y∧Holds s' (s.with W (m j.1)) (m j.1)|e=>K e s')(hh:Holds s (s.with W (m 0)) (m 0):=by repeat' (first|exact trivial|exact rfl|exact pM|exact Hx|exact zz3|exact zz4|refine And.intro ?_ ?_|refine Holds.mk ?_ ?_ ?_))(hd:yZ s W=true:=by exact aB)(hr:yY s (di W)=true:=by exact aB)(ht:∀k,tidy W (di W) (m k)=true∧j8 s (m k).H=true∧j7 s (m k).R=true:=by intro k;exact s9):aZ W body K s:=aZ.nat n J m h0 hh hd hr ht hb
def nxr{n k:Nat}{B:{k // k<=n∧True}->Prop}(h:k<n)(hb:B ⟨k+1,h,trivial⟩):∃j:{k // k<=n∧True},n - j.1<n - k∧B j:=⟨⟨k+1,h,trivial⟩,ik h (gh k),hb⟩
def tM{n k:Nat}{B:{k // k<=n∧True}->Prop}(h:k<n)(hb:B ⟨k+1,h,trivial⟩:=by repeat' (first|exact trivial|exact rfl|exact pM|exact Hx|exact zz3|exact zz4|refine And.intro ?_ ?_|refine Holds.mk ?_ ?_ ?_)):∃j:{k // k<=n∧True},n - j.1<n - k∧B j:=nxr h hb
def vH{G:Prop}(h:G:=by repeat' (first|exact trivial|exact rfl|exact pM|exact Hx|exact zz3|exact zz4|refine⟨?_,?_⟩|refine⟨?_,?_,?_⟩)):G:=h
def zh2{G:Prop}(h:G:=by repeat' (first|exact trivial|exact rfl|exact pM|exact Hx|exact zz3|exact zz4|refine And.intro ?_ ?_|refine Holds.mk ?_ ?_ ?_)):G:=h
end Abs
namespace Abs
open Go Go.Proofs
def hm:Tryz.prog.follows .mixedOrders=true:=aB
def it(n:Int):au:= .int .i64 n
def u8(n:Int):au:= .int .u8 n
def bo(b:Bool):au:= .bool b
def fj{α:Type}(sz:Nat)(f:α->au)(xs:List α):au:= .sl sz (xs.map f) false
def ints(xs:List Int):au:= .sl 1 (xs.map it) false
def U_(xs:List UInt8):au:= .sl 1 (xs.map λb=> .int .u8 b.toNat) false
abbrev fZ:Ct:=⟨[],[]⟩
structure pL where
 lo:Int
 hi:Int
 mask:Int
 deriving DecidableEq
def bp(r:pL):au:= .agg [it r.lo,it r.hi,it r.mask]
inductive Ex where
 |mk (op n v:Int) (a:List Ex)
inductive Co where
 |mk (op:Int) (a:List Ex) (c:List Co)
inductive Sm where
 |mk (site op n m v:Int) (x y:Ex) (c:Co) (args:List Ex) (cO:List Int) (body sY:List Sm)
def Ex.op:Ex->Int| .mk x _ _ _=>x
def Ex.n:Ex->Int| .mk _ x _ _=>x
def Ex.v:Ex->Int| .mk _ _ x _=>x
def Ex.a:Ex->List Ex| .mk _ _ _ x=>x
def Co.op:Co->Int| .mk x _ _=>x
def Co.a:Co->List Ex| .mk _ x _=>x
def Co.c:Co->List Co| .mk _ _ x=>x
def Sm.site:Sm->Int| .mk x _ _ _ _ _ _ _ _ _ _ _=>x
def Sm.op:Sm->Int| .mk _ x _ _ _ _ _ _ _ _ _ _=>x
def Sm.n:Sm->Int| .mk _ _ x _ _ _ _ _ _ _ _ _=>x
def Sm.m:Sm->Int| .mk _ _ _ x _ _ _ _ _ _ _ _=>x
def Sm.v:Sm->Int| .mk _ _ _ _ x _ _ _ _ _ _ _=>x
def Sm.x:Sm->Ex| .mk _ _ _ _ _ x _ _ _ _ _ _=>x
def Sm.y:Sm->Ex| .mk _ _ _ _ _ _ x _ _ _ _ _=>x
def Sm.c:Sm->Co| .mk _ _ _ _ _ _ _ x _ _ _ _=>x
def Sm.args:Sm->List Ex| .mk _ _ _ _ _ _ _ _ x _ _ _=>x
def Sm.cO:Sm->List Int| .mk _ _ _ _ _ _ _ _ _ x _ _=>x
def Sm.body:Sm->List Sm| .mk _ _ _ _ _ _ _ _ _ _ x _=>x
def Sm.sY:Sm->List Sm| .mk _ _ _ _ _ _ _ _ _ _ _ x=>x
mutual
def rE:Ex->List au| .mk op n v a=>[it op,it n,it v,.sl 4 (jz a) false]
def jz:List Ex->List au|[]=>[]|e::es=> .agg (rE e)::jz es
end
def cE(e:Ex):List au:=[it e.op,it e.n,it e.v,.sl 4 (jz e.a) false]
def cI(e:Ex):au:= .agg (cE e)
def Sr(e:Ex):rE e=cE e:=by cases e;simp[rE,cE,Ex.op,Ex.n,Ex.v,Ex.a]
theorem ua:∀l,jz l=l.map cI|[]=>by simp[jz]|e::l=>by simp[jz,cI,Sr,ua l]
mutual
def rC:Co->List au| .mk op a c=>[it op,.sl 4 (jz a) false,.sl 3 (BX c) false]
def BX:List Co->List au|[]=>[]|e::es=> .agg (rC e)::BX es
end
def cC(c:Co):List au:=[it c.op,.sl 4 (jz c.a) false,.sl 3 (BX c.c) false]
def fN(c:Co):au:= .agg (cC c)
def rC_eq(e:Co):rC e=cC e:=by cases e;simp[rC,cC,Co.op,Co.a,Co.c]
theorem I6:∀l,BX l=l.map fN|[]=>by simp[BX]|e::l=>by simp[BX,fN,rC_eq,I6 l]
mutual
def rS:Sm->List au| .mk site op n m v x y c args cO body sY=>it site::it op::it n::it m::it v::(cE x++(cE y++(cC c++[.sl 4 (jz args) false,ints cO,.sl 20 (xj body) false,.sl 20 (xj sY) false])))
def xj:List Sm->List au|[]=>[]|e::es=> .agg (rS e)::xj es
end
def cS(s:Sm):List au:=it s.site::it s.op::it s.n::it s.m::it s.v::(cE s.x++(cE s.y++(cC s.c++[.sl 4 (jz s.args) false,ints s.cO,.sl 20 (xj s.body) false,.sl 20 (xj s.sY) false])))
def encS(s:Sm):au:= .agg (cS s)
def rS_eq(e:Sm):rS e=cS e:=by cases e;simp[rS,cS,Sm.site,Sm.op,Sm.n,Sm.m,Sm.v,Sm.x,Sm.y,Sm.c,Sm.args,Sm.cO,Sm.body,Sm.sY]
theorem CW:∀l,xj l=l.map encS|[]=>by simp[xj]|e::l=>by simp[xj,encS,rS_eq,CW l]
structure Ar where
 len:Int
 yE :Int
 deriving DecidableEq
def kz(a:Ar):au:= .agg [it a.len,it a.yE]
structure Df where
 id:Int
 site:Int
 name:List UInt8
 xd:Int
 part:Int
 params:List pL
 given:List pL
 vars:Int
 refs:Int
 aK:List Ar
 lW:Int
 body:List Sm
def cD(d:Df):List au:=[it d.id,it d.site,.str d.name,it d.xd,it d.part,fj 3 bp d.params,fj 3 bp d.given,it d.vars,it d.refs,fj 2 kz d.aK,it d.lW,fj 20 encS d.body]
def bQ(d:Df):au:= .agg (cD d)
structure Hd where
 id:Int
 xd:Int
 part:Int
 params:List pL
 given:List pL
def oL(h:Hd):au:= .agg [it h.id,it h.xd,it h.part,fj 3 bp h.params,fj 3 bp h.given]
structure Qu where
 cap:Int
 r:pL
def encQ(q:Qu):au:= .agg [it q.cap,it q.r.lo,it q.r.hi,it q.r.mask]
structure Dc where
 globals:List pL
 ft:List pL
 eP:List Qu
 sinks:List Int
 aM:Int
 parts:Int
 G2:Int
def ZR(d:Dc):List au:=[fj 3 bp d.globals,fj 3 bp d.ft,fj 4 encQ d.eP,ints d.sinks,it d.aM,it d.parts,it d.G2]
structure Pg where
 d:Dc
 aF:List Hd
 defs:List Df
 threads:List Int
def cP(p:Pg):List au:=ZR p.d++[fj 5 oL p.aF,fj 12 bQ p.defs,ints p.threads]
def qb(p:Pg):au:= .agg (cP p)
structure Ru where
 id:Int
 ver:Int
 xd:Int
 op:Int
 alo:Int
 ahi:Int
 blo:Int
 bhi:Int
 lo:Int
 hi:Int
 deriving DecidableEq
def gM(r:Ru):au:= .agg [it r.id,it r.ver,it r.xd,it r.op,it r.alo,it r.ahi,it r.blo,it r.bhi,it r.lo,it r.hi]
structure Pa where
 a:Int
 b:Int
 site:Int
 deriving DecidableEq
def bF(p:Pa):au:= .agg [it p.a,it p.b,it p.site]
structure Sy where
 id:Int
 LR:Int
 LS:Int
 rm:Int
 rr:Int
 nW:Int
 pU:Int
 aM:Int
 mS:Int
 dY:List Pa
 cost:Int
 deriving DecidableEq
def eU(s:Sy):au:= .agg [it s.id,it s.LR,it s.LS,it s.rm,it s.rr,it s.nW,it s.pU,it s.aM,it s.mS,fj 3 bF s.dY,it s.cost]
structure Ne where
 id:Int
 body:List UInt8
 decl:List Int
 ei:List Sy
 rules:List Ru
 level:Int
 deriving DecidableEq
inductive jY(vars na:Int):Nat->Ex->Nat->Prop where
 |num {k:Nat} {v:Int} (h: -2147483648<=v∧v<=2147483647):jY vars na (k+1) (.mk 1 0 v []) 1
 |var {k:Nat} {n:Int} (h:0<=n∧n<vars):jY vars na (k+1) (.mk 2 n 0 []) 1
 |len {k:Nat} {n:Int} (h:0<=n∧n<na):jY vars na (k+1) (.mk 3 n 0 []) 1
 |bin {k:Nat} {op:Int} {a b:Ex} {x y:Nat} (h:4<=op∧op<=10) (ha:jY vars na k a x) (hb:jY vars na k b y):jY vars na (k+1) (.mk op 0 0 [a,b]) (1+x+y)
inductive Ff(vars na:Int):Nat->Co->Nat->Prop where
 |test {k:Nat} {op:Int} {a b:Ex} {x y:Nat} (h:2<=op∧op<=4) (ha:jY vars na k a x) (hb:jY vars na k b y):Ff vars na (k+1) (.mk op [a,b] []) (1+x+y)
 |not {k:Nat} {c:Co} {x:Nat} (hc:Ff vars na k c x):Ff vars na (k+1) (.mk 5 [] [c]) (1+x)
 |and {k:Nat} {op:Int} {a b:Co} {x y:Nat} (h:6<=op∧op<=7) (ha:Ff vars na k a x) (hb:Ff vars na k b y):Ff vars na (k+1) (.mk op [] [a,b]) (1+x+y)
def cU:=@List.getElem_mem
def cZ:=@List.length_map
def pO:=@List.length_set
def zf:=@List.length_zipWith
def uR:=@Nat.le_of_not_lt
def EH:=@List.zipWith_cons_cons
def uN:=@Nat.min_self
def VW{G:Prop}(h:G:=by rw[dW,ah (by rw[hl];simp),ah (by omega)]):G:=h
abbrev mY:=List (List Int)
def NG:Int:=1099511627776
def p_(n:Int):Bool:=(n==NG)||(decide (-17179869184<=n)&&decide (n<=17179869184))
def Cs(a k:Int):Int:=if (a==NG)|| !p_ (a+k)then NG else a+k
def oH(e:Ex)(n:Int):Bool:=(e.op==2)&&(decide (0<=e.n)&&decide (e.n<n))
def pZ(e:Ex):Bool:=(e.op==1)&&(decide (-2147483648<=e.v)&&decide (e.v<=2147483648))
def Oy(e:Ex)(n:Int):Option (Int×Int):=
 if oH e n then some (e.n,0)else match e.a with
 |[a,b]=>if (e.op==4)&&(oH a n&&pZ b)then some (a.n,b.v)else if (e.op==4)&&(pZ a&&oH b n)then some (b.n,a.v)else if (e.op==5)&&(oH a n&&pZ b)then some (a.n,-b.v)else none
 |_=>none
def rowOf(g:mY)(v:Int):List Int:=g.getD v.toNat []
def TH(g:mY)(v:Int)(e:Ex)(whole:Bool):mY:=
 g.set v.toNat (match Oy e g.length,whole with
  |some (w,c),true=>(rowOf g w).map (Cs · c)|_,_=>(rowOf g v).map λ_=>NG)
def vM(out g:mY)(x y:Int×Int)(k:Int):mY:=out.set x.1.toNat (List.zipWith (λo s=>mn o (Cs s (y.2 - x.2 - k))) (rowOf out x.1) (rowOf g y.1))
def yB(g:mY)(op:Int)(h:Bool)(a b:Ex)(u v:Bool):mY:=
 match Oy a g.length,Oy b g.length with
 |some x,some y=>if !(u&&v)then g else
  if op=2 then(if h then vM g g x y 1 else vM g g y x 0)
  else if op=3 then(if h then vM g g x y 0 else vM g g y x 1)
  else if op=4∧h=true then vM (vM g g x y 0) g y x 0 else g
 |_,_=>g
def fM(vars params:Nat):mY:=(List.range vars).map λv=>(List.range params).map λp=>if v=p then 0 else NG
def eX(a b:List Int):List Int:=List.zipWith mx a b
def pF(g h:mY):mY:=List.zipWith eX g h
def tK(g:mY)(v p:Int):Int:=(rowOf g v).getD p.toNat NG
structure Rf where
 s:Int
 a:Av
 deriving DecidableEq
structure Fa where
 dead:Bool
 v:List Av
 jh:mY
 refs:List Rf
 arr:List Int
 ew:Int
 may:Int
 parts:Int
def gU:Fa:=⟨true,[],[],[],[],0,0,0⟩
def zR:Av:=⟨0,0,1,0,0⟩
def gV(f:Fa)(n:Int):Av:=f.v.getD n.toNat zR
def gW(d:Df)(n:Int):Ar:=d.aK.getD n.toNat ⟨0,0⟩
def r9(v n:Int):Int:=mx 0 (mn v n)
def Gv(d:Df)(f:Fa)(n:Int):Av:=
 if (gW d n).yE =0 then kv (gW d n).len 0
 else m7 (r9 (gV f ((gW d n).yE - 1)).lo (gW d n).len) (r9 (gV f ((gW d n).yE - 1)).hi (gW d n).len) 1 0
def HL(d:Df)(n:Int):Int:=if (gW d n).yE =0 then 0 else(gW d n).yE - 1
def Nj(d:Df)(f:Fa)(n:Int):Bool:=if (gW d n).yE =0 then false else decide ((gV f ((gW d n).yE - 1)).lo>=0)&&decide ((gV f ((gW d n).yE - 1)).hi<=(gW d n).len)
def iI(d:Df)(f:Fa):Ex->Av
 | .mk op n v a=>if op=1 then kv v 0 else if op=2 then gV f n else if op=3 then Gv d f n else match a with
   |[x,y]=>opA op (iI d f x) (iI d f y)
   |_=>zR
def qd(f:Fa)(e:Ex):Int×Int×Bool:=
 if e.op=2 then(e.n,0,true)else if e.op≠4∧e.op≠5 then(0,0,false)else match e.a with
 |[x,y]=>
  let p:=if e.op=4∧x.op=1 then(y,x)else(x,y)
  if p.1.op≠2∨p.2.op≠1 then(0,0,false)else
  let c:=if e.op=5 then 0 - p.2.v else p.2.v
  (p.1.n,c,decide ((gV f p.1.n).lo+c>=-2147483648)&&decide ((gV f p.1.n).hi+c<=2147483647))
 |_=>(0,0,false)
def MC(f:Fa)(v:Int)(a:Av)(e:Ex):Fa:=if f.dead then f else{f with jh:=TH f.jh v e (qd f e).2.2,v:=f.v.set v.toNat a}
def dU(a:Av):Av:=if a.lo<a.hi then⟨a.lo,a.hi,1,0,a.mask⟩else a
def pI(d:Df)(level:Int)(f:Fa):Fa:=
 if f.dead||decide (level>=2)then f
 else if decide (level>=1)then{f with jh:=pF f.jh (fM d.vars.toNat d.params.length)}
 else{f with jh:=pF f.jh (fM d.vars.toNat d.params.length),v:=f.v.map dU,refs:=f.refs.map λr=>⟨r.s,dU r.a⟩}
def l9(x y:Rf):Rf:=⟨iD x.s y.s,if bz x.s 2=0 then y.a else if bz y.s 2≠0 then fR x.a y.a else x.a⟩
def wU(a b:Fa):Fa:=if a.dead then b else if b.dead then a else{dead:=false,v:=List.zipWith fR a.v b.v,jh:=pF a.jh b.jh,refs:=List.zipWith l9 a.refs b.refs,arr:=List.zipWith iD a.arr b.arr,ew:=bz a.ew b.ew,may:=iD a.may b.may,parts:=bz a.parts b.parts}
def N5(p:Int):Ex:= .mk 2 p 0 []
def jF(d:Df)(f:Fa)(e:Ex):Ex:=if e.op=3∧Nj d f e.n=true then N5 (HL d e.n)else e
def UQ(d:Df)(f:Fa)(op:Int)(h:Bool)(x y:Ex):Fa:=
 match sJ op h (iI d f x) (iI d f y)with
 |none=>gU
 |some (a,b)=>
  {f with
   jh:=yB f.jh op h (jF d f x) (jF d f y) (qd f (jF d f x)).2.2 (qd f (jF d f y)).2.2
   v:=(λl=>if y.op=2 then l.set y.n.toNat b else l) (if x.op=2 then f.v.set x.n.toNat a else f.v)}
def dW(d:Df):Co->Fa->Bool->Fa
 | .mk op a c,f,h=>if f.dead then f else if op=1 then(if h then f else gU)else match a,c with
   |_,[x]=>dW d x f (!h)
   |_,[x,y]=>if decide (op=6)=h then dW d y (dW d x f h) h else wU (dW d x f h) (dW d y (dW d x f (!h)) h)
   |[x,y],_=>UQ d f op h x y
   |_,_=>f
def YC(d:Df)(f:Fa)(n:Int)(e:Ex)(a:Av):Bool:=
 if a.lo<0 then false else if a.hi<(Gv d f n).lo then true
 else if (gW d n).yE =0∨(gV f ((gW d n).yE - 1)).hi>(gW d n).len then false
 else if (qd f e).2.2=false then false
 else decide (tK f.jh (qd f e).1 ((gW d n).yE - 1)≠NG)&&decide (tK f.jh (qd f e).1 ((gW d n).yE - 1)+(qd f e).2.1<0)
structure kc(g:mY)(vars params:Nat):Prop where
 len:g.length=vars
 row:∀l∈g,l.length=params∧∀n∈l,p_ n=true
structure HS(r:Rf):Prop where
 s:1<=r.s∧r.s<=3
 a:aU r.a
 z:r.s=1->r.a=zR
structure qO(d:Df)(f:Fa):Prop where
 live:f.dead=false
 v:f.v.length=d.vars.toNat
 va:∀a∈f.v,aU a
 jh:kc f.jh d.vars.toNat d.params.length
 refs:f.refs.length=d.refs.toNat
 ra:∀r∈f.refs,HS r
 arr:f.arr.length=d.aK.length
 aa:∀n∈f.arr,0<=n∧n<=255
 ew:0<=f.ew∧f.ew<=255
 may:0<=f.may∧f.may<=255
 parts:0<=f.parts∧f.parts<=65535
 sub:kO f.ew f.may=0
def se(d:Df)(f:Fa):Prop:=f=gU∨qO d f
def GO(n:Int):p_ n=true↔n=NG∨(-17179869184<=n∧n<=17179869184):=by simp[p_]
def WZ(a k:Int):p_ (Cs a k)=true:=by unfold Cs;split;rfl;rename_i h;simp only[uG,mG,not_or]at h;cases hx:p_ (a+k)with|true=>rfl|false=>exact absurd hx h.2
def mn_rg{a b:Int}(ha:p_ a=true)(hb:p_ b=true):p_ (mn a b)=true:=by unfold mn;split<;>assumption
def mx_rg{a b:Int}(ha:p_ a=true)(hb:p_ b=true):p_ (mx a b)=true:=by unfold mx;split<;>assumption
def Bi{g:mY}{n p:Nat}(h:kc g n p){v:Int}(h0:0<=v)(h1:v<n):(rowOf g v).length=p∧∀x∈rowOf g v,p_ x=true:=by
 have hv:v.toNat<g.length:=by rw[h.len];omega
 have e:rowOf g v=g[v.toNat]:=by unfold rowOf;simp[hv]
 rw[e];exact h.row _ (cU hv)
theorem kc.set{g:mY}{n p:Nat}(h:kc g n p)(k:Nat){l:List Int}(hl:l.length=p∧∀x∈l,p_ x=true):kc (g.set k l) n p:=⟨by rw[pO];exact h.len,λx hx=>by rcases wg hx with hx|rfl;exact h.row x hx;exact hl⟩
def wz{e:Ex}{n:Int}{w c:Int}(h:Oy e n=some (w,c)):(0<=w∧w<n)∧-2147483648<=c∧c<=2147483648:=by unfold Oy at h;split at h;rename_i h1;cases h;simp[oH]at h1;omega;split at h;split at h;rename_i h1;cases h;simp[oH,pZ]at h1;omega;split at h;rename_i h1;cases h;simp[oH,pZ]at h1;omega;split at h;rename_i h1;cases h;simp[oH,pZ]at h1;omega;cases h;cases h
def setG_ok{g:mY}{n p:Nat}(h:kc g n p){v:Int}(h0:0<=v)(h1:v<n)(e:Ex)(w:Bool):kc (TH g v e w) n p:=by unfold TH;refine h.set _ ?_;split;rename_i w' c _ hs;have:=(wz hs).1;have r:=Bi h this.1 (by rw[h.len]at this;exact this.2);exact⟨by rw[cZ];exact r.1,λx hx=>by obtain⟨y,_,rfl⟩:=dM.1 hx;exact WZ _ _⟩;exact⟨by rw[cZ];exact(Bi h h0 h1).1,λx hx=>by obtain⟨y,_,rfl⟩:=dM.1 hx;rfl⟩
theorem OZ{f:Int->Int->Int}{P Q:Int->Prop}(hf:∀a b,P a->Q b->p_ (f a b)=true):∀{l m:List Int},(∀x∈l,P x)->(∀x∈m,Q x)->∀x∈List.zipWith f l m,p_ x=true|[],_,_,_,x,hx=>by simp at hx|_::_,[],_,_,x,hx=>by simp at hx|a::l,b::m,h1,h2,x,hx=>by rw[EH,bT]at hx;rcases hx with rfl|hx;exact hf _ _ (h1 _ ag) (h2 _ ag);exact OZ hf (λy hy=>h1 y oT) (λy hy=>h2 y oT) x hx
def wT{o g:mY}{n p:Nat}(ho:kc o n p)(h:kc g n p){x y:Int×Int}(hx:0<=x.1∧x.1<n)(hy:0<=y.1∧y.1<n)(k:Int):kc (vM o g x y k) n p:=by have r1:=Bi ho hx.1 hx.2;have r2:=Bi h hy.1 hy.2;refine ho.set _ ⟨by rw[zf,r1.1,r2.1,uN],?_⟩;exact OZ (P:=λa=>p_ a=true) (Q:=λ_=>True) (λa b ha _=>mn_rg ha (WZ _ _)) r1.2 (λ_ _=>trivial)
def QO{g:mY}{n p:Nat}(h:kc g n p)(op:Int)(b:Bool)(x y:Ex)(u v:Bool):kc (yB g op b x y u v) n p:=by
 unfold yB;split
 ·rename_i s t h1 h2;obtain⟨s1,s2⟩:=s;obtain⟨t1,t2⟩:=t;have a1:=(wz h1).1;have a2:=(wz h2).1;rw[h.len]at a1 a2;repeat' split
  all_goals first|exact h|exact wT h h a1 a2 _|exact wT h h a2 a1 _|exact wT (wT h h a1 a2 _) h a2 a1 _
 exact h
def ET(n p:Nat):kc (fM n p) n p:=⟨by simp[fM],λl hl=>by obtain⟨v,_,rfl⟩:=dM.1 hl;refine⟨ag,λx hx=> ?_⟩;obtain⟨q,_,rfl⟩:=dM.1 hx;split<;>decide⟩
def Nq:∀{g h:mY} {n p:Nat},kc g n p->kc h n p->kc (pF g h) n p:=by intro g h n p hg hh;refine⟨by unfold pF;rw[zf,hg.len,hh.len,uN],λl hl=> ?_⟩;unfold pF at hl;obtain⟨i,hi⟩:=Ke hl;rw[List.getElem?_zipWith]at hi;cases h1:g[i]? with|none=>rw[h1]at hi;simp at hi|some a=>cases h2:h[i]? with|none=>rw[h1,h2]at hi;simp at hi|some b=>rw[h1,h2]at hi;simp at hi;subst hi;have r1:=hg.row a (we h1);have r2:=hh.row b (we h2);exact⟨by unfold eX;rw[zf,r1.1,r2.1,uN],OZ (P:=λa=>p_ a=true) (Q:=λa=>p_ a=true) (λ_ _=>mx_rg) r1.2 r2.2⟩
def A8:aU zR:=jm (v:=0) (k:=0) af af af af
def yx{l:List Av}(h:∀a∈l,aU a)(n:Nat):aU (l.getD n zR):=by
 by_cases hn:n<l.length;have e:l.getD n zR=l[n]:=by simp[hn]
 rw[e];exact h _ (cU hn);have e:l.getD n zR=zR:=by simp[uR hn]
 rw[e];exact A8
def E9(v:Int){n:Int}(hn:0<=n):0<=r9 v n∧r9 v n<=n:=by unfold r9 mx mn;split<;>split<;>omega
def UT{a b n:Int}(h:a<=b):r9 a n<=r9 b n:=by unfold r9 mx mn;repeat' split<;>omega
structure Jk(d:Df):Prop where
 yE :∀a∈d.aK,0<=a.yE ∧a.yE <=d.params.length
 len:∀a∈d.aK,1<=a.len∧a.len<=64
def B5{d:Df}(h:Jk d){n:Int}:(0<=(gW d n).yE ∧(gW d n).yE <=d.params.length)∧(0<=(gW d n).len∧(gW d n).len<=64):=by
 unfold gW;by_cases hn:n.toNat<d.aK.length;have e:d.aK.getD n.toNat ⟨0,0⟩=d.aK[n.toNat]:=by simp[hn]
 rw[e];have h1:=h.yE _ (cU hn);have h2:=h.len _ (cU hn);omega;have e:d.aK.getD n.toNat ⟨0,0⟩=⟨0,0⟩:=by simp[uR hn]
 rw[e];simp
def SG{d:Df}{f:Fa}(hd:Jk d)(h:∀a∈f.v,aU a)(n:Int):aU (Gv d f n):=by have ha:=B5 hd (n:=n);unfold Gv;split;exact jm af af af af;have hv:aU (gV f ((gW d n).yE - 1)):=yx h _;have c1:=E9 (gV f ((gW d n).yE - 1)).lo ha.2.1;have c2:=E9 (gV f ((gW d n).yE - 1)).hi ha.2.1;exact(kL af (UT hv.le) af af af af af).1
def IU(d:Df)(f:Fa)(v:Int):iI d f (.mk 1 0 v [])=kv v 0:=by rw[iI]<;>simp
def IQ(d:Df)(f:Fa)(n:Int):iI d f (.mk 2 n 0 [])=gV f n:=by rw[iI]<;>simp
def IV(d:Df)(f:Fa)(n:Int):iI d f (.mk 3 n 0 [])=Gv d f n:=by rw[iI]<;>simp
def IW(d:Df)(f:Fa){op:Int}(h:4<=op)(x y:Ex):iI d f (.mk op 0 0 [x,y])=opA op (iI d f x) (iI d f y):=by rw[iI,ah af,ah af,ah af]
def B4(d:Df){f:Fa}(hl:f.dead=false){op:Int}(h:2<=op)(x y:Ex)(b:Bool):dW d (.mk op [x,y] []) f b=UQ d f op b x y:=by rw[dW,ah su,ah af]<;>simp
def DN(d:Df){f:Fa}(hl:f.dead=false)(x:Co)(b:Bool):dW d (.mk 5 [] [x]) f b=dW d x f (!b):=VW
def DO(d:Df){f:Fa}(hl:f.dead=false){op:Int}(h:6<=op)(x y:Co)(b:Bool):dW d (.mk op [] [x,y]) f b=if decide (op=6)=b then dW d y (dW d x f b) b else wU (dW d x f b) (dW d y (dW d x f (!b)) b):=VW
def lM(d:Df)(c:Co)(b:Bool):dW d c gU b=gU:=by cases c with|mk op a c=>unfold dW;exact aq rfl
def nM{d:Df}{f:Fa}(hd:Jk d)(h:∀a∈f.v,aU a){vars na:Int}{k:Nat}{e:Ex}{z:Nat}(he:jY vars na k e z):aU (iI d f e):=by induction he with|num hv=>rw[IU];exact jm hv.1 hv.2 af af|var hv=>rw[IQ];exact yx h _|len hv=>rw[IV];exact SG hd h _|bin ho _ _ iha ihb=>rw[IW d f ho.1];exact XH iha ihb
def mem_set{α:Type}{P:α->Prop}{l:List α}(h:∀a∈l,P a)(n:Nat){x:α}(hx:P x):∀a∈l.set n x,P a:=λa ha=>by rcases wg ha with ha|rfl;exact h a ha;exact hx
def qO.set{d:Df}{f:Fa}(h:qO d f){v:Int}(h0:0<=v)(h1:v<d.vars){a:Av}(ha:aU a)(e:Ex):qO d (MC f v a e):=by unfold MC;rw[ah (by rw[h.live];simp)];exact⟨h.live,by rw[pO];exact h.v,mem_set h.va _ ha,setG_ok h.jh h0 af _ _,h.refs,h.ra,h.arr,h.aa,h.ew,h.may,h.parts,h.sub⟩
def X8(a:Int):lU a 1=0:=by unfold lU;exact Int.tmod_one _
def SU{a:Av}(h:aU a):aU (dU a):=by unfold dU;split;rename_i hl;exact⟨h.lo,h.le,h.hi,h.k0,h.k1,pd _,λe=>by dsimp only at e;omega,λ_=>bu,Int.tmod_one _,λ_=>(X8 _).symm⟩;exact h
def ZU{a b:Int}(ha:1<=a∧a<=3)(hb:1<=b∧b<=3):(1<=iD a b∧iD a b<=3)∧(iD a b=1->a=1∧b=1)∧(bz a 2=0↔a=1):=by
 have h1:a=1∨a=2∨a=3:=af
 have h2:b=1∨b=2∨b=3:=af
 rcases h1 with rfl|rfl|rfl<;>rcases h2 with rfl|rfl|rfl<;>decide
def Yt{x y:Rf}(hx:HS x)(hy:HS y):HS (l9 x y):=by have b:=ZU hx.s hy.s;have b' :=ZU hy.s hx.s;refine⟨b.1,?_,λe=> ?_⟩;unfold l9;dsimp only;split;exact hy.a;split;exact(qH hx.a hy.a).1;exact hx.a;obtain⟨e1,e2⟩:=b.2.1 e;unfold l9;dsimp only;rw[aq (b.2.2.2 e1)];exact hy.z e2
theorem JN{α:Type}{P:α->Prop}{f:α->α->α}(hf:∀a b,P a->P b->P (f a b)):∀{l m:List α},(∀x∈l,P x)->(∀x∈m,P x)->∀x∈List.zipWith f l m,P x|[],_,_,_,x,hx=>by simp at hx|_::_,[],_,_,x,hx=>by simp at hx|a::l,b::m,h1,h2,x,hx=>by rw[EH,bT]at hx;rcases hx with rfl|hx;exact hf _ _ (h1 _ ag) (h2 _ ag);exact JN hf (λy hy=>h1 y oT) (λy hy=>h2 y oT) x hx
def bv_sub{a b c d:Int}(h1:kO a b=0)(h2:kO c d=0):kO (bz a c) (iD b d)=0:=by
 unfold kO bz iD at*;have e1:BitVec.ofInt 64 a&&& ~~~BitVec.ofInt 64 b=0#64:=BitVec.eq_of_toNat_eq gJ;rw[Ch,Ch,BitVec.ofNat_toNat,BitVec.ofNat_toNat,BitVec.setWidth_eq,BitVec.setWidth_eq];have:(BitVec.ofInt 64 a&&&BitVec.ofInt 64 c)&&& ~~~(BitVec.ofInt 64 b|||BitVec.ofInt 64 d)=0#64:=by ext i hi;have h:=aL (λv=>v.getLsbD i) e1;simp only[BitVec.getLsbD_and,BitVec.getLsbD_not,BitVec.getLsbD_zero,hi,decide_true,Bool.true_and]at h;simp only[BitVec.getElem_and,BitVec.getElem_not,BitVec.getElem_or,BitVec.getElem_zero];simp only[BitVec.getLsbD_eq_getElem hi]at h;revert h;generalize (BitVec.ofInt 64 a)[i]=x;generalize (BitVec.ofInt 64 b)[i]=y;generalize (BitVec.ofInt 64 c)[i]=z;generalize (BitVec.ofInt 64 d)[i]=u;revert x y z u;decide
 rw[this];rfl
def Yu{d:Df}{a b:Fa}(ha:se d a)(hb:se d b):se d (wU a b):=by unfold wU;rcases ha with rfl|ha;exact hb;rw[ah (by rw[ha.live];simp)];rcases hb with rfl|hb;exact .inr ha;rw[ah (by rw[hb.live];simp)];have m1:=and8 (a:=a.ew) hb.ew.1 hb.ew.2;have m2:=or8 ha.may.1 ha.may.2 hb.may.1 hb.may.2;have m3:=iP (a:=a.parts) (b:=b.parts) (n:=16) af hb.parts.1 (by have:=hb.parts.2;omega);exact .inr ⟨rfl,by dsimp only;rw[zf,ha.v,hb.v,uN],JN (λ_ _ h1 h2=>(qH h1 h2).1) ha.va hb.va,Nq ha.jh hb.jh,by dsimp only;rw[zf,ha.refs,hb.refs,uN],JN (λ_ _=>Yt) ha.ra hb.ra,by dsimp only;rw[zf,ha.arr,hb.arr,uN],JN (P:=λn=>0<=n∧n<=255) (λ_ _ h1 h2=>or8 h1.1 h1.2 h2.1 h2.2) ha.aa hb.aa,m1,m2,bu,bv_sub ha.sub hb.sub⟩
def cmpF_ok{d:Df}{f:Fa}(hd:Jk d)(h:qO d f){op:Int}{b:Bool}{x y:Ex}(hx:aU (iI d f x))(hy:aU (iI d f y)):se d (UQ d f op b x y):=by unfold UQ;split;exact .inl rfl;rename_i u v e;obtain⟨h1,h2⟩:=TQ hx hy e;refine .inr ⟨h.live,?_,?_,QO h.jh _ _ _ _ _ _,h.refs,h.ra,h.arr,h.aa,h.ew,h.may,h.parts,h.sub⟩;dsimp only;split<;>split<;>simp[h.v];dsimp only;split<;>split;exact mem_set (mem_set h.va _ h1) _ h2;exact mem_set h.va _ h2;exact mem_set h.va _ h1;exact h.va
theorem oN{d:Df}(hd:Jk d){vars na:Int}{k:Nat}{c:Co}{z:Nat}(hc:Ff vars na k c z):∀{f:Fa} (_:se d f) (b:Bool),se d (dW d c f b):=by
 induction hc with
 |test ho hx hy=>intro f hf b;rcases hf with rfl|hf;rw[lM];exact .inl rfl;rw[B4 d hf.live ho.1];exact cmpF_ok hd hf (nM hd hf.va hx) (nM hd hf.va hy)
 |not _ ih=>intro f hf b;rcases hf with rfl|hf;rw[lM];exact .inl rfl;rw[DN d hf.live];exact ih (.inr hf) _
 |and ho _ _ iha ihb=>intro f hf b;rcases hf with rfl|hf;rw[lM];exact .inl rfl;rw[DO d hf.live ho.1];split;exact ihb (iha (.inr hf) _) _;exact Yu (iha (.inr hf) _) (ihb (iha (.inr hf) _) _)
def jd:=@List.take_succ_eq_append_getElem
def zc:=@List.foldl_append
def Es:=@Nat.gcd_comm
def aW{G:Prop}(h:G:=by refine aN ?_;exact fu.mk rfl rfl):G:=h
def aT{G:Prop}(h:G:=by refine run ?_;exact fu.mk rfl rfl):G:=h
abbrev C(n:FuncId)(xs:List au)(r:au):Prop:=aj Tryz.prog n xs fZ r fZ
def ai(a:Av):au:= .agg [it a.lo,it a.hi,it a.m,it a.r,it a.mask]
def tB{p:Prop}[Decidable p](h:p):decide p=true:=decide_eq_true h
def fB{p:Prop}[Decidable p](h:¬p):decide p=false:=decide_eq_false h
def tE{a b:Int}(h:a=b):(a==b)=true:=beq_iff_eq.2 h
def fE{a b:Int}(h:a≠b):(a==b)=false:=beq_eq_false_iff_ne.2 h
def Gg(a m:Int)(h:0<m∧m<2^62):C 203 [it a,it m] (it (lU a m)):=by
 have t:=pB a h.1;have hz:m≠0:=af
 refine fo Tryz.func203 ?_;exact aT
def DP(a:Int)(h: -(2^63)<a∧a<2^63):C 202 [it a] (it (aS a)):=by refine fo Tryz.func202 ?_;exact aT
def EJ(a:Int):C 513 [it a] (bo (pT a)):=by
 by_cases h1: -2147483648<=a;have b1:=tB (show a>=-2147483648 from h1);by_cases h2:a<=2147483647;have b2:=tB h2;have e:pT a=true:=by simp[pT,h1,h2]
 rw[e];refine fo Tryz.func513 ?_;refine run ?_;exact fu.mk (aL bo b2) rfl;have b2:=fB h2;have e:pT a=false:=by simp[pT,h2]
 rw[e];refine fo Tryz.func513 ?_;refine run ?_;exact fu.mk (aL bo b2) rfl;have b1:=fB (show ¬a>=-2147483648 from h1);have e:pT a=false:=by simp[pT,h1]
 rw[e];refine fo Tryz.func513 ?_;exact aT
def C3(lo hi m k:Int)(h1: -(2^60)<lo∧lo<2^60)(h2: -(2^60)<hi∧hi<2^60)(h3:m<2^60)(h0:m<=0->lo=hi):C 144 [it lo,it hi,it m,it k] (ai (m7 lo hi m k)):=by
 unfold m7;by_cases hp:0<m;have b1:=tB (show m>0 from hp);have t:=pB (hi - lo) hp;have hz:m≠0:=af
 have c:=Gg lo m ⟨hp,af⟩;rw[aq hp];by_cases he:lo=hi - (hi - lo).tmod m;have b2:=tE he;rw[aq he];refine fo Tryz.func144 ?_;exact aT;have b2:=fE he;rw[ah he];refine fo Tryz.func144 ?_;exact aW;have b1:=fB (show ¬m>0 from hp);have e:=h0 af;have b2:=tE e;rw[ah hp,aq e];refine fo Tryz.func144 ?_;exact aT
structure GK where
 k:Nat
 x:Int
structure GI where
 x:Int
 y:Int
theorem natAbs_tmod(a b:Int):(a.tmod b).natAbs=a.natAbs%b.natAbs:=Int.natAbs_tmod a b
def BO(a:Int)(l:List Int)(hl:l.length<2^40)(ha: -(2^63)<=a∧a<2^63)(hx:∀x∈l,-(2^63)<=x∧x<2^63)(hg:dK a l<2^63):C 200 [it a,ints l] (it (dK a l)):=by
 have hll:(l.map it).length=l.length:=cZ ..;refine fo Tryz.func200 ?_;refine run ?_;refine bB.mk ⟨[],aZ.lp (λr:GK=>r.k<=l.length∧(-(2^63)<=r.x∧r.x<2^63)∧r.x.natAbs=dK a (l.take r.k)) (λr=>⟨[(0,it r.x),(9,it r.k)],[],[]⟩) (λr=>l.length - r.k) ⟨0,a⟩ ⟨dL _,ha,rfl⟩ ?_⟩;intro r hJ;have h1:=hJ.1;have h2:=hJ.2.1;have h3:=hJ.2.2;by_cases hk:r.k<l.length;have b1:=tB (show(r.k:Int)<((l.map it).length:Nat) by omega);have hxk:=hx _ (cU hk);refine run ?_;refine a_.map hk rfl ?_;refine run ?_;refine bB.mk ⟨[],aZ.lp (λq:GI=>(-(2^63)<=q.x∧q.x<2^63)∧(-(2^63)<=q.y∧q.y<2^63)∧Nat.gcd q.x.natAbs q.y.natAbs=Nat.gcd r.x.natAbs l[r.k].natAbs) (λq=>⟨[(0,it q.x),(6,it q.y)],[],[]⟩) (λq=>q.y.natAbs) ⟨r.x,l[r.k]⟩ ⟨h2,hxk,rfl⟩ ?_⟩;intro q hQ;have q1:=hQ.1;have q2:=hQ.2.1;have q3:=hQ.2.2;by_cases hy:q.y=0;have b2:(!(q.y==0))=false:=(by rw[hy];rfl);have e:q.x.natAbs=dK a (l.take (r.k+1)):=by have:dK a (l.take (r.k+1))=Nat.gcd (dK a (l.take r.k)) l[r.k].natAbs:=(by unfold dK;rw[jd hk,zc];rfl);rw[this,<-h3,<-q3,hy];simp
 have hm' :l.length - (r.k+1)<l.length - r.k:=af;refine run ?_;refine⟨⟨⟨r.k+1,q.x⟩,⟨bu,q1,e⟩⟩,hm',?_⟩;exact vH;have b2:(!(q.y==0))=true:=(by simp;exact hy);have t:=natAbs_tmod q.x q.y;have t2:q.x.natAbs%q.y.natAbs<q.y.natAbs:=AM _ af;have t3:(q.x.tmod q.y).natAbs<q.y.natAbs:=af
 have t4: -(2^63)<=q.x.tmod q.y∧q.x.tmod q.y<2^63:=af;have g:Nat.gcd q.y.natAbs (q.x.tmod q.y).natAbs=Nat.gcd q.x.natAbs q.y.natAbs:=by rw[t,Es q.y.natAbs,<-Nat.gcd_rec,Es]
 refine run ?_;refine⟨⟨⟨q.y,q.x.tmod q.y⟩,⟨q2,t4,g.trans q3⟩⟩,t3,?_⟩;exact vH;have b1:=fB (show ¬(r.k:Int)<((l.map it).length:Nat) by omega);have e1:l.take r.k=l:=og af;rw[e1]at h3;have c:=DP r.x af;have e:aS r.x=(dK a l:Nat):=by rw[kM,h3]
 rw[e]at c;exact aW
def Km:=@Int.natAbs_tdiv_le_natAbs
def J3:=@Int.ediv_le_self
def Pq{G:Prop}(h:G:=by simp at hx;rcases hx with rfl|rfl<;>omega):G:=h
def RL{G:Prop}(h:G:=by have:=pt (a:=aD a) (l:=[aD b,aS (a.lo - b.lo)]) (x:=aS (a.lo - b.lo)) (by simp) z3;omega):G:=h
def Ry{G:Prop}(h:G:=by have:=pt (a:=aD a) (l:=[aD b,aS (a.lo - b.lo)]) (x:=aD b) (by simp) z2;omega):G:=h
def Rv{G:Prop}(h:G:=by have:=pt (a:=aD a) (l:=[aD b,aS (a.lo - b.lo)]) (x:=aD a) (by simp) z;omega):G:=h
def K6(r m lo hi k:Int)(h1: -(2^58)<lo∧lo<2^58)(h2: -(2^58)<hi∧hi<2^58)(hr: -(2^62)<=r∧r<=2^62)(hmb:0<m∧m<2^58):C 514 [it r,it m,it lo,it hi,it k] (ai (BE r m lo hi k)):=by have t:=tF (r - lo) hmb.1;have h1a:=h1.1;have h1b:=h1.2;have h2a:=hr.1;have h2b:=hr.2;have hm1:=hmb.1;have hm2:=hmb.2;have c1:=Gg (r - lo) m ⟨af,af⟩;have c2:=C3 (lo+lU (r - lo) m) hi m k ⟨af,af⟩ ⟨af,af⟩ af af;show C 514 _ (ai (m7 _ _ _ _));generalize m7 (lo+lU (r - lo) m) hi m k=X at c2 ⊢;generalize lU (r - lo) m=M at t c1 c2;refine fo Tryz.func514 ?_;exact aW
def lS(a:Av):C 201 [ai a] (it (aD a)):=by unfold aD;by_cases h:a.lo=a.hi;have b:=tE h;rw[aq h];refine fo Tryz.func201 ?_;exact aT;have b:=fE h;rw[ah h];refine fo Tryz.func201 ?_;exact aT
def of_c(v k:Int)(h: -(2^60)<v∧v<2^60):C 145 [.agg [it v,it k]] (ai (kv v k)):=by
 have c:C 144 [it v,it v,it 0,it k] (ai (kv v k)):=by have:=C3 v v 0 k h h af (λ_=>rfl);rwa[show m7 v v 0 k=kv v k by simp[m7,kv]]at this
 refine fo Tryz.func145 ?_;exact aW
def all_c(k:Int):C 285 [it k] (ai (Hq k)):=by have c:=C3 (-2147483648) 2147483647 1 k ⟨af,af⟩ ⟨af,af⟩ af af;show C 285 _ (ai (m7 _ _ _ _));generalize m7 (-2147483648) 2147483647 1 k=X at c ⊢;refine fo Tryz.func285 ?_;exact aW
def jj(r:pL):Av:=m7 r.lo r.hi 1 r.mask
def Lf(r:pL)(h1: -(2^60)<r.lo∧r.lo<2^60)(h2: -(2^60)<r.hi∧r.hi<2^60):C 106 [bp r] (ai (jj r)):=by have c:=C3 r.lo r.hi 1 r.mask h1 h2 af af;show C 106 _ (ai (m7 _ _ _ _));generalize m7 r.lo r.hi 1 r.mask=X at c ⊢;refine fo Tryz.func106 ?_;exact aW
def WH(a:Av)(v:Int)(ha:aU a)(hv: -(2^60)<v∧v<2^60):C 183 [ai a,it v] (bo (sD a v)):=by
 have h1:=ha.lo;have h2:=ha.hi;have h3:=ha.m;have hz:a.m≠0:=af
 have h4:=ha.le;have hv1:=hv.1;have hv2:=hv.2;have t:=pB (v - a.lo) (show 0<a.m by omega);by_cases b1:decide (v>=a.lo)=true;by_cases b2:decide (v<=a.hi)=true;have e:sD a v=((v - a.lo).tmod a.m==0):=(by unfold sD;rw[b1,b2];rfl);rw[e];refine fo Tryz.func183 ?_;exact aT;have b2' :decide (v<=a.hi)=false:=(by simpa using b2);have e:sD a v=false:=by unfold sD;rw[b1,b2'];rfl
 rw[e];refine fo Tryz.func183 ?_;exact aT;have b1' :decide (v>=a.lo)=false:=by simpa using b1
 have e:sD a v=false:=by unfold sD;rw[b1'];rfl
 rw[e];refine fo Tryz.func183 ?_;exact aT
def Kv(a:Int){m:Int}(h:0<m):(0<=a->0<=a.tdiv m∧a.tdiv m<=a)∧(a.tdiv m).natAbs<=a.natAbs:=by refine⟨λha=> ?_,Km a m⟩;rw[gP ha];exact⟨xY ha af,J3 m ha⟩
def S7(a:Av)(ha:aU a):C 428 [ai a] (it (jV a)):=by
 have h1:=ha.lo;have h2:=ha.hi;have h3:=ha.m;have hz:a.m≠0:=af
 have h4:=ha.le;have t:=Kv (a.hi - a.lo) (show 0<a.m by omega);have t1:=t.1 af;have e:IntKind.i64.wrap ((a.hi - a.lo).tdiv a.m)=(a.hi - a.lo).tdiv a.m:=wrap_i64 af af;have e2:IntKind.i64.wrap ((a.hi - a.lo).tdiv a.m)+1=jV a:=by rw[e];rfl
 have e3:jV a=(a.hi - a.lo).tdiv a.m+1:=rfl;refine fo Tryz.func428 ?_;exact aT
def Bq(a b:Int):(((BitVec.ofInt IntKind.i64.bits a|||BitVec.ofInt IntKind.i64.bits b).toNat:Nat):Int)=iD a b:=rfl
def nS(a b:Int):(((BitVec.ofInt IntKind.i64.bits a&&&BitVec.ofInt IntKind.i64.bits b).toNat:Nat):Int)=bz a b:=rfl
def QT(a b:Int):(((BitVec.ofInt IntKind.i64.bits a&&& ~~~BitVec.ofInt IntKind.i64.bits b).toNat:Nat):Int)=kO a b:=rfl
def K8(a b:Av)(ha:aU a)(hb:aU b):C 143 [ai a,ai b] (ai (fR a b)):=by
 have h1:=ha.lo;have h2:=ha.hi;have h4:=ha.le;have g1:=hb.lo;have g2:=hb.hi;have g4:=hb.le;have s1:=gX ha;have s2:=gX hb;have o:=or8 ha.k0 ha.k1 hb.k0 hb.k1;have oe:=Bq a.mask b.mask;have c1:=lS a;have c2:=lS b;have c3:=DP (a.lo - b.lo) ⟨af,af⟩;have e3:=kM (a.lo - b.lo);have hle:dK (aD a) [aD b,aS (a.lo - b.lo)]<2^40:=by by_cases z:aD a=0;by_cases z2:aD b=0;by_cases z3:aS (a.lo - b.lo)=0;rw[z,z2,z3];decide;exact RL;exact Ry;exact Rv
 have c4:=BO (aD a) [aD b,aS (a.lo - b.lo)] ag af (λx hx=>Pq) af;have z0:((dK (aD a) [aD b,aS (a.lo - b.lo)]:Nat):Int)<=0->(if b.lo<a.lo then b.lo else a.lo)=(if b.hi>a.hi then b.hi else a.hi):=λh=>by obtain⟨e1,e2⟩:=mT (a:=aD a) (l:=[aD b,aS (a.lo - b.lo)]) af;have e4:=s1.2.2.1 e1;have e5:=s2.2.2.1 (e2 _ ag);have e6:=e2 (aS (a.lo - b.lo)) ag;split<;>split<;>omega
 have c5:=C3 (if b.lo<a.lo then b.lo else a.lo) (if b.hi>a.hi then b.hi else a.hi) (dK (aD a) [aD b,aS (a.lo - b.lo)]) (iD a.mask b.mask) ⟨iT,iT⟩ ⟨iT,iT⟩ af z0;unfold fR;rw[<-kM];generalize m7 (if b.lo<a.lo then b.lo else a.lo) (if b.hi>a.hi then b.hi else a.hi) (dK (aD a) [aD b,aS (a.lo - b.lo)]) (iD a.mask b.mask)=X at c5 ⊢;generalize dK (aD a) [aD b,aS (a.lo - b.lo)]=G at c4 c5;generalize aS (a.lo - b.lo)=D at c3 c4;generalize aD a=S at c1 c4;generalize aD b=T at c2 c4;refine fo Tryz.func143 ?_;exact aW
def eqAv(a b:Av):Bool:=a.lo==b.lo&&(a.hi==b.hi&&(a.m==b.m&&(a.r==b.r&&(a.mask==b.mask&&true))))
def G6(a b:Av):eqAv a b=decide (a=b):=by cases a;cases b;unfold eqAv;rw[Bool.eq_iff_iff];simp
def vT(a b:Av):Bool:=decide (fR a b=b)
def leq_c(a b:Av)(ha:aU a)(hb:aU b):C 73 [ai a,ai b] (bo (vT a b)):=by have c:=K8 a b ha hb;unfold vT;rw[<-G6];generalize fR a b=J at c ⊢;refine fo Tryz.func73 ?_;exact aW
def Wp{G:Prop}(h:G:=by by_cases e:a.lo=a.hi;have:=(ha.one e).1;omega;have:=ha.many (by omega);omega):G:=h
def Vx{G:Prop}(h:G:=by refine aN ?_;refine⟨⟨n+1,by omega⟩,hm',?_⟩;have pM:=aL (λx=>some (it x)) vs;have Hx:=aL (λx=>some (bo x.isSome)) e1.symm;have zz3:=aL (λx=>some (ai (KL x))) e1.symm;exact zh2):G:=h
def wrap64(x:Int):IntKind.i64.wrap x=Hy x:=by simp[IntKind.wrap,IntKind.bits,IntKind.signed,Hy,AO];omega
def w64_bd(x:Int): -(2^63)<=Hy x∧Hy x<2^63:=by have h1:Hy x<2^63:=Int.bmod_lt (x:=x) (m:=2^64) az;have h2: -(2^63)<=Hy x:=Int.le_bmod (x:=x) (m:=2^64) az;exact⟨h2,h1⟩
structure IK where
 n:Nat
 x:Int
 y:Int
 a:Int
 r:Int
def inv_c(a m:Int)(ha:0<=a∧a<2^40)(hmb:0<m∧m<2^40):C 430 [it a,it m] (it (DZ a m)):=by
 have hm1:=hmb.1;have hm2:=hmb.2;unfold DZ;by_cases h1:m=1;have b1:=tE h1;rw[aq h1];refine fo Tryz.func430 ?_;exact aT;have b1:=fE h1;have hz:m≠0:=af
 have t:=Ba ha.1 hm1;have c:=λx=>Gg x m ⟨hm1,af⟩;rw[ah h1];generalize hR:GC (m.toNat+2) 1 0 (a.tmod m) m=R;refine fo Tryz.func430 ?_;refine run ?_;refine bB.mk ⟨[],aZ.lp (λi:IK=>GC i.n i.x i.y i.a i.r=R∧(0<=i.a∧i.a<2^40)∧(0<=i.r∧i.r<2^40)∧i.r.toNat<i.n) (λi=>⟨[(5,it i.x),(6,it i.y),(0,it i.a),(7,it i.r)],[],[]⟩) (λi=>i.r.toNat) ⟨m.toNat+2,1,0,a.tmod m,m⟩ ⟨hR,⟨t.1,bu⟩,⟨bu,bu⟩,bu⟩ ?_⟩;intro i hJ;have j1:=hJ.1;have j2:=hJ.2.1.1;have j3:=hJ.2.1.2;have j4:=hJ.2.2.1.1;have j5:=hJ.2.2.1.2;have j6:=hJ.2.2.2;have hn:i.n=(i.n - 1)+1:=af
 by_cases hr:i.r=0;have b2:(!(i.r==0))=false:=(by rw[hr];rfl);have e:i.x=R:=by rw[<-j1,hn,GC,aq hr]
 have c' :=c i.x;refine aN ?_;exact fu.mk (aL (λx=>it (lU x m)) e) rfl;have b2:(!(i.r==0))=true:=(by simp;exact hr);have hp:0<i.r:=af
 have td:=Kv i.a hp;have td1:=td.1 j2;have tm:=Ba j2 hp;have eq:=Kj i.a i.r;have w1:IntKind.i64.wrap (i.a.tdiv i.r)=i.a.tdiv i.r:=wrap_i64 af af;have e1:IntKind.i64.wrap (i.a.tdiv i.r)*i.r=i.a - i.a.tmod i.r:=by rw[w1,Int.mul_comm];omega
 have e2:i.a - (i.a - i.a.tmod i.r)=i.a.tmod i.r:=af;have e3:Unit->IntKind.i64.wrap (i.x - IntKind.i64.wrap (IntKind.i64.wrap (i.a.tdiv i.r)*i.y))=Hy (i.x - Hy (i.a.tdiv i.r*i.y)):=λ_=>by rw[w1,wrap64,wrap64]
 clear eq w1;have hm' :(i.a.tmod i.r).toNat<i.r.toNat:=af
 refine run ?_;refine Arith.mk ?_;refine run ?_;refine Arith.mk ?_;refine run ?_;refine⟨⟨⟨i.n - 1,i.y,IntKind.i64.wrap (i.x - IntKind.i64.wrap (IntKind.i64.wrap (i.a.tdiv i.r)*i.y)),i.r,i.a.tmod i.r⟩,⟨by show GC _ _ _ _ _=_;rw[e3 (),<-j1,hn,GC,ah hr];rfl,⟨j4,j5⟩,⟨tm.1,bu⟩,bu⟩⟩,hm',?_⟩;exact vH
def inv_bd(a:Int){m:Int}(h:0<m):0<=DZ a m∧DZ a m<m:=by unfold DZ;split;omega;exact tF _ h
def B'(a:Av)(k:Nat):Int:=a.lo+k*a.m
def vAt_s(a:Av)(k:Nat):B' a k+a.m=B' a (k+1):=by unfold B';rw[Int.natCast_add,Int.add_mul];exact aA
def vAt_bd{a:Av}(ha:aU a)(k:Nat):a.lo<=B' a k∧(B' a k<=a.hi↔k<(jV a).toNat):=by have h1:=ha.m;have h2:=ha.le;have h3:0<=(k:Int)*a.m:=oc af af;have h4:(a.hi - a.lo).tdiv a.m=(a.hi - a.lo) / a.m:=gP af;have h5:0<=(a.hi - a.lo) / a.m:=xY af af;unfold B' jV;rw[h4];refine⟨af,?_⟩;have h6:=Int.le_ediv_iff_mul_le (a:=(k:Int)) (b:=a.hi - a.lo) (c:=a.m) af;constructor;intro h;have:=h6.2 af;omega;intro h;have:=h6.1 af;omega
def few_no{b:Av}{k v:Int}{o:Option Av}(h:sD b v=false):qL b k o v=o:=by unfold qL;rw[ah (by rw[h];simp)]
def few_one{b:Av}{k v:Int}(h:sD b v=true):qL b k none v=some (kv v k):=by unfold qL;rw[aq h]
def few_two{b:Av}{k v:Int}{x:Av}(h:sD b v=true):qL b k (some x) v=some (fR x (kv v k)):=by unfold qL;rw[aq h]
def KL(o:Option Av):Av:=o.getD zA
def few_c(a b:Av)(k:Int)(ha:aU a)(hb:aU b)(hk:0<=k∧k<=255):C 429 [ai a,ai b,it k] (.bR [ai (KL (NS a b k)),bo (NS a b k).isSome]):=by
 have h1:=ha.lo;have h2:=ha.hi;have h3:=ha.m;have h4:=ha.le;have hmh:a.m<=4294967296:=Wp
 refine fo Tryz.func429 ?_;refine run ?_;refine bB.mk ⟨[],aZ.lp (λn:Nat=>n<=(jV a).toNat) (λn=>⟨[(10,it (B' a n)),(9,bo (ln a b k n).isSome)],[(8,ai (KL (ln a b k n)))],[]⟩) (λn=>(jV a).toNat - n) 0 (dL _) ?_ (by
  have e:B' a 0=a.lo:=by simp[B']
  repeat' (first|exact trivial|exact rfl|exact aL (λx=>some (it x)) e.symm|refine⟨?_,?_⟩|refine⟨?_,?_,?_⟩))⟩
 intro n hn;have bd:=vAt_bd ha n;have bd1:=bd.1;have vs:=vAt_s a n;by_cases hv:B' a n<=a.hi
 ·have b1:=tB hv;have hlt:=bd.2.1 hv;have hm' :(jV a).toNat - (n+1)<(jV a).toNat - n:=by omega
  have cw:=WH b (B' a n) hb ⟨af,af⟩;have fs:ln a b k (n+1)=qL b k (ln a b k n) (B' a n):=rfl;by_cases hw:sD b (B' a n)=true
  ·have b2:(!sD b (B' a n))=false:=(by rw[hw];rfl);have co:C 144 [it (B' a n),it (B' a n),it 0,it k] (ai (kv (B' a n) k)):=by have:=C3 (B' a n) (B' a n) 0 k ⟨af,af⟩ ⟨af,af⟩ af (λ_=>rfl);rwa[show m7 (B' a n) (B' a n) 0 k=kv (B' a n) k by simp[m7,kv]]at this
   have oo:aU (kv (B' a n) k):=jm af af hk.1 hk.2;have key:ln a b k n=none∨∃x,ln a b k n=some x:=by cases ln a b k n<;>simp
   refine key.elim (λhf=> ?_) (λhx=>hx.elim λx hf=> ?_);have b3:(ln a b k n).isSome=false:=(by rw[hf];rfl);have e1:ln a b k (n+1)=some (kv (B' a n) k):=by rw[fs,hf,few_one hw]
   exact Vx
   ·have b3:(ln a b k n).isSome=true:=(by rw[hf];rfl);have e0:KL (ln a b k n)=x:=by rw[hf];rfl
    have e1:ln a b k (n+1)=some (fR x (kv (B' a n) k)):=(by rw[fs,hf,few_two hw]);have cj:=K8 x (kv (B' a n) k) (Lp ha hk.1 hk.2 n hn x hf) oo;have e2:(ln a b k n).isSome=(ln a b k (n+1)).isSome:=by rw[b3,e1];rfl
    have e4:fR (KL (ln a b k n)) (kv (B' a n) k)=KL (ln a b k (n+1)):=(by rw[e0,e1];rfl);rw[<-e0]at cj;refine aN ?_;refine⟨⟨n+1,af⟩,hm',?_⟩;repeat' (first|exact trivial|exact rfl|exact aL (λx=>some (it x)) vs|exact aL (λx=>some (bo x)) e2|exact aL (λx=>some (ai x)) e4|exact aL (λx=>some (bo x.isSome)) e1.symm|exact aL (λx=>some (ai (KL x))) e1.symm|refine And.intro ?_ ?_|refine Holds.mk ?_ ?_ ?_)
  have b2:(!sD b (B' a n))=true:=(by simp at hw;rw[hw];rfl);have e1:ln a b k (n+1)=ln a b k n:=by rw[fs,few_no (by simpa using hw)]
  exact Vx
 have b1:=fB hv;have e:n=(jV a).toNat:=by have:=bd.2;omega
 subst e;exact aT
def Ay{G:Prop}(h:G:=by simpa using z1):G:=h
def xD{G:Prop}(h:G:=by simp at hx;subst hx;omega):G:=h
def Ai{G:Prop}(h:G:=by refine fo Tryz.func364 ?_;exact aW):G:=h
def D3{G:Prop}(h:G:=by refine fo Tryz.func460 ?_;exact aW):G:=h
def DW(o:Option Av):au:= .bR [ai (KL o),bo o.isSome]
def mul_lt{x y n m:Int}(hx:0<=x∧x<n)(hy:0<=y∧y<m):0<=x*y∧x*y<=n*m:=by refine⟨oc hx.1 hy.1,?_⟩;exact sC af af hy.1 af
def KX(a b:Av)(ha:aU a)(hb:aU b):C 364 [ai a,ai b] (DW (kY a b)):=by
 have h1:=ha.lo;have h2:=ha.hi;have h4:=ha.le;have h5:=ha.m;have g1:=hb.lo;have g2:=hb.hi;have g4:=hb.le;have g5:=hb.m;have k8:=and8 (a:=a.mask) hb.k0 hb.k1;have ke:=nS a.mask b.mask;have ca:=S7 a ha;have cb:=S7 b hb;unfold DW;by_cases z1:jV a<=64;have b1:=tB z1;have c:=few_c a b (bz a.mask b.mask) ha hb k8;have e:kY a b=NS a b (bz a.mask b.mask):=aq z1;rw[e];generalize NS a b (bz a.mask b.mask)=X at c ⊢;exact Ai;have b1:=fB z1;by_cases z2:jV b<=64;have b2:=tB z2;have c:=few_c b a (bz a.mask b.mask) hb ha k8;have e:kY a b=NS b a (bz a.mask b.mask):=(ah z1).trans (aq z2);rw[e];generalize NS b a (bz a.mask b.mask)=X at c ⊢;exact Ai;have b2:=fB z2;have am:=N9 ha z1;have bm:=N9 hb z2;obtain⟨q1,q2,q3,q4,q5,q6,q7⟩:=Mf h5 g5;have cg:=BO a.m [b.m] ag ⟨af,af⟩ (λx hx=>xD) af;have hzg:((dK a.m [b.m]:Nat):Int)≠0:=af
 by_cases z3:(b.lo - a.lo).tmod (iG a b)≠0;have e:kY a b=none:=(ah z1).trans ((ah z2).trans (aq z3));have b3:(!((b.lo - a.lo).tmod (iG a b)==0))=true:=by simpa using z3
 rw[e];unfold iG at b3 z3;generalize ((dK a.m [b.m]:Nat):Int)=G at*;have t:=pB (b.lo - a.lo) (show 0<G by omega);exact Ai;have b3:(!((b.lo - a.lo).tmod (iG a b)==0))=false:=by simpa using z3
 have hN:0<iv a b∧iv a b<2^26:=⟨V5,by show b.m.tdiv _<_;exact Int.lt_of_le_of_lt q5 bm⟩;have w1:IntKind.i64.wrap (b.m.tdiv (iG a b))=iv a b:=wrap_i64 (by have:=hN.1;show -(2^63)<=iv a b;omega) (by have:=hN.2;show iv a b<_;omega);have td:=Kv (b.lo - a.lo) (show 0<iG a b by show 0<((dK a.m [b.m]:Nat):Int);omega);have w2:IntKind.i64.wrap ((b.lo - a.lo).tdiv (iG a b))=(b.lo - a.lo).tdiv (iG a b):=wrap_i64 af af;have hA:0<=a.m.tdiv (iG a b)∧a.m.tdiv (iG a b)<2^26:=⟨by show 0<=a.m.tdiv ((dK a.m [b.m]:Nat):Int);omega,by show a.m.tdiv ((dK a.m [b.m]:Nat):Int)<_;omega⟩;have w3:IntKind.i64.wrap (a.m.tdiv (iG a b))=a.m.tdiv (iG a b):=wrap_i64 af af;have m1:=tF ((b.lo - a.lo).tdiv (iG a b)) hN.1;have i1:=inv_bd (a.m.tdiv (iG a b)) hN.1;have m2:=tF (lU ((b.lo - a.lo).tdiv (iG a b)) (iv a b)*DZ (a.m.tdiv (iG a b)) (iv a b)) hN.1;have c1:=Gg ((b.lo - a.lo).tdiv (iG a b)) (iv a b) ⟨hN.1,af⟩;have c2:=inv_c (a.m.tdiv (iG a b)) (iv a b) ⟨hA.1,af⟩ ⟨hN.1,af⟩;have p1:=mul_lt (n:=2^26) (m:=2^26) (show 0<=lU ((b.lo - a.lo).tdiv (iG a b)) (iv a b)∧_ from⟨m1.1,af⟩) (show 0<=DZ (a.m.tdiv (iG a b)) (iv a b)∧_ from⟨i1.1,af⟩);have c3:=Gg (lU ((b.lo - a.lo).tdiv (iG a b)) (iv a b)*DZ (a.m.tdiv (iG a b)) (iv a b)) (iv a b) ⟨hN.1,af⟩;have e0:kY a b=if BA a b>mn a.hi b.hi then none else some (m7 (BA a b) (mn a.hi b.hi) (a.m*iv a b) (bz a.mask b.mask)):=(ah z1).trans ((ah z2).trans (ah z3))
 have eF:BA a b=mx a.lo b.lo+lU (a.lo+a.m*Dx a b - mx a.lo b.lo) (a.m*iv a b):=rfl;have eK:Dx a b=lU (lU ((b.lo - a.lo).tdiv (iG a b)) (iv a b)*DZ (a.m.tdiv (iG a b)) (iv a b)) (iv a b):=rfl;rw[<-eK]at c3 m2;have hG:((dK a.m [b.m]:Nat):Int)=iG a b:=rfl;rw[hG]at cg hzg q1;have p2:=mul_lt (n:=2^26) (m:=2^26) (show 0<=a.m∧_ from⟨af,am⟩) (show 0<=Dx a b∧_ from⟨m2.1,af⟩);have p3:=mul_lt (n:=2^26) (m:=2^26) (show 0<=a.m∧_ from⟨af,am⟩) (show 0<=iv a b∧_ from⟨af,hN.2⟩);have p4:0<a.m*iv a b:=Int.mul_pos af hN.1;have m4:=tF (a.lo+a.m*Dx a b - mx a.lo b.lo) p4;have c4:=Gg (a.lo+a.m*Dx a b - mx a.lo b.lo) (a.m*iv a b) ⟨p4,af⟩;have l1:=sO a.lo b.lo;have l1' :mx a.lo b.lo<=2^32:=oZ
 have l2:=Dw a.hi b.hi;have l2' : -(2^32)<=mn a.hi b.hi:=uE
 have c5:=C3 (BA a b) (mn a.hi b.hi) (a.m*iv a b) (bz a.mask b.mask) ⟨af,af⟩ ⟨af,af⟩ af af;have x1:(if b.lo>a.lo then b.lo else a.lo)=mx a.lo b.lo:=rfl;have x2:(if b.hi<a.hi then b.hi else a.hi)=mn a.hi b.hi:=rfl;rw[e0];generalize m7 (BA a b) (mn a.hi b.hi) (a.m*iv a b) (bz a.mask b.mask)=X at*;generalize BA a b=F at*;generalize Dx a b=K at*;generalize iv a b=N at*;generalize iG a b=G at*;have c1' :C 203 [it (IntKind.i64.wrap ((b.lo - a.lo).tdiv G)),it (IntKind.i64.wrap (b.m.tdiv G))] (it (lU ((b.lo - a.lo).tdiv G) N)):=by rw[w1,w2];exact c1
 have c2' :C 430 [it (IntKind.i64.wrap (a.m.tdiv G)),it (IntKind.i64.wrap (b.m.tdiv G))] (it (DZ (a.m.tdiv G) N)):=by rw[w1,w3];exact c2
 generalize lU ((b.lo - a.lo).tdiv G) N=M1 at*;generalize DZ (a.m.tdiv G) N=I1 at*;have c3' :C 203 [it (M1*I1),it (IntKind.i64.wrap (b.m.tdiv G))] (it K):=by rw[w1];exact c3
 generalize lU (a.lo+a.m*K - mx a.lo b.lo) (a.m*N)=M4 at*;have y1:a.m*IntKind.i64.wrap (b.m.tdiv G)=a.m*N:=by rw[w1]
 have t:=pB (b.lo - a.lo) (show 0<G by omega);have eF' :(if b.lo>a.lo then b.lo else a.lo)+M4=F:=eF.symm;clear eF w1 w2 w3 c1 c2 c3 hG eK e0 ke;have ke:=nS a.mask b.mask;by_cases z4:F>mn a.hi b.hi;have b4:decide (F>if b.hi<a.hi then b.hi else a.hi)=true:=tB z4;rw[aq z4];exact Ai;have b4:decide (F>if b.hi<a.hi then b.hi else a.hi)=false:=fB z4;rw[ah z4];exact Ai
def LF(a:Av)(lo hi:Int)(ha:aU a)(hl: -(2^40)<lo∧lo<2^40)(hh: -(2^40)<hi∧hi<2^40):C 487 [ai a,it lo,it hi] (DW (qg a lo hi)):=by
 have h1:=ha.lo;have h2:=ha.hi;have h4:=ha.le;have h5:=ha.m;have hb1:=hl.1;have hb2:=hl.2;have hb3:=hh.1;have hb4:=hh.2;have hmh:a.m<=4294967296:=Wp
 have t:=tF (a.lo - mx a.lo lo) (show 0<a.m by omega);have c1:=Gg (a.lo - mx a.lo lo) a.m ⟨af,af⟩;have l1:=sO a.lo lo;have l1' :mx a.lo lo<=2^40:=oZ
 have l2:=Dw a.hi hi;have l2' : -(2^40)<=mn a.hi hi:=uE
 have eC:DM a lo=mx a.lo lo+lU (a.lo - mx a.lo lo) a.m:=rfl;have c2:=C3 (DM a lo) (mn a.hi hi) a.m a.mask ⟨af,af⟩ ⟨af,af⟩ af af;unfold DW qg;generalize m7 (DM a lo) (mn a.hi hi) a.m a.mask=X at*;generalize DM a lo=F at*;generalize lU (a.lo - mx a.lo lo) a.m=M at*;have eF:(if lo>a.lo then lo else a.lo)+M=F:=eC.symm;have y1:(if lo>a.lo then lo else a.lo)<=2^40:=l1';have y2:a.lo<=(if lo>a.lo then lo else a.lo):=l1.1;clear eC;by_cases z4:F>mn a.hi hi;have b4:decide (F>if hi<a.hi then hi else a.hi)=true:=tB z4;rw[aq z4];refine fo Tryz.func487 ?_;exact aW;have b4:decide (F>if hi<a.hi then hi else a.hi)=false:=fB z4;rw[ah z4];refine fo Tryz.func487 ?_;exact aW
def u_(o:Option (Av×Av)):au:= .bR [ai (o.getD (zA,zA)).1,ai (o.getD (zA,zA)).2,bo o.isSome]
def Yo(a b:Av)(d:Int)(ha:aU a)(hb:aU b)(hd: -1<=d∧d<=2):C 461 [ai a,ai b,it d] (u_ (vN a b d)):=by
 have h1:=ha.lo;have h2:=ha.hi;have h4:=ha.le;have g1:=hb.lo;have g2:=hb.hi;have g4:=hb.le;have d1:=hd.1;have d2:=hd.2;have c1:=LF a (-2147483648) (b.hi - d) ha ⟨af,af⟩ ⟨af,af⟩;have c2:=LF b (a.lo+d) 2147483647 hb ⟨af,af⟩ ⟨af,af⟩;have e:vN a b d=match qg a (-2147483648) (b.hi - d),qg b (a.lo+d) 2147483647 with|some x,some y=>some (x,y)|_,_=>none:=rfl
 rw[e];clear e;unfold DW at c1 c2;generalize qg a (-2147483648) (b.hi - d)=X at c1 ⊢;generalize qg b (a.lo+d) 2147483647=Y at c2 ⊢;unfold u_;cases X with|none=>refine fo Tryz.func461 ?_;exact aW|some x=>cases Y with|none=>refine fo Tryz.func461 ?_;exact aW|some y=>refine fo Tryz.func461 ?_;exact aW
def HW(a b:Av)(ha:aU a):C 460 [ai a,ai b] (DW (jZ a b)):=by
 have h1:=ha.lo;have h2:=ha.hi;have h4:=ha.le;have cs:=lS b;unfold jZ;by_cases z1:aD b≠0;have b1:(!(aD b==0))=true:=Ay
 rw[aq z1];exact D3;have b1:(!(aD b==0))=false:=Ay
 rw[ah z1];by_cases z2:a.lo=b.lo;have b2:=tE z2;have c:=LF a (a.lo+1) 2147483647 ha ⟨af,af⟩ ⟨af,af⟩;rw[aq z2];show C 460 _ (DW (qg a (a.lo+1) 2147483647));unfold DW at c ⊢;generalize qg a (a.lo+1) 2147483647=X at c ⊢;exact D3;have b2:=fE z2;rw[ah z2];by_cases z3:a.hi=b.lo;have b3:=tE z3;have c:=LF a (-2147483648) (a.hi - 1) ha ⟨af,af⟩ ⟨af,af⟩;rw[aq z3];show C 460 _ (DW (qg a (-2147483648) (a.hi - 1)));unfold DW at c ⊢;generalize qg a (-2147483648) (a.hi - 1)=X at c ⊢;exact D3;have b3:=fE z3;rw[ah z3];exact D3
def equal_c(a b:Av)(ha:aU a)(hb:aU b):C 459 [ai a,ai b] (u_ (equalA a b)):=by have c:=KX a b ha hb;unfold equalA;unfold DW at c;generalize kY a b=X at c ⊢;unfold u_;cases X with|none=>refine fo Tryz.func459 ?_;exact aW|some x=>refine fo Tryz.func459 ?_;exact aW
def aG{G:Prop}(h:G:=by exact fu.mk rfl rfl):G:=h
def oS{G:Prop}(h:G:=by refine MVal.mk ⟨_,_,rfl,?_⟩;exact aW):G:=h
def oQ{G:Prop}(h:G:=by refine fo Tryz.func422 ?_;exact aW):G:=h
theorem Xq(op:Int)(h:Bool)(a b:Av)(ha:aU a)(hb:aU b):C 422 [it op,bo h,ai a,ai b] (u_ (sJ op h a b)):=by
 by_cases z1:op=4
 ·have b1:=tE z1;subst z1;cases h with
  |true=>have c:=equal_c a b ha hb;show C 422 _ (u_ (equalA a b));unfold u_ at c ⊢;generalize equalA a b=X at c ⊢;exact oQ
  |false=>
   have c1:=HW a b ha;have hX:=λx (e:jZ a b=some x)=>zk ha e;have c2:=λx=>HW b x hb
   show C 422 _ (u_ (match jZ a b with
    |none=>none|some x=>match jZ b x with|none=>none|some y=>some (x,y)))
   unfold DW at c1 c2;generalize jZ a b=X at*;cases X with
   |none=>show C 422 _ (u_ none);unfold u_;exact oQ
   |some x=>
    have c3:=c2 x
    show C 422 _ (u_ (match jZ b x with
     |none=>none|some y=>some (x,y)))
    clear c2;generalize jZ b x=Y at*;cases Y with|none=>show C 422 _ (u_ none);unfold u_;exact oQ|some y=>show C 422 _ (u_ (some (x,y)));unfold u_;exact oQ
 have b1:=fE z1;by_cases z2:op=2∨op=3
 ·have e:sJ op h a b=if h then vN a b (3 - op)else match vN b a (1 - (3 - op))with|some (y,x)=>some (x,y)|none=>none:=(ah z1).trans (aq z2)
  rw[e];cases h with
  |true=>
   have c:=Yo a b (3 - op) ha hb af;show C 422 _ (u_ (vN a b (3 - op)));unfold u_ at c ⊢;generalize vN a b (3 - op)=X at c ⊢;rcases z2 with rfl|rfl;exact oQ
   exact oQ
  |false=>
   have c:=Yo b a (1 - (3 - op)) hb ha af
   show C 422 _ (u_ (match vN b a (1 - (3 - op))with
    |some (y,x)=>some (x,y)|none=>none))
   unfold u_ at c ⊢;generalize vN b a (1 - (3 - op))=X at c ⊢;rcases z2 with rfl|rfl;cases X with|none=>exact oQ|some x=>exact oQ
   cases X with|none=>exact oQ|some x=>exact oQ
 have e:sJ op h a b=some (a,b):=by unfold sJ;rw[ah z1,ah z2]
 have b2:(!(op==2))=true:=aA
 have b3:(!(op==3))=true:=aA
 rw[e];refine fo Tryz.func422 ?_;exact aT
def wrap32(x:Int):IntKind.i32.wrap x=Ah x:=by simp[IntKind.wrap,IntKind.bits,IntKind.signed,Ah,AO];omega
def uS(v:Int):C 468 [it v] (it (Ah v)):=by have e:=wrap32 v;have bd:=Ks v;unfold MI MA at bd;have bd1:=bd.1;have bd2:=bd.2;refine fo Tryz.func468 ?_;refine run ?_;refine Arith.mk ?_;exact aT
def Bx(n:FuncId):au:= .gB (.func n) [] []
def numMap:List au:=[.me (it 4) (Bx 504),.me (it 5) (Bx 505),.me (it 6) (Bx 506),.me (it 7) (Bx 507),.me (it 8) (Bx 508),.me (it 9) (Bx 509),.me (it 10) (Bx 510)]
def XL:aj Tryz.prog 490 [] fZ (.dR 1000) ⟨[],[⟨0,true,numMap⟩]⟩:=by
 refine eg hm Tryz.func490 (λ_=>false) [true] (λ_=>[]) aB ?_;refine run ?_;repeat(refine nY.mk ⟨none,rfl,?_⟩;refine run ?_)
 exact aG
def add_n(a b:Int)(ha: -(2^40)<a∧a<2^40)(hb: -(2^40)<b∧b<2^40):C 504 [it a,it b] (it (a+b)):=by refine fo Tryz.func504 ?_;exact aT
def sub_n(a b:Int)(ha: -(2^40)<a∧a<2^40)(hb: -(2^40)<b∧b<2^40):C 505 [it a,it b] (it (a - b)):=by refine fo Tryz.func505 ?_;exact aT
def mul_n(a b:Int)(h: -(2^63)<=a*b∧a*b<2^63):C 506 [it a,it b] (it (a*b)):=by refine fo Tryz.func506 ?_;exact aT
def div_n(a b:Int)(ha: -(2^40)<a∧a<2^40):C 507 [it a,it b] (it (if b=0 then 0 else a.tdiv b)):=by by_cases h:b=0;have b1:=tE h;rw[aq h];refine fo Tryz.func507 ?_;exact aT;have b1:=fE h;have t:(a.tdiv b).natAbs<=a.natAbs:=Km a b;have e:IntKind.i64.wrap (a.tdiv b)=a.tdiv b:=wrap_i64 af af;rw[ah h];refine fo Tryz.func507 ?_;refine run ?_;exact fu.mk (aL it e) rfl
def mod_n(a b:Int):C 508 [it a,it b] (it (if b=0 then a else a.tmod b)):=by by_cases h:b=0;have b1:=tE h;rw[aq h];refine fo Tryz.func508 ?_;exact aT;have b1:=fE h;rw[ah h];refine fo Tryz.func508 ?_;exact aT
def min_n(a b:Int):C 509 [it a,it b] (it (mn a b)):=by refine fo Tryz.func509 ?_;exact aT
def max_n(a b:Int):C 510 [it a,it b] (it (mx a b)):=by refine fo Tryz.func510 ?_;exact aT
def w32_mul{a b:Int}(ha:MI<=a∧a<=MA)(hb:MI<=b∧b<=MA): -(2^63)<=a*b∧a*b<2^63:=by
 unfold MI MA at*;have h1:a.natAbs<=2147483648:=af
 have h2:b.natAbs<=2147483648:=af
 have h3:(a*b).natAbs<=2147483648*2147483648:=by rw[Int.natAbs_mul];exact xW h1 h2
 omega
def numOp_c(op a b:Int)(h:4<=op∧op<=10):C 471 [it op,it a,it b] (it (yR op a b)):=by
 have cm:=XL;have w1:=uS a;have w2:=uS b;have ba:=Ks a;have bb:=Ks b;have bm:=w32_mul ba bb;unfold MI MA at ba bb;unfold yR;generalize Ah a=x at*;generalize Ah b=y at*;have hop:op=4∨op=5∨op=6∨op=7∨op=8∨op=9∨op=10:=af
 rcases hop with rfl|rfl|rfl|rfl|rfl|rfl|rfl;have c:=add_n x y ⟨af,af⟩ ⟨af,af⟩;have w:=uS (x+y);show C 471 _ (it (Ah (x+y)));refine fo Tryz.func471 ?_;refine aN ?_;refine nY.mk ⟨some 0,rfl,?_⟩;exact oS
 have c:=sub_n x y ⟨af,af⟩ ⟨af,af⟩;have w:=uS (x - y);show C 471 _ (it (Ah (x - y)));refine fo Tryz.func471 ?_;refine aN ?_;refine nY.mk ⟨some 1,rfl,?_⟩;exact oS;have c:=mul_n x y bm;have w:=uS (x*y);show C 471 _ (it (Ah (x*y)));refine fo Tryz.func471 ?_;refine aN ?_;refine nY.mk ⟨some 2,rfl,?_⟩;exact oS;have c:=div_n x y ⟨af,af⟩;have w:=uS (if y=0 then 0 else x.tdiv y);have e:CA 7 x y=Ah (if y=0 then 0 else x.tdiv y):=by unfold CA;simp;split<;>rfl
 rw[e];generalize (if y=0 then 0 else x.tdiv y)=z at*;refine fo Tryz.func471 ?_;refine aN ?_;refine nY.mk ⟨some 3,rfl,?_⟩;exact oS;have c:=mod_n x y;have w:=uS (if y=0 then x else x.tmod y);have e:CA 8 x y=Ah (if y=0 then x else x.tmod y):=by unfold CA;simp;split<;>rfl
 rw[e];generalize (if y=0 then x else x.tmod y)=z at*;refine fo Tryz.func471 ?_;refine aN ?_;refine nY.mk ⟨some 4,rfl,?_⟩;exact oS;have c:=min_n x y;have w:=uS (mn x y);show C 471 _ (it (Ah (mn x y)));refine fo Tryz.func471 ?_;refine aN ?_;refine nY.mk ⟨some 5,rfl,?_⟩;exact oS;have c:=max_n x y;have w:=uS (mx x y);show C 471 _ (it (Ah (mx x y)));refine fo Tryz.func471 ?_;refine aN ?_;refine nY.mk ⟨some 6,rfl,?_⟩;exact oS
def Ra{G:Prop}(h:G:=by generalize pT lo=V1 at*;generalize pT hi=V2 at*;subst z1 z2;refine fo Tryz.func512 ?_;exact aW):G:=h
def yX(a b:Av)(k:Int):au:= .agg [it a.lo,it a.hi,it a.m,it a.r,it a.mask,it b.lo,it b.hi,it b.m,it b.r,it b.mask,it k]
def by_big(lo hi m k:Int)(h1: -(2^59)<lo∧lo<2^59)(h2: -(2^59)<hi∧hi<2^59)(hle:lo<=hi)(h3:m<2^63)(h0:m<=0->lo=hi):C 144 [it lo,it hi,it m,it k] (ai (m7 lo hi m k)):=by
 by_cases hb:m<2^60;exact C3 lo hi m k ⟨af,af⟩ ⟨af,af⟩ hb h0;have b1:=tB (show m>0 by omega);have hz:m≠0:=af
 have e:(hi - lo).tmod m=hi - lo:=by rw[Fp af];exact Ew af af
 have e2:hi - (hi - lo).tmod m=lo:=af
 have b2:=tE (show lo=lo from rfl);have r:m7 lo hi m k=⟨lo,lo,1,0,k⟩:=by unfold m7;rw[aq af,e2,aq rfl]
 rw[r];refine fo Tryz.func144 ?_;exact aT
def LK(a b:Av)(k lo hi m:Int)(h:lo<=hi)(h1: -(2^62)<=lo∧lo<=2^62)(h2: -(2^62)<=hi∧hi<=2^62)(hmb:0<=m∧m<2^63)(h0:m=0->lo=hi):C 512 [yX a b k,it lo,it hi,it m] (ai (oM lo hi m k)):=by
 have c1:=EJ lo;have c2:=EJ hi;unfold oM;by_cases z1:pT lo=true;by_cases z2:pT hi=true;have y1:=z1;have y2:=z2;simp only[pT,bc,yd]at y1 y2;have c3:=by_big lo hi m k ⟨af,af⟩ ⟨af,af⟩ h hmb.2 (λq=>h0 af);rw[aq (by rw[z1,z2];rfl)];clear y1 y2;generalize m7 lo hi m k=X at*;exact Ra;have z2:pT hi=false:=(by simpa using z2);have g:=YX m;have cg:=BO 4294967296 [m] ag ⟨af,af⟩ (λx hx=>xD) af;have c3:=K6 lo (dK 4294967296 [m]) (-2147483648) 2147483647 k ⟨af,af⟩ ⟨af,af⟩ h1 ⟨af,af⟩;rw[ah (by rw[z2];simp)];show C 512 _ (ai (BE lo (dK 4294967296 [m]) (-2147483648) 2147483647 k));generalize BE lo (dK 4294967296 [m]) (-2147483648) 2147483647 k=X at*;generalize ((dK 4294967296 [m]:Nat):Int)=G at*;exact Ra;have z1:pT lo=false:=Ay
 have g:=YX m;have cg:=BO 4294967296 [m] ag ⟨af,af⟩ (λx hx=>xD) af;have c3:=K6 lo (dK 4294967296 [m]) (-2147483648) 2147483647 k ⟨af,af⟩ ⟨af,af⟩ h1 ⟨af,af⟩;rw[ah (by rw[z1];simp)];show C 512 _ (ai (BE lo (dK 4294967296 [m]) (-2147483648) 2147483647 k));generalize BE lo (dK 4294967296 [m]) (-2147483648) 2147483647 k=X at*;generalize ((dK 4294967296 [m]:Nat):Int)=G at*;generalize pT lo=V1 at*;clear c2;subst z1;refine fo Tryz.func512 ?_;exact aW
def gst{a b:Av}(ha:aU a)(hb:aU b):dK (aD a) [aD b]<2^40∧(((dK (aD a) [aD b]:Nat):Int)=0->a.lo=a.hi∧b.lo=b.hi):=by have s1:=gX ha;have s2:=gX hb;have h1:=ha.lo;have h2:=ha.hi;have g1:=hb.lo;have g2:=hb.hi;refine⟨?_,λh=> ?_⟩;by_cases z:aD a=0;by_cases z2:aD b=0;rw[z,z2];decide;have:=pt (a:=aD a) (l:=[aD b]) (x:=aD b) ag z2;omega;have:=pt (a:=aD a) (l:=[aD b]) (x:=aD a) ag z;omega;exact RK
def gst_c{a b:Av}(ha:aU a)(hb:aU b):C 200 [it (aD a),ints [aD b]] (it (dK (aD a) [aD b])):=by have s1:=gX ha;have s2:=gX hb;have h1:=ha.lo;have h2:=ha.hi;have g1:=hb.lo;have g2:=hb.hi;have:=(gst ha hb).1;exact BO (aD a) [aD b] ag ⟨af,af⟩ (λx hx=>xD) af
def add_c(a b:Av)(k:Int)(ha:aU a)(hb:aU b):C 494 [yX a b k] (ai (HK 4 a b k)):=by have h1:=ha.lo;have h2:=ha.hi;have h4:=ha.le;have g1:=hb.lo;have g2:=hb.hi;have g4:=hb.le;have g:=gst ha hb;have c1:=lS a;have c2:=lS b;have c3:=gst_c ha hb;have c4:=LK a b k (a.lo+b.lo) (a.hi+b.hi) (dK (aD a) [aD b]) af ⟨af,af⟩ ⟨af,af⟩ ⟨af,af⟩ (λq=>by have:=g.2 q;omega);show C 494 _ (ai (oM (a.lo+b.lo) (a.hi+b.hi) (dK (aD a) [aD b]) k));generalize oM (a.lo+b.lo) (a.hi+b.hi) (dK (aD a) [aD b]) k=X at*;clear g;generalize ((dK (aD a) [aD b]:Nat):Int)=G at*;generalize aD a=S at*;generalize aD b=T at*;refine fo Tryz.func494 ?_;exact aW
def sub_c(a b:Av)(k:Int)(ha:aU a)(hb:aU b):C 495 [yX a b k] (ai (HK 5 a b k)):=by have h1:=ha.lo;have h2:=ha.hi;have h4:=ha.le;have g1:=hb.lo;have g2:=hb.hi;have g4:=hb.le;have g:=gst ha hb;have c1:=lS a;have c2:=lS b;have c3:=gst_c ha hb;have c4:=LK a b k (a.lo - b.hi) (a.hi - b.lo) (dK (aD a) [aD b]) af ⟨af,af⟩ ⟨af,af⟩ ⟨af,af⟩ (λq=>by have:=g.2 q;omega);show C 495 _ (ai (oM (a.lo - b.hi) (a.hi - b.lo) (dK (aD a) [aD b]) k));generalize oM (a.lo - b.hi) (a.hi - b.lo) (dK (aD a) [aD b]) k=X at*;clear g;generalize ((dK (aD a) [aD b]:Nat):Int)=G at*;generalize aD a=S at*;generalize aD b=T at*;refine fo Tryz.func495 ?_;exact aW
def Te(a b:Av)(k:Int)(ha:aU a)(hb:aU b):jB a b<2^40∧C 515 [yX a b k] (it (jB a b)):=by
 have h1:=ha.lo;have h2:=ha.hi;have h4:=ha.le;have g1:=hb.lo;have g2:=hb.hi;have g4:=hb.le;have s1:=gX ha;have s2:=gX hb;have c1:=lS a;have c2:=lS b;have c3:=DP (a.lo - b.lo) ⟨af,af⟩;have e3:=kM (a.lo - b.lo);have hle:jB a b<2^40:=by unfold jB;by_cases z:aD a=0;by_cases z2:aD b=0;by_cases z3:aS (a.lo - b.lo)=0;rw[z,z2,z3];decide;exact RL;exact Ry;exact Rv
 refine⟨hle,?_⟩;have c4:C 200 [it (aD a),ints [aD b,aS (a.lo - b.lo)]] (it (jB a b)):=BO (aD a) [aD b,aS (a.lo - b.lo)] ag af (λx hx=>Pq) (by unfold jB at hle;omega);generalize jB a b=G at*;generalize aS (a.lo - b.lo)=D at*;generalize aD a=S at*;generalize aD b=T at*;refine fo Tryz.func515 ?_;exact aW
def Yn(a b:Av)(k:Int)(ha:aU a)(hb:aU b):C 499 [yX a b k] (ai (HK 9 a b k)):=by have h1:=ha.lo;have h2:=ha.hi;have h4:=ha.le;have g1:=hb.lo;have g2:=hb.hi;have g4:=hb.le;have c1:=(Te a b k ha hb).2;have hl:=(Te a b k ha hb).1;have h0:=λq=>B7 ha hb q;have l1:=Dw a.lo b.lo;have l2:=Dw a.hi b.hi;have c2:=C3 (mn a.lo b.lo) (mn a.hi b.hi) (jB a b) k ⟨uE,af⟩ ⟨uE,af⟩ af (λq=>by have:=h0 (by unfold jB at*;omega);unfold mn;split<;>split<;>omega);show C 499 _ (ai (m7 (mn a.lo b.lo) (mn a.hi b.hi) (jB a b) k));generalize m7 (mn a.lo b.lo) (mn a.hi b.hi) (jB a b) k=X at*;clear h0 hl;generalize jB a b=G at*;refine fo Tryz.func499 ?_;exact aW
def Uw(a b:Av)(k:Int)(ha:aU a)(hb:aU b):C 500 [yX a b k] (ai (HK 10 a b k)):=by have h1:=ha.lo;have h2:=ha.hi;have h4:=ha.le;have g1:=hb.lo;have g2:=hb.hi;have g4:=hb.le;have c1:=(Te a b k ha hb).2;have hl:=(Te a b k ha hb).1;have h0:=λq=>B7 ha hb q;have l1:=sO a.lo b.lo;have l2:=sO a.hi b.hi;have c2:=C3 (mx a.lo b.lo) (mx a.hi b.hi) (jB a b) k ⟨af,oZ⟩ ⟨af,oZ⟩ af (λq=>by have:=h0 (by unfold jB at*;omega);unfold mx;split<;>split<;>omega);show C 500 _ (ai (m7 (mx a.lo b.lo) (mx a.hi b.hi) (jB a b) k));generalize m7 (mx a.lo b.lo) (mx a.hi b.hi) (jB a b) k=X at*;clear h0 hl;generalize jB a b=G at*;refine fo Tryz.func500 ?_;exact aW
def zby3_{G:Prop}(h:G:=by have:dK (aD a) [aS b.lo]≠0:=λh=>z2 ((mT h).2 (aS b.lo) (by simp));have:=pt (a:=aD a) (l:=[aS b.lo]) (x:=aS b.lo) (by simp) z2;omega):G:=h
def v_{G:Prop}(h:G:=by unfold mx mn;split<;>split<;>omega):G:=h
def iA{G:Prop}(h:G:=by refine fo Tryz.func497 ?_;exact aW):G:=h
def Ri{G:Prop}(h:G:=by generalize BE a.lo (dK (aD a) [aS b.lo]) (mx (mn a.lo 0) (1 - aS b.lo)) (mn (mx a.hi 0) (aS b.lo - 1)) k=X at*;generalize ((dK (aD a) [aS b.lo]:Nat):Int)=G at*;generalize aS b.lo=N at*;generalize aD a=S at*;refine fo Tryz.func498 ?_;exact aW):G:=h
def Jq{G:Prop}(h:G:=by generalize aS b.lo=N at*;refine fo Tryz.func498 ?_;exact aW):G:=h
def Q'{G:Prop}(h:G:=by refine fo Tryz.func452 ?_;refine aN ?_;refine a_.at rfl (by omega) rfl ?_;exact aW):G:=h
def ER{a b:Av}(ha:aU a)(hb:aU b){x y:Int}(hx:x=a.lo∨x=a.hi)(hy:y=b.lo∨y=b.hi): -(2^62)<=x*y∧x*y<=2^62:=by
 have h1:=ha.lo;have h2:=ha.hi;have h4:=ha.le;have g1:=hb.lo;have g2:=hb.hi;have g4:=hb.le;have k1:x.natAbs<=2147483648:=af
 have k2:y.natAbs<=2147483648:=af
 have k3:(x*y).natAbs<=2147483648*2147483648:=by rw[Int.natAbs_mul];exact xW k1 k2
 omega
def mulM_lt{a b:Av}(ha:aU a)(hb:aU b):(mulM a b:Int)<2^63∧(0<=aS a.lo*aD b∧aS a.lo*aD b<2^63)∧(0<=aS b.lo*aD a∧aS b.lo*aD a<2^63):=by
 have h1:=ha.lo;have h2:=ha.hi;have h4:=ha.le;have g1:=hb.lo;have g2:=hb.hi;have g4:=hb.le;have s1:=gX ha;have s2:=gX hb;have e1:=kM a.lo;have e2:=kM b.lo;have p1:0<=aS a.lo*aD b∧aS a.lo*aD b<=2147483648*4294967295:=⟨oc af s2.1,sC af af s2.1 af⟩;have p2:0<=aS b.lo*aD a∧aS b.lo*aD a<=2147483648*4294967295:=⟨oc af s1.1,sC af af s1.1 af⟩;refine⟨?_,⟨p1.1,af⟩,⟨p2.1,af⟩⟩;unfold mulM;by_cases x1:aS a.lo*aD b=0;by_cases x2:aS b.lo*aD a=0;by_cases x3:Hy (aD a*aD b)=0;rw[x1,x2,x3];decide;have nz:aD a*aD b≠0:=λh=>x3 (by rw[h];decide);have n1:aD a≠0:=λh=>nz (by rw[h,Int.zero_mul]);have n2:aD b≠0:=λh=>nz (by rw[h,Int.mul_zero]);have z1:aS a.lo=0:=(AQ.1 x1).resolve_right n2;have z2:aS b.lo=0:=(AQ.1 x2).resolve_right n1;have q:0<=aD a*aD b∧aD a*aD b<=2147483647*2147483647:=⟨oc s1.1 s2.1,sC af af s2.1 af⟩;have e:Hy (aD a*aD b)=aD a*aD b:=by unfold Hy;rw[AO,Ew q.1 af];split<;>omega
 have:=pt (a:=aS a.lo*aD b) (l:=[aS b.lo*aD a,Hy (aD a*aD b)]) (x:=Hy (aD a*aD b)) ag x3;omega;have:=pt (a:=aS a.lo*aD b) (l:=[aS b.lo*aD a,Hy (aD a*aD b)]) (x:=aS b.lo*aD a) ag x2;omega;have:=pt (a:=aS a.lo*aD b) (l:=[aS b.lo*aD a,Hy (aD a*aD b)]) (x:=aS a.lo*aD b) ag x1;omega
def mul_c(a b:Av)(k:Int)(ha:aU a)(hb:aU b):C 496 [yX a b k] (ai (HK 6 a b k)):=by
 have h1:=ha.lo;have h2:=ha.hi;have h4:=ha.le;have g1:=hb.lo;have g2:=hb.hi;have g4:=hb.le;have p1:=ER ha hb (.inl rfl) (.inl rfl);have p2:=ER ha hb (.inl rfl) (.inr rfl);have p3:=ER ha hb (.inr rfl) (.inl rfl);have p4:=ER ha hb (.inr rfl) (.inr rfl);have mk:=X0 ha hb;have ml:=mulM_lt ha hb;have c1:=lS a;have c2:=lS b;have c3:=DP a.lo ⟨af,af⟩;have c4:=DP b.lo ⟨af,af⟩;have wb:=w64_bd (aD a*aD b);have c5:C 200 [it (aS a.lo*aD b),ints [aS b.lo*aD a,IntKind.i64.wrap (aD a*aD b)]] (it (mulM a b)):=by rw[wrap64];exact BO (aS a.lo*aD b) [aS b.lo*aD a,Hy (aD a*aD b)] ag ⟨af,af⟩ (λx hx=>Pq) (by have:=ml.1;unfold mulM at this;omega)
 have hlo: -(2^62)<=sL a b∧sL a b<=2^62:=by unfold sL mn;repeat' split<;>omega
 have hhi: -(2^62)<=sM a b∧sM a b<=2^62:=by unfold sM mx;repeat' split<;>omega
 have c6:=LK a b k (sL a b) (sM a b) (mulM a b) mk.1 hlo hhi ⟨dX _,ml.1⟩ mk.2;show C 496 _ (ai (oM (sL a b) (sM a b) (mulM a b) k));generalize oM (sL a b) (sM a b) (mulM a b) k=X at*;clear mk hlo hhi;have m1:=ml.2.1;have m2:=ml.2.2;clear ml;generalize mulM a b=G at*;generalize aD a=S at*;generalize aD b=T at*;generalize aS a.lo=A at*;generalize aS b.lo=B at*;refine fo Tryz.func496 ?_;refine aN ?_;refine Arith.mk ?_;exact aW
def rem_c(a b:Av)(k:Int)(ha:aU a)(hb:aU b):C 498 [yX a b k] (ai (HK 8 a b k)):=by
 have h1:=ha.lo;have h2:=ha.hi;have h4:=ha.le;have g1:=hb.lo;have g2:=hb.hi;have g4:=hb.le;have s1:=gX ha;have e2:=kM b.lo;have c1:C 201 [ai {a with mask:=k}] (it (aD a)):=lS {a with mask:=k};have c2:=lS b;have c3:=DP b.lo ⟨af,af⟩;show C 498 _ (ai (Xo a b k));unfold Xo;by_cases z1:aD b≠0;have b1:(!(aD b==0))=true:=Ay
 have l1:=Dw a.lo 0;have l2:=sO a.hi 0;have c4:=C3 (mn a.lo 0) (mx a.hi 0) 1 k ⟨uE,af⟩ ⟨af,oZ⟩ af af;rw[aq z1];generalize m7 (mn a.lo 0) (mx a.hi 0) 1 k=X at*;exact Jq;have b1:(!(aD b==0))=false:=Ay
 rw[ah z1];by_cases z2:aS b.lo=0;have b2:=tE z2;rw[aq (.inl z2)];exact Jq;have b2:=fE z2;by_cases z3:a.lo>=0;have b3:=tB z3;by_cases z4:a.hi<aS b.lo;have b4:=tB z4;rw[aq (.inr ⟨z3,z4⟩)];exact Jq;have b4:=fB z4;have g0:1<=(dK (aD a) [aS b.lo]:Int)∧(dK (aD a) [aS b.lo]:Int)<=aS b.lo:=zby3_
 have c4:=BO (aD a) [aS b.lo] ag ⟨af,af⟩ (λx hx=>xD) af;have c5:=K6 a.lo (dK (aD a) [aS b.lo]) (mx (mn a.lo 0) (1 - aS b.lo)) (mn (mx a.hi 0) (aS b.lo - 1)) k ⟨v_,v_⟩ ⟨v_,v_⟩ ⟨af,af⟩ ⟨af,af⟩;rw[ah (λh=>by rcases h with h|h;exact z2 h;exact z4 h.2)];exact Ri;have b3:=fB z3;have g0:1<=(dK (aD a) [aS b.lo]:Int)∧(dK (aD a) [aS b.lo]:Int)<=aS b.lo:=zby3_
 have c4:=BO (aD a) [aS b.lo] ag ⟨af,af⟩ (λx hx=>xD) af;have c5:=K6 a.lo (dK (aD a) [aS b.lo]) (mx (mn a.lo 0) (1 - aS b.lo)) (mn (mx a.hi 0) (aS b.lo - 1)) k ⟨v_,v_⟩ ⟨v_,v_⟩ ⟨af,af⟩ ⟨af,af⟩;rw[ah (λh=>by rcases h with h|h;exact z2 h;exact z3 h.1)];exact Ri
def ops_c:C 479 [] (.agg [Bx 494,Bx 495,Bx 496,Bx 497,Bx 498,Bx 499,Bx 500]):=by refine fo Tryz.func479 ?_;exact aT
def Sd(a b:Int):(a.tdiv b).natAbs<=a.natAbs:=Km a b
def div_c(a b:Av)(k:Int)(ha:aU a)(hb:aU b):C 497 [yX a b k] (ai (HK 7 a b k)):=by
 have h1:=ha.lo;have h2:=ha.hi;have h4:=ha.le;have g1:=hb.lo;have g2:=hb.hi;have g4:=hb.le;have c1:=lS b;have ca:=all_c k;have n1:=kM a.lo;have n2:=kM a.hi;have a1:=DP a.lo ⟨af,af⟩;have a2:=DP a.hi ⟨af,af⟩;show C 497 _ (ai (if pT (mU a b)&&pT (mV a b)then m7 (mU a b) (mV a b) 1 k else Hq k));generalize Hq k=A at*;have fin:∀(L H:Int),L=mU a b->H=mV a b->(-(2^60)<L∧L<2^60)->(-(2^60)<H∧H<2^60)->
  ∃X V1 V2,X=m7 (mU a b) (mV a b) 1 k∧V1=pT (mU a b)∧V2=pT (mV a b)∧C 513 [it L] (bo V1)∧C 513 [it H] (bo V2)∧C 144 [it L,it H,it 1,it k] (ai X):=λL H e1 e2 bL bH=>by
  subst e1 e2;exact⟨_,_,_,rfl,rfl,rfl,EJ _,EJ _,C3 _ _ 1 k bL bH af af⟩
 by_cases z1:aD b=0;have b1:=tE z1;by_cases z2:b.lo=0;have b2:(!(b.lo==0))=false:=(by rw[z2];rfl);have z2' :¬b.lo<0:=af
 have b3:=fB z2';by_cases z3:a.lo<0;have b4:=tB z3;have eL:0 - mx (aS a.lo) (aS a.hi)=mU a b:=by unfold mU;rw[ah (λh=>h.2 z2),aq (.inl z3)]
 have eH:mx (aS a.lo) (aS a.hi)=mV a b:=(by unfold mV;rw[ah (λh=>h.2 z2),aq (.inl z3)]);have lm:=sO (aS a.lo) (aS a.hi);have lm' :mx (aS a.lo) (aS a.hi)<=2^32:=oZ
 refine(fin _ _ eL eH ⟨af,af⟩ ⟨af,af⟩).elim λX h=>h.elim λV1 h=>h.elim λV2 h=> ?_;have f1:=h.2.2.2.1;have f2:=h.2.2.2.2.1;have f3:=h.2.2.2.2.2;rw[<-h.1,<-h.2.1,<-h.2.2.1];clear h fin eL eH;have x1:0<=(if aS a.hi>aS a.lo then aS a.hi else aS a.lo)∧(if aS a.hi>aS a.lo then aS a.hi else aS a.lo)<=2^32:=⟨iT,lm'⟩;cases V1;exact iA;cases V2;exact iA;exact iA;have b4:=fB z3;have eL:0=mU a b:=by unfold mU;rw[ah (λh=>h.2 z2),ah (λh=>af)]
 have eH:a.hi=mV a b:=(by unfold mV;rw[ah (λh=>h.2 z2),ah (λh=>af)]);refine(fin _ _ eL eH ⟨af,af⟩ ⟨af,af⟩).elim λX h=>h.elim λV1 h=>h.elim λV2 h=> ?_;have f1:=h.2.2.2.1;have f2:=h.2.2.2.2.1;have f3:=h.2.2.2.2.2;rw[<-h.1,<-h.2.1,<-h.2.2.1];clear h fin eL eH;cases V1;exact iA;cases V2;exact iA;exact iA;have b2:(!(b.lo==0))=true:=(by simpa using z2);have d1:=Sd a.lo b.lo;have d2:=Sd a.hi b.lo;have w1:IntKind.i64.wrap (a.lo.tdiv b.lo)=a.lo.tdiv b.lo:=wrap_i64 af af;have w2:IntKind.i64.wrap (a.hi.tdiv b.lo)=a.hi.tdiv b.lo:=wrap_i64 af af;have eL:mn (IntKind.i64.wrap (a.lo.tdiv b.lo)) (IntKind.i64.wrap (a.hi.tdiv b.lo))=mU a b:=by unfold mU;rw[aq ⟨z1,z2⟩,w1,w2]
 have eH:mx (IntKind.i64.wrap (a.lo.tdiv b.lo)) (IntKind.i64.wrap (a.hi.tdiv b.lo))=mV a b:=(by unfold mV;rw[aq ⟨z1,z2⟩,w1,w2]);refine(fin _ _ eL eH ⟨by rw[w1,w2];unfold mn;split<;>omega,by rw[w1,w2];unfold mn;split<;>omega⟩ ⟨by rw[w1,w2];unfold mx;split<;>omega,by rw[w1,w2];unfold mx;split<;>omega⟩).elim λX h=>h.elim λV1 h=>h.elim λV2 h=> ?_;have f1:=h.2.2.2.1;have f2:=h.2.2.2.2.1;have f3:=h.2.2.2.2.2;rw[<-h.1,<-h.2.1,<-h.2.2.1];clear h fin eL eH w1 w2;cases V1;exact iA;cases V2;exact iA;exact iA;have b1:=fE z1;by_cases z3:a.lo<0;have b4:=tB z3;have eL:0 - mx (aS a.lo) (aS a.hi)=mU a b:=by unfold mU;rw[ah (λh=>z1 h.1),aq (.inl z3)]
 have eH:mx (aS a.lo) (aS a.hi)=mV a b:=(by unfold mV;rw[ah (λh=>z1 h.1),aq (.inl z3)]);have lm:=sO (aS a.lo) (aS a.hi);have lm' :mx (aS a.lo) (aS a.hi)<=2^32:=oZ
 refine(fin _ _ eL eH ⟨af,af⟩ ⟨af,af⟩).elim λX h=>h.elim λV1 h=>h.elim λV2 h=> ?_;have f1:=h.2.2.2.1;have f2:=h.2.2.2.2.1;have f3:=h.2.2.2.2.2;rw[<-h.1,<-h.2.1,<-h.2.2.1];clear h fin eL eH;have x1:0<=(if aS a.hi>aS a.lo then aS a.hi else aS a.lo)∧(if aS a.hi>aS a.lo then aS a.hi else aS a.lo)<=2^32:=⟨iT,lm'⟩;cases V1;exact iA;cases V2;exact iA;exact iA;have b4:=fB z3;by_cases z4:b.lo<0;have b5:=tB z4;have eL:0 - mx (aS a.lo) (aS a.hi)=mU a b:=by unfold mU;rw[ah (λh=>z1 h.1),aq (.inr z4)]
 have eH:mx (aS a.lo) (aS a.hi)=mV a b:=(by unfold mV;rw[ah (λh=>z1 h.1),aq (.inr z4)]);have lm:=sO (aS a.lo) (aS a.hi);have lm' :mx (aS a.lo) (aS a.hi)<=2^32:=oZ
 refine(fin _ _ eL eH ⟨af,af⟩ ⟨af,af⟩).elim λX h=>h.elim λV1 h=>h.elim λV2 h=> ?_;have f1:=h.2.2.2.1;have f2:=h.2.2.2.2.1;have f3:=h.2.2.2.2.2;rw[<-h.1,<-h.2.1,<-h.2.2.1];clear h fin eL eH;have x1:0<=(if aS a.hi>aS a.lo then aS a.hi else aS a.lo)∧(if aS a.hi>aS a.lo then aS a.hi else aS a.lo)<=2^32:=⟨iT,lm'⟩;cases V1;exact iA;cases V2;exact iA;exact iA;have b5:=fB z4;have eL:0=mU a b:=by unfold mU;rw[ah (λh=>z1 h.1),ah (λh=>af)]
 have eH:a.hi=mV a b:=(by unfold mV;rw[ah (λh=>z1 h.1),ah (λh=>af)]);refine(fin _ _ eL eH ⟨af,af⟩ ⟨af,af⟩).elim λX h=>h.elim λV1 h=>h.elim λV2 h=> ?_;have f1:=h.2.2.2.1;have f2:=h.2.2.2.2.1;have f3:=h.2.2.2.2.2;rw[<-h.1,<-h.2.1,<-h.2.2.1];clear h fin eL eH;cases V1;exact iA;cases V2;exact iA;exact iA
def opA_c(op:Int)(a b:Av)(h:4<=op∧op<=10)(ha:aU a)(hb:aU b):C 452 [it op,ai a,ai b] (ai (opA op a b)):=by
 have h1:=ha.lo;have h2:=ha.hi;have h4:=ha.le;have g1:=hb.lo;have g2:=hb.hi;have g4:=hb.le;have co:=ops_c;have c1:=lS a;have c2:=lS b;have o:=or8 ha.k0 ha.k1 hb.k0 hb.k1;have oe:=Bq a.mask b.mask;have nb:=MT op a.lo b.lo;unfold MI MA at nb;have c3:=numOp_c op a.lo b.lo h;have c4:=of_c (yR op a.lo b.lo) (iD a.mask b.mask) ⟨af,af⟩;have d4:=add_c a b (iD a.mask b.mask) ha hb;have d5:=sub_c a b (iD a.mask b.mask) ha hb;have d6:=mul_c a b (iD a.mask b.mask) ha hb;have d7:=div_c a b (iD a.mask b.mask) ha hb;have d8:=rem_c a b (iD a.mask b.mask) ha hb;have d9:=Yn a b (iD a.mask b.mask) ha hb;have d10:=Uw a b (iD a.mask b.mask) ha hb;by_cases z:aD a=0∧aD b=0;have e:opA op a b=kv (yR op a.lo b.lo) (iD a.mask b.mask):=aq (.inl z);have b1:=tE z.1;have b2:=tE z.2;rw[e];clear e d4 d5 d6 d7 d8 d9 d10 co z;generalize kv (yR op a.lo b.lo) (iD a.mask b.mask)=X at*;generalize yR op a.lo b.lo=N at*;generalize aD a=S at*;generalize aD b=T at*;refine fo Tryz.func452 ?_;exact aW
 ·have e:opA op a b=HK op a b (iD a.mask b.mask):=ah (λq=>by rcases q with q|q;exact z q;omega);rw[e];clear e c3 c4 nb;have hop:op=4∨op=5∨op=6∨op=7∨op=8∨op=9∨op=10:=by omega
  have fin:∀(n:Int) (S T:Int) (X:Av) (f:FuncId),(n=4∧f=494∨n=5∧f=495∨n=6∧f=496∨n=7∧f=497∨n=8∧f=498∨n=9∧f=499∨n=10∧f=500)->¬(S=0∧T=0)->C 201 [ai a] (it S)->C 201 [ai b] (it T)->C f [yX a b (iD a.mask b.mask)] (ai X)->C 452 [it n,ai a,ai b] (ai X):=by
   clear c1 c2 d4 d5 d6 d7 d8 d9 d10 z hop h;intro n S T X f hn hz c1 c2 d;by_cases s0:S=0;·have b1:=tE s0;have b2:=fE (λq=>hz ⟨s0,q⟩:T≠0);rcases hn with⟨rfl,rfl⟩|⟨rfl,rfl⟩|⟨rfl,rfl⟩|⟨rfl,rfl⟩|⟨rfl,rfl⟩|⟨rfl,rfl⟩|⟨rfl,rfl⟩;all_goals (exact Q')
   ·have b1:=fE s0;rcases hn with⟨rfl,rfl⟩|⟨rfl,rfl⟩|⟨rfl,rfl⟩|⟨rfl,rfl⟩|⟨rfl,rfl⟩|⟨rfl,rfl⟩|⟨rfl,rfl⟩;all_goals (exact Q')
  rcases hop with rfl|rfl|rfl|rfl|rfl|rfl|rfl;exact fin 4 _ _ _ 494 az z c1 c2 d4;exact fin 5 _ _ _ 495 az z c1 c2 d5;exact fin 6 _ _ _ 496 az z c1 c2 d6;exact fin 7 _ _ _ 497 az z c1 c2 d7;exact fin 8 _ _ _ 498 az z c1 c2 d8;exact fin 9 _ _ _ 499 az z c1 c2 d9;exact fin 10 _ _ _ 500 az z c1 c2 d10
def inRg_c(n:Int):C 152 [it n] (bo (p_ n)):=by unfold p_;by_cases z:n=1099511627776;have b1:=tE z;have e:(n==NG)=true:=b1;rw[e];refine fo Tryz.func152 ?_;exact aT;have b1:=fE z;have e:(n==NG)=false:=b1;rw[e];by_cases z2: -17179869184<=n;have b2:=tB z2;rw[b2];refine fo Tryz.func152 ?_;exact aT;have b2:=fB z2;rw[b2];refine fo Tryz.func152 ?_;exact aT
def sum_c(a k:Int)(ha: -(2^50)<a∧a<2^50)(hk: -(2^50)<k∧k<2^50):C 405 [it a,it k] (it (Cs a k)):=by have c:=inRg_c (a+k);have h1:=ha.1;have h2:=ha.2;have h3:=hk.1;have h4:=hk.2;unfold Cs;by_cases z:a=1099511627776;have b1:=tE z;have e:(a==NG)=true:=b1;rw[e];show C 405 _ (it NG);refine fo Tryz.func405 ?_;exact aT;have b1:=fE z;have e:(a==NG)=false:=b1;rw[e];generalize p_ (a+k)=R at*;cases R;show C 405 _ (it NG);refine fo Tryz.func405 ?_;exact aW;show C 405 _ (it (a+k));refine fo Tryz.func405 ?_;exact aW
def SK(e:Ex):C 450 [cI e] (bo (pZ e)):=by unfold pZ;by_cases z:e.op=1;have b1:=tE z;rw[b1];by_cases z2: -2147483648<=e.v;have b2:=tB z2;rw[b2];refine fo Tryz.func450 ?_;exact aT;have b2:=fB z2;rw[b2];refine fo Tryz.func450 ?_;exact aT;have b1:=fE z;rw[b1];refine fo Tryz.func450 ?_;exact aT
def K9(e:Ex)(n:Int):aj Tryz.prog 449 [cI e,.ptr 1000 0] ⟨[it n],[]⟩ (bo (oH e n)) ⟨[it n],[]⟩:=by unfold oH;by_cases z:e.op=2;have b1:=tE z;rw[b1];by_cases z2:0<=e.n;have b2:=tB z2;rw[b2];refine fo Tryz.func449 ?_;exact aT;have b2:=fB z2;rw[b2];refine fo Tryz.func449 ?_;exact aT;have b1:=fE z;rw[b1];refine fo Tryz.func449 ?_;exact aT
def encSh(o:Option (Int×Int)):au:= .bR [.agg [it (o.getD (0,0)).1,it (o.getD (0,0)).2],bo o.isSome]
def QX(e:Ex):Prop:=e.a=[]∨∃a b,e.a=[a,b]
def TG(e:Ex)(n:Int)(he:QX e):C 404 [cI e,it n] (encSh (Oy e n)):=by
 have cv:=K9 e n;unfold encSh Oy;generalize hV:oH e n=V at*;cases V
 ·rw[ah ag];rcases he with h0|⟨a,b,h0⟩;rw[h0];have hE:cI e= .agg [it e.op,it e.n,it e.v,.sl 4 [] false]:=by unfold cI cE;rw[h0];simp[jz]
  rw[hE]at cv ⊢;show C 404 _ (.bR [.agg [it 0,it 0],bo false]);refine fo Tryz.func404 ?_;exact aW
  ·rw[h0];have hE:cI e= .agg [it e.op,it e.n,it e.v,.sl 4 [cI a,cI b] false]:=by unfold cI cE;rw[h0];simp[jz,Sr,cE,cI]
   rw[hE]at cv ⊢;have c1:=K9 a n;have c2:=K9 b n;have c3:=SK a;have c4:=SK b;have bv:pZ b=true->-2147483648<=b.v∧b.v<=2147483648:=λh=>by simp[pZ]at h;omega
   dsimp only;generalize oH a n=A1 at*;generalize oH b n=B1 at*;generalize pZ a=A2 at*;generalize pZ b=B2 at*;by_cases o4:e.op=4
   ·have b1:=tE o4;have b5:(e.op==5)=false:=by rw[o4];rfl
    rw[b1,b5];have second:C 404 [.agg [it e.op,it e.n,it e.v,.sl 4 [cI a,cI b] false],it n] (.bR [.agg [it ((if (A2&&B1)=true then some (b.n,a.v)else none).getD (0,0)).1,it ((if (A2&&B1)=true then some (b.n,a.v)else none).getD (0,0)).2],bo (if (A2&&B1)=true then some (b.n,a.v)else none).isSome])∨(A1&&B2)=true:=by
     by_cases hq:(A1&&B2)=true;exact .inr hq
     ·refine .inl ?_;have go:∀X Y:Bool,X=A1->Y=B2->(X&&Y)=false->C 404 [.agg [it e.op,it e.n,it e.v,.sl 4 [cI a,cI b] false],it n] (.bR [.agg [it ((if (A2&&B1)=true then some (b.n,a.v)else none).getD (0,0)).1,it ((if (A2&&B1)=true then some (b.n,a.v)else none).getD (0,0)).2],bo (if (A2&&B1)=true then some (b.n,a.v)else none).isSome]):=by
       intro X Y hX hY hXY;subst hX hY;cases X
       ·cases A2
        ·refine fo Tryz.func404 ?_;refine run ?_;repeat((first|refine a_.at rfl af rfl ?_|(apply aE;first|exact(cv)|exact(c1)|exact(c3)));refine run ?_)
         exact aG
        ·cases B1
         ·refine fo Tryz.func404 ?_;refine run ?_;repeat((first|refine a_.at rfl af rfl ?_|(apply aE;first|exact(cv)|exact(c1)|exact(c3)|exact(c2)));refine run ?_)
          exact aG
         ·refine fo Tryz.func404 ?_;refine run ?_;repeat((first|refine a_.at rfl af rfl ?_|(apply aE;first|exact(cv)|exact(c1)|exact(c3)|exact(c2)));refine run ?_)
          exact aG
       ·cases Y
        ·cases A2
         ·refine fo Tryz.func404 ?_;refine run ?_;repeat((first|refine a_.at rfl af rfl ?_|(apply aE;first|exact(cv)|exact(c1)|exact(c4)|exact(c3)));refine run ?_)
          exact aG
         ·cases B1
          ·refine fo Tryz.func404 ?_;refine run ?_;repeat((first|refine a_.at rfl af rfl ?_|(apply aE;first|exact(cv)|exact(c1)|exact(c4)|exact(c3)|exact(c2)));refine run ?_)
           exact aG
          ·refine fo Tryz.func404 ?_;refine run ?_;repeat((first|refine a_.at rfl af rfl ?_|(apply aE;first|exact(cv)|exact(c1)|exact(c4)|exact(c3)|exact(c2)));refine run ?_)
           exact aG
        cases hXY
      exact go A1 B2 rfl rfl (by simpa using hq)
    cases hq:(A1&&B2);have s:=second.resolve_right (by rw[hq];simp);exact s
    ·have q1:A1=true:=(by revert hq;cases A1<;>simp);have q2:B2=true:=by revert hq;cases B2<;>simp
     subst q1 q2;show C 404 _ (.bR [.agg [it a.n,it b.v],bo true]);refine fo Tryz.func404 ?_;refine run ?_;repeat((first|refine a_.at rfl af rfl ?_|(apply aE;first|exact(cv)|exact(c1)|exact(c4)));refine run ?_)
     exact aG
   ·have b1:=fE o4;rw[b1];by_cases o5:e.op=5
    ·have b5:=tE o5;rw[b5];cases A1
     ·refine fo Tryz.func404 ?_;refine run ?_;repeat((first|refine a_.at rfl af rfl ?_|(apply aE;first|exact(cv)|exact(c1)));refine run ?_)
      exact aG
     ·cases B2
      ·refine fo Tryz.func404 ?_;refine run ?_;repeat((first|refine a_.at rfl af rfl ?_|(apply aE;first|exact(cv)|exact(c1)|exact(c4)));refine run ?_)
       exact aG
      ·have bb:=bv rfl;have e0:0 - b.v= -b.v:=by omega
       refine fo Tryz.func404 ?_;refine run ?_;repeat((first|refine a_.at rfl af rfl ?_|(apply aE;first|exact(cv)|exact(c1)|exact(c4)));refine run ?_)
       exact aG
    ·have b5:=fE o5;rw[b5];refine fo Tryz.func404 ?_;refine run ?_;repeat((first|refine a_.at rfl af rfl ?_|(apply aE;first|exact(cv)));refine run ?_)
     exact aG
 rw[aq rfl];refine fo Tryz.func404 ?_;exact aW
def dF(g:mY):au:=fj 1 ints g
def jL:=@List.map_set
def zi:=@List.getElem?_set_self
def A6:=@List.set_append_right
def AW:=@List.set_cons_zero
def xS:=@List.set_set
def AN:=@List.map_map
def Er:=@Nat.le_of_lt
def zby1_{G:Prop}(h:G:=by rw[<-vp hlv hp1,<-jL,show au.own ((aV mx g[v] h[v] p).set p (mx g[v][p] h[v][p])|>.map it)=bV ((aV mx g[v] h[v] p).set p (mx g[v][p] h[v][p])) from rfl,<-jL,xS]):G:=h
def Ek{G:Prop}(h:G:=by rw[hl];exact qZ):G:=h
def Ee{G:Prop}(h:G:=by rw[hX];exact hv1):G:=h
def Aw{G:Prop}(h:G:=by rw[wL]):G:=h
def Ce{G:Prop}(h:G:=by have pM:=aL (λx=>some (Row.mk 0 true x)) e02;exact tM hp1):G:=h
def VA{G:Prop}(h:G:=by refine aN ?_;refine a_.map hk1 rfl ?_;refine aN ?_;refine a_.at (by simp[hhl]) (by omega) hn ?_;refine run ?_;refine a_.at (by simp[hhl]) (by omega) hn ?_;refine run ?_;have pM:=aL (λx=>some (Row.mk 0 true x)) e0;exact tM hk1):G:=h
def mD{G:Prop}(h:G:=by have:=hi xs hx;omega):G:=h
def RP{G:Prop}(h:G:=by refine run ?_;refine kE.mk hX.symm ?_;refine run ?_;exact fu.mk (aL (λx=>au.sl 1 x false) e) rfl):G:=h
def gw{G:Prop}(h:G:=by simp;exact hk1):G:=h
def D6{G:Prop}(h:G:=by refine run ?_;refine aa4.mk (λe=>absurd e h) ?_;exact aT):G:=h
def Oc(es:List au)(h:es≠[])(hl:es.length<=2^32):aj Tryz.prog 112 [.sl 1 es false] fZ (.ref 1000 es.length) ⟨[],[⟨1,true,es⟩]⟩:=by refine eg hm Tryz.func112 (λ_=>false) [true] (λ_=>[]) aB ?_;exact D6
def US:aj Tryz.prog 112 [.sl 1 [] false] fZ (.sl 1 [] false) fZ:=by refine fo Tryz.func112 ?_;refine run ?_;refine aa4.mk (λ_=> ?_) ?_;exact aT;exact aT
def ZD(es:List au)(h:es≠[])(hl:es.length<=2^32):aj Tryz.prog 344 [.sl 1 es false] fZ (.ref 1000 es.length) ⟨[],[⟨1,true,es⟩]⟩:=by refine eg hm Tryz.func344 (λ_=>false) [true] (λ_=>[]) aB ?_;exact D6
def bV(xs:List Int):au:= .own (xs.map it)
def shrI(xs:List Int):au:= .shr (xs.map it)
def TM(g:mY):Row:=⟨0,true,g.map bV⟩
def hClone:Nat->List Ad:=λn=>bif Nat.beq n 2 then[.nest 3 3]else[]
def half(g:mY)(k:Nat):List au:=(g.take k).map bV++(g.drop k).map shrI
def YP{g:mY}{k:Nat}(h:k<g.length):nth (half g k) k=some (shrI g[k]):=by rw[aI];unfold half;rw[jc aA];simp[xZ (Er h),h]
def YO{g:mY}{k:Nat}(h:k<g.length):(half g k).set k (bV g[k])=half g (k+1):=by
 unfold half;have hl:((g.take k).map bV).length=k:=aA
 rw[A6 _ _ Ek,hl,lP,rF h];rw[n_,AW,jd h,eI];simp
def Uv(g:mY):(g.map ints).map wq=half g 0:=by unfold half;simp only[List.take_zero,List.map_nil,List.nil_append,List.drop_zero,AN];rfl
def YQ(g:mY):half g g.length=g.map bV:=by simp[half]
def gu(g:mY)(h:g≠[])(hl:g.length<=2^32)(hi:∀xs∈g,xs.length<=2^32):aj Tryz.prog 280 [dF g] fZ (.cQ 1000 g.length) ⟨[],[TM g]⟩:=by
 have hc:=ZD (g.map ints) gI qv;have e0:=Uv g;refine eg hm Tryz.func280 (λ_=>false) [true] hClone aB ?_;refine aN ?_;refine kE.mk ⟨rfl,λe he=> ?_⟩ ?_;obtain⟨xs,_,rfl⟩:=dM.1 he;exact nf;refine run ?_;have pM:=aL (λx=>some (Row.mk 0 true x)) e0;refine bB.mk ⟨[],aZ.np (g.length) (λ_=>True) (λk=>⟨[(9,it k)],[],[(3,⟨0,true,half g k⟩)]⟩) trivial ?_⟩;intro k hk hJ;by_cases hk1:k<g.length;have b1:decide ((k:Int)<((g.map ints).length:Nat))=true:=gw
 have hn:=YP hk1;have e0:=YO hk1;have hhl:(half g k).length=g.length:=by unfold half;exact aA
 by_cases he:g[k]=[];have hc2:aj Tryz.prog 112 [ints g[k]] fZ (.sl 1 [] false) fZ:=(by rw[he];exact US);have e0:(half g k).set k (.own [])=half g (k+1):=by rw[<-e0,he];rfl
 exact VA;have hc2:=Oc (g[k].map it) (by simpa using he) (by simpa using hi _ (cU hk1));exact VA;have b1:decide ((k:Int)<((g.map ints).length:Nat))=false:=aA
 have hkk:k=g.length:=af
 subst hkk;have e:=YQ g;refine run ?_;exact fu.mk (aL (λn=>au.cQ 1000 n) ag) (aL (λx=>Ct.mk [] [Row.mk 0 true x]) e)
def aV{α:Type}(f:α->α->α)(a b:List α)(k:Nat):List α:=(List.zipWith f a b).take k++a.drop k
section
variable{α:Type}{f:α->α->α}{a b:List α}{k:Nat}
def wL:aV f a b 0=a:=by simp[aV]
def vr(h:a.length=b.length):aV f a b a.length=List.zipWith f a b:=by unfold aV;rw[List.drop_length,jM,og aA]
def kH(h:a.length=b.length):(aV f a b k).length=a.length:=by unfold aV;exact aA
def CE(h:a.length=b.length)(hk:k<a.length):(aV f a b k)[k]? =some a[k]:=by unfold aV;rw[jc aA];simp[xZ (Er hk),<-h,hk]
def vp(h:a.length=b.length)(hk:k<a.length):(aV f a b k).set k (f a[k] (b[k]'(h▸hk)))=aV f a b (k+1):=by
 unfold aV;have hl:((List.zipWith f a b).take k).length=k:=aA
 rw[A6 _ _ Ek,hl,lP,rF hk,AW,jd aA,pP];simp
end
def max234(a b:Int):aj Tryz.prog 234 [it a,it b] fZ (it (mx a b)) fZ:=by refine fo Tryz.func234 ?_;exact aT
theorem YV(g h:mY)(h0:g≠[])(hl:g.length<=2^30)(hi:∀xs∈g,xs.length<=2^30)(hs:g.length=h.length)(hh:∀v (h1:v<g.length) (h2:v<h.length),g[v].length=h[v].length):aj Tryz.prog 233 [dF g,dF h,.gB (.func 234) [] []] fZ (dF (pF g h)) fZ:=by
 have hc:=gu g h0 af (λxs hx=>mD);have hm2:=λa b=>max234 a b;refine eg hm Tryz.func233 (λ_=>false) [] (λn=>bif Nat.beq n 11 then[.Gy 7]else[]) aB ?_;refine aN ?_;have e00:g.map bV=(aV eX g h 0).map bV:=Aw
 have pM:=aL (λx=>some (Row.mk 0 true x)) e00;refine bB.mk ⟨[],aZ.np (g.length) (λ_=>True) (λv=>⟨[(14,it v)],[],[(5110,⟨0,true,(aV eX g h v).map bV⟩)]⟩) trivial ?_⟩;intro v hv hJ;by_cases hv1:v<g.length
 ·have b1:decide ((v:Int)<(g.length:Nat))=true:=by simp;exact hv1
  have hv2:v<h.length:=hs▸hv1;have hlv:g[v].length=h[v].length:=hh v hv1 hv2;have hX:(aV eX g h v).length=g.length:=kH hs;have e01:(aV eX g h v).map bV=((aV eX g h v).set v (aV mx g[v] h[v] 0)).map bV:=by rw[wL];congr 1;apply uH;intro j;by_cases hj:j=v;subst hj;rw[zi Ee,CE hs hv1];rw[uJ (gx hj)]
  have how0:nth ((aV eX g h v).map bV) v=some (bV g[v]):=by rw[bW,aI,CE hs hv1];rfl
  have hlen0:((aV eX g h v).map bV).length=g.length:=by simp[hX]
  refine run ?_;refine a_.at hlen0.symm af how0 ?_;refine run ?_;refine a_.at hlen0.symm af how0 ?_;refine run ?_;have pM:=aL (λx=>some (Row.mk 0 true x)) e01;refine bB.mk ⟨[],aZ.np (g[v].length) (λ_=>True) (λp=>⟨[(22,it p)],[],[(5110,⟨0,true,((aV eX g h v).set v (aV mx g[v] h[v] p)).map bV⟩)]⟩) trivial ?_⟩;intro p hp hJ2;by_cases hp1:p<g[v].length
  ·have b2:decide ((p:Int)<((g[v].map it).length:Nat))=true:=(by simp;exact hp1);have hp2:p<h[v].length:=hlv▸hp1;have hM:(aV mx g[v] h[v] p).length=g[v].length:=kH hlv;have hown:nth (((aV eX g h v).set v (aV mx g[v] h[v] p)).map bV) v=some (bV (aV mx g[v] h[v] p)):=by rw[bW,aI,zi Ee];rfl
   have hlen:(((aV eX g h v).set v (aV mx g[v] h[v] p)).map bV).length=g.length:=(by simp[hX]);have hown' :nth (((aV eX g h v).set v (aV mx g[v] h[v] p)).map bV) ((v:Int)).toNat=some (.own ((aV mx g[v] h[v] p).map it)):=hown;have hlx:=hi _ (cU hv1);have hml:((aV mx g[v] h[v] p).map it).length=g[v].length:=by simp[hM]
   have e02:(((aV eX g h v).set v (aV mx g[v] h[v] p)).map bV).set v (.own (((aV mx g[v] h[v] p).map it).set p (it (mx g[v][p] h[v][p]))))=((aV eX g h v).set v (aV mx g[v] h[v] (p+1))).map bV:=zby1_;refine run ?_;repeat((apply aE;first|exact(hm2 _ _));refine run ?_)
   repeat((first
    |refine a_.at hlen.symm af hown ?_|refine a_.map hv1 rfl ?_|refine a_.map hv2 rfl ?_|refine a_.map hp1 rfl ?_|refine a_.map hp2 rfl ?_|refine Hs.mk ⟨_,hown',?_⟩|refine aE (hm2 _ _) ?_);refine run ?_)
   exact Ce
  have b2:decide ((p:Int)<((g[v].map it).length:Nat))=false:=aA;have hpp:p=g[v].length:=af
  subst hpp;have e03:((aV eX g h v).set v (aV mx g[v] h[v] g[v].length)).map bV=(aV eX g h (v+1)).map bV:=by rw[vr hlv,<-vp hs hv1];rfl
  refine run ?_;have pM:=aL (λx=>some (Row.mk 0 true x)) e03;exact tM hv1
 have b1:decide ((v:Int)<(g.length:Nat))=false:=aA
 have hvv:v=g.length:=af
 subst hvv;have hX:((aV eX g h g.length).map bV).length=g.length:=by simp[kH hs]
 have e:((aV eX g h g.length).map bV).map f_=(pF g h).map ints:=by rw[vr hs,AN];rfl
 exact RP
def NM(g h:mY)(hl:g.length<=2^30)(hi:∀xs∈g,xs.length<=2^30)(hs:g.length=h.length)(hh:∀v (h1:v<g.length) (h2:v<h.length),g[v].length=h[v].length)(h0:g≠[]):aj Tryz.prog 177 [dF g,dF h] fZ (dF (pF g h)) fZ:=by have hc:=YV g h h0 hl hi hs hh;refine fo Tryz.func177 ?_;exact aW
def Ax{G:Prop}(h:G:=by subst hRe;simp):G:=h
def OV{G:Prop}(h:G:=by subst hpp;have e:=mixGn g v hv R hR;have hlen:=pE g v (aV je g[v] R g[v].length);refine run ?_;exact fu.mk (aL (λx=>au.sl 1 x false) e) rfl):G:=h
def Jz{G:Prop}(h:G:=by rw[bW,aI,iM hv];rfl):G:=h
def Jx{G:Prop}(h:G:=by rw[h]at hv;exact absurd hv (Nat.not_lt_zero _)):G:=h
def bound_g(g:mY)(v p:Nat)(hv:v<g.length)(hp:p<g[v].length)(hl:g.length<=2^30)(hi:g[v].length<=2^30):C 411 [dF g,it v,it p] (it (tK g v p)):=by
 have e:tK g v p=g[v][p]:=by simp[tK,rowOf,hv,hp]
 rw[e];have b1:decide ((v:Int)<0)=false:=fB af;have b2:decide ((v:Int)>=((g.map ints).length:Nat))=false:=aA
 have b3:decide ((p:Int)<0)=false:=fB af;have b4:decide ((p:Int)>=((g[v].map it).length:Nat))=false:=aA
 refine fo Tryz.func411 ?_;refine run ?_;refine a_.map hv rfl ?_;refine run ?_;refine a_.map hv rfl ?_;refine run ?_;refine a_.map hp rfl ?_;exact aT
def je(_ y:Int):Int:=y
theorem R1:∀{a b:List Int},a.length=b.length->List.zipWith je a b=b|[],[],_=>rfl|x::a,y::b,h=>by simp only[EH,R1 (a:=a) (b:=b) gI,je]
def KW(g:mY)(v:Nat)(hv:v<g.length)(R:List Int)(k:Nat)(l:List au)(x:Int)(hR:g[v].length=R.length)(hk:k<g[v].length)(hx:R[k]'(hR▸hk)=x)(hl:l=(aV je g[v] R k).map it):((g.set v (aV je g[v] R k)).map bV).set v (.own (l.set k (it x)))=(g.set v (aV je g[v] R (k+1))).map bV:=by subst hx hl;rw[<-vp hR hk,<-jL,show au.own ((aV je g[v] R k).set k (R[k]'(hR▸hk))|>.map it)=bV ((aV je g[v] R k).set k (R[k]'(hR▸hk))) from rfl,<-jL,xS];rfl
def Yb(g:mY)(v:Nat)(hv:v<g.length)(R:List Int):g.map bV=(g.set v (aV je g[v] R 0)).map bV:=by rw[wL,List.set_getElem_self]
def mixGn(g:mY)(v:Nat)(hv:v<g.length)(R:List Int)(hR:g[v].length=R.length):((g.set v (aV je g[v] R g[v].length)).map bV).map f_=(g.set v R).map ints:=by rw[vr hR,R1 hR,AN];rfl
def Bz(g:mY)(v:Nat)(hv:v<g.length)(l:List Int):nth ((g.set v l).map bV) v=some (bV l):=by rw[bW,aI,zi hv];rfl
def pE(g:mY)(v:Nat)(l:List Int):((g.set v l).map bV).length=g.length:=ag
theorem set_no(g:mY)(v:Nat)(hv:v<g.length)(e:Ex)(hl:g.length<=2^30)(hi:∀xs∈g,xs.length<=2^30)(a b:Int)(w:Bool)(hS:C 404 [cI e,it ((g.map ints).length:Nat)] (.bR [.agg [it a,it b],bo false]))(R:List Int)(hRe:R=g[v].map λ_=>NG):C 346 [dF g,it v,cI e,bo w] (dF (g.set v R)):=by
 have hc:=gu g (λh=>Jx) af (λxs hx=>mD);have b1:decide ((v:Int)<0)=false:=fB af;have b2:decide ((v:Int)>=((g.map ints).length:Nat))=false:=aA
 have hlx:=hi _ (cU hv);have hR:g[v].length=R.length:=Ax
 refine eg hm Tryz.func346 (λ_=>false) [] (λn=>bif Nat.beq n 12 then[.Gy 9]else[]) aB ?_;refine aN ?_;have hlen:=pE g v (aV je g[v] R 0);have wY:(g.map bV).length=g.length:=ag
 have how:nth (g.map bV) v=some (bV g[v]):=Jz
 refine a_.at wY.symm af how ?_;refine run ?_;refine a_.at wY.symm af how ?_;refine run ?_;have e0:=Yb g v hv R;have pM:=aL (λx=>some (Row.mk 0 true x)) e0;refine bB.mk ⟨[],aZ.np (g[v].length) (λ_=>True) (λp=>⟨[(36,it p)],[],[(5140,⟨0,true,(g.set v (aV je g[v] R p)).map bV⟩)]⟩) trivial ?_⟩;intro p hp hJ;by_cases hp1:p<g[v].length
 ·have b3:decide ((p:Int)<((g[v].map it).length:Nat))=true:=by simp;exact hp1
  have hM:(aV je g[v] R p).length=g[v].length:=kH hR;have hml:((aV je g[v] R p).map it).length=g[v].length:=by simp[hM]
  have hown:=Bz g v hv (aV je g[v] R p);have hlen:=pE g v (aV je g[v] R p);have hown' :nth ((g.set v (aV je g[v] R p)).map bV) ((v:Int)).toNat=some (.own ((aV je g[v] R p).map it)):=hown;have e02:=KW g v hv R p _ NG hR hp1 Ax rfl;refine run ?_
  repeat((first
   |refine a_.at hlen.symm af hown ?_|refine a_.at hml.symm af hown ?_|refine a_.map hp1 rfl ?_|refine Hs.mk ⟨_,hown',?_⟩);refine run ?_)
  exact Ce
 have b3:decide ((p:Int)<((g[v].map it).length:Nat))=false:=aA
 have hpp:p=g[v].length:=af
 exact OV
theorem set_nw(g:mY)(v:Nat)(hv:v<g.length)(e:Ex)(hl:g.length<=2^30)(hi:∀xs∈g,xs.length<=2^30)(a b:Int)(hS:C 404 [cI e,it ((g.map ints).length:Nat)] (.bR [.agg [it a,it b],bo true]))(R:List Int)(hRe:R=g[v].map λ_=>NG):C 346 [dF g,it v,cI e,bo false] (dF (g.set v R)):=by
 have hc:=gu g (λh=>Jx) af (λxs hx=>mD);have b1:decide ((v:Int)<0)=false:=fB af;have b2:decide ((v:Int)>=((g.map ints).length:Nat))=false:=aA
 have hlx:=hi _ (cU hv);have hR:g[v].length=R.length:=Ax
 refine eg hm Tryz.func346 (λ_=>false) [] (λn=>bif Nat.beq n 12 then[.Gy 9]else[]) aB ?_;refine aN ?_;have hlen:=pE g v (aV je g[v] R 0);have wY:(g.map bV).length=g.length:=ag
 have how:nth (g.map bV) v=some (bV g[v]):=Jz
 refine a_.at wY.symm af how ?_;refine run ?_;refine a_.at wY.symm af how ?_;refine run ?_;have e0:=Yb g v hv R;have pM:=aL (λx=>some (Row.mk 0 true x)) e0;refine bB.mk ⟨[],aZ.np (g[v].length) (λ_=>True) (λp=>⟨[(36,it p)],[],[(5140,⟨0,true,(g.set v (aV je g[v] R p)).map bV⟩)]⟩) trivial ?_⟩;intro p hp hJ;by_cases hp1:p<g[v].length
 ·have b3:decide ((p:Int)<((g[v].map it).length:Nat))=true:=by simp;exact hp1
  have hM:(aV je g[v] R p).length=g[v].length:=kH hR;have hml:((aV je g[v] R p).map it).length=g[v].length:=by simp[hM]
  have hown:=Bz g v hv (aV je g[v] R p);have hlen:=pE g v (aV je g[v] R p);have hown' :nth ((g.set v (aV je g[v] R p)).map bV) ((v:Int)).toNat=some (.own ((aV je g[v] R p).map it)):=hown;have e02:=KW g v hv R p _ NG hR hp1 Ax rfl;refine run ?_
  repeat((first
   |refine a_.at hlen.symm af hown ?_|refine a_.at hml.symm af hown ?_|refine a_.map hp1 rfl ?_|refine Hs.mk ⟨_,hown',?_⟩);refine run ?_)
  exact Ce
 have b3:decide ((p:Int)<((g[v].map it).length:Nat))=false:=aA
 have hpp:p=g[v].length:=af
 exact OV
theorem set_yes(g:mY)(v:Nat)(hv:v<g.length)(e:Ex)(hl:g.length<=2^30)(hi:∀xs∈g,xs.length<=2^30)(u:Nat)(hu:u<g.length)(hlu:g[v].length=g[u].length)(b:Int)(hb: -(2^50)<b∧b<2^50)(hgu:∀x∈g[u],-(2^50)<x∧x<2^50)(hS:C 404 [cI e,it ((g.map ints).length:Nat)] (.bR [.agg [it u,it b],bo true]))(R:List Int)(hRe:R=g[u].map (Cs · b)):C 346 [dF g,it v,cI e,bo true] (dF (g.set v R)):=by
 have hc:=gu g (λh=>Jx) af (λxs hx=>mD);have b1:decide ((v:Int)<0)=false:=fB af;have b2:decide ((v:Int)>=((g.map ints).length:Nat))=false:=aA
 have hlx:=hi _ (cU hv);have hR:g[v].length=R.length:=by subst hRe;simp[hlu]
 refine eg hm Tryz.func346 (λ_=>false) [] (λn=>bif Nat.beq n 12 then[.Gy 9]else[]) aB ?_;refine aN ?_;have hlen:=pE g v (aV je g[v] R 0);have wY:(g.map bV).length=g.length:=ag
 have how:nth (g.map bV) v=some (bV g[v]):=Jz
 refine a_.at wY.symm af how ?_;refine run ?_;refine a_.at wY.symm af how ?_;refine run ?_;have e0:=Yb g v hv R;have pM:=aL (λx=>some (Row.mk 0 true x)) e0;refine bB.mk ⟨[],aZ.np (g[v].length) (λ_=>True) (λp=>⟨[(36,it p)],[],[(5140,⟨0,true,(g.set v (aV je g[v] R p)).map bV⟩)]⟩) trivial ?_⟩;intro p hp hJ;by_cases hp1:p<g[v].length
 ·have b3:decide ((p:Int)<((g[v].map it).length:Nat))=true:=by simp;exact hp1
  have hM:(aV je g[v] R p).length=g[v].length:=kH hR;have hml:((aV je g[v] R p).map it).length=g[v].length:=by simp[hM]
  have hown:=Bz g v hv (aV je g[v] R p);have hlen:=pE g v (aV je g[v] R p);have hown' :nth ((g.set v (aV je g[v] R p)).map bV) ((v:Int)).toNat=some (.own ((aV je g[v] R p).map it)):=hown;have hp2:p<g[u].length:=hlu▸hp1;have cs:=sum_c g[u][p] b (hgu _ (cU hp2)) hb;have e02:=KW g v hv R p _ (Cs g[u][p] b) hR hp1 Ax rfl;have e03:(((aV je g[v] R p).map it).set p (it NG)).set p (it (Cs g[u][p] b))=((aV je g[v] R p).map it).set p (it (Cs g[u][p] b)):=xS ..;have e04:∀(l:List au) x y,(l.set v x).set v y=l.set v y:=λl x y=>xS ..;have hown2:nth (((g.set v (aV je g[v] R p)).map bV).set v (.own (((aV je g[v] R p).map it).set p (it NG)))) ((v:Int)).toNat=some (.own (((aV je g[v] R p).map it).set p (it NG))):=by show nth _ v=_;rw[aI,zi (by rw[hlen];exact hv)]
  have hlen2:(((g.set v (aV je g[v] R p)).map bV).set v (.own (((aV je g[v] R p).map it).set p (it NG)))).length=g.length:=by rw[pO,hlen]
  replace e02:=(e04 _ (.own (((aV je g[v] R p).map it).set p (it NG))) (.own ((((aV je g[v] R p).map it).set p (it NG)).set p (it (Cs g[u][p] b))))).trans ((aL (λl=>List.set _ v (au.own l)) e03).trans e02);refine aN ?_
  repeat((first
   |refine a_.at hlen.symm af hown ?_|refine a_.at hlen2.symm af hown2 ?_|refine a_.map hu rfl ?_|refine a_.map hp1 rfl ?_|refine a_.map hp2 rfl ?_|refine Hs.mk ⟨_,hown',?_⟩|refine Hs.mk ⟨_,hown2,?_⟩|refine aE cs ?_);refine run ?_)
  exact Ce
 have b3:decide ((p:Int)<((g[v].map it).length:Nat))=false:=aA
 have hpp:p=g[v].length:=af
 exact OV
def fL(c:Int)(o s:Int):Int:=mn o (Cs s c)
def mixF_eq(f:Int->Int->Int)(g:mY)(v:Nat)(hv:v<g.length)(S:List Int)(k:Nat)(l:List au)(x:Int)(hS:g[v].length=S.length)(hk:k<g[v].length)(hx:f g[v][k] (S[k]'(hS▸hk))=x)(hl:l=(aV f g[v] S k).map it):((g.set v (aV f g[v] S k)).map bV).set v (.own (l.set k (it x)))=(g.set v (aV f g[v] S (k+1))).map bV:=by subst hx hl;rw[<-vp hS hk,<-jL,show au.own ((aV f g[v] S k).set k (f g[v][k] (S[k]'(hS▸hk)))|>.map it)=bV ((aV f g[v] S k).set k (f g[v][k] (S[k]'(hS▸hk)))) from rfl,<-jL,xS]
def mixF0(f:Int->Int->Int)(g:mY)(v:Nat)(hv:v<g.length)(S:List Int):g.map bV=(g.set v (aV f g[v] S 0)).map bV:=by rw[wL,List.set_getElem_self]
theorem less_x(out g:mY)(x1 y1:Nat)(x2 y2 k:Int)(hx:x1<out.length)(hy:y1<g.length)(hl:out.length<=2^30)(hl2:g.length<=2^30)(hlu:out[x1].length=g[y1].length)(hi:g[y1].length<=2^30)(hx2: -(2^40)<x2∧x2<2^40)(hy2: -(2^40)<y2∧y2<2^40)(hk:0<=k∧k<=1)(hgu:∀n∈g[y1],-(2^50)<n∧n<2^50):aj Tryz.prog 462 [.agg [it x1,it x2],.agg [it y1,it y2],it k,.ptr 1000 0,.ptr 1001 0] ⟨[.cQ 1000 out.length,dF g],[TM out]⟩ (.bR []) ⟨[.cQ 1000 out.length,dF g],[TM (out.set x1 (List.zipWith (fL (y2 - x2 - k)) out[x1] g[y1]))]⟩:=by
 have h1:=hx2.1;have h2:=hx2.2;have h3:=hy2.1;have h4:=hy2.2;have h5:=hk.1;have h6:=hk.2;generalize hf:fL (y2 - x2 - k)=f;refine fo Tryz.func462 ?_;refine run ?_;have wY:(out.map bV).length=out.length:=ag
 have how:nth (out.map bV) x1=some (bV out[x1]):=by rw[bW,aI,iM hx];rfl
 refine a_.at wY.symm af how ?_;refine run ?_;refine a_.at wY.symm af how ?_;refine run ?_;have e0:=mixF0 f out x1 hx g[y1];have pM:=aL (λx=>some (Row.mk 0 true x)) e0;refine bB.mk ⟨[],aZ.np (out[x1].length) (λ_=>True) (λp=>⟨[(15,it p)],[],[(1000,⟨0,true,(out.set x1 (aV f out[x1] g[y1] p)).map bV⟩)]⟩) trivial ?_⟩;intro p hp hJ;by_cases hp1:p<out[x1].length
 ·have b3:decide ((p:Int)<((out[x1].map it).length:Nat))=true:=by simp;exact hp1
  have hM:(aV f out[x1] g[y1] p).length=out[x1].length:=kH hlu;have hml:((aV f out[x1] g[y1] p).map it).length=out[x1].length:=by simp[hM]
  have hp2:p<g[y1].length:=hlu▸hp1;have hown:=Bz out x1 hx (aV f out[x1] g[y1] p);have hlen:=pE out x1 (aV f out[x1] g[y1] p);have hown' :nth ((out.set x1 (aV f out[x1] g[y1] p)).map bV) ((x1:Int)).toNat=some (.own ((aV f out[x1] g[y1] p).map it)):=hown;have cs:=sum_c g[y1][p] (y2 - x2 - k) (hgu _ (cU hp2)) af;have helt:nth ((aV f out[x1] g[y1] p).map it) p=some (it out[x1][p]):=by rw[bW,aI,CE hlu hp1];rfl
  have e02:=mixF_eq f out x1 hx g[y1] p _ (mn out[x1][p] (Cs g[y1][p] (y2 - x2 - k))) hlu hp1 (by subst hf;rfl) rfl;refine aN ?_
  repeat((first
   |refine a_.at hlen.symm af hown ?_|refine a_.map hy rfl ?_|refine a_.map hp2 rfl ?_|refine a_.at rfl af helt ?_|refine Hs.mk ⟨_,hown',?_⟩|refine aE cs ?_);refine run ?_)
  exact Ce
 have b3:decide ((p:Int)<((out[x1].map it).length:Nat))=false:=aA
 have hpp:p=out[x1].length:=af
 subst hpp;have e:(out.set x1 (aV f out[x1] g[y1] out[x1].length)).map bV=(out.set x1 (List.zipWith f out[x1] g[y1])).map bV:=by rw[vr hlu]
 refine run ?_;exact fu.mk rfl (aL (λx=>Ct.mk [.cQ 1000 out.length,dF g] [Row.mk 0 true x]) e)
def Eh{G:Prop}(h:G:=by rw[h.len];exact hn):G:=h
def v8{G:Prop}(h:G:=by refine eg hm Tryz.func425 (λ_=>false) [] hAss (by kernel_rfl) ?_;refine aN ?_;refine kE.mk hlen.symm ?_;refine run ?_;exact fu.mk (aL (λx=>au.sl 1 x false) e) rfl):G:=h
def ng{G:Prop}(h:G:=by rw[AN];rfl):G:=h
def hAss:Nat->List Ad:=λn=>bif Nat.beq n 5 then[.tX 13 0]else bif Nat.beq n 18 then[.tX 13 0]else[]
def DB(g o R:mY)(x1 x2 y1 y2 k:Int):Prop:=aj Tryz.prog 462 [.agg [it x1,it x2],.agg [it y1,it y2],it k,.ptr 1000 0,.ptr 1001 0] ⟨[.cQ 1000 g.length,dF g],[TM o]⟩ (.bR []) ⟨[.cQ 1000 g.length,dF g],[TM R]⟩
def EM(g:mY)(a:Ex)(x1 x2:Int)(b:Bool):Prop:=C 404 [cI a,it ((g.map ints).length:Nat)] (.bR [.agg [it x1,it x2],bo b])
section
variable(g:mY)(h0:g≠[])(a b:Ex)(hl:g.length<=2^30)(hi:∀xs∈g,xs.length<=2^30)(x1 x2 y1 y2:Int)
include h0 hl hi
def ass_n1(op:Int)(h u v:Bool)(d:Bool)(hS:EM g a x1 x2 false)(hT:EM g b y1 y2 d):C 425 [dF g,it op,bo h,cI a,cI b,.agg [bo u,bo v]] (dF g):=by
 have hc:=gu g h0 af (λxs hx=>mD);have e:(g.map bV).map f_=g.map ints:=ng
 have hlen:(g.map bV).length=g.length:=ag
 exact v8
def ass_n2(op:Int)(h u v:Bool)(hS:EM g a x1 x2 true)(hT:EM g b y1 y2 false):C 425 [dF g,it op,bo h,cI a,cI b,.agg [bo u,bo v]] (dF g):=by
 have hc:=gu g h0 af (λxs hx=>mD);have e:(g.map bV).map f_=g.map ints:=ng
 have hlen:(g.map bV).length=g.length:=ag
 exact v8
def ass_u(op:Int)(h v:Bool)(hS:EM g a x1 x2 true)(hT:EM g b y1 y2 true):C 425 [dF g,it op,bo h,cI a,cI b,.agg [bo false,bo v]] (dF g):=by
 have hc:=gu g h0 af (λxs hx=>mD);have e:(g.map bV).map f_=g.map ints:=ng
 have hlen:(g.map bV).length=g.length:=ag
 exact v8
def ass_v(op:Int)(h:Bool)(hS:EM g a x1 x2 true)(hT:EM g b y1 y2 true):C 425 [dF g,it op,bo h,cI a,cI b,.agg [bo true,bo false]] (dF g):=by
 have hc:=gu g h0 af (λxs hx=>mD);have e:(g.map bV).map f_=g.map ints:=ng
 have hlen:(g.map bV).length=g.length:=ag
 exact v8
def ass_2t(R:mY)(hR:R.length=g.length)(hS:EM g a x1 x2 true)(hT:EM g b y1 y2 true)(hL:DB g g R x1 x2 y1 y2 1):C 425 [dF g,it 2,bo true,cI a,cI b,.agg [bo true,bo true]] (dF R):=by
 have hc:=gu g h0 af (λxs hx=>mD);have e:(R.map bV).map f_=R.map ints:=ng
 have hlen:(R.map bV).length=g.length:=by simp[hR]
 exact v8
def ass_2f(R:mY)(hR:R.length=g.length)(hS:EM g a x1 x2 true)(hT:EM g b y1 y2 true)(hL:DB g g R y1 y2 x1 x2 0):C 425 [dF g,it 2,bo false,cI a,cI b,.agg [bo true,bo true]] (dF R):=by
 have hc:=gu g h0 af (λxs hx=>mD);have e:(R.map bV).map f_=R.map ints:=ng
 have hlen:(R.map bV).length=g.length:=by simp[hR]
 exact v8
def ass_3t(R:mY)(hR:R.length=g.length)(hS:EM g a x1 x2 true)(hT:EM g b y1 y2 true)(hL:DB g g R x1 x2 y1 y2 0):C 425 [dF g,it 3,bo true,cI a,cI b,.agg [bo true,bo true]] (dF R):=by
 have hc:=gu g h0 af (λxs hx=>mD);have e:(R.map bV).map f_=R.map ints:=ng
 have hlen:(R.map bV).length=g.length:=by simp[hR]
 exact v8
def ass_3f(R:mY)(hR:R.length=g.length)(hS:EM g a x1 x2 true)(hT:EM g b y1 y2 true)(hL:DB g g R y1 y2 x1 x2 1):C 425 [dF g,it 3,bo false,cI a,cI b,.agg [bo true,bo true]] (dF R):=by
 have hc:=gu g h0 af (λxs hx=>mD);have e:(R.map bV).map f_=R.map ints:=ng
 have hlen:(R.map bV).length=g.length:=by simp[hR]
 exact v8
def ass_4t(R0 R:mY)(hR:R.length=g.length)(hS:EM g a x1 x2 true)(hT:EM g b y1 y2 true)(hL:DB g g R0 x1 x2 y1 y2 0)(hL2:DB g R0 R y1 y2 x1 x2 0):C 425 [dF g,it 4,bo true,cI a,cI b,.agg [bo true,bo true]] (dF R):=by
 have hc:=gu g h0 af (λxs hx=>mD);have e:(R.map bV).map f_=R.map ints:=ng
 have hlen:(R.map bV).length=g.length:=by simp[hR]
 exact v8
def ass_4f(hS:EM g a x1 x2 true)(hT:EM g b y1 y2 true):C 425 [dF g,it 4,bo false,cI a,cI b,.agg [bo true,bo true]] (dF g):=by
 have hc:=gu g h0 af (λxs hx=>mD);have e:(g.map bV).map f_=g.map ints:=ng
 have hlen:(g.map bV).length=g.length:=ag
 exact v8
def ass_o(op:Int)(h:Bool)(n2:op≠2)(n3:op≠3)(n4:op≠4)(hS:EM g a x1 x2 true)(hT:EM g b y1 y2 true):C 425 [dF g,it op,bo h,cI a,cI b,.agg [bo true,bo true]] (dF g):=by
 have b2:=fE n2;have b3:=fE n3;have b4:=fE n4;have hc:=gu g h0 af (λxs hx=>mD);have e:(g.map bV).map f_=g.map ints:=ng
 have hlen:(g.map bV).length=g.length:=ag
 exact v8
end
def P3{g:mY}{e:Ex}(he:QX e):∃x1 x2,EM g e x1 x2 (Oy e g.length).isSome∧(Oy e g.length).getD (0,0)=(x1,x2):=by refine⟨((Oy e g.length).getD (0,0)).1,((Oy e g.length).getD (0,0)).2,?_,rfl⟩;have:=TG e ((g.map ints).length:Nat) he;unfold EM;have el:(g.map ints).length=g.length:=cZ ..;rw[el]at this ⊢;exact this
def YY{g:mY}{n p:Nat}(h:kc g n p){k:Nat}(hk:k<g.length):∀x∈g[k],-(2^50)<x∧x<2^50:=by intro x hx;have:=(h.row _ (cU hk)).2 x hx;rcases(GO x).1 this with h|h;rw[h];decide;omega
def GW{g:mY}{n p:Nat}(h:kc g n p)(hp:p<=2^30):∀xs∈g,xs.length<=2^30:=λxs hx=>by rw[(h.row xs hx).1];exact hp
def Gt{g o:mY}{n p:Nat}(h:kc g n p)(ho:kc o n p)(hn:n<=2^30)(hp:p<=2^30){a b:Ex}{x1 x2 y1 y2:Int}(hS:Oy a g.length=some (x1,x2))(hT:Oy b g.length=some (y1,y2))(k:Int)(hk:0<=k∧k<=1):DB g o (vM o g (x1,x2) (y1,y2) k) x1 x2 y1 y2 k∧(vM o g (x1,x2) (y1,y2) k).length=g.length:=by
 have s1:=wz hS;have s2:=wz hT;have hog:o.length=g.length:=by rw[ho.len,h.len]
 obtain⟨v,rfl⟩:∃v:Nat,x1=v:=⟨x1.toNat,af⟩;obtain⟨u,rfl⟩:∃u:Nat,y1=u:=⟨y1.toNat,af⟩;have hv:v<o.length:=af
 have hu:u<g.length:=af
 have e1:rowOf o v=o[v]:=by simp[rowOf,hv]
 have e2:rowOf g u=g[u]:=by simp[rowOf,hu]
 refine⟨?_,by unfold vM;rw[pO,hog]⟩;unfold DB vM;rw[e1,e2];have:=less_x o g v u x2 y2 k hv hu (by rw[ho.len];exact hn) Eh (by rw[(ho.row _ (cU hv)).1,(h.row _ (cU hu)).1]) (by rw[(h.row _ (cU hu)).1];exact hp) af af hk (YY h hu);rw[hog]at this;exact this
def ZZ{g:mY}{n p:Nat}(h:kc g n p)(h0:g≠[])(hn:n<=2^30)(hp:p<=2^30)(op:Int)(hh:Bool)(a b:Ex)(u v:Bool)(ha:QX a)(hb:QX b):C 425 [dF g,it op,bo hh,cI a,cI b,.agg [bo u,bo v]] (dF (yB g op hh a b u v)):=by
 have hl:g.length<=2^30:=Eh
 have hi:=GW h hp;obtain⟨x1,x2,hS,eS⟩:=P3 (g:=g) ha;obtain⟨y1,y2,hT,eT⟩:=P3 (g:=g) hb;unfold yB;cases hA:Oy a g.length with|none=>rw[hA]at hS;exact ass_n1 g h0 a b hl hi x1 x2 y1 y2 op hh u v _ hS hT|some x=>rw[hA]at hS eS;cases hB:Oy b g.length with|none=>rw[hB]at hT;exact ass_n2 g h0 a b hl hi x1 x2 y1 y2 op hh u v hS hT|some y=>rw[hB]at hT eT;simp only[zb]at eS eT;subst eS eT;simp only[Option.isSome_some]at hS hT;cases u with|false=>exact ass_u g h0 a b hl hi x1 x2 y1 y2 op hh v hS hT|true=>cases v with|false=>exact ass_v g h0 a b hl hi x1 x2 y1 y2 op hh hS hT|true=>have L1:=Gt h h hn hp hA hB;have L2:=Gt h h hn hp hB hA;simp only[Bool.and_self,Bool.not_true,uI,jP];by_cases n2:op=2;subst n2;cases hh;exact ass_2f g h0 a b hl hi x1 x2 y1 y2 _ (L2 0 af).2 hS hT (L2 0 af).1;exact ass_2t g h0 a b hl hi x1 x2 y1 y2 _ (L1 1 af).2 hS hT (L1 1 af).1;rw[ah n2];by_cases n3:op=3;subst n3;cases hh;exact ass_3f g h0 a b hl hi x1 x2 y1 y2 _ (L2 1 af).2 hS hT (L2 1 af).1;exact ass_3t g h0 a b hl hi x1 x2 y1 y2 _ (L1 0 af).2 hS hT (L1 0 af).1;rw[ah n3];by_cases n4:op=4;subst n4;cases hh;exact ass_4f g h0 a b hl hi x1 x2 y1 y2 hS hT;have ax:=(wz hA).1;have ay:=(wz hB).1;rw[h.len]at ax ay;have ok1:kc (vM g g (x1,x2) (y1,y2) 0) n p:=wT h h ax ay 0;have L3:=Gt h ok1 hn hp hB hA 0 af;exact ass_4t g h0 a b hl hi x1 x2 y1 y2 _ _ L3.2 hS hT (L1 0 af).1 L3.1;rw[ah (λh=>n4 h.1)];exact ass_o g h0 a b hl hi x1 x2 y1 y2 op hh n2 n3 n4 hS hT
theorem set_c{g:mY}{n p:Nat}(h:kc g n p)(hn:n<=2^30)(hp:p<=2^30)(v:Int)(hv:0<=v∧v<n)(e:Ex)(he:QX e)(w:Bool):C 346 [dF g,it v,cI e,bo w] (dF (TH g v e w)):=by
 have hl:g.length<=2^30:=Eh
 have hi:=GW h hp;obtain⟨k,rfl⟩:∃k:Nat,v=k:=⟨v.toNat,af⟩;have hk:k<g.length:=by rw[h.len];omega
 have e1:rowOf g k=g[k]:=by simp[rowOf,hk]
 obtain⟨x1,x2,hS,eS⟩:=P3 (g:=g) he;unfold TH;rw[e1];cases hA:Oy e g.length with
 |none=>rw[hA]at hS;exact set_no g k hk e hl hi x1 x2 w hS _ rfl
 |some x=>
  rw[hA]at hS eS;simp only[zb]at eS;subst eS;cases w with
  |false=>exact set_nw g k hk e hl hi x1 x2 hS _ rfl
  |true=>
   have s1:=wz hA;obtain⟨u,rfl⟩:∃u:Nat,x1=u:=⟨x1.toNat,af⟩;have hu:u<g.length:=af
   have e2:rowOf g u=g[u]:=(by simp[rowOf,hu]);have:=set_yes g k hk e hl hi u hu (by rw[(h.row _ (cU hk)).1,(h.row _ (cU hu)).1]) x2 af (YY h hu) hS _ rfl;rw[<-e2]at this;exact this
def ZT{g:mY}{n p:Nat}(h:kc g n p)(hn:n<=2^30)(hp:p<=2^30)(v q:Int)(hv:0<=v∧v<n)(hq:0<=q∧q<p):C 411 [dF g,it v,it q] (it (tK g v q)):=by
 obtain⟨k,rfl⟩:∃k:Nat,v=k:=⟨v.toNat,af⟩;obtain⟨j,rfl⟩:∃j:Nat,q=j:=⟨q.toNat,af⟩;have hk:k<g.length:=by rw[h.len];omega
 have hr:=(h.row _ (cU hk)).1;exact bound_g g k j hk (by rw[hr];omega) Eh (by rw[hr];exact hp)
def Ak{G:Prop}(h:G:=by refine aN ?_;refine a_.at rfl (by omega) Li ?_;refine aN ?_;refine a_.at rfl (by omega) hx ?_;exact aW):G:=h
def aO(r:Rf):au:= .agg [it r.s,it r.a.lo,it r.a.hi,it r.a.m,it r.a.r,it r.a.mask]
def cF(f:Fa):List au:=[bo f.dead,fj 5 ai f.v,dF f.jh,fj 6 aO f.refs,ints f.arr,it f.ew,it f.may,it f.parts]
def bg(f:Fa):au:= .agg (cF f)
structure yG(d:Df):Prop where
 LM:Jk d
 pv:d.params.length<=d.vars
 vars:1<=d.vars∧d.vars<=1048576
 refs:0<=d.refs∧d.refs<=1048576
 pn:d.params.length<=1048576
 an:d.aK.length<=1048576
def VO:C 81 [] (ai (kv 0 0)):=by have c:=of_c 0 0 ⟨af,af⟩;generalize kv 0 0=X at c ⊢;refine fo Tryz.func81 ?_;exact aW
def SH(x L O:Int):aj Tryz.prog 455 [it x,.ptr 1000 0] ⟨[.agg [it L,it O]],[]⟩ (it (r9 x L)) ⟨[.agg [it L,it O]],[]⟩:=by refine fo Tryz.func455 ?_;exact aT
def vj{f:Fa}{n:Int}(h:n.toNat<f.v.length):nth (f.v.map ai) n.toNat=some (ai (gV f n)):=by rw[bW,fq h];unfold gV;simp[h]
def Gu{d:Df}{f:Fa}(hd:yG d)(hf:qO d f)(n:Int)(hn:0<=n∧n<d.aK.length):C 410 [bQ d,bg f,it n] (.bR [ai (Gv d f n),it (HL d n),bo (Nj d f n)]):=by
 have ha:=B5 hd.LM (n:=n);have hpv:=hd.pv;have hpn:=hd.pn;have hv:=hf.v;have Li:nth (d.aK.map kz) n.toNat=some (.agg [it (gW d n).len,it (gW d n).yE]):=by
  have h:n.toNat<d.aK.length:=af
  rw[bW,fq h];unfold gW;simp[h,kz]
 unfold Gv HL Nj;obtain⟨L,O,hA⟩:∃L O,gW d n=⟨L,O⟩:=⟨_,_,rfl⟩;rw[hA]at ha Li ⊢;dsimp only at ha Li ⊢;by_cases hO:O=0;have b1:=tE hO;rw[aq hO,aq hO,aq hO];have c:=of_c L 0 ⟨af,af⟩;generalize kv L 0=X at c ⊢;refine fo Tryz.func410 ?_;refine aN ?_;refine a_.at rfl af Li ?_;exact aW;have b1:=fE hO;rw[ah hO,ah hO,ah hO];have hV:aU (gV f (O - 1)):=yx hf.va _;have hx:=vj (f:=f) (n:=O - 1) af;generalize gV f (O - 1)=V at*;obtain⟨lo,hi,m,r,mask⟩:=V;dsimp only at hx ⊢;have c1:=E9 lo ha.2.1;have c2:=E9 hi ha.2.1;have k1:=SH lo L O;have k2:=SH hi L O;have c:=Lf ⟨r9 lo L,r9 hi L,0⟩ ⟨bu,bu⟩ ⟨bu,bu⟩;unfold jj at c;dsimp only at c;generalize m7 (r9 lo L) (r9 hi L) 1 0=X at c ⊢;generalize r9 lo L=C1 at*;generalize r9 hi L=C2 at*;by_cases h0:lo>=0;have b2:=tB h0;rw[b2];refine fo Tryz.func410 ?_;exact Ak;have b2:=fB h0;rw[b2];refine fo Tryz.func410 ?_;exact Ak
def yc:=@not_false_eq_true
def D5{G:Prop}(h:G:=by refine fo Tryz.func345 ?_;exact aT):G:=h
def jY.Sw{vars na:Int}{k:Nat}{e:Ex}{n:Nat}(h:jY vars na k e n)(ho:e.op=1): -2147483648<=e.v∧e.v<=2147483647:=by cases h with|num h=>exact h|var h=>simp[Ex.op]at ho|len h=>simp[Ex.op]at ho|bin h _ _=>simp[Ex.op]at ho;omega
def jY.HX{vars na:Int}{k:Nat}{e:Ex}{n:Nat}(h:jY vars na k e n)(ho:e.op=2):0<=e.n∧e.n<vars:=by cases h with|num h=>simp[Ex.op]at ho|var h=>exact h|len h=>simp[Ex.op]at ho|bin h _ _=>simp[Ex.op]at ho;omega
def jY.len_n{vars na:Int}{k:Nat}{e:Ex}{n:Nat}(h:jY vars na k e n)(ho:e.op=3):0<=e.n∧e.n<na:=by cases h with|num h=>simp[Ex.op]at ho|var h=>simp[Ex.op]at ho|len h=>exact h|bin h _ _=>simp[Ex.op]at ho;omega
def jY.sh{vars na:Int}{k:Nat}{e:Ex}{n:Nat}(h:jY vars na k e n):QX e:=by cases h with|num h=>exact .inl rfl|var h=>exact .inl rfl|len h=>exact .inl rfl|bin h _ _=>exact .inr ⟨_,_,rfl⟩
theorem BU{d:Df}{f:Fa}(hd:yG d)(hf:qO d f){k:Nat}{e:Ex}{z:Nat}(he:jY d.vars d.aK.length k e z):C 423 [bQ d,bg f,cI e] (ai (iI d f e)):=by
 induction he with
 |num h=>rename_i k v;rw[IU];have c:=of_c v 0 ⟨af,af⟩;generalize kv v 0=X at c ⊢;refine fo Tryz.func423 ?_;exact aW|var h=>rename_i k n;rw[IQ];have hx:=vj (f:=f) (n:=n) (by have:=hf.v;omega);generalize gV f n=X at hx ⊢;refine fo Tryz.func423 ?_;refine run ?_;refine a_.at rfl (by exact h.1) hx ?_;exact aT|len h=>rename_i k n;rw[IV];have c:=Gu hd hf n h;generalize Gv d f n=X at c ⊢;refine fo Tryz.func423 ?_;exact aW
 |bin h ha hb iha ihb=>
  rename_i k op a b x y;rw[IW d f h.1];have e1:(op==1)=false:=aA
  have e2:(op==2)=false:=aA
  have e3:(op==3)=false:=aA
  have c:=opA_c op _ _ h (nM hd.LM hf.va ha) (nM hd.LM hf.va hb);generalize opA op (iI d f a) (iI d f b)=X at c ⊢;generalize iI d f a=A at*;generalize iI d f b=B at*;cases a;cases b;refine fo Tryz.func423 ?_;refine aN ?_;repeat((refine a_.at rfl az rfl ?_);refine run ?_;repeat((apply aE;first|exact iha|exact ihb|exact c);refine run ?_))
  exact aG
theorem KD{d:Df}{f:Fa}(hf:qO d f){k:Nat}{e:Ex}{z:Nat}(he:jY d.vars d.aK.length k e z):C 345 [bg f,cI e] (.bR [it (qd f e).1,it (qd f e).2.1,bo (qd f e).2.2]):=by
 have hfv:=hf.v;cases he with
 |num h=>exact D5|var h=>exact D5|len h=>exact D5
 |bin h ha hb=>
  rename_i k op a b x y;have va:=ha.Sw;have vb:=hb.Sw;have na:=ha.HX;have nb:=hb.HX;have e2:(op==2)=false:=aA
  obtain⟨oa,an,av,al⟩:=a;obtain⟨ob,bn,bv,bl⟩:=b;dsimp only[Ex.op,Ex.v,Ex.n]at va vb na nb;have hs:qd f (.mk op 0 0 [.mk oa an av al,.mk ob bn bv bl])=if op≠4∧op≠5 then(0,0,false)else
   let p:=if op=4∧oa=1 then(Ex.mk ob bn bv bl,Ex.mk oa an av al)else(Ex.mk oa an av al,Ex.mk ob bn bv bl)
   if p.1.op≠2∨p.2.op≠1 then(0,0,false)else
   let c:=if op=5 then 0 - p.2.v else p.2.v
   (p.1.n,c,decide ((gV f p.1.n).lo+c>=-2147483648)&&decide ((gV f p.1.n).hi+c<=2147483647)):=by
   unfold qd;rw[ah (show ¬(Ex.mk op 0 0 [.mk oa an av al,.mk ob bn bv bl]).op=2 by show ¬op=2;omega)];rfl
  rw[hs];have fin:∀(n c:Int),n.toNat<f.v.length->0<=n->∀b1 b2:Bool,True:=λ_ _ _ _ _ _=>trivial;clear hs fin;by_cases h4:op=4
  ·subst h4;rw[ah af];by_cases a1:oa=1
   ·subst a1;by_cases b2:ob=2
    ·subst b2;have hn:=nb rfl;have hv:=va rfl;show C 345 _ (.bR [it bn,it av,bo (decide ((gV f bn).lo+av>=-2147483648)&&decide ((gV f bn).hi+av<=2147483647))]);have hx:=vj (f:=f) (n:=bn) af;have hV:aU (gV f bn):=yx hf.va _;generalize gV f bn=X at*;have x1:=hV.lo;have x2:=hV.hi;have x3:=hV.le;by_cases q:X.lo+av>=-2147483648
     ·have q1:=tB q;rw[q1];refine fo Tryz.func345 ?_;refine run ?_;repeat((first|refine a_.at rfl az rfl ?_|refine a_.at rfl af hx ?_);refine run ?_)
      exact aG
     ·have q1:=fB q;rw[q1];refine fo Tryz.func345 ?_;refine run ?_;repeat((first|refine a_.at rfl az rfl ?_|refine a_.at rfl af hx ?_);refine run ?_)
      exact aG
    ·have hb2:ob≠2:=b2;have b2:=fE b2;have b3:(ob !=2)=true:=by simp at b2 ⊢;exact b2
     simp only[and_self,jO];dsimp only[Ex.op,Ex.v,Ex.n];simp only[ne_eq,hb2,yc,true_or,jO];have hx:True:=trivial;refine fo Tryz.func345 ?_;refine run ?_;repeat((first|refine a_.at rfl az rfl ?_|refine a_.at rfl af hx ?_);refine run ?_)
     exact aG
   ·have a1' :=fE a1;simp only[a1,and_false,jP];dsimp only[Ex.op,Ex.v,Ex.n];by_cases a2:oa=2
    ·subst a2;by_cases b1:ob=1
     ·subst b1;have hn:=na rfl;have hv:=vb rfl;show C 345 _ (.bR [it an,it bv,bo (decide ((gV f an).lo+bv>=-2147483648)&&decide ((gV f an).hi+bv<=2147483647))]);have hx:=vj (f:=f) (n:=an) af;have hV:aU (gV f an):=yx hf.va _;generalize gV f an=X at*;have x1:=hV.lo;have x2:=hV.hi;have x3:=hV.le;by_cases q:X.lo+bv>=-2147483648
      ·have q1:=tB q;rw[q1];refine fo Tryz.func345 ?_;refine run ?_;repeat((first|refine a_.at rfl az rfl ?_|refine a_.at rfl af hx ?_);refine run ?_)
       exact aG
      ·have q1:=fB q;rw[q1];refine fo Tryz.func345 ?_;refine run ?_;repeat((first|refine a_.at rfl az rfl ?_|refine a_.at rfl af hx ?_);refine run ?_)
       exact aG
     ·have b2:=fE b1;have b3:(ob !=1)=true:=by simp at b2 ⊢;exact b2
      simp only[ne_eq,b1,yc,or_true,jO];have hx:True:=trivial;refine fo Tryz.func345 ?_;refine run ?_;repeat((first|refine a_.at rfl az rfl ?_|refine a_.at rfl af hx ?_);refine run ?_)
      exact aG
    ·have a2' :=fE a2;have a3:(oa !=2)=true:=by simp;exact a2
     simp only[ne_eq,a2,yc,true_or,jO];have hx:True:=trivial;refine fo Tryz.func345 ?_;refine run ?_;repeat((first|refine a_.at rfl az rfl ?_|refine a_.at rfl af hx ?_);refine run ?_)
     exact aG
  ·have h4' :=fE h4;have h4'' :(op !=4)=true:=by simp;exact h4
   by_cases h5:op=5
   ·subst h5;rw[ah af];simp only[h4,false_and,jP];dsimp only[Ex.op,Ex.v,Ex.n];by_cases a2:oa=2
    ·subst a2;by_cases b1:ob=1
     ·subst b1;have hn:=na rfl;have hv:=vb rfl;show C 345 _ (.bR [it an,it (0 - bv),bo (decide ((gV f an).lo+(0 - bv)>=-2147483648)&&decide ((gV f an).hi+(0 - bv)<=2147483647))]);have hx:=vj (f:=f) (n:=an) af;have hV:aU (gV f an):=yx hf.va _;generalize gV f an=X at*;have x1:=hV.lo;have x2:=hV.hi;have x3:=hV.le;by_cases q:X.lo+(0 - bv)>=-2147483648
      ·have q1:=tB q;rw[q1];refine fo Tryz.func345 ?_;refine run ?_;repeat((first|refine a_.at rfl az rfl ?_|refine a_.at rfl af hx ?_);refine run ?_)
       exact aG
      ·have q1:=fB q;rw[q1];refine fo Tryz.func345 ?_;refine run ?_;repeat((first|refine a_.at rfl az rfl ?_|refine a_.at rfl af hx ?_);refine run ?_)
       exact aG
     ·have b2:=fE b1;have b3:(ob !=1)=true:=by simp at b2 ⊢;exact b2
      simp only[ne_eq,b1,yc,or_true,jO];have hx:True:=trivial;refine fo Tryz.func345 ?_;refine run ?_;repeat((first|refine a_.at rfl az rfl ?_|refine a_.at rfl af hx ?_);refine run ?_)
      exact aG
    ·have a2' :=fE a2;have a3:(oa !=2)=true:=by simp;exact a2
     simp only[ne_eq,a2,yc,true_or,jO];have hx:True:=trivial;refine fo Tryz.func345 ?_;refine run ?_;repeat((first|refine a_.at rfl az rfl ?_|refine a_.at rfl af hx ?_);refine run ?_)
     exact aG
   ·have h5' :=fE h5;have h5'' :(op !=5)=true:=by simp;exact h5
    simp only[ne_eq,h4,h5,yc,and_self,jO];have hx:True:=trivial;refine fo Tryz.func345 ?_;refine run ?_;repeat((first|refine a_.at rfl az rfl ?_|refine a_.at rfl af hx ?_);refine run ?_)
    exact aG
def ze:=@List.map_eq_nil_iff
def Fh{G:Prop}(h:G:=by exact fu.mk (aL (λx=>au.agg [bo false,au.sl 5 x false,dF G,fj 6 aO refs,ints arr,it ew,it may,it parts]) es) rfl):G:=h
def ui{G:Prop}(h:G:=by rw[cZ];omega):G:=h
def RB{G:Prop}(h:G:=by have h:f.v=[]:=ze.1 e;rw[h]at hvl;simp only[km]at hvl;omega):G:=h
def Js{G:Prop}(h:G:=by refine fo Tryz.func350 ?_;refine aN ?_;refine a_.at rfl (by omega) Li ?_;exact aT):G:=h
def xq(es:List au)(h:es≠[])(hl:es.length<=2^32):aj Tryz.prog 179 [.sl 5 es false] fZ (.ref 1000 es.length) ⟨[],[⟨5,true,es⟩]⟩:=by refine eg hm Tryz.func179 (λ_=>false) [true] (λ_=>[]) aB ?_;exact D6
def qO.gne{d:Df}{f:Fa}(h:qO d f)(hd:yG d):f.jh≠[]:=λe=>by have:=h.jh.len;rw[e]at this;have h2:=hd.vars;simp only[km]at this;omega
def Xb{d:Df}{f:Fa}(hd:yG d)(hf:qO d f)(v:Int)(hv:0<=v∧v<d.vars)(a:Av){e:Ex}(hsh:QX e)(c1:C 345 [bg f,cI e] (.bR [it (qd f e).1,it (qd f e).2.1,bo (qd f e).2.2])):C 281 [bQ d,bg f,it v,ai a,cI e] (bg (MC f v a e)):=by
 have hvl:=hf.v;have hvs:=hd.vars;have c2:=set_c hf.jh af (by have:=hd.pn;omega) v af e hsh (qd f e).2.2;have hne:f.v.map ai≠[]:=λe=>RB
 have c3:=xq (f.v.map ai) hne ui;unfold MC;rw[ah (by rw[hf.live];simp)];have hx:=vj (f:=f) (n:=v) af;have es:(f.v.map ai).set v.toNat (ai a)=(f.v.set v.toNat a).map ai:=by rw[jL]
 have hl:=hf.live;generalize TH f.jh v e (qd f e).2.2=G at*;generalize qd f e=S at*;obtain⟨s1,s2,s3⟩:=S;obtain⟨dead,V,jh,refs,arr,ew,may,parts⟩:=f;dsimp only at hl hx es c1 c2 c3 ⊢;subst hl;refine eg hm Tryz.func281 (λ_=>false) [] (λn=>bif Nat.beq n 7 then[.aR 6 1]else[]) aB ?_;refine aN ?_;repeat((refine a_.at rfl hv.1 hx ?_);refine run ?_)
 exact Fh
def setF_c{d:Df}{f:Fa}(hd:yG d)(hf:qO d f)(v:Int)(hv:0<=v∧v<d.vars)(a:Av){k:Nat}{e:Ex}{z:Nat}(he:jY d.vars d.aK.length k e z):C 281 [bQ d,bg f,it v,ai a,cI e] (bg (MC f v a e)):=Xb hd hf v hv a he.sh (KD hf he)
def U4(f:Fa)(op oa an av:Int)(al:List Ex)(ob bn bv:Int)(bl:List Ex):Int×Int×Bool:=
 if op≠4∧op≠5 then(0,0,false)else
 let p:=if op=4∧oa=1 then(Ex.mk ob bn bv bl,Ex.mk oa an av al)else(Ex.mk oa an av al,Ex.mk ob bn bv bl)
 if p.1.op≠2∨p.2.op≠1 then(0,0,false)else
 let c:=if op=5 then 0 - p.2.v else p.2.v
 (p.1.n,c,decide ((gV f p.1.n).lo+c>=-2147483648)&&decide ((gV f p.1.n).hi+c<=2147483647))
def shF_bin(f:Fa){op oa an av:Int}{al:List Ex}{ob bn bv:Int}{bl:List Ex}(h:op≠2):qd f (.mk op 0 0 [.mk oa an av al,.mk ob bn bv bl])=U4 f op oa an av al ob bn bv bl:=by unfold qd;rw[ah (show ¬(Ex.mk op 0 0 [.mk oa an av al,.mk ob bn bv bl]).op=2 from h)];rfl
def Xa{d:Df}{f:Fa}{k:Nat}{e:Ex}{z:Nat}(he:jY d.vars d.aK.length k e z)(h:(qd f e).2.2=true):(0<=(qd f e).1∧(qd f e).1<d.vars)∧-2147483648<=(qd f e).2.1∧(qd f e).2.1<=2147483648:=by cases he with|num _=>simp[qd,Ex.op]at h|var hn=>exact⟨hn,by show(-2147483648:Int)<=0;omega,by show(0:Int)<=2147483648;omega⟩|len _=>simp[qd,Ex.op]at h|bin ho ha hb=>rename_i k op a b x y;have va:=ha.Sw;have vb:=hb.Sw;have na:=ha.HX;have nb:=hb.HX;obtain⟨oa,an,av,al⟩:=a;obtain⟨ob,bn,bv,bl⟩:=b;dsimp only[Ex.op,Ex.v,Ex.n]at va vb na nb;rw[shF_bin f af]at h ⊢;by_cases h4:op=4;subst h4;by_cases a1:oa=1;subst a1;by_cases b2:ob=2;subst b2;have e:U4 f 4 1 an av al 2 bn bv bl=(bn,av,decide ((gV f bn).lo+av>=-2147483648)&&decide ((gV f bn).hi+av<=2147483647)):=rfl;rw[e];have:=va rfl;exact⟨nb rfl,bu,bu⟩;have e:U4 f 4 1 an av al ob bn bv bl=(0,0,false):=(by simp[U4,Ex.op,b2]);rw[e]at h;cases h;by_cases a2:oa=2∧ob=1;obtain⟨rfl,rfl⟩:=a2;have e:U4 f 4 2 an av al 1 bn bv bl=(an,bv,decide ((gV f an).lo+bv>=-2147483648)&&decide ((gV f an).hi+bv<=2147483647)):=rfl;rw[e];have:=vb rfl;exact⟨na rfl,bu,bu⟩;have e:U4 f 4 oa an av al ob bn bv bl=(0,0,false):=(by simp only[U4,a1,and_false,jP,Ex.op];rw[ah ag,aq af]);rw[e]at h;cases h;by_cases h5:op=5;subst h5;by_cases a2:oa=2∧ob=1;obtain⟨rfl,rfl⟩:=a2;have e:U4 f 5 2 an av al 1 bn bv bl=(an,0 - bv,decide ((gV f an).lo+(0 - bv)>=-2147483648)&&decide ((gV f an).hi+(0 - bv)<=2147483647)):=rfl;rw[e];have:=vb rfl;exact⟨na rfl,bu,bu⟩;have e:U4 f 5 oa an av al ob bn bv bl=(0,0,false):=(by simp only[U4,h4,false_and,jP,Ex.op];rw[ah ag,aq af]);rw[e]at h;cases h;have e:U4 f op oa an av al ob bn bv bl=(0,0,false):=(by unfold U4;rw[aq ⟨h4,h5⟩]);rw[e]at h;cases h
theorem Qo{d:Df}{f:Fa}(hd:yG d)(hf:qO d f)(n:Int)(hn:0<=n∧n<d.aK.length)(a:Av)(ha:aU a){k:Nat}{e:Ex}{z:Nat}(he:jY d.vars d.aK.length k e z):C 350 [bQ d,bg f,it n,cI e,ai a] (bo (YC d f n e a)):=by
 have hL:=Gu hd hf n hn;have hS:=KD hf he;have hA:=B5 hd.LM (n:=n);have hpv:=hd.pv;have hpn:=hd.pn;have hv:=hf.v;have x1:=ha.lo;have x2:=ha.hi;have x3:=ha.le;have lo:=SG hd.LM hf.va n;have y1:=lo.lo;have y2:=lo.hi;have y3:=lo.le;have Li:nth (d.aK.map kz) n.toNat=some (.agg [it (gW d n).len,it (gW d n).yE]):=by
  have h:n.toNat<d.aK.length:=af
  rw[bW,fq h];unfold gW;simp[h,kz]
 unfold YC;generalize Gv d f n=LA at*;generalize HL d n=LP at*;generalize Nj d f n=LX at*;by_cases c1:a.lo<0;have b1:=tB c1;rw[aq c1];exact Js;have b1:=fB c1;rw[ah c1];by_cases c2:a.hi<LA.lo;have b2:=tB c2;rw[aq c2];exact Js;have b2:=fB c2;rw[ah c2];obtain⟨L,O,hLO⟩:∃L O,gW d n=⟨L,O⟩:=⟨_,_,rfl⟩;rw[hLO]at hA Li ⊢;dsimp only at hA Li ⊢;by_cases hO:O=0;have b3:=tE hO;rw[aq (.inl hO)];exact Js;have b3:=fE hO;have hx:=vj (f:=f) (n:=O - 1) af;have hvs:=hd.vars;have hb:(qd f e).2.2=true->C 411 [dF f.jh,it (qd f e).1,it (O - 1)] (it (tK f.jh (qd f e).1 (O - 1))):=λh=>ZT hf.jh af af (qd f e).1 (O - 1) (by have:=(Xa he h).1;omega) af;have hrg:(qd f e).2.2=true->-2147483648<=(qd f e).2.1∧(qd f e).2.1<=2147483648:=λh=>(Xa (f:=f) he h).2;have hbi:∀x,p_ (tK f.jh x (O - 1))=true:=λx=>by
  unfold tK;have gd:∀(l:List Int) (n:Nat),(∀y∈l,p_ y=true)->p_ (l.getD n NG)=true:=by intro l n hl;by_cases hn:n<l.length;rw[show l.getD n NG=l[n] by simp[hn]];exact hl _ (cU hn);rw[show l.getD n NG=NG by simp[uR hn]];rfl
  refine gd _ _ ?_;intro y hy;unfold rowOf at hy;by_cases hx:x.toNat<f.jh.length;rw[show f.jh.getD x.toNat []=f.jh[x.toNat] by simp[hx]]at hy;exact(hf.jh.row _ (cU hx)).2 y hy;rw[show f.jh.getD x.toNat []=[] by simp[uR hx]]at hy;cases hy
 generalize gV f (O - 1)=V at*;by_cases hh:V.hi>L;have b4:=tB hh;rw[aq (.inr hh)];refine fo Tryz.func350 ?_;refine aN ?_;refine a_.at rfl af Li ?_;refine run ?_;refine a_.at rfl af hx ?_;exact aT
 ·have b4:=fB hh;rw[ah af];generalize qd f e=S at*;obtain⟨s1,s2,s3⟩:=S;dsimp only at hb hrg hS ⊢;cases s3 with
  |false=>rw[aq rfl];refine fo Tryz.func350 ?_;exact Ak
  |true=>
   rw[ah ag];have hb1:=hb rfl;have hr:=hrg rfl;have hi:=hbi s1;generalize tK f.jh s1 (O - 1)=B at*;by_cases hB:B=NG;have q1:(B !=1099511627776)=false:=(by rw[hB];rfl);have q2:decide (B≠NG)=false:=by simp[hB]
   rw[q2];refine fo Tryz.func350 ?_;exact Ak;have q1:(B !=1099511627776)=true:=(by simp;exact hB);have q2:decide (B≠NG)=true:=by simp[hB]
   have hBr:=((GO B).1 hi).resolve_left hB;rw[q2];refine fo Tryz.func350 ?_;exact Ak
def zby7_{G:Prop}(h:G:=by induction h with|num h=>exact .num h|var h=>exact .var h|len h=>exact .len h|bin h _ _ iha ihb=>exact .bin h iha ihb):G:=h
def jY.up1{vars na:Int}{k:Nat}{e:Ex}{n:Nat}(h:jY vars na k e n):jY vars na (k+1) e n:=zby7_
def lenX_of{d:Df}{f:Fa}{n:Int}(hd:yG d)(h:Nj d f n=true):0<=HL d n∧HL d n<d.vars:=by have ha:=B5 hd.LM (n:=n);have:=hd.pv;have:=hd.vars;unfold Nj at h;unfold HL;split at h;cases h;rename_i h0;rw[ah h0];omega
def KC{d:Df}{f:Fa}(hd:yG d){k:Nat}{e:Ex}{z:Nat}(he:jY d.vars d.aK.length k e z):∃z',jY d.vars d.aK.length (k+1) (jF d f e) z' :=by unfold jF;split;rename_i h;exact⟨1,.var (lenX_of hd h.2)⟩;exact⟨z,jY.up1 he⟩
def W9{d:Df}{f:Fa}(hd:yG d)(hf:qO d f){k:Nat}{e:Ex}{z:Nat}(he:jY d.vars d.aK.length k e z):aj Tryz.prog 424 [cI e,.ptr 1000 0,.ptr 1001 0] ⟨[bQ d,bg f],[]⟩ (.bR [cI (jF d f e),bo (qd f (jF d f e)).2.2]) ⟨[bQ d,bg f],[]⟩:=by
 obtain⟨z',hs⟩:=KC (f:=f) hd he;have cs:=KD hf hs;by_cases h3:e.op=3;have b1:=tE h3;have cl:=Gu hd hf e.n (he.len_n h3);by_cases hX:Nj d f e.n=true;have e1:jF d f e=N5 (HL d e.n):=(by unfold jF;rw[aq ⟨h3,hX⟩]);rw[e1]at cs ⊢;rw[hX]at cl;generalize HL d e.n=p at*;generalize Gv d f e.n=A at*;generalize qd f (N5 p)=S at*;have e2:cI (N5 p)= .agg [it 2,it p,it 0,.sl 4 [] false]:=by unfold cI cE N5;simp[jz,Ex.op,Ex.n,Ex.v,Ex.a]
 rw[e2]at cs ⊢;refine fo Tryz.func424 ?_;exact aW;have e1:jF d f e=e:=(by unfold jF;rw[ah (λh=>hX h.2)]);have hX' :Nj d f e.n=false:=by simpa using hX
 rw[e1]at cs ⊢;rw[hX']at cl;generalize HL d e.n=p at*;generalize Gv d f e.n=A at*;generalize qd f e=S at*;refine fo Tryz.func424 ?_;exact aW;have b1:=fE h3;have e1:jF d f e=e:=by unfold jF;rw[ah (λh=>h3 h.1)]
 rw[e1]at cs ⊢;generalize qd f e=S at*;refine fo Tryz.func424 ?_;exact aW
def KT{l:List Av}{n:Int}(h:n.toNat<l.length):nth (l.map ai) n.toNat=some (ai (l.getD n.toNat zR)):=by rw[bW,fq h];simp[h]
def YU:Nat->List Ad:=λn=>bif Nat.beq n 14 then[.aR 5 1]else[]
theorem cmpF_c{d:Df}{f:Fa}(hd:yG d)(hf:qO d f)(op:Int)(h:Bool){k:Nat}{x y:Ex}{z1 z2:Nat}(hx:jY d.vars d.aK.length k x z1)(hy:jY d.vars d.aK.length k y z2):C 361 [bQ d,bg f,fN (.mk op [x,y] []),bo h] (bg (UQ d f op h x y)):=by
 have hvl:=hf.v;have hvs:=hd.vars;have hpn:=hd.pn;have ex:=BU hd hf hx;have ey:=BU hd hf hy;have cr:=Xq op h (iI d f x) (iI d f y) (nM hd.LM hf.va hx) (nM hd.LM hf.va hy);have sx:=W9 hd hf hx;have sy:=W9 hd hf hy;obtain⟨zx,ox⟩:=KC (f:=f) hd hx;obtain⟨zy,oy⟩:=KC (f:=f) hd hy;have ca:=ZZ hf.jh (hf.gne hd) af af op h (jF d f x) (jF d f y) (qd f (jF d f x)).2.2 (qd f (jF d f y)).2.2 ox.sh oy.sh;have hne:f.v.map ai≠[]:=λe=>RB
 have c3:=xq (f.v.map ai) hne ui;have eC:fN (.mk op [x,y] [])= .agg [it op,.sl 4 [cI x,cI y] false,.sl 3 [] false]:=by unfold fN cC;simp[ua,BX,Co.op,Co.a,Co.c]
 rw[eC];have nx:=hx.HX;have ny:=hy.HX;have hl:=hf.live;unfold UQ;generalize sJ op h (iI d f x) (iI d f y)=R at*;generalize iI d f x=X at*;generalize iI d f y=Y at*;generalize yB f.jh op h (jF d f x) (jF d f y) (qd f (jF d f x)).2.2 (qd f (jF d f y)).2.2=G at*;generalize qd f (jF d f x)=S1 at*;generalize qd f (jF d f y)=S2 at*;generalize jF d f x=E1 at*;generalize jF d f y=E2 at*;clear ox oy hf;obtain⟨dead,V,jh,refs,arr,ew,may,parts⟩:=f;dsimp only at hl hvl hne ca c3 ⊢;subst hl;cases R with
 |none=>
  dsimp only;refine eg hm Tryz.func361 (λ_=>false) [] YU aB ?_;refine aN ?_;repeat((refine a_.at rfl az rfl ?_);refine run ?_;repeat((apply aE;first|exact ex|exact ey|exact cr);refine run ?_))
  exact aG
 |some p=>
  obtain⟨A,B⟩:=p;dsimp only;by_cases px:x.op=2
  ·have bx:=tE px;by_cases py:y.op=2
   ·have bY:=tE py;have hx1:=KT (l:=V) (n:=x.n) (by have:=nx px;omega);have hx0:=(nx px).1;have hy0:=(ny py).1;have hy1:nth ((V.map ai).set x.n.toNat (ai A)) y.n.toNat=some (ai ((V.set x.n.toNat A).getD y.n.toNat zR)):=by rw[<-jL];exact KT (by rw[pO];have:=ny py;omega)
    have hll:(V.map ai).length=((V.map ai).set x.n.toNat (ai A)).length:=(pO ..).symm;have hyl:y.n.toNat<V.length:=by have:=ny py;omega
    have es:((V.map ai).set x.n.toNat (ai A)).set y.n.toNat (ai B)=((V.set x.n.toNat A).set y.n.toNat B).map ai:=(by rw[jL,jL]);rw[aq px,aq py];refine eg hm Tryz.func361 (λ_=>false) [] YU aB ?_;refine aN ?_;repeat((first|refine a_.at rfl az rfl ?_|refine a_.at rfl hx0 hx1 ?_|refine a_.at hll hy0 hy1 ?_);refine run ?_;repeat((apply aE;first|exact ex|exact ey|exact cr|exact sx|exact sy|exact ca|exact c3);refine run ?_))
    exact Fh
   ·have bY:=fE py;have hx1:=KT (l:=V) (n:=x.n) (by have:=nx px;omega);have hx0:=(nx px).1;have es:(V.map ai).set x.n.toNat (ai A)=(V.set x.n.toNat A).map ai:=by rw[jL]
    rw[aq px,ah py];refine eg hm Tryz.func361 (λ_=>false) [] YU aB ?_;refine aN ?_;repeat((first|refine a_.at rfl az rfl ?_|refine a_.at rfl hx0 hx1 ?_);refine run ?_;repeat((apply aE;first|exact ex|exact ey|exact cr|exact sx|exact sy|exact ca|exact c3);refine run ?_))
    exact Fh
  ·have bx:=fE px;by_cases py:y.op=2
   ·have bY:=tE py;have hy0:=(ny py).1;have hy1:=KT (l:=V) (n:=y.n) (by have:=ny py;omega);have es:(V.map ai).set y.n.toNat (ai B)=(V.set y.n.toNat B).map ai:=by rw[jL]
    rw[ah px,aq py];refine eg hm Tryz.func361 (λ_=>false) [] YU aB ?_;refine aN ?_;repeat((first|refine a_.at rfl az rfl ?_|refine a_.at rfl hy0 hy1 ?_);refine run ?_;repeat((apply aE;first|exact ex|exact ey|exact cr|exact sx|exact sy|exact ca|exact c3);refine run ?_))
    exact Fh
   ·have bY:=fE py;have es:V.map ai=V.map ai:=by rfl
    rw[ah px,ah py];refine eg hm Tryz.func361 (λ_=>false) [] YU aB ?_;refine aN ?_;repeat((first|refine a_.at rfl az rfl ?_);refine run ?_;repeat((apply aE;first|exact ex|exact ey|exact cr|exact sx|exact sy|exact ca|exact c3);refine run ?_))
    exact Fh
def EE:=@List.replicate_succ
def Kd:=@List.getElem_zipWith
def Ps{G:Prop}(h:G:=by rw[zf,<-hs,uN]):G:=h
def Po{G:Prop}(h:G:=by rw[Vd _ _ _ (by omega),hz,hml];rfl):G:=h
def Pe{G:Prop}(h:G:=by rw[Vd _ _ _ (by omega),hml,hz]):G:=h
def JJ{G:Prop}(h:G:=by have pM:=aL (λx=>some (Row.mk 5 true x)) es;exact tM hk1):G:=h
def D7{G:Prop}(h:G:=by refine run ?_;exact fu.mk (aL (λx=>au.sl 1 x false) e) rfl):G:=h
def Fg{α:Type}(enc:α->au)(z:au)(l:List α)(k:Nat):List au:=(l.take k).map enc++List.replicate (l.length - k) z
def Jl{α:Type}(enc:α->au)(z:au)(l:List α):List.replicate l.length z=Fg enc z l 0:=by simp[Fg]
def OE{α:Type}(enc:α->au)(z:au)(l:List α):Fg enc z l l.length=l.map enc:=by simp[Fg]
def Vd{α:Type}(enc:α->au)(z:au)(l:List α){k:Nat}(h:k<=l.length):(Fg enc z l k).length=l.length:=by simp[Fg];omega
def Ve{α:Type}(enc:α->au)(z:au)(l:List α){k:Nat}(h:k<l.length):nth (Fg enc z l k) k=some z:=by
 have hl:((l.take k).map enc).length=k:=aA
 rw[aI];unfold Fg;rw[jc Ek,hl,lP,show l.length - k=(l.length - (k+1))+1 by omega,EE];rfl
def OD{α:Type}(enc:α->au)(z:au)(l:List α){k:Nat}(h:k<l.length):(Fg enc z l k).set k (enc l[k])=Fg enc z l (k+1):=by
 unfold Fg;have hl:((l.take k).map enc).length=k:=aA
 rw[A6 _ _ Ek,hl,lP];have e:List.replicate (l.length - k) z=z::List.replicate (l.length - (k+1)) z:=by rw[show l.length - k=(l.length - (k+1))+1 by omega,EE]
 rw[e,AW,jd h,eI];simp
def or3_c(a b:Int)(ha:0<=a∧a<=255)(hb:0<=b∧b<=255):C 483 [it a,it b] (it (iD a b)):=by have h:=or8 ha.1 ha.2 hb.1 hb.2;have h1:=h.1;have h2:=h.2;have oe:=Bq a b;refine fo Tryz.func483 ?_;exact aT
def zip484(a b:List Av)(hl:a.length<=1048576)(hs:a.length=b.length)(ha:∀x∈a,aU x)(hb:∀x∈b,aU x):aj Tryz.prog 484 [fj 5 ai a,fj 5 ai b,.gB (.func 143) [] []] fZ (fj 5 ai (List.zipWith fR a b)) fZ:=by
 have hz:(List.zipWith fR a b).length=a.length:=Ps
 have eZ:=Jl ai (.agg [it 0,it 0,it 0,it 0,it 0]) (List.zipWith fR a b);rw[hz]at eZ;have hml:(a.map ai).length=a.length:=cZ ..;have eZ' :List.replicate (((a.map ai).length:Nat):Int).toNat (.agg [it 0,it 0,it 0,it 0,it 0])=Fg ai (.agg [it 0,it 0,it 0,it 0,it 0]) (List.zipWith fR a b) 0:=by rw[<-eZ,hml];rfl
 refine fo Tryz.func484 ?_;refine run ?_;have pM:=aL (λx=>some (Row.mk 5 true x)) eZ';refine bB.mk ⟨[],aZ.np (a.length) (λ_=>True) (λk=>⟨[(14,it k)],[],[(11,⟨5,true,Fg ai (.agg [it 0,it 0,it 0,it 0,it 0]) (List.zipWith fR a b) k⟩)]⟩) trivial ?_⟩;intro k hk hJ;by_cases hk1:k<a.length
 ·have b1:decide ((k:Int)<((a.map ai).length:Nat))=true:=by exact gw
  have hk2:k<b.length:=hs▸hk1;have hkz:k<(List.zipWith fR a b).length:=by rw[hz];exact hk1
  have c:=K8 a[k] b[k] (ha _ (cU hk1)) (hb _ (cU hk2));have ez:(List.zipWith fR a b)[k]=fR a[k] b[k]:=Kd ..;have es:=OD ai (.agg [it 0,it 0,it 0,it 0,it 0]) (List.zipWith fR a b) hkz;rw[ez]at es;have hat:=Ve ai (.agg [it 0,it 0,it 0,it 0,it 0]) (List.zipWith fR a b) hkz;have hlen:(a.map ai).length=(Fg ai (.agg [it 0,it 0,it 0,it 0,it 0]) (List.zipWith fR a b) k).length:=Pe
  refine(Exists.intro _ rfl:∃R,R=fR a[k] b[k]).elim λR hR=> ?_;rw[<-hR]at c es;refine aN ?_;repeat((first|refine a_.map hk1 rfl ?_|refine a_.map hk2 rfl ?_|refine a_.at hlen af hat ?_|refine a_.at rfl af hat ?_);refine run ?_;repeat((apply aE;exact c);refine run ?_))
  exact JJ
 have b1:decide ((k:Int)<((a.map ai).length:Nat))=false:=aA
 have hkk:k=a.length:=af
 subst hkk;have e:=OE ai (.agg [it 0,it 0,it 0,it 0,it 0]) (List.zipWith fR a b);rw[hz]at e;have hln:(((a.map ai).length:Nat):Int).toNat=(Fg ai (.agg [it 0,it 0,it 0,it 0,it 0]) (List.zipWith fR a b) a.length).length:=Po
 refine run ?_;exact fu.mk (aL (λx=>au.sl 5 x false) e) rfl
def and3{s:Int}(h:1<=s∧s<=3):0<=bz s 2∧bz s 2<=3:=by
 have:s=1∨s=2∨s=3:=af
 rcases this with rfl|rfl|rfl<;>decide
def joinR_c(x y:Rf)(hx:HS x)(hy:HS y):aj Tryz.prog 482 [aO x,aO y,.ptr 1000 0] ⟨[.gB (.func 143) [] []],[]⟩ (aO (l9 x y)) ⟨[.gB (.func 143) [] []],[]⟩:=by have c:=K8 x.a y.a hx.a hy.a;have o:=(ZU hx.s hy.s).1;have o1:=o.1;have o2:=o.2;have oe:=Bq x.s y.s;have ax:=nS x.s 2;have ay:=nS y.s 2;have bx:=and3 hx.s;have bY:=and3 hy.s;have b1:=bx.1;have b2:=bx.2;have b3:=bY.1;have b4:=bY.2;unfold l9;generalize fR x.a y.a=J at*;generalize iD x.s y.s=O at*;generalize bz x.s 2=X at*;generalize bz y.s 2=Y at*;by_cases p:X=0;have q:=tE p;rw[aq p];refine fo Tryz.func482 ?_;exact aW;have q:=fE p;rw[ah p];by_cases p2:Y=0;have q2:(Y !=0)=false:=(by simp[p2]);rw[ah (λh=>h p2)];refine fo Tryz.func482 ?_;exact aW;have q2:(Y !=0)=true:=(by simp[p2]);rw[aq p2];refine fo Tryz.func482 ?_;exact aW
def zip485(a b:List Rf)(hl:a.length<=1048576)(hs:a.length=b.length)(ha:∀x∈a,HS x)(hb:∀x∈b,HS x):aj Tryz.prog 485 [fj 6 aO a,fj 6 aO b,.gB (.func 482) [] [.ptr 1000 0]] ⟨[.gB (.func 143) [] []],[]⟩ (fj 6 aO (List.zipWith l9 a b)) ⟨[.gB (.func 143) [] []],[]⟩:=by
 have hz:(List.zipWith l9 a b).length=a.length:=Ps
 have eZ:=Jl aO (.agg [it 0,it 0,it 0,it 0,it 0,it 0]) (List.zipWith l9 a b);rw[hz]at eZ;have hml:(a.map aO).length=a.length:=cZ ..;have eZ' :List.replicate (((a.map aO).length:Nat):Int).toNat (.agg [it 0,it 0,it 0,it 0,it 0,it 0])=Fg aO (.agg [it 0,it 0,it 0,it 0,it 0,it 0]) (List.zipWith l9 a b) 0:=by rw[<-eZ,hml];rfl
 refine fo Tryz.func485 ?_;refine run ?_;have pM:=aL (λx=>some (Row.mk 6 true x)) eZ';refine bB.mk ⟨[],aZ.np (a.length) (λ_=>True) (λk=>⟨[(14,it k)],[],[(11,⟨6,true,Fg aO (.agg [it 0,it 0,it 0,it 0,it 0,it 0]) (List.zipWith l9 a b) k⟩)]⟩) trivial ?_⟩;intro k hk hJ;by_cases hk1:k<a.length
 ·have b1:decide ((k:Int)<((a.map aO).length:Nat))=true:=by exact gw
  have hk2:k<b.length:=hs▸hk1;have hkz:k<(List.zipWith l9 a b).length:=by rw[hz];exact hk1
  have c:=joinR_c a[k] b[k] (ha _ (cU hk1)) (hb _ (cU hk2));have ez:(List.zipWith l9 a b)[k]=l9 a[k] b[k]:=Kd ..;have es:=OD aO (.agg [it 0,it 0,it 0,it 0,it 0,it 0]) (List.zipWith l9 a b) hkz;rw[ez]at es;have hat:=Ve aO (.agg [it 0,it 0,it 0,it 0,it 0,it 0]) (List.zipWith l9 a b) hkz;have hlen:(a.map aO).length=(Fg aO (.agg [it 0,it 0,it 0,it 0,it 0,it 0]) (List.zipWith l9 a b) k).length:=Pe
  refine(Exists.intro _ rfl:∃R,R=l9 a[k] b[k]).elim λR hR=> ?_;rw[<-hR]at c es;refine aN ?_;repeat((first|refine a_.map hk1 rfl ?_|refine a_.map hk2 rfl ?_|refine a_.at hlen af hat ?_|refine a_.at rfl af hat ?_);refine run ?_;repeat((apply aE;exact c);refine run ?_))
  have pM:=aL (λx=>some (Row.mk 6 true x)) es;exact tM hk1
 have b1:decide ((k:Int)<((a.map aO).length:Nat))=false:=aA
 have hkk:k=a.length:=af
 subst hkk;have e:=OE aO (.agg [it 0,it 0,it 0,it 0,it 0,it 0]) (List.zipWith l9 a b);rw[hz]at e;have hln:(((a.map aO).length:Nat):Int).toNat=(Fg aO (.agg [it 0,it 0,it 0,it 0,it 0,it 0]) (List.zipWith l9 a b) a.length).length:=Po
 refine run ?_;exact fu.mk (aL (λx=>au.sl 6 x false) e) rfl
def zip486(a b:List Int)(hl:a.length<=1048576)(hs:a.length=b.length)(f:Int->Int->Int)(hf:∀x y,(0<=x∧x<=255)->(0<=y∧y<=255)->C 483 [it x,it y] (it (f x y)))(ha:∀x∈a,0<=x∧x<=255)(hb:∀x∈b,0<=x∧x<=255):aj Tryz.prog 486 [fj 1 it a,fj 1 it b,.gB (.func 483) [] []] fZ (fj 1 it (List.zipWith f a b)) fZ:=by
 have hz:(List.zipWith f a b).length=a.length:=Ps
 have eZ:=Jl it (it 0) (List.zipWith f a b);rw[hz]at eZ;have hml:(a.map it).length=a.length:=cZ ..;have eZ' :List.replicate (((a.map it).length:Nat):Int).toNat (it 0)=Fg it (it 0) (List.zipWith f a b) 0:=by rw[<-eZ,hml];rfl
 refine fo Tryz.func486 ?_;refine run ?_;have pM:=aL (λx=>some (Row.mk 1 true x)) eZ';refine bB.mk ⟨[],aZ.np (a.length) (λ_=>True) (λk=>⟨[(14,it k)],[],[(11,⟨1,true,Fg it (it 0) (List.zipWith f a b) k⟩)]⟩) trivial ?_⟩;intro k hk hJ;by_cases hk1:k<a.length
 ·have b1:decide ((k:Int)<((a.map it).length:Nat))=true:=by exact gw
  have hk2:k<b.length:=hs▸hk1;have hkz:k<(List.zipWith f a b).length:=by rw[hz];exact hk1
  have c:=hf a[k] b[k] (ha _ (cU hk1)) (hb _ (cU hk2));have ez:(List.zipWith f a b)[k]=f a[k] b[k]:=Kd ..;have es:=OD it (it 0) (List.zipWith f a b) hkz;rw[ez]at es;have hat:=Ve it (it 0) (List.zipWith f a b) hkz;have hlen:(a.map it).length=(Fg it (it 0) (List.zipWith f a b) k).length:=Pe
  refine(Exists.intro _ rfl:∃R,R=f a[k] b[k]).elim λR hR=> ?_;rw[<-hR]at c es;refine aN ?_;repeat((first|refine a_.map hk1 rfl ?_|refine a_.map hk2 rfl ?_|refine a_.at hlen af hat ?_|refine a_.at rfl af hat ?_);refine run ?_;repeat((apply aE;exact c);refine run ?_))
  have pM:=aL (λx=>some (Row.mk 1 true x)) es;exact tM hk1
 have b1:decide ((k:Int)<((a.map it).length:Nat))=false:=aA
 have hkk:k=a.length:=af
 subst hkk;have e:=OE it (it 0) (List.zipWith f a b);rw[hz]at e;have hln:(((a.map it).length:Nat):Int).toNat=(Fg it (it 0) (List.zipWith f a b) a.length).length:=Po
 exact D7
def M_{d:Df}{a b:Fa}(hd:yG d)(ha:qO d a)(hb:qO d b):C 458 [bg a,bg b,.gB (.func 143) [] [],.gB (.func 177) [] []] (bg (wU a b)):=by have hvs:=hd.vars;have hrs:=hd.refs;have han:=hd.an;have hpn:=hd.pn;have av:=ha.v;have bv:=hb.v;have ar:=ha.refs;have br:=hb.refs;have aa:=ha.arr;have ba:=hb.arr;have cv:=zip484 a.v b.v af af ha.va hb.va;have cr:=zip485 a.refs b.refs af af ha.ra hb.ra;have ci:=zip486 a.arr b.arr af af iD or3_c ha.aa hb.aa;have cg:=NM a.jh b.jh (by rw[ha.jh.len];omega) (GW ha.jh af) (by rw[ha.jh.len,hb.jh.len]) (λv h1 h2=>by rw[(ha.jh.row _ (cU h1)).1,(hb.jh.row _ (cU h2)).1]) (ha.gne hd);have m1:=and8 (a:=a.ew) hb.ew.1 hb.ew.2;have m2:=or8 ha.may.1 ha.may.2 hb.may.1 hb.may.2;have m3:=iP (a:=a.parts) (b:=b.parts) (n:=16) af hb.parts.1 (by have:=hb.parts.2;omega);have m1a:=m1.1;have m1b:=m1.2;have m2a:=m2.1;have m2b:=m2.2;have m3a:=m3.1;have m3b:=m3.2;have q1:=nS a.ew b.ew;have q2:=Bq a.may b.may;have q3:=nS a.parts b.parts;have la:=ha.live;have lb:=hb.live;unfold wU;rw[ah (by rw[la];simp),ah (by rw[lb];simp)];generalize List.zipWith fR a.v b.v=V at*;generalize pF a.jh b.jh=G at*;generalize List.zipWith l9 a.refs b.refs=R at*;generalize List.zipWith iD a.arr b.arr=I at*;generalize bz a.ew b.ew=M1 at*;generalize iD a.may b.may=M2 at*;generalize bz a.parts b.parts=M3 at*;clear ha hb;obtain⟨dead,v1,g1,r1,a1,u1,y1,p1⟩:=a;obtain⟨dead2,v2,g2,r2,a2,u2,y2,p2⟩:=b;dsimp only at la lb cv cr ci cg q1 q2 q3 ⊢;subst la lb;refine fo Tryz.func458 ?_;exact aW
def Ua(b:Fa):C 458 [bg gU,bg b,.gB (.func 143) [] [],.gB (.func 177) [] []] (bg b):=by refine fo Tryz.func458 ?_;exact aT
def T'(a:Fa)(ha:a.dead=false):C 458 [bg a,bg gU,.gB (.func 143) [] [],.gB (.func 177) [] []] (bg a):=by obtain⟨dead,v1,g1,r1,a1,u1,y1,p1⟩:=a;dsimp only at ha;subst ha;refine fo Tryz.func458 ?_;exact aT
def joinF_c{d:Df}{a b:Fa}(hd:yG d)(ha:se d a)(hb:se d b):C 415 [bg a,bg b] (bg (wU a b)):=by
 have c:C 458 [bg a,bg b,.gB (.func 143) [] [],.gB (.func 177) [] []] (bg (wU a b)):=by rcases ha with rfl|ha;exact Ua b;rcases hb with rfl|hb;have e:wU a gU=a:=(by unfold wU;rw[ah (by rw[ha.live];simp)];exact aq rfl);rw[e];exact T' a ha.live;exact M_ hd ha hb
 generalize wU a b=J at*;refine fo Tryz.func415 ?_;exact aW
def Jp{G:Prop}(h:G:=by refine eg hm Tryz.func417 (λ_=>false) [] himm2 (by exact aB) ?_;exact aT):G:=h
def Va(d:Df):au:= .gB (.func 414) [] [.l_ (bQ d) 0]
def D2(d:Df):au:= .gB (.func 416) [] [.l_ (bQ d) 0]
def aNot(d:Df):au:= .gB (.func 421) [] [.l_ (bQ d) 0]
def aYes:au:= .gB (.func 419) [] []
def aNo:au:= .gB (.func 420) [] []
def aBy(x y:au):au:= .gB (.func 418) [] [.l_ x 0,.l_ y 0]
def himmA(t:Nat)(n:Nat):List Ad:=bif Nat.beq n (30000+t)then[.lay 0]else[]
def himm2(n:Nat):List Ad:=bif Nat.beq n 30002 then[.lay 0]else bif Nat.beq n 30003 then[.lay 0]else[]
def by_yn:C 417 [aYes,aNo] (aBy aYes aNo):=Jp
def by_ao(d:Df):C 417 [D2 d,Va d] (aBy (D2 d) (Va d)):=Jp
def by_oa(d:Df):C 417 [Va d,D2 d] (aBy (Va d) (D2 d)):=Jp
def aMap(d:Df):Row:=⟨0,true,[.me (it 1) (aBy aYes aNo),.me (it 5) (aNot d),.me (it 6) (aBy (D2 d) (Va d)),.me (it 7) (aBy (Va d) (D2 d))]⟩
def SC(d:Df):aj Tryz.prog 360 [bQ d] fZ (.dR 1000) ⟨[],[aMap d]⟩:=by
 have c1:=by_yn;have c2:=by_ao d;have c3:=by_oa d;refine eg hm Tryz.func360 (λ_=>false) [true] (himmA 1) aB ?_;refine aN ?_;repeat((refine nY.mk ⟨none,rfl,?_⟩);refine run ?_;repeat((apply aE;first|exact c1|exact c2|exact c3);refine run ?_))
 exact aG
def LW(op:Int)(a:List au)(c:List au):au:= .agg [it op,.sl 4 a false,.sl 3 c false]
def not_a(d:Df)(f A:Fa)(op:Int)(x:Co)(h:Bool)(c1:C 290 [bQ d,bg f,fN x,bo (!h)] (bg A)):C 421 [bg f,LW op [] [fN x],bo h,.l_ (bQ d) 0] (bg A):=by
 refine fo Tryz.func421 ?_;refine aN ?_;repeat((refine a_.at rfl az rfl ?_);refine run ?_;repeat((apply aE;first|exact c1);refine run ?_))
 exact aG
def and_a(d:Df)(f A B:Fa)(op:Int)(x y:Co)(h:Bool)(c1:C 290 [bQ d,bg f,fN x,bo h] (bg A))(c2:C 290 [bQ d,bg A,fN y,bo h] (bg B)):C 416 [bg f,LW op [] [fN x,fN y],bo h,.l_ (bQ d) 0] (bg B):=by
 refine fo Tryz.func416 ?_;refine aN ?_;repeat((refine a_.at rfl az rfl ?_);refine run ?_;repeat((apply aE;first|exact c1|exact c2);refine run ?_))
 exact aG
def or_a(d:Df)(f A F1 B J:Fa)(op:Int)(x y:Co)(h:Bool)(c1:C 290 [bQ d,bg f,fN x,bo h] (bg A))(c2:C 290 [bQ d,bg f,fN x,bo (!h)] (bg F1))(c3:C 290 [bQ d,bg F1,fN y,bo h] (bg B))(c4:C 415 [bg A,bg B] (bg J)):C 414 [bg f,LW op [] [fN x,fN y],bo h,.l_ (bQ d) 0] (bg J):=by
 refine fo Tryz.func414 ?_;refine aN ?_;repeat((refine a_.at rfl az rfl ?_);refine run ?_;repeat((apply aE;first|exact c1|exact c2|exact c3|exact c4);refine run ?_))
 exact aG
def D4{G:Prop}(h:G:=by refine fo Tryz.func418 ?_;exact aW):G:=h
def by_a1(d:Df)(f A:Fa)(op:Int)(x y:Co)(c:C 416 [bg f,LW op [] [fN x,fN y],bo true,.l_ (bQ d) 0] (bg A)):C 418 [bg f,LW op [] [fN x,fN y],bo true,.l_ (D2 d) 0,.l_ (Va d) 0] (bg A):=D4
def by_a2(d:Df)(f A:Fa)(op:Int)(x y:Co)(c:C 414 [bg f,LW op [] [fN x,fN y],bo false,.l_ (bQ d) 0] (bg A)):C 418 [bg f,LW op [] [fN x,fN y],bo false,.l_ (D2 d) 0,.l_ (Va d) 0] (bg A):=D4
def by_o1(d:Df)(f A:Fa)(op:Int)(x y:Co)(c:C 414 [bg f,LW op [] [fN x,fN y],bo true,.l_ (bQ d) 0] (bg A)):C 418 [bg f,LW op [] [fN x,fN y],bo true,.l_ (Va d) 0,.l_ (D2 d) 0] (bg A):=D4
def by_o2(d:Df)(f A:Fa)(op:Int)(x y:Co)(c:C 416 [bg f,LW op [] [fN x,fN y],bo false,.l_ (bQ d) 0] (bg A)):C 418 [bg f,LW op [] [fN x,fN y],bo false,.l_ (Va d) 0,.l_ (D2 d) 0] (bg A):=D4
def find_no(d:Df){op:Int}(h:2<=op∧op<=4):tV .i64 op (aMap d).es 0=some none:=by
 have:op=2∨op=3∨op=4:=af
 rcases this with rfl|rfl|rfl<;>rfl
def Hh(d:Df)(c:Co)(h:Bool):C 290 [bQ d,bg gU,fN c,bo h] (bg gU):=by refine fo Tryz.func290 ?_;exact aT
def ass_t(d:Df)(f G:Fa)(hl:f.dead=false)(op:Int)(ho:2<=op∧op<=4)(x y:Ex)(h:Bool)(c:C 361 [bQ d,bg f,fN (.mk op [x,y] []),bo h] (bg G)):C 290 [bQ d,bg f,fN (.mk op [x,y] []),bo h] (bg G):=by have cm:=SC d;have hn:=find_no d ho;obtain⟨dead,v1,g1,r1,a1,u1,y1,p1⟩:=f;dsimp only at hl;subst hl;refine fo Tryz.func290 ?_;refine aN ?_;refine nY.mk ⟨none,hn,?_⟩;exact aW
def ass_n(d:Df)(f G:Fa)(hl:f.dead=false)(x:Co)(h:Bool)(c:C 421 [bg f,LW 5 [] [fN x],bo h,.l_ (bQ d) 0] (bg G)):C 290 [bQ d,bg f,LW 5 [] [fN x],bo h] (bg G):=by have cm:=SC d;obtain⟨dead,v1,g1,r1,a1,u1,y1,p1⟩:=f;dsimp only at hl;subst hl;refine fo Tryz.func290 ?_;refine aN ?_;refine nY.mk ⟨some 1,rfl,?_⟩;refine aN ?_;exact oS
def ass_6(d:Df)(f G:Fa)(hl:f.dead=false)(x y:Co)(h:Bool)(c:C 418 [bg f,LW 6 [] [fN x,fN y],bo h,.l_ (D2 d) 0,.l_ (Va d) 0] (bg G)):C 290 [bQ d,bg f,LW 6 [] [fN x,fN y],bo h] (bg G):=by have cm:=SC d;obtain⟨dead,v1,g1,r1,a1,u1,y1,p1⟩:=f;dsimp only at hl;subst hl;refine fo Tryz.func290 ?_;refine aN ?_;refine nY.mk ⟨some 2,rfl,?_⟩;refine aN ?_;exact oS
def ass_7(d:Df)(f G:Fa)(hl:f.dead=false)(x y:Co)(h:Bool)(c:C 418 [bg f,LW 7 [] [fN x,fN y],bo h,.l_ (Va d) 0,.l_ (D2 d) 0] (bg G)):C 290 [bQ d,bg f,LW 7 [] [fN x,fN y],bo h] (bg G):=by have cm:=SC d;obtain⟨dead,v1,g1,r1,a1,u1,y1,p1⟩:=f;dsimp only at hl;subst hl;refine fo Tryz.func290 ?_;refine aN ?_;refine nY.mk ⟨some 3,rfl,?_⟩;refine aN ?_;exact oS
def S4(op:Int)(c:List Co):fN (.mk op [] c)=LW op [] (c.map fN):=by rw[show fN (.mk op [] c)= .agg [it op,.sl 4 (jz []) false,.sl 3 (BX c) false] from rfl,I6];rfl
theorem C6{d:Df}(hd:yG d){k:Nat}{c:Co}{z:Nat}(hc:Ff d.vars d.aK.length k c z):∀{f:Fa} (_:se d f) (h:Bool),C 290 [bQ d,bg f,fN c,bo h] (bg (dW d c f h)):=by
 induction hc with
 |test ho hx hy=>intro f hf h;rcases hf with rfl|hf;rw[lM];exact Hh d _ h;rw[B4 d hf.live ho.1];exact ass_t d f _ hf.live _ ho _ _ h (cmpF_c hd hf _ h hx hy)
 |not hx ih=>intro f hf h;rcases hf with rfl|hf;rw[lM];exact Hh d _ h;rw[DN d hf.live,S4];exact ass_n d f _ hf.live _ h (not_a d f _ 5 _ h (ih (.inr hf) (!h)))
 | @and k op a b x y ho hx hy iha ihb=>
   intro f hf h
   rcases hf with rfl|hf
   ·rw[lM];exact Hh d _ h
   ·rw[DO d hf.live ho.1,S4]
    have hA:=oN hd.LM hx (.inr hf) h
    have hB:=oN hd.LM hx (.inr hf) (!h)
    have hC:=oN hd.LM hy hB h
    have cAnd:=and_a d f _ _ op a b h (iha (.inr hf) h) (ihb hA h)
    have cOr:=or_a d f _ _ _ _ op a b h (iha (.inr hf) h) (iha (.inr hf) (!h)) (ihb hB h) (joinF_c hd hA hC)
    have o67:op=6∨op=7:=af
    rcases o67 with rfl|rfl
    ·cases h with
     |true=>rw[aq az];exact ass_6 d f _ hf.live a b true (by_a1 d f _ 6 a b cAnd)
     |false=>rw[ah az];exact ass_6 d f _ hf.live a b false (by_a2 d f _ 6 a b cOr)
    ·cases h with
     |true=>rw[ah az];exact ass_7 d f _ hf.live a b true (by_o1 d f _ 7 a b cOr)
     |false=>rw[aq az];exact ass_7 d f _ hf.live a b false (by_o2 d f _ 7 a b cAnd)
end Abs
