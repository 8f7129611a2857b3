/- A part of a proof: an abstract machine, proved sound, or contracts of functions. No condition. -/
import Derived.LoopN
import Derived.Deep.RegionLaw
import Init
import Derived.KernelRfl
import Derived.Test.YtakobiabkfeelaaGreatProg
import Derived.Test.YtakobiabkfeelaaGreatTrysMul
import Derived.Test.YtakobiabkfeelaaGreatT4
set_option linter.unusedVariables false
set_option linter.unusedSimpArgs false
set_option linter.defProp false
set_option maxRecDepth 100000
set_option maxHeartbeats 4000000
namespace Abs
open Go Go.Proofs Go.Shelf Go.RowKit Go.Lib Tryz
variable{G:Prop}
def uZ:=@List.range_succ
def A_(h:G:=by show(w.heap.push _).size=_;simp):=h
def VW(h:G:=by show _<(w.heap.push _).size;simp):=h
def kT(h:G:=by simp[Act.eval,Act.put]):=h
def po(h:G:=by simp[dA,hs]):=h
def Lt(h:G:=by simp[leaf]):=h
def Zl(h:G:=by have:j=0:=(by have:=(rK.1 hj).1;simp at this;omega);subst this;simp at hj;subst hj;rw[dO];exact(fJ (w:=w) (bN w _ vb hv)).trans hx):=h
def EK(h:G:=by rw[hW1];exact dt _ _ _ hlt):=h
def aA(h:G:=by kernel_rfl):=h
def zs(n:Nat):Array Value:=(List.replicate n (Value.int .i64 0)).toArray
def mkN(n:Nat)(hn:n<=2)(w:World):(Instr.makeSlice 36 (.int .i64 n) (.int .i64 n)).run prog w= .ok (.slice (some ⟨w.heap.size,0,none⟩) n n) (w.alloc (.cells (zs n) 3)):=by
 obtain⟨i0,hi0,hz0,hzs,hzb⟩:=info_parts (P:=prog) (e:=3) (z:= .int .i64 0) (size:=1) (bytes:=8) aA;have h:n=0∨n=1∨n=2:=E
 unfold zs;rcases h with rfl|rfl|rfl<;>simp[Instr.makeSlice,run_underlying underlying36,asInt,asIntOf,typeInfo,hi0,hzb,askRoom,roomBytes,sizeOf3,zeroValue3,newRow,IntKind.wrap,IntKind.bits,IntKind.signed,Value.cells]<;>(congr 2;apply nI;simp[uZ])
def atv(vb vo vc:Nat)(x:Int)(w:World)(hx:w.cell? ⟨vb,vo,none⟩=some (.int .i64 x)):Calls prog 176 #[.slice (some ⟨vb,vo,none⟩) (1:Nat) vc,.int .i64 2] w λe w' =>e= .returned (.slice (some ⟨w.heap.size,0,none⟩) 2 2)∧Frame w w' (λ_=>False)∧w'.heap.size=w.heap.size+1∧w'.heap[w.heap.size]? =some (.cells #[.int .i64 x,.int .i64 x] 3 (0,0)):=by
 have hsz:(prog.info? 3).map (·.size)=some 1:=aA
 have hv:=mM hx;obtain⟨ah,hZ⟩:∃ah,ah=zs 2:=⟨_,rfl⟩;have h0:∀w,(Instr.makeSlice 36 (.int .i64 2) (.int .i64 2)).run prog w= .ok (.slice (some ⟨w.heap.size,0,none⟩) 2 2) (w.alloc (.cells ah 3)):=λw=>by rw[hZ];exact mkN 2 aw w
 have hN:(w.alloc (.cells ah 3)).heap[w.heap.size]? =some (.cells ah 3 (0,0)):=dd w _;obtain⟨Z1,hZ1⟩:∃Z1:Array Value,Z1=(aI ah.toList 0 [.int .i64 x]).toArray:=⟨_,rfl⟩;have hc1:=λty=>gn (P:=prog) (w.alloc (.cells ah 3)) 36 36 ty 3 1 w.heap.size 0 2 2 ⟨vb,vo,none⟩ 1 vc 1 [.int .i64 x] underlying36 hsz rfl rfl (λj v hj=>Zl) hN (λo _=>O) (by rw[hZ];simp[zs]) Lt;rw[<-hZ1]at hc1;obtain⟨W1,hW1⟩:∃W1,W1=dA (w.alloc (.cells ah 3)) w.heap.size (.cells Z1 3):=⟨_,rfl⟩;have hlt:w.heap.size<(w.alloc (.cells ah 3)).heap.size:=VW
 have hN1:W1.heap[w.heap.size]? =some (.cells Z1 3 (0,0)):=EK
 have hx1:Z1[0]? =some (.int .i64 x):=by rw[hZ1,hZ];rfl
 obtain⟨Z2,hZ2⟩:∃Z2:Array Value,Z2=(aI Z1.toList 1 [.int .i64 x]).toArray:=⟨_,rfl⟩;have hc2:∀W:World,W.heap=W1.heap->∀ty dc sc,_:=λW hW ty dc sc=>gn (P:=prog) W 36 36 ty 3 1 w.heap.size 1 1 dc ⟨w.heap.size,0,none⟩ 1 sc 1 [.int .i64 x] underlying36 hsz rfl rfl (λj v hj=>by have:j=0:=(by have:=(rK.1 hj).1;simp at this;omega);subst this;simp at hj;subst hj;rw[dO];exact(ep (w:=W) (by rw[hW];exact hN1)).trans hx1) (by rw[hW];exact hN1) (λo _=>O) (by rw[hZ1,hZ];simp[aV,zs]) Lt;rw[<-hZ2]at hc2;have hfin:∀W:World,W.heap=W1.heap->W.os=w.os->W.tape=w.tape->W.output=w.output->Frame w (dA W w.heap.size (.cells Z2 3)) (λ_=>False)∧(dA W w.heap.size (.cells Z2 3)).heap.size=w.heap.size+1∧(dA W w.heap.size (.cells Z2 3)).heap[w.heap.size]? =some (.cells #[.int .i64 x,.int .i64 x] 3 (0,0)):=λW e1 e2 e3 e4=>by
  have hs:W.heap.size=w.heap.size+1:=by rw[e1,hW1];show(Array.setIfInBounds (w.heap.push _) _ _).size=_;simp
  refine⟨⟨e2,e3,e4,po,λk hk _=> ?_⟩,po,?_⟩;rw[dL _ _ _ _ E,e1,hW1,dL _ _ _ _ E];exact bN w _ k hk;rw[dt _ _ _ E,hZ2,hZ1,hZ];rfl
 have hfB:=hc2 (dA (w.alloc (.cells ah 3)) w.heap.size (.cells Z1 3)).drew (by rw[hW1];rfl);have WO:=hfin (dA (w.alloc (.cells ah 3)) w.heap.size (.cells Z1 3)).drew (by rw[hW1];rfl) rfl rfl rfl;clear hZ hZ1 hZ2 hc2 hfin hW1 hN1
 go_enter func176,ntmps176
 go_wp2_with (fail)
 refine(bits_Mul 1 2 aw aw _).mono ?_
 rintro e w1 ⟨rfl,rfl⟩
 dsimp only
 go_wp2_with (at_builtin;refine lQ _ rfl _ _ 36 36 rfl _ _ rfl rfl (hc1 _) ?_)
 refine wp_loop_rounds 2 ?_;rw[Code.rounds]
 go_wp2
 go_region_law (refine oJ rfl _ _ 36 36 rfl (.slice (some ⟨w1.heap.size,1,none⟩) 1 1) (.slice (some ⟨w1.heap.size,0,none⟩) 1 2) kT kT (hfB 3 1 2) ?_)
 go_wp2
 rw[Code.rounds]
 go_wp2
 go_ret
 exact⟨rfl,WO⟩
def atw(vb vo vc:Nat)(x:Int)(w:World)(hx:w.cell? ⟨vb,vo,none⟩=some (.int .i64 x)):Calls prog 176 #[.slice (some ⟨vb,vo,none⟩) (1:Nat) vc,.int .i64 1] w λe w' =>e= .returned (.slice (some ⟨w.heap.size,0,none⟩) 1 1)∧Frame w w' (λ_=>False)∧w'.heap.size=w.heap.size+1∧w'.heap[w.heap.size]? =some (.cells #[.int .i64 x] 3 (0,0)):=by
 have hsz:(prog.info? 3).map (·.size)=some 1:=aA
 have hv:=mM hx;obtain⟨ah,hZ⟩:∃ah,ah=zs 1:=⟨_,rfl⟩;have h0:∀w,(Instr.makeSlice 36 (.int .i64 1) (.int .i64 1)).run prog w= .ok (.slice (some ⟨w.heap.size,0,none⟩) 1 1) (w.alloc (.cells ah 3)):=λw=>by rw[hZ];exact mkN 1 aw w
 have hN:(w.alloc (.cells ah 3)).heap[w.heap.size]? =some (.cells ah 3 (0,0)):=dd w _;obtain⟨Z1,hZ1⟩:∃Z1:Array Value,Z1=(aI ah.toList 0 [.int .i64 x]).toArray:=⟨_,rfl⟩;have hc1:=λty=>gn (P:=prog) (w.alloc (.cells ah 3)) 36 36 ty 3 1 w.heap.size 0 1 1 ⟨vb,vo,none⟩ 1 vc 1 [.int .i64 x] underlying36 hsz rfl rfl (λj v hj=>Zl) hN (λo _=>O) (by rw[hZ];simp[zs]) Lt;rw[<-hZ1]at hc1;have hlt:w.heap.size<(w.alloc (.cells ah 3)).heap.size:=VW
 have WO:Frame w (dA (w.alloc (.cells ah 3)) w.heap.size (.cells Z1 3)) (λ_=>False)∧(dA (w.alloc (.cells ah 3)) w.heap.size (.cells Z1 3)).heap.size=w.heap.size+1∧(dA (w.alloc (.cells ah 3)) w.heap.size (.cells Z1 3)).heap[w.heap.size]? =some (.cells #[.int .i64 x] 3 (0,0)):=by
  have hs:(w.alloc (.cells ah 3)).heap.size=w.heap.size+1:=A_
  refine⟨⟨rfl,rfl,rfl,po,λk hk _=> ?_⟩,po,?_⟩;rw[dL _ _ _ _ E];exact bN w _ k hk;rw[dt _ _ _ E,hZ1,hZ];rfl
 clear hZ hZ1
 go_enter func176,ntmps176
 go_wp2_with (fail)
 refine(bits_Mul 1 1 aw aw _).mono ?_
 rintro e w1 ⟨rfl,rfl⟩
 dsimp only
 go_wp2_with (at_builtin;refine lQ _ rfl _ _ 36 36 rfl _ _ rfl rfl (hc1 _) ?_)
 refine wp_loop_rounds 1 ?_;rw[Code.rounds]
 go_wp2
 go_ret
 exact⟨rfl,WO⟩
def atx(vb vo vc:Nat)(x:Int)(w:World)(hx:w.cell? ⟨vb,vo,none⟩=some (.int .i64 x)):Calls prog 176 #[.slice (some ⟨vb,vo,none⟩) (1:Nat) vc,.int .i64 0] w λe w' =>e= .returned (.slice (some ⟨w.heap.size,0,none⟩) 0 0)∧Frame w w' (λ_=>False)∧w'.heap.size=w.heap.size+1∧w'.heap[w.heap.size]? =some (.cells #[] 3 (0,0)):=by
 obtain⟨ah,hZ⟩:∃ah,ah=zs 0:=⟨_,rfl⟩;have h0:∀w,(Instr.makeSlice 36 (.int .i64 0) (.int .i64 0)).run prog w= .ok (.slice (some ⟨w.heap.size,0,none⟩) 0 0) (w.alloc (.cells ah 3)):=λw=>by rw[hZ];exact mkN 0 aw w
 have hc1:=λty=>run_copy_none (P:=prog) (w.alloc (.cells ah 3)) 36 36 ty 3 (some ⟨w.heap.size,0,none⟩) (some ⟨vb,vo,none⟩) 0 0 1 vc underlying36 aA rfl;have WO:Frame w (w.alloc (.cells ah 3)) (λ_=>False)∧(w.alloc (.cells ah 3)).heap.size=w.heap.size+1∧(w.alloc (.cells ah 3)).heap[w.heap.size]? =some (.cells #[] 3 (0,0)):=by
  have hs:(w.alloc (.cells ah 3)).heap.size=w.heap.size+1:=A_
  exact⟨⟨rfl,rfl,rfl,E,λk hk _=>bN w _ k hk⟩,hs,by rw[hZ];exact dd w _⟩
 clear hZ
 go_enter func176,ntmps176
 go_wp2_with (fail)
 refine(bits_Mul 1 0 aw aw _).mono ?_
 rintro e w1 ⟨rfl,rfl⟩
 dsimp only
 go_wp2_with (at_builtin;refine lQ _ rfl _ _ 36 36 rfl _ _ rfl rfl (hc1 _) ?_)
 refine wp_loop_rounds 1 ?_;rw[Code.rounds]
 go_wp2
 go_ret
 exact⟨rfl,WO⟩
end Abs
namespace Abs
variable{G:Prop}
def fi:=@Int.tmod_lt_of_pos
def ft:=@Int.natCast_nonneg
def dz:=@Int.tmod_nonneg
def tJ:=@Int.eq_ofNat_of_zero_le
def oE:=@Int.mul_nonneg
def zr:=@Nat.pow_le_pow_right
def Gi:=@Int.tmod_eq_emod_of_nonneg
def MH:=@Int.mul_le_mul_of_nonneg_left
def CN:=@BitVec.ofInt_natCast
def Bp:=@Int.mul_ediv_add_emod
def pt:=@Int.le_refl
def yj:=@Int.ediv_nonneg
def Fv:=@BitVec.toNat_ofNat
def Fo:=@Int.ofNat_eq_zero
def yh:=@Int.le_of_lt
def Fj:=@Nat.mod_eq_of_lt
def MU:=@Nat.gcd_eq_zero_iff
def MS:=@Int.lt_tmod_of_pos
def MN:=@BitVec.toNat_and
def Mr(h:G:=by split<;>split<;>omega):=h
def i_(h:G:=by split<;>omega):=h
def KU(h:G:=by dsimp only at h;omega):=h
def Ug(h:G:=by exact⟨⟨h1,pt _,by exact bu,hk,hk',by exact bu,λ_=>⟨rfl,rfl⟩,λh=>by exact KU,by simp,λh=>by exact KU⟩,rfl,h2,rfl⟩):=h
structure Av where
 lo:Int
 hi:Int
 m:Int
 r:Int
 mask:Int
 deriving DecidableEq
def iQ(a b:Int):Int:=((BitVec.ofInt 64 a|||BitVec.ofInt 64 b).toNat:Nat)
def a_(a b:Int):Int:=((BitVec.ofInt 64 a&&&BitVec.ofInt 64 b).toNat:Nat)
def kq(a b:Int):Int:=((BitVec.ofInt 64 a&&& ~~~BitVec.ofInt 64 b).toNat:Nat)
def l9(a m:Int):Int:=(a.tmod m+m).tmod m
def mh(lo hi m k:Int):Av:=
 if 0<m then(if lo=hi - (hi - lo).tmod m then⟨lo,lo,1,0,k⟩else⟨lo,hi - (hi - lo).tmod m,m,l9 lo m,k⟩)
 else(if lo=hi then⟨lo,lo,1,0,k⟩else⟨lo,hi,m,l9 lo m,k⟩)
def aB(a:Av):Int:=if a.lo=a.hi then 0 else a.m
def kM(v k:Int):Av:=⟨v,v,1,0,k⟩
def zA:Av:=⟨0,0,0,0,0⟩
def Ig(k:Int):Av:=mh (-2147483648) 2147483647 1 k
def dH(a:Int)(l:List Int):Nat:=l.foldl (λg b=>Nat.gcd g b.natAbs) a.natAbs
def B6(r m lo hi k:Int):Av:=mh (lo+l9 (r - lo) m) hi m k
def fG(a b:Av):Av:=mh (if b.lo<a.lo then b.lo else a.lo) (if b.hi>a.hi then b.hi else a.hi) (dH (aB a) [aB b,(a.lo - b.lo).natAbs]) (iQ a.mask b.mask)
structure aR(a:Av):Prop where
 lo: -2147483648<=a.lo
 le:a.lo<=a.hi
 hi:a.hi<=2147483647
 k0:0<=a.mask
 k1:a.mask<=255
 m:1<=a.m
 one:a.lo=a.hi->a.m=1∧a.r=0
 many:a.lo<a.hi->a.m<=a.hi - a.lo
 div:(a.hi - a.lo).tmod a.m=0
 res:a.lo<a.hi->a.r=l9 a.lo a.m
def sY{a b:Int}{n:Nat}(hn:n<64)(ha:0<=a)(ha' :a<2^n)(hb:0<=b)(hb' :b<2^n):0<=iQ a b∧iQ a b<2^n:=by
 obtain⟨x,rfl⟩:=tJ ha;obtain⟨y,rfl⟩:=tJ hb;have hx:x<2^n:=by exact_mod_cast ha'
 have hy:y<2^n:=by exact_mod_cast hb'
 have h64:2^n<=2^64:=zr E E;refine⟨ft _,?_⟩;unfold iQ;rw[CN,CN,BitVec.toNat_or,Fv,Fv,Fj E,Fj E];exact_mod_cast Nat.or_lt_two_pow hx hy
def iZ{a b:Int}{n:Nat}(hn:n<64)(hb:0<=b)(hb' :b<2^n):0<=a_ a b∧a_ a b<2^n:=by
 obtain⟨y,rfl⟩:=tJ hb;have hy:y<2^n:=by exact_mod_cast hb'
 have h64:2^n<=2^64:=zr E E;refine⟨ft _,?_⟩;unfold a_;rw[CN,MN,Fv,Fj (b:=2^64) E];exact_mod_cast Nat.lt_of_le_of_lt Nat.and_le_right hy
def CB{a b:Int}{n:Nat}(hn:n<64)(ha:0<=a)(ha' :a<2^n):0<=kq a b∧kq a b<2^n:=by
 obtain⟨x,rfl⟩:=tJ ha;have hx:x<2^n:=by exact_mod_cast ha'
 have h64:2^n<=2^64:=zr E E;refine⟨ft _,?_⟩;unfold kq;rw[CN,MN,Fv,Fj (b:=2^64) E];exact_mod_cast Nat.lt_of_le_of_lt Nat.and_le_left hx
def or8{a b:Int}(ha:0<=a)(ha' :a<=255)(hb:0<=b)(hb' :b<=255):0<=iQ a b∧iQ a b<=255:=by have:=sY (n:=8) E ha E hb E;omega
def ak9{a b:Int}(hb:0<=b)(hb' :b<=255):0<=a_ a b∧a_ a b<=255:=by have:=iZ (a:=a) (n:=8) E hb E;omega
def pI(a:Int){m:Int}(h:0<m): -m<a.tmod m∧a.tmod m<m:=⟨MS _ h,fi _ h⟩
def oP(a:Int){m:Int}(h:0<m):0<=l9 a m∧l9 a m<m:=by have:=pI a h;exact⟨dz _ E,fi _ h⟩
def Bx{a m:Int}(ha:0<=a)(h:0<m):0<=a.tmod m∧a.tmod m<m∧a.tmod m<=a∧(a - a.tmod m).tmod m=0:=by
 refine⟨dz _ ha,fi _ h,?_,?_⟩;rw[Gi ha];have h1:=Bp a m;have h2:=oE (yh h) (yj ha (yh h));omega;rw[Gi ha];have h1:=Bp a m;have h2:a - a%m=m*(a / m):=E
 rw[h2];exact Int.mul_tmod_right _ _
def ka{lo hi m k:Int}(h1: -2147483648<=lo)(h2:lo<=hi)(h3:hi<=2147483647)(hk:0<=k)(hk' :k<=255)(hm:0<=m)(h0:m=0->lo=hi):aR (mh lo hi m k)∧(mh lo hi m k).lo=lo∧(mh lo hi m k).hi<=hi∧(mh lo hi m k).mask=k:=by
 unfold mh;by_cases hp:0<m;obtain⟨t1,t2,t3,t4⟩:=Bx (a:=hi - lo) (m:=m) E hp;rw[ak hp];split;exact Ug;rename_i hne;have e:hi - (hi - lo).tmod m - lo=(hi - lo) - (hi - lo).tmod m:=E
 have hle:m<=hi - (hi - lo).tmod m - lo:=(by rw[e];obtain⟨q,hq⟩:=Int.dvd_of_tmod_eq_zero t4;rcases Int.lt_or_le 0 q with hq0|hq0;have:m*1<=m*q:=MH E hm;omega;have:m*q<=m*0:=MH hq0 hm;omega);refine⟨⟨h1,bu,bu,hk,hk',bu,λh=>KU,λh=>hle,?_,λ_=>rfl⟩,rfl,bu,rfl⟩;dsimp only;rw[e];exact t4;have e:lo=hi:=h0 E;rw[Z hp,ak e];exact Ug
def jy{v k:Int}(h1: -2147483648<=v)(h2:v<=2147483647)(hk:0<=k)(hk' :k<=255):aR (kM v k):=⟨h1,pt _,h2,hk,hk',by simp[kM],λ_=>⟨rfl,rfl⟩,λh=>by simp[kM]at h,by simp[kM],λh=>by simp[kM]at h⟩
def lU{a:Int}{l:List Int}(h:dH a l=0):a=0∧∀x∈l,x=0:=by
 unfold dH at h;have key:∀(l:List Int) (g:Nat),l.foldl (λg b=>Nat.gcd g b.natAbs) g=0->g=0∧∀x∈l,x=0:=by intro l;induction l with|nil=>intro g h;exact⟨h,O⟩|cons y l ih=>intro g h;obtain⟨h1,h2⟩:=ih _ h;rw[MU]at h1;refine⟨h1.1,λx hx=> ?_⟩;rcases b_.1 hx with rfl|hx;exact Int.natAbs_eq_zero.1 h1.2;exact h2 x hx
 obtain⟨h1,h2⟩:=key l _ h;exact⟨Int.natAbs_eq_zero.1 h1,h2⟩
def og{a:Int}{l:List Int}{x:Int}(hx:x∈a::l)(h0:x≠0):dH a l<=x.natAbs:=by
 have key:∀(l:List Int) (g:Nat),l.foldl (λg b=>Nat.gcd g b.natAbs) g∣g∧∀x∈l,l.foldl (λg b=>Nat.gcd g b.natAbs) g∣x.natAbs:=by intro l;induction l with|nil=>intro g;exact⟨Nat.dvd_refl _,O⟩|cons y l ih=>intro g;obtain⟨h1,h2⟩:=ih (Nat.gcd g y.natAbs);refine⟨Nat.dvd_trans h1 (Nat.gcd_dvd_left _ _),λx hx=> ?_⟩;rcases b_.1 hx with rfl|hx;exact Nat.dvd_trans h1 (Nat.gcd_dvd_right _ _);exact h2 x hx
 obtain⟨h1,h2⟩:=key l a.natAbs;have hp:0<x.natAbs:=Int.natAbs_pos.2 h0;rcases b_.1 hx with rfl|hx;exact Nat.le_of_dvd hp h1;exact Nat.le_of_dvd hp (h2 x hx)
def gM{a:Av}(h:aR a):0<=aB a∧aB a<=a.hi - a.lo∧(aB a=0↔a.lo=a.hi):=by have h1:=h.le;have h2:=h.m;unfold aB;split;rename_i e;omega;have h3:=h.many E;omega
def qL{a b:Av}(ha:aR a)(hb:aR b):aR (fG a b)∧(fG a b).mask=iQ a.mask b.mask:=by have m:=or8 ha.k0 ha.k1 hb.k0 hb.k1;have h1:=ha.le;have h2:=hb.le;have h3:=ha.lo;have h4:=hb.lo;have h5:=ha.hi;have h6:=hb.hi;have s1:=gM ha;have s2:=gM hb;have:=ka (lo:=if b.lo<a.lo then b.lo else a.lo) (hi:=if b.hi>a.hi then b.hi else a.hi) (m:=dH (aB a) [aB b,(a.lo - b.lo).natAbs]) (k:=iQ a.mask b.mask) i_ Mr i_ m.1 m.2 (ft _) (λh=>by obtain⟨e1,e2⟩:=lU (Fo.1 h);have e3:=e2 (aB b) O;have e4:=e2 ((a.lo - b.lo).natAbs) O;have e5:=s1.2.2.1 e1;have e6:=s2.2.2.1 e3;split<;>split<;>omega);exact⟨this.1,this.2.2.2⟩
end Abs
namespace Abs
variable{G:Prop}
def gh:=@Int.tdiv_eq_ediv_of_nonneg
def sM:=@Int.mul_le_mul
def Fx:=@Int.mul_tdiv_add_tmod
def Bg:=@Int.mul_eq_zero
def Fm:=@Int.emod_eq_of_lt
def VX:=@Int.mul_le_mul_of_nonneg_right
def aaj(h:G:=by show 0<b.m.tdiv _;exact Int.lt_of_lt_of_le (by decide) q4):=h
def uQ(h:G:=by unfold mn;split<;>omega):=h
def lL(h:G:=by unfold mx;split<;>omega):=h
def L6(h:G:=by have:=ha.m;omega):=h
def Vc(h:G:=by obtain⟨e1,e2⟩:=lU (Fo.1 h);exact⟨s1.2.2.1 e1,s2.2.2.1 (e2 _ (by simp))⟩):=h
def UW(h:G:=by exact QT (by omega) m.1 m.2 (ft _) (λh=>by have:=g0 h;omega)):=h
def Ir(v:Int):Int:=Int.bmod v (2^64)
def mn(a b:Int):Int:=if b<a then b else a
def mx(a b:Int):Int:=if b>a then b else a
def aT(a:Int):Int:=if 0 - a>a then 0 - a else a
def MI:Int:= -2147483648
def MA:Int:=2147483647
def pY(n:Int):Bool:=decide (-2147483648<=n)&&decide (n<=2147483647)
def iJ(a:Av):Int:=(a.hi - a.lo).tdiv a.m+1
def iz(b:Av)(v:Int):Bool:=decide (v>=b.lo)&&(decide (v<=b.hi)&&((v - b.lo).tmod b.m==0))
def qP(b:Av)(k:Int)(o:Option Av)(v:Int):Option Av:=if iz b v then some (match o with|none=>kM v k|some x=>fG x (kM v k))else o
def km(a b:Av)(k:Int):Nat->Option Av|0=>none|n+1=>qP b k (km a b k n) (a.lo+n*a.m)
def Oh(a b:Av)(k:Int):Option Av:=km a b k (iJ a).toNat
def Hv:Nat->Int->Int->Int->Int->Int|0,x,_,_,_=>x|n+1,x,y,a,r=>if r=0 then x else Hv n y (Ir (x - Ir (a.tdiv r*y))) r (a.tmod r)
def El(a m:Int):Int:=if m=1 then 0 else l9 (Hv (m.toNat+2) 1 0 (a.tmod m) m) m
def im(a b:Av):Int:=dH a.m [b.m]
def h_(a b:Av):Int:=b.m.tdiv (im a b)
def zc(a b:Av):Int:=l9 (l9 ((b.lo - a.lo).tdiv (im a b)) (h_ a b)*El (a.m.tdiv (im a b)) (h_ a b)) (h_ a b)
def wW(a b:Av):Int:=mx a.lo b.lo+l9 (a.lo+a.m*zc a b - mx a.lo b.lo) (a.m*h_ a b)
def jf(a b:Av):Option Av:=
 if iJ a<=64 then Oh a b (a_ a.mask b.mask)
 else if iJ b<=64 then Oh b a (a_ a.mask b.mask)
 else if (b.lo - a.lo).tmod (im a b)≠0 then none
 else if wW a b>mn a.hi b.hi then none
 else some (mh (wW a b) (mn a.hi b.hi) (a.m*h_ a b) (a_ a.mask b.mask))
def lC(a:Av)(lo:Int):Int:=mx a.lo lo+l9 (a.lo - mx a.lo lo) a.m
def ko(a:Av)(lo hi:Int):Option Av:=if lC a lo>mn a.hi hi then none else some (mh (lC a lo) (mn a.hi hi) a.m a.mask)
def rY(a b:Av)(d:Int):Option (Av×Av):=match ko a MI (b.hi - d),ko b (a.lo+d) MA with|some x,some y=>some (x,y)|_,_=>none
def gY(a b:Av):Option Av:=if aB b≠0 then some a else if a.lo=b.lo then ko a (a.lo+1) MA else if a.hi=b.lo then ko a MI (a.hi - 1)else some a
def equalA(a b:Av):Option (Av×Av):=match jf a b with|some m=>some ({m with mask:=a.mask},{m with mask:=b.mask})|none=>none
def mK(op:Int)(h:Bool)(a b:Av):Option (Av×Av):=
 if op=4 then(if h then equalA a b else match gY a b with
  |none=>none|some x=>match gY b x with|none=>none|some y=>some (x,y))
 else if op=2∨op=3 then(if h then rY a b (3 - op)else match rY b a (1 - (3 - op))with
  |some (y,x)=>some (x,y)|none=>none)
 else some (a,b)
def As(v:Int):Int:=Int.bmod v 4294967296
def G5(op a b:Int):Int:=
 if op=4 then As (a+b)else if op=5 then As (a - b)else if op=6 then As (a*b)
 else if op=7 then(if b=0 then As 0 else As (a.tdiv b))else if op=8 then(if b=0 then As a else As (a.tmod b))
 else if op=9 then As (mn a b)else if op=10 then As (mx a b)else 0
def za(op a b:Int):Int:=G5 op (As a) (As b)
def o_(lo hi m k:Int):Av:=if pY lo&&pY hi then mh lo hi m k else B6 lo (dH 4294967296 [m]) MI MA k
def s9(a b:Av):Int:=mn (mn (mn (a.lo*b.lo) (a.lo*b.hi)) (a.hi*b.lo)) (a.hi*b.hi)
def s_(a b:Av):Int:=mx (mx (mx (a.lo*b.lo) (a.lo*b.hi)) (a.hi*b.lo)) (a.hi*b.hi)
def mulM(a b:Av):Int:=dH (aT a.lo*aB b) [aT b.lo*aB a,Ir (aB a*aB b)]
def nc(a b:Av):Int:=if aB b=0∧b.lo≠0 then mn (a.lo.tdiv b.lo) (a.hi.tdiv b.lo)else if a.lo<0∨b.lo<0 then 0 - mx (aT a.lo) (aT a.hi)else 0
def nf(a b:Av):Int:=if aB b=0∧b.lo≠0 then mx (a.lo.tdiv b.lo) (a.hi.tdiv b.lo)else if a.lo<0∨b.lo<0 then mx (aT a.lo) (aT a.hi)else a.hi
def aoy(a b:Av)(k:Int):Av:=if pY (nc a b)&&pY (nf a b)then mh (nc a b) (nf a b) 1 k else Ig k
def ac8(a b:Av)(k:Int):Av:=
 if aB b≠0 then mh (mn a.lo 0) (mx a.hi 0) 1 k
 else if aT b.lo=0∨(a.lo>=0∧a.hi<aT b.lo)then{a with mask:=k}
 else B6 a.lo (dH (aB a) [aT b.lo]) (mx (mn a.lo 0) (1 - aT b.lo)) (mn (mx a.hi 0) (aT b.lo - 1)) k
def jM(a b:Av):Int:=dH (aB a) [aB b,aT (a.lo - b.lo)]
def IJ(op:Int)(a b:Av)(k:Int):Av:=
 if op=4 then o_ (a.lo+b.lo) (a.hi+b.hi) (dH (aB a) [aB b]) k
 else if op=5 then o_ (a.lo - b.hi) (a.hi - b.lo) (dH (aB a) [aB b]) k
 else if op=6 then o_ (s9 a b) (s_ a b) (mulM a b) k
 else if op=7 then aoy a b k
 else if op=8 then ac8 a b k
 else if op=9 then mh (mn a.lo b.lo) (mn a.hi b.hi) (jM a b) k
 else mh (mx a.lo b.lo) (mx a.hi b.hi) (jM a b) k
def opA(op:Int)(a b:Av):Av:=
 if (aB a=0∧aB b=0)∨op<4∨op>10 then kM (za op a.lo b.lo) (iQ a.mask b.mask)
 else IJ op a b (iQ a.mask b.mask)
def zb(a b:Int):mn a b<=a∧mn a b<=b:=uQ
def qi(a b:Int):a<=mx a b∧b<=mx a b:=lL
def ug(a:Int){m:Int}(h:0<m):l9 a m=a%m:=by
 have t:=pI a h;unfold l9;rw[Gi E];have h1:=Fx a m;have h2:a.tmod m=a - m*a.tdiv m:=E
 have e:a.tmod m+m=a+m*(1 - a.tdiv m):=by rw[h2,Int.mul_sub,Int.mul_one];omega
 rw[e,Int.add_mul_emod_self_left]
def kY(a:Int):aT a=a.natAbs:=by unfold aT;split<;>omega
def Nf(v:Int):MI<=As v∧As v<=MA:=by have h1:As v<2147483648:=Int.bmod_lt (x:=v) (m:=4294967296) E;have h2: -2147483648<=As v:=Int.le_bmod (x:=v) (m:=4294967296) E;unfold MI MA;omega
def Py(op a b:Int):MI<=za op a b∧za op a b<=MA:=by
 unfold za G5;repeat' split
 all_goals first|exact Nf _|decide
def QX{k:Int}(hk:0<=k)(hk' :k<=255):aR (Ig k):=(ka E E E hk hk' E E).1
theorem Og{a b:Av}{k:Int}(ha:aR a)(hk:0<=k)(hk' :k<=255):∀(n:Nat),n<=(iJ a).toNat->∀x,km a b k n=some x->aR x
 |0,_,x,h=>ie
 |n+1,hn,x,h=>by
  have ih:=Og (b:=b) ha hk hk' n E;have hv:a.lo<=a.lo+n*a.m∧a.lo+n*a.m<=a.hi:=by
   have hm:=ha.m;have hd:(n:Int)<=(a.hi - a.lo).tdiv a.m:=by unfold iJ at hn;omega
   have hle:=ha.le;rw[gh E]at hd;have h1:(n:Int)*a.m<=(a.hi - a.lo) / a.m*a.m:=VX hd E;have h2:=Int.ediv_mul_le (a.hi - a.lo) (b:=a.m) E;have h3:0<=(n:Int)*a.m:=oE E E;omega
  have ho:aR (kM (a.lo+n*a.m) k):=jy (by have:=ha.lo;omega) (by have:=ha.hi;omega) hk hk';rw[km]at h;unfold qP at h;split at h;cases hx:km a b k n with|none=>rw[hx]at h;cases h;exact ho|some y=>rw[hx]at h;cases h;exact(qL (ih y hx) ho).1
  exact ih x h
def O4{a b:Int}(ha:1<=a)(hb:1<=b):1<=(dH a [b]:Int)∧(dH a [b]:Int)<=a∧(dH a [b]:Int)<=b∧1<=b.tdiv (dH a [b])∧b.tdiv (dH a [b])<=b∧1<=a.tdiv (dH a [b])∧a.tdiv (dH a [b])<=a:=by obtain⟨x,rfl⟩:=tJ (show 0<=a by omega);obtain⟨y,rfl⟩:=tJ (show 0<=b by omega);have e:dH (x:Int) [(y:Int)]=Nat.gcd x y:=rfl;rw[e];have h1:0<Nat.gcd x y:=Nat.gcd_pos_of_pos_left _ E;have h2:Nat.gcd x y<=x:=Nat.gcd_le_left _ E;have h3:Nat.gcd x y<=y:=Nat.gcd_le_right _ E;have h4:0<y / Nat.gcd x y:=Nat.div_pos h3 h1;have h5:0<x / Nat.gcd x y:=Nat.div_pos h2 h1;have h6:y / Nat.gcd x y<=y:=Nat.div_le_self _ _;have h7:x / Nat.gcd x y<=x:=Nat.div_le_self _ _;have e1:((y:Int)).tdiv (Nat.gcd x y:Nat)=((y / Nat.gcd x y:Nat):Int):=rfl;have e2:((x:Int)).tdiv (Nat.gcd x y:Nat)=((x / Nat.gcd x y:Nat):Int):=rfl;rw[e1,e2];omega
def QI{a:Av}(ha:aR a)(h:¬iJ a<=64):a.m<2^26:=by
 have hm:=ha.m;have h1:=ha.lo;have h2:=ha.hi;have h3:=ha.le;unfold iJ at h;rw[gh E]at h;have h4:64<=(a.hi - a.lo) / a.m:=E
 have h5:64*a.m<=(a.hi - a.lo) / a.m*a.m:=VX h4 E;have h6:=Int.ediv_mul_le (a.hi - a.lo) (b:=a.m) E;omega
def FP{a b:Av}(ha:aR a)(hb:aR b){x:Av}(h:jf a b=some x):aR x:=by have hk:=ak9 (a:=a.mask) hb.k0 hb.k1;unfold jf at h;split at h;exact Og ha hk.1 hk.2 _ (cJ _) x h;split at h;exact Og hb hk.1 hk.2 _ (cJ _) x h;split at h;cases h;split at h;cases h;rename_i h1 h2 h3 h4;cases h;obtain⟨q1,q2,q3,q4,q5,q6,q7⟩:=O4 ha.m hb.m;have hp:0<a.m*h_ a b:=Int.mul_pos L6 aaj;have hF:=oP (a.lo+a.m*zc a b - mx a.lo b.lo) hp;refine(ka ?_ E ?_ hk.1 hk.2 E E).1;unfold wW;have:=ha.lo;have:=qi a.lo b.lo;omega;have:=ha.hi;have:=hb.hi;unfold mn;split<;>omega
def Oy{a:Av}{lo hi:Int}(ha:aR a){x:Av}(h:ko a lo hi=some x):aR x∧x.mask=a.mask:=by unfold ko at h;split at h;cases h;cases h;have hm:=ha.m;have hF:=oP (a.lo - mx a.lo lo) (show 0<a.m by omega);have:=ka (lo:=lC a lo) (hi:=mn a.hi hi) (m:=a.m) (k:=a.mask) (by unfold lC;have:=ha.lo;have:=qi a.lo lo;omega) E (by have:=ha.hi;unfold mn;split<;>omega) ha.k0 ha.k1 E E;exact⟨this.1,this.2.2.2⟩
def WD{a b:Av}{d:Int}(ha:aR a)(hb:aR b){x y:Av}(h:rY a b d=some (x,y)):aR x∧aR y:=by unfold rY at h;split at h;rename_i h1 h2;cases h;exact⟨(Oy ha h1).1,(Oy hb h2).1⟩;cases h
def zw{a b:Av}(ha:aR a){x:Av}(h:gY a b=some x):aR x:=by
 unfold gY at h;repeat' split at h
 all_goals first|(cases h;exact ha)|exact(Oy ha h).1
def FQ{a:Av}(ha:aR a){k:Int}(hk:0<=k)(hk' :k<=255):aR {a with mask:=k}:=⟨ha.lo,ha.le,ha.hi,hk,hk',ha.m,ha.one,ha.many,ha.div,ha.res⟩
def XP{op:Int}{h:Bool}{a b:Av}(ha:aR a)(hb:aR b){x y:Av}(e:mK op h a b=some (x,y)):aR x∧aR y:=by unfold mK at e;split at e;split at e;unfold equalA at e;split at e;rename_i m hm;cases e;exact⟨FQ (FP ha hb hm) ha.k0 ha.k1,FQ (FP ha hb hm) hb.k0 hb.k1⟩;cases e;split at e;cases e;rename_i u hu;split at e;cases e;rename_i v hv;cases e;exact⟨zw ha hu,zw hb hv⟩;split at e;split at e;exact WD ha hb e;split at e;rename_i u v hu;cases e;exact(WD hb ha hu).symm;cases e;cases e;exact⟨ha,hb⟩
def Wz{r m lo hi k t:Int}(hm:1<=m)(h1: -2147483648<=lo)(h3:hi<=2147483647)(hk:0<=k)(hk' :k<=255)(ht:lo<=t)(ht' :t<=hi)(hd:m∣t - r):aR (B6 r m lo hi k):=by
 have hp:0<m:=E
 have hF:=oP (r - lo) hp;have hle:lo+l9 (r - lo) m<=t:=by
  rw[ug _ hp];have e:(r - lo)%m=(t - lo)%m:=by
   obtain⟨q,hq⟩:=hd;have:t - lo=(r - lo)+m*q:=E
   rw[this,Int.add_mul_emod_self_left]
  rw[e];have h2:=Bp (t - lo) m;have h4:=oE (yh hp) (yj (show 0<=t - lo by omega) (yh hp));omega
 exact(ka E E h3 hk hk' E E).1
def aex(m:Int):1<=(dH 4294967296 [m]:Int)∧(dH 4294967296 [m]:Int)<=4294967296:=by
 have h1:0<dH 4294967296 [m]:=Nat.pos_of_ne_zero λh=>by have:=(lU h).1;omega
 have h2:=og (a:=4294967296) (l:=[m]) (x:=4294967296) O E;omega
def QT{lo hi m k:Int}(h:lo<=hi)(hk:0<=k)(hk' :k<=255)(hm:0<=m)(h0:m=0->lo=hi):aR (o_ lo hi m k):=by
 unfold o_;split;rename_i hb;simp only[pY,aX,wu]at hb;exact(ka hb.1.1 h hb.2.2 hk hk' hm h0).1;have g:=aex m;have hp:0<(dH 4294967296 [m]:Int):=E
 have hF:=oP (lo - MI) hp;refine Wz (t:=MI+l9 (lo - MI) (dH 4294967296 [m])) g.1 aw aw hk hk' E (by unfold MI MA at*;omega) ?_;rw[ug _ hp];have h2:=Bp (lo - MI) (dH 4294967296 [m]);exact⟨-((lo - MI) / (dH 4294967296 [m])),by rw[Int.mul_neg];omega⟩
def ab6{x:Int}(h:0<=x)(h' :x<2^64)(e:Ir x=0):x=0:=by unfold Ir at e;rw[Bb,Fm h (by simpa using h')]at e;simp at e;split at e<;>omega
def Hc(a:Int):mn a a=a∧mx a a=a:=by unfold mn mx;simp
def adf{a b:Av}(ha:aR a)(hb:aR b):s9 a b<=s_ a b∧(mulM a b=0->s9 a b=s_ a b):=by
 constructor;unfold s9 s_;have h1:=zb (mn (mn (a.lo*b.lo) (a.lo*b.hi)) (a.hi*b.lo)) (a.hi*b.hi);have h2:=qi (mx (mx (a.lo*b.lo) (a.lo*b.hi)) (a.hi*b.lo)) (a.hi*b.hi);omega;intro h;obtain⟨e1,e2⟩:=lU (Fo.1 h);have e3:=e2 (aT b.lo*aB a) O;have e4:=e2 (Ir (aB a*aB b)) O;have s1:=gM ha;have s2:=gM hb;have l1:=ha.lo;have l2:=ha.hi;have l3:=hb.lo;have l4:=hb.hi;have e5:aB a*aB b=0:=by refine ab6 (oE s1.1 s2.1) ?_ e4;have:aB a*aB b<=4294967295*4294967295:=sM E E s2.1 E;omega
 have atf:∀x,aT x=0->x=0:=λx hx=>by rw[kY]at hx;omega
 have fin:a.lo=a.hi->a.lo=0∨b.lo=b.hi->s9 a b=s_ a b:=λea hx=>by unfold s9 s_;rcases hx with hx|hx;rw[<-ea,hx];simp[mn,mx];rw[<-ea,<-hx];simp[Hc]
 have fin2:b.lo=b.hi->b.lo=0∨a.lo=a.hi->s9 a b=s_ a b:=λeb hx=>by unfold s9 s_;rcases hx with hx|hx;rw[<-eb,hx];simp[mn,mx];rw[<-eb,<-hx];simp[Hc]
 rcases Bg.1 e5 with z|z;refine fin (s1.2.2.1 z) ?_;rcases Bg.1 e1 with y|y;exact .inl (atf _ y);exact .inr (s2.2.2.1 y);refine fin2 (s2.2.2.1 z) ?_;rcases Bg.1 e3 with y|y;exact .inl (atf _ y);exact .inr (s1.2.2.1 y)
def amr{a b:Av}{k:Int}(ha:aR a)(hb:aR b)(hk:0<=k)(hk' :k<=255):aR (ac8 a b k):=by
 have l1:=ha.lo;have l2:=ha.hi;have l3:=ha.le;have l4:=hb.lo;have l5:=hb.hi;have l6:=hb.le;unfold ac8;split;have h1:=zb a.lo 0;have h2:=qi a.hi 0;exact(ka uQ E lL hk hk' E E).1;split;exact FQ ha hk hk';rename_i h1 h2;rw[not_or]at h2;have hn:1<=aT b.lo:=by have:=kY b.lo;omega
 have hn2:aT b.lo<=2147483648:=(by have:=kY b.lo;omega);have hg:1<=(dH (aB a) [aT b.lo]:Int):=by have:dH (aB a) [aT b.lo]≠0:=λh=>(by have:=(lU h).2 (aT b.lo) O;omega);omega
 have hdv:(dH (aB a) [aT b.lo]:Int)∣aT b.lo:=(by have:dH (aB a) [aT b.lo]=Nat.gcd (aB a).natAbs (aT b.lo).natAbs:=rfl;rw[this];exact Int.ofNat_dvd_left.2 (Nat.gcd_dvd_right _ _));have hp:0<aT b.lo:=E
 have t:=pI a.lo hp;have e:=Fx a.lo (aT b.lo);have hdt:(dH (aB a) [aT b.lo]:Int)∣a.lo.tmod (aT b.lo) - a.lo:=by refine Int.dvd_trans hdv ⟨-(a.lo.tdiv (aT b.lo)),?_⟩;rw[Int.mul_neg];omega
 have tn:(0<=a.lo->0<=a.lo.tmod (aT b.lo)∧a.lo.tmod (aT b.lo)<=a.lo):=λh=>⟨dz _ h,(Bx h hp).2.2.1⟩;have tp:a.lo<0->a.lo<=a.lo.tmod (aT b.lo)∧a.lo.tmod (aT b.lo)<=0:=λh=>by have h1:a.lo.tmod (aT b.lo)= -((-a.lo).tmod (aT b.lo)):=(by rw[Int.neg_tmod];omega);have h2:=Bx (a:= -a.lo) E hp;omega
 refine Wz (t:=a.lo.tmod (aT b.lo)) hg ?_ ?_ hk hk' ?_ ?_ hdt;unfold mx mn;split<;>split<;>omega;unfold mx mn;split<;>split<;>omega;unfold mx mn;split<;>split<;>omega;unfold mx mn;split<;>split<;>omega
def aox{a b:Av}{k:Int}(ha:aR a)(hk:0<=k)(hk' :k<=255):aR (aoy a b k):=by unfold aoy;split;rename_i h;simp only[pY,aX,wu]at h;refine(ka h.1.1 ?_ h.2.2 hk hk' E E).1;unfold nc nf;split;have h1:=zb (a.lo.tdiv b.lo) (a.hi.tdiv b.lo);have h2:=qi (a.lo.tdiv b.lo) (a.hi.tdiv b.lo);omega;have h1:=kY a.lo;have h2:=qi (aT a.lo) (aT a.hi);have:=ha.le;split<;>omega;exact QX hk hk'
def Cz{a b:Av}(ha:aR a)(hb:aR b)(h:jM a b=0):a.lo=a.hi∧b.lo=b.hi∧a.lo=b.lo:=by obtain⟨e1,e2⟩:=lU (Fo.1 h);have e3:=e2 (aB b) O;have e4:=e2 (aT (a.lo - b.lo)) O;rw[kY]at e4;exact⟨(gM ha).2.2.1 e1,(gM hb).2.2.1 e3,E⟩
def acv{op:Int}{a b:Av}(ha:aR a)(hb:aR b):aR (opA op a b):=by
 have m:=or8 ha.k0 ha.k1 hb.k0 hb.k1;have h1:=ha.le;have h2:=hb.le;have h3:=ha.lo;have h4:=hb.lo;have h5:=ha.hi;have h6:=hb.hi;have s1:=gM ha;have s2:=gM hb;have g0:((dH (aB a) [aB b]:Nat):Int)=0->a.lo=a.hi∧b.lo=b.hi:=λh=>Vc
 unfold opA;split;have:=Py op a.lo b.lo;exact jy this.1 this.2 m.1 m.2;unfold IJ;split;exact UW;split;exact UW;split;have:=adf ha hb;exact QT this.1 m.1 m.2 (ft _) this.2;split;exact aox ha m.1 m.2;split;exact amr ha hb m.1 m.2;split;refine(ka ?_ ?_ ?_ m.1 m.2 (ft _) (λh=> ?_)).1;unfold mn;split<;>omega;unfold mn;split<;>split<;>omega;unfold mn;split<;>omega;have:=Cz ha hb h;unfold mn;split<;>split<;>omega;refine(ka ?_ ?_ ?_ m.1 m.2 (ft _) (λh=> ?_)).1;unfold mx;split<;>omega;unfold mx;split<;>split<;>omega;unfold mx;split<;>omega;have:=Cz ha hb h;unfold mx;split<;>split<;>omega
end Abs
namespace Abs
open Go
variable{G:Prop}
def iy:=@Nat.sub_lt_sub_left
def Ga(h:G:=by exact⟨rfl,rfl,rfl⟩):=h
def Lf(h:G:=by simp[IntKind.wrap,IntKind.signed,IntKind.bits];omega):=h
def ab2{b:Bool}{X Y:Prop}(h:b=true)(x:X):Br b X Y:=⟨λ_=>x,λe=>(by rw[h]at e;cases e)⟩
def ana{b:Bool}{X Y:Prop}(h:b=false)(y:Y):Br b X Y:=⟨λe=>(by rw[h]at e;cases e),λ_=>y⟩
def aly{y:Int}(h1:0<=y)(h2:y<256):IntKind.u8.wrap y=y:=Lf
def Arith.am6{x y:Int}{K:Int->Prop}(e:x=y)(h1:0<=y)(h2:y<256)(h:K y):Arith .u8 x K:=by subst e;exact⟨by rw[aly h1 h2];exact h⟩
structure aki(b:Bool):Prop where
 h:b=true
theorem xw{α:Type}:∀(l:List α) (K:List α->Prop),build l K->K l|[],_,h=>h|x::l,K,h=>xw l (λys=>K (x::ys)) h
def bare(r:Rec):Rec:=⟨r.rh,r.wh,r.rr,r.wr,[],[]⟩
def Qc(ops:List Oper)(rs:List Rec):oV ops (rs.map bare)=oV ops rs:=by unfold oV;dsimp only;congr 1;funext j;rw[c_];congr 1;cases nth ops j with|none=>rfl|some oj=>cases nth rs j with|none=>rfl|some rj=>cases nth (jA ops []) j with|none=>rfl|some bj=>dsimp only[Option.map];congr 1;funext i;rw[c_];cases nth ops i with|none=>rfl|some oi=>cases nth rs i<;>rfl
def ae4(r:Rec)(K:Rec->Prop):Prop:=build r.rh λa=>build r.wh λb=>build r.rr λc=>build r.wr λd=>K ⟨a,b,c,d,[],[]⟩
def Yi{r:Rec}{K:Rec->Prop}(h:ae4 r K):K (bare r):=xw r.wr _ (xw r.rr _ (xw r.wh _ (xw r.rh _ h)))
def SN(l:List Rec):(List Rec->Prop)->Prop:=List.rec (motive:=λ_=>(List Rec->Prop)->Prop) (λK=>K []) (λr _ ih K=>ae4 r λr' =>ih λrs=>K (r' ::rs)) l
theorem JD:∀(l:List Rec) (K:List Rec->Prop),SN l K->K (l.map bare)|[],_,h=>h|r::l,K,h=>JD l (λrs=>K (bare r::rs)) (Yi (r:=r) (K:=λr' =>SN l λrs=>K (r' ::rs)) h)
def Rh.lay{ops:List Oper}{rs:List Rec}{K:Prop}(h:SN rs λrs' =>aki (oV ops rs'))(k:K):Rh (oV ops rs) K:=⟨by rw[<-Qc];exact(JD rs _ h).h,k⟩
structure Rest(R:Prop):Prop where
 out:R
theorem run{G R:Prop}(r:R)(h:Rest R->G:=by
 intro h
 (repeat((conv=>whnf);first
  |((with_reducible refine kQ.mk ?_ ?_);(first|exact rfl|assumption|omega|(refine⟨rfl,?_⟩;simp<;>omega)|(simp<;>omega)))|((with_reducible refine Rh.lay ?_ ?_);(conv=>whnf);(with_reducible refine aki.mk ?_);exact aA)|((with_reducible refine Rh.mk ?_ ?_);exact aA)|((with_reducible refine ab2 ?_ ?_);(first|assumption|exact rfl|decide))|((with_reducible refine ana ?_ ?_);(first|assumption|exact rfl|decide))|((with_reducible refine Arith.to gy ?_ ?_ ?_);omega;omega)|((with_reducible refine Arith.i64 ?_ ?_ ?_);omega;omega)|((with_reducible refine Arith.am6 gy ?_ ?_ ?_);omega;omega)))
 exact h.out):G:=h ⟨r⟩
def aY.lp{W:List Nat}{body:St->(Out->St->Prop)->Prop}{K:Out->St->Prop}{s:St}{ι:Type}(J:ι->Prop)(m:ι->we)(μ:ι->Nat)(i0:ι)(h0:J i0)(hb:∀i,J i->body (s.with W (m i)) λe s' =>match e with| .normal=>∃j:{i // J i},μ j.1<μ i∧s'.y=s.y∧Holds s' (s.with W (m j.1)) (m j.1)|e=>K e s')(hh:Holds s (s.with W (m i0)) (m i0):=by repeat' (first|exact trivial|exact rfl|exact qV|exact Iu|exact zz3|exact zz4|refine⟨?_,?_⟩|refine⟨?_,?_,?_⟩))(hd:zj s W=true:=by exact aA)(hr:zi s (dm W)=true:=by exact aA)(ht:∀i,tidy W (dm W) (m i)=true∧kl s (m i).H=true∧kj s (m i).R=true:=by intro k;exact Ga):aY W body K s:=⟨{i // J i},⟨i0,h0⟩,λi=>m i.1,λ_=>s.y,λi=>μ i.1,⟨rfl,hh⟩,hd,hr,λi=>⟨ht i.1,hb i.1 i.2⟩⟩
theorem aM{G R:Prop}(r:R)(h:Rest R->G:=by
 intro h;repeat(
 (repeat((conv=>whnf);first
  |((with_reducible refine kQ.mk ?_ ?_);(first|exact rfl|assumption|omega|(refine⟨rfl,?_⟩;simp<;>omega)|(simp<;>omega)))|((with_reducible refine Rh.lay ?_ ?_);(conv=>whnf);(with_reducible refine aki.mk ?_);exact aA)|((with_reducible refine Rh.mk ?_ ?_);exact aA)|((with_reducible refine ab2 ?_ ?_);(first|assumption|exact rfl|decide))|((with_reducible refine ana ?_ ?_);(first|assumption|exact rfl|decide))|((with_reducible refine Arith.to gy ?_ ?_ ?_);omega;omega)|((with_reducible refine Arith.i64 ?_ ?_ ?_);omega;omega)|((with_reducible refine Arith.am6 gy ?_ ?_ ?_);omega;omega)))
 apply aE;exact gy)
 (repeat((conv=>whnf);first
  |((with_reducible refine kQ.mk ?_ ?_);(first|exact rfl|assumption|omega|(refine⟨rfl,?_⟩;simp<;>omega)|(simp<;>omega)))|((with_reducible refine Rh.lay ?_ ?_);(conv=>whnf);(with_reducible refine aki.mk ?_);exact aA)|((with_reducible refine Rh.mk ?_ ?_);exact aA)|((with_reducible refine ab2 ?_ ?_);(first|assumption|exact rfl|decide))|((with_reducible refine ana ?_ ?_);(first|assumption|exact rfl|decide))|((with_reducible refine Arith.to gy ?_ ?_ ?_);omega;omega)|((with_reducible refine Arith.i64 ?_ ?_ ?_);omega;omega)|((with_reducible refine Arith.am6 gy ?_ ?_ ?_);omega;omega)))
 exact h.out):G:=h ⟨r⟩
def fo{P:Program}{f:FuncId}{fn:Func}(hf:P.funcs[f]? =some fn){args:List au}{m:Ct}{r:au}{m' :Ct}(hx:exF P (cfA P (λ_=>false) (λ_=>[])) [] fn args m r m')(hB:fnB P fn args.length=true:=by exact aA)(hm:P.follows .mixedOrders=true:=by exact aA):aj P f args m r m' :=d_ hm hf _ _ _ hB hx
def aY.np{W:List Nat}{body:St->(Out->St->Prop)->Prop}{K:Out->St->Prop}{s:St}(n:Nat)(J:Nat->Prop)(m:Nat->we)(h0:J 0)(hb:∀k,k<=n->J k->body (s.with W (m k)) λe s' =>match e with| .normal=>∃j:{k // k<=n∧J k},n - j.1<n - k∧s'.y=s.y∧Holds s' (s.with W (m j.1)) (m j.1)|e=>K e s')(hh:Holds s (s.with W (m 0)) (m 0):=by repeat' (first|exact trivial|exact rfl|exact qV|exact Iu|exact zz3|exact zz4|refine And.intro ?_ ?_|refine Holds.mk ?_ ?_ ?_))(hd:zj s W=true:=by exact aA)(hr:zi s (dm W)=true:=by exact aA)(ht:∀k,tidy W (dm W) (m k)=true∧kl s (m k).H=true∧kj s (m k).R=true:=by intro k;exact Ga):aY W body K s:=aY.nat n J m h0 hh hd hr ht hb
def nxr{n k:Nat}{B:{k // k<=n∧True}->Prop}(h:k<n)(hb:B ⟨k+1,h,trivial⟩):∃j:{k // k<=n∧True},n - j.1<n - k∧B j:=⟨⟨k+1,h,trivial⟩,iy h (gb k),hb⟩
def y_{n k:Nat}{B:{k // k<=n∧True}->Prop}(h:k<n)(hb:B ⟨k+1,h,trivial⟩:=by repeat' (first|exact trivial|exact rfl|exact qV|exact Iu|exact zz3|exact zz4|refine And.intro ?_ ?_|refine Holds.mk ?_ ?_ ?_)):∃j:{k // k<=n∧True},n - j.1<n - k∧B j:=nxr h hb
def vQ{G:Prop}(h:G:=by repeat' (first|exact trivial|exact rfl|exact qV|exact Iu|exact zz3|exact zz4|refine⟨?_,?_⟩|refine⟨?_,?_,?_⟩)):G:=h
def zh2{G:Prop}(h:G:=by repeat' (first|exact trivial|exact rfl|exact qV|exact Iu|exact zz3|exact zz4|refine And.intro ?_ ?_|refine Holds.mk ?_ ?_ ?_)):G:=h
end Abs
namespace Abs
open Go Go.Proofs Tryz
def hm:prog.follows .mixedOrders=true:=aA
def it(n:Int):au:= .int .i64 n
def u8(n:Int):au:= .int .u8 n
def bo(b:Bool):au:= .bool b
def fj{α:Type}(sz:Nat)(f:α->au)(xs:List α):au:= .sl sz (xs.map f) false
def ints(xs:List Int):au:= .sl 1 (xs.map it) false
def Y2(xs:List UInt8):au:= .sl 1 (xs.map λb=> .int .u8 b.toNat) false
abbrev fV:Ct:=⟨[],[]⟩
structure pG where
 lo:Int
 hi:Int
 mask:Int
 deriving DecidableEq
def bc(r:pG):au:= .agg [it r.lo,it r.hi,it r.mask]
inductive Ex where
 |mk (op n v:Int) (a:List Ex)
inductive Co where
 |mk (op:Int) (a:List Ex) (c:List Co)
inductive Sm where
 |mk (site op n m v:Int) (x y:Ex) (c:Co) (args:List Ex) (cO:List Int) (body tw:List Sm)
def Ex.op:Ex->Int| .mk x _ _ _=>x
def Ex.n:Ex->Int| .mk _ x _ _=>x
def Ex.v:Ex->Int| .mk _ _ x _=>x
def Ex.a:Ex->List Ex| .mk _ _ _ x=>x
def Co.op:Co->Int| .mk x _ _=>x
def Co.a:Co->List Ex| .mk _ x _=>x
def Co.c:Co->List Co| .mk _ _ x=>x
def Sm.site:Sm->Int| .mk x _ _ _ _ _ _ _ _ _ _ _=>x
def Sm.op:Sm->Int| .mk _ x _ _ _ _ _ _ _ _ _ _=>x
def Sm.n:Sm->Int| .mk _ _ x _ _ _ _ _ _ _ _ _=>x
def Sm.m:Sm->Int| .mk _ _ _ x _ _ _ _ _ _ _ _=>x
def Sm.v:Sm->Int| .mk _ _ _ _ x _ _ _ _ _ _ _=>x
def Sm.x:Sm->Ex| .mk _ _ _ _ _ x _ _ _ _ _ _=>x
def Sm.y:Sm->Ex| .mk _ _ _ _ _ _ x _ _ _ _ _=>x
def Sm.c:Sm->Co| .mk _ _ _ _ _ _ _ x _ _ _ _=>x
def Sm.args:Sm->List Ex| .mk _ _ _ _ _ _ _ _ x _ _ _=>x
def Sm.cO:Sm->List Int| .mk _ _ _ _ _ _ _ _ _ x _ _=>x
def Sm.body:Sm->List Sm| .mk _ _ _ _ _ _ _ _ _ _ x _=>x
def Sm.tw:Sm->List Sm| .mk _ _ _ _ _ _ _ _ _ _ _ x=>x
mutual
def rE:Ex->List au| .mk op n v a=>[it op,it n,it v,.sl 4 (jK a) false]
def jK:List Ex->List au|[]=>[]|e::es=> .agg (rE e)::jK es
end
def cE(e:Ex):List au:=[it e.op,it e.n,it e.v,.sl 4 (jK e.a) false]
def cy(e:Ex):au:= .agg (cE e)
def Wm(e:Ex):rE e=cE e:=by cases e;simp[rE,cE,Ex.op,Ex.n,Ex.v,Ex.a]
theorem uv:∀l,jK l=l.map cy|[]=>by simp[jK]|e::l=>by simp[jK,cy,Wm,uv l]
mutual
def rC:Co->List au| .mk op a c=>[it op,.sl 4 (jK a) false,.sl 3 (Cq c) false]
def Cq:List Co->List au|[]=>[]|e::es=> .agg (rC e)::Cq es
end
def cC(c:Co):List au:=[it c.op,.sl 4 (jK c.a) false,.sl 3 (Cq c.c) false]
def fO(c:Co):au:= .agg (cC c)
def aq7(e:Co):rC e=cC e:=by cases e;simp[rC,cC,Co.op,Co.a,Co.c]
theorem JY:∀l,Cq l=l.map fO|[]=>by simp[Cq]|e::l=>by simp[Cq,fO,aq7,JY l]
mutual
def rS:Sm->List au| .mk site op n m v x y c args cO body tw=>it site::it op::it n::it m::it v::(cE x++(cE y++(cC c++[.sl 4 (jK args) false,ints cO,.sl 20 (xr body) false,.sl 20 (xr tw) false])))
def xr:List Sm->List au|[]=>[]|e::es=> .agg (rS e)::xr es
end
def cS(s:Sm):List au:=it s.site::it s.op::it s.n::it s.m::it s.v::(cE s.x++(cE s.y++(cC s.c++[.sl 4 (jK s.args) false,ints s.cO,.sl 20 (xr s.body) false,.sl 20 (xr s.tw) false])))
def encS(s:Sm):au:= .agg (cS s)
def aq6(e:Sm):rS e=cS e:=by cases e;simp[rS,cS,Sm.site,Sm.op,Sm.n,Sm.m,Sm.v,Sm.x,Sm.y,Sm.c,Sm.args,Sm.cO,Sm.body,Sm.tw]
theorem Du:∀l,xr l=l.map encS|[]=>by simp[xr]|e::l=>by simp[xr,encS,aq6,Du l]
structure Ar where
 len:Int
 yP :Int
 deriving DecidableEq
def kO(a:Ar):au:= .agg [it a.len,it a.yP]
structure Df where
 id:Int
 site:Int
 name:List UInt8
 xj:Int
 part:Int
 params:List pG
 given:List pG
 vars:Int
 refs:Int
 aK:List Ar
 mf:Int
 body:List Sm
def cD(d:Df):List au:=[it d.id,it d.site,.str d.name,it d.xj,it d.part,fj 3 bc d.params,fj 3 bc d.given,it d.vars,it d.refs,fj 2 kO d.aK,it d.mf,fj 20 encS d.body]
def bR(d:Df):au:= .agg (cD d)
structure Hd where
 id:Int
 xj:Int
 part:Int
 params:List pG
 given:List pG
def oY(h:Hd):au:= .agg [it h.id,it h.xj,it h.part,fj 3 bc h.params,fj 3 bc h.given]
structure Qu where
 cap:Int
 r:pG
def aon(q:Qu):au:= .agg [it q.cap,it q.r.lo,it q.r.hi,it q.r.mask]
structure Dc where
 globals:List pG
 fq:List pG
 eJ:List Qu
 sinks:List Int
 aQ:Int
 parts:Int
 HQ:Int
def cDc(d:Dc):List au:=[fj 3 bc d.globals,fj 3 bc d.fq,fj 4 aon d.eJ,ints d.sinks,it d.aQ,it d.parts,it d.HQ]
structure Pg where
 d:Dc
 aF:List Hd
 defs:List Df
 threads:List Int
def cP(p:Pg):List au:=cDc p.d++[fj 5 oY p.aF,fj 12 bR p.defs,ints p.threads]
def qe(p:Pg):au:= .agg (cP p)
structure Ru where
 id:Int
 ver:Int
 xj:Int
 op:Int
 alo:Int
 ahi:Int
 blo:Int
 bhi:Int
 lo:Int
 hi:Int
 deriving DecidableEq
def gU(r:Ru):au:= .agg [it r.id,it r.ver,it r.xj,it r.op,it r.alo,it r.ahi,it r.blo,it r.bhi,it r.lo,it r.hi]
structure Pa where
 a:Int
 b:Int
 site:Int
 deriving DecidableEq
def bQ(p:Pa):au:= .agg [it p.a,it p.b,it p.site]
structure Sy where
 id:Int
 Nx:Int
 Ny:Int
 rm:Int
 rr:Int
 nO:Int
 jo:Int
 aQ:Int
 kV:Int
 fD:List Pa
 cost:Int
 deriving DecidableEq
def eO(s:Sy):au:= .agg [it s.id,it s.Nx,it s.Ny,it s.rm,it s.rr,it s.nO,it s.jo,it s.aQ,it s.kV,fj 3 bQ s.fD,it s.cost]
structure Ne where
 id:Int
 body:List UInt8
 decl:List Int
 eh:List Sy
 rules:List Ru
 level:Int
 deriving DecidableEq
end Abs
namespace Abs
open Go Go.Proofs
variable{G:Prop}
inductive kh(vars na:Int):Nat->Ex->Nat->Prop where
 |num {k:Nat} {v:Int} (h: -2147483648<=v∧v<=2147483647):kh vars na (k+1) (.mk 1 0 v []) 1
 |var {k:Nat} {n:Int} (h:0<=n∧n<vars):kh vars na (k+1) (.mk 2 n 0 []) 1
 |len {k:Nat} {n:Int} (h:0<=n∧n<na):kh vars na (k+1) (.mk 3 n 0 []) 1
 |bin {k:Nat} {op:Int} {a b:Ex} {x y:Nat} (h:4<=op∧op<=10) (ha:kh vars na k a x) (hb:kh vars na k b y):kh vars na (k+1) (.mk op 0 0 [a,b]) (1+x+y)
inductive En(vars na:Int):Nat->Co->Nat->Prop where
 |test {k:Nat} {op:Int} {a b:Ex} {x y:Nat} (h:2<=op∧op<=4) (ha:kh vars na k a x) (hb:kh vars na k b y):En vars na (k+1) (.mk op [a,b] []) (1+x+y)
 |not {k:Nat} {c:Co} {x:Nat} (hc:En vars na k c x):En vars na (k+1) (.mk 5 [] [c]) (1+x)
 |and {k:Nat} {op:Int} {a b:Co} {x y:Nat} (h:6<=op∧op<=7) (ha:En vars na k a x) (hb:En vars na k b y):En vars na (k+1) (.mk op [] [a,b]) (1+x+y)
def cU:=@List.getElem_mem
def dn:=@List.length_map
def rG:=@List.length_set
def zq:=@List.length_zipWith
def u7:=@Nat.le_of_not_lt
def Fy:=@List.zipWith_cons_cons
def uY:=@Nat.min_self
def M7:=@BitVec.eq_of_toNat_eq
def Ba:=@Int.tmod_one
def aag(h:G:=by rw[da,Z (by rw[hl];simp),Z (by omega)]):=h
def VQ(h:G:=by rw[rG];exact h.v):=h
def Mb(h:G:=by rw[iU]<;>simp):=h
def L5(h:G:=by rw[h.len];omega):=h
def Kw(h:G:=by rw[Cu];exact .inl rfl):=h
def Kv(h:G:=by simp[r8,tU]at h1;omega):=h
abbrev nj:=List (List Int)
def NG:Int:=1099511627776
def qc(n:Int):Bool:=(n==NG)||(decide (-17179869184<=n)&&decide (n<=17179869184))
def CZ(a k:Int):Int:=if (a==NG)|| !qc (a+k)then NG else a+k
def r8(e:Ex)(n:Int):Bool:=(e.op==2)&&(decide (0<=e.n)&&decide (e.n<n))
def tU(e:Ex):Bool:=(e.op==1)&&(decide (-2147483648<=e.v)&&decide (e.v<=2147483648))
def Rb(e:Ex)(n:Int):Option (Int×Int):=
 if r8 e n then some (e.n,0)else match e.a with
 |[a,b]=>if (e.op==4)&&(r8 a n&&tU b)then some (a.n,b.v)else if (e.op==4)&&(tU a&&r8 b n)then some (b.n,a.v)else if (e.op==5)&&(r8 a n&&tU b)then some (a.n,-b.v)else none
 |_=>none
def rowOf(g:nj)(v:Int):List Int:=g.getD v.toNat []
def XG(g:nj)(v:Int)(e:Ex)(whole:Bool):nj:=
 g.set v.toNat (match Rb e g.length,whole with
  |some (w,c),true=>(rowOf g w).map (CZ · c)|_,_=>(rowOf g v).map λ_=>NG)
def vW(out g:nj)(x y:Int×Int)(k:Int):nj:=out.set x.1.toNat (List.zipWith (λo s=>mn o (CZ s (y.2 - x.2 - k))) (rowOf out x.1) (rowOf g y.1))
def yM(g:nj)(op:Int)(h:Bool)(a b:Ex)(u v:Bool):nj:=
 match Rb a g.length,Rb b g.length with
 |some x,some y=>if !(u&&v)then g else
  if op=2 then(if h then vW g g x y 1 else vW g g y x 0)
  else if op=3 then(if h then vW g g x y 0 else vW g g y x 1)
  else if op=4∧h=true then vW (vW g g x y 0) g y x 0 else g
 |_,_=>g
def fR(vars params:Nat):nj:=(List.range vars).map λv=>(List.range params).map λp=>if v=p then 0 else NG
def eX(a b:List Int):List Int:=List.zipWith mx a b
def pN(g h:nj):nj:=List.zipWith eX g h
def tZ(g:nj)(v p:Int):Int:=(rowOf g v).getD p.toNat NG
structure Rf where
 s:Int
 a:Av
 deriving DecidableEq
structure Fa where
 dead:Bool
 v:List Av
 ju:nj
 refs:List Rf
 arr:List Int
 ei:Int
 may:Int
 parts:Int
def iq:Fa:=⟨true,[],[],[],[],0,0,0⟩
def zR:Av:=⟨0,0,1,0,0⟩
def gV(f:Fa)(n:Int):Av:=f.v.getD n.toNat zR
def ib(d:Df)(n:Int):Ar:=d.aK.getD n.toNat ⟨0,0⟩
def se(v n:Int):Int:=mx 0 (mn v n)
def Ho(d:Df)(f:Fa)(n:Int):Av:=
 if (ib d n).yP =0 then kM (ib d n).len 0
 else mh (se (gV f ((ib d n).yP - 1)).lo (ib d n).len) (se (gV f ((ib d n).yP - 1)).hi (ib d n).len) 1 0
def IL(d:Df)(n:Int):Int:=if (ib d n).yP =0 then 0 else(ib d n).yP - 1
def PZ(d:Df)(f:Fa)(n:Int):Bool:=if (ib d n).yP =0 then false else decide ((gV f ((ib d n).yP - 1)).lo>=0)&&decide ((gV f ((ib d n).yP - 1)).hi<=(ib d n).len)
def iU(d:Df)(f:Fa):Ex->Av
 | .mk op n v a=>if op=1 then kM v 0 else if op=2 then gV f n else if op=3 then Ho d f n else match a with
   |[x,y]=>opA op (iU d f x) (iU d f y)
   |_=>zR
def qg(f:Fa)(e:Ex):Int×Int×Bool:=
 if e.op=2 then(e.n,0,true)else if e.op≠4∧e.op≠5 then(0,0,false)else match e.a with
 |[x,y]=>
  let p:=if e.op=4∧x.op=1 then(y,x)else(x,y)
  if p.1.op≠2∨p.2.op≠1 then(0,0,false)else
  let c:=if e.op=5 then 0 - p.2.v else p.2.v
  (p.1.n,c,decide ((gV f p.1.n).lo+c>=-2147483648)&&decide ((gV f p.1.n).hi+c<=2147483647))
 |_=>(0,0,false)
def IC(f:Fa)(v:Int)(a:Av)(e:Ex):Fa:=if f.dead then f else{f with ju:=XG f.ju v e (qg f e).2.2,v:=f.v.set v.toNat a}
def dU(a:Av):Av:=if a.lo<a.hi then⟨a.lo,a.hi,1,0,a.mask⟩else a
def oq(d:Df)(level:Int)(f:Fa):Fa:=
 if f.dead||decide (level>=2)then f
 else if decide (level>=1)then{f with ju:=pN f.ju (fR d.vars.toNat d.params.length)}
 else{f with ju:=pN f.ju (fR d.vars.toNat d.params.length),v:=f.v.map dU,refs:=f.refs.map λr=>⟨r.s,dU r.a⟩}
def mz(x y:Rf):Rf:=⟨iQ x.s y.s,if a_ x.s 2=0 then y.a else if a_ y.s 2≠0 then fG x.a y.a else x.a⟩
def uk(a b:Fa):Fa:=if a.dead then b else if b.dead then a else{dead:=false,v:=List.zipWith fG a.v b.v,ju:=pN a.ju b.ju,refs:=List.zipWith mz a.refs b.refs,arr:=List.zipWith iQ a.arr b.arr,ei:=a_ a.ei b.ei,may:=iQ a.may b.may,parts:=a_ a.parts b.parts}
def QF(p:Int):Ex:= .mk 2 p 0 []
def jQ(d:Df)(f:Fa)(e:Ex):Ex:=if e.op=3∧PZ d f e.n=true then QF (IL d e.n)else e
def QN(d:Df)(f:Fa)(op:Int)(h:Bool)(x y:Ex):Fa:=
 match mK op h (iU d f x) (iU d f y)with
 |none=>iq
 |some (a,b)=>
  {f with
   ju:=yM f.ju op h (jQ d f x) (jQ d f y) (qg f (jQ d f x)).2.2 (qg f (jQ d f y)).2.2
   v:=(λl=>if y.op=2 then l.set y.n.toNat b else l) (if x.op=2 then f.v.set x.n.toNat a else f.v)}
def da(d:Df):Co->Fa->Bool->Fa
 | .mk op a c,f,h=>if f.dead then f else if op=1 then(if h then f else iq)else match a,c with
   |_,[x]=>da d x f (!h)
   |_,[x,y]=>if decide (op=6)=h then da d y (da d x f h) h else uk (da d x f h) (da d y (da d x f (!h)) h)
   |[x,y],_=>QN d f op h x y
   |_,_=>f
def aef(d:Df)(f:Fa)(n:Int)(e:Ex)(a:Av):Bool:=
 if a.lo<0 then false else if a.hi<(Ho d f n).lo then true
 else if (ib d n).yP =0∨(gV f ((ib d n).yP - 1)).hi>(ib d n).len then false
 else if (qg f e).2.2=false then false
 else decide (tZ f.ju (qg f e).1 ((ib d n).yP - 1)≠NG)&&decide (tZ f.ju (qg f e).1 ((ib d n).yP - 1)+(qg f e).2.1<0)
structure kx(g:nj)(vars params:Nat):Prop where
 len:g.length=vars
 row:∀l∈g,l.length=params∧∀n∈l,qc n=true
structure IZ(r:Rf):Prop where
 s:1<=r.s∧r.s<=3
 a:aR r.a
 z:r.s=1->r.a=zR
structure pT(d:Df)(f:Fa):Prop where
 live:f.dead=false
 v:f.v.length=d.vars.toNat
 va:∀a∈f.v,aR a
 ju:kx f.ju d.vars.toNat d.params.length
 refs:f.refs.length=d.refs.toNat
 ra:∀r∈f.refs,IZ r
 arr:f.arr.length=d.aK.length
 aa:∀n∈f.arr,0<=n∧n<=255
 ei:0<=f.ei∧f.ei<=255
 may:0<=f.may∧f.may<=255
 parts:0<=f.parts∧f.parts<=65535
 sub:kq f.ei f.may=0
def sn(d:Df)(f:Fa):Prop:=f=iq∨pT d f
def HF(n:Int):qc n=true↔n=NG∨(-17179869184<=n∧n<=17179869184):=by simp[qc]
def abk(a k:Int):qc (CZ a k)=true:=by unfold CZ;split;rfl;rename_i h;simp only[uS,mR,not_or]at h;cases hx:qc (a+k)with|true=>rfl|false=>exact absurd hx h.2
def aqp{a b:Int}(ha:qc a=true)(hb:qc b=true):qc (mn a b)=true:=by unfold mn;split<;>exact gy
def aql{a b:Int}(ha:qc a=true)(hb:qc b=true):qc (mx a b)=true:=by unfold mx;split<;>exact gy
def BG{g:nj}{n p:Nat}(h:kx g n p){v:Int}(h0:0<=v)(h1:v<n):(rowOf g v).length=p∧∀x∈rowOf g v,qc x=true:=by
 have hv:v.toNat<g.length:=L5
 have e:rowOf g v=g[v.toNat]:=by unfold rowOf;simp[hv]
 rw[e];exact h.row _ (cU hv)
theorem kx.set{g:nj}{n p:Nat}(h:kx g n p)(k:Nat){l:List Int}(hl:l.length=p∧∀x∈l,qc x=true):kx (g.set k l) n p:=⟨by rw[rG];exact h.len,λx hx=>by rcases wy hx with hx|rfl;exact h.row x hx;exact hl⟩
def wN{e:Ex}{n:Int}{w c:Int}(h:Rb e n=some (w,c)):(0<=w∧w<n)∧-2147483648<=c∧c<=2147483648:=by unfold Rb at h;split at h;rename_i h1;cases h;simp[r8]at h1;omega;split at h;split at h;rename_i h1;cases h;exact Kv;split at h;rename_i h1;cases h;exact Kv;split at h;rename_i h1;cases h;exact Kv;cases h;cases h
def ahy{g:nj}{n p:Nat}(h:kx g n p){v:Int}(h0:0<=v)(h1:v<n)(e:Ex)(w:Bool):kx (XG g v e w) n p:=by unfold XG;refine h.set _ ?_;split;rename_i w' c _ hs;have:=(wN hs).1;have r:=BG h this.1 (by rw[h.len]at this;exact this.2);exact⟨by rw[dn];exact r.1,λx hx=>by obtain⟨y,_,rfl⟩:=dV.1 hx;exact abk _ _⟩;exact⟨by rw[dn];exact(BG h h0 h1).1,λx hx=>by obtain⟨y,_,rfl⟩:=dV.1 hx;rfl⟩
theorem RG{f:Int->Int->Int}{P Q:Int->Prop}(hf:∀a b,P a->Q b->qc (f a b)=true):∀{l m:List Int},(∀x∈l,P x)->(∀x∈m,Q x)->∀x∈List.zipWith f l m,qc x=true|[],_,_,_,x,hx=>by simp at hx|_::_,[],_,_,x,hx=>by simp at hx|a::l,b::m,h1,h2,x,hx=>by rw[Fy,b_]at hx;rcases hx with rfl|hx;exact hf _ _ (h1 _ O) (h2 _ O);exact RG hf (λy hy=>h1 y pk) (λy hy=>h2 y pk) x hx
def w_{o g:nj}{n p:Nat}(ho:kx o n p)(h:kx g n p){x y:Int×Int}(hx:0<=x.1∧x.1<n)(hy:0<=y.1∧y.1<n)(k:Int):kx (vW o g x y k) n p:=by have r1:=BG ho hx.1 hx.2;have r2:=BG h hy.1 hy.2;refine ho.set _ ⟨by rw[zq,r1.1,r2.1,uY],?_⟩;exact RG (P:=λa=>qc a=true) (Q:=λ_=>True) (λa b ha _=>aqp ha (abk _ _)) r1.2 (λ_ _=>trivial)
def Ti{g:nj}{n p:Nat}(h:kx g n p)(op:Int)(b:Bool)(x y:Ex)(u v:Bool):kx (yM g op b x y u v) n p:=by
 unfold yM;split
 ·rename_i s t h1 h2;obtain⟨s1,s2⟩:=s;obtain⟨t1,t2⟩:=t;have a1:=(wN h1).1;have a2:=(wN h2).1;rw[h.len]at a1 a2;repeat' split
  all_goals first|exact h|exact w_ h h a1 a2 _|exact w_ h h a2 a1 _|exact w_ (w_ h h a1 a2 _) h a2 a1 _
 exact h
def FO(n p:Nat):kx (fR n p) n p:=⟨by simp[fR],λl hl=>by obtain⟨v,_,rfl⟩:=dV.1 hl;refine⟨O,λx hx=> ?_⟩;obtain⟨q,_,rfl⟩:=dV.1 hx;split<;>decide⟩
def P4:∀{g h:nj} {n p:Nat},kx g n p->kx h n p->kx (pN g h) n p:=by intro g h n p hg hh;refine⟨by unfold pN;rw[zq,hg.len,hh.len,uY],λl hl=> ?_⟩;unfold pN at hl;obtain⟨i,hi⟩:=MY hl;rw[List.getElem?_zipWith]at hi;cases h1:g[i]? with|none=>rw[h1]at hi;simp at hi|some a=>cases h2:h[i]? with|none=>rw[h1,h2]at hi;simp at hi|some b=>rw[h1,h2]at hi;simp at hi;subst hi;have r1:=hg.row a (wx h1);have r2:=hh.row b (wx h2);exact⟨by unfold eX;rw[zq,r1.1,r2.1,uY],RG (P:=λa=>qc a=true) (Q:=λa=>qc a=true) (λ_ _=>aql) r1.2 r2.2⟩
def Bt:aR zR:=jy (v:=0) (k:=0) E E E E
def yH{l:List Av}(h:∀a∈l,aR a)(n:Nat):aR (l.getD n zR):=by
 by_cases hn:n<l.length;have e:l.getD n zR=l[n]:=uH
 rw[e];exact h _ (cU hn);have e:l.getD n zR=zR:=by simp[u7 hn]
 rw[e];exact Bt
def F7(v:Int){n:Int}(hn:0<=n):0<=se v n∧se v n<=n:=by unfold se mx mn;split<;>split<;>omega
def YP{a b n:Int}(h:a<=b):se a n<=se b n:=by unfold se mx mn;repeat' split<;>omega
structure Iq(d:Df):Prop where
 yP :∀a∈d.aK,0<=a.yP ∧a.yP <=d.params.length
 len:∀a∈d.aK,1<=a.len∧a.len<=64
def Cv{d:Df}(h:Iq d){n:Int}:(0<=(ib d n).yP ∧(ib d n).yP <=d.params.length)∧(0<=(ib d n).len∧(ib d n).len<=64):=by
 unfold ib;by_cases hn:n.toNat<d.aK.length;have e:d.aK.getD n.toNat ⟨0,0⟩=d.aK[n.toNat]:=uH
 rw[e];have h1:=h.yP _ (cU hn);have h2:=h.len _ (cU hn);omega;have e:d.aK.getD n.toNat ⟨0,0⟩=⟨0,0⟩:=by simp[u7 hn]
 rw[e];simp
def WG{d:Df}{f:Fa}(hd:Iq d)(h:∀a∈f.v,aR a)(n:Int):aR (Ho d f n):=by have ha:=Cv hd (n:=n);unfold Ho;split;exact jy E E E E;have hv:aR (gV f ((ib d n).yP - 1)):=yH h _;have c1:=F7 (gV f ((ib d n).yP - 1)).lo ha.2.1;have c2:=F7 (gV f ((ib d n).yP - 1)).hi ha.2.1;exact(ka E (YP hv.le) E E E E E).1
def JR(d:Df)(f:Fa)(v:Int):iU d f (.mk 1 0 v [])=kM v 0:=Mb
def JQ(d:Df)(f:Fa)(n:Int):iU d f (.mk 2 n 0 [])=gV f n:=Mb
def JS(d:Df)(f:Fa)(n:Int):iU d f (.mk 3 n 0 [])=Ho d f n:=Mb
def JT(d:Df)(f:Fa){op:Int}(h:4<=op)(x y:Ex):iU d f (.mk op 0 0 [x,y])=opA op (iU d f x) (iU d f y):=by rw[iU,Z E,Z E,Z E]
def vO(d:Df){f:Fa}(hl:f.dead=false){op:Int}(h:2<=op)(x y:Ex)(b:Bool):da d (.mk op [x,y] []) f b=QN d f op b x y:=by rw[da,Z sJ,Z E]<;>simp
def xz(d:Df){f:Fa}(hl:f.dead=false)(x:Co)(b:Bool):da d (.mk 5 [] [x]) f b=da d x f (!b):=aag
def tC(d:Df){f:Fa}(hl:f.dead=false){op:Int}(h:6<=op)(x y:Co)(b:Bool):da d (.mk op [] [x,y]) f b=if decide (op=6)=b then da d y (da d x f b) b else uk (da d x f b) (da d y (da d x f (!b)) b):=aag
def Cu(d:Df)(c:Co)(b:Bool):da d c iq b=iq:=by cases c with|mk op a c=>unfold da;exact ak rfl
def jJ{d:Df}{f:Fa}(hd:Iq d)(h:∀a∈f.v,aR a){vars na:Int}{k:Nat}{e:Ex}{z:Nat}(he:kh vars na k e z):aR (iU d f e):=by induction he with|num hv=>rw[JR];exact jy hv.1 hv.2 E E|var hv=>rw[JQ];exact yH h _|len hv=>rw[JS];exact WG hd h _|bin ho _ _ iha ihb=>rw[JT d f ho.1];exact acv iha ihb
def mem_set{α:Type}{P:α->Prop}{l:List α}(h:∀a∈l,P a)(n:Nat){x:α}(hx:P x):∀a∈l.set n x,P a:=λa ha=>by rcases wy ha with ha|rfl;exact h a ha;exact hx
def pT.set{d:Df}{f:Fa}(h:pT d f){v:Int}(h0:0<=v)(h1:v<d.vars){a:Av}(ha:aR a)(e:Ex):pT d (IC f v a e):=by unfold IC;rw[Z (by rw[h.live];simp)];exact⟨h.live,VQ,mem_set h.va _ ha,ahy h.ju h0 E _ _,h.refs,h.ra,h.arr,h.aa,h.ei,h.may,h.parts,h.sub⟩
def PK(a:Int):l9 a 1=0:=by unfold l9;exact Ba _
def WU{a:Av}(h:aR a):aR (dU a):=by unfold dU;split;rename_i hl;exact⟨h.lo,h.le,h.hi,h.k0,h.k1,pt _,λe=>by dsimp only at e;omega,λ_=>bu,Ba _,λ_=>(PK _).symm⟩;exact h
def agc{a b:Int}(ha:1<=a∧a<=3)(hb:1<=b∧b<=3):(1<=iQ a b∧iQ a b<=3)∧(iQ a b=1->a=1∧b=1)∧(a_ a 2=0↔a=1):=by
 have h1:a=1∨a=2∨a=3:=E
 have h2:b=1∨b=2∨b=3:=E
 rcases h1 with rfl|rfl|rfl<;>rcases h2 with rfl|rfl|rfl<;>decide
def ae6{x y:Rf}(hx:IZ x)(hy:IZ y):IZ (mz x y):=by have b:=agc hx.s hy.s;have b' :=agc hy.s hx.s;refine⟨b.1,?_,λe=> ?_⟩;unfold mz;dsimp only;split;exact hy.a;split;exact(qL hx.a hy.a).1;exact hx.a;obtain⟨e1,e2⟩:=b.2.1 e;unfold mz;dsimp only;rw[ak (b.2.2.2 e1)];exact hy.z e2
theorem Lr{α:Type}{P:α->Prop}{f:α->α->α}(hf:∀a b,P a->P b->P (f a b)):∀{l m:List α},(∀x∈l,P x)->(∀x∈m,P x)->∀x∈List.zipWith f l m,P x|[],_,_,_,x,hx=>by simp at hx|_::_,[],_,_,x,hx=>by simp at hx|a::l,b::m,h1,h2,x,hx=>by rw[Fy,b_]at hx;rcases hx with rfl|hx;exact hf _ _ (h1 _ O) (h2 _ O);exact Lr hf (λy hy=>h1 y pk) (λy hy=>h2 y pk) x hx
def ap7{a b c d:Int}(h1:kq a b=0)(h2:kq c d=0):kq (a_ a c) (iQ b d)=0:=by
 unfold kq a_ iQ at*;have e1:BitVec.ofInt 64 a&&& ~~~BitVec.ofInt 64 b=0#64:=M7 gK;rw[CN,CN,BitVec.ofNat_toNat,BitVec.ofNat_toNat,BitVec.setWidth_eq,BitVec.setWidth_eq];have:(BitVec.ofInt 64 a&&&BitVec.ofInt 64 c)&&& ~~~(BitVec.ofInt 64 b|||BitVec.ofInt 64 d)=0#64:=by ext i hi;have h:=aL (λv=>v.getLsbD i) e1;simp only[BitVec.getLsbD_and,BitVec.getLsbD_not,BitVec.getLsbD_zero,hi,decide_true,Bool.true_and]at h;simp only[BitVec.getElem_and,BitVec.getElem_not,BitVec.getElem_or,BitVec.getElem_zero];simp only[BitVec.getLsbD_eq_getElem hi]at h;revert h;generalize (BitVec.ofInt 64 a)[i]=x;generalize (BitVec.ofInt 64 b)[i]=y;generalize (BitVec.ofInt 64 c)[i]=z;generalize (BitVec.ofInt 64 d)[i]=u;revert x y z u;decide
 exact nw
def ae7{d:Df}{a b:Fa}(ha:sn d a)(hb:sn d b):sn d (uk a b):=by unfold uk;rcases ha with rfl|ha;exact hb;rw[Z (by rw[ha.live];simp)];rcases hb with rfl|hb;exact .inr ha;rw[Z (by rw[hb.live];simp)];have m1:=ak9 (a:=a.ei) hb.ei.1 hb.ei.2;have m2:=or8 ha.may.1 ha.may.2 hb.may.1 hb.may.2;have m3:=iZ (a:=a.parts) (b:=b.parts) (n:=16) E hb.parts.1 (by have:=hb.parts.2;omega);exact .inr ⟨rfl,by dsimp only;rw[zq,ha.v,hb.v,uY],Lr (λ_ _ h1 h2=>(qL h1 h2).1) ha.va hb.va,P4 ha.ju hb.ju,by dsimp only;rw[zq,ha.refs,hb.refs,uY],Lr (λ_ _=>ae6) ha.ra hb.ra,by dsimp only;rw[zq,ha.arr,hb.arr,uY],Lr (P:=λn=>0<=n∧n<=255) (λ_ _ h1 h2=>or8 h1.1 h1.2 h2.1 h2.2) ha.aa hb.aa,m1,m2,bu,ap7 ha.sub hb.sub⟩
def ajs{d:Df}{f:Fa}(hd:Iq d)(h:pT d f){op:Int}{b:Bool}{x y:Ex}(hx:aR (iU d f x))(hy:aR (iU d f y)):sn d (QN d f op b x y):=by unfold QN;split;exact .inl rfl;rename_i u v e;obtain⟨h1,h2⟩:=XP hx hy e;refine .inr ⟨h.live,?_,?_,Ti h.ju _ _ _ _ _ _,h.refs,h.ra,h.arr,h.aa,h.ei,h.may,h.parts,h.sub⟩;dsimp only;split<;>split<;>simp[h.v];dsimp only;split<;>split;exact mem_set (mem_set h.va _ h1) _ h2;exact mem_set h.va _ h2;exact mem_set h.va _ h1;exact h.va
theorem mZ{d:Df}(hd:Iq d){vars na:Int}{k:Nat}{c:Co}{z:Nat}(hc:En vars na k c z):∀{f:Fa} (_:sn d f) (b:Bool),sn d (da d c f b):=by
 induction hc with
 |test ho hx hy=>intro f hf b;rcases hf with rfl|hf;exact Kw;rw[vO d hf.live ho.1];exact ajs hd hf (jJ hd hf.va hx) (jJ hd hf.va hy)
 |not _ ih=>intro f hf b;rcases hf with rfl|hf;exact Kw;rw[xz d hf.live];exact ih (.inr hf) _
 |and ho _ _ iha ihb=>intro f hf b;rcases hf with rfl|hf;exact Kw;rw[tC d hf.live ho.1];split;exact ihb (iha (.inr hf) _) _;exact ae7 (iha (.inr hf) _) (ihb (iha (.inr hf) _) _)
end Abs
namespace Abs
open Go Go.Proofs Tryz
variable{G:Prop}
def jY:=@List.take_succ_eq_append_getElem
def Bi:=@List.foldl_append
def Fh:=@Nat.gcd_comm
def bp(h:G:=by refine aM ?_;exact fP.mk rfl rfl):=h
def bz(h:G:=by refine run ?_;exact fP.mk rfl rfl):=h
def UN(h:G:=by rw[e];refine fo Tryz.func513 ?_;refine run ?_;exact fP.mk (aL bo b2) rfl):=h
def Uq(h:G:=by rw[jY hk,Bi];rfl):=h
def KI(h:G:=by refine fo Tryz.func144 ?_;exact bz):=h
abbrev C(n:FuncId)(xs:List au)(r:au):Prop:=aj prog n xs fV r fV
def ai(a:Av):au:= .agg [it a.lo,it a.hi,it a.m,it a.r,it a.mask]
def tB{p:Prop}[Decidable p](h:p):decide p=true:=decide_eq_true h
def fB{p:Prop}[Decidable p](h:¬p):decide p=false:=decide_eq_false h
def tE{a b:Int}(h:a=b):(a==b)=true:=beq_iff_eq.2 h
def fE{a b:Int}(h:a≠b):(a==b)=false:=beq_eq_false_iff_ne.2 h
def Hb(a m:Int)(h:0<m∧m<2^62):C 203 [it a,it m] (it (l9 a m)):=by
 have t:=pI a h.1;have hz:m≠0:=E
 refine fo func203 ?_;exact bz
def Ea(a:Int)(h: -(2^63)<a∧a<2^63):C 202 [it a] (it (aT a)):=by refine fo func202 ?_;exact bz
def FD(a:Int):C 513 [it a] (bo (pY a)):=by
 by_cases h1: -2147483648<=a;have b1:=tB (show a>=-2147483648 from h1);by_cases h2:a<=2147483647;have b2:=tB h2;have e:pY a=true:=by simp[pY,h1,h2]
 exact UN;have b2:=fB h2;have e:pY a=false:=by simp[pY,h2]
 exact UN;have b1:=fB (show ¬a>=-2147483648 from h1);have e:pY a=false:=by simp[pY,h1]
 rw[e];refine fo func513 ?_;exact bz
def Dw(lo hi m k:Int)(h1: -(2^60)<lo∧lo<2^60)(h2: -(2^60)<hi∧hi<2^60)(h3:m<2^60)(h0:m<=0->lo=hi):C 144 [it lo,it hi,it m,it k] (ai (mh lo hi m k)):=by
 unfold mh;by_cases hp:0<m;have b1:=tB (show m>0 from hp);have t:=pI (hi - lo) hp;have hz:m≠0:=E
 have c:=Hb lo m ⟨hp,E⟩;rw[ak hp];by_cases he:lo=hi - (hi - lo).tmod m;have b2:=tE he;rw[ak he];exact KI;have b2:=fE he;rw[Z he];refine fo func144 ?_;exact bp;have b1:=fB (show ¬m>0 from hp);have e:=h0 E;have b2:=tE e;rw[Z hp,ak e];exact KI
structure GK where
 k:Nat
 x:Int
structure GI where
 x:Int
 y:Int
theorem natAbs_tmod(a b:Int):(a.tmod b).natAbs=a.natAbs%b.natAbs:=Int.natAbs_tmod a b
def Cf(a:Int)(l:List Int)(hl:l.length<2^40)(ha: -(2^63)<=a∧a<2^63)(hx:∀x∈l,-(2^63)<=x∧x<2^63)(hg:dH a l<2^63):C 200 [it a,ints l] (it (dH a l)):=by
 have hll:(l.map it).length=l.length:=dn ..;refine fo func200 ?_;refine run ?_;refine bF.mk ⟨[],aY.lp (λr:GK=>r.k<=l.length∧(-(2^63)<=r.x∧r.x<2^63)∧r.x.natAbs=dH a (l.take r.k)) (λr=>⟨[(0,it r.x),(9,it r.k)],[],[]⟩) (λr=>l.length - r.k) ⟨0,a⟩ ⟨dM _,ha,rfl⟩ ?_⟩;intro r hJ;have h1:=hJ.1;have h2:=hJ.2.1;have h3:=hJ.2.2;by_cases hk:r.k<l.length;have b1:=tB (show(r.k:Int)<((l.map it).length:Nat) by omega);have hxk:=hx _ (cU hk);refine run ?_;refine bt.map hk rfl ?_;refine run ?_;refine bF.mk ⟨[],aY.lp (λq:GI=>(-(2^63)<=q.x∧q.x<2^63)∧(-(2^63)<=q.y∧q.y<2^63)∧Nat.gcd q.x.natAbs q.y.natAbs=Nat.gcd r.x.natAbs l[r.k].natAbs) (λq=>⟨[(0,it q.x),(6,it q.y)],[],[]⟩) (λq=>q.y.natAbs) ⟨r.x,l[r.k]⟩ ⟨h2,hxk,rfl⟩ ?_⟩;intro q hQ;have q1:=hQ.1;have q2:=hQ.2.1;have q3:=hQ.2.2;by_cases hy:q.y=0;have b2:(!(q.y==0))=false:=(by rw[hy];rfl);have e:q.x.natAbs=dH a (l.take (r.k+1)):=by have:dH a (l.take (r.k+1))=Nat.gcd (dH a (l.take r.k)) l[r.k].natAbs:=(by unfold dH;exact Uq);rw[this,<-h3,<-q3,hy];simp
 have hm' :l.length - (r.k+1)<l.length - r.k:=E;refine run ?_;refine⟨⟨⟨r.k+1,q.x⟩,⟨bu,q1,e⟩⟩,hm',?_⟩;exact vQ;have b2:(!(q.y==0))=true:=(by simp;exact hy);have t:=natAbs_tmod q.x q.y;have t2:q.x.natAbs%q.y.natAbs<q.y.natAbs:=A' _ E;have t3:(q.x.tmod q.y).natAbs<q.y.natAbs:=E
 have t4: -(2^63)<=q.x.tmod q.y∧q.x.tmod q.y<2^63:=E;have g:Nat.gcd q.y.natAbs (q.x.tmod q.y).natAbs=Nat.gcd q.x.natAbs q.y.natAbs:=by rw[t,Fh q.y.natAbs,<-Nat.gcd_rec,Fh]
 refine run ?_;refine⟨⟨⟨q.y,q.x.tmod q.y⟩,⟨q2,t4,g.trans q3⟩⟩,t3,?_⟩;exact vQ;have b1:=fB (show ¬(r.k:Int)<((l.map it).length:Nat) by omega);have e1:l.take r.k=l:=oG E;rw[e1]at h3;have c:=Ea r.x E;have e:aT r.x=(dH a l:Nat):=by rw[kY,h3]
 rw[e]at c;exact bp
def M_:=@Int.natAbs_tdiv_le_natAbs
def ML:=@Int.ediv_le_self
def RQ(h:G:=by simp at hx;rcases hx with rfl|rfl<;>omega):=h
def Vd(h:G:=by have:=og (a:=aB a) (l:=[aB b,aT (a.lo - b.lo)]) (x:=aT (a.lo - b.lo)) (by simp) z3;omega):=h
def U2(h:G:=by have:=og (a:=aB a) (l:=[aB b,aT (a.lo - b.lo)]) (x:=aB b) (by simp) z2;omega):=h
def U0(h:G:=by have:=og (a:=aB a) (l:=[aB b,aT (a.lo - b.lo)]) (x:=aB a) (by simp) z;omega):=h
def KJ(h:G:=by rw[e];refine fo Tryz.func183 ?_;exact bz):=h
def NX(r m lo hi k:Int)(h1: -(2^58)<lo∧lo<2^58)(h2: -(2^58)<hi∧hi<2^58)(hr: -(2^62)<=r∧r<=2^62)(hmb:0<m∧m<2^58):C 514 [it r,it m,it lo,it hi,it k] (ai (B6 r m lo hi k)):=by have t:=oP (r - lo) hmb.1;have h1a:=h1.1;have h1b:=h1.2;have h2a:=hr.1;have h2b:=hr.2;have hm1:=hmb.1;have hm2:=hmb.2;have c1:=Hb (r - lo) m ⟨E,E⟩;have c2:=Dw (lo+l9 (r - lo) m) hi m k ⟨E,E⟩ ⟨E,E⟩ E E;show C 514 _ (ai (mh _ _ _ _));generalize mh (lo+l9 (r - lo) m) hi m k=X at c2 ⊢;generalize l9 (r - lo) m=M at t c1 c2;refine fo func514 ?_;exact bp
def l8(a:Av):C 201 [ai a] (it (aB a)):=by unfold aB;by_cases h:a.lo=a.hi;have b:=tE h;rw[ak h];refine fo func201 ?_;exact bz;have b:=fE h;rw[Z h];refine fo func201 ?_;exact bz
def ai5(v k:Int)(h: -(2^60)<v∧v<2^60):C 145 [.agg [it v,it k]] (ai (kM v k)):=by
 have c:C 144 [it v,it v,it 0,it k] (ai (kM v k)):=by have:=Dw v v 0 k h h E (λ_=>rfl);rwa[show mh v v 0 k=kM v k by simp[mh,kM]]at this
 refine fo func145 ?_;exact bp
def alm(k:Int):C 285 [it k] (ai (Ig k)):=by have c:=Dw (-2147483648) 2147483647 1 k ⟨E,E⟩ ⟨E,E⟩ E E;show C 285 _ (ai (mh _ _ _ _));generalize mh (-2147483648) 2147483647 1 k=X at c ⊢;refine fo func285 ?_;exact bp
def jh(r:pG):Av:=mh r.lo r.hi 1 r.mask
def N6(r:pG)(h1: -(2^60)<r.lo∧r.lo<2^60)(h2: -(2^60)<r.hi∧r.hi<2^60):C 106 [bc r] (ai (jh r)):=by have c:=Dw r.lo r.hi 1 r.mask h1 h2 E E;show C 106 _ (ai (mh _ _ _ _));generalize mh r.lo r.hi 1 r.mask=X at c ⊢;refine fo func106 ?_;exact bp
def ab4(a:Av)(v:Int)(ha:aR a)(hv: -(2^60)<v∧v<2^60):C 183 [ai a,it v] (bo (iz a v)):=by
 have h1:=ha.lo;have h2:=ha.hi;have h3:=ha.m;have hz:a.m≠0:=E
 have h4:=ha.le;have hv1:=hv.1;have hv2:=hv.2;have t:=pI (v - a.lo) (show 0<a.m by omega);by_cases b1:decide (v>=a.lo)=true;by_cases b2:decide (v<=a.hi)=true;have e:iz a v=((v - a.lo).tmod a.m==0):=(by unfold iz;rw[b1,b2];rfl);exact KJ;have b2' :decide (v<=a.hi)=false:=(by simpa using b2);have e:iz a v=false:=by unfold iz;rw[b1,b2'];rfl
 exact KJ;have b1' :decide (v>=a.lo)=false:=by simpa using b1
 have e:iz a v=false:=by unfold iz;rw[b1'];rfl
 exact KJ
def Ni(a:Int){m:Int}(h:0<m):(0<=a->0<=a.tdiv m∧a.tdiv m<=a)∧(a.tdiv m).natAbs<=a.natAbs:=by refine⟨λha=> ?_,M_ a m⟩;rw[gh ha];exact⟨yj ha E,ML m ha⟩
def W7(a:Av)(ha:aR a):C 428 [ai a] (it (iJ a)):=by
 have h1:=ha.lo;have h2:=ha.hi;have h3:=ha.m;have hz:a.m≠0:=E
 have h4:=ha.le;have t:=Ni (a.hi - a.lo) (show 0<a.m by omega);have t1:=t.1 E;have e:IntKind.i64.wrap ((a.hi - a.lo).tdiv a.m)=(a.hi - a.lo).tdiv a.m:=wrap_i64 E E;have e2:IntKind.i64.wrap ((a.hi - a.lo).tdiv a.m)+1=iJ a:=by rw[e];rfl
 have e3:iJ a=(a.hi - a.lo).tdiv a.m+1:=rfl;refine fo func428 ?_;exact bz
def BO(a b:Int):(((BitVec.ofInt IntKind.i64.bits a|||BitVec.ofInt IntKind.i64.bits b).toNat:Nat):Int)=iQ a b:=rfl
def ov(a b:Int):(((BitVec.ofInt IntKind.i64.bits a&&&BitVec.ofInt IntKind.i64.bits b).toNat:Nat):Int)=a_ a b:=rfl
def Tm(a b:Int):(((BitVec.ofInt IntKind.i64.bits a&&& ~~~BitVec.ofInt IntKind.i64.bits b).toNat:Nat):Int)=kq a b:=rfl
def NZ(a b:Av)(ha:aR a)(hb:aR b):C 143 [ai a,ai b] (ai (fG a b)):=by
 have h1:=ha.lo;have h2:=ha.hi;have h4:=ha.le;have g1:=hb.lo;have g2:=hb.hi;have g4:=hb.le;have s1:=gM ha;have s2:=gM hb;have o:=or8 ha.k0 ha.k1 hb.k0 hb.k1;have oe:=BO a.mask b.mask;have c1:=l8 a;have c2:=l8 b;have c3:=Ea (a.lo - b.lo) ⟨E,E⟩;have e3:=kY (a.lo - b.lo);have hle:dH (aB a) [aB b,aT (a.lo - b.lo)]<2^40:=by by_cases z:aB a=0;by_cases z2:aB b=0;by_cases z3:aT (a.lo - b.lo)=0;rw[z,z2,z3];decide;exact Vd;exact U2;exact U0
 have c4:=Cf (aB a) [aB b,aT (a.lo - b.lo)] O E (λx hx=>RQ) E;have z0:((dH (aB a) [aB b,aT (a.lo - b.lo)]:Nat):Int)<=0->(if b.lo<a.lo then b.lo else a.lo)=(if b.hi>a.hi then b.hi else a.hi):=λh=>by obtain⟨e1,e2⟩:=lU (a:=aB a) (l:=[aB b,aT (a.lo - b.lo)]) E;have e4:=s1.2.2.1 e1;have e5:=s2.2.2.1 (e2 _ O);have e6:=e2 (aT (a.lo - b.lo)) O;split<;>split<;>omega
 have c5:=Dw (if b.lo<a.lo then b.lo else a.lo) (if b.hi>a.hi then b.hi else a.hi) (dH (aB a) [aB b,aT (a.lo - b.lo)]) (iQ a.mask b.mask) ⟨i_,i_⟩ ⟨i_,i_⟩ E z0;unfold fG;rw[<-kY];generalize mh (if b.lo<a.lo then b.lo else a.lo) (if b.hi>a.hi then b.hi else a.hi) (dH (aB a) [aB b,aT (a.lo - b.lo)]) (iQ a.mask b.mask)=X at c5 ⊢;generalize dH (aB a) [aB b,aT (a.lo - b.lo)]=G at c4 c5;generalize aT (a.lo - b.lo)=D at c3 c4;generalize aB a=S at c1 c4;generalize aB b=T at c2 c4;refine fo func143 ?_;exact bp
def asa(a b:Av):Bool:=a.lo==b.lo&&(a.hi==b.hi&&(a.m==b.m&&(a.r==b.r&&(a.mask==b.mask&&true))))
def HU(a b:Av):asa a b=decide (a=b):=by cases a;cases b;unfold asa;rw[Bool.eq_iff_iff];simp
def sr(a b:Av):Bool:=decide (fG a b=b)
def al6(a b:Av)(ha:aR a)(hb:aR b):C 73 [ai a,ai b] (bo (sr a b)):=by have c:=NZ a b ha hb;unfold sr;rw[<-HU];generalize fG a b=J at c ⊢;refine fo func73 ?_;exact bp
def aat(h:G:=by by_cases e:a.lo=a.hi;have:=(ha.one e).1;omega;have:=ha.many (by omega);omega):=h
def VF(h:G:=by unfold qP;rw[ak h]):=h
def Zn(h:G:=by refine aM ?_;refine⟨⟨n+1,by omega⟩,hm',?_⟩;have qV:=aL (λx=>some (it x)) vs;have Iu:=aL (λx=>some (bo x.isSome)) e1.symm;have zz3:=aL (λx=>some (ai (NC x))) e1.symm;exact zh2):=h
def wrap64(x:Int):IntKind.i64.wrap x=Ir x:=by simp[IntKind.wrap,IntKind.bits,IntKind.signed,Ir,Bb];omega
def am2(x:Int): -(2^63)<=Ir x∧Ir x<2^63:=by have h1:Ir x<2^63:=Int.bmod_lt (x:=x) (m:=2^64) aw;have h2: -(2^63)<=Ir x:=Int.le_bmod (x:=x) (m:=2^64) aw;exact⟨h2,h1⟩
structure IK where
 n:Nat
 x:Int
 y:Int
 a:Int
 r:Int
def ar2(a m:Int)(ha:0<=a∧a<2^40)(hmb:0<m∧m<2^40):C 430 [it a,it m] (it (El a m)):=by
 have hm1:=hmb.1;have hm2:=hmb.2;unfold El;by_cases h1:m=1;have b1:=tE h1;rw[ak h1];refine fo func430 ?_;exact bz;have b1:=fE h1;have hz:m≠0:=E
 have t:=Bx ha.1 hm1;have c:=λx=>Hb x m ⟨hm1,E⟩;rw[Z h1];generalize hR:Hv (m.toNat+2) 1 0 (a.tmod m) m=R;refine fo func430 ?_;refine run ?_;refine bF.mk ⟨[],aY.lp (λi:IK=>Hv i.n i.x i.y i.a i.r=R∧(0<=i.a∧i.a<2^40)∧(0<=i.r∧i.r<2^40)∧i.r.toNat<i.n) (λi=>⟨[(5,it i.x),(6,it i.y),(0,it i.a),(7,it i.r)],[],[]⟩) (λi=>i.r.toNat) ⟨m.toNat+2,1,0,a.tmod m,m⟩ ⟨hR,⟨t.1,bu⟩,⟨bu,bu⟩,bu⟩ ?_⟩;intro i hJ;have j1:=hJ.1;have j2:=hJ.2.1.1;have j3:=hJ.2.1.2;have j4:=hJ.2.2.1.1;have j5:=hJ.2.2.1.2;have j6:=hJ.2.2.2;have hn:i.n=(i.n - 1)+1:=E
 by_cases hr:i.r=0;have b2:(!(i.r==0))=false:=(by rw[hr];rfl);have e:i.x=R:=by rw[<-j1,hn,Hv,ak hr]
 have c' :=c i.x;refine aM ?_;exact fP.mk (aL (λx=>it (l9 x m)) e) rfl;have b2:(!(i.r==0))=true:=(by simp;exact hr);have hp:0<i.r:=E
 have td:=Ni i.a hp;have td1:=td.1 j2;have tm:=Bx j2 hp;have eq:=Fx i.a i.r;have w1:IntKind.i64.wrap (i.a.tdiv i.r)=i.a.tdiv i.r:=wrap_i64 E E;have e1:IntKind.i64.wrap (i.a.tdiv i.r)*i.r=i.a - i.a.tmod i.r:=by rw[w1,Int.mul_comm];omega
 have e2:i.a - (i.a - i.a.tmod i.r)=i.a.tmod i.r:=E;have e3:Unit->IntKind.i64.wrap (i.x - IntKind.i64.wrap (IntKind.i64.wrap (i.a.tdiv i.r)*i.y))=Ir (i.x - Ir (i.a.tdiv i.r*i.y)):=λ_=>by rw[w1,wrap64,wrap64]
 clear eq w1;have hm' :(i.a.tmod i.r).toNat<i.r.toNat:=E
 refine run ?_;refine Arith.mk ?_;refine run ?_;refine Arith.mk ?_;refine run ?_;refine⟨⟨⟨i.n - 1,i.y,IntKind.i64.wrap (i.x - IntKind.i64.wrap (IntKind.i64.wrap (i.a.tdiv i.r)*i.y)),i.r,i.a.tmod i.r⟩,⟨by show Hv _ _ _ _ _=_;rw[e3 (),<-j1,hn,Hv,Z hr];rfl,⟨j4,j5⟩,⟨tm.1,bu⟩,bu⟩⟩,hm',?_⟩;exact vQ
def anu(a:Int){m:Int}(h:0<m):0<=El a m∧El a m<m:=by unfold El;split;omega;exact oP _ h
def CE(a:Av)(k:Nat):Int:=a.lo+k*a.m
def apu(a:Av)(k:Nat):CE a k+a.m=CE a (k+1):=by unfold CE;rw[Int.natCast_add,Int.add_mul];exact az
def am5{a:Av}(ha:aR a)(k:Nat):a.lo<=CE a k∧(CE a k<=a.hi↔k<(iJ a).toNat):=by have h1:=ha.m;have h2:=ha.le;have h3:0<=(k:Int)*a.m:=oE E E;have h4:(a.hi - a.lo).tdiv a.m=(a.hi - a.lo) / a.m:=gh E;have h5:0<=(a.hi - a.lo) / a.m:=yj E E;unfold CE iJ;rw[h4];refine⟨E,?_⟩;have h6:=Int.le_ediv_iff_mul_le (a:=(k:Int)) (b:=a.hi - a.lo) (c:=a.m) E;constructor;intro h;have:=h6.2 E;omega;intro h;have:=h6.1 E;omega
def aoc{b:Av}{k v:Int}{o:Option Av}(h:iz b v=false):qP b k o v=o:=by unfold qP;rw[Z (by rw[h];simp)]
def aj5{b:Av}{k v:Int}(h:iz b v=true):qP b k none v=some (kM v k):=VF
def aj4{b:Av}{k v:Int}{x:Av}(h:iz b v=true):qP b k (some x) v=some (fG x (kM v k)):=VF
def NC(o:Option Av):Av:=o.getD zA
def ald(a b:Av)(k:Int)(ha:aR a)(hb:aR b)(hk:0<=k∧k<=255):C 429 [ai a,ai b,it k] (.bS [ai (NC (Oh a b k)),bo (Oh a b k).isSome]):=by
 have h1:=ha.lo;have h2:=ha.hi;have h3:=ha.m;have h4:=ha.le;have hmh:a.m<=4294967296:=aat
 refine fo func429 ?_;refine run ?_;refine bF.mk ⟨[],aY.lp (λn:Nat=>n<=(iJ a).toNat) (λn=>⟨[(10,it (CE a n)),(9,bo (km a b k n).isSome)],[(8,ai (NC (km a b k n)))],[]⟩) (λn=>(iJ a).toNat - n) 0 (dM _) ?_ (by
  have e:CE a 0=a.lo:=by simp[CE]
  repeat' (first|exact trivial|exact rfl|exact aL (λx=>some (it x)) e.symm|refine⟨?_,?_⟩|refine⟨?_,?_,?_⟩))⟩
 intro n hn;have bd:=am5 ha n;have bd1:=bd.1;have vs:=apu a n;by_cases hv:CE a n<=a.hi
 ·have b1:=tB hv;have hlt:=bd.2.1 hv;have hm' :(iJ a).toNat - (n+1)<(iJ a).toNat - n:=by omega
  have cw:=ab4 b (CE a n) hb ⟨E,E⟩;have fs:km a b k (n+1)=qP b k (km a b k n) (CE a n):=rfl;by_cases hw:iz b (CE a n)=true
  ·have b2:(!iz b (CE a n))=false:=EU;have co:C 144 [it (CE a n),it (CE a n),it 0,it k] (ai (kM (CE a n) k)):=by have:=Dw (CE a n) (CE a n) 0 k ⟨E,E⟩ ⟨E,E⟩ E (λ_=>rfl);rwa[show mh (CE a n) (CE a n) 0 k=kM (CE a n) k by simp[mh,kM]]at this
   have oo:aR (kM (CE a n) k):=jy E E hk.1 hk.2;have key:km a b k n=none∨∃x,km a b k n=some x:=by cases km a b k n<;>simp
   refine key.elim (λhf=> ?_) (λhx=>hx.elim λx hf=> ?_);have b3:(km a b k n).isSome=false:=(by rw[hf];rfl);have e1:km a b k (n+1)=some (kM (CE a n) k):=by rw[fs,hf,aj5 hw]
   exact Zn
   ·have b3:(km a b k n).isSome=true:=(by rw[hf];rfl);have e0:NC (km a b k n)=x:=by rw[hf];rfl
    have e1:km a b k (n+1)=some (fG x (kM (CE a n) k)):=(by rw[fs,hf,aj4 hw]);have cj:=NZ x (kM (CE a n) k) (Og ha hk.1 hk.2 n hn x hf) oo;have e2:(km a b k n).isSome=(km a b k (n+1)).isSome:=by rw[b3,e1];rfl
    have e4:fG (NC (km a b k n)) (kM (CE a n) k)=NC (km a b k (n+1)):=(by rw[e0,e1];rfl);rw[<-e0]at cj;refine aM ?_;refine⟨⟨n+1,E⟩,hm',?_⟩;repeat' (first|exact trivial|exact rfl|exact aL (λx=>some (it x)) vs|exact aL (λx=>some (bo x)) e2|exact aL (λx=>some (ai x)) e4|exact aL (λx=>some (bo x.isSome)) e1.symm|exact aL (λx=>some (ai (NC x))) e1.symm|refine And.intro ?_ ?_|refine Holds.mk ?_ ?_ ?_)
  have b2:(!iz b (CE a n))=true:=(by simp at hw;rw[hw];rfl);have e1:km a b k (n+1)=km a b k n:=by rw[fs,aoc (by simpa using hw)]
  exact Zn
 have b1:=fB hv;have e:n=(iJ a).toNat:=by have:=bd.2;omega
 subst e;exact bz
def AZ(h:G:=by simpa using z1):=h
def xR(h:G:=by simp at hx;subst hx;omega):=h
def AD(h:G:=by refine fo Tryz.func364 ?_;exact bp):=h
def EB(h:G:=by refine fo Tryz.func460 ?_;exact bp):=h
def KA(h:G:=by refine fo Tryz.func461 ?_;exact bp):=h
def Ei(o:Option Av):au:= .bS [ai (NC o),bo o.isSome]
def mul_lt{x y n m:Int}(hx:0<=x∧x<n)(hy:0<=y∧y<m):0<=x*y∧x*y<=n*m:=by refine⟨oE hx.1 hy.1,?_⟩;exact sM E E hy.1 E
def NP(a b:Av)(ha:aR a)(hb:aR b):C 364 [ai a,ai b] (Ei (jf a b)):=by
 have h1:=ha.lo;have h2:=ha.hi;have h4:=ha.le;have h5:=ha.m;have g1:=hb.lo;have g2:=hb.hi;have g4:=hb.le;have g5:=hb.m;have k8:=ak9 (a:=a.mask) hb.k0 hb.k1;have ke:=ov a.mask b.mask;have ca:=W7 a ha;have cb:=W7 b hb;unfold Ei;by_cases z1:iJ a<=64;have b1:=tB z1;have c:=ald a b (a_ a.mask b.mask) ha hb k8;have e:jf a b=Oh a b (a_ a.mask b.mask):=ak z1;rw[e];generalize Oh a b (a_ a.mask b.mask)=X at c ⊢;exact AD;have b1:=fB z1;by_cases z2:iJ b<=64;have b2:=tB z2;have c:=ald b a (a_ a.mask b.mask) hb ha k8;have e:jf a b=Oh b a (a_ a.mask b.mask):=(Z z1).trans (ak z2);rw[e];generalize Oh b a (a_ a.mask b.mask)=X at c ⊢;exact AD;have b2:=fB z2;have am:=QI ha z1;have bm:=QI hb z2;obtain⟨q1,q2,q3,q4,q5,q6,q7⟩:=O4 h5 g5;have cg:=Cf a.m [b.m] O ⟨E,E⟩ (λx hx=>xR) E;have hzg:((dH a.m [b.m]:Nat):Int)≠0:=E
 by_cases z3:(b.lo - a.lo).tmod (im a b)≠0;have e:jf a b=none:=(Z z1).trans ((Z z2).trans (ak z3));have b3:(!((b.lo - a.lo).tmod (im a b)==0))=true:=by simpa using z3
 rw[e];unfold im at b3 z3;generalize ((dH a.m [b.m]:Nat):Int)=G at*;have t:=pI (b.lo - a.lo) (show 0<G by omega);exact AD;have b3:(!((b.lo - a.lo).tmod (im a b)==0))=false:=by simpa using z3
 have hN:0<h_ a b∧h_ a b<2^26:=⟨aaj,by show b.m.tdiv _<_;exact Int.lt_of_le_of_lt q5 bm⟩;have w1:IntKind.i64.wrap (b.m.tdiv (im a b))=h_ a b:=wrap_i64 (by have:=hN.1;show -(2^63)<=h_ a b;omega) (by have:=hN.2;show h_ a b<_;omega);have td:=Ni (b.lo - a.lo) (show 0<im a b by show 0<((dH a.m [b.m]:Nat):Int);omega);have w2:IntKind.i64.wrap ((b.lo - a.lo).tdiv (im a b))=(b.lo - a.lo).tdiv (im a b):=wrap_i64 E E;have hA:0<=a.m.tdiv (im a b)∧a.m.tdiv (im a b)<2^26:=⟨by show 0<=a.m.tdiv ((dH a.m [b.m]:Nat):Int);omega,by show a.m.tdiv ((dH a.m [b.m]:Nat):Int)<_;omega⟩;have w3:IntKind.i64.wrap (a.m.tdiv (im a b))=a.m.tdiv (im a b):=wrap_i64 E E;have m1:=oP ((b.lo - a.lo).tdiv (im a b)) hN.1;have i1:=anu (a.m.tdiv (im a b)) hN.1;have m2:=oP (l9 ((b.lo - a.lo).tdiv (im a b)) (h_ a b)*El (a.m.tdiv (im a b)) (h_ a b)) hN.1;have c1:=Hb ((b.lo - a.lo).tdiv (im a b)) (h_ a b) ⟨hN.1,E⟩;have c2:=ar2 (a.m.tdiv (im a b)) (h_ a b) ⟨hA.1,E⟩ ⟨hN.1,E⟩;have p1:=mul_lt (n:=2^26) (m:=2^26) (show 0<=l9 ((b.lo - a.lo).tdiv (im a b)) (h_ a b)∧_ from⟨m1.1,E⟩) (show 0<=El (a.m.tdiv (im a b)) (h_ a b)∧_ from⟨i1.1,E⟩);have c3:=Hb (l9 ((b.lo - a.lo).tdiv (im a b)) (h_ a b)*El (a.m.tdiv (im a b)) (h_ a b)) (h_ a b) ⟨hN.1,E⟩;have e0:jf a b=if wW a b>mn a.hi b.hi then none else some (mh (wW a b) (mn a.hi b.hi) (a.m*h_ a b) (a_ a.mask b.mask)):=(Z z1).trans ((Z z2).trans (Z z3))
 have eF:wW a b=mx a.lo b.lo+l9 (a.lo+a.m*zc a b - mx a.lo b.lo) (a.m*h_ a b):=rfl;have eK:zc a b=l9 (l9 ((b.lo - a.lo).tdiv (im a b)) (h_ a b)*El (a.m.tdiv (im a b)) (h_ a b)) (h_ a b):=rfl;rw[<-eK]at c3 m2;have hG:((dH a.m [b.m]:Nat):Int)=im a b:=rfl;rw[hG]at cg hzg q1;have p2:=mul_lt (n:=2^26) (m:=2^26) (show 0<=a.m∧_ from⟨E,am⟩) (show 0<=zc a b∧_ from⟨m2.1,E⟩);have p3:=mul_lt (n:=2^26) (m:=2^26) (show 0<=a.m∧_ from⟨E,am⟩) (show 0<=h_ a b∧_ from⟨E,hN.2⟩);have p4:0<a.m*h_ a b:=Int.mul_pos E hN.1;have m4:=oP (a.lo+a.m*zc a b - mx a.lo b.lo) p4;have c4:=Hb (a.lo+a.m*zc a b - mx a.lo b.lo) (a.m*h_ a b) ⟨p4,E⟩;have l1:=qi a.lo b.lo;have l1' :mx a.lo b.lo<=2^32:=lL
 have l2:=zb a.hi b.hi;have l2' : -(2^32)<=mn a.hi b.hi:=uQ
 have c5:=Dw (wW a b) (mn a.hi b.hi) (a.m*h_ a b) (a_ a.mask b.mask) ⟨E,E⟩ ⟨E,E⟩ E E;have x1:(if b.lo>a.lo then b.lo else a.lo)=mx a.lo b.lo:=rfl;have x2:(if b.hi<a.hi then b.hi else a.hi)=mn a.hi b.hi:=rfl;rw[e0];generalize mh (wW a b) (mn a.hi b.hi) (a.m*h_ a b) (a_ a.mask b.mask)=X at*;generalize wW a b=F at*;generalize zc a b=K at*;generalize h_ a b=N at*;generalize im a b=G at*;have c1' :C 203 [it (IntKind.i64.wrap ((b.lo - a.lo).tdiv G)),it (IntKind.i64.wrap (b.m.tdiv G))] (it (l9 ((b.lo - a.lo).tdiv G) N)):=by rw[w1,w2];exact c1
 have c2' :C 430 [it (IntKind.i64.wrap (a.m.tdiv G)),it (IntKind.i64.wrap (b.m.tdiv G))] (it (El (a.m.tdiv G) N)):=by rw[w1,w3];exact c2
 generalize l9 ((b.lo - a.lo).tdiv G) N=M1 at*;generalize El (a.m.tdiv G) N=I1 at*;have c3' :C 203 [it (M1*I1),it (IntKind.i64.wrap (b.m.tdiv G))] (it K):=by rw[w1];exact c3
 generalize l9 (a.lo+a.m*K - mx a.lo b.lo) (a.m*N)=M4 at*;have y1:a.m*IntKind.i64.wrap (b.m.tdiv G)=a.m*N:=by rw[w1]
 have t:=pI (b.lo - a.lo) (show 0<G by omega);have eF' :(if b.lo>a.lo then b.lo else a.lo)+M4=F:=eF.symm;clear eF w1 w2 w3 c1 c2 c3 hG eK e0 ke;have ke:=ov a.mask b.mask;by_cases z4:F>mn a.hi b.hi;have b4:decide (F>if b.hi<a.hi then b.hi else a.hi)=true:=tB z4;rw[ak z4];exact AD;have b4:decide (F>if b.hi<a.hi then b.hi else a.hi)=false:=fB z4;rw[Z z4];exact AD
def OB(a:Av)(lo hi:Int)(ha:aR a)(hl: -(2^40)<lo∧lo<2^40)(hh: -(2^40)<hi∧hi<2^40):C 487 [ai a,it lo,it hi] (Ei (ko a lo hi)):=by
 have h1:=ha.lo;have h2:=ha.hi;have h4:=ha.le;have h5:=ha.m;have hb1:=hl.1;have hb2:=hl.2;have hb3:=hh.1;have hb4:=hh.2;have hmh:a.m<=4294967296:=aat
 have t:=oP (a.lo - mx a.lo lo) (show 0<a.m by omega);have c1:=Hb (a.lo - mx a.lo lo) a.m ⟨E,E⟩;have l1:=qi a.lo lo;have l1' :mx a.lo lo<=2^40:=lL
 have l2:=zb a.hi hi;have l2' : -(2^40)<=mn a.hi hi:=uQ
 have eC:lC a lo=mx a.lo lo+l9 (a.lo - mx a.lo lo) a.m:=rfl;have c2:=Dw (lC a lo) (mn a.hi hi) a.m a.mask ⟨E,E⟩ ⟨E,E⟩ E E;unfold Ei ko;generalize mh (lC a lo) (mn a.hi hi) a.m a.mask=X at*;generalize lC a lo=F at*;generalize l9 (a.lo - mx a.lo lo) a.m=M at*;have eF:(if lo>a.lo then lo else a.lo)+M=F:=eC.symm;have y1:(if lo>a.lo then lo else a.lo)<=2^40:=l1';have y2:a.lo<=(if lo>a.lo then lo else a.lo):=l1.1;clear eC;by_cases z4:F>mn a.hi hi;have b4:decide (F>if hi<a.hi then hi else a.hi)=true:=tB z4;rw[ak z4];refine fo func487 ?_;exact bp;have b4:decide (F>if hi<a.hi then hi else a.hi)=false:=fB z4;rw[Z z4];refine fo func487 ?_;exact bp
def vr(o:Option (Av×Av)):au:= .bS [ai (o.getD (zA,zA)).1,ai (o.getD (zA,zA)).2,bo o.isSome]
def ae2(a b:Av)(d:Int)(ha:aR a)(hb:aR b)(hd: -1<=d∧d<=2):C 461 [ai a,ai b,it d] (vr (rY a b d)):=by
 have h1:=ha.lo;have h2:=ha.hi;have h4:=ha.le;have g1:=hb.lo;have g2:=hb.hi;have g4:=hb.le;have d1:=hd.1;have d2:=hd.2;have c1:=OB a (-2147483648) (b.hi - d) ha ⟨E,E⟩ ⟨E,E⟩;have c2:=OB b (a.lo+d) 2147483647 hb ⟨E,E⟩ ⟨E,E⟩;have e:rY a b d=match ko a (-2147483648) (b.hi - d),ko b (a.lo+d) 2147483647 with|some x,some y=>some (x,y)|_,_=>none:=rfl
 rw[e];clear e;unfold Ei at c1 c2;generalize ko a (-2147483648) (b.hi - d)=X at c1 ⊢;generalize ko b (a.lo+d) 2147483647=Y at c2 ⊢;unfold vr;cases X with|none=>exact KA|some x=>cases Y with|none=>exact KA|some y=>exact KA
def I8(a b:Av)(ha:aR a):C 460 [ai a,ai b] (Ei (gY a b)):=by
 have h1:=ha.lo;have h2:=ha.hi;have h4:=ha.le;have cs:=l8 b;unfold gY;by_cases z1:aB b≠0;have b1:(!(aB b==0))=true:=AZ
 rw[ak z1];exact EB;have b1:(!(aB b==0))=false:=AZ
 rw[Z z1];by_cases z2:a.lo=b.lo;have b2:=tE z2;have c:=OB a (a.lo+1) 2147483647 ha ⟨E,E⟩ ⟨E,E⟩;rw[ak z2];show C 460 _ (Ei (ko a (a.lo+1) 2147483647));unfold Ei at c ⊢;generalize ko a (a.lo+1) 2147483647=X at c ⊢;exact EB;have b2:=fE z2;rw[Z z2];by_cases z3:a.hi=b.lo;have b3:=tE z3;have c:=OB a (-2147483648) (a.hi - 1) ha ⟨E,E⟩ ⟨E,E⟩;rw[ak z3];show C 460 _ (Ei (ko a (-2147483648) (a.hi - 1)));unfold Ei at c ⊢;generalize ko a (-2147483648) (a.hi - 1)=X at c ⊢;exact EB;have b3:=fE z3;rw[Z z3];exact EB
def ajd(a b:Av)(ha:aR a)(hb:aR b):C 459 [ai a,ai b] (vr (equalA a b)):=by have c:=NP a b ha hb;unfold equalA;unfold Ei at c;generalize jf a b=X at c ⊢;unfold vr;cases X with|none=>refine fo func459 ?_;exact bp|some x=>refine fo func459 ?_;exact bp
def aa9(h:G:=by rw[Int.natAbs_mul];exact Bf h1 h2):=h
def VI(h:G:=by unfold G5;simp;split<;>rfl):=h
def aG(h:G:=by exact fP.mk rfl rfl):=h
def sC(h:G:=by refine atl.mk ⟨_,_,rfl,?_⟩;exact bp):=h
def ph(h:G:=by refine fo Tryz.func422 ?_;exact bp):=h
theorem aca(op:Int)(h:Bool)(a b:Av)(ha:aR a)(hb:aR b):C 422 [it op,bo h,ai a,ai b] (vr (mK op h a b)):=by
 by_cases z1:op=4
 ·have b1:=tE z1;subst z1;cases h with
  |true=>have c:=ajd a b ha hb;show C 422 _ (vr (equalA a b));unfold vr at c ⊢;generalize equalA a b=X at c ⊢;exact ph
  |false=>
   have c1:=I8 a b ha;have hX:=λx (e:gY a b=some x)=>zw ha e;have c2:=λx=>I8 b x hb
   show C 422 _ (vr (match gY a b with
    |none=>none|some x=>match gY b x with|none=>none|some y=>some (x,y)))
   unfold Ei at c1 c2;generalize gY a b=X at*;cases X with
   |none=>show C 422 _ (vr none);unfold vr;exact ph
   |some x=>
    have c3:=c2 x
    show C 422 _ (vr (match gY b x with
     |none=>none|some y=>some (x,y)))
    clear c2;generalize gY b x=Y at*;cases Y with|none=>show C 422 _ (vr none);unfold vr;exact ph|some y=>show C 422 _ (vr (some (x,y)));unfold vr;exact ph
 have b1:=fE z1;by_cases z2:op=2∨op=3
 ·have e:mK op h a b=if h then rY a b (3 - op)else match rY b a (1 - (3 - op))with|some (y,x)=>some (x,y)|none=>none:=(Z z1).trans (ak z2)
  rw[e];cases h with
  |true=>
   have c:=ae2 a b (3 - op) ha hb E;show C 422 _ (vr (rY a b (3 - op)));unfold vr at c ⊢;generalize rY a b (3 - op)=X at c ⊢;rcases z2 with rfl|rfl;exact ph
   exact ph
  |false=>
   have c:=ae2 b a (1 - (3 - op)) hb ha E
   show C 422 _ (vr (match rY b a (1 - (3 - op))with
    |some (y,x)=>some (x,y)|none=>none))
   unfold vr at c ⊢;generalize rY b a (1 - (3 - op))=X at c ⊢;rcases z2 with rfl|rfl;cases X with|none=>exact ph|some x=>exact ph
   cases X with|none=>exact ph|some x=>exact ph
 have e:mK op h a b=some (a,b):=by unfold mK;rw[Z z1,Z z2]
 have b2:(!(op==2))=true:=az
 have b3:(!(op==3))=true:=az
 rw[e];refine fo func422 ?_;exact bz
def wrap32(x:Int):IntKind.i32.wrap x=As x:=by simp[IntKind.wrap,IntKind.bits,IntKind.signed,As,Bb];omega
def u_(v:Int):C 468 [it v] (it (As v)):=by have e:=wrap32 v;have bd:=Nf v;unfold MI MA at bd;have bd1:=bd.1;have bd2:=bd.2;refine fo func468 ?_;refine run ?_;refine Arith.mk ?_;exact bz
def BV(n:FuncId):au:= .gD (.func n) [] []
def an7:List au:=[.me (it 4) (BV 504),.me (it 5) (BV 505),.me (it 6) (BV 506),.me (it 7) (BV 507),.me (it 8) (BV 508),.me (it 9) (BV 509),.me (it 10) (BV 510)]
def acy:aj prog 490 [] fV (.dQ 1000) ⟨[],[⟨0,true,an7⟩]⟩:=by
 refine d_ hm func490 (λ_=>false) [true] (λ_=>[]) aA ?_;refine run ?_;repeat(refine oB.mk ⟨none,rfl,?_⟩;refine run ?_)
 exact aG
def atd(a b:Int)(ha: -(2^40)<a∧a<2^40)(hb: -(2^40)<b∧b<2^40):C 504 [it a,it b] (it (a+b)):=by refine fo func504 ?_;exact bz
def apx(a b:Int)(ha: -(2^40)<a∧a<2^40)(hb: -(2^40)<b∧b<2^40):C 505 [it a,it b] (it (a - b)):=by refine fo func505 ?_;exact bz
def aqm(a b:Int)(h: -(2^63)<=a*b∧a*b<2^63):C 506 [it a,it b] (it (a*b)):=by refine fo func506 ?_;exact bz
def ase(a b:Int)(ha: -(2^40)<a∧a<2^40):C 507 [it a,it b] (it (if b=0 then 0 else a.tdiv b)):=by by_cases h:b=0;have b1:=tE h;rw[ak h];refine fo func507 ?_;exact bz;have b1:=fE h;have t:(a.tdiv b).natAbs<=a.natAbs:=M_ a b;have e:IntKind.i64.wrap (a.tdiv b)=a.tdiv b:=wrap_i64 E E;rw[Z h];refine fo func507 ?_;refine run ?_;exact fP.mk (aL it e) rfl
def aqo(a b:Int):C 508 [it a,it b] (it (if b=0 then a else a.tmod b)):=by by_cases h:b=0;have b1:=tE h;rw[ak h];refine fo func508 ?_;exact bz;have b1:=fE h;rw[Z h];refine fo func508 ?_;exact bz
def aqs(a b:Int):C 509 [it a,it b] (it (mn a b)):=by refine fo func509 ?_;exact bz
def aqt(a b:Int):C 510 [it a,it b] (it (mx a b)):=by refine fo func510 ?_;exact bz
def ahj{a b:Int}(ha:MI<=a∧a<=MA)(hb:MI<=b∧b<=MA): -(2^63)<=a*b∧a*b<2^63:=by
 unfold MI MA at*;have h1:a.natAbs<=2147483648:=E
 have h2:b.natAbs<=2147483648:=E
 have h3:(a*b).natAbs<=2147483648*2147483648:=aa9
 omega
def ai6(op a b:Int)(h:4<=op∧op<=10):C 471 [it op,it a,it b] (it (za op a b)):=by
 have cm:=acy;have w1:=u_ a;have w2:=u_ b;have ba:=Nf a;have bb:=Nf b;have bm:=ahj ba bb;unfold MI MA at ba bb;unfold za;generalize As a=x at*;generalize As b=y at*;have hop:op=4∨op=5∨op=6∨op=7∨op=8∨op=9∨op=10:=E
 rcases hop with rfl|rfl|rfl|rfl|rfl|rfl|rfl;have c:=atd x y ⟨E,E⟩ ⟨E,E⟩;have w:=u_ (x+y);show C 471 _ (it (As (x+y)));refine fo func471 ?_;refine aM ?_;refine oB.mk ⟨some 0,rfl,?_⟩;exact sC
 have c:=apx x y ⟨E,E⟩ ⟨E,E⟩;have w:=u_ (x - y);show C 471 _ (it (As (x - y)));refine fo func471 ?_;refine aM ?_;refine oB.mk ⟨some 1,rfl,?_⟩;exact sC;have c:=aqm x y bm;have w:=u_ (x*y);show C 471 _ (it (As (x*y)));refine fo func471 ?_;refine aM ?_;refine oB.mk ⟨some 2,rfl,?_⟩;exact sC;have c:=ase x y ⟨E,E⟩;have w:=u_ (if y=0 then 0 else x.tdiv y);have e:G5 7 x y=As (if y=0 then 0 else x.tdiv y):=VI
 rw[e];generalize (if y=0 then 0 else x.tdiv y)=z at*;refine fo func471 ?_;refine aM ?_;refine oB.mk ⟨some 3,rfl,?_⟩;exact sC;have c:=aqo x y;have w:=u_ (if y=0 then x else x.tmod y);have e:G5 8 x y=As (if y=0 then x else x.tmod y):=VI
 rw[e];generalize (if y=0 then x else x.tmod y)=z at*;refine fo func471 ?_;refine aM ?_;refine oB.mk ⟨some 4,rfl,?_⟩;exact sC;have c:=aqs x y;have w:=u_ (mn x y);show C 471 _ (it (As (mn x y)));refine fo func471 ?_;refine aM ?_;refine oB.mk ⟨some 5,rfl,?_⟩;exact sC;have c:=aqt x y;have w:=u_ (mx x y);show C 471 _ (it (As (mx x y)));refine fo func471 ?_;refine aM ?_;refine oB.mk ⟨some 6,rfl,?_⟩;exact sC
def Ue(h:G:=by generalize pY lo=V1 at*;generalize pY hi=V2 at*;subst z1 z2;refine fo Tryz.func512 ?_;exact bp):=h
def zh(a b:Av)(k:Int):au:= .agg [it a.lo,it a.hi,it a.m,it a.r,it a.mask,it b.lo,it b.hi,it b.m,it b.r,it b.mask,it k]
def ap4(lo hi m k:Int)(h1: -(2^59)<lo∧lo<2^59)(h2: -(2^59)<hi∧hi<2^59)(hle:lo<=hi)(h3:m<2^63)(h0:m<=0->lo=hi):C 144 [it lo,it hi,it m,it k] (ai (mh lo hi m k)):=by
 by_cases hb:m<2^60;exact Dw lo hi m k ⟨E,E⟩ ⟨E,E⟩ hb h0;have b1:=tB (show m>0 by omega);have hz:m≠0:=E
 have e:(hi - lo).tmod m=hi - lo:=by rw[Gi E];exact Fm E E
 have e2:hi - (hi - lo).tmod m=lo:=E
 have b2:=tE (show lo=lo from rfl);have r:mh lo hi m k=⟨lo,lo,1,0,k⟩:=by unfold mh;rw[ak E,e2,ak rfl]
 rw[r];exact KI
def OG(a b:Av)(k lo hi m:Int)(h:lo<=hi)(h1: -(2^62)<=lo∧lo<=2^62)(h2: -(2^62)<=hi∧hi<=2^62)(hmb:0<=m∧m<2^63)(h0:m=0->lo=hi):C 512 [zh a b k,it lo,it hi,it m] (ai (o_ lo hi m k)):=by
 have c1:=FD lo;have c2:=FD hi;unfold o_;by_cases z1:pY lo=true;by_cases z2:pY hi=true;have y1:=z1;have y2:=z2;simp only[pY,aX,wu]at y1 y2;have c3:=ap4 lo hi m k ⟨E,E⟩ ⟨E,E⟩ h hmb.2 (λq=>h0 E);rw[ak (by rw[z1,z2];rfl)];clear y1 y2;generalize mh lo hi m k=X at*;exact Ue;have z2:pY hi=false:=(by simpa using z2);have g:=aex m;have cg:=Cf 4294967296 [m] O ⟨E,E⟩ (λx hx=>xR) E;have c3:=NX lo (dH 4294967296 [m]) (-2147483648) 2147483647 k ⟨E,E⟩ ⟨E,E⟩ h1 ⟨E,E⟩;rw[Z (by rw[z2];simp)];show C 512 _ (ai (B6 lo (dH 4294967296 [m]) (-2147483648) 2147483647 k));generalize B6 lo (dH 4294967296 [m]) (-2147483648) 2147483647 k=X at*;generalize ((dH 4294967296 [m]:Nat):Int)=G at*;exact Ue;have z1:pY lo=false:=AZ
 have g:=aex m;have cg:=Cf 4294967296 [m] O ⟨E,E⟩ (λx hx=>xR) E;have c3:=NX lo (dH 4294967296 [m]) (-2147483648) 2147483647 k ⟨E,E⟩ ⟨E,E⟩ h1 ⟨E,E⟩;rw[Z (by rw[z1];simp)];show C 512 _ (ai (B6 lo (dH 4294967296 [m]) (-2147483648) 2147483647 k));generalize B6 lo (dH 4294967296 [m]) (-2147483648) 2147483647 k=X at*;generalize ((dH 4294967296 [m]:Nat):Int)=G at*;generalize pY lo=V1 at*;clear c2;subst z1;refine fo func512 ?_;exact bp
def gst{a b:Av}(ha:aR a)(hb:aR b):dH (aB a) [aB b]<2^40∧(((dH (aB a) [aB b]:Nat):Int)=0->a.lo=a.hi∧b.lo=b.hi):=by have s1:=gM ha;have s2:=gM hb;have h1:=ha.lo;have h2:=ha.hi;have g1:=hb.lo;have g2:=hb.hi;refine⟨?_,λh=> ?_⟩;by_cases z:aB a=0;by_cases z2:aB b=0;rw[z,z2];decide;have:=og (a:=aB a) (l:=[aB b]) (x:=aB b) O z2;omega;have:=og (a:=aB a) (l:=[aB b]) (x:=aB a) O z;omega;exact Vc
def alc{a b:Av}(ha:aR a)(hb:aR b):C 200 [it (aB a),ints [aB b]] (it (dH (aB a) [aB b])):=by have s1:=gM ha;have s2:=gM hb;have h1:=ha.lo;have h2:=ha.hi;have g1:=hb.lo;have g2:=hb.hi;have:=(gst ha hb).1;exact Cf (aB a) [aB b] O ⟨E,E⟩ (λx hx=>xR) E
def ate(a b:Av)(k:Int)(ha:aR a)(hb:aR b):C 494 [zh a b k] (ai (IJ 4 a b k)):=by have h1:=ha.lo;have h2:=ha.hi;have h4:=ha.le;have g1:=hb.lo;have g2:=hb.hi;have g4:=hb.le;have g:=gst ha hb;have c1:=l8 a;have c2:=l8 b;have c3:=alc ha hb;have c4:=OG a b k (a.lo+b.lo) (a.hi+b.hi) (dH (aB a) [aB b]) E ⟨E,E⟩ ⟨E,E⟩ ⟨E,E⟩ (λq=>by have:=g.2 q;omega);show C 494 _ (ai (o_ (a.lo+b.lo) (a.hi+b.hi) (dH (aB a) [aB b]) k));generalize o_ (a.lo+b.lo) (a.hi+b.hi) (dH (aB a) [aB b]) k=X at*;clear g;generalize ((dH (aB a) [aB b]:Nat):Int)=G at*;generalize aB a=S at*;generalize aB b=T at*;refine fo func494 ?_;exact bp
def apy(a b:Av)(k:Int)(ha:aR a)(hb:aR b):C 495 [zh a b k] (ai (IJ 5 a b k)):=by have h1:=ha.lo;have h2:=ha.hi;have h4:=ha.le;have g1:=hb.lo;have g2:=hb.hi;have g4:=hb.le;have g:=gst ha hb;have c1:=l8 a;have c2:=l8 b;have c3:=alc ha hb;have c4:=OG a b k (a.lo - b.hi) (a.hi - b.lo) (dH (aB a) [aB b]) E ⟨E,E⟩ ⟨E,E⟩ ⟨E,E⟩ (λq=>by have:=g.2 q;omega);show C 495 _ (ai (o_ (a.lo - b.hi) (a.hi - b.lo) (dH (aB a) [aB b]) k));generalize o_ (a.lo - b.hi) (a.hi - b.lo) (dH (aB a) [aB b]) k=X at*;clear g;generalize ((dH (aB a) [aB b]:Nat):Int)=G at*;generalize aB a=S at*;generalize aB b=T at*;refine fo func495 ?_;exact bp
def Xg(a b:Av)(k:Int)(ha:aR a)(hb:aR b):jM a b<2^40∧C 515 [zh a b k] (it (jM a b)):=by
 have h1:=ha.lo;have h2:=ha.hi;have h4:=ha.le;have g1:=hb.lo;have g2:=hb.hi;have g4:=hb.le;have s1:=gM ha;have s2:=gM hb;have c1:=l8 a;have c2:=l8 b;have c3:=Ea (a.lo - b.lo) ⟨E,E⟩;have e3:=kY (a.lo - b.lo);have hle:jM a b<2^40:=by unfold jM;by_cases z:aB a=0;by_cases z2:aB b=0;by_cases z3:aT (a.lo - b.lo)=0;rw[z,z2,z3];decide;exact Vd;exact U2;exact U0
 refine⟨hle,?_⟩;have c4:C 200 [it (aB a),ints [aB b,aT (a.lo - b.lo)]] (it (jM a b)):=Cf (aB a) [aB b,aT (a.lo - b.lo)] O E (λx hx=>RQ) (by unfold jM at hle;omega);generalize jM a b=G at*;generalize aT (a.lo - b.lo)=D at*;generalize aB a=S at*;generalize aB b=T at*;refine fo func515 ?_;exact bp
def ae1(a b:Av)(k:Int)(ha:aR a)(hb:aR b):C 499 [zh a b k] (ai (IJ 9 a b k)):=by have h1:=ha.lo;have h2:=ha.hi;have h4:=ha.le;have g1:=hb.lo;have g2:=hb.hi;have g4:=hb.le;have c1:=(Xg a b k ha hb).2;have hl:=(Xg a b k ha hb).1;have h0:=λq=>Cz ha hb q;have l1:=zb a.lo b.lo;have l2:=zb a.hi b.hi;have c2:=Dw (mn a.lo b.lo) (mn a.hi b.hi) (jM a b) k ⟨uQ,E⟩ ⟨uQ,E⟩ E (λq=>by have:=h0 (by unfold jM at*;omega);unfold mn;split<;>split<;>omega);show C 499 _ (ai (mh (mn a.lo b.lo) (mn a.hi b.hi) (jM a b) k));generalize mh (mn a.lo b.lo) (mn a.hi b.hi) (jM a b) k=X at*;clear h0 hl;generalize jM a b=G at*;refine fo func499 ?_;exact bp
def Ys(a b:Av)(k:Int)(ha:aR a)(hb:aR b):C 500 [zh a b k] (ai (IJ 10 a b k)):=by have h1:=ha.lo;have h2:=ha.hi;have h4:=ha.le;have g1:=hb.lo;have g2:=hb.hi;have g4:=hb.le;have c1:=(Xg a b k ha hb).2;have hl:=(Xg a b k ha hb).1;have h0:=λq=>Cz ha hb q;have l1:=qi a.lo b.lo;have l2:=qi a.hi b.hi;have c2:=Dw (mx a.lo b.lo) (mx a.hi b.hi) (jM a b) k ⟨E,lL⟩ ⟨E,lL⟩ E (λq=>by have:=h0 (by unfold jM at*;omega);unfold mx;split<;>split<;>omega);show C 500 _ (ai (mh (mx a.lo b.lo) (mx a.hi b.hi) (jM a b) k));generalize mh (mx a.lo b.lo) (mx a.hi b.hi) (jM a b) k=X at*;clear h0 hl;generalize jM a b=G at*;refine fo func500 ?_;exact bp
def akl(h:G:=by have:dH (aB a) [aT b.lo]≠0:=λh=>z2 ((lU h).2 (aT b.lo) (by simp));exact ahb):=h
def ZQ(h:G:=by rw[w1,w2];unfold mn;split<;>omega):=h
def ZP(h:G:=by rw[w1,w2];unfold mx;split<;>omega):=h
def wo(h:G:=by unfold mx mn;split<;>split<;>omega):=h
def ahb(h:G:=by have:=og (a:=aB a) (l:=[aT b.lo]) (x:=aT b.lo) (by simp) z2;omega):=h
def iL(h:G:=by refine fo Tryz.func497 ?_;exact bp):=h
def Uk(h:G:=by generalize B6 a.lo (dH (aB a) [aT b.lo]) (mx (mn a.lo 0) (1 - aT b.lo)) (mn (mx a.hi 0) (aT b.lo - 1)) k=X at*;generalize ((dH (aB a) [aT b.lo]:Nat):Int)=G at*;generalize aT b.lo=N at*;generalize aB a=S at*;refine fo Tryz.func498 ?_;exact bp):=h
def KL(h:G:=by generalize aT b.lo=N at*;refine fo Tryz.func498 ?_;exact bp):=h
def Uc(h:G:=by refine fo Tryz.func452 ?_;refine aM ?_;refine bt.at rfl (by omega) rfl ?_;exact bp):=h
def FM{a b:Av}(ha:aR a)(hb:aR b){x y:Int}(hx:x=a.lo∨x=a.hi)(hy:y=b.lo∨y=b.hi): -(2^62)<=x*y∧x*y<=2^62:=by
 have h1:=ha.lo;have h2:=ha.hi;have h4:=ha.le;have g1:=hb.lo;have g2:=hb.hi;have g4:=hb.le;have k1:x.natAbs<=2147483648:=E
 have k2:y.natAbs<=2147483648:=E
 have k3:(x*y).natAbs<=2147483648*2147483648:=by rw[Int.natAbs_mul];exact Bf k1 k2
 omega
def aid{a b:Av}(ha:aR a)(hb:aR b):(mulM a b:Int)<2^63∧(0<=aT a.lo*aB b∧aT a.lo*aB b<2^63)∧(0<=aT b.lo*aB a∧aT b.lo*aB a<2^63):=by
 have h1:=ha.lo;have h2:=ha.hi;have h4:=ha.le;have g1:=hb.lo;have g2:=hb.hi;have g4:=hb.le;have s1:=gM ha;have s2:=gM hb;have e1:=kY a.lo;have e2:=kY b.lo;have p1:0<=aT a.lo*aB b∧aT a.lo*aB b<=2147483648*4294967295:=⟨oE E s2.1,sM E E s2.1 E⟩;have p2:0<=aT b.lo*aB a∧aT b.lo*aB a<=2147483648*4294967295:=⟨oE E s1.1,sM E E s1.1 E⟩;refine⟨?_,⟨p1.1,E⟩,⟨p2.1,E⟩⟩;unfold mulM;by_cases x1:aT a.lo*aB b=0;by_cases x2:aT b.lo*aB a=0;by_cases x3:Ir (aB a*aB b)=0;rw[x1,x2,x3];decide;have nz:aB a*aB b≠0:=λh=>x3 (by rw[h];decide);have n1:aB a≠0:=λh=>nz (by rw[h,Int.zero_mul]);have n2:aB b≠0:=λh=>nz (by rw[h,Int.mul_zero]);have z1:aT a.lo=0:=(Bg.1 x1).resolve_right n2;have z2:aT b.lo=0:=(Bg.1 x2).resolve_right n1;have q:0<=aB a*aB b∧aB a*aB b<=2147483647*2147483647:=⟨oE s1.1 s2.1,sM E E s2.1 E⟩;have e:Ir (aB a*aB b)=aB a*aB b:=by unfold Ir;rw[Bb,Fm q.1 E];split<;>omega
 have:=og (a:=aT a.lo*aB b) (l:=[aT b.lo*aB a,Ir (aB a*aB b)]) (x:=Ir (aB a*aB b)) O x3;omega;have:=og (a:=aT a.lo*aB b) (l:=[aT b.lo*aB a,Ir (aB a*aB b)]) (x:=aT b.lo*aB a) O x2;omega;have:=og (a:=aT a.lo*aB b) (l:=[aT b.lo*aB a,Ir (aB a*aB b)]) (x:=aT a.lo*aB b) O x1;omega
def aqn(a b:Av)(k:Int)(ha:aR a)(hb:aR b):C 496 [zh a b k] (ai (IJ 6 a b k)):=by
 have h1:=ha.lo;have h2:=ha.hi;have h4:=ha.le;have g1:=hb.lo;have g2:=hb.hi;have g4:=hb.le;have p1:=FM ha hb (.inl rfl) (.inl rfl);have p2:=FM ha hb (.inl rfl) (.inr rfl);have p3:=FM ha hb (.inr rfl) (.inl rfl);have p4:=FM ha hb (.inr rfl) (.inr rfl);have mk:=adf ha hb;have ml:=aid ha hb;have c1:=l8 a;have c2:=l8 b;have c3:=Ea a.lo ⟨E,E⟩;have c4:=Ea b.lo ⟨E,E⟩;have wb:=am2 (aB a*aB b);have c5:C 200 [it (aT a.lo*aB b),ints [aT b.lo*aB a,IntKind.i64.wrap (aB a*aB b)]] (it (mulM a b)):=by rw[wrap64];exact Cf (aT a.lo*aB b) [aT b.lo*aB a,Ir (aB a*aB b)] O ⟨E,E⟩ (λx hx=>RQ) (by have:=ml.1;unfold mulM at this;omega)
 have hlo: -(2^62)<=s9 a b∧s9 a b<=2^62:=by unfold s9 mn;repeat' split<;>omega
 have hhi: -(2^62)<=s_ a b∧s_ a b<=2^62:=by unfold s_ mx;repeat' split<;>omega
 have c6:=OG a b k (s9 a b) (s_ a b) (mulM a b) mk.1 hlo hhi ⟨ft _,ml.1⟩ mk.2;show C 496 _ (ai (o_ (s9 a b) (s_ a b) (mulM a b) k));generalize o_ (s9 a b) (s_ a b) (mulM a b) k=X at*;clear mk hlo hhi;have m1:=ml.2.1;have m2:=ml.2.2;clear ml;generalize mulM a b=G at*;generalize aB a=S at*;generalize aB b=T at*;generalize aT a.lo=A at*;generalize aT b.lo=B at*;refine fo func496 ?_;refine aM ?_;refine Arith.mk ?_;exact bp
def aq4(a b:Av)(k:Int)(ha:aR a)(hb:aR b):C 498 [zh a b k] (ai (IJ 8 a b k)):=by
 have h1:=ha.lo;have h2:=ha.hi;have h4:=ha.le;have g1:=hb.lo;have g2:=hb.hi;have g4:=hb.le;have s1:=gM ha;have e2:=kY b.lo;have c1:C 201 [ai {a with mask:=k}] (it (aB a)):=l8 {a with mask:=k};have c2:=l8 b;have c3:=Ea b.lo ⟨E,E⟩;show C 498 _ (ai (ac8 a b k));unfold ac8;by_cases z1:aB b≠0;have b1:(!(aB b==0))=true:=AZ
 have l1:=zb a.lo 0;have l2:=qi a.hi 0;have c4:=Dw (mn a.lo 0) (mx a.hi 0) 1 k ⟨uQ,E⟩ ⟨E,lL⟩ E E;rw[ak z1];generalize mh (mn a.lo 0) (mx a.hi 0) 1 k=X at*;exact KL;have b1:(!(aB b==0))=false:=AZ
 rw[Z z1];by_cases z2:aT b.lo=0;have b2:=tE z2;rw[ak (.inl z2)];exact KL;have b2:=fE z2;by_cases z3:a.lo>=0;have b3:=tB z3;by_cases z4:a.hi<aT b.lo;have b4:=tB z4;rw[ak (.inr ⟨z3,z4⟩)];exact KL;have b4:=fB z4;have g0:1<=(dH (aB a) [aT b.lo]:Int)∧(dH (aB a) [aT b.lo]:Int)<=aT b.lo:=akl
 have c4:=Cf (aB a) [aT b.lo] O ⟨E,E⟩ (λx hx=>xR) E;have c5:=NX a.lo (dH (aB a) [aT b.lo]) (mx (mn a.lo 0) (1 - aT b.lo)) (mn (mx a.hi 0) (aT b.lo - 1)) k ⟨wo,wo⟩ ⟨wo,wo⟩ ⟨E,E⟩ ⟨E,E⟩;rw[Z (λh=>by rcases h with h|h;exact z2 h;exact z4 h.2)];exact Uk;have b3:=fB z3;have g0:1<=(dH (aB a) [aT b.lo]:Int)∧(dH (aB a) [aT b.lo]:Int)<=aT b.lo:=akl
 have c4:=Cf (aB a) [aT b.lo] O ⟨E,E⟩ (λx hx=>xR) E;have c5:=NX a.lo (dH (aB a) [aT b.lo]) (mx (mn a.lo 0) (1 - aT b.lo)) (mn (mx a.hi 0) (aT b.lo - 1)) k ⟨wo,wo⟩ ⟨wo,wo⟩ ⟨E,E⟩ ⟨E,E⟩;rw[Z (λh=>by rcases h with h|h;exact z2 h;exact z3 h.1)];exact Uk
def aqd:C 479 [] (.agg [BV 494,BV 495,BV 496,BV 497,BV 498,BV 499,BV 500]):=by refine fo func479 ?_;exact bz
def V9(a b:Int):(a.tdiv b).natAbs<=a.natAbs:=M_ a b
def asf(a b:Av)(k:Int)(ha:aR a)(hb:aR b):C 497 [zh a b k] (ai (IJ 7 a b k)):=by
 have h1:=ha.lo;have h2:=ha.hi;have h4:=ha.le;have g1:=hb.lo;have g2:=hb.hi;have g4:=hb.le;have c1:=l8 b;have ca:=alm k;have n1:=kY a.lo;have n2:=kY a.hi;have a1:=Ea a.lo ⟨E,E⟩;have a2:=Ea a.hi ⟨E,E⟩;show C 497 _ (ai (if pY (nc a b)&&pY (nf a b)then mh (nc a b) (nf a b) 1 k else Ig k));generalize Ig k=A at*;have fin:∀(L H:Int),L=nc a b->H=nf a b->(-(2^60)<L∧L<2^60)->(-(2^60)<H∧H<2^60)->
  ∃X V1 V2,X=mh (nc a b) (nf a b) 1 k∧V1=pY (nc a b)∧V2=pY (nf a b)∧C 513 [it L] (bo V1)∧C 513 [it H] (bo V2)∧C 144 [it L,it H,it 1,it k] (ai X):=λL H e1 e2 bL bH=>by
  subst e1 e2;exact⟨_,_,_,rfl,rfl,rfl,FD _,FD _,Dw _ _ 1 k bL bH E E⟩
 by_cases z1:aB b=0;have b1:=tE z1;by_cases z2:b.lo=0;have b2:(!(b.lo==0))=false:=(by rw[z2];rfl);have z2' :¬b.lo<0:=E
 have b3:=fB z2';by_cases z3:a.lo<0;have b4:=tB z3;have eL:0 - mx (aT a.lo) (aT a.hi)=nc a b:=by unfold nc;rw[Z (λh=>h.2 z2),ak (.inl z3)]
 have eH:mx (aT a.lo) (aT a.hi)=nf a b:=(by unfold nf;rw[Z (λh=>h.2 z2),ak (.inl z3)]);have lm:=qi (aT a.lo) (aT a.hi);have lm' :mx (aT a.lo) (aT a.hi)<=2^32:=lL
 refine(fin _ _ eL eH ⟨E,E⟩ ⟨E,E⟩).elim λX h=>h.elim λV1 h=>h.elim λV2 h=> ?_;have f1:=h.2.2.2.1;have f2:=h.2.2.2.2.1;have f3:=h.2.2.2.2.2;rw[<-h.1,<-h.2.1,<-h.2.2.1];clear h fin eL eH;have x1:0<=(if aT a.hi>aT a.lo then aT a.hi else aT a.lo)∧(if aT a.hi>aT a.lo then aT a.hi else aT a.lo)<=2^32:=⟨i_,lm'⟩;cases V1;exact iL;cases V2;exact iL;exact iL;have b4:=fB z3;have eL:0=nc a b:=by unfold nc;rw[Z (λh=>h.2 z2),Z (λh=>E)]
 have eH:a.hi=nf a b:=(by unfold nf;rw[Z (λh=>h.2 z2),Z (λh=>E)]);refine(fin _ _ eL eH ⟨E,E⟩ ⟨E,E⟩).elim λX h=>h.elim λV1 h=>h.elim λV2 h=> ?_;have f1:=h.2.2.2.1;have f2:=h.2.2.2.2.1;have f3:=h.2.2.2.2.2;rw[<-h.1,<-h.2.1,<-h.2.2.1];clear h fin eL eH;cases V1;exact iL;cases V2;exact iL;exact iL;have b2:(!(b.lo==0))=true:=(by simpa using z2);have d1:=V9 a.lo b.lo;have d2:=V9 a.hi b.lo;have w1:IntKind.i64.wrap (a.lo.tdiv b.lo)=a.lo.tdiv b.lo:=wrap_i64 E E;have w2:IntKind.i64.wrap (a.hi.tdiv b.lo)=a.hi.tdiv b.lo:=wrap_i64 E E;have eL:mn (IntKind.i64.wrap (a.lo.tdiv b.lo)) (IntKind.i64.wrap (a.hi.tdiv b.lo))=nc a b:=by unfold nc;rw[ak ⟨z1,z2⟩,w1,w2]
 have eH:mx (IntKind.i64.wrap (a.lo.tdiv b.lo)) (IntKind.i64.wrap (a.hi.tdiv b.lo))=nf a b:=(by unfold nf;rw[ak ⟨z1,z2⟩,w1,w2]);refine(fin _ _ eL eH ⟨ZQ,ZQ⟩ ⟨ZP,ZP⟩).elim λX h=>h.elim λV1 h=>h.elim λV2 h=> ?_;have f1:=h.2.2.2.1;have f2:=h.2.2.2.2.1;have f3:=h.2.2.2.2.2;rw[<-h.1,<-h.2.1,<-h.2.2.1];clear h fin eL eH w1 w2;cases V1;exact iL;cases V2;exact iL;exact iL;have b1:=fE z1;by_cases z3:a.lo<0;have b4:=tB z3;have eL:0 - mx (aT a.lo) (aT a.hi)=nc a b:=by unfold nc;rw[Z (λh=>z1 h.1),ak (.inl z3)]
 have eH:mx (aT a.lo) (aT a.hi)=nf a b:=(by unfold nf;rw[Z (λh=>z1 h.1),ak (.inl z3)]);have lm:=qi (aT a.lo) (aT a.hi);have lm' :mx (aT a.lo) (aT a.hi)<=2^32:=lL
 refine(fin _ _ eL eH ⟨E,E⟩ ⟨E,E⟩).elim λX h=>h.elim λV1 h=>h.elim λV2 h=> ?_;have f1:=h.2.2.2.1;have f2:=h.2.2.2.2.1;have f3:=h.2.2.2.2.2;rw[<-h.1,<-h.2.1,<-h.2.2.1];clear h fin eL eH;have x1:0<=(if aT a.hi>aT a.lo then aT a.hi else aT a.lo)∧(if aT a.hi>aT a.lo then aT a.hi else aT a.lo)<=2^32:=⟨i_,lm'⟩;cases V1;exact iL;cases V2;exact iL;exact iL;have b4:=fB z3;by_cases z4:b.lo<0;have b5:=tB z4;have eL:0 - mx (aT a.lo) (aT a.hi)=nc a b:=by unfold nc;rw[Z (λh=>z1 h.1),ak (.inr z4)]
 have eH:mx (aT a.lo) (aT a.hi)=nf a b:=(by unfold nf;rw[Z (λh=>z1 h.1),ak (.inr z4)]);have lm:=qi (aT a.lo) (aT a.hi);have lm' :mx (aT a.lo) (aT a.hi)<=2^32:=lL
 refine(fin _ _ eL eH ⟨E,E⟩ ⟨E,E⟩).elim λX h=>h.elim λV1 h=>h.elim λV2 h=> ?_;have f1:=h.2.2.2.1;have f2:=h.2.2.2.2.1;have f3:=h.2.2.2.2.2;rw[<-h.1,<-h.2.1,<-h.2.2.1];clear h fin eL eH;have x1:0<=(if aT a.hi>aT a.lo then aT a.hi else aT a.lo)∧(if aT a.hi>aT a.lo then aT a.hi else aT a.lo)<=2^32:=⟨i_,lm'⟩;cases V1;exact iL;cases V2;exact iL;exact iL;have b5:=fB z4;have eL:0=nc a b:=by unfold nc;rw[Z (λh=>z1 h.1),Z (λh=>E)]
 have eH:a.hi=nf a b:=(by unfold nf;rw[Z (λh=>z1 h.1),Z (λh=>E)]);refine(fin _ _ eL eH ⟨E,E⟩ ⟨E,E⟩).elim λX h=>h.elim λV1 h=>h.elim λV2 h=> ?_;have f1:=h.2.2.2.1;have f2:=h.2.2.2.2.1;have f3:=h.2.2.2.2.2;rw[<-h.1,<-h.2.1,<-h.2.2.1];clear h fin eL eH;cases V1;exact iL;cases V2;exact iL;exact iL
def aky(op:Int)(a b:Av)(h:4<=op∧op<=10)(ha:aR a)(hb:aR b):C 452 [it op,ai a,ai b] (ai (opA op a b)):=by
 have h1:=ha.lo;have h2:=ha.hi;have h4:=ha.le;have g1:=hb.lo;have g2:=hb.hi;have g4:=hb.le;have co:=aqd;have c1:=l8 a;have c2:=l8 b;have o:=or8 ha.k0 ha.k1 hb.k0 hb.k1;have oe:=BO a.mask b.mask;have nb:=Py op a.lo b.lo;unfold MI MA at nb;have c3:=ai6 op a.lo b.lo h;have c4:=ai5 (za op a.lo b.lo) (iQ a.mask b.mask) ⟨E,E⟩;have d4:=ate a b (iQ a.mask b.mask) ha hb;have d5:=apy a b (iQ a.mask b.mask) ha hb;have d6:=aqn a b (iQ a.mask b.mask) ha hb;have d7:=asf a b (iQ a.mask b.mask) ha hb;have d8:=aq4 a b (iQ a.mask b.mask) ha hb;have d9:=ae1 a b (iQ a.mask b.mask) ha hb;have d10:=Ys a b (iQ a.mask b.mask) ha hb;by_cases z:aB a=0∧aB b=0;have e:opA op a b=kM (za op a.lo b.lo) (iQ a.mask b.mask):=ak (.inl z);have b1:=tE z.1;have b2:=tE z.2;rw[e];clear e d4 d5 d6 d7 d8 d9 d10 co z;generalize kM (za op a.lo b.lo) (iQ a.mask b.mask)=X at*;generalize za op a.lo b.lo=N at*;generalize aB a=S at*;generalize aB b=T at*;refine fo func452 ?_;exact bp
 ·have e:opA op a b=IJ op a b (iQ a.mask b.mask):=Z (λq=>by rcases q with q|q;exact z q;omega);rw[e];clear e c3 c4 nb;have hop:op=4∨op=5∨op=6∨op=7∨op=8∨op=9∨op=10:=by omega
  have fin:∀(n:Int) (S T:Int) (X:Av) (f:FuncId),(n=4∧f=494∨n=5∧f=495∨n=6∧f=496∨n=7∧f=497∨n=8∧f=498∨n=9∧f=499∨n=10∧f=500)->¬(S=0∧T=0)->C 201 [ai a] (it S)->C 201 [ai b] (it T)->C f [zh a b (iQ a.mask b.mask)] (ai X)->C 452 [it n,ai a,ai b] (ai X):=by
   clear c1 c2 d4 d5 d6 d7 d8 d9 d10 z hop h;intro n S T X f hn hz c1 c2 d;by_cases s0:S=0;·have b1:=tE s0;have b2:=fE (λq=>hz ⟨s0,q⟩:T≠0);rcases hn with⟨rfl,rfl⟩|⟨rfl,rfl⟩|⟨rfl,rfl⟩|⟨rfl,rfl⟩|⟨rfl,rfl⟩|⟨rfl,rfl⟩|⟨rfl,rfl⟩;all_goals (exact Uc)
   ·have b1:=fE s0;rcases hn with⟨rfl,rfl⟩|⟨rfl,rfl⟩|⟨rfl,rfl⟩|⟨rfl,rfl⟩|⟨rfl,rfl⟩|⟨rfl,rfl⟩|⟨rfl,rfl⟩;all_goals (exact Uc)
  rcases hop with rfl|rfl|rfl|rfl|rfl|rfl|rfl;exact fin 4 _ _ _ 494 aw z c1 c2 d4;exact fin 5 _ _ _ 495 aw z c1 c2 d5;exact fin 6 _ _ _ 496 aw z c1 c2 d6;exact fin 7 _ _ _ 497 aw z c1 c2 d7;exact fin 8 _ _ _ 498 aw z c1 c2 d8;exact fin 9 _ _ _ 499 aw z c1 c2 d9;exact fin 10 _ _ _ 500 aw z c1 c2 d10
def KH(h:G:=by refine fo Tryz.func152 ?_;exact bz):=h
def KC(h:G:=by refine fo Tryz.func449 ?_;exact bz):=h
def KB(h:G:=by refine fo Tryz.func450 ?_;exact bz):=h
def anw(n:Int):C 152 [it n] (bo (qc n)):=by unfold qc;by_cases z:n=1099511627776;have b1:=tE z;have e:(n==NG)=true:=b1;rw[e];exact KH;have b1:=fE z;have e:(n==NG)=false:=b1;rw[e];by_cases z2: -17179869184<=n;have b2:=tB z2;rw[b2];exact KH;have b2:=fB z2;rw[b2];exact KH
def akw(a k:Int)(ha: -(2^50)<a∧a<2^50)(hk: -(2^50)<k∧k<2^50):C 405 [it a,it k] (it (CZ a k)):=by have c:=anw (a+k);have h1:=ha.1;have h2:=ha.2;have h3:=hk.1;have h4:=hk.2;unfold CZ;by_cases z:a=1099511627776;have b1:=tE z;have e:(a==NG)=true:=b1;rw[e];show C 405 _ (it NG);refine fo func405 ?_;exact bz;have b1:=fE z;have e:(a==NG)=false:=b1;rw[e];generalize qc (a+k)=R at*;cases R;show C 405 _ (it NG);refine fo func405 ?_;exact bp;show C 405 _ (it (a+k));refine fo func405 ?_;exact bp
def WK(e:Ex):C 450 [cy e] (bo (tU e)):=by unfold tU;by_cases z:e.op=1;have b1:=tE z;rw[b1];by_cases z2: -2147483648<=e.v;have b2:=tB z2;rw[b2];exact KB;have b2:=fB z2;rw[b2];exact KB;have b1:=fE z;rw[b1];exact KB
def N1(e:Ex)(n:Int):aj prog 449 [cy e,.ptr 1000 0] ⟨[it n],[]⟩ (bo (r8 e n)) ⟨[it n],[]⟩:=by unfold r8;by_cases z:e.op=2;have b1:=tE z;rw[b1];by_cases z2:0<=e.n;have b2:=tB z2;rw[b2];exact KC;have b2:=fB z2;rw[b2];exact KC;have b1:=fE z;rw[b1];exact KC
def alf(o:Option (Int×Int)):au:= .bS [.agg [it (o.getD (0,0)).1,it (o.getD (0,0)).2],bo o.isSome]
def Tr(e:Ex):Prop:=e.a=[]∨∃a b,e.a=[a,b]
def XF(e:Ex)(n:Int)(he:Tr e):C 404 [cy e,it n] (alf (Rb e n)):=by
 have cv:=N1 e n;unfold alf Rb;generalize hV:r8 e n=V at*;cases V
 ·rw[Z O];rcases he with h0|⟨a,b,h0⟩;rw[h0];have hE:cy e= .agg [it e.op,it e.n,it e.v,.sl 4 [] false]:=by unfold cy cE;rw[h0];simp[jK]
  rw[hE]at cv ⊢;show C 404 _ (.bS [.agg [it 0,it 0],bo false]);refine fo func404 ?_;exact bp
  ·rw[h0];have hE:cy e= .agg [it e.op,it e.n,it e.v,.sl 4 [cy a,cy b] false]:=by unfold cy cE;rw[h0];simp[jK,Wm,cE,cy]
   rw[hE]at cv ⊢;have c1:=N1 a n;have c2:=N1 b n;have c3:=WK a;have c4:=WK b;have bv:tU b=true->-2147483648<=b.v∧b.v<=2147483648:=λh=>by simp[tU]at h;omega
   dsimp only;generalize r8 a n=A1 at*;generalize r8 b n=B1 at*;generalize tU a=A2 at*;generalize tU b=B2 at*;by_cases o4:e.op=4
   ·have b1:=tE o4;have b5:(e.op==5)=false:=by rw[o4];rfl
    rw[b1,b5];have second:C 404 [.agg [it e.op,it e.n,it e.v,.sl 4 [cy a,cy b] false],it n] (.bS [.agg [it ((if (A2&&B1)=true then some (b.n,a.v)else none).getD (0,0)).1,it ((if (A2&&B1)=true then some (b.n,a.v)else none).getD (0,0)).2],bo (if (A2&&B1)=true then some (b.n,a.v)else none).isSome])∨(A1&&B2)=true:=by
     by_cases hq:(A1&&B2)=true;exact .inr hq
     ·refine .inl ?_;have go:∀X Y:Bool,X=A1->Y=B2->(X&&Y)=false->C 404 [.agg [it e.op,it e.n,it e.v,.sl 4 [cy a,cy b] false],it n] (.bS [.agg [it ((if (A2&&B1)=true then some (b.n,a.v)else none).getD (0,0)).1,it ((if (A2&&B1)=true then some (b.n,a.v)else none).getD (0,0)).2],bo (if (A2&&B1)=true then some (b.n,a.v)else none).isSome]):=by
       intro X Y hX hY hXY;subst hX hY;cases X
       ·cases A2
        ·refine fo func404 ?_;refine run ?_;repeat((first|refine bt.at rfl E rfl ?_|(apply aE;first|exact(cv)|exact(c1)|exact(c3)));refine run ?_)
         exact aG
        ·cases B1
         ·refine fo func404 ?_;refine run ?_;repeat((first|refine bt.at rfl E rfl ?_|(apply aE;first|exact(cv)|exact(c1)|exact(c3)|exact(c2)));refine run ?_)
          exact aG
         ·refine fo func404 ?_;refine run ?_;repeat((first|refine bt.at rfl E rfl ?_|(apply aE;first|exact(cv)|exact(c1)|exact(c3)|exact(c2)));refine run ?_)
          exact aG
       ·cases Y
        ·cases A2
         ·refine fo func404 ?_;refine run ?_;repeat((first|refine bt.at rfl E rfl ?_|(apply aE;first|exact(cv)|exact(c1)|exact(c4)|exact(c3)));refine run ?_)
          exact aG
         ·cases B1
          ·refine fo func404 ?_;refine run ?_;repeat((first|refine bt.at rfl E rfl ?_|(apply aE;first|exact(cv)|exact(c1)|exact(c4)|exact(c3)|exact(c2)));refine run ?_)
           exact aG
          ·refine fo func404 ?_;refine run ?_;repeat((first|refine bt.at rfl E rfl ?_|(apply aE;first|exact(cv)|exact(c1)|exact(c4)|exact(c3)|exact(c2)));refine run ?_)
           exact aG
        cases hXY
      exact go A1 B2 rfl rfl (by simpa using hq)
    cases hq:(A1&&B2);have s:=second.resolve_right (by rw[hq];simp);exact s
    ·have q1:A1=true:=(by revert hq;cases A1<;>simp);have q2:B2=true:=by revert hq;cases B2<;>simp
     subst q1 q2;show C 404 _ (.bS [.agg [it a.n,it b.v],bo true]);refine fo func404 ?_;refine run ?_;repeat((first|refine bt.at rfl E rfl ?_|(apply aE;first|exact(cv)|exact(c1)|exact(c4)));refine run ?_)
     exact aG
   ·have b1:=fE o4;rw[b1];by_cases o5:e.op=5
    ·have b5:=tE o5;rw[b5];cases A1
     ·refine fo func404 ?_;refine run ?_;repeat((first|refine bt.at rfl E rfl ?_|(apply aE;first|exact(cv)|exact(c1)));refine run ?_)
      exact aG
     ·cases B2
      ·refine fo func404 ?_;refine run ?_;repeat((first|refine bt.at rfl E rfl ?_|(apply aE;first|exact(cv)|exact(c1)|exact(c4)));refine run ?_)
       exact aG
      ·have bb:=bv rfl;have e0:0 - b.v= -b.v:=by omega
       refine fo func404 ?_;refine run ?_;repeat((first|refine bt.at rfl E rfl ?_|(apply aE;first|exact(cv)|exact(c1)|exact(c4)));refine run ?_)
       exact aG
    ·have b5:=fE o5;rw[b5];refine fo func404 ?_;refine run ?_;repeat((first|refine bt.at rfl E rfl ?_|(apply aE;first|exact(cv)));refine run ?_)
     exact aG
 rw[ak rfl];refine fo func404 ?_;exact bp
def dI(g:nj):au:=fj 1 ints g
def jU:=@List.map_set
def CS:=@List.getElem?_set_self
def Bo:=@List.set_append_right
def Bj:=@List.set_cons_zero
def yg:=@List.set_set
def Fg:=@List.map_map
def Ff:=@Nat.le_of_lt
def akq(h:G:=by rw[<-yA hlv hp1,<-jU,show au.own ((aU mx g[v] h[v] p).set p (mx g[v][p] h[v][p])|>.map it)=bV ((aU mx g[v] h[v] p).set p (mx g[v][p] h[v][p])) from rfl,<-jU,yg]):=h
def ZY(h:G:=by rw[BX hlv,<-yA hs hv1];rfl):=h
def ZJ(h:G:=by rw[BX hs,Fg];rfl):=h
def E_(h:G:=by rw[hl];exact tF):=h
def LK(h:G:=by simp;exact hp1):=h
def AX(h:G:=by rw[BW]):=h
def xZ(h:G:=by simp[hM]):=h
def CJ(h:G:=by have qV:=aL (λx=>some (Row.mk 0 true x)) e02;exact y_ hp1):=h
def Zq(h:G:=by refine aM ?_;refine bt.map hk1 rfl ?_;refine aM ?_;refine bt.at (by simp[hhl]) (by omega) hn ?_;refine run ?_;refine bt.at (by simp[hhl]) (by omega) hn ?_;refine run ?_;have qV:=aL (λx=>some (Row.mk 0 true x)) e0;exact y_ hk1):=h
def mP(h:G:=by have:=hi xs hx;omega):=h
def gL(h:G:=by simp;exact hk1):=h
def Vh(h:G:=by refine run ?_;refine kQ.mk hX.symm ?_;refine run ?_;exact fP.mk (aL (λx=>au.sl 1 x false) e) rfl):=h
def UQ(h:G:=by refine run ?_;have qV:=aL (λx=>some (Row.mk 0 true x)) e03;exact y_ hv1):=h
def UE(h:G:=by rw[c_,aJ,CS (by rw[hX];exact hv1)];rfl):=h
def EE(h:G:=by refine run ?_;refine agy.mk (λe=>absurd e h) ?_;exact bz):=h
def QP(es:List au)(h:es≠[])(hl:es.length<=2^32):aj prog 112 [.sl 1 es false] fV (.ref 1000 es.length) ⟨[],[⟨1,true,es⟩]⟩:=by refine d_ hm func112 (λ_=>false) [true] (λ_=>[]) aA ?_;exact EE
def YO:aj prog 112 [.sl 1 [] false] fV (.sl 1 [] false) fV:=by refine fo func112 ?_;refine run ?_;refine agy.mk (λ_=> ?_) ?_;exact bz;exact bz
def ag2(es:List au)(h:es≠[])(hl:es.length<=2^32):aj prog 344 [.sl 1 es false] fV (.ref 1000 es.length) ⟨[],[⟨1,true,es⟩]⟩:=by refine d_ hm func344 (λ_=>false) [true] (λ_=>[]) aA ?_;exact EE
def bV(xs:List Int):au:= .own (xs.map it)
def aq0(xs:List Int):au:= .shr (xs.map it)
def XL(g:nj):Row:=⟨0,true,g.map bV⟩
def ao3:Nat->List Ad:=λn=>bif Nat.beq n 2 then[.nest 3 3]else[]
def half(g:nj)(k:Nat):List au:=(g.take k).map bV++(g.drop k).map aq0
def aer{g:nj}{k:Nat}(h:k<g.length):nth (half g k) k=some (aq0 g[k]):=by rw[aJ];unfold half;rw[jn az];simp[yk (Ff h),h]
def aeq{g:nj}{k:Nat}(h:k<g.length):(half g k).set k (bV g[k])=half g (k+1):=by
 unfold half;have hl:((g.take k).map bV).length=k:=az
 rw[Bo _ _ E_,hl,lZ,uX h];rw[oD,Bj,jY h,eu];simp
def Yr(g:nj):(g.map ints).map wG=half g 0:=by unfold half;simp only[List.take_zero,List.map_nil,List.nil_append,List.drop_zero,Fg];rfl
def aes(g:nj):half g g.length=g.map bV:=by simp[half]
def gv(g:nj)(h:g≠[])(hl:g.length<=2^32)(hi:∀xs∈g,xs.length<=2^32):aj prog 280 [dI g] fV (.cQ 1000 g.length) ⟨[],[XL g]⟩:=by
 have hc:=ag2 (g.map ints) eQ qt;have e0:=Yr g;refine d_ hm func280 (λ_=>false) [true] ao3 aA ?_;refine aM ?_;refine kQ.mk ⟨rfl,λe he=> ?_⟩ ?_;obtain⟨xs,_,rfl⟩:=dV.1 he;exact nF;refine run ?_;have qV:=aL (λx=>some (Row.mk 0 true x)) e0;refine bF.mk ⟨[],aY.np (g.length) (λ_=>True) (λk=>⟨[(9,it k)],[],[(3,⟨0,true,half g k⟩)]⟩) trivial ?_⟩;intro k hk hJ;by_cases hk1:k<g.length;have b1:decide ((k:Int)<((g.map ints).length:Nat))=true:=gL
 have hn:=aer hk1;have e0:=aeq hk1;have hhl:(half g k).length=g.length:=by unfold half;exact az
 by_cases he:g[k]=[];have hc2:aj prog 112 [ints g[k]] fV (.sl 1 [] false) fV:=(by rw[he];exact YO);have e0:(half g k).set k (.own [])=half g (k+1):=by rw[<-e0,he];rfl
 exact Zq;have hc2:=QP (g[k].map it) LF (by simpa using hi _ (cU hk1));exact Zq;have b1:decide ((k:Int)<((g.map ints).length:Nat))=false:=az
 have hkk:k=g.length:=E
 subst hkk;have e:=aes g;refine run ?_;exact fP.mk (aL (λn=>au.cQ 1000 n) O) (aL (λx=>Ct.mk [] [Row.mk 0 true x]) e)
def aU{α:Type}(f:α->α->α)(a b:List α)(k:Nat):List α:=(List.zipWith f a b).take k++a.drop k
section
variable{α:Type}{f:α->α->α}{a b:List α}{k:Nat}
def BW:aU f a b 0=a:=by simp[aU]
def BX(h:a.length=b.length):aU f a b a.length=List.zipWith f a b:=by unfold aU;rw[List.drop_length,jV,oG az]
def kU(h:a.length=b.length):(aU f a b k).length=a.length:=by unfold aU;exact az
def C_(h:a.length=b.length)(hk:k<a.length):(aU f a b k)[k]? =some a[k]:=by unfold aU;rw[jn az];simp[yk (Ff hk),<-h,hk]
def yA(h:a.length=b.length)(hk:k<a.length):(aU f a b k).set k (f a[k] (b[k]'(h▸hk)))=aU f a b (k+1):=by
 unfold aU;have hl:((List.zipWith f a b).take k).length=k:=az
 rw[Bo _ _ E_,hl,lZ,uX hk,Bj,jY az,rH];simp
end
def anh(a b:Int):aj prog 234 [it a,it b] fV (it (mx a b)) fV:=by refine fo func234 ?_;exact bz
theorem aev(g h:nj)(h0:g≠[])(hl:g.length<=2^30)(hi:∀xs∈g,xs.length<=2^30)(hs:g.length=h.length)(hh:∀v (h1:v<g.length) (h2:v<h.length),g[v].length=h[v].length):aj prog 233 [dI g,dI h,.gD (.func 234) [] []] fV (dI (pN g h)) fV:=by
 have hc:=gv g h0 E (λxs hx=>mP);have hm2:=λa b=>anh a b;refine d_ hm func233 (λ_=>false) [] (λn=>bif Nat.beq n 11 then[.Hr 7]else[]) aA ?_;refine aM ?_;have e00:g.map bV=(aU eX g h 0).map bV:=AX
 have qV:=aL (λx=>some (Row.mk 0 true x)) e00;refine bF.mk ⟨[],aY.np (g.length) (λ_=>True) (λv=>⟨[(14,it v)],[],[(5110,⟨0,true,(aU eX g h v).map bV⟩)]⟩) trivial ?_⟩;intro v hv hJ;by_cases hv1:v<g.length
 ·have b1:decide ((v:Int)<(g.length:Nat))=true:=by simp;exact hv1
  have hv2:v<h.length:=hs▸hv1;have hlv:g[v].length=h[v].length:=hh v hv1 hv2;have hX:(aU eX g h v).length=g.length:=kU hs;have e01:(aU eX g h v).map bV=((aU eX g h v).set v (aU mx g[v] h[v] 0)).map bV:=by rw[BW];congr 1;apply uU;intro j;by_cases hj:j=v;subst hj;rw[CS (by rw[hX];exact hv1),C_ hs hv1];rw[uW (gB hj)]
  have ard:nth ((aU eX g h v).map bV) v=some (bV g[v]):=by rw[c_,aJ,C_ hs hv1];rfl
  have hlen0:((aU eX g h v).map bV).length=g.length:=by simp[hX]
  refine run ?_;refine bt.at hlen0.symm E ard ?_;refine run ?_;refine bt.at hlen0.symm E ard ?_;refine run ?_;have qV:=aL (λx=>some (Row.mk 0 true x)) e01;refine bF.mk ⟨[],aY.np (g[v].length) (λ_=>True) (λp=>⟨[(22,it p)],[],[(5110,⟨0,true,((aU eX g h v).set v (aU mx g[v] h[v] p)).map bV⟩)]⟩) trivial ?_⟩;intro p hp hJ2;by_cases hp1:p<g[v].length
  ·have b2:decide ((p:Int)<((g[v].map it).length:Nat))=true:=LK;have hp2:p<h[v].length:=hlv▸hp1;have hM:(aU mx g[v] h[v] p).length=g[v].length:=kU hlv;have hown:nth (((aU eX g h v).set v (aU mx g[v] h[v] p)).map bV) v=some (bV (aU mx g[v] h[v] p)):=by exact UE
   have hlen:(((aU eX g h v).set v (aU mx g[v] h[v] p)).map bV).length=g.length:=(by simp[hX]);have hown' :nth (((aU eX g h v).set v (aU mx g[v] h[v] p)).map bV) ((v:Int)).toNat=some (.own ((aU mx g[v] h[v] p).map it)):=hown;have hlx:=hi _ (cU hv1);have hml:((aU mx g[v] h[v] p).map it).length=g[v].length:=xZ
   have e02:(((aU eX g h v).set v (aU mx g[v] h[v] p)).map bV).set v (.own (((aU mx g[v] h[v] p).map it).set p (it (mx g[v][p] h[v][p]))))=((aU eX g h v).set v (aU mx g[v] h[v] (p+1))).map bV:=akq;refine run ?_;repeat((apply aE;first|exact(hm2 _ _));refine run ?_)
   repeat((first
    |refine bt.at hlen.symm E hown ?_|refine bt.map hv1 rfl ?_|refine bt.map hv2 rfl ?_|refine bt.map hp1 rfl ?_|refine bt.map hp2 rfl ?_|refine Ij.mk ⟨_,hown',?_⟩|refine aE (hm2 _ _) ?_);refine run ?_)
   exact CJ
  have b2:decide ((p:Int)<((g[v].map it).length:Nat))=false:=az;have hpp:p=g[v].length:=E
  subst hpp;have e03:((aU eX g h v).set v (aU mx g[v] h[v] g[v].length)).map bV=(aU eX g h (v+1)).map bV:=ZY
  exact UQ
 have b1:decide ((v:Int)<(g.length:Nat))=false:=az
 have hvv:v=g.length:=E
 subst hvv;have hX:((aU eX g h g.length).map bV).length=g.length:=by simp[kU hs]
 have e:((aU eX g h g.length).map bV).map fW=(pN g h).map ints:=ZJ
 exact Vh
def Qm(g h:nj)(hl:g.length<=2^30)(hi:∀xs∈g,xs.length<=2^30)(hs:g.length=h.length)(hh:∀v (h1:v<g.length) (h2:v<h.length),g[v].length=h[v].length)(h0:g≠[]):aj prog 177 [dI g,dI h] fV (dI (pN g h)) fV:=by have hc:=aev g h h0 hl hi hs hh;refine fo func177 ?_;exact bp
def ZT(h:G:=by rw[BW,List.set_getElem_self]):=h
def AY(h:G:=by subst hRe;simp):=h
def RD(h:G:=by subst hpp;have e:=aqq g v hv R hR;have hlen:=pM g v (aU jq g[v] R g[v].length);refine run ?_;exact fP.mk (aL (λx=>au.sl 1 x false) e) rfl):=h
def Lb(h:G:=by rw[c_,aJ,iW hv];rfl):=h
def K9(h:G:=by rw[h]at hv;exact absurd hv (Nat.not_lt_zero _)):=h
def ak2(g:nj)(v p:Nat)(hv:v<g.length)(hp:p<g[v].length)(hl:g.length<=2^30)(hi:g[v].length<=2^30):C 411 [dI g,it v,it p] (it (tZ g v p)):=by
 have e:tZ g v p=g[v][p]:=by simp[tZ,rowOf,hv,hp]
 rw[e];have b1:decide ((v:Int)<0)=false:=fB E;have b2:decide ((v:Int)>=((g.map ints).length:Nat))=false:=az
 have b3:decide ((p:Int)<0)=false:=fB E;have b4:decide ((p:Int)>=((g[v].map it).length:Nat))=false:=az
 refine fo func411 ?_;refine run ?_;refine bt.map hv rfl ?_;refine run ?_;refine bt.map hv rfl ?_;refine run ?_;refine bt.map hp rfl ?_;exact bz
def jq(_ y:Int):Int:=y
theorem Vr:∀{a b:List Int},a.length=b.length->List.zipWith jq a b=b|[],[],_=>rfl|x::a,y::b,h=>by simp only[Fy,Vr (a:=a) (b:=b) eQ,jq]
def NO(g:nj)(v:Nat)(hv:v<g.length)(R:List Int)(k:Nat)(l:List au)(x:Int)(hR:g[v].length=R.length)(hk:k<g[v].length)(hx:R[k]'(hR▸hk)=x)(hl:l=(aU jq g[v] R k).map it):((g.set v (aU jq g[v] R k)).map bV).set v (.own (l.set k (it x)))=(g.set v (aU jq g[v] R (k+1))).map bV:=by subst hx hl;rw[<-yA hR hk,<-jU,show au.own ((aU jq g[v] R k).set k (R[k]'(hR▸hk))|>.map it)=bV ((aU jq g[v] R k).set k (R[k]'(hR▸hk))) from rfl,<-jU,yg];rfl
def adn(g:nj)(v:Nat)(hv:v<g.length)(R:List Int):g.map bV=(g.set v (aU jq g[v] R 0)).map bV:=ZT
def aqq(g:nj)(v:Nat)(hv:v<g.length)(R:List Int)(hR:g[v].length=R.length):((g.set v (aU jq g[v] R g[v].length)).map bV).map fW=(g.set v R).map ints:=by rw[BX hR,Vr hR,Fg];rfl
def BZ(g:nj)(v:Nat)(hv:v<g.length)(l:List Int):nth ((g.set v l).map bV) v=some (bV l):=by rw[c_,aJ,CS hv];rfl
def pM(g:nj)(v:Nat)(l:List Int):((g.set v l).map bV).length=g.length:=O
theorem amm(g:nj)(v:Nat)(hv:v<g.length)(e:Ex)(hl:g.length<=2^30)(hi:∀xs∈g,xs.length<=2^30)(a b:Int)(w:Bool)(hS:C 404 [cy e,it ((g.map ints).length:Nat)] (.bS [.agg [it a,it b],bo false]))(R:List Int)(hRe:R=g[v].map λ_=>NG):C 346 [dI g,it v,cy e,bo w] (dI (g.set v R)):=by
 have hc:=gv g (λh=>K9) E (λxs hx=>mP);have b1:decide ((v:Int)<0)=false:=fB E;have b2:decide ((v:Int)>=((g.map ints).length:Nat))=false:=az
 have hlx:=hi _ (cU hv);have hR:g[v].length=R.length:=AY
 refine d_ hm func346 (λ_=>false) [] (λn=>bif Nat.beq n 12 then[.Hr 9]else[]) aA ?_;refine aM ?_;have hlen:=pM g v (aU jq g[v] R 0);have xf:(g.map bV).length=g.length:=O
 have how:nth (g.map bV) v=some (bV g[v]):=Lb
 refine bt.at xf.symm E how ?_;refine run ?_;refine bt.at xf.symm E how ?_;refine run ?_;have e0:=adn g v hv R;have qV:=aL (λx=>some (Row.mk 0 true x)) e0;refine bF.mk ⟨[],aY.np (g[v].length) (λ_=>True) (λp=>⟨[(36,it p)],[],[(5140,⟨0,true,(g.set v (aU jq g[v] R p)).map bV⟩)]⟩) trivial ?_⟩;intro p hp hJ;by_cases hp1:p<g[v].length
 ·have b3:decide ((p:Int)<((g[v].map it).length:Nat))=true:=by simp;exact hp1
  have hM:(aU jq g[v] R p).length=g[v].length:=kU hR;have hml:((aU jq g[v] R p).map it).length=g[v].length:=xZ
  have hown:=BZ g v hv (aU jq g[v] R p);have hlen:=pM g v (aU jq g[v] R p);have hown' :nth ((g.set v (aU jq g[v] R p)).map bV) ((v:Int)).toNat=some (.own ((aU jq g[v] R p).map it)):=hown;have e02:=NO g v hv R p _ NG hR hp1 AY rfl;refine run ?_
  repeat((first
   |refine bt.at hlen.symm E hown ?_|refine bt.at hml.symm E hown ?_|refine bt.map hp1 rfl ?_|refine Ij.mk ⟨_,hown',?_⟩);refine run ?_)
  exact CJ
 have b3:decide ((p:Int)<((g[v].map it).length:Nat))=false:=az
 have hpp:p=g[v].length:=E
 exact RD
theorem aml(g:nj)(v:Nat)(hv:v<g.length)(e:Ex)(hl:g.length<=2^30)(hi:∀xs∈g,xs.length<=2^30)(a b:Int)(hS:C 404 [cy e,it ((g.map ints).length:Nat)] (.bS [.agg [it a,it b],bo true]))(R:List Int)(hRe:R=g[v].map λ_=>NG):C 346 [dI g,it v,cy e,bo false] (dI (g.set v R)):=by
 have hc:=gv g (λh=>K9) E (λxs hx=>mP);have b1:decide ((v:Int)<0)=false:=fB E;have b2:decide ((v:Int)>=((g.map ints).length:Nat))=false:=az
 have hlx:=hi _ (cU hv);have hR:g[v].length=R.length:=AY
 refine d_ hm func346 (λ_=>false) [] (λn=>bif Nat.beq n 12 then[.Hr 9]else[]) aA ?_;refine aM ?_;have hlen:=pM g v (aU jq g[v] R 0);have xf:(g.map bV).length=g.length:=O
 have how:nth (g.map bV) v=some (bV g[v]):=Lb
 refine bt.at xf.symm E how ?_;refine run ?_;refine bt.at xf.symm E how ?_;refine run ?_;have e0:=adn g v hv R;have qV:=aL (λx=>some (Row.mk 0 true x)) e0;refine bF.mk ⟨[],aY.np (g[v].length) (λ_=>True) (λp=>⟨[(36,it p)],[],[(5140,⟨0,true,(g.set v (aU jq g[v] R p)).map bV⟩)]⟩) trivial ?_⟩;intro p hp hJ;by_cases hp1:p<g[v].length
 ·have b3:decide ((p:Int)<((g[v].map it).length:Nat))=true:=by simp;exact hp1
  have hM:(aU jq g[v] R p).length=g[v].length:=kU hR;have hml:((aU jq g[v] R p).map it).length=g[v].length:=xZ
  have hown:=BZ g v hv (aU jq g[v] R p);have hlen:=pM g v (aU jq g[v] R p);have hown' :nth ((g.set v (aU jq g[v] R p)).map bV) ((v:Int)).toNat=some (.own ((aU jq g[v] R p).map it)):=hown;have e02:=NO g v hv R p _ NG hR hp1 AY rfl;refine run ?_
  repeat((first
   |refine bt.at hlen.symm E hown ?_|refine bt.at hml.symm E hown ?_|refine bt.map hp1 rfl ?_|refine Ij.mk ⟨_,hown',?_⟩);refine run ?_)
  exact CJ
 have b3:decide ((p:Int)<((g[v].map it).length:Nat))=false:=az
 have hpp:p=g[v].length:=E
 exact RD
theorem ahx(g:nj)(v:Nat)(hv:v<g.length)(e:Ex)(hl:g.length<=2^30)(hi:∀xs∈g,xs.length<=2^30)(u:Nat)(hu:u<g.length)(hlu:g[v].length=g[u].length)(b:Int)(hb: -(2^50)<b∧b<2^50)(hgu:∀x∈g[u],-(2^50)<x∧x<2^50)(hS:C 404 [cy e,it ((g.map ints).length:Nat)] (.bS [.agg [it u,it b],bo true]))(R:List Int)(hRe:R=g[u].map (CZ · b)):C 346 [dI g,it v,cy e,bo true] (dI (g.set v R)):=by
 have hc:=gv g (λh=>K9) E (λxs hx=>mP);have b1:decide ((v:Int)<0)=false:=fB E;have b2:decide ((v:Int)>=((g.map ints).length:Nat))=false:=az
 have hlx:=hi _ (cU hv);have hR:g[v].length=R.length:=by subst hRe;simp[hlu]
 refine d_ hm func346 (λ_=>false) [] (λn=>bif Nat.beq n 12 then[.Hr 9]else[]) aA ?_;refine aM ?_;have hlen:=pM g v (aU jq g[v] R 0);have xf:(g.map bV).length=g.length:=O
 have how:nth (g.map bV) v=some (bV g[v]):=Lb
 refine bt.at xf.symm E how ?_;refine run ?_;refine bt.at xf.symm E how ?_;refine run ?_;have e0:=adn g v hv R;have qV:=aL (λx=>some (Row.mk 0 true x)) e0;refine bF.mk ⟨[],aY.np (g[v].length) (λ_=>True) (λp=>⟨[(36,it p)],[],[(5140,⟨0,true,(g.set v (aU jq g[v] R p)).map bV⟩)]⟩) trivial ?_⟩;intro p hp hJ;by_cases hp1:p<g[v].length
 ·have b3:decide ((p:Int)<((g[v].map it).length:Nat))=true:=by simp;exact hp1
  have hM:(aU jq g[v] R p).length=g[v].length:=kU hR;have hml:((aU jq g[v] R p).map it).length=g[v].length:=xZ
  have hown:=BZ g v hv (aU jq g[v] R p);have hlen:=pM g v (aU jq g[v] R p);have hown' :nth ((g.set v (aU jq g[v] R p)).map bV) ((v:Int)).toNat=some (.own ((aU jq g[v] R p).map it)):=hown;have hp2:p<g[u].length:=hlu▸hp1;have cs:=akw g[u][p] b (hgu _ (cU hp2)) hb;have e02:=NO g v hv R p _ (CZ g[u][p] b) hR hp1 AY rfl;have e03:(((aU jq g[v] R p).map it).set p (it NG)).set p (it (CZ g[u][p] b))=((aU jq g[v] R p).map it).set p (it (CZ g[u][p] b)):=yg ..;have e04:∀(l:List au) x y,(l.set v x).set v y=l.set v y:=λl x y=>yg ..;have hown2:nth (((g.set v (aU jq g[v] R p)).map bV).set v (.own (((aU jq g[v] R p).map it).set p (it NG)))) ((v:Int)).toNat=some (.own (((aU jq g[v] R p).map it).set p (it NG))):=by show nth _ v=_;rw[aJ,CS (by rw[hlen];exact hv)]
  have hlen2:(((g.set v (aU jq g[v] R p)).map bV).set v (.own (((aU jq g[v] R p).map it).set p (it NG)))).length=g.length:=by rw[rG,hlen]
  replace e02:=(e04 _ (.own (((aU jq g[v] R p).map it).set p (it NG))) (.own ((((aU jq g[v] R p).map it).set p (it NG)).set p (it (CZ g[u][p] b))))).trans ((aL (λl=>List.set _ v (au.own l)) e03).trans e02);refine aM ?_
  repeat((first
   |refine bt.at hlen.symm E hown ?_|refine bt.at hlen2.symm E hown2 ?_|refine bt.map hu rfl ?_|refine bt.map hp1 rfl ?_|refine bt.map hp2 rfl ?_|refine Ij.mk ⟨_,hown',?_⟩|refine Ij.mk ⟨_,hown2,?_⟩|refine aE cs ?_);refine run ?_)
  exact CJ
 have b3:decide ((p:Int)<((g[v].map it).length:Nat))=false:=az
 have hpp:p=g[v].length:=E
 exact RD
def fL(c:Int)(o s:Int):Int:=mn o (CZ s c)
def aif(f:Int->Int->Int)(g:nj)(v:Nat)(hv:v<g.length)(S:List Int)(k:Nat)(l:List au)(x:Int)(hS:g[v].length=S.length)(hk:k<g[v].length)(hx:f g[v][k] (S[k]'(hS▸hk))=x)(hl:l=(aU f g[v] S k).map it):((g.set v (aU f g[v] S k)).map bV).set v (.own (l.set k (it x)))=(g.set v (aU f g[v] S (k+1))).map bV:=by subst hx hl;rw[<-yA hS hk,<-jU,show au.own ((aU f g[v] S k).set k (f g[v][k] (S[k]'(hS▸hk)))|>.map it)=bV ((aU f g[v] S k).set k (f g[v][k] (S[k]'(hS▸hk)))) from rfl,<-jU,yg]
def aqr(f:Int->Int->Int)(g:nj)(v:Nat)(hv:v<g.length)(S:List Int):g.map bV=(g.set v (aU f g[v] S 0)).map bV:=ZT
theorem anl(out g:nj)(x1 y1:Nat)(x2 y2 k:Int)(hx:x1<out.length)(hy:y1<g.length)(hl:out.length<=2^30)(hl2:g.length<=2^30)(hlu:out[x1].length=g[y1].length)(hi:g[y1].length<=2^30)(hx2: -(2^40)<x2∧x2<2^40)(hy2: -(2^40)<y2∧y2<2^40)(hk:0<=k∧k<=1)(hgu:∀n∈g[y1],-(2^50)<n∧n<2^50):aj prog 462 [.agg [it x1,it x2],.agg [it y1,it y2],it k,.ptr 1000 0,.ptr 1001 0] ⟨[.cQ 1000 out.length,dI g],[XL out]⟩ (.bS []) ⟨[.cQ 1000 out.length,dI g],[XL (out.set x1 (List.zipWith (fL (y2 - x2 - k)) out[x1] g[y1]))]⟩:=by
 have h1:=hx2.1;have h2:=hx2.2;have h3:=hy2.1;have h4:=hy2.2;have h5:=hk.1;have h6:=hk.2;generalize hf:fL (y2 - x2 - k)=f;refine fo func462 ?_;refine run ?_;have xf:(out.map bV).length=out.length:=O
 have how:nth (out.map bV) x1=some (bV out[x1]):=by rw[c_,aJ,iW hx];rfl
 refine bt.at xf.symm E how ?_;refine run ?_;refine bt.at xf.symm E how ?_;refine run ?_;have e0:=aqr f out x1 hx g[y1];have qV:=aL (λx=>some (Row.mk 0 true x)) e0;refine bF.mk ⟨[],aY.np (out[x1].length) (λ_=>True) (λp=>⟨[(15,it p)],[],[(1000,⟨0,true,(out.set x1 (aU f out[x1] g[y1] p)).map bV⟩)]⟩) trivial ?_⟩;intro p hp hJ;by_cases hp1:p<out[x1].length
 ·have b3:decide ((p:Int)<((out[x1].map it).length:Nat))=true:=by simp;exact hp1
  have hM:(aU f out[x1] g[y1] p).length=out[x1].length:=kU hlu;have hml:((aU f out[x1] g[y1] p).map it).length=out[x1].length:=xZ
  have hp2:p<g[y1].length:=hlu▸hp1;have hown:=BZ out x1 hx (aU f out[x1] g[y1] p);have hlen:=pM out x1 (aU f out[x1] g[y1] p);have hown' :nth ((out.set x1 (aU f out[x1] g[y1] p)).map bV) ((x1:Int)).toNat=some (.own ((aU f out[x1] g[y1] p).map it)):=hown;have cs:=akw g[y1][p] (y2 - x2 - k) (hgu _ (cU hp2)) E;have auj:nth ((aU f out[x1] g[y1] p).map it) p=some (it out[x1][p]):=by rw[c_,aJ,C_ hlu hp1];rfl
  have e02:=aif f out x1 hx g[y1] p _ (mn out[x1][p] (CZ g[y1][p] (y2 - x2 - k))) hlu hp1 (by subst hf;rfl) rfl;refine aM ?_
  repeat((first
   |refine bt.at hlen.symm E hown ?_|refine bt.map hy rfl ?_|refine bt.map hp2 rfl ?_|refine bt.at rfl E auj ?_|refine Ij.mk ⟨_,hown',?_⟩|refine aE cs ?_);refine run ?_)
  exact CJ
 have b3:decide ((p:Int)<((out[x1].map it).length:Nat))=false:=az
 have hpp:p=out[x1].length:=E
 subst hpp;have e:(out.set x1 (aU f out[x1] g[y1] out[x1].length)).map bV=(out.set x1 (List.zipWith f out[x1] g[y1])).map bV:=by rw[BX hlu]
 refine run ?_;exact fP.mk rfl (aL (λx=>Ct.mk [.cQ 1000 out.length,dI g] [Row.mk 0 true x]) e)
def E8(h:G:=by rw[h.len];exact hn):=h
def AQ(h:G:=by simp[hR]):=h
def wk(h:G:=by refine d_ hm Tryz.func425 (λ_=>false) [] auy (by kernel_rfl) ?_;refine aM ?_;refine kQ.mk hlen.symm ?_;refine run ?_;exact fP.mk (aL (λx=>au.sl 1 x false) e) rfl):=h
def rA(h:G:=by rw[Fg];rfl):=h
def auy:Nat->List Ad:=λn=>bif Nat.beq n 5 then[.uj 13 0]else bif Nat.beq n 18 then[.uj 13 0]else[]
def D1(g o R:nj)(x1 x2 y1 y2 k:Int):Prop:=aj prog 462 [.agg [it x1,it x2],.agg [it y1,it y2],it k,.ptr 1000 0,.ptr 1001 0] ⟨[.cQ 1000 g.length,dI g],[XL o]⟩ (.bS []) ⟨[.cQ 1000 g.length,dI g],[XL R]⟩
def FG(g:nj)(a:Ex)(x1 x2:Int)(b:Bool):Prop:=C 404 [cy a,it ((g.map ints).length:Nat)] (.bS [.agg [it x1,it x2],bo b])
section
variable(g:nj)(h0:g≠[])(a b:Ex)(hl:g.length<=2^30)(hi:∀xs∈g,xs.length<=2^30)(x1 x2 y1 y2:Int)
include h0 hl hi
def apb(op:Int)(h u v:Bool)(d:Bool)(hS:FG g a x1 x2 false)(hT:FG g b y1 y2 d):C 425 [dI g,it op,bo h,cy a,cy b,.agg [bo u,bo v]] (dI g):=by
 have hc:=gv g h0 E (λxs hx=>mP);have e:(g.map bV).map fW=g.map ints:=rA
 have hlen:(g.map bV).length=g.length:=O
 exact wk
def apa(op:Int)(h u v:Bool)(hS:FG g a x1 x2 true)(hT:FG g b y1 y2 false):C 425 [dI g,it op,bo h,cy a,cy b,.agg [bo u,bo v]] (dI g):=by
 have hc:=gv g h0 E (λxs hx=>mP);have e:(g.map bV).map fW=g.map ints:=rA
 have hlen:(g.map bV).length=g.length:=O
 exact wk
def at6(op:Int)(h v:Bool)(hS:FG g a x1 x2 true)(hT:FG g b y1 y2 true):C 425 [dI g,it op,bo h,cy a,cy b,.agg [bo false,bo v]] (dI g):=by
 have hc:=gv g h0 E (λxs hx=>mP);have e:(g.map bV).map fW=g.map ints:=rA
 have hlen:(g.map bV).length=g.length:=O
 exact wk
def at5(op:Int)(h:Bool)(hS:FG g a x1 x2 true)(hT:FG g b y1 y2 true):C 425 [dI g,it op,bo h,cy a,cy b,.agg [bo true,bo false]] (dI g):=by
 have hc:=gv g h0 E (λxs hx=>mP);have e:(g.map bV).map fW=g.map ints:=rA
 have hlen:(g.map bV).length=g.length:=O
 exact wk
def apg(R:nj)(hR:R.length=g.length)(hS:FG g a x1 x2 true)(hT:FG g b y1 y2 true)(hL:D1 g g R x1 x2 y1 y2 1):C 425 [dI g,it 2,bo true,cy a,cy b,.agg [bo true,bo true]] (dI R):=by
 have hc:=gv g h0 E (λxs hx=>mP);have e:(R.map bV).map fW=R.map ints:=rA
 have hlen:(R.map bV).length=g.length:=AQ
 exact wk
def aph(R:nj)(hR:R.length=g.length)(hS:FG g a x1 x2 true)(hT:FG g b y1 y2 true)(hL:D1 g g R y1 y2 x1 x2 0):C 425 [dI g,it 2,bo false,cy a,cy b,.agg [bo true,bo true]] (dI R):=by
 have hc:=gv g h0 E (λxs hx=>mP);have e:(R.map bV).map fW=R.map ints:=rA
 have hlen:(R.map bV).length=g.length:=AQ
 exact wk
def ape(R:nj)(hR:R.length=g.length)(hS:FG g a x1 x2 true)(hT:FG g b y1 y2 true)(hL:D1 g g R x1 x2 y1 y2 0):C 425 [dI g,it 3,bo true,cy a,cy b,.agg [bo true,bo true]] (dI R):=by
 have hc:=gv g h0 E (λxs hx=>mP);have e:(R.map bV).map fW=R.map ints:=rA
 have hlen:(R.map bV).length=g.length:=AQ
 exact wk
def apf(R:nj)(hR:R.length=g.length)(hS:FG g a x1 x2 true)(hT:FG g b y1 y2 true)(hL:D1 g g R y1 y2 x1 x2 1):C 425 [dI g,it 3,bo false,cy a,cy b,.agg [bo true,bo true]] (dI R):=by
 have hc:=gv g h0 E (λxs hx=>mP);have e:(R.map bV).map fW=R.map ints:=rA
 have hlen:(R.map bV).length=g.length:=AQ
 exact wk
def apc(R0 R:nj)(hR:R.length=g.length)(hS:FG g a x1 x2 true)(hT:FG g b y1 y2 true)(hL:D1 g g R0 x1 x2 y1 y2 0)(hL2:D1 g R0 R y1 y2 x1 x2 0):C 425 [dI g,it 4,bo true,cy a,cy b,.agg [bo true,bo true]] (dI R):=by
 have hc:=gv g h0 E (λxs hx=>mP);have e:(R.map bV).map fW=R.map ints:=rA
 have hlen:(R.map bV).length=g.length:=AQ
 exact wk
def apd(hS:FG g a x1 x2 true)(hT:FG g b y1 y2 true):C 425 [dI g,it 4,bo false,cy a,cy b,.agg [bo true,bo true]] (dI g):=by
 have hc:=gv g h0 E (λxs hx=>mP);have e:(g.map bV).map fW=g.map ints:=rA
 have hlen:(g.map bV).length=g.length:=O
 exact wk
def at8(op:Int)(h:Bool)(n2:op≠2)(n3:op≠3)(n4:op≠4)(hS:FG g a x1 x2 true)(hT:FG g b y1 y2 true):C 425 [dI g,it op,bo h,cy a,cy b,.agg [bo true,bo true]] (dI g):=by
 have b2:=fE n2;have b3:=fE n3;have b4:=fE n4;have hc:=gv g h0 E (λxs hx=>mP);have e:(g.map bV).map fW=g.map ints:=rA
 have hlen:(g.map bV).length=g.length:=O
 exact wk
end
def Sq{g:nj}{e:Ex}(he:Tr e):∃x1 x2,FG g e x1 x2 (Rb e g.length).isSome∧(Rb e g.length).getD (0,0)=(x1,x2):=by refine⟨((Rb e g.length).getD (0,0)).1,((Rb e g.length).getD (0,0)).2,?_,rfl⟩;have:=XF e ((g.map ints).length:Nat) he;unfold FG;have el:(g.map ints).length=g.length:=dn ..;rw[el]at this ⊢;exact dj
def aey{g:nj}{n p:Nat}(h:kx g n p){k:Nat}(hk:k<g.length):∀x∈g[k],-(2^50)<x∧x<2^50:=by intro x hx;have:=(h.row _ (cU hk)).2 x hx;rcases(HF x).1 this with h|h;rw[h];decide;omega
def HM{g:nj}{n p:Nat}(h:kx g n p)(hp:p<=2^30):∀xs∈g,xs.length<=2^30:=λxs hx=>by rw[(h.row xs hx).1];exact hp
def Hm{g o:nj}{n p:Nat}(h:kx g n p)(ho:kx o n p)(hn:n<=2^30)(hp:p<=2^30){a b:Ex}{x1 x2 y1 y2:Int}(hS:Rb a g.length=some (x1,x2))(hT:Rb b g.length=some (y1,y2))(k:Int)(hk:0<=k∧k<=1):D1 g o (vW o g (x1,x2) (y1,y2) k) x1 x2 y1 y2 k∧(vW o g (x1,x2) (y1,y2) k).length=g.length:=by
 have s1:=wN hS;have s2:=wN hT;have hog:o.length=g.length:=by rw[ho.len,h.len]
 obtain⟨v,rfl⟩:∃v:Nat,x1=v:=⟨x1.toNat,E⟩;obtain⟨u,rfl⟩:∃u:Nat,y1=u:=⟨y1.toNat,E⟩;have hv:v<o.length:=E
 have hu:u<g.length:=E
 have e1:rowOf o v=o[v]:=by simp[rowOf,hv]
 have e2:rowOf g u=g[u]:=by simp[rowOf,hu]
 refine⟨?_,by unfold vW;rw[rG,hog]⟩;unfold D1 vW;rw[e1,e2];have:=anl o g v u x2 y2 k hv hu (by rw[ho.len];exact hn) E8 (by rw[(ho.row _ (cU hv)).1,(h.row _ (cU hu)).1]) (by rw[(h.row _ (cU hu)).1];exact hp) E E hk (aey h hu);rw[hog]at this;exact dj
def agi{g:nj}{n p:Nat}(h:kx g n p)(h0:g≠[])(hn:n<=2^30)(hp:p<=2^30)(op:Int)(hh:Bool)(a b:Ex)(u v:Bool)(ha:Tr a)(hb:Tr b):C 425 [dI g,it op,bo hh,cy a,cy b,.agg [bo u,bo v]] (dI (yM g op hh a b u v)):=by
 have hl:g.length<=2^30:=E8
 have hi:=HM h hp;obtain⟨x1,x2,hS,eS⟩:=Sq (g:=g) ha;obtain⟨y1,y2,hT,eT⟩:=Sq (g:=g) hb;unfold yM;cases hA:Rb a g.length with|none=>rw[hA]at hS;exact apb g h0 a b hl hi x1 x2 y1 y2 op hh u v _ hS hT|some x=>rw[hA]at hS eS;cases hB:Rb b g.length with|none=>rw[hB]at hT;exact apa g h0 a b hl hi x1 x2 y1 y2 op hh u v hS hT|some y=>rw[hB]at hT eT;simp only[u9]at eS eT;subst eS eT;simp only[Option.isSome_some]at hS hT;cases u with|false=>exact at6 g h0 a b hl hi x1 x2 y1 y2 op hh v hS hT|true=>cases v with|false=>exact at5 g h0 a b hl hi x1 x2 y1 y2 op hh hS hT|true=>have L1:=Hm h h hn hp hA hB;have L2:=Hm h h hn hp hB hA;simp only[Bool.and_self,Bool.not_true,uV,jZ];by_cases n2:op=2;subst n2;cases hh;exact aph g h0 a b hl hi x1 x2 y1 y2 _ (L2 0 E).2 hS hT (L2 0 E).1;exact apg g h0 a b hl hi x1 x2 y1 y2 _ (L1 1 E).2 hS hT (L1 1 E).1;rw[Z n2];by_cases n3:op=3;subst n3;cases hh;exact apf g h0 a b hl hi x1 x2 y1 y2 _ (L2 1 E).2 hS hT (L2 1 E).1;exact ape g h0 a b hl hi x1 x2 y1 y2 _ (L1 0 E).2 hS hT (L1 0 E).1;rw[Z n3];by_cases n4:op=4;subst n4;cases hh;exact apd g h0 a b hl hi x1 x2 y1 y2 hS hT;have ax:=(wN hA).1;have ay:=(wN hB).1;rw[h.len]at ax ay;have ok1:kx (vW g g (x1,x2) (y1,y2) 0) n p:=w_ h h ax ay 0;have L3:=Hm h ok1 hn hp hB hA 0 E;exact apc g h0 a b hl hi x1 x2 y1 y2 _ _ L3.2 hS hT (L1 0 E).1 L3.1;rw[Z (λh=>n4 h.1)];exact at8 g h0 a b hl hi x1 x2 y1 y2 op hh n2 n3 n4 hS hT
theorem aq1{g:nj}{n p:Nat}(h:kx g n p)(hn:n<=2^30)(hp:p<=2^30)(v:Int)(hv:0<=v∧v<n)(e:Ex)(he:Tr e)(w:Bool):C 346 [dI g,it v,cy e,bo w] (dI (XG g v e w)):=by
 have hl:g.length<=2^30:=E8
 have hi:=HM h hp;obtain⟨k,rfl⟩:∃k:Nat,v=k:=⟨v.toNat,E⟩;have hk:k<g.length:=L5
 have e1:rowOf g k=g[k]:=by simp[rowOf,hk]
 obtain⟨x1,x2,hS,eS⟩:=Sq (g:=g) he;unfold XG;rw[e1];cases hA:Rb e g.length with
 |none=>rw[hA]at hS;exact amm g k hk e hl hi x1 x2 w hS _ rfl
 |some x=>
  rw[hA]at hS eS;simp only[u9]at eS;subst eS;cases w with
  |false=>exact aml g k hk e hl hi x1 x2 hS _ rfl
  |true=>
   have s1:=wN hA;obtain⟨u,rfl⟩:∃u:Nat,x1=u:=⟨x1.toNat,E⟩;have hu:u<g.length:=E
   have e2:rowOf g u=g[u]:=(by simp[rowOf,hu]);have:=ahx g k hk e hl hi u hu (by rw[(h.row _ (cU hk)).1,(h.row _ (cU hu)).1]) x2 E (aey h hu) hS _ rfl;rw[<-e2]at this;exact dj
def agb{g:nj}{n p:Nat}(h:kx g n p)(hn:n<=2^30)(hp:p<=2^30)(v q:Int)(hv:0<=v∧v<n)(hq:0<=q∧q<p):C 411 [dI g,it v,it q] (it (tZ g v q)):=by
 obtain⟨k,rfl⟩:∃k:Nat,v=k:=⟨v.toNat,E⟩;obtain⟨j,rfl⟩:∃j:Nat,q=j:=⟨q.toNat,E⟩;have hk:k<g.length:=L5
 have hr:=(h.row _ (cU hk)).1;exact ak2 g k j hk (by rw[hr];omega) E8 (by rw[hr];exact hp)
def KS(h:G:=by refine aM ?_;refine bt.at rfl (by omega) N_ ?_;refine aM ?_;refine bt.at rfl (by omega) hx ?_;exact bp):=h
def aN(r:Rf):au:= .agg [it r.s,it r.a.lo,it r.a.hi,it r.a.m,it r.a.r,it r.a.mask]
def cF(f:Fa):List au:=[bo f.dead,fj 5 ai f.v,dI f.ju,fj 6 aN f.refs,ints f.arr,it f.ei,it f.may,it f.parts]
def aZ(f:Fa):au:= .agg (cF f)
structure yR(d:Df):Prop where
 J9:Iq d
 pv:d.params.length<=d.vars
 vars:1<=d.vars∧d.vars<=1048576
 refs:0<=d.refs∧d.refs<=1048576
 pn:d.params.length<=1048576
 an:d.aK.length<=1048576
def ZG:C 81 [] (ai (kM 0 0)):=by have c:=ai5 0 0 ⟨E,E⟩;generalize kM 0 0=X at c ⊢;refine fo func81 ?_;exact bp
def WH(x L ag:Int):aj prog 455 [it x,.ptr 1000 0] ⟨[.agg [it L,it ag]],[]⟩ (it (se x L)) ⟨[.agg [it L,it ag]],[]⟩:=by refine fo func455 ?_;exact bz
def vA{f:Fa}{n:Int}(h:n.toNat<f.v.length):nth (f.v.map ai) n.toNat=some (ai (gV f n)):=by rw[c_,gQ h];unfold gV;simp[h]
def Hn{d:Df}{f:Fa}(hd:yR d)(hf:pT d f)(n:Int)(hn:0<=n∧n<d.aK.length):C 410 [bR d,aZ f,it n] (.bS [ai (Ho d f n),it (IL d n),bo (PZ d f n)]):=by
 have ha:=Cv hd.J9 (n:=n);have hpv:=hd.pv;have hpn:=hd.pn;have hv:=hf.v;have N_:nth (d.aK.map kO) n.toNat=some (.agg [it (ib d n).len,it (ib d n).yP]):=by
  have h:n.toNat<d.aK.length:=E
  rw[c_,gQ h];unfold ib;simp[h,kO]
 unfold Ho IL PZ;obtain⟨L,ag,hA⟩:∃L ag,ib d n=⟨L,ag⟩:=⟨_,_,rfl⟩;rw[hA]at ha N_ ⊢;dsimp only at ha N_ ⊢;by_cases hO:ag=0;have b1:=tE hO;rw[ak hO,ak hO,ak hO];have c:=ai5 L 0 ⟨E,E⟩;generalize kM L 0=X at c ⊢;refine fo func410 ?_;refine aM ?_;refine bt.at rfl E N_ ?_;exact bp;have b1:=fE hO;rw[Z hO,Z hO,Z hO];have hV:aR (gV f (ag - 1)):=yH hf.va _;have hx:=vA (f:=f) (n:=ag - 1) E;generalize gV f (ag - 1)=V at*;obtain⟨lo,hi,m,r,mask⟩:=V;dsimp only at hx ⊢;have c1:=F7 lo ha.2.1;have c2:=F7 hi ha.2.1;have k1:=WH lo L ag;have k2:=WH hi L ag;have c:=N6 ⟨se lo L,se hi L,0⟩ ⟨bu,bu⟩ ⟨bu,bu⟩;unfold jh at c;dsimp only at c;generalize mh (se lo L) (se hi L) 1 0=X at c ⊢;generalize se lo L=C1 at*;generalize se hi L=C2 at*;by_cases h0:lo>=0;have b2:=tB h0;rw[b2];refine fo func410 ?_;exact KS;have b2:=fB h0;rw[b2];refine fo func410 ?_;exact KS
def yo:=@not_false_eq_true
def ED(h:G:=by refine fo Tryz.func345 ?_;exact bz):=h
def kh.Ws{vars na:Int}{k:Nat}{e:Ex}{n:Nat}(h:kh vars na k e n)(ho:e.op=1): -2147483648<=e.v∧e.v<=2147483647:=by cases h with|num h=>exact h|var h=>simp[Ex.op]at ho|len h=>simp[Ex.op]at ho|bin h _ _=>simp[Ex.op]at ho;omega
def kh.I9{vars na:Int}{k:Nat}{e:Ex}{n:Nat}(h:kh vars na k e n)(ho:e.op=2):0<=e.n∧e.n<vars:=by cases h with|num h=>simp[Ex.op]at ho|var h=>exact h|len h=>simp[Ex.op]at ho|bin h _ _=>simp[Ex.op]at ho;omega
def kh.aqw{vars na:Int}{k:Nat}{e:Ex}{n:Nat}(h:kh vars na k e n)(ho:e.op=3):0<=e.n∧e.n<na:=by cases h with|num h=>simp[Ex.op]at ho|var h=>simp[Ex.op]at ho|len h=>exact h|bin h _ _=>simp[Ex.op]at ho;omega
def kh.sh{vars na:Int}{k:Nat}{e:Ex}{n:Nat}(h:kh vars na k e n):Tr e:=by cases h with|num h=>exact .inl rfl|var h=>exact .inl rfl|len h=>exact .inl rfl|bin h _ _=>exact .inr ⟨_,_,rfl⟩
theorem Cm{d:Df}{f:Fa}(hd:yR d)(hf:pT d f){k:Nat}{e:Ex}{z:Nat}(he:kh d.vars d.aK.length k e z):C 423 [bR d,aZ f,cy e] (ai (iU d f e)):=by
 induction he with
 |num h=>rename_i k v;rw[JR];have c:=ai5 v 0 ⟨E,E⟩;generalize kM v 0=X at c ⊢;refine fo func423 ?_;exact bp|var h=>rename_i k n;rw[JQ];have hx:=vA (f:=f) (n:=n) (by have:=hf.v;omega);generalize gV f n=X at hx ⊢;refine fo func423 ?_;refine run ?_;refine bt.at rfl (by exact h.1) hx ?_;exact bz|len h=>rename_i k n;rw[JS];have c:=Hn hd hf n h;generalize Ho d f n=X at c ⊢;refine fo func423 ?_;exact bp
 |bin h ha hb iha ihb=>
  rename_i k op a b x y;rw[JT d f h.1];have e1:(op==1)=false:=az
  have e2:(op==2)=false:=az
  have e3:(op==3)=false:=az
  have c:=aky op _ _ h (jJ hd.J9 hf.va ha) (jJ hd.J9 hf.va hb);generalize opA op (iU d f a) (iU d f b)=X at c ⊢;generalize iU d f a=A at*;generalize iU d f b=B at*;cases a;cases b;refine fo func423 ?_;refine aM ?_;repeat((refine bt.at rfl aw rfl ?_);refine run ?_;repeat((apply aE;first|exact iha|exact ihb|exact c);refine run ?_))
  exact aG
theorem Nt{d:Df}{f:Fa}(hf:pT d f){k:Nat}{e:Ex}{z:Nat}(he:kh d.vars d.aK.length k e z):C 345 [aZ f,cy e] (.bS [it (qg f e).1,it (qg f e).2.1,bo (qg f e).2.2]):=by
 have hfv:=hf.v;cases he with
 |num h=>exact ED|var h=>exact ED|len h=>exact ED
 |bin h ha hb=>
  rename_i k op a b x y;have va:=ha.Ws;have vb:=hb.Ws;have na:=ha.I9;have nb:=hb.I9;have e2:(op==2)=false:=az
  obtain⟨oa,an,av,al⟩:=a;obtain⟨ob,bn,bv,bl⟩:=b;dsimp only[Ex.op,Ex.v,Ex.n]at va vb na nb;have hs:qg f (.mk op 0 0 [.mk oa an av al,.mk ob bn bv bl])=if op≠4∧op≠5 then(0,0,false)else
   let p:=if op=4∧oa=1 then(Ex.mk ob bn bv bl,Ex.mk oa an av al)else(Ex.mk oa an av al,Ex.mk ob bn bv bl)
   if p.1.op≠2∨p.2.op≠1 then(0,0,false)else
   let c:=if op=5 then 0 - p.2.v else p.2.v
   (p.1.n,c,decide ((gV f p.1.n).lo+c>=-2147483648)&&decide ((gV f p.1.n).hi+c<=2147483647)):=by
   unfold qg;rw[Z (show ¬(Ex.mk op 0 0 [.mk oa an av al,.mk ob bn bv bl]).op=2 by show ¬op=2;omega)];rfl
  rw[hs];have fin:∀(n c:Int),n.toNat<f.v.length->0<=n->∀b1 b2:Bool,True:=λ_ _ _ _ _ _=>trivial;clear hs fin;by_cases h4:op=4
  ·subst h4;rw[Z E];by_cases a1:oa=1
   ·subst a1;by_cases b2:ob=2
    ·subst b2;have hn:=nb rfl;have hv:=va rfl;show C 345 _ (.bS [it bn,it av,bo (decide ((gV f bn).lo+av>=-2147483648)&&decide ((gV f bn).hi+av<=2147483647))]);have hx:=vA (f:=f) (n:=bn) E;have hV:aR (gV f bn):=yH hf.va _;generalize gV f bn=X at*;have x1:=hV.lo;have x2:=hV.hi;have x3:=hV.le;by_cases q:X.lo+av>=-2147483648
     ·have q1:=tB q;rw[q1];refine fo func345 ?_;refine run ?_;repeat((first|refine bt.at rfl aw rfl ?_|refine bt.at rfl E hx ?_);refine run ?_)
      exact aG
     ·have q1:=fB q;rw[q1];refine fo func345 ?_;refine run ?_;repeat((first|refine bt.at rfl aw rfl ?_|refine bt.at rfl E hx ?_);refine run ?_)
      exact aG
    ·have hb2:ob≠2:=b2;have b2:=fE b2;have b3:(ob !=2)=true:=by simp at b2 ⊢;exact b2
     simp only[and_self,jX];dsimp only[Ex.op,Ex.v,Ex.n];simp only[ne_eq,hb2,yo,true_or,jX];have hx:True:=trivial;refine fo func345 ?_;refine run ?_;repeat((first|refine bt.at rfl aw rfl ?_|refine bt.at rfl E hx ?_);refine run ?_)
     exact aG
   ·have a1' :=fE a1;simp only[a1,and_false,jZ];dsimp only[Ex.op,Ex.v,Ex.n];by_cases a2:oa=2
    ·subst a2;by_cases b1:ob=1
     ·subst b1;have hn:=na rfl;have hv:=vb rfl;show C 345 _ (.bS [it an,it bv,bo (decide ((gV f an).lo+bv>=-2147483648)&&decide ((gV f an).hi+bv<=2147483647))]);have hx:=vA (f:=f) (n:=an) E;have hV:aR (gV f an):=yH hf.va _;generalize gV f an=X at*;have x1:=hV.lo;have x2:=hV.hi;have x3:=hV.le;by_cases q:X.lo+bv>=-2147483648
      ·have q1:=tB q;rw[q1];refine fo func345 ?_;refine run ?_;repeat((first|refine bt.at rfl aw rfl ?_|refine bt.at rfl E hx ?_);refine run ?_)
       exact aG
      ·have q1:=fB q;rw[q1];refine fo func345 ?_;refine run ?_;repeat((first|refine bt.at rfl aw rfl ?_|refine bt.at rfl E hx ?_);refine run ?_)
       exact aG
     ·have b2:=fE b1;have b3:(ob !=1)=true:=by simp at b2 ⊢;exact b2
      simp only[ne_eq,b1,yo,or_true,jX];have hx:True:=trivial;refine fo func345 ?_;refine run ?_;repeat((first|refine bt.at rfl aw rfl ?_|refine bt.at rfl E hx ?_);refine run ?_)
      exact aG
    ·have a2' :=fE a2;have a3:(oa !=2)=true:=by simp;exact a2
     simp only[ne_eq,a2,yo,true_or,jX];have hx:True:=trivial;refine fo func345 ?_;refine run ?_;repeat((first|refine bt.at rfl aw rfl ?_|refine bt.at rfl E hx ?_);refine run ?_)
     exact aG
  ·have h4' :=fE h4;have avx :(op !=4)=true:=by simp;exact h4
   by_cases h5:op=5
   ·subst h5;rw[Z E];simp only[h4,false_and,jZ];dsimp only[Ex.op,Ex.v,Ex.n];by_cases a2:oa=2
    ·subst a2;by_cases b1:ob=1
     ·subst b1;have hn:=na rfl;have hv:=vb rfl;show C 345 _ (.bS [it an,it (0 - bv),bo (decide ((gV f an).lo+(0 - bv)>=-2147483648)&&decide ((gV f an).hi+(0 - bv)<=2147483647))]);have hx:=vA (f:=f) (n:=an) E;have hV:aR (gV f an):=yH hf.va _;generalize gV f an=X at*;have x1:=hV.lo;have x2:=hV.hi;have x3:=hV.le;by_cases q:X.lo+(0 - bv)>=-2147483648
      ·have q1:=tB q;rw[q1];refine fo func345 ?_;refine run ?_;repeat((first|refine bt.at rfl aw rfl ?_|refine bt.at rfl E hx ?_);refine run ?_)
       exact aG
      ·have q1:=fB q;rw[q1];refine fo func345 ?_;refine run ?_;repeat((first|refine bt.at rfl aw rfl ?_|refine bt.at rfl E hx ?_);refine run ?_)
       exact aG
     ·have b2:=fE b1;have b3:(ob !=1)=true:=by simp at b2 ⊢;exact b2
      simp only[ne_eq,b1,yo,or_true,jX];have hx:True:=trivial;refine fo func345 ?_;refine run ?_;repeat((first|refine bt.at rfl aw rfl ?_|refine bt.at rfl E hx ?_);refine run ?_)
      exact aG
    ·have a2' :=fE a2;have a3:(oa !=2)=true:=by simp;exact a2
     simp only[ne_eq,a2,yo,true_or,jX];have hx:True:=trivial;refine fo func345 ?_;refine run ?_;repeat((first|refine bt.at rfl aw rfl ?_|refine bt.at rfl E hx ?_);refine run ?_)
     exact aG
   ·have h5' :=fE h5;have avw :(op !=5)=true:=by simp;exact h5
    simp only[ne_eq,h4,h5,yo,and_self,jX];have hx:True:=trivial;refine fo func345 ?_;refine run ?_;repeat((first|refine bt.at rfl aw rfl ?_|refine bt.at rfl E hx ?_);refine run ?_)
    exact aG
def zp:=@List.map_eq_nil_iff
def Gb(h:G:=by exact fP.mk (aL (λx=>au.agg [bo false,au.sl 5 x false,dI G,fj 6 aN refs,ints arr,it ei,it may,it parts]) es) rfl):=h
def uA(h:G:=by rw[dn];omega):=h
def U5(h:G:=by have h:f.v=[]:=zp.1 e;rw[h]at hvl;simp only[kI]at hvl;omega):=h
def KN(h:G:=by refine fo Tryz.func350 ?_;refine aM ?_;refine bt.at rfl (by omega) N_ ?_;exact bz):=h
def T'(h:G:=by rw[e];have:=vb rfl;exact⟨na rfl,by exact bu,by exact bu⟩):=h
def Kl(h:G:=by refine fo Tryz.func350 ?_;exact KS):=h
def xv(es:List au)(h:es≠[])(hl:es.length<=2^32):aj prog 179 [.sl 5 es false] fV (.ref 1000 es.length) ⟨[],[⟨5,true,es⟩]⟩:=by refine d_ hm func179 (λ_=>false) [true] (λ_=>[]) aA ?_;exact EE
def pT.gne{d:Df}{f:Fa}(h:pT d f)(hd:yR d):f.ju≠[]:=λe=>by have:=h.ju.len;rw[e]at this;have h2:=hd.vars;simp only[kI]at this;omega
def abv{d:Df}{f:Fa}(hd:yR d)(hf:pT d f)(v:Int)(hv:0<=v∧v<d.vars)(a:Av){e:Ex}(hsh:Tr e)(c1:C 345 [aZ f,cy e] (.bS [it (qg f e).1,it (qg f e).2.1,bo (qg f e).2.2])):C 281 [bR d,aZ f,it v,ai a,cy e] (aZ (IC f v a e)):=by
 have hvl:=hf.v;have hvs:=hd.vars;have c2:=aq1 hf.ju E (by have:=hd.pn;omega) v E e hsh (qg f e).2.2;have hne:f.v.map ai≠[]:=λe=>U5
 have c3:=xv (f.v.map ai) hne uA;unfold IC;rw[Z (by rw[hf.live];simp)];have hx:=vA (f:=f) (n:=v) E;have es:(f.v.map ai).set v.toNat (ai a)=(f.v.set v.toNat a).map ai:=by rw[jU]
 have hl:=hf.live;generalize XG f.ju v e (qg f e).2.2=G at*;generalize qg f e=S at*;obtain⟨s1,s2,s3⟩:=S;obtain⟨dead,V,ju,refs,arr,ei,may,parts⟩:=f;dsimp only at hl hx es c1 c2 c3 ⊢;subst hl;refine d_ hm func281 (λ_=>false) [] (λn=>bif Nat.beq n 7 then[.aS 6 1]else[]) aA ?_;refine aM ?_;repeat((refine bt.at rfl hv.1 hx ?_);refine run ?_)
 exact Gb
def amn{d:Df}{f:Fa}(hd:yR d)(hf:pT d f)(v:Int)(hv:0<=v∧v<d.vars)(a:Av){k:Nat}{e:Ex}{z:Nat}(he:kh d.vars d.aK.length k e z):C 281 [bR d,aZ f,it v,ai a,cy e] (aZ (IC f v a e)):=abv hd hf v hv a he.sh (Nt hf he)
def YX(f:Fa)(op oa an av:Int)(al:List Ex)(ob bn bv:Int)(bl:List Ex):Int×Int×Bool:=
 if op≠4∧op≠5 then(0,0,false)else
 let p:=if op=4∧oa=1 then(Ex.mk ob bn bv bl,Ex.mk oa an av al)else(Ex.mk oa an av al,Ex.mk ob bn bv bl)
 if p.1.op≠2∨p.2.op≠1 then(0,0,false)else
 let c:=if op=5 then 0 - p.2.v else p.2.v
 (p.1.n,c,decide ((gV f p.1.n).lo+c>=-2147483648)&&decide ((gV f p.1.n).hi+c<=2147483647))
def ahw(f:Fa){op oa an av:Int}{al:List Ex}{ob bn bv:Int}{bl:List Ex}(h:op≠2):qg f (.mk op 0 0 [.mk oa an av al,.mk ob bn bv bl])=YX f op oa an av al ob bn bv bl:=by unfold qg;rw[Z (show ¬(Ex.mk op 0 0 [.mk oa an av al,.mk ob bn bv bl]).op=2 from h)];rfl
def abu{d:Df}{f:Fa}{k:Nat}{e:Ex}{z:Nat}(he:kh d.vars d.aK.length k e z)(h:(qg f e).2.2=true):(0<=(qg f e).1∧(qg f e).1<d.vars)∧-2147483648<=(qg f e).2.1∧(qg f e).2.1<=2147483648:=by cases he with|num _=>simp[qg,Ex.op]at h|var hn=>exact⟨hn,by show(-2147483648:Int)<=0;omega,by show(0:Int)<=2147483648;omega⟩|len _=>simp[qg,Ex.op]at h|bin ho ha hb=>rename_i k op a b x y;have va:=ha.Ws;have vb:=hb.Ws;have na:=ha.I9;have nb:=hb.I9;obtain⟨oa,an,av,al⟩:=a;obtain⟨ob,bn,bv,bl⟩:=b;dsimp only[Ex.op,Ex.v,Ex.n]at va vb na nb;rw[ahw f E]at h ⊢;by_cases h4:op=4;subst h4;by_cases a1:oa=1;subst a1;by_cases b2:ob=2;subst b2;have e:YX f 4 1 an av al 2 bn bv bl=(bn,av,decide ((gV f bn).lo+av>=-2147483648)&&decide ((gV f bn).hi+av<=2147483647)):=rfl;rw[e];have:=va rfl;exact⟨nb rfl,bu,bu⟩;have e:YX f 4 1 an av al ob bn bv bl=(0,0,false):=(by simp[YX,Ex.op,b2]);rw[e]at h;cases h;by_cases a2:oa=2∧ob=1;obtain⟨rfl,rfl⟩:=a2;have e:YX f 4 2 an av al 1 bn bv bl=(an,bv,decide ((gV f an).lo+bv>=-2147483648)&&decide ((gV f an).hi+bv<=2147483647)):=rfl;exact T';have e:YX f 4 oa an av al ob bn bv bl=(0,0,false):=(by simp only[YX,a1,and_false,jZ,Ex.op];rw[Z O,ak E]);rw[e]at h;cases h;by_cases h5:op=5;subst h5;by_cases a2:oa=2∧ob=1;obtain⟨rfl,rfl⟩:=a2;have e:YX f 5 2 an av al 1 bn bv bl=(an,0 - bv,decide ((gV f an).lo+(0 - bv)>=-2147483648)&&decide ((gV f an).hi+(0 - bv)<=2147483647)):=rfl;exact T';have e:YX f 5 oa an av al ob bn bv bl=(0,0,false):=(by simp only[YX,h4,false_and,jZ,Ex.op];rw[Z O,ak E]);rw[e]at h;cases h;have e:YX f op oa an av al ob bn bv bl=(0,0,false):=(by unfold YX;rw[ak ⟨h4,h5⟩]);rw[e]at h;cases h
theorem SP{d:Df}{f:Fa}(hd:yR d)(hf:pT d f)(n:Int)(hn:0<=n∧n<d.aK.length)(a:Av)(ha:aR a){k:Nat}{e:Ex}{z:Nat}(he:kh d.vars d.aK.length k e z):C 350 [bR d,aZ f,it n,cy e,ai a] (bo (aef d f n e a)):=by
 have hL:=Hn hd hf n hn;have hS:=Nt hf he;have hA:=Cv hd.J9 (n:=n);have hpv:=hd.pv;have hpn:=hd.pn;have hv:=hf.v;have x1:=ha.lo;have x2:=ha.hi;have x3:=ha.le;have lo:=WG hd.J9 hf.va n;have y1:=lo.lo;have y2:=lo.hi;have y3:=lo.le;have N_:nth (d.aK.map kO) n.toNat=some (.agg [it (ib d n).len,it (ib d n).yP]):=by
  have h:n.toNat<d.aK.length:=E
  rw[c_,gQ h];unfold ib;simp[h,kO]
 unfold aef;generalize Ho d f n=LA at*;generalize IL d n=LP at*;generalize PZ d f n=LX at*;by_cases c1:a.lo<0;have b1:=tB c1;rw[ak c1];exact KN;have b1:=fB c1;rw[Z c1];by_cases c2:a.hi<LA.lo;have b2:=tB c2;rw[ak c2];exact KN;have b2:=fB c2;rw[Z c2];obtain⟨L,ag,hLO⟩:∃L ag,ib d n=⟨L,ag⟩:=⟨_,_,rfl⟩;rw[hLO]at hA N_ ⊢;dsimp only at hA N_ ⊢;by_cases hO:ag=0;have b3:=tE hO;rw[ak (.inl hO)];exact KN;have b3:=fE hO;have hx:=vA (f:=f) (n:=ag - 1) E;have hvs:=hd.vars;have hb:(qg f e).2.2=true->C 411 [dI f.ju,it (qg f e).1,it (ag - 1)] (it (tZ f.ju (qg f e).1 (ag - 1))):=λh=>agb hf.ju E E (qg f e).1 (ag - 1) (by have:=(abu he h).1;omega) E;have hrg:(qg f e).2.2=true->-2147483648<=(qg f e).2.1∧(qg f e).2.1<=2147483648:=λh=>(abu (f:=f) he h).2;have hbi:∀x,qc (tZ f.ju x (ag - 1))=true:=λx=>by
  unfold tZ;have gd:∀(l:List Int) (n:Nat),(∀y∈l,qc y=true)->qc (l.getD n NG)=true:=by intro l n hl;by_cases hn:n<l.length;rw[show l.getD n NG=l[n] by simp[hn]];exact hl _ (cU hn);rw[show l.getD n NG=NG by simp[u7 hn]];rfl
  refine gd _ _ ?_;intro y hy;unfold rowOf at hy;by_cases hx:x.toNat<f.ju.length;rw[show f.ju.getD x.toNat []=f.ju[x.toNat] by simp[hx]]at hy;exact(hf.ju.row _ (cU hx)).2 y hy;rw[show f.ju.getD x.toNat []=[] by simp[u7 hx]]at hy;cases hy
 generalize gV f (ag - 1)=V at*;by_cases hh:V.hi>L;have b4:=tB hh;rw[ak (.inr hh)];refine fo func350 ?_;refine aM ?_;refine bt.at rfl E N_ ?_;refine run ?_;refine bt.at rfl E hx ?_;exact bz
 ·have b4:=fB hh;rw[Z E];generalize qg f e=S at*;obtain⟨s1,s2,s3⟩:=S;dsimp only at hb hrg hS ⊢;cases s3 with
  |false=>rw[ak rfl];exact Kl
  |true=>
   rw[Z O];have hb1:=hb rfl;have hr:=hrg rfl;have hi:=hbi s1;generalize tZ f.ju s1 (ag - 1)=B at*;by_cases hB:B=NG;have q1:(B !=1099511627776)=false:=(by rw[hB];rfl);have q2:decide (B≠NG)=false:=by simp[hB]
   rw[q2];exact Kl;have q1:(B !=1099511627776)=true:=(by simp;exact hB);have q2:decide (B≠NG)=true:=by simp[hB]
   have hBr:=((HF B).1 hi).resolve_left hB;rw[q2];exact Kl
def ako(h:G:=by induction h with|num h=>exact .num h|var h=>exact .var h|len h=>exact .len h|bin h _ _ iha ihb=>exact .bin h iha ihb):=h
def KD(h:G:=by refine fo Tryz.func424 ?_;exact bp):=h
def kh.up1{vars na:Int}{k:Nat}{e:Ex}{n:Nat}(h:kh vars na k e n):kh vars na (k+1) e n:=ako
def aij{d:Df}{f:Fa}{n:Int}(hd:yR d)(h:PZ d f n=true):0<=IL d n∧IL d n<d.vars:=by have ha:=Cv hd.J9 (n:=n);have:=hd.pv;have:=hd.vars;unfold PZ at h;unfold IL;split at h;cases h;rename_i h0;rw[Z h0];omega
def Nr{d:Df}{f:Fa}(hd:yR d){k:Nat}{e:Ex}{z:Nat}(he:kh d.vars d.aK.length k e z):∃z',kh d.vars d.aK.length (k+1) (jQ d f e) z' :=by unfold jQ;split;rename_i h;exact⟨1,.var (aij hd h.2)⟩;exact⟨z,kh.up1 he⟩
def abr{d:Df}{f:Fa}(hd:yR d)(hf:pT d f){k:Nat}{e:Ex}{z:Nat}(he:kh d.vars d.aK.length k e z):aj prog 424 [cy e,.ptr 1000 0,.ptr 1001 0] ⟨[bR d,aZ f],[]⟩ (.bS [cy (jQ d f e),bo (qg f (jQ d f e)).2.2]) ⟨[bR d,aZ f],[]⟩:=by
 obtain⟨z',hs⟩:=Nr (f:=f) hd he;have cs:=Nt hf hs;by_cases h3:e.op=3;have b1:=tE h3;have cl:=Hn hd hf e.n (he.aqw h3);by_cases hX:PZ d f e.n=true;have e1:jQ d f e=QF (IL d e.n):=(by unfold jQ;rw[ak ⟨h3,hX⟩]);rw[e1]at cs ⊢;rw[hX]at cl;generalize IL d e.n=p at*;generalize Ho d f e.n=A at*;generalize qg f (QF p)=S at*;have e2:cy (QF p)= .agg [it 2,it p,it 0,.sl 4 [] false]:=by unfold cy cE QF;simp[jK,Ex.op,Ex.n,Ex.v,Ex.a]
 rw[e2]at cs ⊢;exact KD;have e1:jQ d f e=e:=(by unfold jQ;rw[Z (λh=>hX h.2)]);have hX' :PZ d f e.n=false:=by simpa using hX
 rw[e1]at cs ⊢;rw[hX']at cl;generalize IL d e.n=p at*;generalize Ho d f e.n=A at*;generalize qg f e=S at*;exact KD;have b1:=fE h3;have e1:jQ d f e=e:=by unfold jQ;rw[Z (λh=>h3 h.1)]
 rw[e1]at cs ⊢;generalize qg f e=S at*;exact KD
def NL{l:List Av}{n:Int}(h:n.toNat<l.length):nth (l.map ai) n.toNat=some (ai (l.getD n.toNat zR)):=by rw[c_,gQ h];simp[h]
def aeu:Nat->List Ad:=λn=>bif Nat.beq n 14 then[.aS 5 1]else[]
theorem ap1{d:Df}{f:Fa}(hd:yR d)(hf:pT d f)(op:Int)(h:Bool){k:Nat}{x y:Ex}{z1 z2:Nat}(hx:kh d.vars d.aK.length k x z1)(hy:kh d.vars d.aK.length k y z2):C 361 [bR d,aZ f,fO (.mk op [x,y] []),bo h] (aZ (QN d f op h x y)):=by
 have hvl:=hf.v;have hvs:=hd.vars;have hpn:=hd.pn;have ex:=Cm hd hf hx;have ey:=Cm hd hf hy;have cr:=aca op h (iU d f x) (iU d f y) (jJ hd.J9 hf.va hx) (jJ hd.J9 hf.va hy);have sx:=abr hd hf hx;have sy:=abr hd hf hy;obtain⟨zx,ox⟩:=Nr (f:=f) hd hx;obtain⟨zy,oy⟩:=Nr (f:=f) hd hy;have ca:=agi hf.ju (hf.gne hd) E E op h (jQ d f x) (jQ d f y) (qg f (jQ d f x)).2.2 (qg f (jQ d f y)).2.2 ox.sh oy.sh;have hne:f.v.map ai≠[]:=λe=>U5
 have c3:=xv (f.v.map ai) hne uA;have eC:fO (.mk op [x,y] [])= .agg [it op,.sl 4 [cy x,cy y] false,.sl 3 [] false]:=by unfold fO cC;simp[uv,Cq,Co.op,Co.a,Co.c]
 rw[eC];have nx:=hx.I9;have ny:=hy.I9;have hl:=hf.live;unfold QN;generalize mK op h (iU d f x) (iU d f y)=R at*;generalize iU d f x=X at*;generalize iU d f y=Y at*;generalize yM f.ju op h (jQ d f x) (jQ d f y) (qg f (jQ d f x)).2.2 (qg f (jQ d f y)).2.2=G at*;generalize qg f (jQ d f x)=S1 at*;generalize qg f (jQ d f y)=S2 at*;generalize jQ d f x=E1 at*;generalize jQ d f y=E2 at*;clear ox oy hf;obtain⟨dead,V,ju,refs,arr,ei,may,parts⟩:=f;dsimp only at hl hvl hne ca c3 ⊢;subst hl;cases R with
 |none=>
  dsimp only;refine d_ hm func361 (λ_=>false) [] aeu aA ?_;refine aM ?_;repeat((refine bt.at rfl aw rfl ?_);refine run ?_;repeat((apply aE;first|exact ex|exact ey|exact cr);refine run ?_))
  exact aG
 |some p=>
  obtain⟨A,B⟩:=p;dsimp only;by_cases px:x.op=2
  ·have bx:=tE px;by_cases py:y.op=2
   ·have bY:=tE py;have hx1:=NL (l:=V) (n:=x.n) (by have:=nx px;omega);have hx0:=(nx px).1;have hy0:=(ny py).1;have hy1:nth ((V.map ai).set x.n.toNat (ai A)) y.n.toNat=some (ai ((V.set x.n.toNat A).getD y.n.toNat zR)):=by rw[<-jU];exact NL (by rw[rG];have:=ny py;omega)
    have hll:(V.map ai).length=((V.map ai).set x.n.toNat (ai A)).length:=(rG ..).symm;have hyl:y.n.toNat<V.length:=by have:=ny py;omega
    have es:((V.map ai).set x.n.toNat (ai A)).set y.n.toNat (ai B)=((V.set x.n.toNat A).set y.n.toNat B).map ai:=(by rw[jU,jU]);rw[ak px,ak py];refine d_ hm func361 (λ_=>false) [] aeu aA ?_;refine aM ?_;repeat((first|refine bt.at rfl aw rfl ?_|refine bt.at rfl hx0 hx1 ?_|refine bt.at hll hy0 hy1 ?_);refine run ?_;repeat((apply aE;first|exact ex|exact ey|exact cr|exact sx|exact sy|exact ca|exact c3);refine run ?_))
    exact Gb
   ·have bY:=fE py;have hx1:=NL (l:=V) (n:=x.n) (by have:=nx px;omega);have hx0:=(nx px).1;have es:(V.map ai).set x.n.toNat (ai A)=(V.set x.n.toNat A).map ai:=by rw[jU]
    rw[ak px,Z py];refine d_ hm func361 (λ_=>false) [] aeu aA ?_;refine aM ?_;repeat((first|refine bt.at rfl aw rfl ?_|refine bt.at rfl hx0 hx1 ?_);refine run ?_;repeat((apply aE;first|exact ex|exact ey|exact cr|exact sx|exact sy|exact ca|exact c3);refine run ?_))
    exact Gb
  ·have bx:=fE px;by_cases py:y.op=2
   ·have bY:=tE py;have hy0:=(ny py).1;have hy1:=NL (l:=V) (n:=y.n) (by have:=ny py;omega);have es:(V.map ai).set y.n.toNat (ai B)=(V.set y.n.toNat B).map ai:=by rw[jU]
    rw[Z px,ak py];refine d_ hm func361 (λ_=>false) [] aeu aA ?_;refine aM ?_;repeat((first|refine bt.at rfl aw rfl ?_|refine bt.at rfl hy0 hy1 ?_);refine run ?_;repeat((apply aE;first|exact ex|exact ey|exact cr|exact sx|exact sy|exact ca|exact c3);refine run ?_))
    exact Gb
   ·have bY:=fE py;have es:V.map ai=V.map ai:=by rfl
    rw[Z px,Z py];refine d_ hm func361 (λ_=>false) [] aeu aA ?_;refine aM ?_;repeat((first|refine bt.at rfl aw rfl ?_);refine run ?_;repeat((apply aE;first|exact ex|exact ey|exact cr|exact sx|exact sy|exact ca|exact c3);refine run ?_))
    exact Gb
def Fw:=@List.replicate_succ
def MX:=@List.getElem_zipWith
def RT(h:G:=by rw[zq,<-hs,uY]):=h
def RL(h:G:=by rw[Y6 _ _ _ (by omega),hml,hz]):=h
def L_(h:G:=by rw[hz];exact hk1):=h
def LY(h:G:=by rw[<-eZ,hml];rfl):=h
def Ln(h:G:=by have qV:=aL (λx=>some (Row.mk 5 true x)) es;exact y_ hk1):=h
def K3(h:G:=by rw[Y6 _ _ _ (by omega),hz,hml];rfl):=h
def UA(h:G:=by have qV:=aL (λx=>some (Row.mk 6 true x)) es;exact y_ hk1):=h
def EF(h:G:=by refine run ?_;exact fP.mk (aL (λx=>au.sl 1 x false) e) rfl):=h
def Kz(h:G:=by refine fo Tryz.func482 ?_;exact bp):=h
def F'{α:Type}(enc:α->au)(z:au)(l:List α)(k:Nat):List au:=(l.take k).map enc++List.replicate (l.length - k) z
def Ke{α:Type}(enc:α->au)(z:au)(l:List α):List.replicate l.length z=F' enc z l 0:=by simp[F']
def Rj{α:Type}(enc:α->au)(z:au)(l:List α):F' enc z l l.length=l.map enc:=by simp[F']
def Y6{α:Type}(enc:α->au)(z:au)(l:List α){k:Nat}(h:k<=l.length):(F' enc z l k).length=l.length:=by simp[F'];omega
def Y7{α:Type}(enc:α->au)(z:au)(l:List α){k:Nat}(h:k<l.length):nth (F' enc z l k) k=some z:=by
 have hl:((l.take k).map enc).length=k:=az
 rw[aJ];unfold F';rw[jn E_,hl,lZ,show l.length - k=(l.length - (k+1))+1 by omega,Fw];rfl
def Ri{α:Type}(enc:α->au)(z:au)(l:List α){k:Nat}(h:k<l.length):(F' enc z l k).set k (enc l[k])=F' enc z l (k+1):=by
 unfold F';have hl:((l.take k).map enc).length=k:=az
 rw[Bo _ _ E_,hl,lZ];have e:List.replicate (l.length - k) z=z::List.replicate (l.length - (k+1)) z:=by rw[show l.length - k=(l.length - (k+1))+1 by omega,Fw]
 rw[e,Bj,jY h,eu];simp
def aqc(a b:Int)(ha:0<=a∧a<=255)(hb:0<=b∧b<=255):C 483 [it a,it b] (it (iQ a b)):=by have h:=or8 ha.1 ha.2 hb.1 hb.2;have h1:=h.1;have h2:=h.2;have oe:=BO a b;refine fo func483 ?_;exact bz
def alx(a b:List Av)(hl:a.length<=1048576)(hs:a.length=b.length)(ha:∀x∈a,aR x)(hb:∀x∈b,aR x):aj prog 484 [fj 5 ai a,fj 5 ai b,.gD (.func 143) [] []] fV (fj 5 ai (List.zipWith fG a b)) fV:=by
 have hz:(List.zipWith fG a b).length=a.length:=RT
 have eZ:=Ke ai (.agg [it 0,it 0,it 0,it 0,it 0]) (List.zipWith fG a b);rw[hz]at eZ;have hml:(a.map ai).length=a.length:=dn ..;have eZ' :List.replicate (((a.map ai).length:Nat):Int).toNat (.agg [it 0,it 0,it 0,it 0,it 0])=F' ai (.agg [it 0,it 0,it 0,it 0,it 0]) (List.zipWith fG a b) 0:=LY
 refine fo func484 ?_;refine run ?_;have qV:=aL (λx=>some (Row.mk 5 true x)) eZ';refine bF.mk ⟨[],aY.np (a.length) (λ_=>True) (λk=>⟨[(14,it k)],[],[(11,⟨5,true,F' ai (.agg [it 0,it 0,it 0,it 0,it 0]) (List.zipWith fG a b) k⟩)]⟩) trivial ?_⟩;intro k hk hJ;by_cases hk1:k<a.length
 ·have b1:decide ((k:Int)<((a.map ai).length:Nat))=true:=by exact gL
  have hk2:k<b.length:=hs▸hk1;have hkz:k<(List.zipWith fG a b).length:=L_
  have c:=NZ a[k] b[k] (ha _ (cU hk1)) (hb _ (cU hk2));have ez:(List.zipWith fG a b)[k]=fG a[k] b[k]:=MX ..;have es:=Ri ai (.agg [it 0,it 0,it 0,it 0,it 0]) (List.zipWith fG a b) hkz;rw[ez]at es;have hat:=Y7 ai (.agg [it 0,it 0,it 0,it 0,it 0]) (List.zipWith fG a b) hkz;have hlen:(a.map ai).length=(F' ai (.agg [it 0,it 0,it 0,it 0,it 0]) (List.zipWith fG a b) k).length:=RL
  refine(Exists.intro _ rfl:∃R,R=fG a[k] b[k]).elim λR hR=> ?_;rw[<-hR]at c es;refine aM ?_;repeat((first|refine bt.map hk1 rfl ?_|refine bt.map hk2 rfl ?_|refine bt.at hlen E hat ?_|refine bt.at rfl E hat ?_);refine run ?_;repeat((apply aE;exact c);refine run ?_))
  exact Ln
 have b1:decide ((k:Int)<((a.map ai).length:Nat))=false:=az
 have hkk:k=a.length:=E
 subst hkk;have e:=Rj ai (.agg [it 0,it 0,it 0,it 0,it 0]) (List.zipWith fG a b);rw[hz]at e;have hln:(((a.map ai).length:Nat):Int).toNat=(F' ai (.agg [it 0,it 0,it 0,it 0,it 0]) (List.zipWith fG a b) a.length).length:=K3
 refine run ?_;exact fP.mk (aL (λx=>au.sl 5 x false) e) rfl
def atb{s:Int}(h:1<=s∧s<=3):0<=a_ s 2∧a_ s 2<=3:=by
 have:s=1∨s=2∨s=3:=E
 rcases this with rfl|rfl|rfl<;>decide
def aim(x y:Rf)(hx:IZ x)(hy:IZ y):aj prog 482 [aN x,aN y,.ptr 1000 0] ⟨[.gD (.func 143) [] []],[]⟩ (aN (mz x y)) ⟨[.gD (.func 143) [] []],[]⟩:=by have c:=NZ x.a y.a hx.a hy.a;have o:=(agc hx.s hy.s).1;have o1:=o.1;have o2:=o.2;have oe:=BO x.s y.s;have ax:=ov x.s 2;have ay:=ov y.s 2;have bx:=atb hx.s;have bY:=atb hy.s;have b1:=bx.1;have b2:=bx.2;have b3:=bY.1;have b4:=bY.2;unfold mz;generalize fG x.a y.a=J at*;generalize iQ x.s y.s=ag at*;generalize a_ x.s 2=X at*;generalize a_ y.s 2=Y at*;by_cases p:X=0;have q:=tE p;rw[ak p];exact Kz;have q:=fE p;rw[Z p];by_cases p2:Y=0;have q2:(Y !=0)=false:=(by simp[p2]);rw[Z (λh=>h p2)];exact Kz;have q2:(Y !=0)=true:=(by simp[p2]);rw[ak p2];exact Kz
def alw(a b:List Rf)(hl:a.length<=1048576)(hs:a.length=b.length)(ha:∀x∈a,IZ x)(hb:∀x∈b,IZ x):aj prog 485 [fj 6 aN a,fj 6 aN b,.gD (.func 482) [] [.ptr 1000 0]] ⟨[.gD (.func 143) [] []],[]⟩ (fj 6 aN (List.zipWith mz a b)) ⟨[.gD (.func 143) [] []],[]⟩:=by
 have hz:(List.zipWith mz a b).length=a.length:=RT
 have eZ:=Ke aN (.agg [it 0,it 0,it 0,it 0,it 0,it 0]) (List.zipWith mz a b);rw[hz]at eZ;have hml:(a.map aN).length=a.length:=dn ..;have eZ' :List.replicate (((a.map aN).length:Nat):Int).toNat (.agg [it 0,it 0,it 0,it 0,it 0,it 0])=F' aN (.agg [it 0,it 0,it 0,it 0,it 0,it 0]) (List.zipWith mz a b) 0:=LY
 refine fo func485 ?_;refine run ?_;have qV:=aL (λx=>some (Row.mk 6 true x)) eZ';refine bF.mk ⟨[],aY.np (a.length) (λ_=>True) (λk=>⟨[(14,it k)],[],[(11,⟨6,true,F' aN (.agg [it 0,it 0,it 0,it 0,it 0,it 0]) (List.zipWith mz a b) k⟩)]⟩) trivial ?_⟩;intro k hk hJ;by_cases hk1:k<a.length
 ·have b1:decide ((k:Int)<((a.map aN).length:Nat))=true:=by exact gL
  have hk2:k<b.length:=hs▸hk1;have hkz:k<(List.zipWith mz a b).length:=L_
  have c:=aim a[k] b[k] (ha _ (cU hk1)) (hb _ (cU hk2));have ez:(List.zipWith mz a b)[k]=mz a[k] b[k]:=MX ..;have es:=Ri aN (.agg [it 0,it 0,it 0,it 0,it 0,it 0]) (List.zipWith mz a b) hkz;rw[ez]at es;have hat:=Y7 aN (.agg [it 0,it 0,it 0,it 0,it 0,it 0]) (List.zipWith mz a b) hkz;have hlen:(a.map aN).length=(F' aN (.agg [it 0,it 0,it 0,it 0,it 0,it 0]) (List.zipWith mz a b) k).length:=RL
  refine(Exists.intro _ rfl:∃R,R=mz a[k] b[k]).elim λR hR=> ?_;rw[<-hR]at c es;refine aM ?_;repeat((first|refine bt.map hk1 rfl ?_|refine bt.map hk2 rfl ?_|refine bt.at hlen E hat ?_|refine bt.at rfl E hat ?_);refine run ?_;repeat((apply aE;exact c);refine run ?_))
  exact UA
 have b1:decide ((k:Int)<((a.map aN).length:Nat))=false:=az
 have hkk:k=a.length:=E
 subst hkk;have e:=Rj aN (.agg [it 0,it 0,it 0,it 0,it 0,it 0]) (List.zipWith mz a b);rw[hz]at e;have hln:(((a.map aN).length:Nat):Int).toNat=(F' aN (.agg [it 0,it 0,it 0,it 0,it 0,it 0]) (List.zipWith mz a b) a.length).length:=K3
 refine run ?_;exact fP.mk (aL (λx=>au.sl 6 x false) e) rfl
def alv(a b:List Int)(hl:a.length<=1048576)(hs:a.length=b.length)(f:Int->Int->Int)(hf:∀x y,(0<=x∧x<=255)->(0<=y∧y<=255)->C 483 [it x,it y] (it (f x y)))(ha:∀x∈a,0<=x∧x<=255)(hb:∀x∈b,0<=x∧x<=255):aj prog 486 [fj 1 it a,fj 1 it b,.gD (.func 483) [] []] fV (fj 1 it (List.zipWith f a b)) fV:=by
 have hz:(List.zipWith f a b).length=a.length:=RT
 have eZ:=Ke it (it 0) (List.zipWith f a b);rw[hz]at eZ;have hml:(a.map it).length=a.length:=dn ..;have eZ' :List.replicate (((a.map it).length:Nat):Int).toNat (it 0)=F' it (it 0) (List.zipWith f a b) 0:=LY
 refine fo func486 ?_;refine run ?_;have qV:=aL (λx=>some (Row.mk 1 true x)) eZ';refine bF.mk ⟨[],aY.np (a.length) (λ_=>True) (λk=>⟨[(14,it k)],[],[(11,⟨1,true,F' it (it 0) (List.zipWith f a b) k⟩)]⟩) trivial ?_⟩;intro k hk hJ;by_cases hk1:k<a.length
 ·have b1:decide ((k:Int)<((a.map it).length:Nat))=true:=by exact gL
  have hk2:k<b.length:=hs▸hk1;have hkz:k<(List.zipWith f a b).length:=L_
  have c:=hf a[k] b[k] (ha _ (cU hk1)) (hb _ (cU hk2));have ez:(List.zipWith f a b)[k]=f a[k] b[k]:=MX ..;have es:=Ri it (it 0) (List.zipWith f a b) hkz;rw[ez]at es;have hat:=Y7 it (it 0) (List.zipWith f a b) hkz;have hlen:(a.map it).length=(F' it (it 0) (List.zipWith f a b) k).length:=RL
  refine(Exists.intro _ rfl:∃R,R=f a[k] b[k]).elim λR hR=> ?_;rw[<-hR]at c es;refine aM ?_;repeat((first|refine bt.map hk1 rfl ?_|refine bt.map hk2 rfl ?_|refine bt.at hlen E hat ?_|refine bt.at rfl E hat ?_);refine run ?_;repeat((apply aE;exact c);refine run ?_))
  have qV:=aL (λx=>some (Row.mk 1 true x)) es;exact y_ hk1
 have b1:decide ((k:Int)<((a.map it).length:Nat))=false:=az
 have hkk:k=a.length:=E
 subst hkk;have e:=Rj it (it 0) (List.zipWith f a b);rw[hz]at e;have hln:(((a.map it).length:Nat):Int).toNat=(F' it (it 0) (List.zipWith f a b) a.length).length:=K3
 exact EF
def PN{d:Df}{a b:Fa}(hd:yR d)(ha:pT d a)(hb:pT d b):C 458 [aZ a,aZ b,.gD (.func 143) [] [],.gD (.func 177) [] []] (aZ (uk a b)):=by have hvs:=hd.vars;have hrs:=hd.refs;have han:=hd.an;have hpn:=hd.pn;have av:=ha.v;have bv:=hb.v;have ar:=ha.refs;have br:=hb.refs;have aa:=ha.arr;have ba:=hb.arr;have cv:=alx a.v b.v E E ha.va hb.va;have cr:=alw a.refs b.refs E E ha.ra hb.ra;have ci:=alv a.arr b.arr E E iQ aqc ha.aa hb.aa;have cg:=Qm a.ju b.ju (by rw[ha.ju.len];omega) (HM ha.ju E) (by rw[ha.ju.len,hb.ju.len]) (λv h1 h2=>by rw[(ha.ju.row _ (cU h1)).1,(hb.ju.row _ (cU h2)).1]) (ha.gne hd);have m1:=ak9 (a:=a.ei) hb.ei.1 hb.ei.2;have m2:=or8 ha.may.1 ha.may.2 hb.may.1 hb.may.2;have m3:=iZ (a:=a.parts) (b:=b.parts) (n:=16) E hb.parts.1 (by have:=hb.parts.2;omega);have m1a:=m1.1;have m1b:=m1.2;have m2a:=m2.1;have m2b:=m2.2;have m3a:=m3.1;have m3b:=m3.2;have q1:=ov a.ei b.ei;have q2:=BO a.may b.may;have q3:=ov a.parts b.parts;have la:=ha.live;have lb:=hb.live;unfold uk;rw[Z (by rw[la];simp),Z (by rw[lb];simp)];generalize List.zipWith fG a.v b.v=V at*;generalize pN a.ju b.ju=G at*;generalize List.zipWith mz a.refs b.refs=R at*;generalize List.zipWith iQ a.arr b.arr=I at*;generalize a_ a.ei b.ei=M1 at*;generalize iQ a.may b.may=M2 at*;generalize a_ a.parts b.parts=M3 at*;clear ha hb;obtain⟨dead,v1,g1,r1,a1,u1,y1,p1⟩:=a;obtain⟨avm,v2,g2,r2,a2,u2,y2,p2⟩:=b;dsimp only at la lb cv cr ci cg q1 q2 q3 ⊢;subst la lb;refine fo func458 ?_;exact bp
def X_(b:Fa):C 458 [aZ iq,aZ b,.gD (.func 143) [] [],.gD (.func 177) [] []] (aZ b):=by refine fo func458 ?_;exact bz
def X9(a:Fa)(ha:a.dead=false):C 458 [aZ a,aZ iq,.gD (.func 143) [] [],.gD (.func 177) [] []] (aZ a):=by obtain⟨dead,v1,g1,r1,a1,u1,y1,p1⟩:=a;dsimp only at ha;subst ha;refine fo func458 ?_;exact bz
def ain{d:Df}{a b:Fa}(hd:yR d)(ha:sn d a)(hb:sn d b):C 415 [aZ a,aZ b] (aZ (uk a b)):=by
 have c:C 458 [aZ a,aZ b,.gD (.func 143) [] [],.gD (.func 177) [] []] (aZ (uk a b)):=by rcases ha with rfl|ha;exact X_ b;rcases hb with rfl|hb;have e:uk a iq=a:=(by unfold uk;rw[Z (by rw[ha.live];simp)];exact ak rfl);rw[e];exact X9 a ha.live;exact PN hd ha hb
 generalize uk a b=J at*;refine fo func415 ?_;exact bp
def Km(h:G:=by refine d_ hm Tryz.func417 (λ_=>false) [] arj (by exact aA) ?_;exact bz):=h
def Y4(d:Df):au:= .gD (.func 414) [] [.mA (bR d) 0]
def Em(d:Df):au:= .gD (.func 416) [] [.mA (bR d) 0]
def avc(d:Df):au:= .gD (.func 421) [] [.mA (bR d) 0]
def apq:au:= .gD (.func 419) [] []
def aNo:au:= .gD (.func 420) [] []
def aBy(x y:au):au:= .gD (.func 418) [] [.mA x 0,.mA y 0]
def ari(t:Nat)(n:Nat):List Ad:=bif Nat.beq n (30000+t)then[.lay 0]else[]
def arj(n:Nat):List Ad:=bif Nat.beq n 30002 then[.lay 0]else bif Nat.beq n 30003 then[.lay 0]else[]
def asq:C 417 [apq,aNo] (aBy apq aNo):=Km
def asu(d:Df):C 417 [Em d,Y4 d] (aBy (Em d) (Y4 d)):=Km
def asr(d:Df):C 417 [Y4 d,Em d] (aBy (Y4 d) (Em d)):=Km
def atg(d:Df):Row:=⟨0,true,[.me (it 1) (aBy apq aNo),.me (it 5) (avc d),.me (it 6) (aBy (Em d) (Y4 d)),.me (it 7) (aBy (Y4 d) (Em d))]⟩
def Wx(d:Df):aj prog 360 [bR d] fV (.dQ 1000) ⟨[],[atg d]⟩:=by
 have c1:=asq;have c2:=asu d;have c3:=asr d;refine d_ hm func360 (λ_=>false) [true] (ari 1) aA ?_;refine aM ?_;repeat((refine oB.mk ⟨none,rfl,?_⟩);refine run ?_;repeat((apply aE;first|exact c1|exact c2|exact c3);refine run ?_))
 exact aG
def ON(op:Int)(a:List au)(c:List au):au:= .agg [it op,.sl 4 a false,.sl 3 c false]
def aqg(d:Df)(f A:Fa)(op:Int)(x:Co)(h:Bool)(c1:C 290 [bR d,aZ f,fO x,bo (!h)] (aZ A)):C 421 [aZ f,ON op [] [fO x],bo h,.mA (bR d) 0] (aZ A):=by
 refine fo func421 ?_;refine aM ?_;repeat((refine bt.at rfl aw rfl ?_);refine run ?_;repeat((apply aE;first|exact c1);refine run ?_))
 exact aG
def ata(d:Df)(f A B:Fa)(op:Int)(x y:Co)(h:Bool)(c1:C 290 [bR d,aZ f,fO x,bo h] (aZ A))(c2:C 290 [bR d,aZ A,fO y,bo h] (aZ B)):C 416 [aZ f,ON op [] [fO x,fO y],bo h,.mA (bR d) 0] (aZ B):=by
 refine fo func416 ?_;refine aM ?_;repeat((refine bt.at rfl aw rfl ?_);refine run ?_;repeat((apply aE;first|exact c1|exact c2);refine run ?_))
 exact aG
def au1(d:Df)(f A F1 B J:Fa)(op:Int)(x y:Co)(h:Bool)(c1:C 290 [bR d,aZ f,fO x,bo h] (aZ A))(c2:C 290 [bR d,aZ f,fO x,bo (!h)] (aZ F1))(c3:C 290 [bR d,aZ F1,fO y,bo h] (aZ B))(c4:C 415 [aZ A,aZ B] (aZ J)):C 414 [aZ f,ON op [] [fO x,fO y],bo h,.mA (bR d) 0] (aZ J):=by
 refine fo func414 ?_;refine aM ?_;repeat((refine bt.at rfl aw rfl ?_);refine run ?_;repeat((apply aE;first|exact c1|exact c2|exact c3|exact c4);refine run ?_))
 exact aG
def K1(h:G:=by rw[Cu];exact agk d _ h):=h
def EC(h:G:=by refine fo Tryz.func418 ?_;exact bp):=h
def Ki(h:G:=by refine aM ?_;exact sC):=h
def asw(d:Df)(f A:Fa)(op:Int)(x y:Co)(c:C 416 [aZ f,ON op [] [fO x,fO y],bo true,.mA (bR d) 0] (aZ A)):C 418 [aZ f,ON op [] [fO x,fO y],bo true,.mA (Em d) 0,.mA (Y4 d) 0] (aZ A):=EC
def asv(d:Df)(f A:Fa)(op:Int)(x y:Co)(c:C 414 [aZ f,ON op [] [fO x,fO y],bo false,.mA (bR d) 0] (aZ A)):C 418 [aZ f,ON op [] [fO x,fO y],bo false,.mA (Em d) 0,.mA (Y4 d) 0] (aZ A):=EC
def ast(d:Df)(f A:Fa)(op:Int)(x y:Co)(c:C 414 [aZ f,ON op [] [fO x,fO y],bo true,.mA (bR d) 0] (aZ A)):C 418 [aZ f,ON op [] [fO x,fO y],bo true,.mA (Y4 d) 0,.mA (Em d) 0] (aZ A):=EC
def ass(d:Df)(f A:Fa)(op:Int)(x y:Co)(c:C 416 [aZ f,ON op [] [fO x,fO y],bo false,.mA (bR d) 0] (aZ A)):C 418 [aZ f,ON op [] [fO x,fO y],bo false,.mA (Y4 d) 0,.mA (Em d) 0] (aZ A):=EC
def aj3(d:Df){op:Int}(h:2<=op∧op<=4):uh .i64 op (atg d).es 0=some none:=by
 have:op=2∨op=3∨op=4:=E
 rcases this with rfl|rfl|rfl<;>rfl
def agk(d:Df)(c:Co)(h:Bool):C 290 [bR d,aZ iq,fO c,bo h] (aZ iq):=by refine fo func290 ?_;exact bz
def at7(d:Df)(f G:Fa)(hl:f.dead=false)(op:Int)(ho:2<=op∧op<=4)(x y:Ex)(h:Bool)(c:C 361 [bR d,aZ f,fO (.mk op [x,y] []),bo h] (aZ G)):C 290 [bR d,aZ f,fO (.mk op [x,y] []),bo h] (aZ G):=by have cm:=Wx d;have hn:=aj3 d ho;obtain⟨dead,v1,g1,r1,a1,u1,y1,p1⟩:=f;dsimp only at hl;subst hl;refine fo func290 ?_;refine aM ?_;refine oB.mk ⟨none,hn,?_⟩;exact bp
def at9(d:Df)(f G:Fa)(hl:f.dead=false)(x:Co)(h:Bool)(c:C 421 [aZ f,ON 5 [] [fO x],bo h,.mA (bR d) 0] (aZ G)):C 290 [bR d,aZ f,ON 5 [] [fO x],bo h] (aZ G):=by have cm:=Wx d;obtain⟨dead,v1,g1,r1,a1,u1,y1,p1⟩:=f;dsimp only at hl;subst hl;refine fo func290 ?_;refine aM ?_;refine oB.mk ⟨some 1,rfl,?_⟩;exact Ki
def alj(d:Df)(f G:Fa)(hl:f.dead=false)(x y:Co)(h:Bool)(c:C 418 [aZ f,ON 6 [] [fO x,fO y],bo h,.mA (Em d) 0,.mA (Y4 d) 0] (aZ G)):C 290 [bR d,aZ f,ON 6 [] [fO x,fO y],bo h] (aZ G):=by have cm:=Wx d;obtain⟨dead,v1,g1,r1,a1,u1,y1,p1⟩:=f;dsimp only at hl;subst hl;refine fo func290 ?_;refine aM ?_;refine oB.mk ⟨some 2,rfl,?_⟩;exact Ki
def ali(d:Df)(f G:Fa)(hl:f.dead=false)(x y:Co)(h:Bool)(c:C 418 [aZ f,ON 7 [] [fO x,fO y],bo h,.mA (Y4 d) 0,.mA (Em d) 0] (aZ G)):C 290 [bR d,aZ f,ON 7 [] [fO x,fO y],bo h] (aZ G):=by have cm:=Wx d;obtain⟨dead,v1,g1,r1,a1,u1,y1,p1⟩:=f;dsimp only at hl;subst hl;refine fo func290 ?_;refine aM ?_;refine oB.mk ⟨some 3,rfl,?_⟩;exact Ki
def W4(op:Int)(c:List Co):fO (.mk op [] c)=ON op [] (c.map fO):=by rw[show fO (.mk op [] c)= .agg [it op,.sl 4 (jK []) false,.sl 3 (Cq c) false] from rfl,JY];rfl
theorem Dy{d:Df}(hd:yR d){k:Nat}{c:Co}{z:Nat}(hc:En d.vars d.aK.length k c z):∀{f:Fa} (_:sn d f) (h:Bool),C 290 [bR d,aZ f,fO c,bo h] (aZ (da d c f h)):=by
 induction hc with
 |test ho hx hy=>intro f hf h;rcases hf with rfl|hf;exact K1;rw[vO d hf.live ho.1];exact at7 d f _ hf.live _ ho _ _ h (ap1 hd hf _ h hx hy)
 |not hx ih=>intro f hf h;rcases hf with rfl|hf;exact K1;rw[xz d hf.live,W4];exact at9 d f _ hf.live _ h (aqg d f _ 5 _ h (ih (.inr hf) (!h)))
 | @and k op a b x y ho hx hy iha ihb=>
   intro f hf h
   rcases hf with rfl|hf
   ·exact K1
   ·rw[tC d hf.live ho.1,W4]
    have hA:=mZ hd.J9 hx (.inr hf) h
    have hB:=mZ hd.J9 hx (.inr hf) (!h)
    have hC:=mZ hd.J9 hy hB h
    have asp:=ata d f _ _ op a b h (iha (.inr hf) h) (ihb hA h)
    have cOr:=au1 d f _ _ _ _ op a b h (iha (.inr hf) h) (iha (.inr hf) (!h)) (ihb hB h) (ain hd hA hC)
    have o67:op=6∨op=7:=E
    rcases o67 with rfl|rfl
    ·cases h with
     |true=>rw[ak aw];exact alj d f _ hf.live a b true (asw d f _ 6 a b asp)
     |false=>rw[Z aw];exact alj d f _ hf.live a b false (asv d f _ 6 a b cOr)
    ·cases h with
     |true=>rw[Z aw];exact ali d f _ hf.live a b true (ast d f _ 7 a b cOr)
     |false=>rw[ak aw];exact ali d f _ hf.live a b false (ass d f _ 7 a b asp)
end Abs
