/- A part of a proof: an abstract machine, proved sound, or contracts of functions. No condition. -/
import Derived.Laws.Strings
import Derived.Laws.StructEq
import Derived.Laws.BytesString
import Derived.Laws.IdiomStrings
import Derived.Deep.AppendSrc
import Derived.Test.YtakobiabkfeelaaGreatT1
set_option linter.unusedVariables false
set_option linter.unusedSimpArgs false
set_option linter.defProp false
set_option maxRecDepth 100000
set_option maxHeartbeats 4000000
namespace Abs
open Go
variable{G:Prop}
def Z'(h:G:=by unfold SU at ht;rw[hu]at ht;exact ht):=h
def U_(h:G:=by rw[t4];unfold Tv.value;rw[hb];dsimp only;exact nM hu hte h0 (by rw[t3];exact hlt) w):=h
def Ew(h:G:=by have:=aH h1;omega):=h
section
variable{P:Program}{cx:Cx}{g:Gh}{s:St}{a:Act}{w:World}{o:Oper}{K:St->Prop}{Q:Go.Exit->Act->World->Prop}
def xm(P:Program)(t:TypeId)(f:Nat):Bool:=
 match mH P t with
 | .struct fs=>match nth fs.toList f with|some x=>oI P x.type|none=>false
 |_=>false
def jD{t:TypeId}{d:TypeDesc}(h:mH P t=d)(hd:d≠.invalid)(w:World):(underlying t).run P w= .ok d w:=C6 (bG h hd) w
def xk{t:TypeId}{f:Nat}(h:xm P t f=true):∃fs x,mH P t= .struct fs∧fs[f]? =some x∧fieldAt P t f=(x.offset,x.type)∧oI P x.type=true:=by unfold xm at h;split at h;rename_i fs hu;split at h;rename_i x hx;refine⟨fs,x,hu,by rw[aJ]at hx;exact pj,by simp[fieldAt,hu,hx],h⟩;cases h;cases h
def Pl{t:TypeId}{f b off:Nat}(h:xm P t f=true)(w:World):(Instr.fieldAt t (.pointer (some ⟨b,off,none⟩)) f).run P w= .ok (.pointer (some ⟨b,off+(fieldAt P t f).1,none⟩)) w:=by
 obtain⟨fs,x,h1,h2,h3,h4⟩:=xk h;obtain⟨i,hi1,hi2,hi3,_⟩:=wF h4;have hz:¬bg P x.type=0:=E
 simp only[Instr.fieldAt,Sem.run_bind,jD h1 O,Result.andThen_ok,h2,Instr.sureAddr,Sem.run_pure,fieldPlace,iB h4,h3];simp[hz,dO]
def Ef(h:Rel cx g s a w)(hd:ji cx.n o.dst=true){t:TypeId}{x:Operand}{f:Nat}(ho:o.op= .fieldAddr t x f)(hf:xm P t f=true){c:mN}(hk:aC P c o.dst s K (cu P o (cY P s))):o.wp P a w (fK cx g K) Q:=by
 have go:∀{b off:Nat} {y:au},a.eval x= .pointer (some ⟨b,off,none⟩)->bD g (.pointer (some ⟨b,off+(fieldAt P t f).1,none⟩)) y->K (s.put o.dst y)->o.wp P a w (fK cx g K) Q:=by intro b off y e1 e2 e3;refine bJ (w' :=w) ?_ (dK h hd e2 e3);simp[execOp,ho,e1,Pl hf]
 simp only[cu,ho]at hk;split at hk;rename_i l off hx;obtain⟨b,hb,e1⟩:=(h.get hx).vu;exact go e1 (.ptr hb) hk;rename_i d off hx;obtain⟨b,ob,e1,f',hf'⟩:=(h.get hx).N9;refine go e1 ?_ hk;rw[sL];exact .pure (.mA b ob _ d f' (λj y hy=>(hf' j y hy).1) (λj y hy=>(hf' j y hy).2.1) (λj y hy=>(hf' j y hy).2.2));rename_i k n i off hx;obtain⟨tv,b,t1,t2,t3,t4,e1⟩:=(h.get hx).Cp;exact go e1 (.iS tv t1 t2 t3 t4 E) hk;exact aq
def SU(P:Program)(t:TypeId):Bool:=match mH P t with| .array _ e=>oI P e| .slice e=>oI P e|_=>false
def QE{t e:TypeId}(h:mH P t= .slice e):xt P t=e:=by simp[xt,h]
def nM{t e:TypeId}{k:IntKind}{b off len cap:Nat}{n:Int}(h:mH P t= .slice e)(ht:oI P e=true)(h0:0<=n)(h1:n<len)(w:World):(Instr.indexAt t (.slice (some ⟨b,off,none⟩) len cap) (.int k n)).run P w= .ok (.pointer (some ⟨b,off+n.toNat*bg P e,none⟩)) w:=by simp[Instr.indexAt,asIntOf,jD h O,h0,h1,iB ht,dO]
def GA{t e:TypeId}{k:IntKind}{b off m:Nat}{n:Int}(h:mH P t= .array m e)(ht:oI P e=true)(h0:0<=n)(h1:n<m)(w:World):(Instr.indexAt t (.pointer (some ⟨b,off,none⟩)) (.int k n)).run P w= .ok (.pointer (some ⟨b,off+n.toNat*bg P e,none⟩)) w:=by simp[Instr.indexAt,asIntOf,Instr.sureAddr,jD h O,h0,h1,iB ht,dO]
def bD.vh{sz:Nat}{es:List au}{nl:Bool}{v:Value}(r:bD g v (.sl sz es nl)):bM g.I v (.sl sz es nl):=by cases r with|pure r=>exact r
def bM.vh{I:Nat->Nat->Option Value}{sz:Nat}{es:List au}{nl:Bool}{v:Value}(r:bM I v (.sl sz es nl)):(∃a cap,v= .slice a es.length cap)∧(es≠[]->∃b o cap,v= .slice (some ⟨b,o,none⟩) es.length cap∧∃f:Nat->Value,(∀e∈es,(cells e).length=sz)∧∀j d,nth (es.flatMap cells) j=some d->I b (o+j)=some (f j)∧bM I (f j) d):=by cases r with|slnil=>exact⟨⟨_,_,rfl⟩,λh=>absurd rfl h⟩|sl0=>exact⟨⟨_,_,rfl⟩,λh=>absurd rfl h⟩|sl b o cap _ _ f hc hs hi hr=>exact⟨⟨_,_,rfl⟩,λ_=>⟨b,o,cap,rfl,f,hs,λj d hd=>⟨hi j d hd,hr j d hd⟩⟩⟩
def QD(m:Mem cx g s w){b ob sz i:Nat}{es:List au}{d:au}{f:Nat->Value}(hs:∀e∈es,(cells e).length=sz)(hI:∀j d,nth (es.flatMap cells) j=some d->g.I b (ob+j)=some (f j)∧bM g.I (f j) d)(h1:nth es i=some d):bD g (.pointer (some ⟨b,ob+i*sz,none⟩)) (.mA d 0):=by
 refine .pure (.mA b (ob+i*sz) 0 d (λj=>f (i*sz+j)) (λj q hq=> ?_) (λj q hq=> ?_) (λj q hq=> ?_));all_goals
  have hj:j<sz:=by rw[<-hs d (gu h1)];exact aH hq
  have hfl:=gZ es sz i j d hs h1 hj;rw[hq]at hfl
 rw[sL];exact(hI _ q hfl).1;exact(m.iw _ _ _ (hI _ q hfl).1).2;exact(hI _ q hfl).2
theorem Ee(h:Rel cx g s a w)(hd:ji cx.n o.dst=true){t:TypeId}{x y:Operand}(ho:o.op= .indexAddr t x y)(ht:SU P t=true){c:mN}(hk:aC P c o.dst s K (cu P o (cY P s))):o.wp P a w (fK cx g K) Q:=by
 simp only[cu,ho]at hk;cases hx:cY P s 0 x with
 |none=>exact Ey
 |some d=>
  rw[hx]at hk;dsimp only at hk;have hv:=h.get hx;split at hk
  rotate_left
  exact aq;rename_i kk n hy;have hi:=(h.get hy).gC;have go:∀{b off:Nat} {z:au},(Instr.indexAt t (a.eval x) (.int kk n)).run P w= .ok (.pointer (some ⟨b,off,none⟩)) w->bD g (.pointer (some ⟨b,off,none⟩)) z->K (s.put o.dst z)->o.wp P a w (fK cx g K) Q:=by intro b off z e1 e2 e3;refine bJ (w' :=w) ?_ (dK h hd e2 e3);simp[execOp,ho,hi,e1]
  have slice:∀{e:TypeId},mH P t= .slice e->aC P c o.dst s K (.idx (bg P e) d n)->o.wp P a w (fK cx g K) Q:=by
   intro e hu hk;have hte:oI P e=true:=Z'
   simp only[aC]at hk;cases hrs:gO s (bg P e) d with
   |false=>rw[hrs]at hk;exact aq
   |true=>
    rw[hrs]at hk;dsimp only at hk;cases d with
    |sl sz es nl=>
     dsimp only at hk;have hsz:sz=bg P e:=dw hrs;obtain⟨d',_,h0,h1,hk⟩:=hk.out;have hlt:n<es.length:=Ew
     obtain⟨b,ob,cap,hev,f,hs,hI⟩:=hv.vh.vh.2 (by intro e;subst e;simp[nth]at h1);refine go (b:=b) (off:=ob+n.toNat*bg P e) ?_ ?_ hk;rw[hev];exact nM hu hte h0 hlt w;rw[<-hsz];exact QD h.mem hs hI h1
    |ref k m=>
     dsimp only at hk;cases hr:s.R k with
     |none=>exact nB
     |some r=>
      rw[hr]at hk;dsimp only at hk;have hsz:r.sz=bg P e:=(qW hr hrs).1;have hz0:=(qW hr hrs).2;cases hown:r.own with
      |true=>
       rw[hown]at hk;dsimp only at hk;obtain⟨d',hm,h0,h1,hk⟩:=hk.out;obtain⟨tv,t1,t2,t3,t4,t5,t6⟩:=h.mem.pA hv hr hm;have hlt:n<r.es.length:=Ew
       have t6:=t6.o hz0;unfold jv at t6;cases hb:tv.base with|none=>rw[hb]at t6;dsimp only at t6;rw[t6.1]at h1;simp[nth]at h1|some b=>refine go (b:=b) (off:=0+n.toNat*bg P e) ?_ ?_ hk;exact U_;exact .iS tv t1 E h0 (λ_=>hb) (by rw[t2,hsz];omega)
      |false=>
       rw[hown]at hk;dsimp only at hk;obtain⟨d',hm,h0,h1,hk⟩:=hk.out;obtain⟨tv,t1,t2,t3,t4,t5,t6⟩:=h.mem.pA hv hr hm;have hlt:n<r.es.length:=Ew
       have t6:=t6.o hz0;unfold jv at t6;cases hb:tv.base with|none=>rw[hb]at t6;dsimp only at t6;rw[t6.1]at h1;simp[nth]at h1|some b=>rw[hb]at t6;obtain⟨_,_,_,cc,ee,fz,c1,c2,c3,c4,c5,c6⟩:=t6;refine go (b:=b) (off:=0+n.toNat*bg P e) ?_ ?_ hk;exact U_;rw[<-hsz];refine QD h.mem (f:=λj=>(g.I b j).getD undef) t5 (λj q hq=> ?_) h1;obtain⟨v,v1,v2,v3,v4⟩:=c6 j q hq;have hz:=v4 hown;rw[eI,hz];exact⟨rfl,v2⟩
    |cQ k m=>
     dsimp only at hk;cases hr:s.R k with
     |none=>exact nB
     |some r=>
      rw[hr]at hk;dsimp only at hk;have Qf :(match s.R k with|some r=>Nat.beq r.sz 0&&(r.own&&Nat.beq 1 (bg P e))|none=>false)=true:=hrs;rw[hr]at Qf;simp only[aX]at Qf;have hs1:1=bg P e:=dw Qf.2.2;obtain⟨d',hm,h0,h1,hk⟩:=hk.out;obtain⟨tv,t1,t2,t3,t4,_⟩:=hv.wV;obtain⟨q1,q2,q3⟩:=h.mem.sZ t1 t2 hr;have hlt:n<r.es.length:=Ew
      obtain⟨_,_,q4⟩:=q3.live Qf.2.1;have t4:=t4 E;cases hb:tv.base with|none=>rw[hb]at q4;dsimp only at q4;rw[q4.1]at h1;simp[nth]at h1|some b=>refine go (b:=b) (off:=0+n.toNat*bg P e) ?_ ?_ hk;rw[t4];unfold Tv.value;rw[hb];dsimp only;exact nM hu hte h0 (by rw[q2];exact hlt) w;rw[<-hs1,nG,eI];exact .j8 tv t1 t2 E h0 (λ_=>hb)
    |sub k j m=>dsimp only at hk;cases hr:s.R k with|none=>exact nB|some r=>rw[hr]at hk;dsimp only at hk;have Qf :(match s.R k with|some r=>Nat.beq r.sz 0&&(r.own&&Nat.beq 1 (bg P e))|none=>false)=true:=hrs;rw[hr]at Qf;simp only[aX]at Qf;have hs1:1=bg P e:=dw Qf.2.2;obtain⟨xs,j1,j2⟩:=hk.out;obtain⟨n1,n2,n3⟩:=j2.h;obtain⟨tv,t1,t2,t3,t4⟩:=hv.V_;obtain⟨b,cap,t5,t6⟩:=t4 E;refine go (b:=b) (off:=0+n.toNat*bg P e) ?_ ?_ j2.k;rw[t6];exact nM hu hte n2 E w;rw[<-hs1,nG,eI];exact .fT tv t1 t2 n2 t5
    |_=>exact aq
  split at hk;rename_i l off;split at hk;rename_i m e hu;have hte:oI P e=true:=Z'
  simp only[aC]at hk;obtain⟨b,hb,e1⟩:=hv.vu;refine go (b:=b) ?_ (.jw hb) hk.k;rw[e1];exact GA hu hte hk.h.1 hk.h.2 w;exact aq;split at hk;rename_i e hu;exact slice hu hk;exact aq
theorem BE{t:TypeId}{off:Nat}{vs:Array Value}{ds:List au}{d:au}(ht:oI P t=true)(hl:vs.size=ds.length)(hr:∀(i:Nat) v x,vs[i]? =some v->nth ds i=some x->bD g v x∧leaf v=true)(hp:partOf (.agg ds) off (bg P t) (fU P t)=some d)(w:World):∃v,(part t vs off).run P w= .ok v w∧bD g v d:=by
 unfold part;simp only[Sem.run_bind,Wf ht,Result.andThen_ok];cases ha:fU P t with
 |true=>
  rw[ha]at hp;have hl2:off+bg P t<=ds.length∧d= .agg ((ds.drop off).take (bg P t)):=by simp only[partOf]at hp;split at hp;rename_i hb;simp only[aX]at hb;have h1:=dw hb.1;have h2:=dw hb.2;subst h1;cases hp;refine⟨E,?_⟩;rw[<-h2];simp;split at hp;rename_i hb;cases hp;exact⟨pX hb,rfl⟩;cases hp
  obtain⟨hl2,rfl⟩:=hl2;have hx:∀(i:Nat) v,(vs.extract off (off+bg P t))[i]? =some v->i<bg P t∧vs[off+i]? =some v:=by intro i v hv;rw[Array.getElem?_extract]at hv;split at hv;exact⟨E,hv⟩;cases hv
  refine⟨.agg (vs.extract off (off+bg P t)),by simp[iB ht],.agg az (λi v hv=> ?_) (λi v d hv hd=> ?_)⟩;obtain⟨h1,h2⟩:=hx i v hv;obtain⟨x,hx⟩:=bO (l:=ds) (i:=off+i) E;exact(hr _ v x h2 hx).2;obtain⟨h1,h2⟩:=hx i v hv;rw[G7,ak h1,G9]at hd;exact(hr _ v d h2 hd).1
 |false=>rw[ha]at hp;simp only[partOf,cells]at hp;have hlt:=aH hp;have hv:vs[off]? =some vs[off]:=kJ E;exact⟨vs[off],by simp[hv],(hr off _ d hv hp).1⟩
theorem bD.yN{ds:List au}{v:Value}(r:bD g v (.agg ds)):∃vs:Array Value,v= .agg vs∧vs.size=ds.length∧∀(i:Nat) v x,vs[i]? =some v->nth ds i=some x->bD g v x∧leaf v=true:=by
 have h:=jE r jT;cases r with
 |pure r=>cases r with|agg vs=>exact⟨vs,rfl,h⟩
 |agg=>exact⟨_,rfl,h⟩
def Pd(h:Rel cx g s a w)(hd:ji cx.n o.dst=true){t:TypeId}{x:Operand}{f:Nat}(ho:o.op= .field t x f)(hf:xm P t f=true){c:mN}(hk:aC P c o.dst s K (cu P o (cY P s))):o.wp P a w (fK cx g K) Q:=by obtain⟨fs,fd,h1,h2,h3,h4⟩:=xk hf;simp only[cu,ho]at hk;split at hk;rename_i cs hx;obtain⟨vs,e1,e2,e3⟩:=(h.get hx).yN;rw[h3]at hk;split at hk;rename_i d hp;obtain⟨v,v1,v2⟩:=BE h4 e2 e3 hp w;refine bJ (v:=v) (w' :=w) ?_ (dK h hd v2 hk);simp[execOp,ho,Instr.field,jD h1 O,h2,asAgg,e1,v1];exact aq;exact aq
def Tj(P:Program)(t:TypeId):Bool:=match mH P t with| .array _ e=>oI P e| .string=>true|_=>false
def Pc(h:Rel cx g s a w)(hd:ji cx.n o.dst=true){t:TypeId}{x y:Operand}(ho:o.op= .index t x y)(ht:Tj P t=true){c:mN}(hk:aC P c o.dst s K (cu P o (cY P s))):o.wp P a w (fK cx g K) Q:=by
 simp only[cu,ho]at hk;split at hk;rename_i cs hx;obtain⟨vs,e1,e2,e3⟩:=(h.get hx).yN;split at hk;rename_i kk n hy;have hi:=(h.get hy).gC;split at hk;rename_i m e hu;have hte:oI P e=true:=by unfold Tj at ht;rw[hu]at ht;exact ht
 split at hk;rename_i hb;simp only[aX,mR]at hb;obtain⟨⟨b1,b2⟩,b3⟩:=hb;have b1:=dw b1;have b2:=dw b2;simp only[aC]at hk;obtain⟨d,_,h0,hn,hk⟩:=hk.out;have hlt:=aH hn;obtain⟨v,v1,v2⟩:=BE (P:=P) (t:=e) (off:=n.toNat) hte e2 e3 (d:=d) (by rw[b3];simp only[partOf,cells];exact hn) w;refine bJ (v:=v) (w' :=w) ?_ (dK h hd v2 hk);have:n<(m:Int):=E
 simp[execOp,ho,Instr.index,hi,asIntOf,jD hu O,e1,h0,this,iB hte,b2,v1];exact aq;exact aq;exact aq;rename_i l hx;have hs:=(h.get hx).pw;split at hk;rename_i kk n hy;have hi:=(h.get hy).gC;split at hk;rename_i hu;simp only[aC]at hk;obtain⟨b,h0,hn,hk⟩:=hk.out;have hlt:=aH hn;rw[aJ]at hn;refine bJ (v:= .int .u8 b.toNat) (w' :=w) ?_ (dK h hd (.pure (.int _ _)) hk);have e1:((⟨⟨l⟩⟩:ByteArray)[n.toNat]?)=some b:=by
  have hsz:n.toNat<(⟨⟨l⟩⟩:ByteArray).size:=(by simpa[ByteArray.size]using hlt);rw[getElem?_pos (⟨⟨l⟩⟩:ByteArray) n.toNat hsz];congr 1;have:l[n.toNat]=b:=by simpa[hlt]using hn
  exact dj
 simp[execOp,ho,Instr.index,hi,asIntOf,jD hu O,hs,h0,e1];exact aq;exact aq;exact aq
end
def iW:=@List.getElem?_eq_getElem
def jW:=@List.all_eq_true
def uX:=@List.drop_eq_getElem_cons
def zu:=@List.drop_eq_nil_of_le
def Bq:=@List.getElem?_eq_none
def MO:=@List.range'_succ
def VB(h:G:=by rw[wJ hte hag];omega):=h
def ie(h:G:=by cases h):=h
def Kh(h:G:=by exact⟨_,_,by simp only[binOp];rw[Z (by simp)];rfl,.pure (.int _ _),hk.out⟩):=h
def Lo(h:G:=by exact⟨_,_,by simp[binOp,Op.intArith],.pure (.int _ _),hk.out⟩):=h
def UD(h:G:=by exact⟨_,_,by simp[binOp,Op.intDiv,hk.h],.pure (.int _ _),hk.k⟩):=h
def eQ(h:G:=by simpa using h):=h
section
variable{P:Program}{cx:Cx}{g:Gh}{s:St}{a:Act}{w:World}{o:Oper}{K:St->Prop}{Q:Go.Exit->Act->World->Prop}
def r6{k k' :IntKind}(h:B7 k k' =true):k=k' :=by cases k<;>cases k' <;>first|rfl|cases h
def ID{op:BinOp}{t:TypeId}{k:IntKind}{x y:Int}{c:mN}{dst:Option Nat}(hk:aC P c dst s K (FT op k x y)):∃v d,(binOp op t (.int k x) (.int k y)).run P w= .ok v w∧bD g v d∧K (s.put dst d):=by
 cases op<;>simp only[FT,QU,asj,aC]at hk;case add=>exact Lo
 case sub=>exact Lo
 case mul=>exact Lo
 case quo=>exact UD
 case rem=>exact UD
 case and=>exact Kh
 case or=>exact Kh
 case xor=>exact Kh
 case andNot=>exact Kh
 all_goals exact⟨_,_,by simp only[binOp];rw[Z O];rfl,.pure (.bool _),hk⟩
def pF{op:BinOp}{t:TypeId}{x y:Operand}{u v:Value}(hu:leaf u=true)(hn:u≠.nilIface)(w:World):(eqGuard op t x y u v).run P w= .ok () w:=by unfold eqGuard;cases op<;>first|rfl|(cases u<;>first|rfl|exact absurd rfl hn|simp[leaf]at hu)
def toList_mk(l:List UInt8):(⟨⟨l⟩⟩:ByteArray).toList=l:=by rw[ByteArray.toList_eq]
def eqB(P:Program):Nat->TypeId->Bool|0,_=>false|d+1,t=>match mH P t with| .int _=>true| .bool=>true| .string=>true| .struct fs=> !(P.stoodInHeld t)&&fs.toList.all λf=>oI P f.type&&(f.name != "_")&&Nat.ble (f.offset+bg P f.type) (bg P t)&&eqB P d f.type| .array m e=>oI P e&& !(fU P e)&&eqB P d e&&Nat.beq (bg P t) m|_=>false
def Of{t:TypeId}{fs:Array Field}(h:mH P t= .struct fs):P.underlying t=some (.struct (P.fieldsOf t))∧P.fieldsOf t=fs:=by
 have hu:=bG h O;have:P.fieldsOf t=fs:=by simp[Program.fieldsOf,hu]
 rw[this];exact⟨hu,rfl⟩
theorem bD.NH{t:TypeId}{off:Nat}{vs:Array Value}{ds:List au}(ht:oI P t=true)(hl:vs.size=ds.length)(hr:∀(i:Nat) v x,vs[i]? =some v->nth ds i=some x->bD g v x∧leaf v=true)(hoff:off+bg P t<=ds.length)(w:World):∃v,(part t vs off).run P w= .ok v w∧(fU P t=true->∃us,v= .agg us∧us.size=bg P t∧∀(i:Nat) u x,us[i]? =some u->nth ((ds.drop off).take (bg P t)) i=some x->bD g u x∧leaf u=true)∧(fU P t=false->∃x,(ds.drop off).take (bg P t)=[x]∧bD g v x):=by
 cases ha:fU P t with
 |true=>obtain⟨v,h1,h2⟩:=BE (P:=P) (g:=g) (off:=off) (d:= .agg ((ds.drop off).take (bg P t))) ht hl hr (by rw[ha];simp only[partOf];split;rename_i hb;simp only[aX]at hb;have h1:=dw hb.1;have h2:=dw hb.2;subst h1;rw[<-h2];simp;have:Nat.ble (off+bg P t) ds.length=true:=Nat.ble_eq_true_of_le hoff;rw[this]) w;obtain⟨us,e1,e2,e3⟩:=h2.yN;exact⟨v,h1,λ_=>⟨us,e1,by rw[e2];exact az,e3⟩,λh=>ie⟩
 |false=>have h1:=wJ ht ha;rw[h1]at hoff;obtain⟨x,hx⟩:=bO (l:=ds) (i:=off) E;obtain⟨v,v1,v2⟩:=BE (P:=P) (g:=g) (off:=off) (d:=x) ht hl hr (by rw[ha];exact hx) w;refine⟨v,v1,(λh=>ie),λ_=>⟨x,?_,v2⟩⟩;rw[h1];apply uU;intro i;rw[<-aJ,G7,G9];cases i with|zero=>simp[hx]|succ i=>simp
def HV{l:List au}{i:Nat}{x:au}(h:l[i]? =some x):l.drop i=x::l.drop (i+1):=by
 have hl:i<l.length:=by rcases jl i l.length with h' |h';exact h';rw[Bq h']at h;cases h
 rw[uX hl];rw[iW hl]at h;cases h;rfl
theorem Oq:∀(d:Nat) (t:TypeId) (xs ys:List au) (u v:Value) (r:Bool) (_:eqB P d t=true) (_:oI P t=true) (_:YB P d t xs ys=some r) (N:Nat) (_:(∃us vs:Array Value,u= .agg us∧v= .agg vs∧us.size=xs.length∧vs.size=ys.length∧xs.length=bg P t∧ys.length=bg P t∧(∀(i:Nat) v x,us[i]? =some v->nth xs i=some x->bD g v x∧leaf v=true)∧(∀(i:Nat) v x,vs[i]? =some v->nth ys i=some x->bD g v x∧leaf v=true)∧fU P t=true)∨(fU P t=false∧∃x y,xs=[x]∧ys=[y]∧bD g u x∧bD g v y)),(Op.equalIn (N+d) t u v).run P w= .ok r w
 |0,t,xs,ys,u,v,r,hb,_,h,N,hv=>by simp[YB]at h
 |d+1,t,xs,ys,u,v,r,hb,hty,h,N,hv=>by
  rw[<-sL];simp only[YB]at h;simp only[eqB]at hb;split at h
  ·rename_i k0 hu;have ha:fU P t=false:=by simp[fU,hu]
   rcases hv with⟨_,_,_,_,_,_,_,_,_,_,h1⟩|⟨_,x,y,rfl,rfl,r1,r2⟩;rw[ha]at h1;cases h1
   ·cases x<;>cases y<;>try (cases h;done)
    rename_i k a k' b;dsimp only at h;split at h;rename_i hk;have:=r6 hk;subst this;cases h;rw[r1.gC,r2.gC];exact run_equalIn_int w _ t k k0 a b (bG hu O);cases h
  ·rename_i hu;have ha:fU P t=false:=by simp[fU,hu]
   rcases hv with⟨_,_,_,_,_,_,_,_,_,_,h1⟩|⟨_,x,y,rfl,rfl,r1,r2⟩;rw[ha]at h1;cases h1
   ·cases x<;>cases y<;>try (cases h;done)
    rename_i a b;cases h;rw[r1.ot,r2.ot];exact run_equalIn_bool' w _ t a b (bG hu O)
  ·rename_i hu;have ha:fU P t=false:=by simp[fU,hu]
   rcases hv with⟨_,_,_,_,_,_,_,_,_,_,h1⟩|⟨_,x,y,rfl,rfl,r1,r2⟩;rw[ha]at h1;cases h1
   ·cases x<;>cases y<;>try (cases h;done)
    rename_i a b;cases h;rw[r1.pw,r2.pw];have:=run_equalIn_string (P:=P) w (N+d) t ⟨⟨a⟩⟩ ⟨⟨b⟩⟩ (bG hu O);rw[toList_mk,toList_mk]at this;exact dj
  rename_i fs hu;rw[hu]at hb;simp only[aX,mR]at hb;obtain⟨hst,hall⟩:=hb;have ha:fU P t=true:=by simp[fU,hu]
  rcases hv with⟨us,vs,rfl,rfl,l1,l2,l3,l4,r1,r2,_⟩|⟨h1,_⟩;obtain⟨f1,f2⟩:=Of hu;rw[run_equalIn_agg w _ t us vs f1 hst,f2];have key:∀(l:List Field) (r:Bool),(∀f∈l,oI P f.type=true∧(f.name != "_")=true∧eqB P d f.type=true∧f.offset+bg P f.type<=bg P t)->YB.go (λt xs ys=>YB P d t xs ys) P xs ys l=some r->
   (Op.eqFields (N+d) us vs l).run P w= .ok r w:=by
   intro l;induction l with
   |nil=>intro r _ h;simp[YB.go]at h;subst h;simp[Op.eqFields]
   |cons f l ih=>
    intro r hf h;obtain⟨q1,q2,q3,q4⟩:=hf f O;simp only[YB.go]at h;split at h;rename_i a1 ha1;split at h;rename_i b1 hb1;cases h;have hname:f.name≠ "_":=LD
    have ih' :=ih b1 (λf' hf' =>hf f' (by simp[hf'])) hb1;have hoff:f.offset+bg P f.type<=xs.length∧f.offset+bg P f.type<=ys.length:=E
    obtain⟨u1,p1,p2,p3⟩:=bD.NH (P:=P) (g:=g) q1 l1 r1 hoff.1 w;obtain⟨v1,o1,o2,o3⟩:=bD.NH (P:=P) (g:=g) q1 l2 r2 hoff.2 w;have hrec:=Oq d f.type _ _ u1 v1 a1 q3 q1 ha1 N (by
     cases hag:fU P f.type with
     |true=>left;obtain⟨us',e1,e2,e3⟩:=p2 hag;obtain⟨vs',e4,e5,e6⟩:=o2 hag;exact⟨us',vs',e1,e4,by rw[e2];exact az,by rw[e5];exact az,az,az,e3,e6,rfl⟩
     |false=>right;obtain⟨x,e1,e2⟩:=p3 hag;obtain⟨y,e3,e4⟩:=o3 hag;exact⟨rfl,x,y,e1,e3,e2,e4⟩)
    simp only[Op.eqFields,Sem.run_ite,Sem.run_bind,p1,o1,Result.andThen_ok,hrec];rw[ak hname];cases a1;simp;simpa using ih';cases h;cases h
  refine key fs.toList r (λf hf=> ?_) h;have:=jW.1 hall f hf;simp only[aX]at this;exact⟨this.1.1.1,this.1.1.2,this.2,pX this.1.2⟩;rw[ha]at h1;cases h1;rename_i m e hu;rw[hu]at hb;simp only[aX,mR]at hb;obtain⟨⟨⟨hte,hag⟩,hbe⟩,ar6⟩:=hb;have hsz:=dw ar6;have ha:fU P t=true:=by simp[fU,hu]
  rcases hv with⟨us,vs,rfl,rfl,l1,l2,l3,l4,r1,r2,_⟩|⟨h1,_⟩
  ·have hut:=bG hu O;have hse:(Go.sizeOf e).run P w= .ok 1 w:=by rw[iB hte,wJ hte hag]
   simp only[Op.equalIn,Sem.run_bind,run_underlying hut,Result.andThen_ok,hse,Std.Legacy.Range.forIn_eq_forIn_range',Std.Legacy.Range.size,Nat.sub_zero,Nat.add_sub_cancel,Nat.div_one,nG];have hm:∀(i:Nat),i=0->eqA (λxs ys=>YB P d e xs ys) (xs.drop i) (ys.drop i)=some r:=by intro i hi;subst hi;exact eQ
   replace h:=hm 0 rfl;clear hm;have hlx:0+m=xs.length:=E
   have hly:0+m=ys.length:=E;clear hu hut hsz l3 l4 ar6;revert h hlx hly;generalize (0:Nat)=i;intro h hlx hly;induction m generalizing i r with
   |zero=>rw[zu E,zu E]at h;simp only[eqA]at h;cases h;simp
   |succ len ih=>
    obtain⟨x,hx⟩:=bO (l:=xs) (i:=i) E;obtain⟨y,hy⟩:=bO (l:=ys) (i:=i) E;have hx' :xs[i]? =some x:=by rw[<-aJ];exact hx
    have hy' :ys[i]? =some y:=(by rw[<-aJ];exact hy);have ex:xs.drop i=x::xs.drop (i+1):=HV hx';have ey:ys.drop i=y::ys.drop (i+1):=HV hy';rw[ex,ey]at h;simp only[eqA]at h;have tk:∀{l:List au} {z:au},l.drop i=z::l.drop (i+1)->(l.drop i).take 1=[z]:=by intro l z hz;rw[hz];simp
    obtain⟨u1,p1,_,p3⟩:=bD.NH (P:=P) (g:=g) (off:=i) hte l1 r1 VB w;obtain⟨v1,o1,_,o3⟩:=bD.NH (P:=P) (g:=g) (off:=i) hte l2 r2 VB w;obtain⟨x',ex',rx⟩:=p3 hag;obtain⟨y',ey',ry⟩:=o3 hag;rw[wJ hte hag,tk ex]at ex';rw[wJ hte hag,tk ey]at ey';cases ex';cases ey';split at h;rename_i a1 ha1;split at h;rename_i b1 hb1;cases h;have hrec:=Oq d e [x] [y] u1 v1 a1 hbe hte ha1 N (.inr ⟨hag,x,y,rfl,rfl,rx,ry⟩);have ih' :=ih b1 (i+1) hb1 E E;rw[MO,List.forIn_cons];simp only[Sem.run_bind,p1,o1,Result.andThen_ok,hrec,Sem.run_ite,Sem.run_pure];cases a1;simp;simpa using ih';cases h;cases h
  rw[ha]at h1;cases h1;cases h
end
def rI:=@List.getElem?_map
def Fp:=@Option.some.injEq
def Lz(h:G:=by rw[e1];simp):=h
def EW(h:G:=by rw[e1];rfl):=h
def Lu(h:G:=by rw[hp];rfl):=h
def Zo(h:G:=by rw[hut]at hb;simp only[aX,mR]at hb;refine⟨hb.2,?_⟩;exact Oq (g:=g) 8 t xs ys (.agg us) (.agg vs) r hb.1.2 hb.1.1 hr 9992 (.inl ⟨us,vs,rfl,rfl,e2,e5,l1,l2,e3,e6,by simp[fU,hut]⟩)):=h
def US(h:G:=by exact go hg (by rw[e1,e2];simp[binOp,Op.stringOp,toList_mk]) (.pure (.bool _)) hk):=h
def UL(h:G:=by have:=hk.h;rw[e1,e2];simp only[binOp,Op.shift];rw[Z (by omega)];rfl):=h
section
variable{P:Program}{cx:Cx}{g:Gh}{s:St}{a:Act}{w:World}{o:Oper}{K:St->Prop}{Q:Go.Exit->Act->World->Prop}
def at1(P:Program)(op:BinOp)(t:TypeId):Bool:=
 match op with
 | .eql=>match mH P t with| .struct _=>oI P t&&eqB P 8 t&& !(P.eqGuardType P.depth t)| .array _ _=>oI P t&&eqB P 8 t&& !(P.eqGuardType P.depth t)|_=>true
 | .neq=>match mH P t with| .struct _=>oI P t&&eqB P 8 t&& !(P.eqGuardType P.depth t)| .array _ _=>oI P t&&eqB P 8 t&& !(P.eqGuardType P.depth t)|_=>true
 |_=>true
def bD.Wt{z:Nat}{v:Value}(r:bD g v (.sl z [] true)):v= .slice none 0 0:=CL
def bD.anb{z:Nat}{es:List au}{v:Value}(r:bD g v (.sl z es true)):es=[]:=CL
def Eg{e t:TypeId}(w:World)(d:Nat)(p:Option Addr)(n c:Nat)(ht:P.underlying t=some (.slice e)):(Op.equalIn (d+1) t (.slice p n c) (.slice none 0 0)).run P w= .ok p.isNone w:=by cases p<;>simp[Op.equalIn,run_underlying ht]
def vg(h:Rel cx g s a w)(hd:ji cx.n o.dst=true){op:BinOp}{t t' :TypeId}{x y:Operand}(ho:o.op= .binOp op t x y t'){z z2:Nat}{es:List au}{b:Bool}{e:TypeId}(hut:mH P t= .slice e)(hx:cY P s t x=some (.sl z es b))(hy:cY P s t' y=some (.sl z2 [] true)){ne:Bool}(hne:(op= .eql∧ne=false)∨(op= .neq∧ne=true))(hk:(b=true->K (s.put o.dst (.bool (!ne))))∧(b=false->es=[]->K (s.put o.dst (.bool (true !=ne))))∧(b=false->K (s.put o.dst (.bool (false !=ne)))∨(es=[]∧K (s.put o.dst (.bool (false !=ne)))))):o.wp P a w (fK cx g K) Q:=by
 have hu:=h.get hx;have hv:=h.get hy;have hv0:a.eval y= .slice none 0 0:=hv.Wt;have hs:=hu.vh.vh;obtain⟨⟨p,cap,hp⟩,hnn⟩:=hs;have hg:(eqGuard op t x y (a.eval x) (a.eval y)).run P w= .ok () w:=pF Lu (by rw[hp];simp) w;have he:(Op.equal t (a.eval x) (a.eval y)).run P w= .ok p.isNone w:=by rw[hp,hv0];exact Eg w 9999 p _ _ (bG hut O)
 have hb1:b=true->p=none:=by intro e;subst e;have h0:=hu.anb;subst h0;have:=hu.Wt;rw[hp]at this;cases this;rfl
 have hb2:p=none->es=[]:=by intro e;subst e;by_cases h0:es=[];exact h0;obtain⟨_,_,_,h1,_⟩:=hnn h0;rw[hp]at h1;cases h1
 have h1:(binOp op t (a.eval x) (a.eval y)).run P w= .ok (.bool (p.isNone !=ne)) w:=by rw[hp,hv0]at he ⊢;rcases hne with⟨rfl,rfl⟩|⟨rfl,rfl⟩;simp only[binOp,Sem.run_bind,he,Result.andThen_ok,Sem.run_pure];cases p<;>rfl;simp only[binOp,Sem.run_bind,he,Result.andThen_ok,Sem.run_pure];cases p<;>rfl
 refine bJ (v:= .bool (p.isNone !=ne)) (w' :=w) (by simp[execOp,ho,hg,h1]) (dK h hd (.pure (.bool _)) ?_);obtain⟨k1,k2,k3⟩:=hk;cases b with|true=>rw[hb1 rfl];have:=k1 rfl;cases ne<;>exact dj|false=>cases p with|none=>exact k2 rfl (hb2 rfl)|some q=>rcases k3 rfl with h|h;exact h;exact h.2
def Pf(h:Rel cx g s a w)(hd:ji cx.n o.dst=true){op:BinOp}{t t' :TypeId}{x y:Operand}(ho:o.op= .binOp op t x y t')(hb:at1 P op t=true){c:mN}(hk:aC P c o.dst s K (cu P o (cY P s))):o.wp P a w (fK cx g K) Q:=by
 simp only[cu,ho]at hk;cases hx:cY P s t x with|none=>exact Ey|some u=>
 cases hy:cY P s t' y with|none=>rw[hx,hy]at hk;exact aq|some v=>
 rw[hx,hy]at hk;dsimp only at hk;have hu:=h.get hx;have hv:=h.get hy;have go:∀{v:Value} {d:au},(eqGuard op t x y (a.eval x) (a.eval y)).run P w= .ok () w->(binOp op t (a.eval x) (a.eval y)).run P w= .ok v w->bD g v d->K (s.put o.dst d)->o.wp P a w (fK cx g K) Q:=by intro v d e0 e1 e2 e3;refine bJ (v:=v) (w' :=w) ?_ (dK h hd e2 e3);simp[execOp,ho,e0,e1]
 unfold OH at hk;split at hk;rename_i k1 m1 k2 m2;have e1:=hu.gC;have e2:=hv.gC;have hg:(eqGuard op t x y (a.eval x) (a.eval y)).run P w= .ok () w:=pF EW Lz w;split at hk;simp only[aC]at hk;refine go hg (v:= .int k1 (k1.wrap (m1*2^(min m2.toNat k1.bits)))) ?_ (.pure (.int _ _)) hk.k;exact UL;simp only[aC]at hk;refine go hg (v:= .int k1 (m1.fdiv (2^(min m2.toNat k1.bits)))) ?_ (.pure (.int _ _)) hk.k;exact UL;split at hk;rename_i hkb;have:=r6 hkb;subst this;obtain⟨vv,d,r1,r2,r3⟩:=ID (g:=g) (w:=w) (t:=t) hk;exact go hg (by rw[e1,e2];exact r1) r2 r3;exact aq;rename_i l m;have e1:=hu.pw;have e2:=hv.pw;have hg:(eqGuard op t x y (a.eval x) (a.eval y)).run P w= .ok () w:=pF EW Lz w;split at hk;exact US;exact US;simp only[aC]at hk;have hlen:=hk.h;refine go hg (v:= .string ⟨⟨l++m⟩⟩) ?_ (.pure (.str _)) hk.k;rw[e1,e2];simp only[binOp,Op.stringOp];rw[Z (by simp[ByteArray.size,IntKind.max,IntKind.signed,IntKind.bits];omega)];simp only[Sem.run_pure];rfl;exact aq;rename_i b1 b2;have e1:=hu.ot;have e2:=hv.ot;have hg:(eqGuard op t x y (a.eval x) (a.eval y)).run P w= .ok () w:=pF EW Lz w;split at hk;split at hk;rename_i hut;refine go hg (v:= .bool (b1==b2)) ?_ (.pure (.bool _)) hk;rw[e1,e2];simp[binOp,Op.equal,Op.maxDepth,run_equalIn_bool' w 9999 t b1 b2 (bG hut O)];exact aq;split at hk;rename_i hut;refine go hg (v:= .bool (!(b1==b2))) ?_ (.pure (.bool _)) hk;rw[e1,e2];simp[binOp,Op.equal,Op.maxDepth,run_equalIn_bool' w 9999 t b1 b2 (bG hut O)];exact aq;exact aq;rename_i xs ys;split at hk;exact aq;rename_i hlen;simp only[aX]at hlen;obtain⟨⟨hl1,hl2⟩,hl3⟩:=hlen;have l1:=dw hl1;have l2:=dw hl2;obtain⟨us,e1,e2,e3⟩:=hu.yN;obtain⟨vs,e4,e5,e6⟩:=hv.yN;have key:∀r,(match mH P t with| .struct _=>oI P t&&eqB P 8 t&& !(P.eqGuardType P.depth t)| .array _ _=>oI P t&&eqB P 8 t&& !(P.eqGuardType P.depth t)|_=>true)=true->YB P 8 t xs ys=some r->
  P.eqGuardType P.depth t=false∧(Op.equalIn 10000 t (.agg us) (.agg vs)).run P w= .ok r w:=by
  intro r hb hr;cases hut:mH P t with|struct fs=>exact Zo|array m e=>exact Zo|_=>rw[hut]at hl3;cases hl3
 split at hk;split at hk;rename_i r hr;obtain⟨k1,k2⟩:=key r hb hr;refine go (v:= .bool r) ?_ ?_ (.pure (.bool _)) hk;rw[e1,e4];exact run_eqGuard_agg w .eql t x y us vs k1;rw[e1,e4,run_eql_struct,k2];rfl;exact aq;split at hk;rename_i r hr;obtain⟨k1,k2⟩:=key r hb hr;refine go (v:= .bool (!r)) ?_ ?_ (.pure (.bool _)) hk;rw[e1,e4];exact run_eqGuard_agg w .neq t x y us vs k1;rw[e1,e4,run_neq_struct,k2];rfl;exact aq;exact aq
 ·rename_i z es b z2;split at hk
  rotate_left
  exact aq;rename_i e hut;have nil0:∀{ne:Bool},aC P c o.dst s K (.Ek es b ne)->(b=true->K (s.put o.dst (.bool (!ne))))∧(b=false->es=[]->K (s.put o.dst (.bool (true !=ne))))∧(b=false->K (s.put o.dst (.bool (false !=ne)))∨(es=[]∧K (s.put o.dst (.bool (false !=ne))))):=by intro ne h2;simp only[aC]at h2;cases b with|true=>exact⟨λ_=>h2,(λe=>bK),(λe=>bK)⟩|false=>exact⟨(λe=>bK),λ_ e=>absurd e h2.h,λ_=> .inl h2.k⟩
  split at hk;exact vg h hd ho hut hx hy (.inl ⟨rfl,rfl⟩) (nil0 hk);exact vg h hd ho hut hx hy (.inr ⟨rfl,rfl⟩) (nil0 hk);exact aq
 exact aq
def Sg(h:Rel cx g s a w)(hd:ji cx.n o.dst=true){op:UnOp}{t:TypeId}{x:Operand}(ho:o.op= .unOp op t x){c:mN}(hk:aC P c o.dst s K (cu P o (cY P s))):o.wp P a w (fK cx g K) Q:=by simp only[cu,ho]at hk;split at hk;rename_i b hx;have e:=(h.get hx).ot;refine bJ (v:= .bool (!b)) (w' :=w) ?_ (dK h hd (.pure (.bool _)) hk);simp[execOp,ho,e,Op.unary];rename_i k n hx;have e:=(h.get hx).gC;simp only[aC]at hk;refine bJ (v:= .int k (k.wrap (0 - n))) (w' :=w) ?_ (dK h hd (.pure (.int _ _)) hk.out);simp[execOp,ho,e,Op.unary,Op.intArith];exact aq
def bD.FE{ds:List au}{v:Value}(r:bD g v (.bS ds)):∃vs:Array Value,v= .tuple vs∧vs.size=ds.length∧∀(i:Nat) v x,vs[i]? =some v->nth ds i=some x->bD g v x:=by cases r with|pure r=>cases r|bS hl hr=>exact⟨_,rfl,hl,hr⟩
def IA(h:Rel cx g s a w)(hd:ji cx.n o.dst=true){x:Operand}{i:Nat}(ho:o.op= .extract x i){c:mN}(hk:aC P c o.dst s K (cu P o (cY P s))):o.wp P a w (fK cx g K) Q:=by simp only[cu,ho]at hk;split at hk;rename_i cs hx;split at hk;rename_i d hi;obtain⟨vs,e1,e2,e3⟩:=(h.get hx).FE;have hlt:=aH hi;have hv:vs[i]? =some vs[i]:=kJ E;refine bJ (v:=vs[i]) (w' :=w) ?_ (dK h hd (e3 i _ d hv hi) hk);simp[execOp,ho,e1,Instr.extract,hv];exact aq;exact aq
theorem CC{α:Type}:∀{l:List (Option α)} {r:List α},jj l=some r->l=r.map some|[],r,h=>by simp[jj]at h;subst h;rfl|some x::xs,r,h=>by simp only[jj]at h;split at h;rename_i ys hy;cases h;simp[CC hy];cases h|none::_,r,h=>by simp[jj]at h
def Wi(h:Rel cx g s a w):∀{l:List Operand} {ds:List au},jj (l.map (cY P s 0))=some ds->l.length=ds.length∧∀(i:Nat) v d,(l.map a.eval)[i]? =some v->nth ds i=some d->bD g v d:=by
 intro l ds hl;have e:=CC hl;have hlen:l.length=ds.length:=by simpa using aL List.length e
 refine⟨hlen,λi v d hv hd=> ?_⟩;simp only[rI]at hv;cases hli:l[i]? with|none=>rw[hli]at hv;cases hv|some x=>rw[hli]at hv;simp only[wq,Fp]at hv;subst hv;have h2:=aL (λz=>z[i]?) e;simp only[rI,hli,wq]at h2;rw[aJ]at hd;rw[hd]at h2;simp only[wq,Fp]at h2;exact h.get h2
def Gu(h:Rel cx g s a w)(hd:ji cx.n o.dst=true){fn:Fn}{first cap:Array Operand}(ho:o.op= .makeFunc fn first cap){c:mN}(hk:aC P c o.dst s K (cu P o (cY P s))):o.wp P a w (fK cx g K) Q:=by simp only[cu,ho]at hk;split at hk;rename_i u v hu hv;obtain⟨p1,p2⟩:=Wi h hu;obtain⟨q1,q2⟩:=Wi h hv;refine bJ (v:= .func fn (first.map a.eval) (cap.map a.eval)) (w' :=w) ?_ (dK h hd (.gD ?_ ?_ ?_ ?_) hk);simp[execOp,ho,Instr.makeFunc];simpa using p1;simpa using q1;intro i v d hv hd';exact p2 i v d lK hd';intro i v d hv hd';exact q2 i v d lK hd';exact aq
theorem bD.qR{fn:Fn}{df dc:List au}{v:Value}(r:bD g v (.gD fn df dc)):∃vf vc:Array Value,v= .func fn vf vc∧vf.size=df.length∧vc.size=dc.length∧(∀(i:Nat) v d,vf[i]? =some v->nth df i=some d->bD g v d)∧∀(i:Nat) v d,vc[i]? =some v->nth dc i=some d->bD g v d:=by
 cases r with
 |pure r=>cases r with|gD hf hc rf rc=>exact⟨_,_,rfl,hf,hc,λi v d h1 h2=> .pure (rf i v d h1 h2),λi v d h1 h2=> .pure (rc i v d h1 h2)⟩
 |gD hf hc rf rc=>exact⟨_,_,rfl,hf,hc,rf,rc⟩
def Gs(h:Rel cx g s a w)(hd:ji cx.n o.dst=true){x:Operand}(ho:o.op= .nilCheck x){c:mN}(hk:aC P c o.dst s K (cu P o (cY P s))):o.wp P a w (fK cx g K) Q:=by simp only[cu,ho]at hk;split at hk;rename_i l off hx;obtain⟨b,hb,e1⟩:=(h.get hx).vu;refine bJ (v:=a.eval x) (w' :=w) ?_ (dK h hd (h.get hx) hk);simp[execOp,ho,e1];rename_i d off hx;obtain⟨b,ob,e1,_⟩:=(h.get hx).N9;refine bJ (v:=a.eval x) (w' :=w) ?_ (dK h hd (h.get hx) hk);simp[execOp,ho,e1];rename_i k n i off hx;obtain⟨tv,b,_,_,_,_,e1⟩:=(h.get hx).Cp;refine bJ (v:=a.eval x) (w' :=w) ?_ (dK h hd (h.get hx) hk);simp[execOp,ho,e1];rename_i f u v hx;obtain⟨p,q,e1,_⟩:=(h.get hx).qR;refine bJ (v:=a.eval x) (w' :=w) ?_ (dK h hd (h.get hx) hk);simp[execOp,ho,e1];exact aq
end
def dV:=@List.mem_map
def mT:=@List.mem_cons_of_mem
def rK:=@List.getElem?_eq_some_iff
def rH:=@List.append_assoc
def oD:=@List.map_cons
def wu:=@decide_eq_true_eq
def uS:=@Bool.or_eq_true
def zo:=@List.mem_cons_self
def sN:=@List.foldl_cons
def Bn:=@List.getElem?_append
def Bm:=@Int.toNat_of_nonneg
def Bf:=@Nat.mul_le_mul
def Bb:=@Int.bmod_def
def MT:=@Array.foldl_toList
def akk(h:G:=by cases r with|slnil=>exact Ax|sl0=>exact Ay|sl b o cap _ _ f hc hs hi hr=>exact Ut):=h
def R2(h:G:=by intro j;cases hj:g.I w.heap.size j with|none=>rfl|some v=>exact ahc):=h
def aa0(h:G:=by rw[Gg hd];exact hzl):=h
def A9(h:G:=by rw[hown]at ho;cases ho):=h
def L9(h:G:=by rw[<-he];exact hd):=h
def ES(h:G:=by simp[nth]):=h
def uH(h:G:=by simp[hn]):=h
def tF(h:G:=by exact cJ _):=h
def Rm(h:G:=by exact⟨rfl,rfl,rfl,by simp[dN],λb hb _=>bN w _ b hb⟩):=h
def Vo(h:G:=by have hi:i<r.length:=(by rw[<-f2];exact(iX.1 hv).1);obtain⟨x,hx⟩:=bO hi;exact(f3 i v x hv hx).2):=h
def ahc(h:G:=by exact absurd (h.mem.Il hj) (fQ _)):=h
def xM(h:G:=by simpa[nth]using h2):=h
def nE(h:G:=by simpa using h2):=h
def Ux(h:G:=by simp[IntKind.wrap,IntKind.bits,IntKind.signed,Bb];omega):=h
def xH(h:G:=by simp at h2;omega):=h
def qt(h:G:=by simpa using hl):=h
def qp(h:G:=by simpa using hp):=h
section
variable{P:Program}{cx:Cx}{g:Gh}{s:St}{a:Act}{w:World}{o:Oper}{K:St->Prop}{Q:Go.Exit->Act->World->Prop}
def HR(P:Program)(t:TypeId):Bool:=match mH P t with| .struct fs=>fs.toList.all λf=>oI P f.type|_=>false
def run_places{fs:Array Field}(h:fs.toList.all (λf=>oI P f.type)=true)(w:World):(Array.mapM (λf=>Functor.map (Prod.mk f.offset) (Go.sizeOf f.type)) fs:Sem (Array (Nat×Nat))).run P w= .ok (fs.map λf=>(f.offset,bg P f.type)) w:=by
 rw[Array.mapM_eq_mapM_toList];have key:∀l:List Field,(l.all (λf=>oI P f.type)=true)->(l.mapM λf=>Functor.map (Prod.mk f.offset) (Go.sizeOf f.type):Sem (List (Nat×Nat))).run P w= .ok (l.map λf=>(f.offset,bg P f.type)) w:=by intro l;induction l with|nil=>intro _;simp|cons f l ih=>intro hl;simp only[List.all_cons,aX]at hl;simp only[List.mapM_cons,Sem.run_bind,Sem.run_map,iB hl.1,Result.andThen_ok,Sem.run_pure,ih hl.2,oD]
 rw[Sem.run_map,key fs.toList h,Result.andThen_ok];congr 1;apply nI;simp
theorem JL(vs:List Value):∀(off k:Nat) (c:Array Value),(vs.zipIdx k).foldl (λcs (x:Value×Nat)=>cs.setIfInBounds (off+x.2) x.1) c=(aI c.toList (off+k) vs).toArray:=by
 induction vs with
 |nil=>intro off k c;simp[iA,jP]
 |cons v vs ih=>
  intro off k c;simp only[List.zipIdx_cons,sN];rw[ih off (k+1)];simp only[iA,jP,Gj];congr 2;have:∀(l:List Value) (k:Nat) (x:Value),l.set k x=setAt l k x:=akn
  rw[this]
theorem Dp{place:Nat->Option (Nat×Nat)}:∀(ps:List (Nat×Value)) (c:Array Value) (ds:List au) (qs:List (Nat×Option au)) (r:List au) {t:TypeId},c.size=ds.length->(∀(i:Nat) v x,c[i]? =some v->nth ds i=some x->bD g v x∧leaf v=true)->ps.length=qs.length->(∀(i:Nat) p q d,ps[i]? =some p->qs[i]? =some q->q.2=some d->p.1=q.1∧bD g p.2 d)->q_ P t ds qs=some r->(∀q∈qs,place q.1=some ((Abs.fieldAt P t q.1).1,bg P (Abs.fieldAt P t q.1).2)∧(Abs.fieldAt P t q.1).1+bg P (Abs.fieldAt P t q.1).2<=ds.length)->∃c',Instr.fill place c ps=some c' ∧c'.size=r.length∧∀(i:Nat) v x,c'[i]? =some v->nth r i=some x->bD g v x∧leaf v=true
 |[],c,ds,qs,r,t,hl,hr,hlen,_,hf,_=>by
  have:qs=[]:=by cases qs with|nil=>rfl|cons=>simp at hlen
  subst this;simp only[q_]at hf;cases hf;exact⟨c,rfl,hl,hr⟩
 |p::ps,c,ds,qs,r,t,hl,hr,hlen,hp,hf,hq=>by
  cases qs with
  |nil=>simp at hlen
  |cons q qs=>
   obtain⟨f,od⟩:=q;cases od with
   |none=>simp[q_]at hf
   |some d=>
    simp only[q_,J6]at hf;split at hf;rename_i hb;simp only[aX,mR]at hb;obtain⟨hb,Ac⟩:=hb;have hb:=dw hb;obtain⟨i,v⟩:=p;obtain⟨hi,hv⟩:=hp 0 (i,v) (f,some d) d rfl rfl rfl;simp only at hi hv;subst hi;obtain⟨q1,q2⟩:=hq (i,some d) O;simp only at q1 q2;have FV:=jE hv (λds' e=>by rw[e]at Ac;cases Ac);simp only[Instr.fill,q1];rw[Z (by have h1:v.cells.size=bg P (Abs.fieldAt P t i).2:=(by rw[FV.1,hb]);simp only[h1,uS,wu,not_or];omega)];have hfold:v.cells.zipIdx.foldl (λcs (x:Value×Nat)=>cs.setIfInBounds ((Abs.fieldAt P t i).1+x.2) x.1) c=(aI c.toList (Abs.fieldAt P t i).1 v.cells.toList).toArray:=by rw[<-MT,Array.toList_zipIdx,JL];rfl
    have e0:(v.cells.zipIdx.foldl (λcs (x:Value×Nat)=>match x with|(c,j)=>cs.setIfInBounds ((Abs.fieldAt P t i).1+j) c) c)=(aI c.toList (Abs.fieldAt P t i).1 v.cells.toList).toArray:=hfold;rw[e0];refine Dp ps _ (aI ds (Abs.fieldAt P t i).1 (cells d)) qs r (t:=t) (by simp[aV,hl]) ?_ (by simpa using hlen) (λj p q d' h1 h2 h3=>hp (j+1) p q d' gK nE h3) hf (λq hq' => ?_);exact zK hl hr FV.1 FV.2;obtain⟨q1,q2⟩:=hq q (by simp[hq']);exact⟨q1,by rw[aV];exact q2⟩;cases hf
def H0(P:Program)(t:TypeId)(parts:Array (Nat×Operand)):Bool:=match mH P t with| .array _ e=>oI P e&&sF P t&&parts.toList.all λp=>Nat.ble (p.1*bg P e+bg P e) (bg P t)|_=>HR P t&&sF P t&&parts.toList.all λp=>xm P t p.1&&Nat.ble ((Abs.fieldAt P t p.1).1+bg P (Abs.fieldAt P t p.1).2) (bg P t)
def Pe(h:Rel cx g s a w)(hd:ji cx.n o.dst=true){t:TypeId}{parts:Array (Nat×Operand)}(ho:o.op= .build t parts)(hb:H0 P t parts=true){c:mN}(hk:aC P c o.dst s K (cu P o (cY P s))):o.wp P a w (fK cx g K) Q:=by
 simp only[cu,ho]at hk;have hz:sF P t=true:=by unfold H0 at hb;split at hb<;>(simp only[aX]at hb;exact hb.1.2)
 split at hk
 rotate_left
 exact aq;rename_i hagg;split at hk
 rotate_left
 exact aq;rename_i cs hcs;split at hk
 rotate_left
 exact aq;rename_i r hr;obtain⟨v0,z1,z2,z3⟩:=rP hz w;have hv0:=(bD.pure (g:=g) (z2 g.I));rw[hcs]at hv0 z3;obtain⟨zs,e1,e2,e3⟩:=hv0.yN;simp only[cells]at z3;have hparts:∀(i:Nat) (p:Nat×Value) (q:Nat×Option au) d,(parts.toList.map λp=>(p.1,a.eval p.2))[i]? =some p->(parts.toList.map λp=>(p.1,cY P s (Abs.fieldAt P t p.1).2 p.2))[i]? =some q->q.2=some d->p.1=q.1∧bD g p.2 d:=λi p q d h1 h2 h3=>by simp only[rI]at h1 h2;cases hi:parts.toList[i]? with|none=>rw[hi]at h1;cases h1|some x=>rw[hi]at h1 h2;simp only[wq,Fp]at h1 h2;subst h1 h2;exact⟨rfl,h.get h3⟩
 have epl:(parts.map λ(x:Nat×Operand)=>match x with|(i,x)=>(i,a.eval x)).toList=parts.toList.map λp=>(p.1,a.eval p.2):=O
 unfold fU at hagg;split at hagg
 rotate_left
 rename_i m e hu;unfold H0 at hb;rw[hu]at hb;simp only[aX]at hb;obtain⟨⟨hte,_⟩,hps⟩:=hb;obtain⟨c',f1,f2,f3⟩:=Dp (P:=P) (g:=g) (place:=λi=>some (i*bg P e,bg P e)) _ zs cs _ r (t:=t) e2 e3 O hparts hr (λq hq=>by obtain⟨p,hp,rfl⟩:=dV.1 hq;have hp1:=jW.1 hps p hp;refine⟨by simp[Abs.fieldAt,hu],by simp only[Abs.fieldAt,hu];rw[z3];exact pX hp1⟩);refine bJ (v:= .agg c') (w' :=w) ?_ (dK h hd (.agg f2 (λi v hv=> ?_) (λi v d hv hd=>(f3 i v d hv hd).1)) hk);simp[execOp,ho,Instr.build,z1,e1,jD hu O,iB hte,Value.cells,f1];exact Vo;cases hagg;rename_i fs hu;unfold H0 at hb;rw[hu]at hb;simp only[aX]at hb;obtain⟨⟨hfa,_⟩,hps⟩:=hb;have hall:fs.toList.all (λf=>oI P f.type)=true:=by unfold HR at hfa;rw[hu]at hfa;exact hfa
 obtain⟨c',f1,f2,f3⟩:=Dp (P:=P) (g:=g) (place:=λi=>Option.map (λf=>(f.offset,bg P f.type)) fs[i]?) _ zs cs _ r (t:=t) e2 e3 O hparts hr (λq hq=>by obtain⟨p,hp,rfl⟩:=dV.1 hq;have hp1:=jW.1 hps p hp;simp only[aX]at hp1;obtain⟨fs',x,u1,u2,u3,u4⟩:=xk hp1.1;rw[hu]at u1;cases u1;refine⟨by simp[u2,u3],by rw[z3];exact pX hp1.2⟩);refine bJ (v:= .agg c') (w' :=w) ?_ (dK h hd (.agg f2 (λi v hv=> ?_) (λi v d hv hd=>(f3 i v d hv hd).1)) hk);simp[execOp,ho,Instr.build,z1,e1,jD hu O,run_places hall,Value.cells,f1];exact Vo
def dS{sz:Nat}{l:List au}(h:∀e∈l,(cells e).length=sz):(l.flatMap cells).length=l.length*sz:=by induction l with|nil=>simp|cons x l ih=>simp only[mS,fx,fw,ih (λe he=>h e (mT _ he)),h x zo,rF];omega
def Mem.yr(m:Mem cx g s w){k:Nat}(h:s.R k=none):g.tv k=none:=by cases ht:g.tv k with|none=>rfl|some t=>obtain⟨r,hr⟩:=m.gE k t ht;rw[h]at hr;cases hr
def SE(h:Rel cx g s a w){k:Nat}(hk:s.R k=none){r:Row}(hz0:r.sz≠0){cap:Nat}{c:Array Value}{e:TypeId}{fz:Nat×Nat}(hs:∀e∈r.es,(cells e).length=r.sz)(hcap:r.es.length<=cap)(hc:cap*r.sz<=c.size)(hf:Im fz c.size r.own)(hown:r.own=true)(hr:∀j d,nth (r.es.flatMap cells) j=some d->∃v,c[j]? =some v∧bM g.I v d∧leaf v=true){s' :St}(hH:s'.H=s.H)(hR:s'.R=aW s.R k (some r))(he:s'.env=s.env):Ext g (g.row k (Tv.pl r.sz r.es.length (some w.heap.size) cap))∧Rel cx (g.row k (Tv.pl r.sz r.es.length (some w.heap.size) cap)) s' a (dN w (.cells c e fz)):=by
 have hx:Ext g (g.row k (Tv.pl r.sz r.es.length (some w.heap.size) cap)):=g.pz (.inl (h.mem.yr hk));refine⟨hx,λt d hd=>(h.env t d L9).mono hx,h.size,h.defers,?_⟩;have tV:∀j,g.I w.heap.size j=none:=R2
 refine h.mem.setRow (k:=k) (r:=r) (t:=(Tv.pl r.sz r.es.length (some w.heap.size) cap)) hx rfl rfl (λ_ _=>rfl) ?_ rfl rfl hs ?_ ?_ hH hR;exact Rm;refine⟨rfl,λ_ _=> ?_,λ_ e=>by(cases e),λe=>absurd e hz0,λe=>absurd e hz0⟩;refine⟨hcap,h.mem.new _ (cJ _),λl hl=>absurd (h.mem.vU hl) (fQ _),c,e,fz,dd _ _,hf,hc,λj _=>tV j,λ_ j=>tV j,λj d hd=> ?_⟩;obtain⟨v,v1,v2,v3⟩:=hr j d hd;exact⟨v,v1,v2,v3,λho=>A9⟩;intro b hb;have hb:=hb.plain rfl;cases hb;refine⟨λj u hj hu hub=>absurd (h.mem.kK hu hub).1 (fQ _),λo v hv=> ?_⟩;have:g.I w.heap.size o=some v:=hv;rw[tV o]at this;cases this
def DQ(h:Rel cx g s a w){t:Nat}(hd:ji cx.n (some t)=true)(hn:s.R t=none){sz cap:Nat}(hz0:sz≠0){es:List au}{c:Array Value}{e:TypeId}{fz:Nat×Nat}(hs:∀e∈es,(cells e).length=sz)(hcap:es.length<=cap)(hc:cap*sz<=c.size)(hf:Im fz c.size true)(hr:∀j d,nth (es.flatMap cells) j=some d->∃v,c[j]? =some v∧bM g.I v d∧leaf v=true)(hk:K {env:=aW s.env t (some (.ref t es.length)),H:=s.H,hn:=s.hn,R:=aW s.R t (some ⟨sz,true,es⟩),rn:=t::s.rn,y:=s.y}):fK cx g K (a.put (some t) (.slice (some ⟨w.heap.size,0,none⟩) es.length cap)) (dN w (.cells c e fz)):=by obtain⟨h1,h2⟩:=SE (r:=⟨sz,true,es⟩) h hn hz0 hs hcap hc hf rfl hr (s' :={env:=s.env,H:=s.H,hn:=s.hn,R:=aW s.R t (some ⟨sz,true,es⟩),rn:=t::s.rn,y:=s.y}) (e:=e) rfl rfl rfl;refine⟨_,_,hk,h1,?_⟩;exact h2.put hd (.ref (Tv.pl sz es.length (some w.heap.size) cap) qD (cJ _) (λ_=>rfl) ⟨_,_,rfl⟩)
def adu(P:Program)(t:TypeId):Bool:=match mH P t with| .slice e=>oI P e&&sF P e&&(match ti P e with|some i=>Nat.ble i.bytes 1024|none=>false)|_=>false
def bM.ai7{I:Nat->Nat->Option Value}{v:Value}{y:Nat}{b:Bool}(r:bM I v (.sl y [] b)):bM I v (.sl y [] false):=akk
theorem Ed(h:Rel cx g s a w)(hd:ji cx.n o.dst=true){t:TypeId}{x y:Operand}(ho:o.op= .makeSlice t x y)(hb:adu P t=true){c:mN}(hk:aC P c o.dst s K (cu P o (cY P s))):o.wp P a w (fK cx g K) Q:=by
 unfold adu at hb;split at hb
 rotate_left
 cases hb;rename_i e hu;simp only[aX]at hb;obtain⟨⟨hte,hz⟩,hbt⟩:=hb;split at hbt
 rotate_left
 cases hbt;rename_i i hi;have hbt:=pX hbt;simp only[cu,ho]at hk;split at hk
 rotate_left
 exact aq;rename_i e' n m hu' hx hy;rw[hu]at hu';cases hu';have ex:=(h.get hx).gC;have ey:=(h.get hy).gC;simp only[aC]at hk;cases hdst:o.dst with
 |none=>rw[hdst]at hk;exact aq
 |some u=>
  rw[hdst]at hk;dsimp only at hk;have hz0:bg P e≠0:=λe0=>by rw[e0]at hk;exact hk
  rw[H4 hz0]at hk;dsimp only at hk;cases hr:s.R u with
  |some r=>exact nB
  |none=>
   rw[hr]at hk;dsimp only at hk;obtain⟨v0,z1,z2,z3⟩:=rP hz w;have fin:∀{z:au},(cells z).length=bg P e->(∀I,bM I v0 z)->kQ (n=m∧0<=n∧n<=2^20) (K {env:=aW s.env u (some (.ref u n.toNat)),H:=s.H,hn:=s.hn,R:=aW s.R u (some ⟨bg P e,true,List.replicate n.toNat z⟩),rn:=u::s.rn,y:=s.y})->o.wp P a w (fK cx g K) Q:=by
    intro z hzl hzr hk2;obtain⟨⟨hnm,hn0,hn1⟩,hk3⟩:=hk2;subst hnm;have hcz:=mX (hzr (λ_ _=>none));obtain⟨cs,hcs⟩:∃cs:Array Value,cs=(Array.range (n.toNat*bg P e)).map λj=>(if n.toNat*bg P e=0 then #[]else v0.cells)[j%(if n.toNat*bg P e=0 then(#[]:Array Value)else v0.cells).size]! :=⟨_,rfl⟩;have hcsz:cs.size=n.toNat*bg P e:=by rw[hcs];simp
    have hlen:(List.replicate n.toNat z).length=n.toNat:=O;have hwrap:IntKind.i64.wrap n=n:=Ux
    refine bJ (v:= .slice (some ⟨w.heap.size,0,none⟩) n.toNat n.toNat) (w' :=dN w (.cells cs e (0,0))) ?_ ?_;have hroom:¬n.toNat*i.bytes>roomBytes:=(by have:n.toNat*i.bytes<=2^20*1024:=Bf E hbt;unfold roomBytes;omega);have h48:¬((i.bytes:Int)*n>2^48):=by
     have h1:((n.toNat*i.bytes:Nat):Int)<=2^20*1024:=(by have:n.toNat*i.bytes<=2^20*1024:=Bf E hbt;omega);have h2:((n.toNat*i.bytes:Nat):Int)=(i.bytes:Int)*n:=by rw[Int.natCast_mul,Int.mul_comm,Bm hn0]
     omega
    have hlt:¬n<0:=E;simp only[execOp,ho,ex,ey,Instr.makeSlice,Sem.run_bind,jD hu O,Result.andThen_ok,asInt,asIntOf,Sem.run_pure,run_typeInfo (ve hi),hwrap];rw[Z (by simp[hlt];omega)];simp only[askRoom,Z hroom,Sem.run_bind,Sem.run_pure,Result.andThen_ok,iB hte];rw[hcs];by_cases h0:n.toNat*bg P e=0;simp[h0,newRow,dN];simp[h0,z1,newRow,dN];rw[hdst]at hd ⊢;have:=DQ (K:=K) (a:=a) (s:=s) (g:=g) (e:=e) (cap:=n.toNat) (es:=List.replicate n.toNat z) (sz:=bg P e) (c:=cs) (fz:=(0,0)) h hd hr hz0 (λd hd=>aa0) (by rw[hlen];exact tF) (by rw[hcsz];exact tF) ⟨λ_ _=>O,λ_ _ _=>O⟩ (λj d hd=> ?_) (by rw[hlen];exact hk3);rw[hlen]at this;exact dj;have hz1' :∀e' ∈List.replicate n.toNat z,(cells e').length=bg P e:=λd hd=>aa0;have hj:=aH hd;rw[dS hz1',hlen]at hj;have hpos:0<bg P e:=Nat.pos_of_ne_zero hz0;have hq:j / bg P e<n.toNat:=M5 Vz;have hm:j%bg P e<bg P e:=A' _ hpos;have hfl:=gZ (List.replicate n.toNat z) (bg P e) (j / bg P e) (j%bg P e) z hz1' (by rw[aJ];simp[hq]) hm;rw[show j / bg P e*bg P e+j%bg P e=j by rw[Bc];exact Nat.div_add_mod j _,hd]at hfl;have h0:n.toNat*bg P e≠0:=E
    have hsz:v0.cells.size=bg P e:=hcz.1.trans hzl;have hcj:cs[j]? =some (v0.cells[j%bg P e]'(by rw[hsz];exact hm)):=by rw[hcs];simp[h0,hj,hsz,hm]
    have hv0:v0.cells[j%bg P e]? =some (v0.cells[j%bg P e]'(by rw[hsz];exact hm)):=kJ _;obtain⟨r1,r2⟩:=(mX (hzr g.I)).2 _ _ _ hv0 hfl.symm;exact⟨_,hcj,r1,r2⟩
   split at hk;exact fin (by rename_i hzz;rw[<-z3,hzz];rfl) (λI=>by rename_i hzz;have:=z2 I;rw[hzz]at this;exact this.ai7) hk;exact fin z3 z2 hk
def sliceB(P:Program)(t:TypeId)(n:Nat):Bool:=match mH P t with| .slice e=>oI P e&&sF P e&&Nat.ble (n*bg P e) (2^24)|_=>false
theorem y8{sz:Nat}:∀{i:Nat} {l:List (Nat×Option au)} {es:List au},ue sz i l=some es->l.length=es.length∧(∀e∈es,(cells e).length=sz∧P5 e=false)∧∀(j:Nat) p,l[j]? =some p->p.1=i+j∧∃d,p.2=some d∧nth es j=some d
 |i,[],es,h=>by simp[ue]at h;subst h;exact⟨rfl,O,O⟩
 |i,(j,some d)::rest,es,h=>by
  simp only[ue]at h;split at h;rename_i hb;simp only[aX,mR]at hb;obtain⟨⟨b1,b2⟩,b3⟩:=hb;have b1:=dw b1;have b2:=dw b2;split at h;rename_i l hl;cases h;obtain⟨h1,h2,h3⟩:=y8 hl;refine⟨uI,?_,?_⟩;intro e he;rcases b_.1 he with rfl|he;exact⟨b2,b3⟩;exact h2 e he;intro q p hp;cases q with|zero=>simp at hp;subst hp;exact⟨by simp[b1],d,rfl,rfl⟩|succ q=>obtain⟨e1,d',e2,e3⟩:=h3 q p qp;exact⟨by rw[e1];omega,d',e2,e3⟩
  cases h;cases h
 |i,(_,none)::_,es,h=>by simp[ue]at h
theorem Qr{sz:Nat}:∀(ps:List (Nat×Value)) (es:List au) (i:Nat) (c:Array Value) (ds:List au),ps.length=es.length->(∀e∈es,(cells e).length=sz)->(∀(j:Nat) p d,ps[j]? =some p->nth es j=some d->p.1=i+j∧bM g.I p.2 d)->ds.length=i*sz->(i+es.length)*sz<=c.size->(∀(j:Nat) v x,c[j]? =some v->nth ds j=some x->bM g.I v x∧leaf v=true)->∃c',Instr.fill (λi=>some (i*sz,sz)) c ps=some c' ∧c'.size=c.size∧∀(j:Nat) v x,c'[j]? =some v->nth (ds++es.flatMap cells) j=some x->bM g.I v x∧leaf v=true
 |[],es,i,c,ds,hl,_,_,_,_,hc=>by
  have:es=[]:=by cases es with|nil=>rfl|cons=>simp at hl
  subst this;exact⟨c,rfl,rfl,by simpa using hc⟩
 |p::ps,es,i,c,ds,hl,hs,hp,hd,hlen,hc=>by
  cases es with
  |nil=>simp at hl
  |cons e es=>
   obtain⟨q,v⟩:=p;obtain⟨h1,h2⟩:=hp 0 (q,v) e rfl rfl;simp only[kH]at h1 h2;subst h1;have FV:=mX h2;have hse:=hs e O;simp only[fw]at hlen;have hsp:q*sz+sz<=c.size:=by have:q*sz+sz<=(q+(es.length+1))*sz:=T5;omega
   simp only[Instr.fill];rw[Z (by simp only[FV.1,hse,uS,wu,not_or];omega)];have e0:(v.cells.zipIdx.foldl (λcs (x:Value×Nat)=>match x with|(c,j)=>cs.setIfInBounds (q*sz+j) c) c)=(aI c.toList (q*sz) v.cells.toList).toArray:=by have:=JL v.cells.toList (q*sz) 0 c;rw[<-MT,Array.toList_zipIdx];exact dj
   rw[e0];obtain⟨c',k1,k2,k3⟩:=Qr ps es (q+1) ((aI c.toList (q*sz) v.cells.toList).toArray) (ds++cells e) qt (λe he=>hs e (by simp[he]))
    (λj p d h1 h2=>by have:=hp (j+1) p d gK xM;exact⟨by rw[this.1];omega,this.2⟩) (by rw[fx,hd,hse,rF]) (by simp[aV];rw[show q+1+es.length=q+(es.length+1) by omega];exact hlen)
    (λj u x hu hx=>by have hu' :nth (aI c.toList (q*sz) v.cells.toList) j=some u:=Vx;rw[fA]at hu';simp only[rJ]at hu';rw[aJ,Bn,<-aJ,<-aJ]at hx;by_cases hj:j<ds.length;rw[ak hj]at hx;rw[Z E]at hu';exact hc j u x KT hx;rw[Z hj]at hx;have hlt:=aH hx;rw[ak (by rw[FV.1];omega)]at hu';refine FV.2 (j - ds.length) u x ?_ hx;rw[aJ]at hu';rw[hd];simpa using hu')
   refine⟨c',k1,by rw[k2];simp[aV],λj u x hu hx=>k3 j u x hu ?_⟩;simpa[rH]using hx
theorem C3(h:Rel cx g s a w)(hd:ji cx.n o.dst=true){t:TypeId}{n:Nat}{parts:Array (Nat×Operand)}(ho:o.op= .buildSlice t n parts)(hb:sliceB P t n=true){c:mN}(hk:aC P c o.dst s K (cu P o (cY P s))):o.wp P a w (fK cx g K) Q:=by
 unfold sliceB at hb;split at hb
 rotate_left
 cases hb;rename_i e hu;simp only[aX]at hb;obtain⟨⟨hte,hz⟩,h24⟩:=hb;have h24:=pX h24;have hel:=QE hu;simp only[cu,ho]at hk;split at hk
 rotate_left
 exact aq;rename_i hlen;have hlen:=dw hlen;split at hk
 rotate_left
 exact aq;rename_i es hes;rw[hel]at hes hk;obtain⟨r1,r2,r3⟩:=y8 hes;simp only[aC]at hk;cases hdst:o.dst with
 |none=>rw[hdst]at hk;exact aq
 |some u=>
  rw[hdst]at hk;dsimp only at hk;cases hh:c.hint (40000+u)with
  |cons _ _=>
   rw[hh]at hk;dsimp only at hk;split at hk
   rotate_left
   exact aq;rename_i q m hsz;have hs1:bg P e=1:=dw hsz;obtain⟨x,hx1,hx2⟩:∃x,parts.toList=[(0,x)]∧cY P s e x=some (.ref q m):=by
    cases hp:parts.toList with
    |nil=>rw[hp]at r1;cases r1
    |cons y ys=>
     rw[hp]at r1 r3;have:ys=[]:=by cases ys with|nil=>rfl|cons=>simp at r1
     subst this;obtain⟨e1,d0,e2,e3⟩:=r3 0 _ rfl;cases e3;obtain⟨y1,y2⟩:=y;have e1:y1=0:=e1;subst e1;exact⟨y2,rfl,e2⟩
   have hn1:n=1:=(by rw[<-hlen,hx1];rfl);have hpa:parts= #[(0,x)]:=by apply nI;rw[hx1]
   have hv:=h.get hx2;obtain⟨_,_,_,_,a1,c1,hvs⟩:=hv.nS;have hl1:leaf (a.eval x)=true:=by rw[hvs];rfl
   have hcl:(a.eval x).cells= #[a.eval x]:=(by rw[hvs];rfl);obtain⟨v0,z1,z2,z3⟩:=rP hz w;obtain⟨g',he,hm,hI⟩:=h.mem.ada (e:=e) hv (λi y hy=>by rw[hcl]at hy;cases i with|zero=>cases hy;exact hl1|succ i=>cases hy);have z0:=(mX (z2 (λ_ _=>none))).1;rw[z3,hs1]at z0;refine bJ (v:= .slice (some ⟨w.heap.size,0,none⟩) 1 1) (w' :=dN w (.cells (a.eval x).cells e (0,0))) ?_ ?_;subst hn1;subst hpa;simp only[execOp,ho,Instr.buildSlice,Sem.run_bind,jD hu O,Result.andThen_ok,iB hte,hs1];simp[z1,Instr.fill,hcl,newRow,dN];congr 2;refine Array.ext O λi h1 h2=> ?_;have:i=0:=xH
   subst this;simp;rw[hdst]at hd ⊢;refine⟨_,g',hk,he,?_⟩;refine Rel.put ⟨λy d hd=>(h.env y d hd).mono he,h.size,h.defers,hm⟩ hd (.lit (a.eval x) (by rw[hI,hcl];rfl) hl1 (hv.mono he))
  |nil=>
  rw[hh]at hk;dsimp only at hk;obtain⟨s1,es1,g1,k1,l1,n1,q1⟩:=pB es h hk;have hz0:bg P e≠0:=λe0=>by rw[e0]at k1;exact k1
  have hzb:Nat.beq (bg P e) 0=false:=H4 hz0;rw[hzb]at k1;dsimp only at k1;cases hr:s1.R u with
  |some r=>rw[hr]at k1;exact iN
  |none=>
   rw[hr]at k1;dsimp only at k1;obtain⟨v0,z1,z2,z3⟩:=rP hz w;have hn:es1.length=n:=by rw[n1,<-r1];simpa using hlen
   have hs1:∀x∈es1,(cells x).length=bg P e:=by
    intro x hx;obtain⟨i,hi⟩:=pW.1 hx;have hi' :i<es.length:=by rw[<-n1];exact(rK.1 hi).1
    obtain⟨y,hy⟩:=bO hi';obtain⟨d',e1,e2,_⟩:=q1 i y hy;rw[aJ,hi]at e1;cases e1;rw[e2];exact(r2 y (gu hy)).1
   obtain⟨c',f1,f2,f3⟩:=Qr (g:=g1) (sz:=bg P e) (parts.toList.map λp=>(p.1,a.eval p.2)) es1 0
    (((Array.range (n*bg P e)).map λi=>(if n*bg P e=0 then #[]else v0.cells)[i%(if n*bg P e=0 then(#[]:Array Value)else v0.cells).size]!)) [] (by simp[hn,hlen]) hs1
    (λj p d hp hd=>by simp only[rI]at hp;cases hj:parts.toList[j]? with|none=>rw[hj]at hp;cases hp|some x=>rw[hj]at hp;simp only[wq,Fp]at hp;subst hp;obtain⟨e1,d0,e2,e3⟩:=r3 j _ (by rw[rI,hj];rfl);obtain⟨d',e4,_,e5⟩:=q1 j d0 e3;rw[hd]at e4;cases e4;exact⟨e1,e5 _ (h.get e2)⟩) O uH ES
   refine bJ (v:= .slice (some ⟨w.heap.size,0,none⟩) n n) (w' :=dN w (.cells c' e (0,0))) ?_ ?_;have e0:(parts.map λ(x:Nat×Operand)=>match x with|(i,x)=>(i,a.eval x)).toList=parts.toList.map λp=>(p.1,a.eval p.2):=O;by_cases h0:n*bg P e=0;rw[h0]at f1;simp only[jX,Array.range,Array.ofFn_zero,Array.map_empty]at f1;have av0 :¬0>2^24:=E
   simp only[execOp,ho,Instr.buildSlice,Sem.run_bind,jD hu O,Result.andThen_ok,iB hte,h0,jX,e0];rw[Z av0];simp only[Sem.run_bind,Sem.run_pure,Result.andThen_ok,Array.range,Array.ofFn_zero,Array.map_empty,f1];simp[newRow,dN];rw[Z h0]at f1;simp only[execOp,ho,Instr.buildSlice,Sem.run_bind,jD hu O,Result.andThen_ok,iB hte,h0,jZ,e0];rw[Z E];simp[z1,f1,newRow,dN];rw[hdst]at hd ⊢;have:=DQ (K:=K) (a:=a) (s:=s1) (g:=g1) (e:=e) (cap:=n) (es:=es1) (sz:=bg P e) (c:=c') (fz:=(0,0)) l1.rel hd hr hz0 hs1 E (by rw[f2];simp) ⟨λ_ _=>O,λ_ _ _=>O⟩ (λj d hd=> ?_) k1;obtain⟨s2,g2,p1,p2,p3⟩:=this;rw[hn]at p3;exact⟨s2,g2,p1,l1.ext.trans p2,p3⟩;have hj:j<c'.size:=(by have h1:=aH hd;rw[dS hs1,hn]at h1;rw[f2];exact gK);exact⟨c'[j],sH,f3 j c'[j] d sH (by simpa using hd)⟩
end
def mU:=@List.getElem?_toArray
def Z9(h:G:=by cases vs with|nil=>rfl|cons=>simp at hl):=h
def VT(h:G:=by apply nI;simpa using e1):=h
def T7(h:G:=by exact h2 i v d (by exact lK) (by simpa[nth]using hdd)):=h
def TX(h:G:=by simp at hv;simp[nth]at hdd;subst hv hdd;exact h.get hx):=h
section
variable{P:Program}{cx:Cx}{g:Gh}{s:St}{a:Act}{w:World}{o:Oper}{K:St->Prop}{Q:Go.Exit->Act->World->Prop}
theorem DO(h:Rel cx g s a w){d:au}{K' :List au->Prop}(hk:lq s d K'){v:Value}(hv:bD g v d)(hns:∀l,d≠.str l){sz:Nat}(hz:gO s sz d=true):∃es,K' es∧(∃a cap,v= .slice a es.length cap)∧(∀e∈es,(cells e).length=sz)∧(es≠[]->∃b o cap,v= .slice (some ⟨b,o,none⟩) es.length cap∧∀j x,nth (es.flatMap cells) j=some x->∃u,w.cell? ⟨b,o+j,none⟩=some u∧bM g.I u x∧leaf u=true):=by
 cases d with
 |sl z es nl=>have hz:z=sz:=dw hz;subst hz;have h1:=hv.vh;obtain⟨⟨p,cap,e1⟩,h2⟩:=h1.vh;refine⟨es,hk,⟨p,cap,e1⟩,?_,λhne=> ?_⟩;by_cases hne:es=[];subst hne;simp;obtain⟨_,_,_,_,f,hs,_⟩:=h2 hne;exact hs;obtain⟨b,ob,cap',e2,f,hs,hf⟩:=h2 hne;refine⟨b,ob,cap',e2,λj x hx=>⟨f j,(h.mem.iw _ _ _ (hf j x hx).1).1,(hf j x hx).2,(h.mem.iw _ _ _ (hf j x hx).1).2⟩⟩
 |ref k n=>
  simp only[lq]at hk;cases hr:s.R k with
  |none=>exact nB
  |some r=>
   rw[hr]at hk;have hz0:=(qW hr hz).2;have hz:r.sz=sz:=(qW hr hz).1;obtain⟨tv,t1,t2,t3,t4,t5,t6⟩:=h.mem.pA hv hr hk.h;have t6:=t6.o hz0;refine⟨r.es,hk.k,?_,L8,λhne=> ?_⟩;rw[t4];unfold Tv.value;cases hb:tv.base with|none=>unfold jv at t6;rw[hb]at t6;dsimp only at t6 ⊢;rw[t6.1];exact Az|some b=>rw[<-t3];exact Az
   unfold jv at t6;cases hb:tv.base with|none=>rw[hb]at t6;exact absurd t6.1 hne|some b=>rw[hb]at t6;obtain⟨_,_,_,cc,e,fz,c1,c2,c3,c4,c5,c6⟩:=t6;refine⟨b,0,tv.cap,by rw[t4];unfold Tv.value;rw[hb,t3],λj x hx=> ?_⟩;obtain⟨u,u1,u2,u3,_⟩:=c6 j x hx;exact⟨u,by rw[ep c1,eI];exact u1,u2,u3⟩
 |str l=>exact absurd rfl (hns l)|_=>exact aq
theorem lW(h:Rel cx g s a w):∀{l:List Operand} {ts:List TypeId} {ds:List au},jj (iu (cY P s) l ts)=some ds->(l.map a.eval).length=ds.length∧∀(i:Nat) v d,(l.map a.eval)[i]? =some v->nth ds i=some d->bD g v d
 |[],ts,ds,hd=>by cases ts<;>(simp[iu,jj]at hd;subst hd;exact⟨rfl,O⟩)
 |x::l,t::ts,ds,hd=>by
  simp only[iu]at hd;cases hx:cY P s t x with
  |none=>rw[hx]at hd;simp[jj]at hd
  |some d0=>
   rw[hx]at hd;simp only[jj]at hd;split at hd;rename_i ys hy;cases hd;obtain⟨h1,h2⟩:=lW h hy;refine⟨gK,λi v d hv hdd=> ?_⟩;cases i with|zero=>exact TX|succ i=>exact T7
   cases hd
 |x::l,[],ds,hd=>by
  simp only[iu]at hd;cases hx:cY P s 0 x with
  |none=>rw[hx]at hd;simp[jj]at hd
  |some d0=>
   rw[hx]at hd;simp only[jj]at hd;split at hd;rename_i ys hy;cases hd;obtain⟨h1,h2⟩:=lW h hy;refine⟨gK,λi v d hv hdd=> ?_⟩;cases i with|zero=>exact TX|succ i=>exact T7
   cases hd
def sU{b:Builtin}{c:Call}(hc:c.callee= .builtin b)(ho:o.op= .call c)(a:Act):∃q,execOp a.eval o=builtin b c.argTypes o.type q (c.args.map a.eval):=⟨c.args.map fun| .const _=>true|_=>false,by simp[execOp,ho,resolve,hc,invoke];rfl⟩
def yy{l:List Value}{ds:List au}{d:au}(h:l.length=ds.length∧∀(i:Nat) v d,l[i]? =some v->nth ds i=some d->bD g v d)(hd:ds=[d]):∃v,l=[v]∧bD g v d:=by subst hd;cases l with|nil=>simp at h|cons v l=>cases l with|nil=>exact⟨v,rfl,h.2 0 v d rfl rfl⟩|cons=>simp at h
def OY{l:List Value}{ds:List au}{d e:au}(h:l.length=ds.length∧∀(i:Nat) v d,l[i]? =some v->nth ds i=some d->bD g v d)(hd:ds=[d,e]):∃v u,l=[v,u]∧bD g v d∧bD g u e:=by subst hd;match l,h with|[v,u],h=>exact⟨v,u,rfl,h.2 0 v d rfl rfl,h.2 1 u e rfl rfl⟩|[],h=>simp at h|[_],h=>simp at h|_::_::_::_,h=>simp at h
def bD.amk{z:Nat}{es:List au}{nl:Bool}{v:Value}(r:bD g v (.sl z es nl)):∃p cap,v= .slice p es.length cap:=r.vh.vh.1
theorem PM:∀(l:List au) (vs:List Value) (k:IntKind) (x r:Int),vs.length=l.length->(∀(i:Nat) v d,vs[i]? =some v->nth l i=some d->bD g v d)->X8 x l=some r->(vs.foldlM Builtin.min2 (.int k x)).run P w= .ok (.int k r) w
 |[],vs,k,x,r,hl,_,h=>by
  have:vs=[]:=Z9
  subst this;simp[X8]at h;subst h;simp
 |d::l,vs,k,x,r,hl,hr,h=>by cases vs with|nil=>simp at hl|cons v vs=>cases d with|int k' b=>have hv:=(hr 0 v _ rfl rfl).gC;simp only[X8]at h;have ih:=PM l vs k _ r qt (λi v d h1 h2=>hr (i+1) v d gK xM) h;simp only[List.foldlM_cons,hv,Builtin.min2,Sem.run_bind,Sem.run_pure,Result.andThen_ok];exact ih|_=>simp[X8]at h
theorem PS:∀(l:List au) (vs:List Value) (k:IntKind) (x r:Int),vs.length=l.length->(∀(i:Nat) v d,vs[i]? =some v->nth l i=some d->bD g v d)->Yc x l=some r->(vs.foldlM Builtin.max2 (.int k x)).run P w= .ok (.int k r) w
 |[],vs,k,x,r,hl,_,h=>by
  have:vs=[]:=Z9
  subst this;simp[Yc]at h;subst h;simp
 |d::l,vs,k,x,r,hl,hr,h=>by cases vs with|nil=>simp at hl|cons v vs=>cases d with|int k' b=>have hv:=(hr 0 v _ rfl rfl).gC;simp only[Yc]at h;have ih:=PS l vs k _ r qt (λi v d h1 h2=>hr (i+1) v d gK xM) h;simp only[List.foldlM_cons,hv,Builtin.max2,Sem.run_bind,Sem.run_pure,Result.andThen_ok];exact ih|_=>simp[Yc]at h
theorem JK{c:Call}{t:TypeId}(ht:c.argTypes.toList.headD 0=t)(hne:c.argTypes.size≠0):c.argTypes[0]? =some t:=by
 cases h:c.argTypes.toList with
 |nil=>exact absurd (by simpa using aL List.length h) hne
 |cons x l=>
  rw[h]at ht;simp at ht;subst ht;have:c.argTypes[0]? =c.argTypes.toList[0]? :=O
  rw[this,h];rfl
def Xx(h:Rel cx g s a w)(hd:ji cx.n o.dst=true){c:Call}(hc:c.callee= .builtin .len)(ho:o.op= .call c)(hn:c.argTypes.size≠0){cf:mN}(hk:aC P cf o.dst s K (cu P o (cY P s))):o.wp P a w (fK cx g K) Q:=by
 simp only[cu,ho,mF,hc]at hk;split at hk;exact aq;rename_i ds hds;have hev:=lW h hds;obtain⟨q,hrun⟩:=sU hc ho a;have h0:=JK (c:=c) rfl hn;generalize c.argTypes.toList.headD 0=T at*;have hgo:∀{v u:Value} {d e:au},c.args.toList.map a.eval=[v]->(Builtin.len_ c.argTypes o.type #[v]).run P w= .ok u w->bD g u e->K (s.put o.dst e)->o.wp P a w (fK cx g K) Q:=by
  intro v u d e e1 e2 e3 e4;refine bJ (v:=u) (w' :=w) ?_ (dK h hd e3 e4);have ea:c.args.map a.eval= #[v]:=VT
  rw[hrun,ea];simp[builtin,e2]
 split at hk;rename_i hu;obtain⟨v,e1,e2⟩:=yy hev rfl;obtain⟨p,cap,e3⟩:=e2.amk;refine hgo (d:= .any) e1 ?_ (.pure (.int _ _)) hk;simp[Builtin.len_,h0,jD hu O,e3,goInt];rename_i hu;obtain⟨v,e1,e2⟩:=yy hev rfl;obtain⟨_,_,_,_,p,cap,e3⟩:=e2.nS;refine hgo (d:= .any) e1 ?_ (.pure (.int _ _)) hk;simp[Builtin.len_,h0,jD hu O,e3,goInt];rename_i hu;obtain⟨v,e1,e2⟩:=yy hev rfl;obtain⟨_,_,_,_,_,p,cap,e3⟩:=e2.wV;refine hgo (d:= .any) e1 ?_ (.pure (.int _ _)) hk;simp[Builtin.len_,h0,jD hu O,e3,goInt];rename_i hu;obtain⟨v,e1,e2⟩:=yy hev rfl;obtain⟨_,_,_,⟨p,cap,e3⟩,_⟩:=e2.V_;refine hgo (d:= .any) e1 ?_ (.pure (.int _ _)) hk;simp[Builtin.len_,h0,jD hu O,e3,goInt];rename_i hu;obtain⟨v,e1,e2⟩:=yy hev rfl;refine hgo (d:= .any) e1 ?_ (.pure (.int _ _)) hk;rw[e2.pw];simp only[Builtin.len_,h0,mU,List.getElem?_cons_zero,Sem.run_bind,jD hu O,Result.andThen_ok];rfl;rename_i hu;obtain⟨v,e1,e2⟩:=yy hev rfl;simp only[aC]at hk;split at hk;rename_i row hr;split at hk;obtain⟨_,t,b,es,clock,_,_,_,_,hv,_,_,_,_,hb,hm⟩:=h.mem.NS e2 hr;refine hgo (d:= .any) (u:=goInt es.size) e1 ?_ (.pure (.int _ _)) (by rw[<-hm.rep.len]at hk;simpa using hk);subst hv;simp only[Builtin.len_,h0,mU,List.getElem?_cons_zero,Sem.run_bind,jD hu O,Result.andThen_ok,mW hb];rfl;exact aq;exact aq;exact aq
def Jd(h:Rel cx g s a w)(hd:ji cx.n o.dst=true){c:Call}(hc:c.callee= .builtin .min∨c.callee= .builtin .max)(ho:o.op= .call c){cf:mN}(hk:aC P cf o.dst s K (cu P o (cY P s))):o.wp P a w (fK cx g K) Q:=by
 rcases hc with hc|hc;all_goals
  simp only[cu,ho,mF,hc]at hk;split at hk;exact aq;rename_i ds hds;have hev:=lW h hds;obtain⟨q,hrun⟩:=sU hc ho a;split at hk
  rotate_left
  exact aq;rename_i k x rest;split at hk
  rotate_left
  exact aq;rename_i r hr;have hl:∃vs,c.args.toList.map a.eval= .int k x::vs∧vs.length=rest.length∧∀(i:Nat) v d,vs[i]? =some v->nth rest i=some d->bD g v d:=by obtain⟨h1,h2⟩:=hev;cases hm:c.args.toList.map a.eval with|nil=>rw[hm]at h1;simp at h1|cons v vs=>rw[hm]at h1 h2;refine⟨vs,by rw[(h2 0 v _ rfl rfl).gC],gK,λi v d h3 h4=>h2 (i+1) v d qv (by simpa[nth]using h4)⟩
  obtain⟨vs,e1,e2,e3⟩:=hl;have ea:(c.args.map a.eval).toList= .int k x::vs:=by simpa using e1
  refine bJ (v:= .int k r) (w' :=w) ?_ (dK h hd (.pure (.int _ _)) hk);rw[hrun]
 simp only[builtin,Sem.run_bind,Builtin.min_,ea,PM rest vs k x r e2 e3 hr,Result.andThen_ok,Sem.run_pure];simp only[builtin,Sem.run_bind,Builtin.max_,ea,PS rest vs k x r e2 e3 hr,Result.andThen_ok,Sem.run_pure]
end
def oG:=@List.take_of_length_le
def l7:=@List.length_take
def pV:=@List.mem_of_mem_take
def CQ:=@List.take_append_drop
def u9:=@Option.getD_some
def Bl:=@List.flatMap_append
def yk:=@Nat.min_eq_left
def M0:=@List.mem_of_mem_drop
section
variable{P:Program}{cx:Cx}{g:Gh}{s:St}{a:Act}{w:World}{o:Oper}{K:St->Prop}{Q:Go.Exit->Act->World->Prop}
def Yw{sz:Nat}{es:List au}(h:∀e∈es,(cells e).length=sz)(n j:Nat)(hj:j<n*sz):nth ((es.take n).flatMap cells) j=nth (es.flatMap cells) j:=by
 have e:es.flatMap cells=(es.take n).flatMap cells++(es.drop n).flatMap cells:=by
  conv=>lhs;rw[<-CQ n es]
  rw[Bl]
 rw[e,aJ,aJ];rcases jl j ((es.take n).flatMap cells).length with h1|h1;rw[lj h1];rw[jn h1,Bq h1];symm;have h2:=dS (l:=es.take n) (λe he=>h e (pV he));have h3:(es.take n).length=min n es.length:=l7;rw[h2,h3]at h1;have h4:es.length<=n:=by rcases Nat.le_total es.length n with h5|h5;exact h5;rw[yk h5]at h1;omega
 rw[zu h4];simp
def Yy{sz:Nat}{es:List au}(h:∀e∈es,(cells e).length=sz)(n j:Nat)(hn:n<=es.length):nth ((es.drop n).flatMap cells) j=nth (es.flatMap cells) (n*sz+j):=by
 have e:es.flatMap cells=(es.take n).flatMap cells++(es.drop n).flatMap cells:=by
  conv=>lhs;rw[<-CQ n es]
  rw[Bl]
 have h2:=dS (l:=es.take n) (λe he=>h e (pV he));have h3:(es.take n).length=n:=by rw[l7];exact yk hn
 rw[h3]at h2;rw[e,aJ,aJ,jn (by rw[h2];omega),h2];congr 1;omega
theorem afz{α:Type}(es:List α)(lo hi:Option Int)(h:0<=lo.getD 0∧lo.getD 0<=hi.getD es.length∧hi.getD es.length<=es.length):cut es lo hi=(es.drop (lo.getD 0).toNat).take ((hi.getD (es.length:Int)).toNat - (lo.getD 0).toNat):=by
 cases lo with
 |none=>cases hi with|none=>simp[cut]|some b=>simp[cut]
 |some a=>cases hi with|none=>simp only[cut,u9,Option.getD_none,oF];rw[oG O]|some b=>simp only[u9]at h;simp only[cut,u9];congr 1;omega
theorem ahp{I:Nat->Nat->Option Value}{sz:Nat}{es:List au}{v:Value}(r:bM I v (.sl sz es false)){l n:Nat}(h1:l<=n)(h2:n<=es.length):∃p cap,v= .slice p es.length cap∧es.length<=cap∧bM I (.slice (if cap=l then p else p.map (·.add (l*sz))) (n - l) (cap - l)) (.sl sz ((es.drop l).take (n - l)) false):=by
 cases r with
 |slnil=>
  have e1:l=0:=xH
  have e2:n=0:=xH
  subst e1 e2;exact⟨none,0,rfl,cJ _,.slnil _ _⟩
 |sl0 p cap=>
  have e1:l=0:=xH
  have e2:n=0:=xH
  subst e1 e2;exact⟨p,cap,rfl,dM _,.sl0 _ _ _⟩
 |sl b ob cap _ _ f hc hs hi hr=>
  refine⟨_,_,rfl,hc,?_⟩;by_cases hcl:cap=l;have e1:n=l:=E;subst e1;rw[ak hcl,lZ];simp only[List.take_zero];exact Ay;rw[Z hcl];have hs' :∀e∈(es.drop l).take (n - l),(cells e).length=sz:=λe he=>hs e (M0 (pV he));have hl:((es.drop l).take (n - l)).length=n - l:=az
  have key:∀j d,nth (((es.drop l).take (n - l)).flatMap cells) j=some d->nth (es.flatMap cells) (l*sz+j)=some d:=(by intro j d hd;have hj:=aH hd;rw[dS hs',hl]at hj;rw[Yw (λe he=>hs e (M0 he)) _ _ hj,Yy hs l j E]at hd;exact hd);have:=bM.sl (I:=I) b (ob+l*sz) (cap - l) sz ((es.drop l).take (n - l)) (λj=>f (l*sz+j)) (by rw[hl];omega) hs' (λj d hd=>by rw[sL];exact hi _ d (key j d hd)) (λj d hd=>hr _ d (key j d hd));rw[hl]at this;simp only[wq,dO];exact dj
def bM.abo{I:Nat->Nat->Option Value}{sz:Nat}{es:List au}{nl:Bool}{v:Value}(r:bM I v (.sl sz es nl)):bM I v (.sl sz es false):=akk
def GB{isSlice:Bool}{len cap l n:Nat}{lo hi:Option Value}(hlo:(lo=none∧l=0)∨∃k x,lo=some (.int k x)∧0<=x∧x.toNat=l)(hhi:(hi=none∧n=len)∨∃k x,hi=some (.int k x)∧0<=x∧x.toNat=n)(h1:l<=n)(h2:n<=len)(h3:len<=cap)(w:World):(Instr.sliceBounds isSlice len cap lo hi none).run P w= .ok (l,n,cap) w:=by
 rcases hlo with⟨rfl,rfl⟩|⟨k,x,rfl,hx,rfl⟩;rcases hhi with⟨rfl,rfl⟩|⟨k',y,rfl,hy,rfl⟩;simp[Instr.sliceBounds];have:y<=(cap:Int):=E;simp[Instr.sliceBounds,Instr.sliceBound,asIntOf,hy,this];rcases hhi with⟨rfl,rfl⟩|⟨k',y,rfl,hy,rfl⟩;have:x<=(n:Int):=E;simp[Instr.sliceBounds,Instr.sliceBound,asIntOf,hx,this];have e1:y<=(cap:Int):=E;have e2:x<=y:=E
 simp[Instr.sliceBounds,Instr.sliceBound,asIntOf,hx,hy,e1,e2,Bm hy]
def GZ(h:Rel cx g s a w){x:Option Operand}{r:Option Int}(hx:zU (cY P s) x=some r):(x.map a.eval=none∧r=none)∨∃k n,x.map a.eval=some (.int k n)∧r=some n:=by unfold zU at hx;cases x with|none=>simp at hx;exact .inl ⟨rfl,hx.symm⟩|some y=>dsimp only at hx;split at hx;rename_i k n hy;cases hx;exact .inr ⟨k,n,by simp[(h.get hy).gC],rfl⟩;cases hx
def amh(P:Program)(t:TypeId):Bool:=match mH P t with| .slice e=>oI P e| .string=>true|_=>false
theorem O'(h:Rel cx g s a w)(hd:ji cx.n o.dst=true){t:TypeId}{x:Operand}{lo hi:Option Operand}(ho:o.op= .slice t x lo hi none)(hb:amh P t=true){c:mN}(hk:aC P c o.dst s K (cu P o (cY P s))):o.wp P a w (fK cx g K) Q:=by
 simp only[cu,ho]at hk;split at hk
 rotate_left
 exact aq;rename_i d hx;split at hk
 rotate_left
 exact aq;rename_i l hl;split at hk
 rotate_left
 exact aq;rename_i n hn;have hlo:=GZ h hl;have hhi:=GZ h hn;have hv:=h.get hx;have bounds:∀{len:Nat},(0<=l.getD 0∧l.getD 0<=n.getD len∧n.getD len<=len)->((lo.map a.eval=none∧(l.getD 0).toNat=0)∨∃k x,lo.map a.eval=some (.int k x)∧0<=x∧x.toNat=(l.getD 0).toNat)∧
  ((hi.map a.eval=none∧(n.getD (len:Int)).toNat=len)∨∃k x,hi.map a.eval=some (.int k x)∧0<=x∧x.toNat=(n.getD (len:Int)).toNat)∧(l.getD 0).toNat<=(n.getD (len:Int)).toNat∧(n.getD (len:Int)).toNat<=len:=by
  intro len ⟨b1,b2,b3⟩;refine⟨?_,?_,E,E⟩;rcases hlo with⟨e1,rfl⟩|⟨k,y,e1,rfl⟩;exact .inl ⟨e1,rfl⟩;exact .inr ⟨k,y,e1,b1,rfl⟩;rcases hhi with⟨e1,rfl⟩|⟨k,y,e1,rfl⟩;exact .inl ⟨e1,O⟩;simp only[u9]at b2 b3;exact .inr ⟨k,y,e1,E,rfl⟩
 split at hk;rename_i _ b hu;have e:=hv.pw;simp only[aC]at hk;have aei:=hk.h;have hk:=hk.k;obtain⟨b1,b2,b3,b4⟩:=bounds aei;have hrun:(Instr.sliceAt t (a.eval x) (lo.map a.eval) (hi.map a.eval) none).run P w= .ok (.string ((⟨⟨b⟩⟩:ByteArray).extract (l.getD 0).toNat (n.getD (b.length:Int)).toNat)) w:=by have:=GB (P:=P) (isSlice:=false) (len:=b.length) (cap:=b.length) b1 b2 b3 b4 (cJ _) w;have hsz:(⟨⟨b⟩⟩:ByteArray).size=b.length:=rfl;rw[e];simp only[Instr.sliceAt,Sem.run_bind,jD hu O,Result.andThen_ok,Instr.slice,hsz,this,Option.isSome_none,uV,jZ,Sem.run_pure]
 have HH:((⟨⟨b⟩⟩:ByteArray).extract (l.getD 0).toNat (n.getD (b.length:Int)).toNat)=⟨⟨(b.drop (l.getD 0).toNat).take ((n.getD (b.length:Int)).toNat - (l.getD 0).toNat)⟩⟩:=by apply ByteArray.ext;rw[ByteArray.data_extract];apply nI;simp
 rw[HH,<-afz b l n aei]at hrun;refine bJ (v:= .string ⟨⟨cut b l n⟩⟩) (w' :=w) ?_ (dK h hd (.pure (.str _)) hk);simp only[execOp,ho,Sem.run_bind,hrun,Option.map_none,Result.andThen_ok,Sem.run_pure];exact aq
 ·rename_i d _ _ e hu hns;have hte:oI P e=true:=by unfold amh at hb;rw[hu]at hb;exact hb
  have aue :∀b,d≠.str b:=λb hb=>by subst hb;exact hns b rfl
  have hk2:match gO s (bg P e) d with
   |false=>False
   |true=>nY s d λs a=>match a with
    | .sl z es _=>match Nat.beq z (bg P e)with
      |true=>kQ (0<=l.getD 0∧l.getD 0<=n.getD es.length∧n.getD es.length<=es.length) (K (s.put o.dst (.sl (bg P e) (cut es l n) false)))
      |false=>False
    |_=>False:=by
   cases d with|str b=>exact absurd rfl (aue b)|_=>exact hk
  cases hrs:gO s (bg P e) d with
  |false=>rw[hrs]at hk2;exact hk2.elim
  |true=>
   rw[hrs]at hk2;dsimp only at hk2;obtain⟨s1,d1,g1,k1,l1,_,_,r1⟩:=oS h hk2;have hv1:=r1 _ hv;cases d1 with
   |sl z es nl=>
    dsimp only at k1;split at k1
    rotate_left
    exact iN;rename_i hbz;have hz:=dw hbz;have aei:=k1.h;have hk:=k1.k;have hzn:z=bg P e∧bM g1.I (a.eval x) (.sl z es false):=by refine⟨hz,?_⟩;exact hv1.abo
    obtain⟨rfl,hv2⟩:=hzn;obtain⟨b1,b2,b3,b4⟩:=bounds aei;obtain⟨p,cap,e1,e2,e3⟩:=ahp hv2 b3 b4;have hrun:(Instr.sliceAt t (a.eval x) (lo.map a.eval) (hi.map a.eval) none).run P w= .ok (.slice (if cap=(l.getD 0).toNat then p else p.map (·.add ((l.getD 0).toNat*bg P e))) ((n.getD (es.length:Int)).toNat - (l.getD 0).toNat) (cap - (l.getD 0).toNat)) w:=by have:=GB (P:=P) (isSlice:=true) (len:=es.length) (cap:=cap) b1 b2 b3 b4 e2 w;rw[e1];simp only[Instr.sliceAt,Sem.run_bind,jD hu O,Result.andThen_ok,Instr.slice,this,iB hte,Sem.run_pure]
    rw[<-afz es l n aei]at e3;refine bJ (v:= .slice (if cap=(l.getD 0).toNat then p else p.map (·.add ((l.getD 0).toNat*bg P e))) ((n.getD (es.length:Int)).toNat - (l.getD 0).toNat) (cap - (l.getD 0).toNat)) (w' :=w) ?_ ?_;simp only[execOp,ho,Sem.run_bind,hrun,Option.map_none,Result.andThen_ok,Sem.run_pure];exact⟨_,g1,hk,l1.ext,l1.rel.put hd (.pure e3)⟩
   |_=>exact iN
 exact aq
end
def jC:=@Array.getElem?_append_left
def ZR(h:G:=by funext j;simp[Gh.row,Gh.over,hb']):=h
def LO(h:G:=by simpa using hne):=h
def UH(h:G:=by exact⟨v,v1,v2.mono hsub,v3,λho=>by rw[hI3 ho j d hd];exact v1⟩):=h
def TS(h:G:=by intro x hx;obtain⟨c,_,rfl⟩:=dV.1 hx;rfl):=h
def TL(h:G:=by rw[hn]at hj;simp at hj;exact⟨n,rfl,hj.symm⟩):=h
section
variable{P:Program}{cx:Cx}{g:Gh}{s:St}{a:Act}{w:World}{o:Oper}{K:St->Prop}{Q:Go.Exit->Act->World->Prop}
def Hu{e:TypeId}(h:Yk P e=true):mH P e= .int .u8∧P.underlying e=some (.int .u8):=by unfold Yk at h;split at h;rename_i hu;exact⟨hu,bG hu O⟩;cases h
theorem DH:∀{es:List au} {b:List UInt8},CX es=some b->∃ns:List Int,es=ns.map (.int .u8)∧b=ns.map λn=>UInt8.ofNat n.toNat
 |[],b,h=>by simp[CX]at h;subst h;exact⟨[],rfl,rfl⟩
 |d::es,b,h=>by
  cases d with
  |int k n=>
   cases k<;>simp only[CX]at h<;>try cases h
   split at h;rename_i l hl;cases h;obtain⟨ns,rfl,rfl⟩:=DH hl;exact⟨n::ns,rfl,rfl⟩;cases h
  |_=>simp[CX]at h
theorem foldl_push:∀(ns:List Int) (s:ByteArray),ns.foldl (λr n=>r.push (UInt8.ofNat n.toNat)) s=⟨⟨s.data.toList++ns.map λn=>UInt8.ofNat n.toNat⟩⟩|[],s=>by simp|n::ns,s=>by simp only[sN,foldl_push ns];congr 2;simp[ByteArray.push]
def Yx(k:IntKind)(ns:List Int):((ns.map (au.int k)).flatMap cells)=ns.map (au.int k):=by induction ns with|nil=>rfl|cons n ns ih=>simp[cells,ih]
def Gh.over(g:Gh)(b p q:Nat)(c:Array Value):Gh:={g with I:=λb' j=>if b' =b∧p<=j∧j<q then c[j]? else g.I b' j}
def Pv{b p q:Nat}{c:Array Value}(h:∀j,p<=j->j<q->g.I b j=none):ku g.I (g.over b p q c).I:=by intro b' j v hv;simp only[Gh.over];split;rename_i hc;obtain⟨rfl,h1,h2⟩:=hc;rw[h j h1 h2]at hv;cases hv;exact hv
theorem Qk(h:Rel cx g s a w){k:Nat}{r:Row}(hold:s.R k=none∨∃r0 t0,s.R k=some r0∧g.tv k=some t0∧r0.sz=r.sz∧r0.es.length<r.es.length)(hz0:r.sz≠0){cap:Nat}{c:Array Value}{e:TypeId}{fz:Nat×Nat}(hs:∀e∈r.es,(cells e).length=r.sz)(hcap:r.es.length<=cap)(hc:cap*r.sz<=c.size)(hf:Im fz c.size r.own)(hr:∀j d,nth (r.es.flatMap cells) j=some d->∃v,c[j]? =some v∧bM g.I v d∧leaf v=true){s' :St}(hH:s'.H=s.H)(hR:s'.R=aW s.R k (some r))(he:s'.env=s.env):∃g',Ext g g' ∧Rel cx g' s' a (dN w (.cells c e fz))∧g'.tv k=some (Tv.pl r.sz r.es.length (some w.heap.size) cap):=by
 have hlen:=dS hs;have tV:∀j,g.I w.heap.size j=none:=R2
 have hx0:Ext g (g.row k (Tv.pl r.sz r.es.length (some w.heap.size) cap)):=by refine g.pz ?_;rcases hold with h1|⟨r0,t0,h1,h2,h3,h4⟩;exact .inl (h.mem.yr h1);obtain⟨t',i1,i2,i3,_⟩:=h.mem.row k r0 h1;rw[h2]at i1;cases i1;exact .inr ⟨t0,h2,by rw[i2,h3],λe=>absurd (by rw[<-h3,<-i2];exact e) hz0,.inl (by rw[i3];exact h4)⟩
 have key:∀g' :Gh,ku g.I g'.I->g'.mu=g.mu->g'.tv=aW g.tv k (some (Tv.pl r.sz r.es.length (some w.heap.size) cap))->(∀b',b' ≠w.heap.size->g'.I b' =g.I b')->
  (∀j,r.es.length*r.sz<=j->g'.I w.heap.size j=none)->(r.own=true->∀j,g'.I w.heap.size j=none)->
  (r.own=false->∀j d,nth (r.es.flatMap cells) j=some d->g'.I w.heap.size j=c[j]?)->
  (∀j v,g'.I w.heap.size j=some v->c[j]? =some v∧leaf v=true)->
  Ext g g' ∧Rel cx g' s' a (dN w (.cells c e fz))∧g'.tv k=some (Tv.pl r.sz r.es.length (some w.heap.size) cap):=by
  intro g' hsub hmu yG hIo hI1 hI2 hI3 hI4;have hx:Ext g g' :=by refine⟨hsub,λl b e=>by rw[hmu];exact e,λk' t' e=> ?_⟩;obtain⟨t'',e1,e2⟩:=hx0.tv k' t' e;exact⟨t'',by rw[yG];exact e1,e2⟩
  refine⟨hx,⟨λu d hd=>(h.env u d L9).mono hx,h.size,h.defers,?_⟩,E3⟩;refine h.mem.setRow (k:=k) (r:=r) (t:=(Tv.pl r.sz r.es.length (some w.heap.size) cap)) hx hmu yG (λb' hb' =>hIo b' (by rintro rfl;exact hb' (.inl rfl))) ?_ rfl rfl hs ?_ ?_ hH hR;exact Rm;refine⟨rfl,λ_ _=> ?_,λ_ e=>by(cases e),λe=>absurd e hz0,λe=>absurd e hz0⟩;refine⟨hcap,h.mem.new _ (cJ _),λl hl=> ?_,c,e,fz,dd _ _,hf,hc,hI1,hI2,λj d hd=> ?_⟩;rw[hmu]at hl;exact absurd (h.mem.vU hl) (fQ _);obtain⟨v,v1,v2,v3⟩:=hr j d hd;exact UH;intro b hb;have hb:=hb.plain rfl;cases hb;refine⟨λj u hj hu hub=>absurd (h.mem.kK hu hub).1 (fQ _),λo v hv=> ?_⟩;obtain⟨h1,h2⟩:=hI4 o v hv;exact⟨by rw[ep (dd _ _)];exact h1,h2⟩
 cases hown:r.own with
 |true=>
  exact⟨_,key (g.row k (Tv.pl r.sz r.es.length (some w.heap.size) cap)) (λ_ _ _ e=>e) rfl rfl (λ_ _=>rfl) (λj _=>tV j) (λ_ j=>tV j) (λho=>A9)
   (λj v hv=>by have:g.I w.heap.size j=some v:=hv;rw[tV j]at this;cases this)⟩
 |false=>
  refine⟨_,key ((g.over w.heap.size 0 (r.es.length*r.sz) c).row k (Tv.pl r.sz r.es.length (some w.heap.size) cap)) (Pv (g:=g) (λj _ _=>tV j)) rfl rfl
   (λb' hb' =>ZR) (λj hj=>by simp only[Gh.row,Gh.over];rw[Z E];exact tV j) (λho=>A9) (λ_ j d hd=> ?_) (λj v hv=> ?_)⟩
  have hj:=aH hd;rw[hlen]at hj;simp only[Gh.row,Gh.over];rw[ak ⟨trivial,dM _,hj⟩];simp only[Gh.row,Gh.over]at hv;split at hv;rename_i hj;obtain⟨d,hd⟩:=bO (l:=r.es.flatMap cells) (i:=j) (by rw[hlen];exact hj.2.2);obtain⟨v',v1,v2,v3⟩:=hr j d hd;rw[hv]at v1;cases v1;exact⟨hv,v3⟩;rw[tV j]at hv;cases hv
def HO(l:List UInt8):((l.map (λc=>au.int .u8 c.toNat)).flatMap cells)=l.map (λc=>au.int .u8 c.toNat):=by induction l with|nil=>rfl|cons n ns ih=>simp[cells,ih]
def ac7{I:Nat->Nat->Option Value}{k:IntKind}{n:Int}{v:Value}(r:bM I v (.int k n)):v= .int k n:=by cases r;rfl
def ag0(P:Program)(src dst:TypeId):Bool:=oI P src&&oI P dst&&(match mH P dst with| .slice e=>oI P e|_=>true)&&(match mH P src with| .slice e=>oI P e&&Nat.beq (bg P e) 1|_=>true)
def OW{t:TypeId}(h:oI P t=true)(w:World):(underlying t).run P w= .ok (mH P t) w:=by obtain⟨i,_,_,_,_,hu⟩:=wF h;exact C6 hu w
theorem IB(h:Rel cx g s a w)(hd:ji cx.n o.dst=true){src dst:TypeId}{x:Operand}(ho:o.op= .convert src dst x)(hb:ag0 P src dst=true){c:mN}(hk:aC P c o.dst s K (cu P o (cY P s))):o.wp P a w (fK cx g K) Q:=by
 simp only[ag0,aX]at hb;obtain⟨⟨⟨b1,b2⟩,b3⟩,b4⟩:=hb;simp only[cu,ho]at hk;split at hk
 rotate_left
 exact aq;rename_i d hx;have hv:=h.get hx;have us:=OW (P:=P) b1 w;have ud:=OW (P:=P) b2 w;have text:∀{z:Nat} (e:TypeId),mH P src= .slice e->Yk P e=true->mH P dst= .string->(∀l,d≠.str l)->aC P c o.dst s K (.text d)->o.wp P a w (fK cx g K) Q:=by
  intro z e hs he hdst hns hk;simp only[aC]at hk;cases hrs:gO s 1 d with|false=>rw[hrs]at hk;exact aq|true=>
  rw[hrs]at hk;dsimp only at hk;obtain⟨es,k1,⟨p,cap,e1⟩,e2,e3⟩:=DO h hk hv hns hrs;obtain⟨b,hbt,k1⟩:=k1.out;obtain⟨ns,rfl,rfl⟩:=DH hbt;refine bJ (v:= .string ⟨⟨ns.map λn=>UInt8.ofNat n.toNat⟩⟩) (w' :=w) ?_ (dK h hd (.pure (.str _)) k1);have hrun:(Conv.bytesToString (a.eval x)).run P w= .ok (.string ⟨⟨ns.map λn=>UInt8.ofNat n.toNat⟩⟩) w:=by
   by_cases hne:ns=[];subst hne;rw[e1];cases p with|none=>rfl|some q=>have:=run_bytesToString (P:=P) w q 0 cap [] (by simp[loadCells,loadCellsFrom]);exact dj
   obtain⟨b,ob,cap',e4,e5⟩:=e3 LO;rw[e4];have hload:(loadCells ⟨b,ob,none⟩ (ns.map (au.int .u8)).length).run P w= .ok (ns.map (Value.int .u8)).toArray w:=by
    have:=run_loadCells_list (P:=P) w ⟨b,ob,none⟩ (ns.map (Value.int .u8)) (λj v hj=>by
     rw[dO];have hj' :∃n,ns[j]? =some n∧v= .int .u8 n:=by simp only[rI]at hj;cases hn:ns[j]? with|none=>rw[hn]at hj;cases hj|some n=>exact TL
     obtain⟨n,hn,rfl⟩:=hj';obtain⟨u,u1,u2,_⟩:=e5 j (.int .u8 n) (by rw[Yx,aJ];simp[hn]);rw[u1,ac7 u2])
    exact mO
   have:=run_bytesToString (P:=P) w ⟨b,ob,none⟩ (ns.map (au.int .u8)).length cap' ns hload;rw[this,foldl_push];rfl
  have hue:=(Hu he).2;rw[hs]at us;rw[hdst]at ud;rw[e1]at hrun;simp only[execOp,ho,Sem.run_bind];have hc:=run_convert_bytes_string (P:=P) w src dst e p (ns.map (au.int .u8)).length cap (bG hs O) hue (bG hdst O);rw[e1,hc,hrun];rfl
 unfold HX at hk;split at hk;rename_i k k' n hu;have e:=hv.gC;simp only[aC]at hk;rw[hu]at ud;refine bJ (v:= .int k (k.wrap n)) (w' :=w) ?_ (dK h hd (.pure (.int _ _)) hk.out);simp[execOp,ho,convert,us,ud,e,Conv.intToInt];rename_i l hu;have e:=hv.pw;rw[hu]at ud;refine bJ (v:= .string ⟨⟨l⟩⟩) (w' :=w) ?_ (dK h hd (.pure (.str _)) hk);simp[execOp,ho,convert,us,ud,e];rename_i z es nl hu;split at hk;rename_i e hs;split at hk;rename_i he;exact text (z:=0) e hs he hu (by intro l hl;cases hl) hk;exact aq;exact aq;rename_i k n hu;split at hk;rename_i e hs;split at hk;rename_i he;exact text (z:=0) e hs he hu (by intro l hl;cases hl) hk;exact aq;exact aq
 ·rename_i e l hu;split at hk
  rotate_left
  exact aq;rename_i hsrc;split at hk
  rotate_left
  exact aq;rename_i he;have ev:=hv.pw;simp only[aC]at hk;cases hdst:o.dst with
  |none=>rw[hdst]at hk;exact aq
  |some t=>
   rw[hdst]at hk;dsimp only at hk;cases hr:s.R t with
   |some r=>exact nB
   |none=>
    rw[hr]at hk;dsimp only at hk;have hrun:=run_bytes_of_string (P:=P) w src dst e ⟨⟨l⟩⟩ (bG hsrc O) (bG hu O) (Hu he).2;generalize hcap:grownCap w (⟨⟨l⟩⟩:ByteArray).size 0 e=cap at hrun;have hsz:(⟨⟨l⟩⟩:ByteArray).size=l.length:=rfl;have hcl:l.length<=cap:=by rw[<-hcap,hsz];simp only[grownCap,Question.cut];omega
    have hbs:(bytesRow ⟨⟨l⟩⟩ cap).size=cap:=(by simp[bytesRow,hsz];omega);refine bJ (v:= .slice (some ⟨w.heap.size,0,none⟩) l.length cap) (w' :=dN w.drew (.cells (bytesRow ⟨⟨l⟩⟩ cap) e ((bytesRow ⟨⟨l⟩⟩ cap).size,(bytesRow ⟨⟨l⟩⟩ cap).size+1))) ?_ ?_;simp only[execOp,ho,Sem.run_bind,ev];rw[hrun];rfl;rw[hdst]at hd ⊢;have hrel:Rel cx g s a w.drew:=⟨h.env,h.size,h.defers,h.mem.drew _⟩;have hes:∀x∈l.map (λc=>au.int .u8 c.toNat),(cells x).length=1:=TS
    have hlen:(l.map (λc=>au.int .u8 c.toNat)).length=l.length:=O;have hcell:∀j d,nth ((l.map λc=>au.int .u8 c.toNat).flatMap cells) j=some d->∃v,(bytesRow ⟨⟨l⟩⟩ cap)[j]? =some v∧bM g.I v d∧leaf v=true:=λj d hj=>by
     have hj2:∃c,l[j]? =some c∧d= .int .u8 c.toNat:=by rw[HO,aJ]at hj;simp only[rI]at hj;cases hn:l[j]? with|none=>rw[hn]at hj;cases hj|some n=>exact TL
     obtain⟨c,hc,rfl⟩:=hj2;refine⟨.int .u8 c.toNat,?_,.int _ _,rfl⟩;unfold bytesRow;rw[jC (by simpa using(rK.1 hc).1)];simp[hc]
    obtain⟨g',n1,n2,n3⟩:=Qk (a:=a) (s:=s) (g:=g) (w:=w.drew) (k:=t) (e:=e) (cap:=cap) (r:=⟨1,false,l.map λc=> .int .u8 c.toNat⟩) (c:=bytesRow ⟨⟨l⟩⟩ cap)
     (fz:=((bytesRow ⟨⟨l⟩⟩ cap).size,(bytesRow ⟨⟨l⟩⟩ cap).size+1)) hrel (.inl hr) (show 1≠0 by decide) hes (by rw[hlen];exact hcl) (show cap*1<=_ by rw[hbs];omega) ⟨λo ho=>az,λe=>bK⟩ hcell
     (s' :={env:=s.env,H:=s.H,hn:=s.hn,R:=aW s.R t (some ⟨1,false,l.map λc=> .int .u8 c.toNat⟩),rn:=t::s.rn,y:=s.y}) rfl rfl rfl
    dsimp only at n3;rw[hlen]at n3;exact⟨_,_,hk,n1,n2.put hd (.ref _ n3 (cJ _) (λ_=>rfl) ⟨_,_,rfl⟩)⟩
 exact aq
end
def dY:=@List.mem_append
def gg:=@List.mem_singleton
def jV:=@List.append_nil
def zt:=@List.mem_append_right
def CO:=@List.mem_append_left
def MW:=@List.length_pos_iff
def ZM(h:G:=by unfold Tv.value;rw[x5,x6,x7,hlen]):=h
def VP(h:G:=by rw[dS hxs];exact hlt):=h
def Vv(h:G:=by rw[x5,hlen];exact tF):=h
def Mo(h:G:=by rw[hlen];exact hcap):=h
def LR(h:G:=by rw[hlen];omega):=h
def yc(h:G:=by simpa using hj):=h
def qB(h:G:=by rw[hr];simp):=h
def aw(h:G:=by decide):=h
def AL(h:G:=by rw[hdst]at this ⊢;exact this):=h
def sD(h:G:=by exact⟨rfl,rfl⟩):=h
def TY(h:G:=by rw[Rg];exact Eh b2 b4 (by simpa using k3)):=h
def TO(h:G:=by exact⟨_,hst,k1,by rw[hown]at k2;exact k2,k3⟩):=h
section
variable{P:Program}{cx:Cx}{g:Gh}{s:St}{a:Act}{w:World}{o:Oper}{K:St->Prop}{Q:Go.Exit->Act->World->Prop}
def Sf(h:Rel cx g s a w){d:au}{K' :List au->Prop}{sz:Nat}(hz:gO s sz d=true)(hk:lq s d K'){v:Value}(hv:bD g v d):∃xs,K' xs∧(∀e∈xs,(cells e).length=sz)∧(∀w' :World,(Builtin.lenOf v).run P w' = .ok xs.length w')∧∃vs:Array Value,vs.size=xs.length*sz∧(Builtin.firstCells sz xs.length v).run P w= .ok vs w∧(Builtin.firstCells sz xs.length v).run P w.drew= .ok vs w.drew∧∀j x,nth (xs.flatMap cells) j=some x->∃u,vs[j]? =some u∧bM g.I u x∧leaf u=true:=by
 by_cases hns:∀l,d≠.str l;obtain⟨xs,k1,⟨p,cap,e1⟩,e2,e3⟩:=DO h hk hv hns hz;refine⟨xs,k1,e2,λw' =>EW,?_⟩;by_cases hne:xs=[];subst hne;refine⟨#[],O,?_,?_,ES⟩;rw[e1];cases p<;>simp[Builtin.firstCells,loadCells,loadCellsFrom];rw[e1];cases p<;>simp[Builtin.firstCells,loadCells,loadCellsFrom];obtain⟨b,ob,cap',e4,e5⟩:=e3 hne;have hlen:=dS e2;have hf:∃f:Nat->Value,∀j,j<xs.length*sz->w.cell? ⟨b,ob+j,none⟩=some (f j)∧∀x,nth (xs.flatMap cells) j=some x->bM g.I (f j) x∧leaf (f j)=true:=by refine⟨λj=>(w.cell? ⟨b,ob+j,none⟩).getD undef,λj hj=> ?_⟩;obtain⟨x,hx⟩:=bO (l:=xs.flatMap cells) (i:=j) (by rw[hlen];exact hj);obtain⟨u,u1,u2,u3⟩:=e5 j x hx;simp only[u1,u9];refine⟨trivial,λy hy=> ?_⟩;rw[hx]at hy;cases hy;exact⟨u2,u3⟩
 obtain⟨f,hf⟩:=hf;have hrun:∀w' :World,(∀b o,w'.cell? ⟨b,o,none⟩=w.cell? ⟨b,o,none⟩)->(Builtin.firstCells sz xs.length v).run P w' = .ok ((List.range (xs.length*sz)).map f).toArray w' :=by intro w' hw;rw[e4];exact run_loadCells w' ⟨b,ob,none⟩ (xs.length*sz) f (λj hj=>by rw[dO,hw];exact(hf j hj).1)
 refine⟨((List.range (xs.length*sz)).map f).toArray,O,hrun w (λ_ _=>rfl),hrun w.drew (λ_ _=>rfl),λj x hx=> ?_⟩;have hj:j<xs.length*sz:=by rw[<-hlen];exact xU
 exact⟨f j,sH,(hf j hj).2 x hx⟩;obtain⟨l,rfl⟩:∃l,d= .str l:=Classical.not_forall_not.1 (λhh=>hns λl e=>hh l e);have e1:=hv.pw;have hz:1=sz:=dw hz;subst hz;have hsz:(⟨⟨l⟩⟩:ByteArray).size=l.length:=rfl;have hex:((⟨⟨l⟩⟩:ByteArray).extract 0 l.length).data=⟨l⟩:=by rw[ByteArray.data_extract];apply nI;simp
 have hrun:∀w' :World,(Builtin.firstCells 1 l.length v).run P w' = .ok (l.map λc=>Value.int .u8 c.toNat).toArray w' :=by intro w';rw[e1];simp only[Builtin.firstCells,Sem.run_pure,hex];congr 1;apply nI;simp
 refine⟨l.map λc=>au.int .u8 c.toNat,(show K' (l.map λc=>au.int .u8 c.toNat) from hk),?_,λw' =>by rw[e1];simp[Builtin.lenOf,hsz],(l.map λc=>Value.int .u8 c.toNat).toArray,O,?_,?_,λj x hx=> ?_⟩;exact TS;simpa using hrun w;simpa using hrun w.drew;rw[HO,aJ]at hx;simp only[rI]at hx;cases hn:l[j]? with|none=>rw[hn]at hx;cases hx|some n=>rw[hn]at hx;simp at hx;subst hx;exact⟨.int .u8 n.toNat,uH,.int _ _,rfl⟩
def pP(xs ys:List au){sz:Nat}(hx:∀e∈xs,(cells e).length=sz)(j:Nat):nth ((xs++ys).flatMap cells) j=if j<xs.length*sz then nth (xs.flatMap cells) j else nth (ys.flatMap cells) (j - xs.length*sz):=by rw[Bl,aJ,Bn,dS hx,aJ,aJ]
theorem ais(h:Rel cx g s a w){k:Nat}{r:Row}(hr:s.R k=some r)(hz0:r.sz≠0){t:Tv}(ht:g.tv k=some t){b:Nat}(hb:t.base=some b){xs:List au}(hxs:∀e∈xs,(cells e).length=r.sz)(hcap:r.es.length+xs.length<=t.cap){vs:Array Value}(hvs:vs.size=xs.length*r.sz)(hcells:∀j x,nth (xs.flatMap cells) j=some x->∃u,vs[j]? =some u∧bM g.I u x∧leaf u=true):∃w' g',(storeCells ⟨b,r.es.length*r.sz,none⟩ vs.toList).run P w= .ok () w' ∧Ext g g' ∧Rel cx g' {s with R:=aW s.R k (some {r with es:=r.es++xs})} a w' ∧g'.tv k=some {t with n:=(r.es++xs).length}:=by
 obtain⟨t',i1,i2,i3,i4,i5⟩:=h.mem.row k r hr;rw[ht]at i1;cases i1;have i5' :=i5.o' hz0 hb;unfold jv at i5';rw[hb]at i5';have hnn:t.nest=false:=by cases hn:t.nest with|false=>rfl|true=>rw[(i5.h hz0 hn).1]at hb;cases hb
 obtain⟨q1,q2,q3,c,e,fz,c1,c2,c3,c4,c5,c6⟩:=i5';have hfit:r.es.length*r.sz+vs.toList.length<=c.size:=by have:(r.es.length+xs.length)*r.sz<=t.cap*r.sz:=CP _ hcap;rw[Nat.add_mul]at this;simp[hvs];omega
 have hst:=i6 (P:=P) (o:=r.es.length*r.sz) vs.toList 0 c w c1 c2.1 (by simpa using hfit) (λv hv=>by
  obtain⟨j,hj⟩:=pW.1 hv;have hj2:vs[j]? =some v:=yc
  have hlt:j<xs.length*r.sz:=by rw[<-hvs];exact(iX.1 hj2).1
  obtain⟨x,hx⟩:=bO (l:=xs.flatMap cells) (i:=j) VP;obtain⟨u,u1,_,u3⟩:=hcells j x hx;rw[hj2]at u1;cases u1;exact u3)
 rw[kH]at hst;generalize hc' :(aI c.toList (r.es.length*r.sz) vs.toList).toArray=c' at hst;have aen:∀j,c'[j]? =if r.es.length*r.sz<=j∧j<(r.es.length+xs.length)*r.sz then vs[j - r.es.length*r.sz]? else c[j]? :=by
  intro j;rw[<-hc'];have:((aI c.toList (r.es.length*r.sz) vs.toList).toArray)[j]? =nth (aI c.toList (r.es.length*r.sz) vs.toList) j:=uP
  rw[this,fA];simp only[rJ,hvs,Nat.add_mul];by_cases hj:r.es.length*r.sz<=j∧j<r.es.length*r.sz+xs.length*r.sz;rw[ak ⟨hj.1,hj.2,by simp[hvs]at hfit;omega⟩,ak hj,aJ];simp;rw[Z E,Z hj,aJ];simp
 have hsize:c'.size=c.size:=by rw[<-hc'];simp[aV]
 have hrow:∀j d,nth ((r.es++xs).flatMap cells) j=some d->∃v,c'[j]? =some v∧bM g.I v d∧leaf v=true∧(r.own=false->j<r.es.length*r.sz->g.I b j=some v):=by intro j d hd;rw[pP _ _ i4]at hd;split at hd;rename_i hj;obtain⟨v,v1,v2,v3,v4⟩:=c6 j d hd;exact⟨v,by rw[aen,Z E];exact v1,v2,v3,λho _=>v4 ho⟩;rename_i hj;obtain⟨u,u1,u2,u3⟩:=hcells _ d hd;have:=aH hd;rw[dS hxs]at this;exact⟨u,by rw[aen,ak ⟨E,by rw[Nat.add_mul];omega⟩];exact u1,u2,u3,λ_ hlt=>absurd hlt hj⟩
 have hs' :∀x∈r.es++xs,(cells x).length=r.sz:=by intro x hx;rcases dY.1 hx with hx|hx;exact i4 x hx;exact hxs x hx
 have hlen:(r.es++xs).length=r.es.length+xs.length:=O
 refine⟨dA w b (.cells c' e fz),?_⟩;have hnone:∀j,r.es.length*r.sz<=j->g.I b j=none:=λj hj=>c4 j (by rw[i3];exact hj);have key:∀g' :Gh,ku g.I g'.I->g'.mu=g.mu->g'.tv=aW g.tv k (some {t with n:=(r.es++xs).length})->(∀b',b' ≠b->g'.I b' =g.I b')->
  (∀j,(r.es.length+xs.length)*r.sz<=j->g'.I b j=none)->(r.own=true->∀j,g'.I b j=none)->
  (r.own=false->∀j d,nth ((r.es++xs).flatMap cells) j=some d->g'.I b j=c'[j]?)->
  (∀j v,g'.I b j=some v->c'[j]? =some v∧leaf v=true)->
  Ext g g' ∧Rel cx g' {s with R:=aW s.R k (some {r with es:=r.es++xs})} a (dA w b (.cells c' e fz))∧g'.tv k=some {t with n:=(r.es++xs).length}:=by
  intro g' hsub hmu yG hIo hI1 hI2 hI3 hI4;have hx:Ext g g' :=by refine⟨hsub,λl b e=>by rw[hmu];exact e,λk' t' e=> ?_⟩;by_cases hkk:k' =k;subst hkk;rw[ht]at e;cases e;refine⟨{t with n:=(r.es++xs).length},E3,rfl,λe=>absurd (i2.symm.trans e) hz0,?_⟩;by_cases hx0:xs=[];right;subst hx0;exact⟨by simp only[jV,<-i3],rfl,rfl⟩;left;have:=MW.2 hx0;simp only[hlen,i3];omega;exact⟨t',by rw[yG,aO _ _ _ _ hkk];exact e,.refl _⟩
  refine⟨hx,⟨λu d hd=>(h.env u d hd).mono hx,h.size,h.defers,?_⟩,E3⟩;refine h.mem.setRow (k:=k) (r:={r with es:=r.es++xs}) (t:={t with n:=(r.es++xs).length}) hx hmu yG (λb' hb' =>hIo b' (by rintro rfl;exact hb' (.inl hb))) ((Frame.refl w _).dA b _ (.inr (.inl hb))) i2 rfl hs' ?_ ?_ rfl rfl;refine⟨i2,λ_ _=> ?_,λ_ e=>by(rw[show({t with n:=(r.es++xs).length}:Tv).nest=t.nest from rfl,hnn]at e;cases e),λe=>absurd e hz0,λe=>absurd e hz0⟩;unfold jv;simp only[hb];refine⟨Mo,q2,λl=>by rw[hmu];exact q3 l,c',e,fz,dt _ _ _ (cI c1),by rw[hsize];exact c2,by rw[hsize];exact c3,λj hj=>hI1 j (by rw[<-hlen];exact hj),hI2,λj d hd=> ?_⟩;obtain⟨v,v1,v2,v3,_⟩:=hrow j d hd;exact UH;intro b' hb';have hb' :=hb'.plain hnn;have:b' =b:=by rw[show({t with n:=(r.es++xs).length}:Tv).base=t.base from rfl,hb]at hb';cases hb';rfl
  subst this;refine⟨λj u hj hu hub=>hj (h.mem.k_ j k u t b' hu ht hub (.inl hb)),λo v hv=> ?_⟩;obtain⟨h1,h2⟩:=hI4 o v hv;exact⟨by rw[ep (dt _ _ _ (cI c1))];exact h1,h2⟩
 cases hown:r.own with
 |true=>obtain⟨k1,k2,k3⟩:=key (g.row k {t with n:=(r.es++xs).length}) (λ_ _ _ e=>e) rfl rfl (λ_ _=>rfl) (λj hj=>c5 hown j) (λ_ j=>c5 hown j) (λho=>A9) (λj v hv=>by have:g.I b j=some v:=hv;rw[c5 hown j]at this;cases this);exact TO
 |false=>
  obtain⟨k1,k2,k3⟩:=key ((g.over b (r.es.length*r.sz) ((r.es.length+xs.length)*r.sz) c').row k {t with n:=(r.es++xs).length})
   (Pv (g:=g) (λj hj _=>hnone j hj)) rfl rfl
   (λb' hb' =>ZR)
   (λj hj=>by have:r.es.length*r.sz<=j:=eW (CP _ E) hj;simp only[Gh.row,Gh.over];rw[Z E];exact hnone j this)
   (λho=>A9)
   (λ_ j d hd=>by obtain⟨v,v1,v2,v3,v4⟩:=hrow j d hd;have hj:=aH hd;rw[dS hs',hlen]at hj;simp only[Gh.row,Gh.over];by_cases hj2:r.es.length*r.sz<=j;rw[ak ⟨trivial,hj2,hj⟩];rw[Z E,v1];exact v4 hown E)
   (λj v hv=>by simp only[Gh.row,Gh.over]at hv;split at hv;rename_i hj;obtain⟨d,hd⟩:=bO (l:=(r.es++xs).flatMap cells) (i:=j) (by rw[dS hs',hlen];exact hj.2.2);obtain⟨v',v1,v2,v3,v4⟩:=hrow j d hd;rw[hv]at v1;cases v1;exact⟨hv,v3⟩;rename_i hj;have h1:=h.mem.iw b j v hv;rw[ep c1]at h1;rw[aen,Z (by intro hh;rw[hnone j hh.1]at hv;cases hv)];exact h1)
  exact TO
def zM(h:Rel cx g s a w){k:Nat}{r:Row}(hr:s.R k=some r)(hz0:r.sz≠0){t:Tv}(ht:g.tv k=some t)(hnn:t.nest=false)(w' :World)(hw:∀b o,w'.cell? ⟨b,o,none⟩=w.cell? ⟨b,o,none⟩):∃vs:Array Value,vs.size=r.es.length*r.sz∧(Builtin.firstCells r.sz r.es.length t.value).run P w' = .ok vs w' ∧∀j x,nth (r.es.flatMap cells) j=some x->∃u,vs[j]? =some u∧bM g.I u x∧leaf u=true:=by obtain⟨t',i1,i2,i3,i4,i5⟩:=h.mem.row k r hr;rw[ht]at i1;cases i1;have i5:=i5.o hz0 hnn;unfold jv at i5;cases hb:t.base with|none=>rw[hb]at i5;dsimp only at i5;refine⟨#[],by rw[i5.1];simp,?_,by rw[i5.1];simp[nth]⟩;unfold Tv.value;rw[hb,i5.1];rfl|some b=>rw[hb]at i5;obtain⟨q1,q2,q3,c,e,fz,c1,c2,c3,c4,c5,c6⟩:=i5;have hlen:=dS i4;refine⟨((List.range (r.es.length*r.sz)).map λj=>c.getD j undef).toArray,O,?_,λj x hx=> ?_⟩;unfold Tv.value;rw[hb];refine run_loadCells w' ⟨b,0,none⟩ (r.es.length*r.sz) (λj=>c.getD j undef) (λj hj=> ?_);obtain⟨x,hx⟩:=bO (l:=r.es.flatMap cells) (i:=j) (by rw[hlen];exact hj);obtain⟨u,u1,_⟩:=c6 j x hx;rw[dO,eI,hw,ep c1,u1];simp[u1];have hj:j<r.es.length*r.sz:=(by rw[<-hlen];exact xU);obtain⟨u,u1,u2,u3,_⟩:=c6 j x hx;exact⟨u,by simp[hj,u1],u2,u3⟩
def F8(P:Program)(c:Call):Bool:=
 match c.argTypes.toList with
 |[t,u]=>match mH P t with
  | .slice e=>oI P t&&oI P u&&oI P e&&sF P e&&(match mH P u with| .slice _=>true| .string=>true|_=>false)&&
    (match ti P e with|some i=>Nat.ble i.bytes 8192|none=>false)
  |_=>false
 |_=>false
def abl{t:TypeId}{sz:Nat}{v:Value}{xs:List au}{vs:Array Value}{I:Nat->Nat->Option Value}(hk:(match mH P t with| .slice _=>true| .string=>true|_=>false)=true)(hxs:∀e∈xs,(cells e).length=sz)(h1:∀w' :World,(Builtin.lenOf v).run P w' = .ok xs.length w')(h2:vs.size=xs.length*sz)(h3:(Builtin.firstCells sz xs.length v).run P w= .ok vs w)(h4:(Builtin.firstCells sz xs.length v).run P w.drew= .ok vs w.drew)(h5:∀j x,nth (xs.flatMap cells) j=some x->∃u,vs[j]? =some u∧bM I u x∧leaf u=true):Src P sz t v xs.length vs.toList w:=by
 refine⟨?_,h1,qv,by simpa using h4,nE,λu hu=> ?_⟩;cases h:mH P t with|slice e=>exact .inl ⟨e,bG h O⟩|string=>exact .inr (bG h O)|_=>simp[h]at hk
 obtain⟨j,hj⟩:=pW.1 hu;have hj2:vs[j]? =some u:=yc
 have hlt:j<xs.length*sz:=by rw[<-h2];exact(iX.1 hj2).1
 obtain⟨x,hx⟩:=bO (l:=xs.flatMap cells) (i:=j) VP;obtain⟨u',u1,_,u3⟩:=h5 j x hx;rw[hj2]at u1;cases u1;rw[ui];exact u3
def yZ{t u ty e:TypeId}{i:TypeInfo}(ht:P.underlying t=some (.slice e))(hi:P.info? e=some i){b n cap m:Nat}{x:Value}{news:List Value}{w' :World}(hs:Src P i.size u x m news w)(hcap:n+m<=cap)(hst:(storeCells ⟨b,n*i.size,none⟩ news).run P w= .ok () w'):(Builtin.append_ #[t,u] ty #[.slice (some ⟨b,0,none⟩) n cap,x]).run P w= .ok (.slice (some ⟨b,0,none⟩) (n+m) cap) w' :=by rcases hs.kind with⟨e',hk⟩|hk<;>simp[Builtin.append_,run_underlying ht,run_underlying hk,Go.sizeOf,typeInfo,hi,hs.len,hcap,hs.cells,Addr.add_lit,hst]
def Eh{t u ty e:TypeId}{i:TypeInfo}(ht:P.underlying t=some (.slice e))(hi:P.info? e=some i){x:Value}{news:List Value}(hs:Src P i.size u x 0 news w):(Builtin.append_ #[t,u] ty #[.slice none 0 0,x]).run P w= .ok (.slice none 0 0) w:=by rcases hs.kind with⟨e',hk⟩|hk<;>simp[Builtin.append_,run_underlying ht,run_underlying hk,Go.sizeOf,typeInfo,hi,hs.len,hs.cells]
def ad1(h:Rel cx g s a w){k:Nat}(hk:s.R k=none)(r:Row)(hz0:r.sz≠0)(hr:r.es=[]){s' :St}(hH:s'.H=s.H)(hR:s'.R=aW s.R k (some r))(he:s'.env=s.env):∃g',Ext g g' ∧Rel cx g' s' a w∧g'.tv k=some (Tv.pl r.sz r.es.length none 0):=by have hx:Ext g (g.row k (Tv.pl r.sz r.es.length none 0)):=g.pz (.inl (h.mem.yr hk));refine⟨_,hx,⟨λu d hd=>(h.env u d L9).mono hx,h.size,h.defers,?_⟩,qD⟩;refine h.mem.setRow (k:=k) (r:=r) (t:=(Tv.pl r.sz r.es.length none 0)) hx rfl rfl (λ_ _=>rfl) (Frame.refl w _) rfl rfl qB ?_ (λb hb=>by have hb:=hb.plain rfl;cases hb) hH hR;exact⟨rfl,λ_ _=>⟨hr,rfl⟩,λ_ e=>by(cases e),λe=>absurd e hz0,λe=>absurd e hz0⟩
def OI{c:Call}(h:F8 P c=true):∃t u e i z,c.argTypes= #[t,u]∧P.underlying t=some (.slice e)∧bg P (xt P t)=i.size∧P.info? e=some i∧i.zero=some z∧z.cells.size=i.size∧i.bytes<=8192∧(match mH P u with| .slice _=>true| .string=>true|_=>false)=true∧c.argTypes.toList.headD 0=t:=by
 unfold F8 at h;split at h
 rotate_left
 cases h;rename_i t u htu;split at h
 rotate_left
 cases h;rename_i e he;simp only[aX]at h;obtain⟨⟨⟨⟨⟨_,_⟩,h3⟩,h4⟩,h5⟩,h6⟩:=h;split at h6
 rotate_left
 cases h6;rename_i i hi;have h6:=pX h6;unfold sF at h4;rw[hi]at h4;dsimp only at h4;split at h4
 rotate_left
 cases h4;rename_i z hz;simp only[aX]at h4;have h7:=(mX (Gc (I:=λ_ _=>none) h4.1)).1;rw[dw h4.2]at h7;have h8:xt P t=e:=by simp only[xt,he]
 exact⟨t,u,e,i,z,by apply nI;simpa using htu,bG he O,by rw[h8];simp only[bg,hi],ve hi,hz,h7,h6,h5,by rw[htu];rfl⟩
def ab9{α:Type}{e:Nat->Option α}{k:Nat}{r:α}(h:e k=some r):aW e k (some r)=e:=by funext u;by_cases hu:u=k;subst hu;rw[bw,h];rw[aO _ _ _ _ hu]
theorem Nq(h:Rel cx g s a w)(hd:ji cx.n o.dst=true){c:Call}(hc:c.callee= .builtin .append)(ho:o.op= .call c)(hB:F8 P c=true){cf:mN}(hk:aC P cf o.dst s K (cu P o (cY P s))):o.wp P a w (fK cx g K) Q:=by
 obtain⟨t,u,e,i,z,b1,b2,b3,b4,b5,b6,b7,b8,b9⟩:=OI hB;simp only[cu,ho,mF,hc,b9,b3]at hk;split at hk;exact aq;rename_i ds hds;have hev:=lW h hds;obtain⟨q,hrun⟩:=sU hc ho a;split at hk
 rotate_left
 exact aq;rename_i dx dy;obtain⟨vx,vy,e1,e2,e3⟩:=OY hev rfl;have ea:c.args.map a.eval= #[vx,vy]:=VT
 have hgo:∀{v:Value} {w' :World},(Builtin.append_ #[t,u] o.type #[vx,vy]).run P w= .ok v w' ->fK cx g K (a.put o.dst v) w' ->o.wp P a w (fK cx g K) Q:=by intro v w' f1 f2;refine bJ (v:=v) (w' :=w') ?_ f2;rw[hrun,ea,b1];simp[builtin,f1]
 clear hrun ea e1 hev hds;simp only[aC]at hk;split at hk;exact aq;rename_i hzz;simp only[aX]at hzz;obtain⟨hz1,hz2⟩:=hzz;have hrow:∀{K' :List au->Prop},lq s dy K' ->∃(xs:List au) (vs:Array Value),K' xs∧(∀e∈xs,(cells e).length=i.size)∧Src P i.size u vy xs.length vs.toList w∧vs.size=xs.length*i.size∧
  ∀j x,nth (xs.flatMap cells) j=some x->∃u,vs[j]? =some u∧bM g.I u x∧leaf u=true:=by
  intro K' hk';obtain⟨xs,k1,k2,k3,vs,k4,k5,k6,k7⟩:=Sf (P:=P) h hz2 hk' e3;exact⟨xs,vs,k1,k2,abl b8 k2 k3 k4 k5 k6 k7,k4,k7⟩
 have hfit:∀n m:Nat,m<n->n<=2^32->Builtin.nextslicecap n m*i.bytes<=281474976710656:=by intro n m h1 h2;refine growslice_fits h1 ?_;exact eW (Bf h2 b7) aw
 have hnew:∀{k:Nat} {r:Row} {xs:List au} {vs:Array Value} {base:Option Addr} {sLen sCap:Nat} {olds:List Value} {s' :St},vx= .slice base sLen sCap->
  (∀x∈r.es++xs,(cells x).length=r.sz)->r.sz=i.size->Src P i.size u vy xs.length vs.toList w->vs.size=xs.length*i.size->
  (∀j x,nth (xs.flatMap cells) j=some x->∃u,vs[j]? =some u∧bM g.I u x∧leaf u=true)->
  sLen=r.es.length->(Builtin.firstCells i.size sLen (.slice base sLen sCap)).run P w.drew= .ok olds.toArray w.drew->olds.length=r.es.length*i.size->
  (∀j x,nth (r.es.flatMap cells) j=some x->∃u,olds[j]? =some u∧bM g.I u x∧leaf u=true)->
  sCap<sLen+xs.length->(r.es++xs).length<=2^32->
  (s.R k=none∨∃r0 t0,s.R k=some r0∧g.tv k=some t0∧r0.sz=r.sz∧r0.es.length<(r.es++xs).length)->r.sz≠0->
  s'.H=s.H->s'.R=aW s.R k (some {r with es:=r.es++xs})->s'.env=s.env->K (s'.put o.dst (.ref k (r.es++xs).length))->
  o.wp P a w (fK cx g K) Q:=by
  intro k r xs vs base sLen sCap olds s' g1 g2 g3 g4 g5 g6 g7 g8 g9 g10 g11 g12 g13 gz g14 g15 g16 g17;subst g7;have hlen:(r.es++xs).length=r.es.length+xs.length:=O
  have hw:=run_append_grow_src w t u o.type e i z b2 b4 b5 base r.es.length sCap olds g8 vy xs.length vs.toList g4 g11 (by rw[hlen]at g12;omega) (hfit _ _ g11 (by rw[<-hlen];exact g12));have hD:Rel cx g s a w.drew:=⟨h.env,h.size,h.defers,h.mem.drew _⟩;have hge:=grownCap_ge w (r.es.length+xs.length) sCap e;generalize grownCap w (r.es.length+xs.length) sCap e=cap at*;have hcs:((olds++vs.toList).toArray++Builtin.zeroCells z.cells (cap - (r.es.length+xs.length))).size=cap*r.sz:=by simp only[Array.size_append,List.size_toArray,fx,size_zeroCells,b6,g9,rJ,g5,g3,<-Nat.add_mul];congr 1;omega
  obtain⟨g',p1,p2,p3⟩:=Qk hD (k:=k) (r:={r with es:=r.es++xs}) (cap:=cap) (c:=(olds++vs.toList).toArray++Builtin.zeroCells z.cells (cap - (r.es.length+xs.length))) (e:=e) (fz:=(0,0)) g13 gz g2 (by rw[hlen];exact hge)
   (by rw[hcs];exact tF) ⟨λo _=>O,λ_ o _=>O⟩ (λj d hd=>by
    have h1:∀x∈r.es,(cells x).length=r.sz:=λx hx=>g2 x (CO _ hx);have h2:∀x∈xs,(cells x).length=r.sz:=λx hx=>g2 x (zt _ hx);rw[pP _ _ h1]at hd;have hj:(r.es.length*r.sz)=olds.length:=by rw[g9,g3]
    split at hd;rename_i hlt;obtain⟨v,v1,v2,v3⟩:=g10 j d hd;refine⟨v,?_,v2,v3⟩;rw[jC az];simp only[mU];rw[lj E];exact v1;rename_i hlt;obtain⟨v,v1,v2,v3⟩:=g6 _ d hd;have:=aH hd;rw[dS h2]at this;refine⟨v,?_,v2,v3⟩;rw[jC (by simp[g5];rw[<-g3];omega)];simp only[mU];rw[jn E,<-hj];simpa using v1) (s' :=s') g14 g15 g16
  refine hgo (by rw[g1];exact hw) ⟨_,g',g17,p1,?_⟩;exact p2.put hd (.ref _ p3 (cJ _) (λ_=>by simp only[Tv.value,hlen];rfl) ⟨_,_,by rw[hlen]⟩)
 split at hk
 ·rename_i z1 es u1 hdst;have hz1:z1=i.size:=dw hz1;obtain⟨xs,vs,k1,k2,k3,k4,k5⟩:=hrow hk;obtain⟨k6,k7⟩:=k1;split at k7
  rotate_left
  exact k7.elim;rename_i hn;have hz0:i.size≠0:=λe0=>by rw[e0]at hn;cases hn
  rw[H4 hz0]at hn;dsimp only at hn;have Rg:vx= .slice none 0 0∧es=[]:=by cases e2 with|pure r=>cases r;exact sD
  obtain⟨Rg,rfl⟩:=Rg;by_cases hx0:xs=[];subst hx0;obtain⟨g',p1,p2,p3⟩:=ad1 h hn ⟨i.size,true,[]⟩ hz0 rfl (s' :={env:=s.env,H:=s.H,hn:=s.hn,R:=aW s.R u1 (some ⟨i.size,true,[]⟩),rn:=u1::s.rn,y:=s.y}) rfl rfl rfl;refine hgo TY ⟨_,g',k7,p1,?_⟩;have:=p2.put hd (.ref _ p3 (cJ _) (λ_=>rfl) ⟨_,_,rfl⟩);exact AL;have hpos:=MW.2 hx0;refine hnew (k:=u1) (r:=⟨i.size,true,[]⟩) (xs:=xs) (olds:=[]) (s' :={env:=s.env,H:=s.H,hn:=s.hn,R:=aW s.R u1 (some ⟨i.size,true,xs⟩),rn:=u1::s.rn,y:=s.y}) Rg (by simpa using k2) rfl k3 k4 k5 rfl (run_firstCells_none _ _ _ _ _) O ES (by simpa using hpos) (by simpa using k6) (.inl hn) hz0 rfl rfl rfl ?_;rw[hdst];exact k7
 ·rename_i k n u1 hdst;cases hr:s.R k with
  |none=>exact nB
  |some r=>
   rw[hr]at hk;dsimp only at hk;have hz0:r.sz≠0:=(qW hr hz1).2;have hz1:r.sz=i.size:=(qW hr hz1).1;obtain⟨xs,vs,k1,k2,k3,k4,k5⟩:=hrow hk;obtain⟨⟨k6,k7⟩,k8⟩:=k1;obtain⟨tv,t1,t2,t3,t4,t5,t6⟩:=h.mem.pA e2 hr k6;have hlen:(r.es++xs).length=r.es.length+xs.length:=O
   have hall:∀x∈r.es++xs,(cells x).length=r.sz:=(by intro x hx;rcases dY.1 hx with hx|hx;exact t5 x hx;rw[hz1];exact k2 x hx);cases hb:tv.base with
   |none=>
    have Rg:vx= .slice none 0 0:=(by rw[t4];simp only[Tv.value,hb]);have hre:r.es=[]∧tv.cap=0:=by have t6:=t6.o hz0;unfold jv at t6;rw[hb]at t6;exact t6
    by_cases hx0:xs=[];subst hx0;refine hgo TY ?_;rw[jV,ab9 hr]at k8;refine⟨_,g,k8,Ext.refl g,?_⟩;have h' :Rel cx g {env:=s.env,H:=s.H,hn:=s.hn,R:=s.R,rn:=s.rn,y:=s.y} a w:=h;have:=h'.put hd (v:= .slice none 0 0) (d:= .ref k r.es.length) (.ref tv t1 (by rw[t3];exact tF) (λ_=>by rw[<-t4,Rg]) (by rw[hre.1];exact Az));exact AL;have hpos:=MW.2 hx0;refine hnew (k:=k) (r:=r) (xs:=xs) (olds:=[]) (s' :={s with R:=aW s.R k (some {r with es:=r.es++xs})}) Rg hall hz1 k3 k4 k5 (by rw[hre.1];rfl) (run_firstCells_none _ _ _ _ _) (by rw[hre.1];simp) (by rw[hre.1];simp[nth]) E k7 (.inr ⟨r,tv,hr,t1,rfl,LR⟩) hz0 rfl rfl rfl ?_;rw[hdst];exact k8
   |some b=>
    have Rg:vx= .slice (some ⟨b,0,none⟩) r.es.length tv.cap:=(by rw[t4];simp only[Tv.value,hb,t3]);by_cases hcap:r.es.length+xs.length<=tv.cap;obtain⟨w',g',f1,f2,f3,f4⟩:=ais (P:=P) h hr hz0 t1 hb (xs:=xs) (by intro x hx;rw[hz1];exact k2 x hx) hcap (by rw[hz1];exact k4) k5;refine hgo (v:= .slice (some ⟨b,0,none⟩) (r.es.length+xs.length) tv.cap) (w' :=w') (by rw[Rg];exact yZ b2 b4 k3 hcap (by rw[<-hz1];exact f1)) ⟨_,g',k8,f2,?_⟩;have:=f3.put hd (v:= .slice (some ⟨b,0,none⟩) (r.es.length+xs.length) tv.cap) (d:= .ref k (r.es++xs).length) (.ref _ f4 (cJ _) (λ_=>by simp only[Tv.value,hb,hlen]) ⟨_,_,by rw[hlen]⟩);exact AL;obtain⟨olds,o1,o2,o3⟩:=zM (P:=P) h hr hz0 t1 (t6.nest hz0) w.drew (λ_ _=>rfl);have hval:tv.value= .slice (some ⟨b,0,none⟩) r.es.length tv.cap:=by rw[<-t4,Rg]
    refine hnew (k:=k) (r:=r) (xs:=xs) (olds:=olds.toList) (s' :={s with R:=aW s.R k (some {r with es:=r.es++xs})}) Rg hall hz1 k3 k4 k5 rfl (by rw[<-hval,<-hz1];simpa using o2) (by rw[<-hz1];simpa using o1)
     (λj x hx=>by obtain⟨v,v1,v2⟩:=o3 j x hx;exact⟨v,by simpa using v1,v2⟩) E k7
     (.inr ⟨r,tv,hr,t1,rfl,?_⟩) hz0 rfl rfl rfl ?_
    have hcap0:r.es.length<=tv.cap:=(by have t6:=t6.o hz0;unfold jv at t6;rw[hb]at t6;dsimp only at t6;rw[<-t3];exact t6.1);rw[hlen];omega;rw[hdst];exact k8
 ·rename_i k n u1 hdst;split at hk
  rotate_left
  exact aq;rename_i q n';split at hk
  rotate_left
  exact aq;rename_i r rq hr hq;cases sv:(rq.own&&Nat.beq rq.sz 1)&& !Nat.beq q k with|false=>exact EA|true=>
  rw[sv]at hk;dsimp only at hk;obtain⟨⟨hn',hn,h32⟩,k8⟩:=hk;simp only[aX,mR]at sv;obtain⟨⟨hqo,hqz⟩,hqk⟩:=sv;have hqz:rq.sz=1:=dw hqz;have hqk:q≠k:=λe=>RN
  have hzz:(match s.R k with|some r=>Nat.beq r.sz 0&&(r.own&&Nat.beq 1 i.size)|none=>false)=true:=hz1;rw[hr]at hzz;simp only[aX]at hzz;have hz:r.sz=0:=dw hzz.1;have hs1:1=i.size:=dw hzz.2.2;obtain⟨tv,t1,t2,t3,t4,_⟩:=e2.wV;obtain⟨q1,q2,q3⟩:=h.mem.sZ t1 t2 hr;obtain⟨_,_,q4⟩:=q3.live hzz.2.1;obtain⟨vq,bl,cl,ey,i1,lv,rv⟩:∃vq bl cl,vy= .slice (some ⟨bl,0,none⟩) 1 cl∧g.I bl 0=some vq∧leaf vq=true∧bD g vq (.ref q n'):=by cases e3 with|pure r=>cases r|lit v hi h1 hr=>exact⟨v,_,_,rfl,hi,h1,hr⟩
  obtain⟨bq,L⟩:=h.mem.loose hq hqz hqo rv hn';have hcl:w.cell? ⟨bl,0,none⟩=some vq:=(h.mem.iw bl 0 vq i1).1;have hfc:∀w' :World,w'.cell? ⟨bl,0,none⟩=some vq->(Builtin.firstCells i.size 1 vy).run P w' = .ok #[vq] w' :=by intro w' hw;rw[ey,<-hs1];have:=run_loadCells (P:=P) w' ⟨bl,0,none⟩ 1 (λ_=>vq) (λj hj=>by have:j=0:=E;subst this;rw[dO];exact hw);simpa[Builtin.firstCells]using this
  have hsrc:Src P i.size u vy 1 [vq] w:=abl (xs:=[.any]) (vs:= #[vq]) (I:=λ_ _=>none) b8 (by intro e he;rw[gg.1 he,<-hs1];rfl) (λw' =>by rw[ey];rfl) (by rw[<-hs1];rfl) (hfc w hcl) (hfc w.drew hcl) (λj x hx=>by cases j with|zero=>cases hx;exact⟨vq,rfl,.any _ lv,lv⟩|succ j=>cases hx);have hlen:(r.es++[au.own rq.es]).length=r.es.length+1:=O
  have hp:nth (r.es++[au.own rq.es]) r.es.length=some (.own rq.es):=uP
  have hp0:∀xs,nth r.es r.es.length≠some (.own xs):=λxs e=>by have:=aH e;omega
  have hes:∀j,j≠r.es.length->nth (r.es++[au.own rq.es]) j=nth r.es j:=by intro j hj;rw[aJ,aJ];by_cases hlt:j<r.es.length;rw[lj hlt];rw[Bq az,Bq E]
  have hval:=t4 E;have hnew:∀{base:Option Addr} {sCap:Nat} {olds:List Value},vx= .slice base r.es.length sCap->(Builtin.firstCells i.size r.es.length (.slice base r.es.length sCap)).run P w.drew= .ok olds.toArray w.drew->
   olds.length=r.es.length->sCap<r.es.length+1->(∀j x,nth r.es j=some x->∀b0 c et ff,tv.base=some b0->w.heap[b0]? =some (.cells c et ff)->olds[j]? =c[j]?)->o.wp P a w (fK cx g K) Q:=by
   intro base sCap olds g1 g8 g9 g11 g12;have hw:=run_append_grow_src w t u o.type e i z b2 b4 b5 base r.es.length sCap olds g8 vy 1 [vq] hsrc g11 E (hfit _ _ g11 h32);have hD:Rel cx g s a w.drew:=⟨h.env,h.size,h.defers,h.mem.drew _⟩;have hge:=grownCap_ge w (r.es.length+1) sCap e;generalize grownCap w (r.es.length+1) sCap e=cap at*;have hcs:((olds++[vq]).toArray++Builtin.zeroCells z.cells (cap - (r.es.length+1))).size=cap:=by simp only[Array.size_append,List.size_toArray,fx,size_zeroCells,b6,g9,tI,<-hs1];omega
   have L' :ah0 cx g w.drew q vq rq.es bq:=⟨L.v,L.b,λb hb=>by obtain⟨z1,z2,z3,z4,z5⟩:=L.i b hb;exact⟨z1,z2,z3,z4.mono (λ_ _ _ e=>e) rfl (λ_=>rfl),z5⟩⟩;obtain⟨g',x1,x2,t',x3,x4,x5,x6,x7⟩:=C9 hD hr hq hzz.2.1 hz hqz hqk t1 t2 L' hp hp0 hes (b:=w.heap.size) (cap' :=cap) (.inl LR) (.inr rfl)
    (w' :=dN w.drew (.cells ((olds++[vq]).toArray++Builtin.zeroCells z.cells (cap - (r.es.length+1))) e (0,0)))
    ⟨rfl,rfl,rfl,x_,λb hb _=>bN w.drew _ b hb⟩ (dd w.drew _) (λo _=>O) (by rw[hlen];exact hge) (by rw[hcs];exact tF)
    (by rw[jC az];simp only[mU];rw[jn E,g9];simp)
    (λj x hj hx b0 c et ff hb0 hc0=>by have hlt:=aH hx;rw[jC az];simp only[mU];rw[lj E];exact g12 j x hx b0 c et ff hb0 hc0)
   refine hgo (by rw[g1];exact hw) ⟨_,g',k8,x1,?_⟩;have:=x2.put hd (v:= .slice (some ⟨w.heap.size,0,none⟩) (r.es.length+1) cap) (d:= .cQ k (r.es.length+1)) (.cQ t' x3 x4 Vv (λ_=>ZM) ⟨_,_,rfl⟩);exact AL
  cases hb:tv.base with
  |none=>
   rw[hb]at q4;dsimp only at q4;have Rg:vx= .slice none 0 0:=by rw[hval];unfold Tv.value;rw[hb]
   refine hnew (olds:=[]) (base:=none) (sCap:=0) (by rw[Rg,q4.1];rfl) (by rw[q4.1];exact run_firstCells_none _ _ _ _ _) (by rw[q4.1];rfl) E (λj x hx=>by rw[q4.1]at hx;simp[nth]at hx)
  |some b=>
   rw[hb]at q4;obtain⟨d0,d1,c,et,ff,d2,d3,d4,d5⟩:=q4;have Rg:vx= .slice (some ⟨b,0,none⟩) r.es.length tv.cap:=by rw[hval];unfold Tv.value;rw[hb,q2]
   by_cases hcap:r.es.length+1<=tv.cap;have hst:=i6 (P:=P) (o:=r.es.length*i.size) [vq] 0 c w d2 d3 (by simp[<-hs1];omega) (λx hx=>by rw[gg.1 hx];exact lv);rw[<-hs1,nG,kH]at hst;have hcs:∀j,((aI c.toList r.es.length [vq]).toArray)[j]? =nth (aI c.toList r.es.length [vq]) j:=λj=>uP
   obtain⟨g',x1,x2,t',x3,x4,x5,x6,x7⟩:=C9 h hr hq hzz.2.1 hz hqz hqk t1 t2 L hp hp0 hes (b:=b) (cap' :=tv.cap) (.inl LR) (.inl hb)
    ((Frame.refl w _).dA b (.cells (aI c.toList r.es.length [vq]).toArray et ff) (.inr rfl)) (dt _ _ _ (cI d2)) (by simpa[aV]using d3) Mo (by simpa[aV]using d4)
    Vi
    (λj x hj hx b0 c' et ff hb0 hc' =>by have hlt:=aH hx;rw[hb]at hb0;cases hb0;rw[d2]at hc';cases hc';rw[hcs,fA];simp only[rJ,tI];rw[Z E,aJ];simp)
   refine hgo (v:= .slice (some ⟨b,0,none⟩) (r.es.length+1) tv.cap) (by rw[Rg];exact yZ b2 b4 hsrc hcap (by rw[<-hs1,nG];exact hst)) ⟨_,g',k8,x1,?_⟩;have:=x2.put hd (v:= .slice (some ⟨b,0,none⟩) (r.es.length+1) tv.cap) (d:= .cQ k (r.es.length+1)) (.cQ t' x3 x4 Vv (λ_=>ZM) ⟨_,_,rfl⟩);exact AL;have hfirst:(Builtin.firstCells i.size r.es.length (.slice (some ⟨b,0,none⟩) r.es.length tv.cap)).run P w.drew= .ok ((List.range r.es.length).map λj=>c.getD j undef).toArray w.drew:=by
    rw[<-hs1];have:=run_loadCells (P:=P) w.drew ⟨b,0,none⟩ r.es.length (λj=>c.getD j undef) (λj hj=>by
     rw[dO,eI];refine(ep d2).trans ?_;have:j<c.size:=E
     simp[this])
    simpa[Builtin.firstCells]using this
   refine hnew (olds:=(List.range r.es.length).map λj=>c.getD j undef) (base:=some ⟨b,0,none⟩) (sCap:=tv.cap) Rg hfirst O E (λj x hx b0 c' et' ff' hb0 hc' => ?_);have hlt:=aH hx;rw[hb]at hb0;cases hb0;rw[d2]at hc';cases hc';have:j<c.size:=E
   simp[hlt,this]
 exact aq
end
def eu:=@List.map_append
def wt:=@List.nodup_append
def uR:=@List.nodup_cons
def yi:=@List.nodup_nil
def VN(h:G:=by rw[h3,fw];omega):=h
def AS(h:G:=by rw[h1];rfl):=h
def EP(h:G:=by cases hd):=h
def EG(h:G:=by exact hlt x (by simp[hx])):=h
section
variable{P:Program}{cx:Cx}{g:Gh}{s:St}{a:Act}{w:World}{o:Oper}{K:St->Prop}{Q:Go.Exit->Act->World->Prop}
def ik.app{I:Nat->Nat->Option Value}{es fs:List MapEntry}{ds xs:List au}(h:ik I es ds)(k:ik I fs xs):ik I (es++fs) (ds++xs):=by induction h with|nil=>exact k|del _ ih=>exact .del ih|cons hk hv _ ih=>exact .cons hk hv ih
theorem ik.flat{I:Nat->Nat->Option Value}{es:List MapEntry}{ds:List au}(h:ik I es ds):∀d∈ds,(cells d).length=0:=by
 induction h with
 |nil=>intro d hd;cases hd|del _ ih=>intro d hd;rcases b_.1 hd with e|e;subst e;rfl;exact ih d e
 |cons _ _ _ ih=>intro d hd;rcases b_.1 hd with e|e;subst e;rfl;exact ih d e
theorem zX{I:Nat->Nat->Option Value}{q:IntKind}{n:Int}{es:List MapEntry}{ds:List au}(h:ik I es ds):∀{i j:Nat},uh q n ds i=some none->Instr.findNow (.int q) (.int q n) es j=some none:=by
 induction h with
 |nil=>intro i j _;rfl|del _ ih=>intro i j e;exact ih (by simpa[uh]using e)
 | @cons e es q' m v ds hk hv _ ih=>
   intro i j e1
   simp only[uh]at e1
   split at e1
   ·rename_i hq
    have hq:=r6 hq
    subst hq
    split at e1
    ·cases e1
    ·rename_i hm
     simp only[Instr.findNow,Instr.sameNow,hk,jX,hm]
     exact ih e1
   ·cases e1
theorem zW{I:Nat->Nat->Option Value}{q:IntKind}{n:Int}{es:List MapEntry}{ds:List au}(h:ik I es ds):∀{i r:Nat},uh q n ds i=some (some r)->∃es1 e es2 ds1 d ds2,es=es1++e::es2∧ds=ds1++ .me (.int q n) d::ds2∧r=i+ds1.length∧ik I es1 ds1∧ik I es2 ds2∧e.key= .int q n∧bM I e.val d∧∀j,Instr.findNow (.int q) (.int q n) es j=some (some (j+es1.length,e.val)):=by
 induction h with
 |nil=>intro i r e;cases e|del _ ih=>intro i r e;obtain⟨es1,e',es2,ds1,d,ds2,h1,h2,h3,h4,h5,h6,h7,h8⟩:=ih (i:=i+1) (r:=r) (by simpa[uh]using e);exact⟨es1,e',es2,.md::ds1,d,ds2,h1,by rw[h2];rfl,VN,.del h4,h5,h6,h7,h8⟩
 | @cons e es q' m v ds hk hv hr ih=>
   intro i r e1
   simp only[uh]at e1
   split at e1
   ·rename_i hq
    have hq:=r6 hq
    subst hq
    split at e1
    ·rename_i hm
     cases e1
     have hm2:n=m:=by simpa using hm
     subst hm2
     refine⟨[],e,es,[],v,ds,rfl,rfl,O,.nil,hr,hk,hv,λj=> ?_⟩
     simp only[Instr.findNow,Instr.sameNow,hk,jX,hm]
     simp
    ·rename_i hm
     obtain⟨es1,e',es2,ds1,d,ds2,h1,h2,h3,h4,h5,h6,h7,h8⟩:=ih (i:=i+1) (r:=r) e1
     refine⟨e::es1,e',es2,.me (.int q' m) v::ds1,d,ds2,AS,by rw[h2];rfl,VN,.cons hk hv h4,h5,h6,h7,λj=> ?_⟩
     simp only[Instr.findNow,Instr.sameNow,hk,jX,hm]
     rw[h8 (j+1),fw]
     congr 3;omega
   ·cases e1
def run_checkKey{t:TypeId}{q:IntKind}(ht:P.underlying t=some (.int q))(e:Bool)(n:Nat)(v:Value)(w:World):(Instr.checkKey e (n+1) t v).run P w= .ok () w:=by simp[Instr.checkKey,run_underlying ht]
def run_findKey{t:TypeId}{q:IntKind}(ht:P.underlying t=some (.int q)){v:Value}{es:List MapEntry}{r:Option (Nat×Value)}(h:Instr.findNow (.int q) v es 0=some r)(w:World):(Instr.findKey t v es).run P w= .ok r w:=by simp[Instr.findKey,run_underlying ht,h]
def XH{b:Nat}{ob:Obj}(h:w.heap[b]? =some ob):dA w b ob=w:=by
 unfold dA;have:w.heap.setIfInBounds b ob=w.heap:=by apply Array.ext_getElem?;intro i;by_cases hi:i=b;subst hi;rw[Array.getElem?_setIfInBounds_self_of_lt (cI h),h];rw[Gm (gB hi)]
 rw[this]
def NR(h:Rel cx g s a w){k:Nat}{row:Row}(hr:s.R k=some row){t:Tv}{b:Nat}{es:Array MapEntry}{clock:Nat}(ht:g.tv k=some t)(hz:t.sz=0∧t.nest=false)(hn:t.n=row.es.length)(hb:t.base=some b)(hm:cx.dX b)(hmu:∀l,g.mu l≠some b)(hI:∀j,g.I b j=none)(aud:w.heap[b]? =some (.map es clock)){es' :Array MapEntry}{clock' :Nat}{ds' :List au}(hrep:Q7 g.I es'.toList clock' ds')(hlen:row.es.length<=ds'.length):∃g',Ext g g' ∧Rel cx g' {s with R:=aW s.R k (some ⟨0,true,ds'⟩)} a (dA w b (.map es' clock')):=by
 have hx:Ext g (g.row k {t with n:=ds'.length}):=by refine g.pz (.inr ⟨t,ht,rfl,λ_=>⟨rfl,λ_=>rfl,λ_ _ e=>e⟩,?_⟩);by_cases he:t.n=ds'.length;right;exact⟨he.symm,rfl,rfl⟩;left;show t.n<ds'.length;omega
 refine⟨_,hx,λu d hd=>(h.env u d hd).mono hx,h.size,h.defers,?_⟩;refine h.mem.setRow (k:=k) (r:=⟨0,true,ds'⟩) (t:={t with n:=ds'.length}) hx rfl rfl (λ_ _=>rfl) ((Frame.refl w _).dA b _ (.inr (.inl hb))) hz.1 rfl (λd hd=>hrep.rep.flat d hd) ?_ ?_ rfl rfl;exact⟨hz.1,λe=>absurd rfl e,λe=>absurd rfl e,λ_ _=>⟨rfl,b,es',clock',hb,hm,hmu,hI,dt _ _ _ (cI aud),hrep⟩,λ_ e=>by(rw[show({t with n:=ds'.length}:Tv).nest=t.nest from rfl,hz.2]at e;cases e)⟩;intro b' hb';have hb' :=hb'.plain hz.2;have:b' =b:=by have arp :t.base=some b' :=hb';rw[hb]at arp;cases arp;rfl
 subst this;refine⟨λj u hj hu hub=>hj (h.mem.k_ j k u t b' hu ht hub (.inl hb)),λo v hv=> ?_⟩;have:g.I b' o=some v:=hv;rw[hI o]at this;cases this
theorem Ju{α:Type}(f:α->α):∀(l:List α) (e:α) (r:List α),(l++e::r).modify l.length f=l++f e::r|[],_,_=>by simp[List.modify]|x::l,e,r=>by have ih:=Ju f l e r;simpa using ih
def xd{t:TypeId}{q:IntKind}(h:Aa P t=some q):∃k e,P.underlying t=some (.map k e)∧P.underlying k=some (.int q)∧mapElem P t=e∧B3 P t=k:=by unfold Aa at h;split at h;rename_i k e ht;split at h;rename_i q' hk;cases h;exact⟨k,e,bG ht O,bG hk O,by simp only[mapElem,ht],by simp only[B3,ht]⟩;cases h;cases h
def Iz(h:Rel cx g s a w)(hd:ji cx.n o.dst=true){t:TypeId}(ho:o.op= .makeMap t none){cf:mN}(hk:aC P cf o.dst s K (cu P o (cY P s))):o.wp P a w (fK cx g K) Q:=by
 simp only[cu,ho]at hk;split at hk
 rotate_left
 exact aq;simp only[aC]at hk;split at hk
 rotate_left
 exact aq;rename_i u hu;split at hk
 rotate_left
 exact aq;rename_i hn;refine bJ (v:= .map (some w.heap.size)) (w' :=dN w (.map #[] 0)) ?_ ?_;simp[execOp,ho,Instr.makeMap,newObj,Sem.run,dN];rw[hu]at hd ⊢;have tV:∀j,g.I w.heap.size j=none:=R2
 have hx:Ext g (g.row u (Tv.pl 0 0 (some w.heap.size) 0)):=g.pz (.inl (h.mem.yr hn));have hrel:Rel cx (g.row u (Tv.pl 0 0 (some w.heap.size) 0)) {s with R:=aW s.R u (some ⟨0,true,[]⟩)} a (dN w (.map #[] 0)):=by refine⟨λu d hd=>(h.env u d hd).mono hx,h.size,h.defers,?_⟩;refine h.mem.setRow (k:=u) (r:=⟨0,true,[]⟩) (t:=(Tv.pl 0 0 (some w.heap.size) 0)) hx rfl rfl (λ_ _=>rfl) ?_ rfl rfl (λd hd=>EP) ?_ ?_ rfl rfl;exact Rm;exact⟨rfl,λe=>absurd rfl e,λe=>absurd rfl e,λ_ _=>⟨rfl,w.heap.size,#[],0,rfl,h.mem.new _ (cJ _),λl hl=>absurd (h.mem.vU hl) (fQ _),tV,dd _ _,⟨.nil,λ_ h=>ie,yi⟩⟩,λ_ e=>bK⟩;intro b hb;have hb:=hb.plain rfl;cases hb;refine⟨λj v hj hv hub=>absurd (h.mem.kK hv hub).1 (fQ _),λo v hv=> ?_⟩;have:g.I w.heap.size o=some v:=hv;rw[tV o]at this;cases this
 have:=hrel.put hd (v:= .map (some w.heap.size)) (d:= .dQ u) (.dQ (Tv.pl 0 0 (some w.heap.size) 0) qD ⟨rfl,rfl⟩ rfl);exact⟨_,_,hk,hx,this.env,this.size,this.defers,this.mem.names rfl rfl⟩
theorem vR(h:Rel cx g s a w){t:TypeId}{m k x:Operand}(ho:o.op= .mapUpdate t m k x∨o.op= .insert t m k x){cf:mN}(hk:aC P cf o.dst s K (cu P o (cY P s))):o.wp P a w (fK cx g K) Q:=by
 rcases ho with ho|ho;all_goals
  simp only[cu,ho]at hk;split at hk
  rotate_left
  exact aq;rename_i q r q' n d hq hm hkey hx;split at hk
  rotate_left
  exact aq;rename_i hqq;have hqq:=r6 hqq;subst hqq;obtain⟨kt,e,t1,t2,t3,t4⟩:=xd hq;simp only[aC]at hk;split at hk;exact aq;rename_i hdst;split at hk;exact aq;rename_i hp;split at hk
  rotate_left
  exact aq;rename_i row hrow;split at hk
  rotate_left
  exact aq;obtain⟨hz,tv,b,es,clock,k1,k2,k3,k4,k5,k6,k7,k8,k9,k10,k11⟩:=h.mem.NS (h.get hm) hrow;have e1:=(h.get hkey).gC;have e2:=jF hp (h.get hx);obtain⟨i,hf,hk⟩:=hk;have hgo:∀{w' :World},(Instr.mapUpdate t (.map (some b)) (.int q' n) (a.eval x)).run P w= .ok () w' ->fK cx g K a w' ->o.wp P a w (fK cx g K) Q:=by intro w' f1 f2;refine OQ (w' :=w') ?_ ?_;simp[execOp,ho,k5,e1,f1];rw[hdst];exact f2
  cases i with
  |none=>have hfn:=zX k11.rep (j:=0) hf;obtain⟨g',h1,h2⟩:=NR h hrow k1 k2 k3 k4 k7 k8 k9 k10 (es' :=es.push {key:= .int q' n,val:=a.eval x,born:=clock}) (clock' :=clock+1) (ds' :=row.es++[.me (.int q' n) d]) (by rw[Array.toList_push];refine⟨k11.rep.app (.cons rfl e2 .nil),λx hx=> ?_,?_⟩;rcases dY.1 hx with hx|hx;exact Nat.lt_succ_of_lt (k11.lt x hx);rw[gg.1 hx];exact gb _;rw[eu,wt];refine⟨k11.nd,O,λa ha c hc=> ?_⟩;obtain⟨x,hx,rfl⟩:=dV.1 ha;have:=k11.lt x hx;simp at hc;omega) O;refine hgo (w' :=dA w b (.map (es.push {key:= .int q' n,val:=a.eval x,born:=clock}) (clock+1))) ?_ ⟨_,g',hk,h1,h2⟩;have hc:(Instr.checkKey false 10000 kt (.int q' n)).run P w= .ok () w:=run_checkKey t2 false 9999 _ w;simp[Instr.mapUpdate,run_underlying t1,mW k10,hc,run_findKey t2 hfn,vn _ k10]
  |some i=>
   obtain⟨es1,e',es2,ds1,d1,ds2,s1,s2,s3,s4,s5,s6,s7,s8⟩:=zW k11.rep hf;have hi:i=ds1.length:=E
   have hset:row.es.set i (.me (.int q' n) d)=ds1++ .me (.int q' n) d::ds2:=(by rw[s2,hi];simp);have hmod:(es.modify (0+es1.length) λe=>{e with key:= .int q' n,val:=a.eval x}).toList=es1++{e' with key:= .int q' n,val:=a.eval x}::es2:=by rw[Array.toList_modify,s1,eI];exact Ju _ _ _ _
   obtain⟨g',h1,h2⟩:=NR h hrow k1 k2 k3 k4 k7 k8 k9 k10 (es' :=es.modify (0+es1.length) λe=>{e with key:= .int q' n,val:=a.eval x}) (clock' :=clock) (ds' :=row.es.set i (.me (.int q' n) d)) (by rw[hset,hmod];have hlt:=k11.lt;have hnd:=k11.nd;rw[s1]at hlt hnd;refine⟨s4.app (.cons rfl e2 s5),λx hx=> ?_,by simpa using hnd⟩;rcases dY.1 hx with hx|hx;exact EG;rcases b_.1 hx with rfl|hx;exact hlt e' O;exact EG) O;refine hgo (w' :=dA w b (.map (es.modify (0+es1.length) λe=>{e with key:= .int q' n,val:=a.eval x}) clock)) ?_ ⟨_,g',hk,h1,h2⟩;have hc:(Instr.checkKey false 10000 kt (.int q' n)).run P w= .ok () w:=run_checkKey t2 false 9999 _ w;have hkey:((es[0+es1.length]?).map (·.key)).getD (.int q' n)= .int q' n:=by have:es[0+es1.length]? =some e' :=(by rw[<-Array.getElem?_toList,s1];simp);rw[this];exact s6
   have hst:(Instr.keyThatStays (.int q' n) (.int q' n)).run P w= .ok (.int q' n) w:=(by simp[Instr.keyThatStays,Instr.sameBits]);simp[Instr.mapUpdate,run_underlying t1,mW k10,hc,run_findKey t2 (s8 0)];simp only[eI]at hkey ⊢;simp[hkey,hst,vn _ k10]
def ac6(ok:Bool){v:Value}{d:au}(b:Bool)(r:bM g.I v d):bD g (if ok then .tuple #[v,.bool b]else v) (match ok with|true=> .bS [d,.bool b]|false=>d):=by cases ok with|false=>exact .pure r|true=>refine .bS rfl (λi u x hu hx=> ?_);match i,hu,hx with|0,hu,hx=>cases hu;cases hx;exact .pure r|1,hu,hx=>cases hu;cases hx;exact .pure (.bool b)
theorem Nl(h:Rel cx g s a w)(hd:ji cx.n o.dst=true){t:TypeId}{m k:Operand}{ok:Bool}(ho:o.op= .lookup t m k ok)(hB:sF P (mapElem P t)=true){cf:mN}(hk:aC P cf o.dst s K (cu P o (cY P s))):o.wp P a w (fK cx g K) Q:=by
 simp only[cu,ho]at hk;split at hk
 rotate_left
 exact aq;rename_i q r q' n hq hm hkey;split at hk
 rotate_left
 exact aq;rename_i hqq;have hqq:=r6 hqq;subst hqq;obtain⟨kt,e,t1,t2,t3,t4⟩:=xd hq;simp only[aC]at hk;split at hk
 rotate_left
 exact aq;rename_i row hrow;split at hk
 rotate_left
 exact aq;obtain⟨hz,tv,b,es,clock,k1,k2,k3,k4,k5,k6,k7,k8,k9,k10,k11⟩:=h.mem.NS (h.get hm) hrow;have e1:=(h.get hkey).gC;obtain⟨i,hf,hk⟩:=hk;rw[t3]at hB hk;have hc:(Instr.checkKey es.isEmpty 10000 kt (.int q' n)).run P w= .ok () w:=run_checkKey t2 _ 9999 _ w;have hgo:∀{v:Value} {d:au},(Instr.lookup t (.map (some b)) (.int q' n) ok).run P w= .ok v w->bD g v d->K (s.put o.dst d)->o.wp P a w (fK cx g K) Q:=by intro v d f1 f2 f3;refine bJ (v:=v) (w' :=w) ?_ (dK h hd f2 f3);simp[execOp,ho,k5,e1,f1]
 cases i with
 |none=>have hfn:=zX k11.rep (j:=0) hf;obtain⟨z,z1,z2,_⟩:=rP hB w;refine hgo (v:=if ok then .tuple #[z,.bool false]else z) ?_ (ac6 ok false (z2 _)) hk;simp[Instr.lookup,run_underlying t1,mW k10,hc,run_findKey t2 hfn,z1]
 |some i=>
  obtain⟨es1,e',es2,ds1,d1,ds2,s1,s2,s3,s4,s5,s6,s7,s8⟩:=zW k11.rep hf;obtain⟨kd,v,hv,hk⟩:=hk;have hi:i=ds1.length:=E
  have:kd= .int q' n∧v=d1:=by rw[hi,aJ,s2]at hv;simp at hv;exact⟨hv.1.symm,hv.2.symm⟩
  obtain⟨_,rfl⟩:=this;refine hgo (v:=if ok then .tuple #[e'.val,.bool true]else e'.val) ?_ (ac6 ok true s7) hk;simp[Instr.lookup,run_underlying t1,mW k10,hc,run_findKey t2 (s8 0)]
theorem Nn(h:Rel cx g s a w)(hd:ji cx.n o.dst=true){c:Call}(hc:c.callee= .builtin .delete)(ho:o.op= .call c)(hn:c.argTypes.size≠0){cf:mN}(hk:aC P cf o.dst s K (cu P o (cY P s))):o.wp P a w (fK cx g K) Q:=by
 simp only[cu,ho,mF,hc]at hk;split at hk;exact aq;rename_i ds hds;have hev:=lW h hds;obtain⟨qq,hrun⟩:=sU hc ho a;have h0:=JK (c:=c) rfl hn;generalize c.argTypes.toList.headD 0=T at*;split at hk
 rotate_left
 exact aq;rename_i q r q' n hq;split at hk
 rotate_left
 exact aq;rename_i hqq;have hqq:=r6 hqq;subst hqq;obtain⟨vm,vk,e0,em,ek⟩:=OY hev rfl;obtain⟨kt,e,t1,t2,t3,t4⟩:=xd hq;simp only[aC]at hk;split at hk;exact aq;rename_i hdst;split at hk
 rotate_left
 exact aq;rename_i row hrow;split at hk
 rotate_left
 exact aq;obtain⟨hz,tv,b,es,clock,k1,k2,k3,k4,k5,k6,k7,k8,k9,k10,k11⟩:=h.mem.NS em hrow;have e1:=ek.gC;obtain⟨i,hf,hk⟩:=hk;have hck:(Instr.checkKey es.isEmpty 10000 kt (.int q' n)).run P w= .ok () w:=run_checkKey t2 _ 9999 _ w;have ea:c.args.map a.eval= #[.map (some b),.int q' n]:=by apply nI;rw[<-k5,<-e1];simpa using e0
 have hgo:∀{w' :World},(Builtin.delete_ c.argTypes o.type #[.map (some b),.int q' n]).run P w= .ok (.tuple #[]) w' ->fK cx g K a w' ->o.wp P a w (fK cx g K) Q:=by intro w' f1 f2;refine bJ (v:= .tuple #[]) (w' :=w') ?_ ?_;rw[hrun,ea];simp[builtin,f1];rw[hdst];exact f2
 cases i with
 |none=>have hfn:=zX k11.rep (j:=0) hf;refine hgo (w' :=w) ?_ ⟨_,g,hk,Ext.refl g,h⟩;have:=vn (P:=P) (.map es clock) k10;rw[XH k10]at this;simp[Builtin.delete_,h0,run_underlying t1,mW k10,hck,run_findKey t2 hfn,this]
 |some i=>
  obtain⟨es1,e',es2,ds1,d1,ds2,s1,s2,s3,s4,s5,s6,s7,s8⟩:=zW k11.rep hf;have hi:i=ds1.length:=E
  have hset:row.es.set i .md=ds1++ .md::ds2:=by rw[s2,hi];simp
  have her:(es.eraseIdxIfInBounds (0+es1.length)).toList=es1++es2:=by rw[Array.toList_eraseIdxIfInBounds,s1,eI];simp[List.eraseIdx_append_of_length_le]
  obtain⟨g',h1,h2⟩:=NR h hrow k1 k2 k3 k4 k7 k8 k9 k10 (es' :=es.eraseIdxIfInBounds (0+es1.length)) (clock' :=clock) (ds' :=row.es.set i .md) (by rw[hset,her];have hlt:=k11.lt;have hnd:=k11.nd;rw[s1]at hlt hnd;refine⟨s4.app (.del s5),λx hx=> ?_,?_⟩;rcases dY.1 hx with hx|hx;exact EG;exact EG;rw[eu]at hnd ⊢;rw[oD,wt]at hnd;rw[wt];exact⟨hnd.1,(uR.1 hnd.2.1).2,λa ha c hc=>hnd.2.2 a ha c (mT _ hc)⟩) O;refine hgo (w' :=dA w b (.map (es.eraseIdxIfInBounds (0+es1.length)) clock)) ?_ ⟨_,g',hk,h1,h2⟩;simp[Builtin.delete_,h0,run_underlying t1,mW k10,hck,run_findKey t2 (s8 0)];simp[vn _ k10]
end
def Z4(h:G:=by intro ds e;subst e;simp[P5]at hb):=h
def Mw(h:G:=by rw[q.1];exact xU):=h
section
variable{P:Program}{cx:Cx}{g:Gh}{s:St}{a:Act}{w:World}
variable{o:Oper}{K:St->Prop}{Q:Exit->Act->World->Prop}
theorem DR(h:Rel cx g s a w){t:Nat}(hd:ji cx.n (some t)=true){v:Value}{d:au}{e:TypeId}(r:bD g v d)(ht:∀ds,d≠.bS ds)(hk:wR s t d K):fK cx g K (a.put (some t) (.pointer (some ⟨w.heap.size,0,none⟩))) (dN w (.cells v.cells e (0,0))):=by
 obtain⟨rc1,rc2⟩:=jE r ht;have Y3 :∀(i:Nat) x,v.cells[i]? =some x->∃y,nth (cells d) i=some y:=λi x hx=>bO (by rw[<-rc1];exact(iX.1 hx).1);obtain⟨g',he,hm,hI⟩:=h.mem.ada (e:=e) r (λi x hx=>let ⟨y,hy⟩:=Y3 i x hx;(rc2 i x y hx hy).2);have h' :Rel cx g' s a (dN w (.cells v.cells e (0,0))):=⟨λu x hx=>(h.env u x hx).mono he,h.size,h.defers,hm⟩;unfold wR at hk;split at hk;rename_i hp;refine⟨_,g',hk,he,h'.put hd (d:= .mA d 0) (.pure ?_)⟩;have pr:=jF hp (r.mono he);have q:=mX pr;have:=bM.mA (I:=g'.I) w.heap.size 0 0 d (λj=>(v.cells[j]?).getD undef) (λj x hx=>by
  have:j<v.cells.size:=Mw;rw[eI,hI];simp[this]) (λj x hx=>by
  have hj:j<v.cells.size:=Mw;have e:v.cells[j]? =some v.cells[j]:=sH
  rw[e];exact(q.2 j _ x e hx).2) (λj x hx=>by
  have hj:j<v.cells.size:=Mw;have e:v.cells[j]? =some v.cells[j]:=sH
  rw[e];exact(q.2 j _ x e hx).1)
 exact mO
 ·cases d with
  |gD f p q=>refine⟨_,g',hk,he,h'.put hd (d:= .tT (.gD f p q)) ?_⟩;obtain⟨vf,vc,e1,_⟩:=r.qR;subst e1;exact .tT (.func f vf vc) (by rw[hI];rfl) rfl (r.mono he)
  |_=>exact aq
def Np(h:Rel cx g s a w)(hd:ji cx.n o.dst=true){t:TypeId}{x:Operand}(ho:o.op= .box t x){d:au}(hx:cY P s t x=some d)(Ac:∀ds,d≠.bS ds){u:Nat}(hu:o.dst=some u)(hk:wR s u d K):o.wp P a w (fK cx g K) Q:=by refine bJ (v:= .pointer (some ⟨w.heap.size,0,none⟩)) (w' :=dN w (.cells (a.eval x).cells t (0,0))) ?_ ?_;simp[execOp,ho,Instr.box,vp];rw[hu]at hd ⊢;exact DR h hd (h.get hx) Ac hk
def Gv(h:Rel cx g s a w)(hd:ji cx.n o.dst=true){t:TypeId}(ho:o.op= .alloc t)(hz:sF P t=true){u:Nat}(hu:o.dst=some u)(hk:wR s u (rD P 8 t) K):o.wp P a w (fK cx g K) Q:=by obtain⟨v,hv,hr,_⟩:=rP hz w;refine bJ (v:= .pointer (some ⟨w.heap.size,0,none⟩)) (w' :=dN w (.cells v.cells t (0,0))) ?_ ?_;simp[execOp,ho,Instr.alloc,hv,vp];rw[hu]at hd ⊢;exact DR h hd (.pure (hr _)) (DF _ _ _) hk
end
section
variable{P:Program}{cx:Cx}{g:Gh}{s:St}{a:Act}{w:World}
def opB(P:Program)(n:Nat)(o:Oper):Bool:=ji n o.dst&&match o.op with
 | .move _=>true| .assign _=>true| .pick _ _ _=>true| .alloc t=>sF P t| .box _ _=>true| .build t ps=>H0 P t ps| .buildSlice t n _=>sliceB P t n| .load t _=>oI P t| .store t _ _=>oI P t&&WL o.dst| .nilCheck _=>true| .binOp op t _ _ _=>at1 P op t| .unOp _ _ _=>true| .convert s d _=>ag0 P s d| .makeFunc _ _ _=>true| .slice t _ _ _ none=>amh P t| .fieldAddr t _ f=>xm P t f| .field t _ f=>xm P t f| .indexAddr t _ _=>SU P t| .index t _ _=>Tj P t| .extract _ _=>true| .makeMap _ none=>true| .makeSlice t _ _=>adu P t| .mapUpdate _ _ _ _=>true| .insert _ _ _ _=>true| .lookup t _ _ _=>sF P (mapElem P t)
 | .call c=>match c.callee with
   | .builtin .len=> !Nat.beq c.argTypes.size 0
   | .builtin .append=>F8 P c
   | .builtin .delete=> !Nat.beq c.argTypes.size 0
   | .builtin .min=>true
   | .builtin .max=>true
   | .value _=>true
   |_=>false
 |_=>false
theorem Pb(h:Rel cx g s a w){o:Oper}(hB:opB P cx.n o=true)(hc:lD o=false){c:mN}{K:St->Prop}{Q:Exit->Act->World->Prop}(hk:aC P c o.dst s K (cu P o (cY P s))):o.wp P a w (fK cx g K) Q:=by
 unfold opB at hB;rw[aX]at hB;obtain⟨hd,hB⟩:=hB;cases ho:o.op with
 |move x=>simp only[cu,ho]at hk;split at hk;rename_i d hx;exact Gt h hd (.inl ho) hx hk;exact aq|assign x=>simp only[cu,ho]at hk;split at hk;rename_i d hx;exact Gt h hd (.inr ho) hx hk;exact aq|pick c' x y=>simp only[cu,ho]at hk;split at hk;rename_i b hb;exact Si h hd ho hb hk;exact aq|alloc t=>rw[ho]at hB;simp only[cu,ho,aC]at hk;split at hk;rename_i u hu;split at hk;split at hk;rename_i hn;exact Ph h hd ho hB hu hn hk;exact aq;exact Gv h hd ho hB hu hk;exact aq|box t x=>simp only[cu,ho]at hk;split at hk;rename_i d hx;split at hk;rename_i hb;simp only[aX,mR]at hb;simp only[aC]at hk;split at hk;rename_i u hu;split at hk;split at hk;rename_i hn;exact Xy h hd ho hx Z4 hu hn hk;exact aq;exact Np h hd ho hx Z4 hu hk;exact aq;exact aq;exact aq|build t ps=>rw[ho]at hB;exact Pe h hd ho hB hk|buildSlice t n ps=>rw[ho]at hB;exact C3 h hd ho hB hk|load t x=>rw[ho]at hB;simp only[cu,ho]at hk;split at hk;rename_i d hx;exact Sj h hd ho hB hx hk;exact aq
 |store t x y=>
  rw[ho]at hB;simp only[aX]at hB;have hn:o.dst=none:=by cases hdst:o.dst with|none=>rfl|some u=>simp[hdst,WL]at hB
  simp only[cu,ho]at hk;split at hk;rename_i p hx;split at hk;rename_i d hy;exact O_ h ho hn hB.1 hx hy hk;exact aq;exact aq
 |nilCheck x=>exact Gs h hd ho hk|binOp op t x y t' =>rw[ho]at hB;exact Pf h hd ho hB hk|unOp op t x=>exact Sg h hd ho hk|convert s d x=>rw[ho]at hB;exact IB h hd ho hB hk|makeFunc fn first cap=>exact Gu h hd ho hk
 |slice t x lo hi mx=>cases mx with|none=>rw[ho]at hB;exact O' h hd ho hB hk|some m=>rw[ho]at hB;cases hB
 |fieldAddr t x f=>rw[ho]at hB;exact Ef h hd ho hB hk|field t x f=>rw[ho]at hB;exact Pd h hd ho hB hk|indexAddr t x y=>rw[ho]at hB;exact Ee h hd ho hB hk|index t x y=>rw[ho]at hB;exact Pc h hd ho hB hk|extract x i=>exact IA h hd ho hk|makeSlice t x y=>rw[ho]at hB;exact Ed h hd ho hB hk|makeMap t r=>cases r with|none=>exact Iz h hd ho hk|some r=>rw[ho]at hB;cases hB
 |mapUpdate t m k x=>exact vR h (.inl ho) hk|insert t m k x=>exact vR h (.inr ho) hk|lookup t x i ok=>rw[ho]at hB;exact Nl h hd ho hB hk|call c' =>rw[ho]at hB;dsimp only at hB;cases hce:c'.callee with|value f=>simp[lD,ho,hce]at hc|invoke r m=>rw[hce]at hB;cases hB|builtin b=>rw[hce]at hB;cases b<;>first|exact Nq h hd hce ho hB hk|exact Jd h hd (.inl hce) ho hk|exact Jd h hd (.inr hce) ho hk|(refine Xx h hd hce ho (λe=> ?_) hk;rw[e]at hB;cases hB)|(refine Nn h hd hce ho (λe=> ?_) hk;rw[e]at hB;cases hB)|cases hB
 |_=>rw[ho]at hB;cases hB
end
def Gf:=@Nat.add_sub_cancel_left
def ym:=@List.prefix_refl
def M9:=@Option.bind_eq_some_iff
def LW(h:G:=by simp[nth]at hk):=h
def Rx(h:G:=by obtain⟨d',e1,e2⟩:=r2 i x (by simpa[nth]using hx);exact⟨d',e1,e2.pre l1.ext⟩):=h
def EO(h:G:=by have:=(iX.1 hv).1;omega):=h
def Va(h:G:=by obtain⟨s1,d1,g1,k1,l1,_,_,r1⟩:=oS h hk;exact join l1 (fh.refl _) (Handed.NF r1) k1):=h
def UJ(h:G:=by simp[nth]at hx;subst hx;exact⟨d1,rfl,hh.mono l2.ext m2.pre m2'.pre⟩):=h
theorem GU:∀(ls:List Nat) (i l j:Nat),place ls i l=some j->i<=j∧nth ls (j - i)=some l|[],_,_,_,h=>by simp[place]at h|x::xs,i,l,j,h=>by simp only[place]at h;cases hb:Nat.beq x l with|true=>rw[hb]at h;simp at h;subst h;have:=dw hb;subst this;exact⟨cJ _,ES⟩|false=>rw[hb]at h;obtain⟨h1,h2⟩:=GU xs (i+1) l j h;refine⟨E,?_⟩;rw[show j - i=(j - (i+1))+1 by omega];exact h2
def e_{ls:List Nat}{l j:Nat}(h:place ls 0 l=some j):nth ls j=some l:=(GU ls 0 l j h).2
theorem zT:∀(ls:List Nat) (i l:Nat),place ls i l=none->l∉ls|[],_,_,_=>by simp|x::xs,i,l,h=>by simp only[place]at h;cases hb:Nat.beq x l with|true=>rw[hb]at h;simp at h|false=>rw[hb]at h;have h1:=zT xs (i+1) l h;intro hm;rcases b_.1 hm with e|e;subst e;simp at hb;exact h1 e
def dr{α:Type}{l:List α}{i:Nat}{x:α}(h:nth l i=some x):x∈l:=K6
def jd{ls:List Nat}{l j:Nat}(hn:ls.Nodup)(h:nth ls j=some l):place ls 0 l=some j:=by cases hp:place ls 0 l with|none=>exact absurd (dr h) (zT _ _ _ hp)|some i=>have:=e_ hp;rw[aJ]at this h;obtain⟨a1,a2⟩:=rK.1 this;obtain⟨b1,b2⟩:=rK.1 h;have:=(List.getElem_inj hn (i:=i) (j:=j) (h₀:=a1) (h₁:=b1)).1 (a2.trans b2.symm);rw[this]
def lu{α:Type}{l m:List α}(h:l<+:m){i:Nat}{x:α}(hx:nth l i=some x):nth m i=some x:=by obtain⟨t,rfl⟩:=h;have:=aH hx;rw[aJ]at*;rw[lj this];exact hx
def Gh.sub(g:Gh)(ls ks:List Nat):Gh:=⟨g.I,λl=>if 1000<=l then(nth ls (l - 1000)).bind g.mu else none,λk=>if 1000<=k then(nth ks (k - 1000)).bind g.tv else none⟩
def Nj(g:Gh){ls ks:List Nat}{i l:Nat}(h:nth ls i=some l):(g.sub ls ks).mu (1000+i)=g.mu l:=by simp[Gh.sub,h]
def zJ(g:Gh){ls ks:List Nat}{i k:Nat}(h:nth ks i=some k):(g.sub ls ks).tv (1000+i)=g.tv k:=by simp[Gh.sub,h]
def j0{g:Gh}{ls ks:List Nat}{l b:Nat}(h:(g.sub ls ks).mu l=some b):∃i l',l=1000+i∧nth ls i=some l' ∧g.mu l' =some b:=by simp only[Gh.sub]at h;split at h;rename_i hl;obtain⟨l',h1,h2⟩:=M9.1 h;exact⟨l - 1000,l',E,h1,h2⟩;cases h
def mV{g:Gh}{ls ks:List Nat}{k:Nat}{t:Tv}(h:(g.sub ls ks).tv k=some t):∃i k',k=1000+i∧nth ks i=some k' ∧g.tv k' =some t:=by simp only[Gh.sub]at h;split at h;rename_i hl;obtain⟨l',h1,h2⟩:=M9.1 h;exact⟨k - 1000,l',E,h1,h2⟩;cases h
def bD.Wj{g:Gh}{ls ks:List Nat}{i k n:Nat}{v:Value}(r:bD g v (.ref k n))(h:nth ks i=some k):bD (g.sub ls ks) v (.ref (1000+i) n):=by cases r with|pure r=>cases r|ref t ht hn hv h1=>exact .ref t ((zJ g h).trans ht) hn hv h1
def bD.ai3{g:Gh}{ls ks:List Nat}{i l off:Nat}{v:Value}(r:bD g v (.ptr l off))(h:nth ls i=some l):bD (g.sub ls ks) v (.ptr (1000+i) off):=by cases r with|pure r=>cases r|ptr hb=>exact .ptr ((Nj g h).trans hb)
def bD.PH{g:Gh}{ls ks:List Nat}{i k:Nat}{v:Value}(r:bD g v (.dQ k))(h:nth ks i=some k):bD (g.sub ls ks) v (.dQ (1000+i)):=by cases r with|pure r=>cases r|dQ t ht hz hb=>exact .dQ t ((zJ g h).trans ht) hz hb
def bD.PA{g:Gh}{ls ks:List Nat}{i k n:Nat}{v:Value}(r:bD g v (.cQ k n))(h:nth ks i=some k):bD (g.sub ls ks) v (.cQ (1000+i) n):=by cases r with|pure r=>cases r|cQ t ht hz hn hv h1=>exact .cQ t ((zJ g h).trans ht) hz hn hv h1
structure fh(ls ls' :List Nat):Prop where
 pre:ls<+:ls'
 nodup:ls.Nodup->ls'.Nodup
def fh.refl(ls:List Nat):fh ls ls:=⟨ym _,id⟩
theorem fh.trans{a b c:List Nat}(h:fh a b)(k:fh b c):fh a c:=⟨h.pre.trans k.pre,λx=>k.nodup (h.nodup x)⟩
def fh.snoc{ls:List Nat}{l:Nat}(h:place ls 0 l=none):fh ls (ls++[l]):=⟨List.prefix_append _ _,λhn=>by have:=zT _ _ _ h;rw[wt];exact⟨hn,O,λa ha b hb=>by simp at hb;subst hb;intro e;subst e;exact this ha⟩⟩
def BQ(ls:List Nat)(l:Nat):nth (ls++[l]) ls.length=some l:=by simp[aJ]
section
variable{P:Program}{cx:Cx}{a:Act}{w:World}
def Handed(g' :Gh)(ls' ks' :List Nat)(g:Gh)(d d' :au):Prop:=∀gf Re vY,Ext g' gf->ls' <+:Re->ks' <+:vY->∀v,bD g v d->bD (gf.sub Re vY) v d'
def Handed.NF{g g' :Gh}{ls ks:List Nat}{d d' :au}(h:∀v,bD g v d->bM g'.I v d'):Handed g' ls ks g d d' :=λgf _ _ he _ _ v hv=> .pure ((h v hv).mono he.I)
def Handed.mono{g g' g'' :Gh}{ls ls' ks ks' :List Nat}{d d' :au}(h:Handed g' ls ks g d d')(he:Ext g' g'')(hl:ls<+:ls')(hk:ks<+:ks'):Handed g'' ls' ks' g d d' :=λgf Re vY e1 e2 e3 v hv=>h gf Re vY (he.trans e1) (hl.trans e2) (hk.trans e3) v hv
def Handed.pre{g0 g g' :Gh}{ls ks:List Nat}{d d' :au}(h:Handed g' ls ks g d d')(he:Ext g0 g):Handed g' ls ks g0 d d' :=λgf Re vY e1 e2 e3 v hv=>h gf Re vY e1 e2 e3 v (hv.mono he)
theorem Handed.ptr{g g' :Gh}{ls ks:List Nat}{i l off:Nat}(h:nth ls i=some l)(he:Ext g g'):Handed g' ls ks g (.ptr l off) (.ptr (1000+i) off):=λgf Re vY e1 e2 _ v hv=>(hv.mono (he.trans e1)).ai3 (lu e2 h)
def Handed.same{g g' :Gh}{ls ks:List Nat}{d:au}(h:ew d=true)(he:Ext g g'):Handed g' ls ks g d d:=λgf _ _ e1 _ _ v hv=> .pure ((jF h hv).mono (he.trans e1).I)
theorem tW:∀(ds:List au) {ls:List Nat} {K:List Nat->List au->Prop},ia ls ds K->∃ls' ds',K ls' ds' ∧fh ls ls' ∧ds'.length=ds.length∧∀(i:Nat) d,nth ds i=some d->∃d',nth ds' i=some d' ∧∀g ks,Handed g ls' ks g d d'
 |[],ls,K,hk=>⟨ls,[],hk,fh.refl _,rfl,λi d hd=>qC⟩
 |d::ds,ls,K,hk=>by
  have join:∀{sq:List Nat} {d1:au},fh ls sq->(∀g ks,Handed g sq ks g d d1)->ia sq ds (λls ds=>K ls (d1::ds))->
   ∃ls' ds',K ls' ds' ∧fh ls ls' ∧ds'.length=(d::ds).length∧∀(i:Nat) x,nth (d::ds) i=some x->∃d',nth ds' i=some d' ∧∀g ks,Handed g ls' ks g x d' :=by
   intro sq d1 m1 hh hk;obtain⟨SK,ds2,k2,m2,n2,r2⟩:=tW ds hk;refine⟨SK,d1::ds2,k2,m1.trans m2,sG,λi x hx=> ?_⟩;cases i with|zero=>simp[nth]at hx;subst hx;exact⟨d1,rfl,λg ks=>(hh g ks).mono (Ext.refl g) m2.pre (ym _)⟩|succ i=>exact r2 i x uC
  simp only[pC]at hk;split at hk;split at hk;rename_i i hi;exact join (fh.refl _) (λg ks=>Handed.ptr (e_ hi) (Ext.refl g)) hk;rename_i hi;exact join (fh.snoc hi) (λg ks=>Handed.ptr (BQ _ _) (Ext.refl g)) hk;split at hk;rename_i hp;exact join (fh.refl _) (λg ks=>Handed.same hp (Ext.refl g)) hk;exact aq
def B'{ls:List Nat}{d:au}{K:List Nat->au->Prop}(hk:pD ls d K):∃ls' d',K ls' d' ∧fh ls ls' ∧∀g ks,Handed g ls' ks g (.tT d) d' :=by unfold pD at hk;split at hk;rename_i f a b;obtain⟨sq,a',k1,m1,n1,r1⟩:=tW a hk;obtain⟨SK,b',k2,m2,n2,r2⟩:=tW b k1;refine⟨SK,_,k2,m1.trans m2,λg ks gf Re vY e1 e2 e3 v hv=> ?_⟩;obtain⟨bk,x,rfl,i1,l1,hr⟩:=hv.NA;refine .tT x (e1.I _ _ _ i1) l1 ?_;obtain⟨vf,vc,rfl,hf,hc,rf,rc⟩:=hr.qR;refine .gD E E (λi v d hv hd=> ?_) (λi v d hv hd=> ?_);have hi:i<a.length:=EO;obtain⟨x,hx⟩:=bO hi;obtain⟨d',p1,p2⟩:=r1 i x hx;rw[hd]at p1;cases p1;exact p2 g ks gf Re vY e1 (m2.pre.trans e2) e3 v (rf i v x hv hx);have hi:i<b.length:=EO;obtain⟨x,hx⟩:=bO hi;obtain⟨d',p1,p2⟩:=r2 i x hx;rw[hd]at p1;cases p1;exact p2 g ks gf Re vY e1 e2 e3 v (rc i v x hv hx);exact aq
theorem r9:∀(ds:List au) {g:Gh} {s:St} {ls ks:List Nat} (_:Rel cx g s a w) {K:St->List Nat->List Nat->List au->Prop},fI s ls ks ds K->∃s' ls' ks' ds' g',K s' ls' ks' ds' ∧Laid cx g s a w s' g' ∧fh ls ls' ∧fh ks ks' ∧ds'.length=ds.length∧∀(i:Nat) d,nth ds i=some d->∃d',nth ds' i=some d' ∧Handed g' ls' ks' g d d'
 |[],g,s,ls,ks,h,K,hk=>⟨s,ls,ks,[],g,hk,Laid.refl h,fh.refl _,fh.refl _,rfl,λi d hd=>qC⟩
 |d::ds,g,s,ls,ks,h,K,hk=>by
  have join:∀{s1:St} {sq:List Nat} {d1:au} {g1:Gh},Laid cx g s a w s1 g1->fh ls sq->Handed g1 sq ks g d d1->
   fI s1 sq ks ds (λs ls ks ds=>K s ls ks (d1::ds))->
   ∃s' ls' ks' ds' g',K s' ls' ks' ds' ∧Laid cx g s a w s' g' ∧fh ls ls' ∧fh ks ks' ∧ds'.length=(d::ds).length∧∀(i:Nat) x,nth (d::ds) i=some x->∃d',nth ds' i=some d' ∧Handed g' ls' ks' g x d' :=by
   intro s1 sq d1 g1 l1 m1 hh hk;obtain⟨s2,SK,su,ds2,g2,k2,l2,m2,m2',n2,r2⟩:=r9 ds l1.rel hk;refine⟨s2,SK,su,d1::ds2,g2,k2,l1.trans l2,m1.trans m2,m2',sG,λi x hx=> ?_⟩;cases i with|zero=>exact UJ|succ i=>exact Rx
  simp only[n_,js]at hk;split at hk;rename_i l off;split at hk;rename_i i hi;exact join (Laid.refl h) (fh.refl _) (Handed.ptr (e_ hi) (Ext.refl g)) hk;rename_i hi;exact join (Laid.refl h) (fh.snoc hi) (Handed.ptr (BQ _ _) (Ext.refl g)) hk;obtain⟨sq,d1,k1,m1,r1⟩:=B' hk;exact join (Laid.refl h) m1 (r1 g ks) k1;exact Va
def HJ{d:au}{g:Gh}{s:St}{ls ks:List Nat}(h:Rel cx g s a w){K:St->List Nat->List Nat->au->Prop}(hk:fH s ls ks d K):∃s' ls' ks' d' g',K s' ls' ks' d' ∧Laid cx g s a w s' g' ∧fh ls ls' ∧fh ks ks' ∧Handed g' ls' ks' g d d' :=by
 unfold fH at hk;split at hk;rename_i l off;split at hk;rename_i i hi;exact⟨s,ls,ks,_,g,hk,Laid.refl h,fh.refl _,fh.refl _,Handed.ptr (e_ hi) (Ext.refl g)⟩;rename_i hi;exact⟨s,_,ks,_,g,hk,Laid.refl h,fh.snoc hi,fh.refl _,Handed.ptr (BQ _ _) (Ext.refl g)⟩;rename_i fn first cap
 obtain⟨s1,sq,nZ,first',g1,k0,l0,o1,o2,n0,r0⟩:=r9 first h hk
 obtain⟨s',ls',ks',cap',g',k1,l1,m1,m2,n1,r1⟩:=r9 cap l0.rel k0;refine⟨s',ls',ks',_,g',k1,l0.trans l1,o1.trans m1,o2.trans m2,λgf Re vY e1 e2 e3 v hv=> ?_⟩;obtain⟨vf,vc,rfl,hf,hc,rf,rc⟩:=hv.qR;refine .gD E E (λi v d hv hd=> ?_) (λi v d hv hd=> ?_);have hi:i<first.length:=EO
 obtain⟨x,hx⟩:=bO hi;obtain⟨d',p1,p2⟩:=r0 i x hx;rw[hd]at p1;cases p1;exact p2 gf Re vY (l1.ext.trans e1) (m1.pre.trans e2) (m2.pre.trans e3) v (rf i v x hv hx);have hi:i<cap.length:=EO;obtain⟨x,hx⟩:=bO hi;obtain⟨d',p1,p2⟩:=r1 i x hx;rw[hd]at p1;cases p1;exact p2 gf Re vY e1 e2 e3 v ((rc i v x hv hx).mono l0.ext);obtain⟨sq,d1,k1,m1,r1⟩:=B' hk;exact⟨s,sq,ks,d1,g,k1,Laid.refl h,m1,fh.refl _,r1 g ks⟩;obtain⟨s1,d1,g1,k1,l1,_,_,r1⟩:=oS h hk;exact⟨s1,ls,ks,d1,g1,k1,l1,fh.refl _,fh.refl _,Handed.NF r1⟩
def zV{ks:List Nat}{k:Nat}{K:List Nat->Nat->Prop}(hk:named ks k K):∃ks' i,K ks' (1000+i)∧fh ks ks' ∧nth ks' i=some k:=by unfold named at hk;split at hk;rename_i i hi;exact⟨ks,i,hk,fh.refl _,e_ hi⟩;rename_i hi;exact⟨_,_,hk,fh.snoc hi,BQ _ _⟩
def vH{s:St}{ks:List Nat}{k n:Nat}{K:List Nat->au->Prop}(hk:jz s ks k n K):∃ks' d',K ks' d' ∧fh ks ks' ∧((∃i,d' = .ref (1000+i) n∧nth ks' i=some k)∨∃r,s.R k=some r∧(r.sz≠0∧r.own=false)∧n=r.es.length∧d' = .sl r.sz r.es false):=by unfold jz at hk;split at hk;rename_i r hr;obtain⟨hn,hk⟩:=hk;split at hk;obtain⟨ks',i,h1,h2,h3⟩:=zV hk;rw[<-hn]at h1;exact⟨ks',_,h1,h2,.inl ⟨i,rfl,h3⟩⟩;rename_i hown;split at hk;exact aq;rename_i hz;exact⟨ks,_,hk,fh.refl _,.inr ⟨r,hr,⟨(λe=>by(rw[e]at hz;cases hz)),hown⟩,hn,rfl⟩⟩;exact aq
def vI{s:St}{ks:List Nat}{k:Nat}{K:List Nat->au->Prop}(hk:j_ s ks k K):∃ks' i,K ks' (.dQ (1000+i))∧fh ks ks' ∧nth ks' i=some k:=by unfold j_ at hk;split at hk;exact zV hk;exact aq
def tX{s:St}{ks:List Nat}{k n:Nat}{K:List Nat->au->Prop}(hk:iI s ks k n K):∃ks' i,K ks' (.cQ (1000+i) n)∧fh ks ks' ∧nth ks' i=some k:=by unfold iI at hk;split at hk;exact zV hk;exact aq
theorem Handed.cQ{g g' :Gh}{ls ks:List Nat}{i k n:Nat}(h:nth ks i=some k)(he:Ext g g'):Handed g' ls ks g (.cQ k n) (.cQ (1000+i) n):=λgf Re vY e1 _ e3 v hv=>(hv.mono (he.trans e1)).PA (lu e3 h)
theorem Handed.dQ{g g' :Gh}{ls ks:List Nat}{i k:Nat}(h:nth ks i=some k)(he:Ext g g'):Handed g' ls ks g (.dQ k) (.dQ (1000+i)):=λgf Re vY e1 _ e3 v hv=>(hv.mono (he.trans e1)).PH (lu e3 h)
theorem Handed.ref{g g' :Gh}{ls ks:List Nat}{i k n:Nat}(h:nth ks i=some k)(he:Ext g g'):Handed g' ls ks g (.ref k n) (.ref (1000+i) n):=λgf Re vY e1 _ e3 v hv=>(hv.mono (he.trans e1)).Wj (lu e3 h)
def Handed.row{s:St}{g g' :Gh}{ls ks:List Nat}{k n:Nat}{d' :au}(hz:Fz s g)(h:(∃i,d' = .ref (1000+i) n∧nth ks i=some k)∨∃r,s.R k=some r∧(r.sz≠0∧r.own=false)∧n=r.es.length∧d' = .sl r.sz r.es false)(he:Ext g g'):Handed g' ls ks g (.ref k n) d' :=by rcases h with⟨i,rfl,h⟩|⟨r,h1,h2,h3,rfl⟩;exact Handed.ref h he;exact Handed.NF λv hv=>(hz k r h1 h2 n v hv h3).mono he.I
theorem xg(f_:Bool):∀(ds:List au) {g:Gh} {s:St} {ls ks:List Nat} (_:Rel cx g s a w) {K:St->List Nat->List Nat->List au->Prop},eY f_ s ls ks ds K->∃s' ls' ks' ds' g',K s' ls' ks' ds' ∧Laid cx g s a w s' g' ∧fh ls ls' ∧fh ks ks' ∧ds'.length=ds.length∧∀(i:Nat) d,nth ds i=some d->∃d',nth ds' i=some d' ∧Handed g' ls' ks' g d d'
 |[],g,s,ls,ks,h,K,hk=>⟨s,ls,ks,[],g,hk,Laid.refl h,fh.refl _,fh.refl _,rfl,λi d hd=>qC⟩
 |d::ds,g,s,ls,ks,h,K,hk=>by
  have join:∀{s1:St} {sq nZ:List Nat} {d1:au} {g1:Gh},Laid cx g s a w s1 g1->fh ls sq->fh ks nZ->Handed g1 sq nZ g d d1->
   eY f_ s1 sq nZ ds (λs ls ks ds=>K s ls ks (d1::ds))->
   ∃s' ls' ks' ds' g',K s' ls' ks' ds' ∧Laid cx g s a w s' g' ∧fh ls ls' ∧fh ks ks' ∧ds'.length=(d::ds).length∧∀(i:Nat) x,nth (d::ds) i=some x->∃d',nth ds' i=some d' ∧Handed g' ls' ks' g x d' :=by
   intro s1 sq nZ d1 g1 l1 m1 m1' hh hk;obtain⟨s2,SK,su,ds2,g2,k2,l2,m2,m2',n2,r2⟩:=xg f_ ds l1.rel hk;refine⟨s2,SK,su,d1::ds2,g2,k2,l1.trans l2,m1.trans m2,m1'.trans m2',sG,λi x hx=> ?_⟩;cases i with|zero=>exact UJ|succ i=>exact Rx
  simp only[lT,kE]at hk;split at hk;rename_i k n;obtain⟨ks',d',h1,h2,h3⟩:=vH hk;exact join (Laid.refl h) (fh.refl _) h2 (Handed.row h.mem.fz h3 (Ext.refl g)) h1;obtain⟨ks',i,h1,h2,h3⟩:=vI hk;exact join (Laid.refl h) (fh.refl _) h2 (Handed.dQ h3 (Ext.refl g)) h1;obtain⟨ks',i,h1,h2,h3⟩:=tX hk;exact join (Laid.refl h) (fh.refl _) h2 (Handed.cQ h3 (Ext.refl g)) h1;obtain⟨s1,sq,nZ,d1,g1,k1,l1,m1,m1',r1⟩:=HJ h hk;exact join l1 m1 m1' r1 k1
def pg(s:St)(ks' :List Nat)(d d' :au):Prop:=(cells d').length=(cells d).length∧∀(g:Gh) (_:Fz s g) (ls vY:List Nat),ks' <+:vY->∀(i:Nat) v x x',nth (cells d) i=some x->nth (cells d') i=some x' ->bD g v x->bD (g.sub ls vY) v x'
def bD.acf{g:Gh}{ls ks:List Nat}{v:Value}{d:au}(h:ew d=true)(r:bD g v d):bD (g.sub ls ks) v d:= .pure (jF (g:=g) h r)
def zQ{d:au}(h:ew d=true){i:Nat}{x:au}(hx:nth (cells d) i=some x):ew x=true:=by cases d with|agg cs=>exact(DP cs h i x hx).1|_=>cases i<;>simp[cells,nth]at hx<;>(subst hx;exact h)
theorem tY(s:St):∀(ds:List au) {ks:List Nat} {K:List Nat->List au->Prop},gG s ks ds K->∃ks' ds',K ks' ds' ∧fh ks ks' ∧ds'.length=ds.length∧(∀d∈ds',cells d=[d])∧(∀y∈ds,cells y=[y])∧∀(g:Gh) (_:Fz s g) (ls vY:List Nat),ks' <+:vY->∀(i:Nat) v x x',nth ds i=some x->nth ds' i=some x' ->bD g v x->bD (g.sub ls vY) v x'
 |[],ks,K,hk=>⟨ks,[],hk,fh.refl _,rfl,O,O,λ_ _ _ _ _ i v x x' hx=>by simp[nth]at hx⟩
 |d::ds,ks,K,hk=>by
  have join:∀{nZ:List Nat} {d1:au},fh ks nZ->cells d1=[d1]->cells d=[d]->(∀(g:Gh) (_:Fz s g) (ls vY:List Nat),nZ<+:vY->∀v,bD g v d->bD (g.sub ls vY) v d1)->
   gG s nZ ds (λks ds=>K ks (d1::ds))->
   ∃ks' ds',K ks' ds' ∧fh ks ks' ∧ds'.length=(d::ds).length∧(∀d∈ds',cells d=[d])∧(∀y∈d::ds,cells y=[y])∧∀(g:Gh) (_:Fz s g) (ls vY:List Nat),ks' <+:vY->∀(i:Nat) v x x',nth (d::ds) i=some x->nth ds' i=some x' ->bD g v x->bD (g.sub ls vY) v x' :=by
   intro nZ d1 m1 ha hb hh hk;obtain⟨su,ds2,k2,m2,n2,a2,b2,r2⟩:=tY s ds hk;refine⟨su,d1::ds2,k2,m1.trans m2,sG,?_,?_,λg hz ls vY hp i v x x' hx hx' hv=> ?_⟩;intro y hy;rcases b_.1 hy with e|e;subst e;exact ha;exact a2 y e;intro y hy;rcases b_.1 hy with e|e;subst e;exact hb;exact b2 y e;cases i with|zero=>simp[nth]at hx hx';subst hx hx';exact hh g hz ls vY (m2.pre.trans hp) v hv|succ i=>exact r2 g hz ls vY hp i v x x' uC (by simpa[nth]using hx') hv
  simp only[dW,dF]at hk;split at hk;rename_i k n;obtain⟨ks',d',h1,h2,h3⟩:=vH hk;refine join h2 ?_ rfl (λg hz ls vY hp v hv=> ?_) h1;rcases h3 with⟨i,rfl,_⟩|⟨r,_,_,_,rfl⟩<;>rfl;rcases h3 with⟨i,rfl,h4⟩|⟨r,q1,q2,q3,rfl⟩;exact hv.Wj (lu hp h4);exact .pure (hz k r q1 q2 n v hv q3);obtain⟨ks',i,h1,h2,h3⟩:=vI hk;exact join h2 rfl rfl (λg hz ls vY hp v hv=>hv.PH (lu hp h3)) h1;obtain⟨ks',i,h1,h2,h3⟩:=tX hk;exact join h2 rfl rfl (λg hz ls vY hp v hv=>hv.PA (lu hp h3)) h1;all_goals first|exact hk.elim|skip
  rename_i hn1 hm hnn aug auf hn2 hn3 hn4 hn5 hnp hn6 hn7 hn8 hn9 hno hns hnq hnu hne hnl;have hc:cells d=[d]:=by cases d<;>first|rfl|exact absurd rfl (hn7 _)|exact absurd rfl (aug _ _)|exact absurd rfl auf|exact absurd rfl (hno _)|exact absurd rfl (hns _)
  refine join (fh.refl _) hc hc (λg hz ls vY hp v hv=> ?_) hk;cases hv with|pure r=>exact .pure r|ref=>exact absurd rfl (hn1 _ _)|ptr=>exact absurd rfl (hn2 _ _)|jw=>exact absurd rfl (hn3 _ _)|iS=>exact absurd rfl (hn4 _ _ _ _)|dQ=>exact absurd rfl (hm _)|cQ=>exact absurd rfl (hnn _ _)|j8=>exact absurd rfl (hnq _ _ _)|sub=>exact absurd rfl (hnu _ _ _)|fT=>exact absurd rfl (hne _ _ _)|lit=>exact absurd rfl (hnl _ _)|agg=>exact absurd rfl (hn7 _)|bS=>exact absurd rfl (hn6 _)|gD=>exact absurd rfl (hn5 _ _ _)|tT=>exact absurd rfl (hnp _)
def Ob{s:St}{ks:List Nat}{d:au}{K:List Nat->au->Prop}(hk:kW s ks d K):∃ks' d',K ks' d' ∧fh ks ks' ∧pg s ks' d d' :=by unfold kW at hk;split at hk;rename_i hp;exact⟨ks,d,hk,fh.refl _,rfl,λg _ ls vY _ i v x x' hx hx' hv=>by rw[hx]at hx';cases hx';exact hv.acf (zQ hp hx)⟩;split at hk;rename_i cs _;obtain⟨ks',ds',k1,m1,n1,a1,b1,r1⟩:=tY s cs hk;exact⟨ks',_,k1,m1,n1,r1⟩;rename_i hp hna;obtain⟨ks',ds',k1,m1,n1,a1,b1,r1⟩:=tY s [d] hk;split at k1;rename_i d';have e1:cells d=[d]:=b1 d O;have e2:cells d' =[d']:=a1 d' O;exact⟨ks',d',k1,m1,by rw[e1,e2];rfl,by rw[e1,e2];exact r1⟩;exact iN
def pg.mono{s:St}{ks ks' :List Nat}{d d' :au}(h:pg s ks d d')(hp:ks<+:ks'):pg s ks' d d' :=⟨h.1,λg hz ls vY e=>h.2 g hz ls vY (hp.trans e)⟩
theorem oc(s:St):∀(ls:List Nat) {ks:List Nat} {K:List Nat->List au->Prop},gS s ks ls K->∃ks' H,K ks' H∧fh ks ks' ∧H.length=ls.length∧∀(i l:Nat),nth ls i=some l->∃d d',s.H l=some d∧nth H i=some d' ∧pg s ks' d d'
 |[],ks,K,hk=>⟨ks,[],hk,fh.refl _,rfl,λi l hl=>by simp[nth]at hl⟩
 |l::ls,ks,K,hk=>by
  simp only[mB,lA]at hk;split at hk;rename_i d hd;obtain⟨nZ,d1,k1,m1,b1⟩:=Ob hk;obtain⟨su,H2,k2,m2,n2,r2⟩:=oc s ls k1;refine⟨su,d1::H2,k2,m1.trans m2,sG,λi x hx=> ?_⟩;cases i with|zero=>simp[nth]at hx;subst hx;exact⟨d,d1,hd,rfl,b1.mono m2.pre⟩|succ i=>exact r2 i x uC
  exact aq
theorem pK(s:St):∀(ks:List Nat) {R:List Row},rowsOf s ks=some R->R.length=ks.length∧∀(i k:Nat),nth ks i=some k->∃r,s.R k=some r∧nth R i=some r
 |[],R,h=>by simp[rowsOf]at h;subst h;exact⟨rfl,λi k hk=>LW⟩
 |k::ks,R,h=>by
  simp only[rowsOf]at h;split at h;rename_i r hr;split at h;rename_i l hl;cases h;obtain⟨h1,h2⟩:=pK s ks hl;refine⟨uI,λi x hx=> ?_⟩;cases i with|zero=>simp[nth]at hx;subst hx;exact⟨r,hr,rfl⟩|succ i=>exact h2 i x uC
  cases h;cases h
theorem H3:∀(ds:List au) (n:Nat) (e:Nat->Option au) (l:Nat),lV ds n e l=if n<=l∧l<n+ds.length then nth ds (l - n)else e l|[],n,e,l=>by simp only[lV,kI,kH];rw[Z E]|d::ds,n,e,l=>by simp only[lV,fw];rw[H3 ds (n+1) _ l];by_cases h1:n+1<=l∧l<n+1+ds.length;rw[ak h1,ak E,show l - n=(l - (n+1))+1 by omega];rfl;rw[Z h1];by_cases h2:l=n;subst h2;rw[bw,ak E];simp[nth];rw[aO _ _ _ _ h2,Z E]
theorem GD:∀(ds:List Row) (n:Nat) (e:Nat->Option Row) (l:Nat),mJ ds n e l=if n<=l∧l<n+ds.length then nth ds (l - n)else e l|[],n,e,l=>by simp only[mJ,kI,kH];rw[Z E]|d::ds,n,e,l=>by simp only[mJ,fw];rw[GD ds (n+1) _ l];by_cases h1:n+1<=l∧l<n+1+ds.length;rw[ak h1,ak E,show l - n=(l - (n+1))+1 by omega];rfl;rw[Z h1];by_cases h2:l=n;subst h2;rw[bw,ak E];simp[nth];rw[aO _ _ _ _ h2,Z E]
def Ak(H:List au)(l:Nat):lV H 1000 (λ_=>none) l=if 1000<=l then nth H (l - 1000)else none:=by rw[H3];by_cases h1:1000<=l;by_cases h2:l<1000+H.length;rw[ak ⟨h1,h2⟩,ak h1];rw[Z E,ak h1,rV _ _ E];rw[Z E,Z h1]
def zO(H:List Row)(l:Nat):mJ H 1000 (λ_=>none) l=if 1000<=l then nth H (l - 1000)else none:=by rw[GD];by_cases h1:1000<=l;by_cases h2:l<1000+H.length;rw[ak ⟨h1,h2⟩,ak h1];rw[Z E,ak h1,rV _ _ E];rw[Z E,Z h1]
def jk.names{cx gX :Cx}{g g' :Gh}{w:World}{t:Tv}{r:Row}(k:jk cx g w t r)(hI:g'.I=g.I)(hm:∀b,t.wj b->gX.dX b∧∀l,g'.mu l≠some b):jk gX g' w t r:=by
 refine⟨k.z,λhz hn=> ?_,k.h,λhz hn=> ?_,λhz hn=> ?_⟩;have k:=k.o hz hn;have hm:∀b,t.base=some b->gX.dX b∧∀l,g'.mu l≠some b:=λb hb=>hm b (.inl hb);unfold jv at*;cases hb:t.base with|none=>rw[hb]at k;exact k|some b=>rw[hb]at k;obtain⟨k1,k2,k3,k4⟩:=k;dsimp only;rw[hI];exact⟨k1,(hm b hb).1,(hm b hb).2,k4⟩
 obtain⟨o1,b,es,clock,k1,k2,k3,k4⟩:=k.m hz hn;unfold aln;rw[hI];exact⟨o1,b,es,clock,k1,(hm b (.inl k1)).1,(hm b (.inl k1)).2,k4⟩;have q:=k.q hz hn;have hz' :=k.z.trans hz;refine⟨λj b hj=> ?_,λb hb=>⟨(q.base b hb).1,hm b (.inl hb)⟩,λho=> ?_⟩;obtain⟨h1,_,_,h2⟩:=q.ow j b hj;obtain⟨h3,h4⟩:=hm b (.inr ⟨hz',hn,j,hj⟩);exact⟨h1,h3,h4,h2⟩;obtain⟨l1,l2,l3⟩:=q.live ho;refine⟨l1,l2,?_⟩;cases hb:t.base with|none=>rw[hb]at l3;exact l3|some b=>rw[hb]at l3;obtain⟨k1,k2,c,e,fz,k3,k4,k5,k6⟩:=l3;refine⟨k1,λj=>by rw[hI];exact k2 j,c,e,fz,k3,k4,k5,λj d hd=> ?_⟩;obtain⟨v,v1,v2⟩:=k6 j d hd;exact⟨v,v1,v2.mono (λ_ _ _ h=>by rw[hI];exact h) λb _=>⟨rfl,λj=>by rw[hI]⟩⟩
def Gh.X(g:Gh)(b:Nat):Prop:=(∃l,g.mu l=some b)∨∃k t,g.tv k=some t∧t.wj b
theorem Mem.sub{cx gX :Cx}{g:Gh}{s:St}{w:World}(m:Mem cx g s w){ls ks:List Nat}(hl:ls.Nodup)(hk:ks.Nodup){H:List au}{R:List Row}(hH:H.length=ls.length∧∀(i l:Nat),nth ls i=some l->∃d d',s.H l=some d∧nth H i=some d' ∧pg s ks d d')(hR:R.length=ks.length∧∀(i k:Nat),nth ks i=some k->∃r,s.R k=some r∧nth R i=some r)(te:∀b,(g.sub ls ks).X b->gX.dX b)(hnew:∀b o v,g.I b o=some v->gX.I0 b o=some v∨gX.dX b)(hframe:gX.Fr g.I w)(arf :∀b,w.heap.size<=b->gX.dX b){s' :St}(eH:s'.H=lV H 1000 (λ_=>none))(eR:s'.R=mJ R 1000 (λ_=>none)):Mem gX (g.sub ls ks) s' w where
 iw:=m.iw
 box l d h:=by
  rw[eH,Ak]at h;split at h;rename_i as5;have hlt:=aH h;obtain⟨l',hl'⟩:=bO (l:=ls) (i:=l - 1000) E;obtain⟨d0,d',e1,e2,e3⟩:=hH.2 _ _ hl';rw[h]at e2;cases e2;obtain⟨b,b1,b2,b3⟩:=m.box l' d0 e1;have hb:(g.sub ls ks).mu l=some b:=by have:=Nj g (ks:=ks) hl';rw[show 1000+(l - 1000)=l by omega]at this;rw[this,b1]
  refine⟨b,hb,?_,te b (.inl ⟨l,hb⟩)⟩;obtain⟨c,e,fz,c1,c2,c3,c4⟩:=b2;refine⟨c,e,fz,c1,c2,by rw[c3,e3.1],λi v x hv hx=> ?_⟩;have hi:i<(cells d0).length:=by rw[<-c3];exact(iX.1 hv).1
  obtain⟨y,hy⟩:=bO hi;exact⟨e3.2 g m.fz ls ks (ym _) i v y x hy hx (c4 i v y hv hy).1,(c4 i v y hv hy).2⟩;cases h
 gx l b h:=by obtain⟨i,l',rfl,h1,h2⟩:=j0 h;obtain⟨d0,d',e1,e2,e3⟩:=hH.2 _ _ h1;exact⟨d',by rw[eH,Ak,ak E,Gf];exact e2⟩
 inj l n b h1 h2:=by obtain⟨i,l',rfl,h3,h4⟩:=j0 h1;obtain⟨j,n',rfl,h5,h6⟩:=j0 h2;have:=m.inj l' n' b h4 h6;subst this;have a1:=jd hl h3;have a2:=jd hl h5;rw[a1]at a2;cases a2;rfl
 F3 l b h o:=by obtain⟨i,l',rfl,h3,h4⟩:=j0 h;exact m.F3 l' b h4 o
 row k r h:=by
  rw[eR,zO]at h;split at h;rename_i as5;have hlt:=aH h;obtain⟨k',hk'⟩:=bO (l:=ks) (i:=k - 1000) E;obtain⟨r0,e1,e2⟩:=hR.2 _ _ hk';rw[h]at e2;cases e2;obtain⟨t,t1,t2,t3,t4,t5⟩:=m.row k' r e1;have ht:(g.sub ls ks).tv k=some t:=by have:=zJ g (ls:=ls) hk';rw[show 1000+(k - 1000)=k by omega]at this;rw[this,t1]
  refine⟨t,ht,t2,t3,t4,t5.names rfl λb hb=>⟨te b (.inr ⟨k,t,ht,hb⟩),λl hl' => ?_⟩⟩;obtain⟨i,l',rfl,h3,h4⟩:=j0 hl';exact(t5.wc hb).2.2 l' h4;cases h
 gE k t h:=by obtain⟨i,k',rfl,h1,h2⟩:=mV h;obtain⟨r0,e1,e2⟩:=hR.2 _ _ h1;exact⟨r0,by rw[eR,zO,ak E,Gf];exact e2⟩
 k_ k j t u b h1 h2 h3 h4:=by obtain⟨i,k',rfl,h5,h6⟩:=mV h1;obtain⟨i',j',rfl,h7,h8⟩:=mV h2;have:=m.k_ k' j' t u b h6 h8 h3 h4;subst this;have a1:=jd hk h5;have a2:=jd hk h7;rw[a1]at a2;cases a2;rfl
 kN:=hnew
 frame:=hframe
 new:=arf
end
def Bs:=@Option.map_eq_some_iff
def ZH(h:G:=by rcases jl i ks.length with h|h;obtain⟨x,hx⟩:=bO h;rw[hi]at hx;cases hx;exact h):=h
def bu(h:G:=by dsimp only;omega):=h
def gy(h:G:=by assumption):=h
def qh(q:Nat):List PanicEntry:=[{v:= .iface q (.agg #[]),recovered:=false}]
def wH:Out->Go.Exit| .normal=> .normal| .exit id=> .exit id| .ret=> .ret| .Ej q=> .panic (qh q)
structure aj(P:Program)(f:FuncId)(args:List au)(m:Ct)(r:au)(m' :Ct):Prop where
 fn:∃fn,P.funcs[f]? =some fn∧fn.body.isNone=false∧(fn.name== "runtime.NumGoroutine")=false
 go:∀(γ:Gh) (w:World) (vs:Array Value),vs.size=args.length->(∀(i:Nat) v d,vs[i]? =some v->nth args i=some d->bD γ v d)->
  Mem (Cx.of 0 (γ.X) w (γ.I)) γ (init args m) w->
  Calls P f vs w λe w' =>match e with| .returned v=>∃γ',Ext γ γ' ∧bD γ' v r∧Mem (Cx.of 0 (γ.X) w (γ.I)) γ' (init [] m') w'| .panicked ch=>∃γ' q,Ext γ γ' ∧rT r=some q∧ch=qh q∧Mem (Cx.of 0 (γ.X) w (γ.I)) γ' (init [] m') w'| .outgrown=>False
def J7{r:au}{q:Nat}(h:rT r=some q):vZ r=false:=by unfold rT at h;split at h;split at h;rfl;cases h;cases h
def mj(ks:List Nat)(t len k:Nat):Option Nat:=match place ks 0 k with|some i=>some (1000+i)|none=>if 5000+10*t<=k∧k<5000+10*t+(len - ks.length)then some (1000+ks.length+(k - (5000+10*t)))else none
theorem oO{ks:List Nat}{t:Nat}{R:Nat->Option Row}:∀{rs:List Row} {i:Nat},fF ks t R i rs=true->∀j,i<=j->j<i+rs.length->ks.length<=j->R (5000+10*t+(j - ks.length))=none|[],i,_,j,h1,h2,_=>by exact xH|r::rs,i,h,j,h1,h2,h3=>by simp only[fF]at h;simp only[fw]at h2;by_cases hij:j=i;subst hij;rw[rV _ _ h3]at h;dsimp only at h;split at h;cases h;exact gy;have:fF ks t R (i+1) rs=true:=(by split at h;exact h;split at h;cases h;exact h);exact oO this j E E h3
theorem vt{ks:List Nat}{t:Nat}(hn:ks.Nodup):∀{rs:List Row} {i:Nat} {R:Nat->Option Row} {rn:List Nat} (_:∀j,ks.length<=j->j<i+rs.length->place ks 0 (5000+10*t+(j - ks.length))=none) (k:Nat),(dC ks t R rn i rs).1 k=match place ks 0 k with|some j=>if i<=j∧j<i+rs.length then nth rs (j - i)else R k|none=>if 5000+10*t<=k∧i<=ks.length+(k - (5000+10*t))∧ks.length+(k - (5000+10*t))<i+rs.length then nth rs (ks.length+(k - (5000+10*t)) - i)else R k
 |[],i,R,rn,_,k=>by simp only[dC,kI,kH];split;rw[Z E];rw[Z E]
 |r::rs,i,R,rn,hd,k=>by
  simp only[dC];have hd' :∀j,ks.length<=j->j<i+1+rs.length->place ks 0 (5000+10*t+(j - ks.length))=none:=λj h1 h2=>hd j h1 az;cases hi:nth ks i with
  |some k0=>
   dsimp only;rw[vt hn hd' k];have hlt:=aH hi;cases hp:place ks 0 k with
   |some j=>dsimp only;by_cases hij:j=i;subst hij;have:=e_ hp;rw[hi]at this;cases this;rw[Z E,ak O,bw,lZ];rfl;have hne:k≠k0:=(by intro e;subst e;rw[jd hn hi]at hp;cases hp;exact hij rfl);rw[aO _ _ _ _ hne];by_cases hc:i+1<=j∧j<i+1+rs.length;rw[ak hc,ak az,show j - i=(j - (i+1))+1 by omega];rfl;rw[Z hc,Z az]
   |none=>
    dsimp only;have hne:k≠k0:=by intro e;subst e;rw[jd hn hi]at hp;cases hp
    rw[aO _ _ _ _ hne];by_cases hc:5000+10*t<=k∧i+1<=ks.length+(k - (5000+10*t))∧ks.length+(k - (5000+10*t))<i+1+rs.length;rw[ak hc,ak az,show ks.length+(k - (5000+10*t)) - i=(ks.length+(k - (5000+10*t)) - (i+1))+1 by omega];rfl;rw[Z hc,Z az]
  |none=>
   dsimp only;rw[vt hn hd' k];have hge:ks.length<=i:=ZH
   have WQ:=hd i hge O;cases hp:place ks 0 k with
   |some j=>
    dsimp only;have hj:=aH (e_ hp);have hne:k≠5000+10*t+(i - ks.length):=by intro e;subst e;rw[WQ]at hp;cases hp
    rw[aO _ _ _ _ hne,Z E,Z E]
   |none=>dsimp only;by_cases hk:k=5000+10*t+(i - ks.length);subst hk;rw[Z E,bw,ak az,show ks.length+(5000+10*t+(i - ks.length) - (5000+10*t)) - i=0 by omega];rfl;rw[aO _ _ _ _ hk];by_cases hc:5000+10*t<=k∧i+1<=ks.length+(k - (5000+10*t))∧ks.length+(k - (5000+10*t))<i+1+rs.length;rw[ak hc,ak az,show ks.length+(k - (5000+10*t)) - i=(ks.length+(k - (5000+10*t)) - (i+1))+1 by omega];rfl;rw[Z hc,Z az]
def Sz{ks:List Nat}{t:Nat}(hn:ks.Nodup){rs:List Row}{R:Nat->Option Row}{rn:List Nat}(hlen:ks.length<=rs.length)(hd:∀j,ks.length<=j->j<rs.length->place ks 0 (5000+10*t+(j - ks.length))=none)(k:Nat):(dC ks t R rn 0 rs).1 k=match mj ks t rs.length k with|some p=>nth rs (p - 1000)|none=>R k:=by rw[vt hn (by simpa using hd) k];unfold mj;cases hp:place ks 0 k with|some j=>have hj:=aH (e_ hp);dsimp only;rw[ak E];simp|none=>dsimp only;by_cases hc:5000+10*t<=k∧k<5000+10*t+(rs.length - ks.length);rw[ak hc,ak E];dsimp only;rw[show ks.length+(k - (5000+10*t)) - 0=1000+ks.length+(k - (5000+10*t)) - 1000 by omega];rw[Z hc,Z E]
def zP{ks:List Nat}{t len k p:Nat}(h:mj ks t len k=some p)(hlen:ks.length<=len):1000<=p∧p - 1000<len∧lN ks t (p - 1000)=k:=by unfold mj at h;split at h;rename_i i hi;cases h;have h1:=e_ hi;have h2:=aH h1;refine⟨E,E,?_⟩;rw[Gf,lN,h1];split at h;rename_i hc;cases h;refine⟨E,E,?_⟩;rw[lN,rV _ _ E];exact bu;cases h
theorem Sv{ks:List Nat}{t len i:Nat}(hn:ks.Nodup)(hi:i<len)(hd:∀j,ks.length<=j->j<len->place ks 0 (5000+10*t+(j - ks.length))=none):mj ks t len (lN ks t i)=some (1000+i):=by
 unfold lN;cases hk:nth ks i with
 |some k=>dsimp only;unfold mj;rw[jd hn hk]
 |none=>
  have hge:ks.length<=i:=by rcases jl i ks.length with h|h;obtain⟨x,hx⟩:=bO h;rw[hk]at hx;cases hx;exact h
  dsimp only;unfold mj;rw[hd i hge hi];dsimp only;rw[ak E];congr 1;omega
theorem tN{ks:List Nat}{t:Nat}:∀{ls:List Nat} {ds:List au} {H:Nat->Option au} (_:ls.Nodup) (_:ls.length<=ds.length) (l:Nat),fC ks t H ls ds l=match place ls 0 l with|some i=>(nth ds i).map (back ks t)|none=>H l
 |[],ds,H,_,_,l=>by cases ds<;>rfl|x::ls,[],H,_,h,l=>by simp at h
 |x::ls,d::ds,H,hn,h,l=>by
  simp only[fC];have hn' :=uR.1 hn;rw[tN hn'.2 eQ l];have shift:∀(ls:List Nat) (i:Nat),place ls (i+1) l=(place ls i l).map (· +1):=by intro ls;induction ls with|nil=>intro i;rfl|cons y ls ih=>intro i;simp only[place];cases Nat.beq y l;exact ih (i+1);rfl
  have e:place (x::ls) 0 l=bif Nat.beq x l then some 0 else(place ls 0 l).map (· +1):=by simp only[place];rw[shift]
  rw[e];cases hb:Nat.beq x l with
  |true=>
   have:=dw hb;subst this;have:place ls 0 x=none:=by cases hp:place ls 0 x with|none=>rfl|some i=>exact absurd (dr (e_ hp)) hn'.1
   rw[this];simp[bw,nth]
  |false=>cases hp:place ls 0 l with|none=>have hne:l≠x:=(by intro e;subst e;simp at hb);simp[aO _ _ _ _ hne]|some i=>simp[nth]
section
variable{P:Program}{cx:Cx}{g:Gh}{s:St}{a:Act}{w:World}
theorem kG{γ' g2:Gh}{ks:List Nat}{t:Nat}{v:Value}{d:au}(hI:γ'.I=g2.I)(yG:∀k u,γ'.tv k=some u->1000<=k∧g2.tv (lN ks t (k - 1000))=some u)(hb:Dx d=true)(r:bD γ' v d):bD g2 v (sg ks t d):=by
 cases d with
 |ref k n=>cases r with|pure r=>cases r|ref u hu hn hv h1=>exact .ref u (yG k u hu).2 hn hv h1
 |dQ k=>cases r with|pure r=>cases r|dQ u hu hz hb=>exact .dQ u (yG k u hu).2 hz hb
 |cQ k n=>cases r with|pure r=>cases r|cQ u hu hz hn hv h1=>exact .cQ u (yG k u hu).2 hz hn hv h1
 |_=>exact .pure (hI▸jF (g:=γ') hb r)
theorem agf{γ' g2:Gh}{ks:List Nat}{t:Nat}{v:Value}{d:au}(hI:γ'.I=g2.I)(yG:∀k u,γ'.tv k=some u->1000<=k∧g2.tv (lN ks t (k - 1000))=some u)(hb:vZ d=true)(r:bD γ' v d):bD g2 v (back ks t d):=by
 unfold vZ at hb;unfold back;split at hb;rename_i hp;exact .pure (hI▸jF (g:=γ') hp r);rename_i hp;split at hb
 ·rename_i cs;dsimp only;rw[jW]at hb;cases r with
  |pure r=>cases r with|agg vs _ hl h1 hr=>refine .agg qt h1 λi v d hv hd=> ?_;rw[c_]at hd;obtain⟨x,hx,rfl⟩:=Bs.1 hd;exact kG hI yG (hb x (dr hx)) (.pure (hr i v x hv hx))
  |agg hl h1 hr=>refine .agg qt h1 λi v d hv hd=> ?_;rw[c_]at hd;obtain⟨x,hx,rfl⟩:=Bs.1 hd;exact kG hI yG (hb x (dr hx)) (hr i v x hv hx)
 rename_i cs;dsimp only;rw[jW]at hb;cases r with|pure r=>cases r|bS hl hr=>refine .bS qt λi v d hv hd=> ?_;rw[c_]at hd;obtain⟨x,hx,rfl⟩:=Bs.1 hd;have h2:=hr i v x hv hx;split;rename_i hpx;exact .pure (hI▸jF (g:=γ') hpx h2);exact kG hI yG (hb x (dr hx)) h2
 rename_i k n;exact kG hI yG hb r;rename_i k;exact kG (d:= .dQ k) hI yG hb r;rename_i k n;exact kG (d:= .cQ k n) hI yG hb r;cases hb
def agh{γ' g2:Gh}{ks:List Nat}{t b:Nat}{d:au}(hI:γ'.I=g2.I)(yG:∀k u,γ'.tv k=some u->1000<=k∧g2.tv (lN ks t (k - 1000))=some u)(hb:vZ d=true)(r:qn γ' w b d)(Ac:∀ds,d≠.bS ds):qn g2 w b (back ks t d):=by
 obtain⟨c,e,fz,c1,c2,c3,c4⟩:=r;have key:(cells (back ks t d)).length=(cells d).length∧∀(i:Nat) v x y,nth (cells d) i=some y->nth (cells (back ks t d)) i=some x->bD γ' v y->bD g2 v x:=by
  unfold vZ at hb;unfold back;split at hb;rename_i hp;exact⟨rfl,λi v x y hy hx hv=>by rw[hy]at hx;cases hx;exact .pure (hI▸jF (g:=γ') (zQ hp hy) hv)⟩;rename_i hp;split at hb;rename_i cs;rw[jW]at hb;refine⟨by simp[cells],λi v x y hy hx hv=> ?_⟩;simp only[cells]at hy hx;rw[c_,hy]at hx;cases hx;exact kG hI yG (hb y (dr hy)) hv;exact absurd rfl (Ac _);rename_i k n;refine⟨rfl,λi v x y hy hx hv=> ?_⟩;cases i with|zero=>simp[cells,nth,sg]at hy hx;subst hy hx;exact kG (d:= .ref k n) hI yG hb hv|succ i=>simp[cells,nth]at hy
  rename_i k;refine⟨rfl,λi v x y hy hx hv=> ?_⟩;cases i with|zero=>simp[cells,nth,sg]at hy hx;subst hy hx;exact kG (d:= .dQ k) hI yG hb hv|succ i=>simp[cells,nth]at hy
  rename_i k n;refine⟨rfl,λi v x y hy hx hv=> ?_⟩;cases i with|zero=>simp[cells,nth,sg]at hy hx;subst hy hx;exact kG (d:= .cQ k n) hI yG hb hv|succ i=>simp[cells,nth]at hy
  cases hb
 refine⟨c,e,fz,c1,c2,c3.trans key.1.symm,λi v x hv hx=> ?_⟩;have hi:i<(cells d).length:=by rw[<-c3];exact(iX.1 hv).1
 obtain⟨y,hy⟩:=bO hi;exact⟨key.2 i v x y hy hx (c4 i v y hv hy).1,(c4 i v y hv hy).2⟩
end
def CU:=@Array.getElem?_append_right
def RO(h:G:=by intro e;rw[e]at hname;simp at hname):=h
def Z3(h:G:=by have:=hev.1;simp at this;simp[this]):=h
def RM(h:G:=by intro e;rw[e]at hbody;cases hbody):=h
def E9(h:G:=by rw[aJ];exact hx):=h
def sJ(h:G:=by rw[hl];simp):=h
def Zf(h:G:=by rw[rH,lj h1]at hx;rw[Array.append_assoc,jC (by omega)]at hv;exact rf i v x hv (by rw[aJ];exact hx)):=h
def uE(h:G:=by simp at lf ⊢;omega):=h
def Ud(h:G:=by refine hev.2 (i - first.length) v x ?_ (by rw[aJ];exact hx);rw[<-e1];exact lK):=h
section
variable{P:Program}{cx:Cx}{g:Gh}{s:St}{a:Act}{w:World}
def qn.aqf{g:Gh}{w:World}{b:Nat}{d:au}(r:qn g w b d):∀ds,d≠.bS ds:=by
 intro ds e;subst e;obtain⟨c,t,fz,c1,c2,c3,c4⟩:=r;have h0:0<c.size:=by rw[c3];simp[cells]
 have h1:=c4 0 c[0] (.bS ds) (kJ h0) rfl;obtain⟨vs,e,_⟩:=h1.1.FE;rw[e]at h1;simp[leaf]at h1
def Gh.back(g γ' :Gh)(ks:List Nat)(t len:Nat):Gh:={I:=γ'.I,mu:=g.mu,tv:=λk=>match mj ks t len k with|some p=>γ'.tv p|none=>g.tv k}
theorem Mem.behind(m:Mem cx g s w){ls ks:List Nat}{t:Nat}(hl:ls.Nodup)(hk:ks.Nodup)(hks:∀(i k:Nat),nth ks i=some k->∃r,s.R k=some r)(hls:∀(i l:Nat),nth ls i=some l->∃d,s.H l=some d){γ' :Gh}{m' :Ct}{w' :World}(he:Ext (g.sub ls ks) γ')(m2:Mem (Cx.of 0 ((g.sub ls ks).X) w (g.I)) γ' (init [] m') w')(WQ:fF ks t s.R 0 m'.R=true)(hH:m'.H.all vZ=true){s' :St}(eH:s'.H=fC ks t s.H ls m'.H)(eR:s'.R=(dC ks t s.R s.rn 0 m'.R).1):Ext g (g.back γ' ks t m'.R.length)∧Mem cx (g.back γ' ks t m'.R.length) s' w' ∧∀k u,γ'.tv k=some u->1000<=k∧(g.back γ' ks t m'.R.length).tv (lN ks t (k - 1000))=some u:=by
 have mk:∀{i k:Nat},nth ks i=some k->∃u,g.tv k=some u∧(g.sub ls ks).tv (1000+i)=some u:=λ{i k} h=>by obtain⟨r,hr⟩:=hks i k h;obtain⟨u,hu,_⟩:=m.row k r hr;exact⟨u,hu,(zJ g h).trans hu⟩
 have ml:∀{i l:Nat},nth ls i=some l->∃b,g.mu l=some b∧γ'.mu (1000+i)=some b:=λ{i l} h=>by obtain⟨d,hd⟩:=hls i l h;obtain⟨b,hb,_⟩:=m.box l d hd;exact⟨b,hb,he.mu _ _ ((Nj g h).trans hb)⟩
 have f2:∀{p u},γ'.tv p=some u->∃i r,p=1000+i∧nth m'.R i=some r:=λ{p u} h=>by obtain⟨r,hr⟩:=m2.gE p u h;simp only[init]at hr;rw[zO]at hr;split at hr;exact⟨p - 1000,r,E,hr⟩;cases hr
 have f2H:∀{p b},γ'.mu p=some b->∃i d,p=1000+i∧nth m'.H i=some d:=λ{p b} h=>by obtain⟨r,hr⟩:=m2.gx p b h;simp only[init]at hr;rw[Ak]at hr;split at hr;exact⟨p - 1000,r,E,hr⟩;cases hr
 have f3:ks.length<=m'.R.length:=by rcases Bk ks.length with h|h;omega;obtain⟨k,hk'⟩:=bO (l:=ks) (i:=ks.length - 1) E;obtain⟨u,_,hu⟩:=mk hk';obtain⟨u',hu',_⟩:=he.tv _ _ hu;obtain⟨i,r,e,hi⟩:=f2 hu';have:=aH hi;omega
 have f3H:ls.length<=m'.H.length:=by rcases Bk ls.length with h|h;omega;obtain⟨k,hk'⟩:=bO (l:=ls) (i:=ls.length - 1) E;obtain⟨u,_,hu⟩:=ml hk';obtain⟨i,r,e,hi⟩:=f2H hu;have:=aH hi;omega
 have hd:∀j,ks.length<=j->j<m'.R.length->place ks 0 (5000+10*t+(j - ks.length))=none:=λj h1 h2=>by have:=oO WQ j (dM _) E h1;cases hp:place ks 0 (5000+10*t+(j - ks.length))with|none=>rfl|some i=>obtain⟨r,hr⟩:=hks _ _ (e_ hp);rw[this]at hr;cases hr
 have ai9:∀{k p},place ks 0 k=none->mj ks t m'.R.length k=some p->s.R k=none:=λ{k p} h1 h2=>by unfold mj at h2;rw[h1]at h2;dsimp only at h2;split at h2;rename_i hc;have:=oO WQ (ks.length+(k - (5000+10*t))) (dM _) E E;rw[show 5000+10*t+(ks.length+(k - (5000+10*t)) - ks.length)=k by omega]at this;exact dj;cases h2
 have X1:∀{b},(g.sub ls ks).X b->b<w.heap.size∧cx.dX b:=λ{b} h=>by rcases h with⟨l,hl'⟩|⟨k,u,hu,hb⟩;obtain⟨i,l',rfl,h1,h2⟩:=j0 hl';obtain⟨d,hd⟩:=hls i l' h1;obtain⟨b',e1,e2,e3⟩:=m.box l' d hd;rw[h2]at e1;cases e1;exact⟨e2.lt,e3⟩;obtain⟨i,k',rfl,h1,h2⟩:=mV hu;have:=m.kK h2 hb;exact⟨this.1,this.2.1⟩
 have X2:∀{l b},place ls 0 l=none->g.mu l=some b->¬(g.sub ls ks).X b:=λ{l b} h1 h2 h=>by rcases h with⟨x,hx⟩|⟨k,u,hu,hb⟩;obtain⟨i,l',rfl,h3,h4⟩:=j0 hx;have:=m.inj l l' b h2 h4;subst this;rw[jd hl h3]at h1;cases h1;obtain⟨i,k',rfl,h3,h4⟩:=mV hu;exact(m.kK h4 hb).2.2 l h2
 have X3:∀{k u b},place ks 0 k=none->g.tv k=some u->u.wj b->¬(g.sub ls ks).X b:=λ{k u b} h1 h2 h3 h=>by rcases h with⟨x,hx⟩|⟨k',u',hu,hb⟩;obtain⟨i,l',rfl,h5,h4⟩:=j0 hx;exact(m.kK h2 h3).2.2 l' h4;obtain⟨i,k',rfl,h5,h4⟩:=mV hu;have:=m.k_ k k' u u' b h2 h4 h3 hb;subst this;rw[jd hk h5]at h1;cases h1
 have fr2:Frame w w' (g.sub ls ks).X:=m2.frame;have al8:∀{b},b<w.heap.size->¬(g.sub ls ks).X b->w'.heap[b]? =w.heap[b]? :=λ{b} h1 h2=>fr2.block b h1 h2;have al7:∀{b},b<w.heap.size->¬(g.sub ls ks).X b->∀o,γ'.I b o=g.I b o:=λ{b} h1 h2 o=>by
  cases h:γ'.I b o with
  |some v=>rcases m2.kN b o v h with h3|h3|h3;exact h3.symm;have h3:w.heap.size<=b:=h3;omega;exact absurd h3 h2
  |none=>cases h3:g.I b o with|none=>rfl|some v=>have:=he.I b o v h3;rw[h]at this;cases this
 have Jv:∀{b},(w.heap.size<=b∨(g.sub ls ks).X b)->cx.dX b:=λ{b} h=>by rcases h with h|h;exact m.new _ h;exact(X1 h).2
 have HH:Ext g (g.back γ' ks t m'.R.length):=by
  refine⟨he.I,λl b h=>h,λk u h=> ?_⟩;simp only[Gh.back];cases hp:mj ks t m'.R.length k with
  |none=>exact⟨u,h,.refl u⟩
  |some p=>
   dsimp only;cases hpl:place ks 0 k with
   |none=>have:=ai9 hpl hp;obtain⟨r,hr⟩:=m.gE k u h;rw[this]at hr;cases hr
   |some i=>unfold mj at hp;rw[hpl]at hp;cases hp;exact he.tv _ _ ((zJ g (e_ hpl)).trans h)
 have yG:∀k u,γ'.tv k=some u->1000<=k∧(g.back γ' ks t m'.R.length).tv (lN ks t (k - 1000))=some u:=λk u h=>by obtain⟨i,r,rfl,hi⟩:=f2 h;refine⟨E,?_⟩;simp only[Gh.back];rw[Gf,Sv hk (aH hi) hd];exact h
 have Sw:∀{p r},(init [] m').R p=some r->∃u,γ'.tv p=some u∧u.sz=r.sz∧u.n=r.es.length∧(∀e∈r.es,(cells e).length=r.sz)∧
  jk cx (g.back γ' ks t m'.R.length) w' u r∧∀b,u.wj b->(w.heap.size<=b∨(g.sub ls ks).X b):=λ{p r} h=>by
  obtain⟨u,u1,u2,u3,u4,u5⟩:=m2.row p r h;refine⟨u,u1,u2,u3,u4,u5.names rfl λb hb=> ?_,λb hb=>(u5.wc hb).2.1⟩;have hbl:=u5.wc hb;refine⟨Jv hbl.2.1,λl hl' => ?_⟩;cases hp:place ls 0 l with
  |some i=>obtain⟨b',e1,e2⟩:=ml (e_ hp);have auh :g.mu l=some b:=hl';rw[auh]at e1;cases e1;exact hbl.2.2 _ e2
  |none=>rcases hbl.2.1 with h3|h3;have h3:w.heap.size<=b:=h3;have:=m.vU hl';omega;exact X2 hp hl' h3
 have Rat:∀k,s'.R k=match mj ks t m'.R.length k with|some p=>(init [] m').R p|none=>s.R k:=λk=>by rw[eR,Sz hk f3 hd k];cases hp:mj ks t m'.R.length k with|none=>rfl|some p=>dsimp only;simp only[init];rw[zO,ak (zP hp f3).1]
 have an8:∀{k},mj ks t m'.R.length k=none->place ks 0 k=none:=λ{k} h=>by unfold mj at h;split at h;cases h;exact gy
 refine⟨HH,?_,yG⟩;refine⟨m2.iw,?_,?_,m.inj,?_,?_,?_,?_,?_,?_,?_⟩
 ·intro l d h;rw[eH,tN hl f3H]at h;cases hp:place ls 0 l with
  |some i=>
   rw[hp]at h;dsimp only at h;obtain⟨d0,hd0,rfl⟩:=Bs.1 h;have h0:(init [] m').H (1000+i)=some d0:=by simp only[init];rw[Ak,ak E,Gf];exact hd0
   obtain⟨b,b1,b2,b3⟩:=m2.box _ _ h0;obtain⟨b',e1,e2⟩:=ml (e_ hp);rw[b1]at e2;cases e2;refine⟨b,e1,agh (γ' :=γ') (g2:=g.back γ' ks t m'.R.length) rfl yG ?_ b2 b2.aqf,?_⟩;rw[jW]at hH;exact hH d0 (dr hd0);exact Jv b3
  |none=>rw[hp]at h;dsimp only at h;obtain⟨b,b1,b2,b3⟩:=m.box l d h;exact⟨b,b1,b2.mono HH (al8 b2.lt (X2 hp b1)),b3⟩
 ·intro l b h;rw[eH,tN hl f3H];cases hp:place ls 0 l with
  |some i=>obtain⟨d0,hd0⟩:=bO (l:=m'.H) (i:=i) (by have:=aH (e_ hp);omega);exact⟨Abs.back ks t d0,by simp[hd0]⟩
  |none=>exact m.gx l b h
 ·intro l b h o;cases hp:place ls 0 l with
  |some i=>obtain⟨b',e1,e2⟩:=ml (e_ hp);have h' :g.mu l=some b:=h;rw[h']at e1;cases e1;exact m2.F3 _ _ e2 o
  |none=>show γ'.I b o=none;rw[al7 (m.vU h) (X2 hp h)];exact m.F3 l b h o
 ·intro k r h;rw[Rat]at h;simp only[Gh.back];cases hp:mj ks t m'.R.length k with
  |some p=>rw[hp]at h;obtain⟨u,u1,u2,u3,u4,u5,_⟩:=Sw h;exact⟨u,u1,u2,u3,u4,u5⟩
  |none=>rw[hp]at h;obtain⟨u,u1,u2,u3,u4,u5⟩:=m.row k r h;refine⟨u,u1,u2,u3,u4,u5.mono HH λb hb=> ?_⟩;have hX:=X3 (an8 hp) u1 hb;have hlt:=(m.kK u1 hb);exact⟨al8 hlt.1 hX,hlt.2.2,al7 hlt.1 hX⟩
 intro k u h;simp only[Gh.back]at h;rw[Rat];cases hp:mj ks t m'.R.length k with|some p=>rw[hp]at h;exact m2.gE p u h|none=>rw[hp]at h;exact m.gE k u h
 ·intro k j u v b h1 h2 h3 h4;simp only[Gh.back]at h1 h2;cases hp:mj ks t m'.R.length k with
  |some p=>rw[hp]at h1;dsimp only at h1;obtain⟨r,hr⟩:=m2.gE p u h1;obtain⟨u',e1,_,_,_,_,e2⟩:=Sw hr;rw[h1]at e1;cases e1;cases hq:mj ks t m'.R.length j with|some q=>rw[hq]at h2;dsimp only at h2;have:=m2.k_ p q u v b h1 h2 h3 h4;subst this;rw[<-(zP hp f3).2.2,<-(zP hq f3).2.2]|none=>rw[hq]at h2;dsimp only at h2;rcases e2 b h3 with h5|h5;have:=(m.kK h2 h4).1;omega;exact absurd h5 (X3 (an8 hq) h2 h4)
  |none=>
   rw[hp]at h1;dsimp only at h1;cases hq:mj ks t m'.R.length j with
   |some q=>rw[hq]at h2;dsimp only at h2;obtain⟨r,hr⟩:=m2.gE q v h2;obtain⟨u',e1,_,_,_,_,e2⟩:=Sw hr;rw[h2]at e1;cases e1;rcases e2 b h4 with h5|h5;have:=(m.kK h1 h3).1;omega;exact absurd h5 (X3 (an8 hp) h1 h3)
   |none=>rw[hq]at h2;exact m.k_ k j u v b h1 h2 h3 h4
 intro b o v h;rcases m2.kN b o v h with h1|h1;exact m.kN b o v h1;exact .inr (Jv h1);exact cx.st _ _ _ _ m.frame HH.I (fr2.sub λi _ h=>Jv (.inr h)) m2.iw m.new;exact λb hb=>m.new b (eW fr2.size hb)
theorem bD.aqh{g:Gh}{v:Value}{r:au}(h:bD g v r):rT r=none:=by
 unfold rT;split;split
 ·exfalso;cases h with
  |pure r=>cases r
  |bS hl hr=>
   rename_i vs;have h0:0<vs.size:=sJ
   have:=hr 0 vs[0] .md (by simp[h0]) rfl;generalize vs[0]=v0 at this;cases this with|pure r=>cases r
 rfl;rfl
theorem DK(h:Rel cx g s a w){u:St}(hu:Rel cx g u a w){o:Oper}(hd:ji cx.n o.dst=true)(hc:lD o=true){cf:mN}(hC:∀f args m r m',cf.C f args m r m' ->aj P f args m r m'){K:St->Prop}{KP:Nat->St->Prop}{Q:Go.Exit->Act->World->Prop}{f0:FuncId}{as0:List au}(hp:cu P o (cY P u)= .call f0 as0)(hk:OM P cf true o.dst s K KP (.call f0 as0))(hQ:∀q s' g' w',KP q s' ->Ext g g' ->Rel cx g' s' a w' ->Q (.panic (qh q)) a w'):o.wp P a w (fK cx g K) Q:=by
 unfold lD at hc;split at hc
 rotate_left
 cases hc;rename_i c ho;split at hc
 rotate_left
 cases hc;rename_i f hce;simp only[cu,ho,mF,hce]at hp;split at hp;cases hp;rename_i args hargs;have hev:=lW hu hargs;split at hp
 rotate_left
 cases hp;cases hp;rename_i Yz first cap hf
 split at hp;cases hp;cases hp;obtain⟨vf,vc,ef,hvf,FV,rf,rc⟩:=(hu.get hf).qR;simp only[OM]at hk;split at hk
 rotate_left
 exact aq;rename_i t hdst;obtain⟨s1,ls,nZ,args',g1,k1,l1,ml,mk1,n1,r1⟩:=xg _ _ h hk;obtain⟨ks,H,k2,mk2,hH1,hH2⟩:=oc s1 ls k1;split at k2
 rotate_left
 exact k2.elim;rename_i R hR;obtain⟨r,m',hcall,k3⟩:=k2.out;obtain⟨⟨fn,hfn,hbody,hname⟩,hgo⟩:=hC _ _ _ _ _ hcall;have hls:ls.Nodup:=ml.nodup yi;have hks:ks.Nodup:=mk2.nodup (mk1.nodup yi);have hRs:=pK s1 ks hR;have hrun:(execOp a.eval o).run P w= .ok (.enter f0 (vf++c.args.map a.eval++vc)) w:=by
  have hb' :fn.body≠none:=RM
  have hn' :fn.name≠ "runtime.NumGoroutine":=RO
  simp[execOp,ho,resolve,hce,ef,Deferred.ofValue,invoke,callFunc,hfn,hn',hb']
 unfold Oper.wp;rw[hrun,Oper.upon_enter];have hsub:Mem (Cx.of 0 ((g1.sub ls ks).X) w ((g1.sub ls ks).I)) (g1.sub ls ks) (init args' ⟨H,R⟩) w:=l1.rel.mem.sub hls hks ⟨hH1,hH2⟩ hRs (λb hb=>Or.inr hb) (λb o v hv=> .inl hv) (Frame.refl _ _) (λb hb=>Or.inl hb) rfl rfl;have e1:(c.args.map a.eval).toList=c.args.toList.map a.eval:=O
 have hvs:(vf++c.args.map a.eval++vc).size=args'.length:=by rw[n1];have:=hev.1;simp at this;simp[hvf,FV,this]
 have hrep:∀(i:Nat) v d,(vf++c.args.map a.eval++vc)[i]? =some v->nth args' i=some d->bD (g1.sub ls ks) v d:=by
  intro i v d hv hd';have hi:=aH hd';rw[n1]at hi;obtain⟨x,hx⟩:=bO hi;obtain⟨d',p1,p2⟩:=r1 i x hx;rw[hd']at p1;cases p1;refine p2 g1 ls ks (Ext.refl _) (ym _) mk2.pre v ?_;have lf:(c.args.map a.eval).size=args.length:=Z3
  rw[aJ]at hx;by_cases h1:i<first.length
  exact Zf;by_cases h2:i<first.length+args.length
  rw[lj az,jn E]at hx;rw[jC uE,CU E,hvf]at hv;exact Ud;rw[jn az]at hx;rw[CU uE]at hv;refine rc (i - (first++args).length) v x ?_ E9;have:(vf++Array.map a.eval c.args).size=(first++args).length:=uE
  rw[this]at hv;exact hv
 refine Calls.mono (hgo (g1.sub ls ks) w _ hvs hrep hsub) λe w' he=> ?_;have behind:∀{γ' :Gh},fF ks t s1.R 0 m'.R=true->m'.H.all vZ=true->Ext (g1.sub ls ks) γ' ->Mem (Cx.of 0 ((g1.sub ls ks).X) w ((g1.sub ls ks).I)) γ' (init [] m') w' ->
  Ext g1 (g1.back γ' ks t m'.R.length)∧Rel cx (g1.back γ' ks t m'.R.length) {env:=s1.env,H:=fC ks t s1.H ls m'.H,hn:=s1.hn,R:=(dC ks t s1.R s1.rn 0 m'.R).1,rn:=(dC ks t s1.R s1.rn 0 m'.R).2,y:=s1.y} a w' ∧_:=λ{γ'} hb1 hb3 x1 x3=>
  have y:=l1.rel.mem.behind (t:=t) hls hks (λi k hik=>by obtain⟨r,hr,_⟩:=hRs.2 i k hik;exact⟨r,hr⟩)
   (λi l hil=>by obtain⟨d,_,hd',_⟩:=hH2 i l hil;exact⟨d,hd'⟩) x1 x3 hb1 hb3
   (s' :={env:=s1.env,H:=fC ks t s1.H ls m'.H,hn:=s1.hn,R:=(dC ks t s1.R s1.rn 0 m'.R).1,rn:=(dC ks t s1.R s1.rn 0 m'.R).2,y:=s1.y}) rfl rfl
  ⟨y.1,⟨λu d hu=>(l1.rel.env u d hu).mono y.1,l1.rel.size,l1.rel.defers,y.2.1⟩,y.2.2⟩
 cases e with
 |outgrown=>exact he.elim
 |panicked ch=>
  obtain⟨γ',q,x1,x2,rfl,x3⟩:=he;rw[x2]at k3;dsimp only at k3;split at k3
  rotate_left
  exact k3.elim;rename_i hb;simp only[aX]at hb;obtain⟨hb1,hb3,_⟩:=hb;obtain⟨y1,y2,_⟩:=behind hb1 hb3 x1 x3;exact hQ q _ _ _ k3 (l1.ext.trans y1) y2
 |returned v=>
  obtain⟨γ',x1,x2,x3⟩:=he;split at k3
  rotate_left
  rename_i q hq;rw[bD.aqh x2]at hq;cases hq;split at k3
  rotate_left
  exact k3.elim;rename_i hb;simp only[aX]at hb;obtain⟨hb1,⟨hb2,hb3⟩,_⟩:=hb;obtain⟨y1,hrel,y3⟩:=behind hb1 hb3 x1 x3;refine⟨_,_,k3,l1.ext.trans y1,?_⟩;have:=hrel.put (dst:=some t) (by rw[<-hdst];exact hd) (agf (ks:=ks) (t:=t) (γ' :=γ') rfl y3 hb2 x2);rw[hdst];exact dj
def DJ(h:Rel cx g s a w){o:Oper}(hd:ji cx.n o.dst=true)(hc:lD o=true){cf:mN}(hC:∀f args m r m',cf.C f args m r m' ->aj P f args m r m'){K:St->Prop}{KP:Nat->St->Prop}{Q:Go.Exit->Act->World->Prop}{f0:FuncId}{as0:List au}(hp:cu P o (cY P s)= .call f0 as0)(hk:OM P cf true o.dst s K KP (.call f0 as0))(hQ:∀q s' g' w',KP q s' ->Ext g g' ->Rel cx g' s' a w' ->Q (.panic (qh q)) a w'):o.wp P a w (fK cx g K) Q:=DK h h hd hc hC hp hk hQ
end
end Abs
