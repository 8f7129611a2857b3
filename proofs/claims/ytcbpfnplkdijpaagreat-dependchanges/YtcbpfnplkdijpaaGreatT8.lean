/- A part of a proof: an abstract machine, proved sound, or contracts of functions. No condition. -/
import Derived.Test.YtcbpfnplkdijpaaGreatT7
import Derived.Test.YtcbpfnplkdijpaaGreatT4
set_option linter.unusedVariables false
set_option linter.unusedSimpArgs false
namespace Abs
open Go Go.Proofs
set_option maxRecDepth 100000
set_option maxHeartbeats 4000000
def SI (l : List Int) : Prop := l.Pairwise (· < ·)
theorem SI.uniq : ∀ {a b : List Int}, SI a → SI b → (∀ x, x ∈ a ↔ x ∈ b) → a = b
  | [], [], _, _, _ => rfl
  | [], y :: b, _, _, h => absurd ((h y).2 (by simp)) (by simp)
  | x :: a, [], _, _, h => absurd ((h x).1 (by simp)) (by simp)
  | x :: a, y :: b, ha, hb, h => by
    have ha' := List.pairwise_cons.1 ha
    have hb' := List.pairwise_cons.1 hb
    have e : x = y := by
      rcases List.mem_cons.1 ((h x).1 (by simp)) with e | m1
      · exact e
      · rcases List.mem_cons.1 ((h y).2 (by simp)) with e | m2
        · exact e.symm
        · have := hb'.1 x m1; have := ha'.1 y m2; omega
    subst e
    have : a = b := SI.uniq ha'.2 hb'.2 (fun z => ⟨fun m => by
      rcases List.mem_cons.1 ((h z).1 (List.mem_cons_of_mem _ m)) with e | m'
      · have := ha'.1 z m; omega
      · exact m', fun m => by
      rcases List.mem_cons.1 ((h z).2 (List.mem_cons_of_mem _ m)) with e | m'
      · have := hb'.1 z m; omega
      · exact m'⟩)
    rw [this]
theorem tw_filter (n : Int) : ∀ {l : List Int}, SI l → (l.takeWhile fun x => decide (x < n)) = l.filter fun x => decide (x < n)
  | [], _ => rfl
  | x :: l, h => by
    have h' := List.pairwise_cons.1 h
    by_cases e : x < n
    · simp [List.takeWhile, e, tw_filter n h'.2]
    · have : (l.filter fun x => decide (x < n)) = [] := List.filter_eq_nil_iff.2 fun y hy => by have := h'.1 y hy; simp; omega
      simp [List.takeWhile, e, this]
theorem addI_SI {l : List Int} (h : SI l) (n : Int) : SI (addI l n) := by
  unfold addI SI
  rw [tw_filter n h]
  refine List.pairwise_append.2 ⟨List.pairwise_append.2 ⟨h.sublist List.filter_sublist, by simp, ?_⟩, h.sublist List.filter_sublist, ?_⟩
  · intro a ha b hb
    simp at ha hb; omega
  · intro a ha b hb
    simp at ha hb
    rcases ha with ⟨_, ha⟩ | ha <;> omega
theorem addI_mem {l : List Int} (h : SI l) (n x : Int) : x ∈ addI l n ↔ x = n ∨ x ∈ l := by
  unfold addI
  rw [tw_filter n h]
  simp only [List.mem_append, List.mem_filter, List.mem_singleton, decide_eq_true_eq]
  constructor
  · rintro ((⟨h, _⟩ | h) | ⟨h, _⟩)
    · exact .inr h
    · exact .inl h
    · exact .inr h
  · rintro (h | h)
    · exact .inl (.inr h)
    · rcases Int.lt_trichotomy x n with e | e | e
      · exact .inl (.inl ⟨h, e⟩)
      · exact .inl (.inr e)
      · exact .inr ⟨h, e⟩
theorem compactUpTo_SI (d : Array Int) (hs : ∀ i j, i < j → j < d.size → d[i]! ≤ d[j]!) : ∀ m, m ≤ d.size →
    SI (Lib.compactUpTo d m) ∧ ∀ x, x ∈ Lib.compactUpTo d m ↔ ∃ j, j < m ∧ d[j]! = x
  | 0, _ => ⟨by simp [Lib.compactUpTo, SI], fun x => by simp [Lib.compactUpTo]⟩
  | m+1, hm => by
    obtain ⟨h1, h2⟩ := compactUpTo_SI d hs m (by omega)
    rw [Lib.compactUpTo_succ]
    by_cases hk : Lib.keeps d m = true
    · rw [if_pos hk]
      refine ⟨List.pairwise_append.2 ⟨h1, by simp, fun a ha b hb => ?_⟩, fun x => ?_⟩
      · rw [List.mem_singleton.1 hb]
        obtain ⟨j, hj, rfl⟩ := (h2 a).1 ha
        simp [Lib.keeps] at hk
        have hm0 : d[m]! ≠ d[m-1]! := hk.elim (fun e => absurd e (by omega)) id
        have l1 := hs (m-1) m (by omega) (by omega)
        rcases Nat.lt_or_ge j (m-1) with e | e
        · have l2 := hs j (m-1) e (by omega); omega
        · rw [show j = m-1 by omega]; omega
      · rw [List.mem_append, h2, List.mem_singleton]
        constructor
        · rintro (⟨j, hj, e⟩ | e)
          · exact ⟨j, by omega, e⟩
          · exact ⟨m, by omega, e.symm⟩
        · rintro ⟨j, hj, e⟩
          rcases Nat.lt_or_ge j m with e' | e'
          · exact .inl ⟨j, e', e⟩
          · rw [show j = m by omega] at e; exact .inr e.symm
    · rw [if_neg hk, List.append_nil]
      simp [Lib.keeps] at hk
      refine ⟨h1, fun x => ?_⟩
      rw [h2]
      constructor
      · rintro ⟨j, hj, e⟩; exact ⟨j, by omega, e⟩
      · rintro ⟨j, hj, e⟩
        rcases Nat.lt_or_ge j m with e' | e'
        · exact ⟨j, e', e⟩
        · refine ⟨m - 1, by omega, ?_⟩
          rw [← hk.2, ← e, show j = m by omega]
theorem compact_SI (l : List Int) (hs : l.Pairwise (· ≤ ·)) : SI (Lib.compact l) ∧ ∀ x, x ∈ Lib.compact l ↔ x ∈ l := by
  have h := compactUpTo_SI l.toArray (fun i j hij hj => by
    have hj : j < l.length := by simpa using hj
    have hi : i < l.length := by omega
    have := (List.pairwise_iff_getElem.1 hs) i j hi hj hij
    simpa [hi, hj] using this) l.length (by simp)
  refine ⟨h.1, fun x => ?_⟩
  rw [Lib.compact, h.2]
  constructor
  · rintro ⟨j, hj, e⟩
    rw [← e]; simp [hj]
  · intro hx
    obtain ⟨j, hj, e⟩ := List.getElem_of_mem hx
    exact ⟨j, hj, by rw [← e]; simp [hj]⟩
def sortC (l : List Int) : List Int := Lib.compact (l.mergeSort fun x y => decide (x ≤ y))
theorem sortC_SI (l : List Int) : SI (sortC l) ∧ ∀ x, x ∈ sortC l ↔ x ∈ l := by
  have hp : (l.mergeSort fun x y => decide (x ≤ y)).Pairwise (· ≤ ·) := by
    have := List.pairwise_mergeSort (le := fun x y : Int => decide (x ≤ y)) (fun a b c h1 h2 => by simp at h1 h2 ⊢; omega) (fun a b => by simp; omega) l
    exact this.imp (fun h => by simpa using h)
  have h := compact_SI _ hp
  exact ⟨h.1, fun x => by rw [sortC, h.2, List.mem_mergeSort]⟩
theorem rcS_SI : ∀ (l : List Sm) {a : List Int}, SI a → SI (l.foldl rcS a) ∧ ∀ x, x ∈ l.foldl rcS a ↔ x ∈ a ∨ ∃ s ∈ l, (s.op == 13) = true ∧ s.m = x
  | [], a, h => ⟨h, fun x => by simp⟩
  | s :: l, a, h => by
    rw [List.foldl_cons]
    cases e : s.op == 13 with
    | true =>
      have e' : rcS a s = addI a s.m := if_pos e
      obtain ⟨h1, h2⟩ := rcS_SI l (addI_SI h s.m)
      rw [e']
      refine ⟨h1, fun x => ?_⟩
      rw [h2, addI_mem h]
      constructor
      · rintro ((e1 | e1) | ⟨t, ht, e1⟩)
        · exact .inr ⟨s, by simp, e, e1.symm⟩
        · exact .inl e1
        · exact .inr ⟨t, by simp [ht], e1⟩
      · rintro (e1 | ⟨t, ht, e1, e2⟩)
        · exact .inl (.inr e1)
        · rcases List.mem_cons.1 ht with rfl | ht
          · exact .inl (.inl e2.symm)
          · exact .inr ⟨t, ht, e1, e2⟩
    | false =>
      have e' : rcS a s = a := if_neg (by rw [e]; simp)
      obtain ⟨h1, h2⟩ := rcS_SI l h
      rw [e']
      refine ⟨h1, fun x => ?_⟩
      rw [h2]
      constructor
      · rintro (e1 | ⟨t, ht, e1⟩)
        · exact .inl e1
        · exact .inr ⟨t, by simp [ht], e1⟩
      · rintro (e1 | ⟨t, ht, e1, e2⟩)
        · exact .inl e1
        · rcases List.mem_cons.1 ht with rfl | ht
          · rw [e] at e1; cases e1
          · exact .inr ⟨t, ht, e1, e2⟩
theorem calls_eq (body : List Sm) : callsOf body = rcalls body := by
  have h1 := sortC_SI (callees (flL body 1))
  have h2 := rcS_SI (fL body) (a := []) List.Pairwise.nil
  refine SI.uniq h1.1 h2.1 fun x => ?_
  refine (h1.2 x).trans (Iff.trans ?_ (h2.2 x).symm)
  rw [← flL_fst body 1]
  simp only [callees, List.mem_map, List.mem_filter, List.not_mem_nil, false_or]
  constructor
  · rintro ⟨y, ⟨hy, e⟩, e2⟩; exact ⟨y.1, ⟨y, hy, rfl⟩, e, e2⟩
  · rintro ⟨s, ⟨y, hy, rfl⟩, e, e2⟩; exact ⟨y, ⟨hy, e⟩, e2⟩
def xT (o : OB) (s : Sm) : OB := xEs s.args (xE s.y (xE s.x o))
mutual
theorem xS_fl : ∀ (s : Sm) (o : OB), xS s o = (fS s).foldl xT o
  | .mk a b c d e x y h args j body els, o => by
    simp only [xS, fS, List.foldl_cons, List.foldl_append, xSs_fl body, xSs_fl els]; rfl
theorem xSs_fl : ∀ (l : List Sm) (o : OB), xSs l o = (fL l).foldl xT o
  | [], o => rfl
  | s :: l, o => by simp only [xSs, fL, List.foldl_append, xS_fl s, xSs_fl l]
end
structure OR (l : List Int) (o : OB) : Prop where
  si : SI l
  lo : ∀ x ∈ l, 0 ≤ x ∧ x < 11
  mem : ∀ n : Nat, (n : Int) ∈ l ↔ o n = true
theorem OR.ad {l : List Int} {o : OB} (h : OR l o) (op : Int) : OR (adOp l op) (setO o op) := by
  unfold adOp setO
  have e : opIn op = (decide (op ≥ 4) && decide (op ≤ 10)) := rfl
  rw [← e]
  cases hb : opIn op with
  | false => exact h
  | true =>
    rw [e] at hb
    simp at hb
    refine ⟨addI_SI h.si op, fun x hx => ?_, fun n => ?_⟩
    · rcases (addI_mem h.si op x).1 hx with rfl | hx
      · omega
      · exact h.lo x hx
    · rw [if_pos rfl, addI_mem h.si, h.mem]
      show _ ↔ (Nat.beq n op.toNat || o n) = true
      rw [Bool.or_eq_true]
      constructor
      · rintro (h | h)
        · exact .inl (by rw [show n = op.toNat by omega]; exact Nat.beq_refl _)
        · exact .inr h
      · rintro (h | h)
        · have := Nat.eq_of_beq_eq_true h; exact .inl (by omega)
        · exact .inr h
mutual
theorem OR.e : ∀ (e : Ex) {l : List Int} {o : OB}, OR l o → OR (opE e l) (xE e o)
  | .mk op n v a, l, o, h => OR.es a (h.ad op)
theorem OR.es : ∀ (es : List Ex) {l : List Int} {o : OB}, OR l o → OR (opEs es l) (xEs es o)
  | [], l, o, h => h
  | e :: es, l, o, h => OR.es es (OR.e e h)
end
theorem OR.fold : ∀ (ss : List Sm) {l : List Int} {o : OB}, OR l o → OR (ss.foldl ropS l) (ss.foldl xT o)
  | [], l, o, h => h
  | s :: ss, l, o, h => OR.fold ss (OR.es _ (OR.e _ (OR.e _ h)))
theorem ops_eq (body : List Sm) : dops body = rops body := by
  have h : OR (rops body) (xSs body noO) := by
    rw [xSs_fl]
    exact OR.fold _ ⟨List.Pairwise.nil, by simp, by simp [noO]⟩
  refine SI.uniq ?_ h.si fun x => ?_
  · unfold dops SI
    rw [List.pairwise_map]
    exact ((List.pairwise_lt_range (n := 11)).filter _).imp (fun h => by omega)
  · unfold dops
    simp only [List.mem_map, List.mem_filter, List.mem_range]
    constructor
    · rintro ⟨n, ⟨_, e⟩, rfl⟩; exact (h.mem n).2 e
    · intro hx
      have hb := h.lo x hx
      refine ⟨x.toNat, ⟨by omega, (h.mem _).1 ?_⟩, by omega⟩
      rwa [show ((x.toNat : Nat) : Int) = x by omega]
end Abs
namespace Abs
open Go Go.Proofs
set_option maxRecDepth 100000
set_option maxHeartbeats 4000000
def nmD (d : Df) : Df := ⟨d.id, d.site, [102], 0, d.part, d.params, d.given, d.vars, d.refs, d.arrays, d.budget, d.body⟩
def zNe : Ne := ⟨0, [], [], [], [], 0⟩
def cNe (id : Int) (b : List UInt8) (l : List Int) (s r : Dat) (v : Int) : List Dat := [it id, byt b, ints l, s, r, it v]
def sumOf (p : Pg) (sums : List Sy) (c : Int) : Sy := if (fnd (fun x : Sy => x.id == c) zSy sums).2 then (fnd (fun x : Sy => x.id == c) zSy sums).1 else topOf p c
def ruleIn (ops : List Int) (r : Ru) : Bool := (fnd (fun x : Int => x == r.op) 0 ops).2
def mkNe (p : Pg) (s : Su) (id : Int) (sums : List Sy) (d : Df) : Ne :=
  ⟨id, (wD (nmD d)).flatMap wB, declW p (rcalls d.body), (rcalls d.body).map (sumOf p sums), s.rules.filter (ruleIn (rops d.body)), s.level⟩
def needOf (p : Pg) (s : Su) (id : Int) (sums : List Sy) : Ne × Int :=
  if (fnd (fun x : Df => x.id == id) zDf p.defs).2 then
    (if (wD (nmD (fnd (fun x : Df => x.id == id) zDf p.defs).1)).length ≤ 100000 then (mkNe p s id sums (fnd (fun x : Df => x.id == id) zDf p.defs).1, 0) else (zNe, 2))
  else (zNe, 4)
structure Fits (p : Pg) : Prop where
  locks : p.d.locks = 3
  nheads : p.heads.length < 2^40
  ndefs : p.defs.length < 2^40
  words : ∀ d ∈ p.defs, (wD (nmD d)).length < 2^30
  decl : ∀ d ∈ p.defs, (declW p (rcalls d.body)).length < 2^30
theorem cg2 {α β γ : Type} (f : α → β → γ) {a a' : α} {b b' : β} (h1 : a = a') (h2 : b = b') : f a b = f a' b' := by subst h1 h2; rfl
theorem fnd_mem {α : Type} {p : α → Bool} {z : α} : ∀ {l : List α}, (fnd p z l).2 = true → (fnd p z l).1 ∈ l
  | [], h => by cases h
  | x :: l, h => by
    unfold fnd at h ⊢
    by_cases e : p x = true
    · rw [if_pos e]; exact List.mem_cons_self
    · rw [if_neg e] at h ⊢; exact List.mem_cons_of_mem _ (fnd_mem h)
theorem map_take {α β : Type} {f : α → β} {l : List α} {k : Nat} (h : k < l.length) : (l.take (k+1)).map f = (l.take k).map f ++ [f l[k]] := by
  rw [take_one h, List.map_append]; rfl
theorem szD (d : Df) (h : (wD (nmD d)).length < 2^30) : szL d.body < 2^30 := by
  have h1 := wD_len (nmD d)
  have h2 := wl_len wS (nmD d).body
  have h3 := szL_fm (nmD d).body
  have h4 : szL (nmD d).body = szL d.body := rfl
  omega
theorem rcalls_len (body : List Sm) : (rcalls body).length ≤ szL body := by
  have := rc_len (fL body) []; rw [fL_len] at this; simpa [rcalls] using this
theorem rops_len (d : Df) (h : (wD (nmD d)).length < 2^30) : (rops d.body).length < 2^30 := by
  have h1 := rop_len (fL d.body) []
  have h2 := opW_L d.body
  have h3 := wD_len (nmD d)
  have h4 := wl_len wS (nmD d).body
  have h5 : (nmD d).body = d.body := rfl
  rw [h5] at h4 h3
  have h6 : (rops d.body).length ≤ 0 + opWs (fL d.body) := h1
  omega
theorem dOf_ok (p : Pg) (s : Su) (id : Int) (sums : List Sy) (hf : Fits p) (hs : sums.length < 2^40) (hr : s.rules.length < 2^30) :
    CallsA Tryz.prog 31 [encP p, encSu s, it id, lst 11 encSy sums] ct0 ((fun x : Ne × Int => Dat.tup [encN x.1, it x.2]) (needOf p s id sums)) ct0 := by
  have hF := shapeFind_ok p id hf.ndefs
  unfold needOf
  refine (Bool.eq_false_or_eq_true ((fnd (fun x : Df => x.id == id) zDf p.defs).2)).elim (fun b0 => ?_) (fun b0 => ?_)
  · have hm0 := fnd_mem b0
    rw [if_pos b0]
    have hD : ∃ D, D = (fnd (fun x : Df => x.id == id) zDf p.defs).1 := ⟨_, rfl⟩
    refine hD.elim fun D hD => ?_
    have hfd : fnd (fun x : Df => x.id == id) zDf p.defs = (D, true) := Prod.ext hD.symm b0
    rw [hfd] at hF hm0 ⊢
    have hw := hf.words D hm0
    have hdl := hf.decl D hm0
    have hsz := szD D hw
    have hrl := rops_len D hw
    have hcl := rcalls_len D.body
    have hE := encodeDef_ok (nmD D) hw
    have hC := shapeCalls_ok (nmD D) hsz
    have hO := dOps_ok (nmD D) hw
    have eb : (nmD D).body = D.body := rfl
    rw [eb, calls_eq] at hC
    rw [eb, ops_eq] at hO
    have hDc := ddecl_ok p (rcalls D.body) hdl hf.nheads
    unfold eDef at hE
    by_cases hb : (wD (nmD D)).length ≤ 100000
    · rw [if_pos hb] at hE ⊢
      have hcs : ∃ cs, cs = rcalls D.body := ⟨_, rfl⟩
      refine hcs.elim fun cs hcs => ?_
      have hos : ∃ os, os = rops D.body := ⟨_, rfl⟩
      refine hos.elim fun os hos => ?_
      have hds : ∃ ds, ds = declW p cs := ⟨_, rfl⟩
      refine hds.elim fun ds hds => ?_
      have hbs : ∃ bs, bs = (wD (nmD D)).flatMap wB := ⟨_, rfl⟩
      refine hbs.elim fun bs hbs => ?_
      have hmk : mkNe p s id sums D = ⟨id, bs, ds, cs.map (sumOf p sums), s.rules.filter (ruleIn os), s.level⟩ := by rw [hbs, hds, hcs, hos]; rfl
      rw [hmk]
      rw [← hos] at hO hrl
      rw [← hcs] at hC hcl hdl hDc
      rw [← hds] at hdl hDc
      rw [← hbs] at hE
      refine fn_ok hm Tryz.func31 (fun _ => false) [] (fun _ => []) (by kernel_rfl) ?_
      refine run ?_; repeat ((apply call_ok; first | exact (hF) | exact (hE) | exact (hC) | exact (hO) | exact (hDc)); refine run ?_)
      refine LoopS.mk ⟨[.cell 16 3 20011], HeadS.lp (fun r : CR => r.k ≤ cs.length ∧ r.acc = ((cs.take r.k).map (sumOf p sums)).map encSy) (fun r => ⟨[(57, it r.k)], [(16, .agg (cNe id bs ds (.ref 20011 r.acc.length) (.sl 10 [] true) s.level))], [(20011, ⟨11, true, r.acc⟩)]⟩) (fun r => cs.length - r.k) ⟨0, []⟩ ⟨Nat.zero_le _, rfl⟩ ?_⟩
      intro r hJ
      have h1 := hJ.1
      have h2 := hJ.2
      by_cases hk : r.k < cs.length
      · have b1 : decide ((r.k : Int) < ((cs.map it).length : Nat)) = true := by simp; exact hk
        have hlen : r.acc.length = r.k := by rw [h2, List.length_map, List.length_map, List.length_take]; omega
        have hN : r.acc ++ [encSy (sumOf p sums cs[r.k])] = ((cs.take (r.k + 1)).map (sumOf p sums)).map encSy := by rw [h2, map_take hk, List.map_append]; rfl
        have c1 := sumFind_ok sums cs[r.k] hs
        have c2 := sumTop_ok p cs[r.k] hf.locks hf.nheads
        refine (Bool.eq_false_or_eq_true ((fnd (fun x : Sy => x.id == cs[r.k]) zSy sums).2)).elim (fun d0 => ?_) (fun d0 => ?_)
        · have n0 : (!(fnd (fun x : Sy => x.id == cs[r.k]) zSy sums).2) = false := by rw [d0]; rfl
          have e : sumOf p sums cs[r.k] = (fnd (fun x : Sy => x.id == cs[r.k]) zSy sums).1 := if_pos d0
          rw [e] at hN
          refine run ?_
          refine Idx.map hk rfl ?_
          refine run ?_; repeat ((apply call_ok; first | exact (c1) | exact (c2)); refine run ?_)
          refine ⟨⟨⟨r.k + 1, _⟩, ⟨hk, hN⟩⟩, Nat.sub_lt_sub_left hk (Nat.lt_succ_self _), ?_⟩
          repeat' (first | exact trivial | exact rfl | refine ⟨?_, ?_⟩ | refine ⟨?_, ?_, ?_⟩)
        · have n0 : (!(fnd (fun x : Sy => x.id == cs[r.k]) zSy sums).2) = true := by rw [d0]; rfl
          have e : sumOf p sums cs[r.k] = topOf p cs[r.k] := if_neg (by rw [d0]; simp)
          rw [e] at hN
          refine run ?_
          refine Idx.map hk rfl ?_
          refine run ?_; repeat ((apply call_ok; first | exact (c1) | exact (c2)); refine run ?_)
          refine ⟨⟨⟨r.k + 1, _⟩, ⟨hk, hN⟩⟩, Nat.sub_lt_sub_left hk (Nat.lt_succ_self _), ?_⟩
          repeat' (first | exact trivial | exact rfl | refine ⟨?_, ?_⟩ | refine ⟨?_, ?_, ?_⟩)
      have b1 : decide ((r.k : Int) < ((cs.map it).length : Nat)) = false := by simp; omega
      have e1 : r.acc = (cs.map (sumOf p sums)).map encSy := by rw [h2, List.take_of_length_le (by omega)]
      refine run ?_
      refine LoopS.mk ⟨[.cell 16 4 20019], HeadS.lp (fun q : CR => q.k ≤ s.rules.length ∧ q.acc = ((s.rules.take q.k).filter (ruleIn os)).map encRu) (fun q => ⟨[(85, it q.k)], [(16, .agg (cNe id bs ds (.ref 20011 r.acc.length) (.ref 20019 q.acc.length) s.level))], [(20019, ⟨10, true, q.acc⟩)]⟩) (fun q => s.rules.length - q.k) ⟨0, []⟩ ⟨Nat.zero_le _, rfl⟩ ?_⟩
      intro q hq
      have q1 := hq.1
      have q2 := hq.2
      by_cases gk : q.k < s.rules.length
      · have d1 : decide ((q.k : Int) < ((s.rules.map encRu).length : Nat)) = true := by simp; exact gk
        have gle := flt_le (p := ruleIn os) (l := s.rules) q.k
        have glen : q.acc.length = ((s.rules.take q.k).filter (ruleIn os)).length := by rw [q2, List.length_map]
        have c3 := libContains_ok os s.rules[q.k].op (by omega)
        refine (Bool.eq_false_or_eq_true ((fnd (fun x : Int => x == s.rules[q.k].op) 0 os).2)).elim (fun d2 => ?_) (fun d2 => ?_)
        · have gN : q.acc ++ [encRu s.rules[q.k]] = ((s.rules.take (q.k + 1)).filter (ruleIn os)).map encRu := by rw [q2, flt_yes gk d2, List.map_append]; rfl
          refine run ?_
          refine Idx.map gk rfl ?_
          refine run ?_; repeat ((apply call_ok; first | exact (c3)); refine run ?_)
          refine ⟨⟨⟨q.k + 1, _⟩, ⟨gk, gN⟩⟩, Nat.sub_lt_sub_left gk (Nat.lt_succ_self _), ?_⟩
          repeat' (first | exact trivial | exact rfl | refine ⟨?_, ?_⟩ | refine ⟨?_, ?_, ?_⟩)
        · have gN : q.acc = ((s.rules.take (q.k + 1)).filter (ruleIn os)).map encRu := by rw [q2, flt_no gk d2]
          refine run ?_
          refine Idx.map gk rfl ?_
          refine run ?_; repeat ((apply call_ok; first | exact (c3)); refine run ?_)
          refine ⟨⟨⟨q.k + 1, _⟩, ⟨gk, gN⟩⟩, Nat.sub_lt_sub_left gk (Nat.lt_succ_self _), ?_⟩
          repeat' (first | exact trivial | exact rfl | refine ⟨?_, ?_⟩ | refine ⟨?_, ?_, ?_⟩)
      have d1 : decide ((q.k : Int) < ((s.rules.map encRu).length : Nat)) = false := by simp; omega
      have e2 : q.acc = (s.rules.filter (ruleIn os)).map encRu := by rw [q2, List.take_of_length_le (by omega)]
      refine run ?_
      exact Done.mk (cg2 (fun x y => Dat.tup [.agg (cNe id bs ds (.sl 11 x false) (.sl 10 y false) s.level), it 0]) e1 e2) rfl
    · rw [if_neg hb] at hE ⊢
      refine fn_ok hm Tryz.func31 (fun _ => false) [] (fun _ => []) (by kernel_rfl) ?_
      refine run ?_; repeat ((apply call_ok; first | exact (hF) | exact (hE)); refine run ?_)
      exact Done.mk rfl rfl
  · have hfd : fnd (fun x : Df => x.id == id) zDf p.defs = ((fnd (fun x : Df => x.id == id) zDf p.defs).1, false) := Prod.ext rfl b0
    rw [if_neg (by rw [b0]; simp)]
    rw [hfd] at hF
    refine fn_ok hm Tryz.func31 (fun _ => false) [] (fun _ => []) (by kernel_rfl) ?_
    refine run ?_; repeat ((apply call_ok; first | exact (hF)); refine run ?_)
    exact Done.mk rfl rfl
theorem refOf_ok (p : Pg) (s : Su) (id : Int) (sums : List Sy) (hf : Fits p) (hs : sums.length < 2^40) (hr : s.rules.length < 2^30) :
    CallsA Tryz.prog 12 [encP p, encSu s, it id, lst 11 encSy sums] ct0 ((fun x : Ne × Int => Dat.agg (cN x.1 ++ [it x.2])) (needOf p s id sums)) ct0 := by
  have hF := refFindIn_ok p id hf.ndefs
  unfold needOf
  refine (Bool.eq_false_or_eq_true ((fnd (fun x : Df => x.id == id) zDf p.defs).2)).elim (fun b0 => ?_) (fun b0 => ?_)
  · have hm0 := fnd_mem b0
    rw [if_pos b0]
    have hD : ∃ D, D = (fnd (fun x : Df => x.id == id) zDf p.defs).1 := ⟨_, rfl⟩
    refine hD.elim fun D hD => ?_
    have hfd : fnd (fun x : Df => x.id == id) zDf p.defs = (D, true) := Prod.ext hD.symm b0
    rw [hfd] at hF hm0 ⊢
    have hw := hf.words D hm0
    have hdl := hf.decl D hm0
    have hsz := szD D hw
    have hrl := rops_len D hw
    have hcl := rcalls_len D.body
    have hE := defIn_ok (nmD D) hw
    have hC := refCalls_ok (nmD D) hsz
    have hO := refOpsAll_ok (nmD D) hw
    have eb : (nmD D).body = D.body := rfl
    rw [eb] at hC hO
    have hDc := refDecl_ok p (nmD D) hsz hdl hf.nheads
    rw [eb] at hDc
    unfold wrOf at hE
    by_cases hb : (wD (nmD D)).length ≤ 100000
    · rw [if_pos hb] at hE ⊢
      have hcs : ∃ cs, cs = rcalls D.body := ⟨_, rfl⟩
      refine hcs.elim fun cs hcs => ?_
      have hos : ∃ os, os = rops D.body := ⟨_, rfl⟩
      refine hos.elim fun os hos => ?_
      have hds : ∃ ds, ds = declW p cs := ⟨_, rfl⟩
      refine hds.elim fun ds hds => ?_
      have hbs : ∃ bs, bs = (wD (nmD D)).flatMap wB := ⟨_, rfl⟩
      refine hbs.elim fun bs hbs => ?_
      have hmk : mkNe p s id sums D = ⟨id, bs, ds, cs.map (sumOf p sums), s.rules.filter (ruleIn os), s.level⟩ := by rw [hbs, hds, hcs, hos]; rfl
      rw [hmk]
      rw [← hos] at hO hrl
      rw [← hcs] at hC hcl hdl hDc
      rw [← hds] at hdl hDc
      rw [← hbs] at hE
      refine fn_ok hm Tryz.func12 (fun _ => false) [] (fun _ => []) (by kernel_rfl) ?_
      refine run ?_; repeat ((apply call_ok; first | exact (hF) | exact (hE) | exact (hC) | exact (hO) | exact (hDc)); refine run ?_)
      refine LoopS.mk ⟨[.cell 12 3 20012], HeadS.lp (fun r : CR => r.k ≤ cs.length ∧ r.acc = ((cs.take r.k).map (sumOf p sums)).map encSy) (fun r => ⟨[(15, it r.k)], [(12, .agg (cNe id bs ds (.ref 20012 r.acc.length) (.sl 10 [] true) s.level))], [(20012, ⟨11, true, r.acc⟩)]⟩) (fun r => cs.length - r.k) ⟨0, []⟩ ⟨Nat.zero_le _, rfl⟩ ?_⟩
      intro r hJ
      have h1 := hJ.1
      have h2 := hJ.2
      by_cases hk : r.k < cs.length
      · have b1 : decide ((r.k : Int) < ((cs.map it).length : Nat)) = true := by simp; exact hk
        have hlen : r.acc.length = r.k := by rw [h2, List.length_map, List.length_map, List.length_take]; omega
        have hN : r.acc ++ [encSy (sumOf p sums cs[r.k])] = ((cs.take (r.k + 1)).map (sumOf p sums)).map encSy := by rw [h2, map_take hk, List.map_append]; rfl
        have c1 := refSumIn_ok sums cs[r.k] hs
        have c2 := refTop_ok p cs[r.k] hf.locks hf.nheads
        refine (Bool.eq_false_or_eq_true ((fnd (fun x : Sy => x.id == cs[r.k]) zSy sums).2)).elim (fun d0 => ?_) (fun d0 => ?_)
        · have n0 : (!(fnd (fun x : Sy => x.id == cs[r.k]) zSy sums).2) = false := by rw [d0]; rfl
          have e : sumOf p sums cs[r.k] = (fnd (fun x : Sy => x.id == cs[r.k]) zSy sums).1 := if_pos d0
          rw [e] at hN
          refine run ?_
          refine Idx.map hk rfl ?_
          refine run ?_; repeat ((apply call_ok; first | exact (c2)); refine run ?_)
          refine Idx.map hk rfl ?_
          refine run ?_; repeat ((apply call_ok; first | exact (c1)); refine run ?_)
          refine ⟨⟨⟨r.k + 1, _⟩, ⟨hk, hN⟩⟩, Nat.sub_lt_sub_left hk (Nat.lt_succ_self _), ?_⟩
          repeat' (first | exact trivial | exact rfl | refine ⟨?_, ?_⟩ | refine ⟨?_, ?_, ?_⟩)
        · have n0 : (!(fnd (fun x : Sy => x.id == cs[r.k]) zSy sums).2) = true := by rw [d0]; rfl
          have e : sumOf p sums cs[r.k] = topOf p cs[r.k] := if_neg (by rw [d0]; simp)
          rw [e] at hN
          refine run ?_
          refine Idx.map hk rfl ?_
          refine run ?_; repeat ((apply call_ok; first | exact (c2)); refine run ?_)
          refine Idx.map hk rfl ?_
          refine run ?_; repeat ((apply call_ok; first | exact (c1)); refine run ?_)
          refine ⟨⟨⟨r.k + 1, _⟩, ⟨hk, hN⟩⟩, Nat.sub_lt_sub_left hk (Nat.lt_succ_self _), ?_⟩
          repeat' (first | exact trivial | exact rfl | refine ⟨?_, ?_⟩ | refine ⟨?_, ?_, ?_⟩)
      have b1 : decide ((r.k : Int) < ((cs.map it).length : Nat)) = false := by simp; omega
      have e1 : r.acc = (cs.map (sumOf p sums)).map encSy := by rw [h2, List.take_of_length_le (by omega)]
      refine run ?_
      refine LoopS.mk ⟨[.cell 12 4 20020], HeadS.lp (fun q : CR => q.k ≤ s.rules.length ∧ q.acc = ((s.rules.take q.k).filter (ruleIn os)).map encRu) (fun q => ⟨[(18, it q.k)], [(12, .agg (cNe id bs ds (.ref 20012 r.acc.length) (.ref 20020 q.acc.length) s.level))], [(20020, ⟨10, true, q.acc⟩)]⟩) (fun q => s.rules.length - q.k) ⟨0, []⟩ ⟨Nat.zero_le _, rfl⟩ ?_⟩
      intro q hq
      have q1 := hq.1
      have q2 := hq.2
      by_cases gk : q.k < s.rules.length
      · have d1 : decide ((q.k : Int) < ((s.rules.map encRu).length : Nat)) = true := by simp; exact gk
        have gle := flt_le (p := ruleIn os) (l := s.rules) q.k
        have glen : q.acc.length = ((s.rules.take q.k).filter (ruleIn os)).length := by rw [q2, List.length_map]
        have c3 := refHas_ok os s.rules[q.k].op (by omega)
        refine (Bool.eq_false_or_eq_true ((fnd (fun x : Int => x == s.rules[q.k].op) 0 os).2)).elim (fun d2 => ?_) (fun d2 => ?_)
        · have gN : q.acc ++ [encRu s.rules[q.k]] = ((s.rules.take (q.k + 1)).filter (ruleIn os)).map encRu := by rw [q2, flt_yes gk d2, List.map_append]; rfl
          refine run ?_
          refine Idx.map gk rfl ?_
          refine run ?_; repeat ((apply call_ok; first | exact (c3)); refine run ?_)
          refine Idx.map gk rfl ?_
          refine run ?_
          refine ⟨⟨⟨q.k + 1, _⟩, ⟨gk, gN⟩⟩, Nat.sub_lt_sub_left gk (Nat.lt_succ_self _), ?_⟩
          repeat' (first | exact trivial | exact rfl | refine ⟨?_, ?_⟩ | refine ⟨?_, ?_, ?_⟩)
        · have gN : q.acc = ((s.rules.take (q.k + 1)).filter (ruleIn os)).map encRu := by rw [q2, flt_no gk d2]
          refine run ?_
          refine Idx.map gk rfl ?_
          refine run ?_; repeat ((apply call_ok; first | exact (c3)); refine run ?_)
          refine ⟨⟨⟨q.k + 1, _⟩, ⟨gk, gN⟩⟩, Nat.sub_lt_sub_left gk (Nat.lt_succ_self _), ?_⟩
          repeat' (first | exact trivial | exact rfl | refine ⟨?_, ?_⟩ | refine ⟨?_, ?_, ?_⟩)
      have d1 : decide ((q.k : Int) < ((s.rules.map encRu).length : Nat)) = false := by simp; omega
      have e2 : q.acc = (s.rules.filter (ruleIn os)).map encRu := by rw [q2, List.take_of_length_le (by omega)]
      refine run ?_
      exact Done.mk (cg2 (fun x y => Dat.agg (cNe id bs ds (.sl 11 x false) (.sl 10 y false) s.level ++ [it 0])) e1 e2) rfl
    · rw [if_neg hb] at hE ⊢
      refine fn_ok hm Tryz.func12 (fun _ => false) [] (fun _ => []) (by kernel_rfl) ?_
      refine run ?_; repeat ((apply call_ok; first | exact (hF) | exact (hE)); refine run ?_)
      exact Done.mk rfl rfl
  · have hfd : fnd (fun x : Df => x.id == id) zDf p.defs = ((fnd (fun x : Df => x.id == id) zDf p.defs).1, false) := Prod.ext rfl b0
    rw [if_neg (by rw [b0]; simp)]
    rw [hfd] at hF
    refine fn_ok hm Tryz.func12 (fun _ => false) [] (fun _ => []) (by kernel_rfl) ?_
    refine run ?_; repeat ((apply call_ok; first | exact (hF)); refine run ?_)
    exact Done.mk rfl rfl
end Abs
namespace Abs
open Go Go.Proofs
set_option maxRecDepth 100000
set_option maxHeartbeats 4000000
structure NeOk (a : Ne) : Prop where
  decl : a.decl.length < 2^62
  sums : a.sums.length < 2^30
  pairs : ∀ x ∈ a.sums, x.pairs.length < 2^28
  rules : a.rules.length < 2^30
theorem depSame_ok (a b : Ne) (h : NeOk a) : CallsA Tryz.prog 16 [encN a, encN b] ct0 (bo (a == b)) ct0 := by
  have c1 := bytesEqual_ok a.body b.body
  have c2 := equalInts_ok a.decl b.decl h.decl
  have c3 := equalSums_ok a.sums b.sums (by have := h.sums; omega) (fun x hx => by have := h.pairs x hx; omega)
  have c4 := equalRules_ok a.rules b.rules (by have := h.rules; omega)
  refine (Bool.eq_false_or_eq_true (a.id == b.id)).elim (fun f0 => ?_) (fun f0 => ?_)
  rotate_left
  · have e : (a == b) = false := beq_eq_false_iff_ne.2 fun e => by rw [e, beq_self_eq_true] at f0; cases f0
    rw [e]
    refine fn_ok hm Tryz.func16 (fun _ => false) [] (fun _ => []) (by kernel_rfl) ?_
    refine run ?_; repeat ((apply call_ok; first | exact (c1) | exact (c2) | exact (c3) | exact (c4)); refine run ?_)
    first | exact Done.mk rfl rfl | exact Done.mk (congrArg Dat.bool f0) rfl
  refine (Bool.eq_false_or_eq_true (a.level == b.level)).elim (fun f1 => ?_) (fun f1 => ?_)
  rotate_left
  · have e : (a == b) = false := beq_eq_false_iff_ne.2 fun e => by rw [e, beq_self_eq_true] at f1; cases f1
    rw [e]
    refine fn_ok hm Tryz.func16 (fun _ => false) [] (fun _ => []) (by kernel_rfl) ?_
    refine run ?_; repeat ((apply call_ok; first | exact (c1) | exact (c2) | exact (c3) | exact (c4)); refine run ?_)
    first | exact Done.mk rfl rfl | exact Done.mk (congrArg Dat.bool f1) rfl
  refine (Bool.eq_false_or_eq_true (a.body == b.body)).elim (fun f2 => ?_) (fun f2 => ?_)
  rotate_left
  · have e : (a == b) = false := beq_eq_false_iff_ne.2 fun e => by rw [e, beq_self_eq_true] at f2; cases f2
    rw [e]
    refine fn_ok hm Tryz.func16 (fun _ => false) [] (fun _ => []) (by kernel_rfl) ?_
    refine run ?_; repeat ((apply call_ok; first | exact (c1) | exact (c2) | exact (c3) | exact (c4)); refine run ?_)
    first | exact Done.mk rfl rfl | exact Done.mk (congrArg Dat.bool f2) rfl
  refine (Bool.eq_false_or_eq_true (a.decl == b.decl)).elim (fun f3 => ?_) (fun f3 => ?_)
  rotate_left
  · have e : (a == b) = false := beq_eq_false_iff_ne.2 fun e => by rw [e, beq_self_eq_true] at f3; cases f3
    rw [e]
    refine fn_ok hm Tryz.func16 (fun _ => false) [] (fun _ => []) (by kernel_rfl) ?_
    refine run ?_; repeat ((apply call_ok; first | exact (c1) | exact (c2) | exact (c3) | exact (c4)); refine run ?_)
    first | exact Done.mk rfl rfl | exact Done.mk (congrArg Dat.bool f3) rfl
  refine (Bool.eq_false_or_eq_true (a.sums == b.sums)).elim (fun f4 => ?_) (fun f4 => ?_)
  rotate_left
  · have e : (a == b) = false := beq_eq_false_iff_ne.2 fun e => by rw [e, beq_self_eq_true] at f4; cases f4
    rw [e]
    refine fn_ok hm Tryz.func16 (fun _ => false) [] (fun _ => []) (by kernel_rfl) ?_
    refine run ?_; repeat ((apply call_ok; first | exact (c1) | exact (c2) | exact (c3) | exact (c4)); refine run ?_)
    first | exact Done.mk rfl rfl | exact Done.mk (congrArg Dat.bool f4) rfl
  refine (Bool.eq_false_or_eq_true (a.rules == b.rules)).elim (fun f5 => ?_) (fun f5 => ?_)
  rotate_left
  · have e : (a == b) = false := beq_eq_false_iff_ne.2 fun e => by rw [e, beq_self_eq_true] at f5; cases f5
    rw [e]
    refine fn_ok hm Tryz.func16 (fun _ => false) [] (fun _ => []) (by kernel_rfl) ?_
    refine run ?_; repeat ((apply call_ok; first | exact (c1) | exact (c2) | exact (c3) | exact (c4)); refine run ?_)
    first | exact Done.mk rfl rfl | exact Done.mk (congrArg Dat.bool f5) rfl
  have e : a = b := by
    cases a; cases b
    simp at f0 f1 f2 f3 f4 f5
    simp [f0, f1, f2, f3, f4, f5]
  have e' : (a == b) = true := by rw [e]; exact beq_self_eq_true _
  rw [e']
  refine fn_ok hm Tryz.func16 (fun _ => false) [] (fun _ => []) (by kernel_rfl) ?_
  refine run ?_; repeat ((apply call_ok; first | exact (c1) | exact (c2) | exact (c3) | exact (c4)); refine run ?_)
  exact Done.mk (congrArg Dat.bool f5) rfl
def wPa (x : Pa) : List Int := [x.a, x.b]
def baseSy (s : Sy) : List Int := [s.id, s.rlo, s.rhi, s.rm, s.rr, s.rmask, s.throws, s.locks, s.loads, s.cost]
def wSy (s : Sy) : List Int := baseSy s ++ s.pairs.flatMap wPa
theorem wPa_pos (x : Pa) : 0 < (wPa x).length := by show 0 < 2; omega
theorem wPa_fm : ∀ l : List Pa, (l.flatMap wPa).length = 2 * l.length
  | [] => rfl
  | x :: l => by rw [List.flatMap_cons, List.length_append, wPa_fm l, List.length_cons]; show 2 + _ = _; omega
theorem words_ok (s : Sy) (hl : s.pairs.length < 2^28) : CallsA Tryz.prog 87 [encSy s] ct0 (ints (wSy s)) ct0 := by
  refine fn_ok hm Tryz.func87 (fun _ => false) [] (fun _ => []) (by kernel_rfl) ?_
  refine run ?_
  refine LoopS.mk ⟨[], HeadS.lp (fun r : CR => r.k ≤ s.pairs.length ∧ r.acc = (baseSy s).map it ++ ((s.pairs.take r.k).flatMap wPa).map it) (fun r => ⟨[(4, it r.k), (3, .ref 30 r.acc.length)], [], [(30, ⟨1, true, r.acc⟩)]⟩) (fun r => s.pairs.length - r.k) ⟨0, (baseSy s).map it⟩ ⟨Nat.zero_le _, by simp⟩ ?_⟩
  intro r hJ
  have h1 := hJ.1
  have h2 := hJ.2
  by_cases hk : r.k < s.pairs.length
  · have b1 : decide ((r.k : Int) < ((s.pairs.map encPa).length : Nat)) = true := by simp; exact hk
    have hfl := wPa_fm (s.pairs.take r.k)
    rw [List.length_take] at hfl
    have hb : (baseSy s).length = 10 := rfl
    have hlen : r.acc.length = 10 + ((s.pairs.take r.k).flatMap wPa).length := by rw [h2]; simp [hb]
    have hN : r.acc ++ (wPa s.pairs[r.k]).map it = (baseSy s).map it ++ ((s.pairs.take (r.k + 1)).flatMap wPa).map it := by rw [h2, fmD_take hk, List.map_append, ← List.append_assoc]
    refine run ?_
    refine Idx.map hk rfl ?_
    refine run ?_
    refine Idx.map hk rfl ?_
    refine run ?_
    refine ⟨⟨⟨r.k + 1, _⟩, ⟨hk, hN⟩⟩, Nat.sub_lt_sub_left hk (Nat.lt_succ_self _), ?_⟩
    repeat' (first | exact trivial | exact rfl | refine ⟨?_, ?_⟩ | refine ⟨?_, ?_, ?_⟩)
  · have b1 : decide ((r.k : Int) < ((s.pairs.map encPa).length : Nat)) = false := by simp; omega
    have e : r.acc = (wSy s).map it := by rw [h2, List.take_of_length_le (by omega), wSy, List.map_append]
    refine run ?_
    exact Done.mk (congrArg (fun x => Dat.sl 1 x false) e) rfl
theorem fm2_inj : ∀ {xs ys : List Pa}, xs.flatMap wPa = ys.flatMap wPa → xs.map (fun p => (p.a, p.b)) = ys.map (fun p => (p.a, p.b))
  | [], [], _ => rfl
  | [], y :: ys, h => by simp [wPa] at h
  | x :: xs, [], h => by simp [wPa] at h
  | x :: xs, y :: ys, h => by
    simp only [List.flatMap_cons, wPa, List.cons_append, List.nil_append, List.cons.injEq] at h
    rw [List.map_cons, List.map_cons, fm2_inj h.2.2, h.1, h.2.1]
theorem pa_ext : ∀ {xs ys : List Pa}, xs.map (fun p => (p.a, p.b)) = ys.map (fun p => (p.a, p.b)) → xs.map (·.site) = ys.map (·.site) → xs = ys
  | [], [], _, _ => rfl
  | [], y :: ys, h, _ => by simp at h
  | x :: xs, [], h, _ => by simp at h
  | x :: xs, y :: ys, h, g => by
    simp only [List.map_cons, List.cons.injEq, Prod.mk.injEq] at h g
    rw [pa_ext h.2 g.2]
    have : x = y := by
      cases x; cases y
      simp at h g
      simp [h, g]
    rw [this]
theorem sy_same {a b : Sy} {k : Nat} (hJ : (a.pairs.take k).map (·.site) = (b.pairs.take k).map (·.site)) (hk : ¬ k < a.pairs.length ∨ ¬ k < b.pairs.length) : (a == b) = (wSy a == wSy b) := by
  by_cases e : wSy a = wSy b
  · have h1 : baseSy a = baseSy b := by
      have : (wSy a).take 10 = (wSy b).take 10 := by rw [e]
      simpa [wSy, baseSy] using this
    have h2 : a.pairs.flatMap wPa = b.pairs.flatMap wPa := by
      have : (wSy a).drop 10 = (wSy b).drop 10 := by rw [e]
      simpa [wSy, baseSy] using this
    have h3 := fm2_inj h2
    have h4 : a.pairs.length = b.pairs.length := by simpa using congrArg List.length h3
    rw [List.take_of_length_le (by omega), List.take_of_length_le (by omega)] at hJ
    have h5 := pa_ext h3 hJ
    have h6 : a = b := by
      cases a; cases b
      simp [baseSy] at h1
      simp at h5
      simp [h1, h5]
    rw [h6]; simp
  · rw [beq_eq_false_iff_ne.2 e]
    exact beq_eq_false_iff_ne.2 fun h => e (by rw [h])
theorem site_take {l : List Pa} {k : Nat} (h : k < l.length) : (l.take (k+1)).map (·.site) = (l.take k).map (·.site) ++ [l[k].site] := map_take h
theorem sameSy_ok (a b : Sy) (ha : a.pairs.length < 2^28) (hb : b.pairs.length < 2^28) : CallsA Tryz.prog 47 [encSy a, encSy b] ct0 (bo (a == b)) ct0 := by
  have w1 := words_ok a ha
  have w2 := words_ok b hb
  have f1 := wPa_fm a.pairs
  have hwa : (wSy a).length < 2^62 := by show (baseSy a ++ a.pairs.flatMap wPa).length < _; rw [List.length_append, f1]; show 10 + _ < _; omega
  have w3 := sameInts_ok (wSy a) (wSy b) hwa
  refine fn_ok hm Tryz.func47 (fun _ => false) [] (fun _ => []) (by kernel_rfl) ?_
  refine run ?_
  refine LoopS.mk ⟨[], HeadS.lp (fun k : Nat => k ≤ a.pairs.length ∧ (a.pairs.take k).map (·.site) = (b.pairs.take k).map (·.site)) (fun k => ⟨[(5, it k)], [], []⟩) (fun k => a.pairs.length - k) 0 ⟨Nat.zero_le _, rfl⟩ ?_⟩
  intro k hJ
  have h1 := hJ.1
  have h2 := hJ.2
  by_cases hk : k < a.pairs.length
  · have b1 : decide ((k : Int) < ((a.pairs.map encPa).length : Nat)) = true := by simp; exact hk
    by_cases gk : k < b.pairs.length
    · have b2 : decide ((k : Int) < ((b.pairs.map encPa).length : Nat)) = true := by simp; exact gk
      refine (Bool.eq_false_or_eq_true (a.pairs[k].site == b.pairs[k].site)).elim (fun d0 => ?_) (fun d0 => ?_)
      · have d1 : (!(a.pairs[k].site == b.pairs[k].site)) = false := by rw [d0]; rfl
        have hN : (a.pairs.take (k+1)).map (·.site) = (b.pairs.take (k+1)).map (·.site) := by
          rw [site_take hk, site_take gk, h2]; simp at d0; rw [d0]
        refine run ?_
        refine Idx.map hk rfl ?_
        refine run ?_
        refine Idx.map gk rfl ?_
        refine run ?_
        refine ⟨⟨k + 1, ⟨hk, hN⟩⟩, Nat.sub_lt_sub_left hk (Nat.lt_succ_self _), ?_⟩
        repeat' (first | exact trivial | exact rfl | refine ⟨?_, ?_⟩ | refine ⟨?_, ?_, ?_⟩)
      · have d1 : (!(a.pairs[k].site == b.pairs[k].site)) = true := by rw [d0]; rfl
        have e : (a == b) = false := beq_eq_false_iff_ne.2 fun e => by subst e; simp at d0
        refine run ?_
        refine Idx.map hk rfl ?_
        refine run ?_
        refine Idx.map gk rfl ?_
        refine run ?_
        exact Done.mk (congrArg Dat.bool e.symm) rfl
    · have b2 : decide ((k : Int) < ((b.pairs.map encPa).length : Nat)) = false := by simp; omega
      have e := sy_same h2 (.inr gk)
      refine run ?_; repeat ((apply call_ok; first | exact (w1) | exact (w2) | exact (w3)); refine run ?_)
      exact Done.mk (congrArg Dat.bool e.symm) rfl
  · have b1 : decide ((k : Int) < ((a.pairs.map encPa).length : Nat)) = false := by simp; omega
    have e := sy_same h2 (.inl hk)
    refine run ?_; repeat ((apply call_ok; first | exact (w1) | exact (w2) | exact (w3)); refine run ?_)
    exact Done.mk (congrArg Dat.bool e.symm) rfl
theorem sites_ok (a : List Pa) (ha : a.length < 2^28) : CallsA Tryz.prog 48 [lst 3 encPa a, lst 3 encPa a] ct0 (bo true) ct0 := by
  refine fn_ok hm Tryz.func48 (fun _ => false) [] (fun _ => []) (by kernel_rfl) ?_
  refine run ?_
  refine LoopS.mk ⟨[], HeadS.lp (fun k : Nat => k ≤ a.length) (fun k => ⟨[(5, it k)], [], []⟩) (fun k => a.length - k) 0 (Nat.zero_le _) ?_⟩
  intro k h1
  by_cases hk : k < a.length
  · have b1 : decide ((k : Int) < ((a.map encPa).length : Nat)) = true := by simp; exact hk
    have b2 : (!(a[k].a == a[k].a && (a[k].b == a[k].b && (a[k].site == a[k].site && true)))) = false := by simp
    refine run ?_
    refine Idx.map hk rfl ?_
    refine run ?_
    refine Idx.map hk rfl ?_
    refine run ?_
    refine ⟨⟨k + 1, hk⟩, Nat.sub_lt_sub_left hk (Nat.lt_succ_self _), ?_⟩
    repeat' (first | exact trivial | exact rfl | refine ⟨?_, ?_⟩ | refine ⟨?_, ?_, ?_⟩)
  · have b1 : decide ((k : Int) < ((a.map encPa).length : Nat)) = false := by simp; omega
    refine run ?_
    exact Done.mk (congrArg Dat.bool (by simp)) rfl
end Abs
namespace Abs
open Go Go.Proofs
set_option maxRecDepth 100000
set_option maxHeartbeats 4000000
theorem refSame_ok (a b : Ne) (h : NeOk a) (g : NeOk b) : CallsA Tryz.prog 17 [encN a, encN b] ct0 (bo (a == b)) ct0 := by
  have c2 := sameInts_ok a.decl b.decl h.decl
  refine (Bool.eq_false_or_eq_true (a.id == b.id)).elim (fun f0 => ?_) (fun f0 => ?_)
  rotate_left
  · have e : (a == b) = false := beq_eq_false_iff_ne.2 fun e => by rw [e, beq_self_eq_true] at f0; cases f0
    have n0 : (!(a.id == b.id)) = true := by rw [f0]; rfl
    rw [e]
    refine fn_ok hm Tryz.func17 (fun _ => false) [] (fun _ => []) (by kernel_rfl) ?_
    refine run ?_
    exact Done.mk rfl rfl
  have n0 : (!(a.id == b.id)) = false := by rw [f0]; rfl
  refine (Bool.eq_false_or_eq_true (a.body == b.body)).elim (fun f1 => ?_) (fun f1 => ?_)
  rotate_left
  · have e : (a == b) = false := beq_eq_false_iff_ne.2 fun e => by rw [e, beq_self_eq_true] at f1; cases f1
    have n1 : (!(a.body == b.body)) = true := by rw [f1]; rfl
    rw [e]
    refine fn_ok hm Tryz.func17 (fun _ => false) [] (fun _ => []) (by kernel_rfl) ?_
    refine run ?_
    refine TextS.mk ⟨a.body, textOf_byt _, ?_⟩
    refine run ?_
    refine TextS.mk ⟨b.body, textOf_byt _, ?_⟩
    refine run ?_; repeat ((apply call_ok; first | exact (c2)); refine run ?_)
    exact Done.mk rfl rfl
  have n1 : (!(a.body == b.body)) = false := by rw [f1]; rfl
  refine (Bool.eq_false_or_eq_true (a.decl == b.decl)).elim (fun f2 => ?_) (fun f2 => ?_)
  rotate_left
  · have e : (a == b) = false := beq_eq_false_iff_ne.2 fun e => by rw [e, beq_self_eq_true] at f2; cases f2
    have n2 : (!(a.decl == b.decl)) = true := by rw [f2]; rfl
    rw [e]
    refine fn_ok hm Tryz.func17 (fun _ => false) [] (fun _ => []) (by kernel_rfl) ?_
    refine run ?_
    refine TextS.mk ⟨a.body, textOf_byt _, ?_⟩
    refine run ?_
    refine TextS.mk ⟨b.body, textOf_byt _, ?_⟩
    refine run ?_; repeat ((apply call_ok; first | exact (c2)); refine run ?_)
    exact Done.mk rfl rfl
  have n2 : (!(a.decl == b.decl)) = false := by rw [f2]; rfl
  refine (Bool.eq_false_or_eq_true (((a.sums.map encSy).length : Int) == ((b.sums.map encSy).length : Int))).elim (fun f3 => ?_) (fun f3 => ?_)
  rotate_left
  · have e : (a == b) = false := beq_eq_false_iff_ne.2 fun e => by rw [e, beq_self_eq_true] at f3; cases f3
    have n3 : (!(((a.sums.map encSy).length : Int) == ((b.sums.map encSy).length : Int))) = true := by rw [f3]; rfl
    rw [e]
    refine fn_ok hm Tryz.func17 (fun _ => false) [] (fun _ => []) (by kernel_rfl) ?_
    refine run ?_
    refine TextS.mk ⟨a.body, textOf_byt _, ?_⟩
    refine run ?_
    refine TextS.mk ⟨b.body, textOf_byt _, ?_⟩
    refine run ?_; repeat ((apply call_ok; first | exact (c2)); refine run ?_)
    exact Done.mk rfl rfl
  have n3 : (!(((a.sums.map encSy).length : Int) == ((b.sums.map encSy).length : Int))) = false := by rw [f3]; rfl
  refine (Bool.eq_false_or_eq_true (((a.rules.map encRu).length : Int) == ((b.rules.map encRu).length : Int))).elim (fun f4 => ?_) (fun f4 => ?_)
  rotate_left
  · have e : (a == b) = false := beq_eq_false_iff_ne.2 fun e => by rw [e, beq_self_eq_true] at f4; cases f4
    have n4 : (!(((a.rules.map encRu).length : Int) == ((b.rules.map encRu).length : Int))) = true := by rw [f4]; rfl
    rw [e]
    refine fn_ok hm Tryz.func17 (fun _ => false) [] (fun _ => []) (by kernel_rfl) ?_
    refine run ?_
    refine TextS.mk ⟨a.body, textOf_byt _, ?_⟩
    refine run ?_
    refine TextS.mk ⟨b.body, textOf_byt _, ?_⟩
    refine run ?_; repeat ((apply call_ok; first | exact (c2)); refine run ?_)
    exact Done.mk rfl rfl
  have n4 : (!(((a.rules.map encRu).length : Int) == ((b.rules.map encRu).length : Int))) = false := by rw [f4]; rfl
  refine (Bool.eq_false_or_eq_true (a.level == b.level)).elim (fun f5 => ?_) (fun f5 => ?_)
  rotate_left
  · have e : (a == b) = false := beq_eq_false_iff_ne.2 fun e => by rw [e, beq_self_eq_true] at f5; cases f5
    have n5 : (!(a.level == b.level)) = true := by rw [f5]; rfl
    rw [e]
    refine fn_ok hm Tryz.func17 (fun _ => false) [] (fun _ => []) (by kernel_rfl) ?_
    refine run ?_
    refine TextS.mk ⟨a.body, textOf_byt _, ?_⟩
    refine run ?_
    refine TextS.mk ⟨b.body, textOf_byt _, ?_⟩
    refine run ?_; repeat ((apply call_ok; first | exact (c2)); refine run ?_)
    exact Done.mk rfl rfl
  have n5 : (!(a.level == b.level)) = false := by rw [f5]; rfl
  have hs : a.sums.length = b.sums.length := by simp at f3; omega
  have hr : a.rules.length = b.rules.length := by simp at f4; omega
  have k1 := h.sums
  have k2 := h.rules
  have hfin : a.sums = b.sums → a.rules = b.rules → true = (a == b) := fun e1 e2 => by
    have e : a = b := by
      cases a; cases b
      simp at f0 f1 f2 f5 e1 e2
      simp [f0, f1, f2, f5, e1, e2]
    rw [e]; simp
  have hnoS : ∀ k (h1 : k < a.sums.length) (h2 : k < b.sums.length), (a.sums[k] == b.sums[k]) = false → false = (a == b) := fun k h1 h2 e => (beq_eq_false_iff_ne.2 fun e' => by subst e'; simp at e).symm
  have hnoR : ∀ k (h1 : k < a.rules.length) (h2 : k < b.rules.length), a.rules[k] ≠ b.rules[k] → false = (a == b) := fun k h1 h2 e => (beq_eq_false_iff_ne.2 fun e' => by subst e'; exact e rfl).symm
  refine fn_ok hm Tryz.func17 (fun _ => false) [] (fun _ => []) (by kernel_rfl) ?_
  refine run ?_
  refine TextS.mk ⟨a.body, textOf_byt _, ?_⟩
  refine run ?_
  refine TextS.mk ⟨b.body, textOf_byt _, ?_⟩
  refine run ?_; repeat ((apply call_ok; first | exact (c2)); refine run ?_)
  refine LoopS.mk ⟨[], HeadS.lp (fun k : Nat => k ≤ a.sums.length ∧ a.sums.take k = b.sums.take k) (fun k => ⟨[(5, it k)], [], []⟩) (fun k => a.sums.length - k) 0 ⟨Nat.zero_le _, rfl⟩ ?_⟩
  intro k hJ
  have h1 := hJ.1
  have h2 := hJ.2
  by_cases hk : k < a.sums.length
  · have b1 : decide ((k : Int) < ((a.sums.map encSy).length : Nat)) = true := by simp; exact hk
    have gk : k < b.sums.length := by omega
    have p1 := h.pairs a.sums[k] (List.getElem_mem hk)
    have p2 := g.pairs b.sums[k] (List.getElem_mem gk)
    have c3 := sameSy_ok a.sums[k] b.sums[k] p1 p2
    refine (Bool.eq_false_or_eq_true (a.sums[k] == b.sums[k])).elim (fun d0 => ?_) (fun d0 => ?_)
    · have d1 : (!(a.sums[k] == b.sums[k])) = false := by rw [d0]; rfl
      have de : b.sums[k] = a.sums[k] := (eq_of_beq d0).symm
      have c4 : CallsA Tryz.prog 48 [lst 3 encPa a.sums[k].pairs, lst 3 encPa b.sums[k].pairs] ct0 (bo true) ct0 := by rw [de]; exact sites_ok _ p1
      have hN := take_next hk gk h2 de.symm
      refine run ?_
      refine Idx.map hk rfl ?_
      refine run ?_
      refine Idx.map gk rfl ?_
      refine run ?_; repeat ((apply call_ok; first | exact (c3)); refine run ?_)
      refine Idx.map hk rfl ?_
      refine run ?_
      refine Idx.map gk rfl ?_
      refine run ?_; repeat ((apply call_ok; first | exact (c4)); refine run ?_)
      refine ⟨⟨k + 1, ⟨hk, hN⟩⟩, Nat.sub_lt_sub_left hk (Nat.lt_succ_self _), ?_⟩
      repeat' (first | exact trivial | exact rfl | refine ⟨?_, ?_⟩ | refine ⟨?_, ?_, ?_⟩)
    · have d1 : (!(a.sums[k] == b.sums[k])) = true := by rw [d0]; rfl
      have e := hnoS k hk gk d0
      refine run ?_
      refine Idx.map hk rfl ?_
      refine run ?_
      refine Idx.map gk rfl ?_
      refine run ?_; repeat ((apply call_ok; first | exact (c3)); refine run ?_)
      exact Done.mk (congrArg Dat.bool e) rfl
  have b1 : decide ((k : Int) < ((a.sums.map encSy).length : Nat)) = false := by simp; omega
  have e1 := take_all hk hs h2
  refine run ?_
  refine LoopS.mk ⟨[], HeadS.lp (fun k : Nat => k ≤ a.rules.length ∧ a.rules.take k = b.rules.take k) (fun k => ⟨[(6, it k)], [], []⟩) (fun k => a.rules.length - k) 0 ⟨Nat.zero_le _, rfl⟩ ?_⟩
  intro j hq
  have q1 := hq.1
  have q2 := hq.2
  by_cases gj : j < a.rules.length
  · have d1 : decide ((j : Int) < ((a.rules.map encRu).length : Nat)) = true := by simp; exact gj
    have gk : j < b.rules.length := by omega
    refine (Bool.eq_false_or_eq_true (!(a.rules[j].id == b.rules[j].id && (a.rules[j].ver == b.rules[j].ver && (a.rules[j].firm == b.rules[j].firm && (a.rules[j].op == b.rules[j].op && (a.rules[j].alo == b.rules[j].alo && (a.rules[j].ahi == b.rules[j].ahi && (a.rules[j].blo == b.rules[j].blo && (a.rules[j].bhi == b.rules[j].bhi && (a.rules[j].lo == b.rules[j].lo && (a.rules[j].hi == b.rules[j].hi && true)))))))))))).elim (fun d0 => ?_) (fun d0 => ?_)
    · have e := hnoR j gj gk (encRu_ne_of d0)
      refine run ?_
      refine Idx.map gj rfl ?_
      refine run ?_
      refine Idx.map gk rfl ?_
      refine run ?_
      exact Done.mk (congrArg Dat.bool e) rfl
    · have hN := take_next gj gk q2 (encRu_eq_of d0)
      refine run ?_
      refine Idx.map gj rfl ?_
      refine run ?_
      refine Idx.map gk rfl ?_
      refine run ?_
      refine ⟨⟨j + 1, ⟨gj, hN⟩⟩, Nat.sub_lt_sub_left gj (Nat.lt_succ_self _), ?_⟩
      repeat' (first | exact trivial | exact rfl | refine ⟨?_, ?_⟩ | refine ⟨?_, ?_, ?_⟩)
  have d1 : decide ((j : Int) < ((a.rules.map encRu).length : Nat)) = false := by simp; omega
  have e := hfin e1 (take_all gj hr q2)
  refine run ?_
  exact Done.mk (congrArg Dat.bool e) rfl
end Abs
namespace Abs
open Go Go.Proofs
set_option maxRecDepth 100000
set_option maxHeartbeats 4000000
theorem reop1_ok (x n : Ne) (h : NeOk x) : CallsA Tryz.prog 50 [encN x, .ptr 1000 0] ⟨[encN n], []⟩ (bo (x == n)) ⟨[encN n], []⟩ := by
  have c := depSame_ok x n h
  refine fn_ok hm Tryz.func50 (fun _ => false) [] (fun _ => []) (by kernel_rfl) ?_
  refine run ?_; repeat ((apply call_ok; first | exact (c)); refine run ?_)
  exact Done.mk rfl rfl
theorem neIndex_ok (l : List Ne) (n : Ne) (hok : ∀ x ∈ l, NeOk x) (hl : l.length < 2^40) : CallsA Tryz.prog 88 [lst 6 encN l, .clo (.func 50) [] [.ptr 1000 0]] ⟨[encN n], []⟩ (it (ix (fun x => x == n) l 0)) ⟨[encN n], []⟩ := by
  refine fn_ok hm Tryz.func88 (fun _ => false) [] (fun _ => []) (by kernel_rfl) ?_
  refine run ?_
  refine LoopS.mk ⟨[], HeadS.lp (fun k : Nat => k ≤ l.length ∧ ix (fun x => x == n) l 0 = ix (fun x => x == n) (l.drop k) k) (fun k => ⟨[(8, it k)], [], []⟩) (fun k => l.length - k) 0 ⟨Nat.zero_le _, by simp⟩ ?_⟩
  intro k hJ
  have h1 := hJ.1
  have h2 := hJ.2
  by_cases hk : k < l.length
  · have b1 : decide ((k : Int) < ((l.map encN).length : Nat)) = true := by simp; exact hk
    have hc := reop1_ok l[k] n (hok _ (List.getElem_mem hk))
    refine (Bool.eq_false_or_eq_true (l[k] == n)).elim (fun b2 => ?_) (fun b2 => ?_)
    · have e := h2.trans (ix_yes hk b2)
      refine run ?_
      refine Idx.map hk rfl ?_
      refine run ?_; repeat ((apply call_ok; first | exact (hc)); refine run ?_)
      exact Done.mk (congrArg it e.symm) rfl
    · have e := h2.trans (ix_no hk b2)
      refine run ?_
      refine Idx.map hk rfl ?_
      refine run ?_; repeat ((apply call_ok; first | exact (hc)); refine run ?_)
      refine ⟨⟨k + 1, ⟨hk, e⟩⟩, Nat.sub_lt_sub_left hk (Nat.lt_succ_self _), ?_⟩
      repeat' (first | exact trivial | exact rfl | refine ⟨?_, ?_⟩ | refine ⟨?_, ?_, ?_⟩)
  · have b1 : decide ((k : Int) < ((l.map encN).length : Nat)) = false := by simp; omega
    have e := h2.trans (ix_end hk)
    refine run ?_
    exact Done.mk (congrArg it e.symm) rfl
theorem ix_any {α : Type} {p : α → Bool} : ∀ (l : List α) (i : Nat), decide (ix p l i ≥ 0) = l.any p
  | [], i => by simp [ix]
  | x :: l, i => by
    unfold ix
    rw [List.any_cons]
    cases e : p x with
    | true => simp
    | false => simp only [Bool.false_or]; rw [← ix_any l (i+1)]; simp
theorem neContains_ok (l : List Ne) (n : Ne) (hok : ∀ x ∈ l, NeOk x) (hl : l.length < 2^40) : CallsA Tryz.prog 49 [lst 6 encN l, .clo (.func 50) [] [.ptr 1000 0]] ⟨[encN n], []⟩ (bo (l.any fun x => x == n)) ⟨[encN n], []⟩ := by
  have h := neIndex_ok l n hok hl
  rw [← ix_any l 0]
  refine fn_ok hm Tryz.func49 (fun _ => false) [] (fun _ => []) (by kernel_rfl) ?_
  refine run ?_; repeat ((apply call_ok; first | exact (h)); refine run ?_)
  exact Done.mk rfl rfl
def newN (old : List Ne) (n : Ne) : Bool := !(old.any fun x => x == n)
def newIds (old next : List Ne) : List Int := (next.filter (newN old)).map (·.id)
def dreop (old next : List Ne) : List Int := sortC (newIds old next)
theorem dReopens_ok (old next : List Ne) (ho : ∀ x ∈ old, NeOk x) (h1 : old.length < 2^30) (h2 : next.length < 2^30) : CallsA Tryz.prog 18 [lst 6 encN old, lst 6 encN next] ct0 (ints (dreop old next)) ct0 := by
  refine fn_ok hm Tryz.func18 (fun f => Nat.beq f 51 || Nat.beq f 52) [] (fun _ => []) (by kernel_rfl) ?_
  refine run ?_
  refine LoopS.mk ⟨[.tmp 5 20003], HeadS.lp (fun r : CR => r.k ≤ next.length ∧ r.acc = (newIds old (next.take r.k)).map it) (fun r => ⟨[(10, it r.k), (5, .ref 20003 r.acc.length)], [], [(20003, ⟨1, true, r.acc⟩)]⟩) (fun r => next.length - r.k) ⟨0, []⟩ ⟨Nat.zero_le _, rfl⟩ ?_⟩
  intro r hJ
  have j1 := hJ.1
  have j2 := hJ.2
  have hle := flt_le (p := newN old) (l := next) r.k
  have hlen : r.acc.length = ((next.take r.k).filter (newN old)).length := by rw [j2, List.length_map, newIds, List.length_map]
  by_cases hk : r.k < next.length
  · have b1 : decide ((r.k : Int) < ((next.map encN).length : Nat)) = true := by simp; exact hk
    have c := neContains_ok old next[r.k] ho (by omega)
    refine (Bool.eq_false_or_eq_true (newN old next[r.k])).elim (fun b2 => ?_) (fun b2 => ?_)
    · have b3 : (!(old.any fun x => x == next[r.k])) = true := b2
      have hN : r.acc ++ [it next[r.k].id] = (newIds old (next.take (r.k + 1))).map it := by rw [j2, newIds, newIds, flt_yes hk b2, List.map_append, List.map_append]; rfl
      refine run ?_
      refine Idx.map hk rfl ?_
      refine run ?_; repeat ((apply call_ok; first | exact (c)); refine run ?_)
      refine ⟨⟨⟨r.k + 1, _⟩, ⟨hk, hN⟩⟩, Nat.sub_lt_sub_left hk (Nat.lt_succ_self _), ?_⟩
      repeat' (first | exact trivial | exact rfl | refine ⟨?_, ?_⟩ | refine ⟨?_, ?_, ?_⟩)
    · have b3 : (!(old.any fun x => x == next[r.k])) = false := b2
      have hN : r.acc = (newIds old (next.take (r.k + 1))).map it := by rw [j2, newIds, newIds, flt_no hk b2]
      refine run ?_
      refine Idx.map hk rfl ?_
      refine run ?_; repeat ((apply call_ok; first | exact (c)); refine run ?_)
      refine ⟨⟨⟨r.k + 1, _⟩, ⟨hk, hN⟩⟩, Nat.sub_lt_sub_left hk (Nat.lt_succ_self _), ?_⟩
      repeat' (first | exact trivial | exact rfl | refine ⟨?_, ?_⟩ | refine ⟨?_, ?_, ?_⟩)
  have b1 : decide ((r.k : Int) < ((next.map encN).length : Nat)) = false := by simp; omega
  rw [List.take_of_length_le (by omega)] at j2
  have hn : (newIds old next).length ≤ next.length := by
    rw [newIds, List.length_map]; exact List.length_filter_le _ _
  have s1 : (newIds old next).length < 2^62 := by omega
  have s2 : ((newIds old next).mergeSort fun x y => decide (x ≤ y)).length < 2^62 := by rw [List.length_mergeSort]; exact s1
  rw [j2]
  refine run ?_; repeat ((apply call_ok; first | exact (sort_ok _ s1) | exact (compact_ok _ s2)); refine run ?_)
  exact Done.mk rfl rfl
def rpS (old : List Ne) (a : List Int) (n : Ne) : List Int := if newN old n then addI a n.id else a
def rreop (old next : List Ne) : List Int := next.foldl (rpS old) []
theorem rp_len (old : List Ne) : ∀ (l : List Ne) (a : List Int), (l.foldl (rpS old) a).length ≤ a.length + l.length
  | [], a => by simp
  | s :: l, a => by
    have h1 := rp_len old l (rpS old a s)
    have h2 : (rpS old a s).length ≤ a.length + 1 := by
      unfold rpS; split
      · exact addI_len _ _
      · omega
    simp only [List.foldl_cons, List.length_cons]; omega
structure CB where
  k : Nat
  b : Bool
theorem any_take {p : Ne → Bool} {l : List Ne} {k : Nat} (h : k < l.length) : (l.take (k+1)).any p = ((l.take k).any p || p l[k]) := by
  rw [take_one h, List.any_append]; simp
theorem refReopens_ok (old next : List Ne) (ho : ∀ x ∈ old, NeOk x) (hn : ∀ x ∈ next, NeOk x) (h1 : old.length < 2^30) (h2 : next.length < 2^30) : CallsA Tryz.prog 19 [lst 6 encN old, lst 6 encN next] ct0 (ints (rreop old next)) ct0 := by
  refine fn_ok hm Tryz.func19 (fun _ => false) [] (fun _ => []) (by kernel_rfl) ?_
  refine run ?_
  refine LoopS.mk ⟨[], HeadS.of (fun i : CJ => match i with | .raw k => k ≤ next.length ∧ (next.take k).foldl (rpS old) [] = [] | .got k a => k ≤ next.length ∧ (next.take k).foldl (rpS old) [] = a) (fun i => match i with | .raw k => ⟨[(6, it k), (5, .ref 9 0)], [], [(9, ⟨1, true, []⟩)]⟩ | .got k a => ⟨[(6, it k), (5, ints a)], [], [(9, ⟨1, false, []⟩)]⟩) (fun i => next.length - i.k) (.raw 0) ⟨Nat.zero_le _, rfl⟩ ?_ ?_ ?_ ?_ ?_⟩
  · repeat' (first | exact trivial | exact rfl | refine ⟨?_, ?_⟩ | refine ⟨?_, ?_, ?_⟩)
  · kernel_rfl
  · kernel_rfl
  · exact CJ.both (fun k => ⟨rfl, rfl, rfl⟩) (fun k a => ⟨rfl, rfl, rfl⟩)
  refine CJ.both (fun k => ?_) (fun k a => ?_)
  · intro hJ
    have j1 : k ≤ next.length := hJ.1
    have j2 : (next.take k).foldl (rpS old) [] = ([] : List Int) := hJ.2
    by_cases hk : k < next.length
    · have b1 : decide ((k : Int) < ((next.map encN).length : Nat)) = true := by simp; exact hk
      have ht := fold_take (f := rpS old) (z := []) hk
      have hal := rp_len old (next.take k) []
      have htl : (next.take k).length ≤ next.length := by rw [List.length_take]; omega
      rw [j2] at hal ht
      have hal : ([] : List Int).length ≤ 0 + (next.take k).length := hal
      have ha := added_ok ([] : List Int) next[k].id (by omega)
      refine run ?_
      refine LoopS.mk ⟨[], HeadS.lp (fun r : CB => r.k ≤ old.length ∧ r.b = (old.take r.k).any fun x => x == next[k]) (fun r => ⟨[(8, it r.k), (7, bo r.b)], [], []⟩) (fun r => old.length - r.k) ⟨0, false⟩ ⟨Nat.zero_le _, rfl⟩ ?_⟩
      intro r hq
      have q1 := hq.1
      have q2 := hq.2
      by_cases gk : r.k < old.length
      · have d1 : decide ((r.k : Int) < ((old.map encN).length : Nat)) = true := by simp; exact gk
        have c := refSame_ok old[r.k] next[k] (ho _ (List.getElem_mem gk)) (hn _ (List.getElem_mem hk))
        refine (Bool.eq_false_or_eq_true (r.b)).elim (fun d2 => ?_) (fun d2 => ?_)
        · have hN : true = (old.take (r.k + 1)).any fun x => x == next[k] := by rw [any_take gk, ← q2, d2]; rfl
          refine run ?_
          refine ⟨⟨⟨r.k + 1, _⟩, ⟨gk, hN⟩⟩, Nat.sub_lt_sub_left gk (Nat.lt_succ_self _), ?_⟩
          repeat' (first | exact trivial | exact rfl | refine ⟨?_, ?_⟩ | refine ⟨?_, ?_, ?_⟩)
        · have hN : (old[r.k] == next[k]) = (old.take (r.k + 1)).any fun x => x == next[k] := by rw [any_take gk, ← q2, d2]; rfl
          refine run ?_
          refine Idx.map gk rfl ?_
          refine run ?_
          refine Idx.map hk rfl ?_
          refine run ?_; repeat ((apply call_ok; first | exact (c)); refine run ?_)
          refine ⟨⟨⟨r.k + 1, _⟩, ⟨gk, hN⟩⟩, Nat.sub_lt_sub_left gk (Nat.lt_succ_self _), ?_⟩
          repeat' (first | exact trivial | exact rfl | refine ⟨?_, ?_⟩ | refine ⟨?_, ?_, ?_⟩)
      have d1 : decide ((r.k : Int) < ((old.map encN).length : Nat)) = false := by simp; omega
      rw [List.take_of_length_le (by omega)] at q2
      have hnw : newN old next[k] = !r.b := by rw [q2]; rfl
      refine (Bool.eq_false_or_eq_true (r.b)).elim (fun d2 => ?_) (fun d2 => ?_)
      · have d3 : (!r.b) = false := by rw [d2]; rfl
        have e : rpS old ([] : List Int) next[k] = ([] : List Int) := if_neg (by rw [hnw, d3]; simp)
        refine run ?_
        refine ⟨⟨.raw (k + 1), ⟨hk, ht.trans e⟩⟩, Nat.sub_lt_sub_left hk (Nat.lt_succ_self _), ?_⟩
        repeat' (first | exact trivial | exact rfl | refine ⟨?_, ?_⟩ | refine ⟨?_, ?_, ?_⟩)
      · have d3 : (!r.b) = true := by rw [d2]; rfl
        have e : rpS old ([] : List Int) next[k] = addI ([] : List Int) next[k].id := if_pos (by rw [hnw, d3])
        refine run ?_
        refine Idx.map hk rfl ?_
        refine run ?_; repeat ((apply call_ok; first | exact (ha)); refine run ?_)
        refine ⟨⟨.got (k + 1) (addI ([] : List Int) next[k].id), ⟨hk, ht.trans e⟩⟩, Nat.sub_lt_sub_left hk (Nat.lt_succ_self _), ?_⟩
        repeat' (first | exact trivial | exact rfl | refine ⟨?_, ?_⟩ | refine ⟨?_, ?_, ?_⟩)
    · have b1 : decide ((k : Int) < ((next.map encN).length : Nat)) = false := by simp; omega
      have e : ([] : List Int) = rreop old next := by rw [← j2, List.take_of_length_le (by omega)]; rfl
      refine run ?_
      exact Done.mk (congrArg ints e) rfl
  · intro hJ
    have j1 : k ≤ next.length := hJ.1
    have j2 : (next.take k).foldl (rpS old) [] = a := hJ.2
    by_cases hk : k < next.length
    · have b1 : decide ((k : Int) < ((next.map encN).length : Nat)) = true := by simp; exact hk
      have ht := fold_take (f := rpS old) (z := []) hk
      have hal := rp_len old (next.take k) []
      have htl : (next.take k).length ≤ next.length := by rw [List.length_take]; omega
      rw [j2] at hal ht
      have hal : a.length ≤ 0 + (next.take k).length := hal
      have ha := added_ok a next[k].id (by omega)
      refine run ?_
      refine LoopS.mk ⟨[], HeadS.lp (fun r : CB => r.k ≤ old.length ∧ r.b = (old.take r.k).any fun x => x == next[k]) (fun r => ⟨[(8, it r.k), (7, bo r.b)], [], []⟩) (fun r => old.length - r.k) ⟨0, false⟩ ⟨Nat.zero_le _, rfl⟩ ?_⟩
      intro r hq
      have q1 := hq.1
      have q2 := hq.2
      by_cases gk : r.k < old.length
      · have d1 : decide ((r.k : Int) < ((old.map encN).length : Nat)) = true := by simp; exact gk
        have c := refSame_ok old[r.k] next[k] (ho _ (List.getElem_mem gk)) (hn _ (List.getElem_mem hk))
        refine (Bool.eq_false_or_eq_true (r.b)).elim (fun d2 => ?_) (fun d2 => ?_)
        · have hN : true = (old.take (r.k + 1)).any fun x => x == next[k] := by rw [any_take gk, ← q2, d2]; rfl
          refine run ?_
          refine ⟨⟨⟨r.k + 1, _⟩, ⟨gk, hN⟩⟩, Nat.sub_lt_sub_left gk (Nat.lt_succ_self _), ?_⟩
          repeat' (first | exact trivial | exact rfl | refine ⟨?_, ?_⟩ | refine ⟨?_, ?_, ?_⟩)
        · have hN : (old[r.k] == next[k]) = (old.take (r.k + 1)).any fun x => x == next[k] := by rw [any_take gk, ← q2, d2]; rfl
          refine run ?_
          refine Idx.map gk rfl ?_
          refine run ?_
          refine Idx.map hk rfl ?_
          refine run ?_; repeat ((apply call_ok; first | exact (c)); refine run ?_)
          refine ⟨⟨⟨r.k + 1, _⟩, ⟨gk, hN⟩⟩, Nat.sub_lt_sub_left gk (Nat.lt_succ_self _), ?_⟩
          repeat' (first | exact trivial | exact rfl | refine ⟨?_, ?_⟩ | refine ⟨?_, ?_, ?_⟩)
      have d1 : decide ((r.k : Int) < ((old.map encN).length : Nat)) = false := by simp; omega
      rw [List.take_of_length_le (by omega)] at q2
      have hnw : newN old next[k] = !r.b := by rw [q2]; rfl
      refine (Bool.eq_false_or_eq_true (r.b)).elim (fun d2 => ?_) (fun d2 => ?_)
      · have d3 : (!r.b) = false := by rw [d2]; rfl
        have e : rpS old a next[k] = a := if_neg (by rw [hnw, d3]; simp)
        refine run ?_
        refine ⟨⟨.got (k + 1) a, ⟨hk, ht.trans e⟩⟩, Nat.sub_lt_sub_left hk (Nat.lt_succ_self _), ?_⟩
        repeat' (first | exact trivial | exact rfl | refine ⟨?_, ?_⟩ | refine ⟨?_, ?_, ?_⟩)
      · have d3 : (!r.b) = true := by rw [d2]; rfl
        have e : rpS old a next[k] = addI a next[k].id := if_pos (by rw [hnw, d3])
        refine run ?_
        refine Idx.map hk rfl ?_
        refine run ?_; repeat ((apply call_ok; first | exact (ha)); refine run ?_)
        refine ⟨⟨.got (k + 1) (addI a next[k].id), ⟨hk, ht.trans e⟩⟩, Nat.sub_lt_sub_left hk (Nat.lt_succ_self _), ?_⟩
        repeat' (first | exact trivial | exact rfl | refine ⟨?_, ?_⟩ | refine ⟨?_, ?_, ?_⟩)
    · have b1 : decide ((k : Int) < ((next.map encN).length : Nat)) = false := by simp; omega
      have e : a = rreop old next := by rw [← j2, List.take_of_length_le (by omega)]; rfl
      refine run ?_
      exact Done.mk (congrArg ints e) rfl
theorem rpS_SI (old : List Ne) : ∀ (l : List Ne) {a : List Int}, SI a → SI (l.foldl (rpS old) a) ∧ ∀ x, x ∈ l.foldl (rpS old) a ↔ x ∈ a ∨ ∃ s ∈ l, newN old s = true ∧ s.id = x
  | [], a, h => ⟨h, fun x => by simp⟩
  | s :: l, a, h => by
    rw [List.foldl_cons]
    cases e : newN old s with
    | true =>
      have e' : rpS old a s = addI a s.id := if_pos e
      obtain ⟨h1, h2⟩ := rpS_SI old l (addI_SI h s.id)
      rw [e']
      refine ⟨h1, fun x => ?_⟩
      rw [h2, addI_mem h]
      constructor
      · rintro ((e1 | e1) | ⟨t, ht, e1⟩)
        · exact .inr ⟨s, by simp, e, e1.symm⟩
        · exact .inl e1
        · exact .inr ⟨t, by simp [ht], e1⟩
      · rintro (e1 | ⟨t, ht, e1, e2⟩)
        · exact .inl (.inr e1)
        · rcases List.mem_cons.1 ht with rfl | ht
          · exact .inl (.inl e2.symm)
          · exact .inr ⟨t, ht, e1, e2⟩
    | false =>
      have e' : rpS old a s = a := if_neg (by rw [e]; simp)
      obtain ⟨h1, h2⟩ := rpS_SI old l h
      rw [e']
      refine ⟨h1, fun x => ?_⟩
      rw [h2]
      constructor
      · rintro (e1 | ⟨t, ht, e1⟩)
        · exact .inl e1
        · exact .inr ⟨t, by simp [ht], e1⟩
      · rintro (e1 | ⟨t, ht, e1, e2⟩)
        · exact .inl e1
        · rcases List.mem_cons.1 ht with rfl | ht
          · rw [e] at e1; cases e1
          · exact .inr ⟨t, ht, e1, e2⟩
theorem reop_eq (old next : List Ne) : dreop old next = rreop old next := by
  have h1 := sortC_SI (newIds old next)
  have h2 := rpS_SI old next (a := []) List.Pairwise.nil
  refine SI.uniq h1.1 h2.1 fun x => ?_
  refine (h1.2 x).trans (Iff.trans ?_ (h2.2 x).symm)
  simp only [newIds, List.mem_map, List.mem_filter, List.not_mem_nil, false_or]
  constructor
  · rintro ⟨y, ⟨hy, e⟩, e2⟩; exact ⟨y, hy, e, e2⟩
  · rintro ⟨y, hy, e, e2⟩; exact ⟨y, ⟨hy, e⟩, e2⟩
end Abs
namespace Abs
open Go Go.Proofs
set_option maxRecDepth 100000
set_option maxHeartbeats 4000000
def wHeads (p : Pg) : Pg := ⟨p.d, p.defs.map headOf, p.defs, p.threads⟩
theorem withHeads_ok (p : Pg) (h : p.defs.length < 2^30) : CallsA Tryz.prog 22 [encP p] ct0 (encP (wHeads p)) ct0 := by
  have h55 := fun d => head_ok d
  refine fn_ok hm Tryz.func22 (fun _ => false) [] (fun _ => []) (by kernel_rfl) ?_
  refine run ?_
  refine LoopS.mk ⟨[.cell 1 7 20003], HeadS.lp (fun r : CR => r.k ≤ p.defs.length ∧ r.acc = ((p.defs.take r.k).map headOf).map encH) (fun r => ⟨[(3, it r.k)], [(1, .agg (cDc p.d ++ [.ref 20003 r.acc.length, lst 12 encD p.defs, ints p.threads]))], [(20003, ⟨5, true, r.acc⟩)]⟩) (fun r => p.defs.length - r.k) ⟨0, []⟩ ⟨Nat.zero_le _, rfl⟩ ?_⟩
  intro r hJ
  have h1 := hJ.1
  have h2 := hJ.2
  have hlen : r.acc.length = r.k := by rw [h2, List.length_map, List.length_map, List.length_take]; omega
  by_cases hk : r.k < p.defs.length
  · have b1 : decide ((r.k : Int) < ((p.defs.map encD).length : Nat)) = true := by simp; exact hk
    have hc := head_ok p.defs[r.k]
    have hN : r.acc ++ [encH (headOf p.defs[r.k])] = ((p.defs.take (r.k + 1)).map headOf).map encH := by rw [h2, map_take hk, List.map_append]; rfl
    refine run ?_
    refine Idx.map hk rfl ?_
    refine run ?_; repeat ((apply call_ok; first | exact (hc)); refine run ?_)
    refine ⟨⟨⟨r.k + 1, _⟩, ⟨hk, hN⟩⟩, Nat.sub_lt_sub_left hk (Nat.lt_succ_self _), ?_⟩
    repeat' (first | exact trivial | exact rfl | refine ⟨?_, ?_⟩ | refine ⟨?_, ?_, ?_⟩)
  · have b1 : decide ((r.k : Int) < ((p.defs.map encD).length : Nat)) = false := by simp; omega
    have e : r.acc = (p.defs.map headOf).map encH := by rw [h2, List.take_of_length_le (by omega)]
    refine run ?_
    exact Done.mk (congrArg (fun x => Dat.agg (cDc p.d ++ [.sl 5 x false, lst 12 encD p.defs, ints p.threads])) e) rfl
def spareD (id n : Int) : Df := ⟨id, 5000 + 10 * id, [115, 112, 97, 114, 101], 0, 0, [], [], 0, 0, [], 5, [.mk (5001 + 10 * id) 24 0 0 0 (.mk 1 0 n []) (.mk 0 0 0 []) (.mk 0 [] []) [] [] [] []]⟩
theorem spare_ok (id n : Int) (h : 0 ≤ id ∧ id < 1000) : CallsA Tryz.prog 69 [it id, it n] ct0 (encD (spareD id n)) ct0 := by
  have hn := num_ok n
  refine fn_ok hm Tryz.func69 (fun _ => false) [] (fun _ => []) (by kernel_rfl) ?_
  refine run ?_; repeat ((apply call_ok; first | exact (hn)); refine run ?_)
  exact Done.mk rfl rfl
def insD (l : List Df) (x : Df) : List Df := (l.takeWhile fun d => decide (d.id < x.id)) ++ [x] ++ l.filter fun d => decide (d.id > x.id)
def sortP (p : Pg) (l : List Df) (x : Df) : Pg := wHeads ⟨p.d, p.heads, insD l x, p.threads⟩
theorem nth_ins {l : List Df} {k : Nat} (x : Df) (h : k < l.length) : nth ((l ++ [x]).map encD) ((k : Int)).toNat = some (encD l[k]) := by
  rw [show ((k : Int)).toNat = k from rfl, nth_map, nth_get (by rw [List.length_append]; omega), List.getElem_append_left h]; rfl
theorem nth_last (l : List Df) (x : Df) : nth ((l ++ [x]).map encD) ((((l ++ [x]).map encD).length : Int) - 1).toNat = some (encD x) := by
  rw [show ((((l ++ [x]).map encD).length : Int) - 1).toNat = l.length by simp, nth_map, nth_get (by simp)]; simp
theorem sorted_ok (p : Pg) (l : List Df) (x : Df) (hp : p.defs = l ++ [x]) (hl : l.length < 2^28) : CallsA Tryz.prog 73 [encP p] ct0 (encP (sortP p l x)) ct0 := by
  have hil : (insD l x).length < 2^30 := by
    have h1 := (List.takeWhile_sublist (l := l) fun d => decide (d.id < x.id)).length_le
    have h2 := List.length_filter_le (fun d => decide (d.id > x.id)) l
    simp only [insD, List.length_append, List.length_singleton]; omega
  have hw0 := withHeads_ok ⟨p.d, p.heads, insD l x, p.threads⟩ hil
  have hw : CallsA Tryz.prog 22 [.agg (cDc p.d ++ [lst 5 encH p.heads, .sl 12 ((insD l x).map encD) false, ints p.threads])] ct0 (encP (sortP p l x)) ct0 := hw0
  have hpe : encP p = .agg (cDc p.d ++ [lst 5 encH p.heads, .sl 12 ((l ++ [x]).map encD) false, ints p.threads]) := by rw [← hp]; rfl
  rw [hpe]
  have hll : ((l ++ [x]).map encD).length = l.length + 1 := by simp
  have hlast := nth_last l x
  refine fn_ok hm Tryz.func73 (fun _ => false) [] (fun _ => []) (by kernel_rfl) ?_
  refine run ?_
  refine Idx.at rfl (by omega) hlast ?_
  refine run ?_
  refine LoopS.mk ⟨[], HeadS.lp (fun r : CR => r.k ≤ l.length ∧ r.acc = (l.take r.k).map encD ∧ (l.takeWhile fun d => decide (d.id < x.id)) = l.take r.k ++ (l.drop r.k).takeWhile fun d => decide (d.id < x.id)) (fun r => ⟨[(6, it r.k), (5, .ref 17 r.acc.length)], [], [(17, ⟨12, true, r.acc⟩)]⟩) (fun r => l.length - r.k) ⟨0, []⟩ ⟨Nat.zero_le _, by simp, by simp⟩ ?_⟩
  intro r hJ
  have h1 := hJ.1
  have h2 := hJ.2.1
  have h3 := hJ.2.2
  by_cases hk : r.k < l.length
  · have b1 : decide ((r.k : Int) < ((l ++ [x]).map encD).length - 1) = true := by simp; exact hk
    have hi := nth_ins x hk
    refine (Bool.eq_false_or_eq_true (decide (l[r.k].id < x.id))).elim (fun b2 => ?_) (fun b2 => ?_)
    · have hN : r.acc ++ [encD l[r.k]] = (l.take (r.k + 1)).map encD := by rw [h2, take_one hk, List.map_append]; rfl
      have hT : (l.takeWhile fun d => decide (d.id < x.id)) = l.take (r.k + 1) ++ (l.drop (r.k + 1)).takeWhile fun d => decide (d.id < x.id) := by
        rw [h3, tw_yes hk b2, take_one hk, List.append_assoc]; rfl
      have hlen : r.acc.length = r.k := by rw [h2, List.length_map, List.length_take]; omega
      refine run ?_
      refine Idx.at rfl (by omega) hi ?_
      refine run ?_
      refine Idx.at rfl (by omega) hi ?_
      refine run ?_
      refine ⟨⟨⟨r.k + 1, _⟩, ⟨hk, hN, hT⟩⟩, Nat.sub_lt_sub_left hk (Nat.lt_succ_self _), ?_⟩
      repeat' (first | exact trivial | exact rfl | refine ⟨?_, ?_⟩ | refine ⟨?_, ?_, ?_⟩)
    · have hA : r.acc = (l.takeWhile fun d => decide (d.id < x.id)).map encD := by rw [h3, tw_no hk b2, h2]; simp
      refine run ?_
      refine Idx.at rfl (by omega) hi ?_
      have hlen1 : r.acc.length ≤ l.length := by rw [hA, List.length_map]; exact (List.takeWhile_sublist _).length_le
      refine run ?_
      refine LoopS.mk ⟨[], HeadS.lp (fun q : CR => q.k ≤ l.length ∧ q.acc = (r.acc ++ [encD x]) ++ ((l.take q.k).filter fun d => decide (d.id > x.id)).map encD) (fun q => ⟨[(7, it q.k), (5, .ref 17 q.acc.length)], [], [(17, ⟨12, true, q.acc⟩)]⟩) (fun q => l.length - q.k) ⟨0, r.acc ++ [encD x]⟩ ⟨Nat.zero_le _, by simp⟩ ?_⟩
      intro q hq
      have g1 := hq.1
      have g2 := hq.2
      have hle := flt_le (p := fun d => decide (d.id > x.id)) (l := l) q.k
      have glen : q.acc.length = r.acc.length + 1 + ((l.take q.k).filter fun d => decide (d.id > x.id)).length := by rw [g2]; simp; omega
      by_cases gk : q.k < l.length
      · have c1 : decide ((q.k : Int) < ((l ++ [x]).map encD).length - 1) = true := by simp; exact gk
        have hi := nth_ins x gk
        refine (Bool.eq_false_or_eq_true (decide (l[q.k].id > x.id))).elim (fun c2 => ?_) (fun c2 => ?_)
        · have gN : q.acc ++ [encD l[q.k]] = (r.acc ++ [encD x]) ++ ((l.take (q.k + 1)).filter fun d => decide (d.id > x.id)).map encD := by rw [g2, flt_yes gk c2, List.map_append, ← List.append_assoc]; rfl
          refine run ?_
          refine Idx.at rfl (by omega) hi ?_
          refine run ?_
          refine Idx.at rfl (by omega) hi ?_
          refine run ?_
          refine ⟨⟨⟨q.k + 1, _⟩, ⟨gk, gN⟩⟩, Nat.sub_lt_sub_left gk (Nat.lt_succ_self _), ?_⟩
          repeat' (first | exact trivial | exact rfl | refine ⟨?_, ?_⟩ | refine ⟨?_, ?_, ?_⟩)
        · have gN : q.acc = (r.acc ++ [encD x]) ++ ((l.take (q.k + 1)).filter fun d => decide (d.id > x.id)).map encD := by rw [g2, flt_no gk c2]
          refine run ?_
          refine Idx.at rfl (by omega) hi ?_
          refine run ?_
          refine ⟨⟨⟨q.k + 1, _⟩, ⟨gk, gN⟩⟩, Nat.sub_lt_sub_left gk (Nat.lt_succ_self _), ?_⟩
          repeat' (first | exact trivial | exact rfl | refine ⟨?_, ?_⟩ | refine ⟨?_, ?_, ?_⟩)
      have c1 : decide ((q.k : Int) < ((l ++ [x]).map encD).length - 1) = false := by simp; omega
      have e : q.acc = (insD l x).map encD := by rw [g2, hA, List.take_of_length_le (by omega)]; simp [insD]
      rw [← e] at hw
      refine run ?_; repeat ((apply call_ok; first | exact (hw)); refine run ?_)
      exact Done.mk rfl rfl
  have b1 : decide ((r.k : Int) < ((l ++ [x]).map encD).length - 1) = false := by simp; omega
  have hA : r.acc = (l.takeWhile fun d => decide (d.id < x.id)).map encD := by rw [h3, List.drop_eq_nil_of_le (by omega), h2]; simp
  have hlen1 : r.acc.length ≤ l.length := by rw [hA, List.length_map]; exact (List.takeWhile_sublist _).length_le
  refine run ?_
  refine LoopS.mk ⟨[], HeadS.lp (fun q : CR => q.k ≤ l.length ∧ q.acc = (r.acc ++ [encD x]) ++ ((l.take q.k).filter fun d => decide (d.id > x.id)).map encD) (fun q => ⟨[(7, it q.k), (5, .ref 17 q.acc.length)], [], [(17, ⟨12, true, q.acc⟩)]⟩) (fun q => l.length - q.k) ⟨0, r.acc ++ [encD x]⟩ ⟨Nat.zero_le _, by simp⟩ ?_⟩
  intro q hq
  have g1 := hq.1
  have g2 := hq.2
  have hle := flt_le (p := fun d => decide (d.id > x.id)) (l := l) q.k
  have glen : q.acc.length = r.acc.length + 1 + ((l.take q.k).filter fun d => decide (d.id > x.id)).length := by rw [g2]; simp; omega
  by_cases gk : q.k < l.length
  · have c1 : decide ((q.k : Int) < ((l ++ [x]).map encD).length - 1) = true := by simp; exact gk
    have hi := nth_ins x gk
    refine (Bool.eq_false_or_eq_true (decide (l[q.k].id > x.id))).elim (fun c2 => ?_) (fun c2 => ?_)
    · have gN : q.acc ++ [encD l[q.k]] = (r.acc ++ [encD x]) ++ ((l.take (q.k + 1)).filter fun d => decide (d.id > x.id)).map encD := by rw [g2, flt_yes gk c2, List.map_append, ← List.append_assoc]; rfl
      refine run ?_
      refine Idx.at rfl (by omega) hi ?_
      refine run ?_
      refine Idx.at rfl (by omega) hi ?_
      refine run ?_
      refine ⟨⟨⟨q.k + 1, _⟩, ⟨gk, gN⟩⟩, Nat.sub_lt_sub_left gk (Nat.lt_succ_self _), ?_⟩
      repeat' (first | exact trivial | exact rfl | refine ⟨?_, ?_⟩ | refine ⟨?_, ?_, ?_⟩)
    · have gN : q.acc = (r.acc ++ [encD x]) ++ ((l.take (q.k + 1)).filter fun d => decide (d.id > x.id)).map encD := by rw [g2, flt_no gk c2]
      refine run ?_
      refine Idx.at rfl (by omega) hi ?_
      refine run ?_
      refine ⟨⟨⟨q.k + 1, _⟩, ⟨gk, gN⟩⟩, Nat.sub_lt_sub_left gk (Nat.lt_succ_self _), ?_⟩
      repeat' (first | exact trivial | exact rfl | refine ⟨?_, ?_⟩ | refine ⟨?_, ?_, ?_⟩)
  have c1 : decide ((q.k : Int) < ((l ++ [x]).map encD).length - 1) = false := by simp; omega
  have e : q.acc = (insD l x).map encD := by rw [g2, hA, List.take_of_length_le (by omega)]; simp [insD]
  rw [← e] at hw
  refine run ?_; repeat ((apply call_ok; first | exact (hw)); refine run ?_)
  exact Done.mk rfl rfl
end Abs
namespace Abs
open Go Go.Proofs
set_option maxRecDepth 100000
set_option maxHeartbeats 4000000
def wrp (v : Int) : Int := if v.tmod 4294967296 < -2147483648 then v.tmod 4294967296 + 4294967296 else if v.tmod 4294967296 > 2147483647 then v.tmod 4294967296 - 4294967296 else v.tmod 4294967296
theorem tmod_bd (v : Int) : -4294967296 < v.tmod 4294967296 ∧ v.tmod 4294967296 < 4294967296 := by
  refine ⟨?_, Int.tmod_lt_of_pos _ (by omega)⟩
  exact Int.lt_tmod_of_pos _ (by omega)
theorem wrp_bd (v : Int) : -2147483648 ≤ wrp v ∧ wrp v ≤ 2147483647 := by
  have := tmod_bd v
  unfold wrp; split
  · omega
  · split <;> omega
theorem wrap_ok (v : Int) : CallsA Tryz.prog 111 [it v] ct0 (it (wrp v)) ct0 := by
  have hb := tmod_bd v
  have ht : ∃ t, t = v.tmod 4294967296 := ⟨_, rfl⟩
  refine ht.elim fun t ht => ?_
  unfold wrp
  rw [← ht] at hb ⊢
  refine (Bool.eq_false_or_eq_true (decide (v.tmod 4294967296 < -2147483648))).elim (fun b1 => ?_) (fun b1 => ?_)
  · rw [if_pos (by rw [ht]; exact of_decide_eq_true b1), ht]
    rw [ht] at hb
    refine fn_ok hm Tryz.func111 (fun _ => false) [] (fun _ => []) (by kernel_rfl) ?_
    refine run ?_
    exact Done.mk rfl rfl
  · rw [if_neg (by rw [ht]; exact of_decide_eq_false b1)]
    refine (Bool.eq_false_or_eq_true (decide (v.tmod 4294967296 > 2147483647))).elim (fun b2 => ?_) (fun b2 => ?_)
    · rw [if_pos (by rw [ht]; exact of_decide_eq_true b2), ht]
      rw [ht] at hb
      refine fn_ok hm Tryz.func111 (fun _ => false) [] (fun _ => []) (by kernel_rfl) ?_
      refine run ?_
      exact Done.mk rfl rfl
    · rw [if_neg (by rw [ht]; exact of_decide_eq_false b2), ht]
      refine fn_ok hm Tryz.func111 (fun _ => false) [] (fun _ => []) (by kernel_rfl) ?_
      refine run ?_
      exact Done.mk rfl rfl
def opA (op a b : Int) : Int :=
  if op == 4 then wrp (a + b) else if op == 5 then wrp (a - b) else if op == 6 then wrp (a * b) else
  if op == 7 then (if b == 0 then 0 else wrp (IntKind.i64.wrap (a.tdiv b))) else
  if op == 8 then (if b == 0 then a else a.tmod b) else
  if op == 9 then (if b < a then b else a) else if op == 10 then (if b > a then b else a) else 0
def opR (op a b : Int) : Int := opA op (wrp a) (wrp b)
theorem mul_bd {a b : Int} (ha : -2147483648 ≤ a ∧ a ≤ 2147483647) (hb : -2147483648 ≤ b ∧ b ≤ 2147483647) : -(2^63) ≤ a * b ∧ a * b < 2^63 := by
  have h1 : a.natAbs ≤ 2147483648 := by omega
  have h2 : b.natAbs ≤ 2147483648 := by omega
  have h3 : (a * b).natAbs ≤ 2147483648 * 2147483648 := by rw [Int.natAbs_mul]; exact Nat.mul_le_mul h1 h2
  omega
theorem op_ok (op x y : Int) : CallsA Tryz.prog 67 [it op, it x, it y] ct0 (it (opR op x y)) ct0 := by
  have w1 := wrap_ok x
  have w2 := wrap_ok y
  have ba := wrp_bd x
  have bb := wrp_bd y
  unfold opR
  have hA : ∃ a, a = wrp x := ⟨_, rfl⟩
  refine hA.elim fun a hA => ?_
  have hB : ∃ b, b = wrp y := ⟨_, rfl⟩
  refine hB.elim fun b hB => ?_
  rw [← hA] at w1 ba ⊢
  rw [← hB] at w2 bb ⊢
  have w3 := wrap_ok (a + b)
  have w4 := wrap_ok (a - b)
  have w5 := wrap_ok (a * b)
  have w6 := wrap_ok (IntKind.i64.wrap (a.tdiv b))
  have mb := mul_bd ba bb
  have mb1 := mb.1
  have mb2 := mb.2
  refine (Bool.eq_false_or_eq_true (op == 4)).elim (fun o4 => ?_) (fun o4 => ?_)
  · unfold opA
    rw [if_pos o4]
    refine fn_ok hm Tryz.func67 (fun _ => false) [] (fun _ => []) (by kernel_rfl) ?_
    refine run ?_; repeat ((apply call_ok; first | exact (w1) | exact (w2) | exact (w3) | exact (w4) | exact (w5) | exact (w6)); refine run ?_)
    exact Done.mk rfl rfl
  refine (Bool.eq_false_or_eq_true (op == 5)).elim (fun o5 => ?_) (fun o5 => ?_)
  · unfold opA
    rw [if_neg (by rw [o4]; simp)]; rw [if_pos o5]
    refine fn_ok hm Tryz.func67 (fun _ => false) [] (fun _ => []) (by kernel_rfl) ?_
    refine run ?_; repeat ((apply call_ok; first | exact (w1) | exact (w2) | exact (w3) | exact (w4) | exact (w5) | exact (w6)); refine run ?_)
    exact Done.mk rfl rfl
  refine (Bool.eq_false_or_eq_true (op == 6)).elim (fun o6 => ?_) (fun o6 => ?_)
  · unfold opA
    rw [if_neg (by rw [o4]; simp)]; rw [if_neg (by rw [o5]; simp)]; rw [if_pos o6]
    refine fn_ok hm Tryz.func67 (fun _ => false) [] (fun _ => []) (by kernel_rfl) ?_
    refine run ?_; repeat ((apply call_ok; first | exact (w1) | exact (w2) | exact (w3) | exact (w4) | exact (w5) | exact (w6)); refine run ?_)
    exact Done.mk rfl rfl
  refine (Bool.eq_false_or_eq_true (op == 7)).elim (fun o7 => ?_) (fun o7 => ?_)
  · unfold opA
    rw [if_neg (by rw [o4]; simp)]; rw [if_neg (by rw [o5]; simp)]; rw [if_neg (by rw [o6]; simp)]; rw [if_pos o7]
    refine (Bool.eq_false_or_eq_true (b == 0)).elim (fun z => ?_) (fun z => ?_)
    · have n0 : (!(b == 0)) = false := by rw [z]; rfl
      rw [if_pos z]
      refine fn_ok hm Tryz.func67 (fun _ => false) [] (fun _ => []) (by kernel_rfl) ?_
      refine run ?_; repeat ((apply call_ok; first | exact (w1) | exact (w2) | exact (w3) | exact (w4) | exact (w5) | exact (w6)); refine run ?_)
      exact Done.mk rfl rfl
    · have n0 : (!(b == 0)) = true := by rw [z]; rfl
      have n1 : b ≠ 0 := by simpa using z
      rw [if_neg (by rw [z]; simp)]
      refine fn_ok hm Tryz.func67 (fun _ => false) [] (fun _ => []) (by kernel_rfl) ?_
      refine run ?_; repeat ((apply call_ok; first | exact (w1) | exact (w2) | exact (w3) | exact (w4) | exact (w5) | exact (w6)); refine run ?_)
      exact Done.mk rfl rfl
  refine (Bool.eq_false_or_eq_true (op == 8)).elim (fun o8 => ?_) (fun o8 => ?_)
  · unfold opA
    rw [if_neg (by rw [o4]; simp)]; rw [if_neg (by rw [o5]; simp)]; rw [if_neg (by rw [o6]; simp)]; rw [if_neg (by rw [o7]; simp)]; rw [if_pos o8]
    refine (Bool.eq_false_or_eq_true (b == 0)).elim (fun z => ?_) (fun z => ?_)
    · have n0 : (!(b == 0)) = false := by rw [z]; rfl
      rw [if_pos z]
      refine fn_ok hm Tryz.func67 (fun _ => false) [] (fun _ => []) (by kernel_rfl) ?_
      refine run ?_; repeat ((apply call_ok; first | exact (w1) | exact (w2) | exact (w3) | exact (w4) | exact (w5) | exact (w6)); refine run ?_)
      exact Done.mk rfl rfl
    · have n0 : (!(b == 0)) = true := by rw [z]; rfl
      have n1 : b ≠ 0 := by simpa using z
      rw [if_neg (by rw [z]; simp)]
      refine fn_ok hm Tryz.func67 (fun _ => false) [] (fun _ => []) (by kernel_rfl) ?_
      refine run ?_; repeat ((apply call_ok; first | exact (w1) | exact (w2) | exact (w3) | exact (w4) | exact (w5) | exact (w6)); refine run ?_)
      exact Done.mk rfl rfl
  refine (Bool.eq_false_or_eq_true (op == 9)).elim (fun o9 => ?_) (fun o9 => ?_)
  · unfold opA
    rw [if_neg (by rw [o4]; simp)]; rw [if_neg (by rw [o5]; simp)]; rw [if_neg (by rw [o6]; simp)]; rw [if_neg (by rw [o7]; simp)]; rw [if_neg (by rw [o8]; simp)]; rw [if_pos o9]
    refine fn_ok hm Tryz.func67 (fun _ => false) [] (fun _ => []) (by kernel_rfl) ?_
    refine run ?_; repeat ((apply call_ok; first | exact (w1) | exact (w2) | exact (w3) | exact (w4) | exact (w5) | exact (w6)); refine run ?_)
    exact Done.mk rfl rfl
  refine (Bool.eq_false_or_eq_true (op == 10)).elim (fun o10 => ?_) (fun o10 => ?_)
  · unfold opA
    rw [if_neg (by rw [o4]; simp)]; rw [if_neg (by rw [o5]; simp)]; rw [if_neg (by rw [o6]; simp)]; rw [if_neg (by rw [o7]; simp)]; rw [if_neg (by rw [o8]; simp)]; rw [if_neg (by rw [o9]; simp)]; rw [if_pos o10]
    refine fn_ok hm Tryz.func67 (fun _ => false) [] (fun _ => []) (by kernel_rfl) ?_
    refine run ?_; repeat ((apply call_ok; first | exact (w1) | exact (w2) | exact (w3) | exact (w4) | exact (w5) | exact (w6)); refine run ?_)
    exact Done.mk rfl rfl
  unfold opA
  rw [if_neg (by rw [o4]; simp)]; rw [if_neg (by rw [o5]; simp)]; rw [if_neg (by rw [o6]; simp)]; rw [if_neg (by rw [o7]; simp)]; rw [if_neg (by rw [o8]; simp)]; rw [if_neg (by rw [o9]; simp)]; rw [if_neg (by rw [o10]; simp)]
  refine fn_ok hm Tryz.func67 (fun _ => false) [] (fun _ => []) (by kernel_rfl) ?_
  refine run ?_; repeat ((apply call_ok; first | exact (w1) | exact (w2) | exact (w3) | exact (w4) | exact (w5) | exact (w6)); refine run ?_)
  exact Done.mk rfl rfl
end Abs
namespace Abs
open Go Go.Proofs
set_option maxRecDepth 100000
set_option maxHeartbeats 4000000
structure Rw where
  op : Int
  a : Int
  b : Int
  n : Int
  m : Int
  lo : Int
  hi : Int
  id : Int
  sharp : Int
def i16 (n : Int) : Dat := .int .i16 n
def encRw (x : Rw) : Dat := .agg [u8 x.op, u8 x.a, u8 x.b, u8 x.n, u8 x.m, i16 x.lo, i16 x.hi, u8 x.id, u8 x.sharp]
structure RwOk (x : Rw) : Prop where
  op : 0 ≤ x.op ∧ x.op < 256
  a : 0 ≤ x.a ∧ x.a < 256
  b : 0 ≤ x.b ∧ x.b < 256
  n : 0 ≤ x.n ∧ x.n < 256
  m : 0 ≤ x.m ∧ x.m < 256
  lo : -32768 ≤ x.lo ∧ x.lo < 32768
  hi : -32768 ≤ x.hi ∧ x.hi < 32768
  id : 0 ≤ x.id ∧ x.id < 256
  sharp : 0 ≤ x.sharp ∧ x.sharp < 256
structure LH where
  lo : Int
  hi : Int
def stB (op a b0 : Int) (s : LH) (j : Nat) : LH := ⟨if opR op a (b0 + j) < s.lo then opR op a (b0 + j) else s.lo, if opR op a (b0 + j) > s.hi then opR op a (b0 + j) else s.hi⟩
def rowB (op b0 : Int) (nb : Nat) (a0 : Int) (s : LH) (i : Nat) : LH := (List.range nb).foldl (stB op (a0 + i) b0) s
def allB (op a0 b0 : Int) (na nb : Nat) (s : LH) : LH := (List.range na).foldl (rowB op b0 nb a0) s
theorem range_fold {β : Type} {f : β → Nat → β} {z : β} {k : Nat} : (List.range (k+1)).foldl f z = f ((List.range k).foldl f z) k := by
  rw [List.range_succ, List.foldl_append]; rfl
def ru0 (x : Rw) : Ru := ⟨1 + x.id.tmod 20, 1 + x.sharp.tmod 4, x.id.tmod 3, 4 + x.op.tmod 7, x.a - 20, x.a - 20 + x.n.tmod 40, x.b - 20, x.b - 20 + x.m.tmod 40, if x.hi < x.lo then x.hi else x.lo, if x.hi > x.lo then x.hi else x.lo⟩
def lhOf (x : Rw) : LH := allB (4 + x.op.tmod 7) (x.a - 20) (x.b - 20) (x.n.tmod 40 + 1).toNat (x.m.tmod 40 + 1).toNat ⟨opR (4 + x.op.tmod 7) (x.a - 20) (x.b - 20), opR (4 + x.op.tmod 7) (x.a - 20) (x.b - 20)⟩
def madeR (x : Rw) : Ru := if x.sharp.tmod 2 == 1 then ru0 x else { ru0 x with lo := (lhOf x).lo, hi := (lhOf x).hi }
theorem tm_bd {x : Int} (h : 0 ≤ x) (n : Int) (hn : 0 < n) : 0 ≤ x.tmod n ∧ x.tmod n < n := ⟨Int.tmod_nonneg _ h, Int.tmod_lt_of_pos _ hn⟩
structure AB where
  k : Nat
  v : Int
  s : LH
theorem madeR_ok (x : Rw) (h : RwOk x) : CallsA Tryz.prog 27 [encRw x] ct0 (encRu (madeR x)) ct0 := by
  have t1 := tm_bd h.id.1 20 (by omega)
  have t2 := tm_bd h.sharp.1 4 (by omega)
  have t3 := tm_bd h.id.1 3 (by omega)
  have t4 := tm_bd h.op.1 7 (by omega)
  have t5 := tm_bd h.n.1 40 (by omega)
  have t6 := tm_bd h.m.1 40 (by omega)
  have ba := h.a
  have bb := h.b
  have bl := h.lo
  have bh := h.hi
  refine (Bool.eq_false_or_eq_true (x.sharp.tmod 2 == 1)).elim (fun b1 => ?_) (fun b1 => ?_)
  · have e : madeR x = ru0 x := if_pos b1
    rw [e]
    refine fn_ok hm Tryz.func27 (fun _ => false) [] (fun _ => []) (by kernel_rfl) ?_
    refine run ?_
    exact Done.mk rfl rfl
  · have e : madeR x = { ru0 x with lo := (lhOf x).lo, hi := (lhOf x).hi } := if_neg (by rw [b1]; simp)
    have hN : ∃ na : Nat, (na : Int) = x.n.tmod 40 + 1 := ⟨(x.n.tmod 40 + 1).toNat, by omega⟩
    refine hN.elim fun na hna => ?_
    have hM : ∃ nb : Nat, (nb : Int) = x.m.tmod 40 + 1 := ⟨(x.m.tmod 40 + 1).toNat, by omega⟩
    refine hM.elim fun nb hnb => ?_
    have hZ : ∃ Z, Z = lhOf x := ⟨_, rfl⟩
    refine hZ.elim fun Z hZ => ?_
    rw [e, ← hZ]
    have hZ' : Z = allB (4 + x.op.tmod 7) (x.a - 20) (x.b - 20) na nb ⟨opR (4 + x.op.tmod 7) (x.a - 20) (x.b - 20), opR (4 + x.op.tmod 7) (x.a - 20) (x.b - 20)⟩ := by
      rw [hZ, lhOf, ← hna, ← hnb]; rfl
    have c0 := op_ok (4 + x.op.tmod 7) (x.a - 20) (x.b - 20)
    refine fn_ok hm Tryz.func27 (fun _ => false) [] (fun _ => []) (by kernel_rfl) ?_
    refine run ?_; repeat ((apply call_ok; first | exact (c0)); refine run ?_)
    refine LoopS.mk ⟨[], HeadS.lp (fun r : AB => r.k ≤ na ∧ r.v = x.a - 20 + (r.k : Int) ∧ r.s = allB (4 + x.op.tmod 7) (x.a - 20) (x.b - 20) r.k nb ⟨opR (4 + x.op.tmod 7) (x.a - 20) (x.b - 20), opR (4 + x.op.tmod 7) (x.a - 20) (x.b - 20)⟩) (fun r => ⟨[(4, it r.v)], [(3, encRu { ru0 x with lo := r.s.lo, hi := r.s.hi })], []⟩) (fun r => na - r.k) ⟨0, x.a - 20, ⟨opR (4 + x.op.tmod 7) (x.a - 20) (x.b - 20), opR (4 + x.op.tmod 7) (x.a - 20) (x.b - 20)⟩⟩ ⟨Nat.zero_le _, by simp, rfl⟩ ?_⟩
    intro r hJ
    have h1 := hJ.1
    have h0 := hJ.2.1
    have h2 := hJ.2.2
    by_cases hk : r.k < na
    · have d1 : decide (r.v ≤ x.a - 20 + x.n.tmod 40) = true := by simp; omega
      refine run ?_
      refine LoopS.mk ⟨[], HeadS.lp (fun q : AB => q.k ≤ nb ∧ q.v = x.b - 20 + (q.k : Int) ∧ q.s = rowB (4 + x.op.tmod 7) (x.b - 20) q.k (x.a - 20) r.s r.k) (fun q => ⟨[(5, it q.v)], [(3, encRu { ru0 x with lo := q.s.lo, hi := q.s.hi })], []⟩) (fun q => nb - q.k) ⟨0, x.b - 20, r.s⟩ ⟨Nat.zero_le _, by simp, rfl⟩ ?_⟩
      intro q hq
      have g1 := hq.1
      have g0 := hq.2.1
      have g2 := hq.2.2
      by_cases gk : q.k < nb
      · have e1 : decide (q.v ≤ x.b - 20 + x.m.tmod 40) = true := by simp; omega
        have c1 := op_ok (4 + x.op.tmod 7) r.v q.v
        have gN : (⟨if opR (4 + x.op.tmod 7) r.v q.v < q.s.lo then opR (4 + x.op.tmod 7) r.v q.v else q.s.lo, if opR (4 + x.op.tmod 7) r.v q.v > q.s.hi then opR (4 + x.op.tmod 7) r.v q.v else q.s.hi⟩ : LH) = rowB (4 + x.op.tmod 7) (x.b - 20) (q.k + 1) (x.a - 20) r.s r.k := by
          unfold rowB; rw [range_fold]; unfold rowB at g2; rw [← g2, h0, g0]; rfl
        have gV : q.v + 1 = x.b - 20 + ((q.k + 1 : Nat) : Int) := by rw [g0]; omega
        refine run ?_; repeat ((apply call_ok; first | exact (c1)); refine run ?_)
        refine ⟨⟨⟨q.k + 1, x.b - 20 + ((q.k + 1 : Nat) : Int), _⟩, ⟨gk, rfl, gN⟩⟩, Nat.sub_lt_sub_left gk (Nat.lt_succ_self _), ?_⟩
        repeat' (first | exact trivial | exact rfl | refine ⟨?_, ?_⟩ | refine ⟨?_, ?_, ?_⟩)
      · have e1 : decide (q.v ≤ x.b - 20 + x.m.tmod 40) = false := by simp; omega
        have hN : q.s = allB (4 + x.op.tmod 7) (x.a - 20) (x.b - 20) (r.k + 1) nb ⟨opR (4 + x.op.tmod 7) (x.a - 20) (x.b - 20), opR (4 + x.op.tmod 7) (x.a - 20) (x.b - 20)⟩ := by
          unfold allB; rw [range_fold]; unfold allB at h2; rw [← h2, g2, show q.k = nb by omega]
        have hV : r.v + 1 = x.a - 20 + ((r.k + 1 : Nat) : Int) := by rw [h0]; omega
        refine run ?_
        refine ⟨⟨⟨r.k + 1, x.a - 20 + ((r.k + 1 : Nat) : Int), q.s⟩, ⟨hk, rfl, hN⟩⟩, Nat.sub_lt_sub_left hk (Nat.lt_succ_self _), ?_⟩
        repeat' (first | exact trivial | exact rfl | refine ⟨?_, ?_⟩ | refine ⟨?_, ?_, ?_⟩)
    · have d1 : decide (r.v ≤ x.a - 20 + x.n.tmod 40) = false := by simp; omega
      have ez : Z = r.s := by rw [hZ', h2, show r.k = na by omega]
      refine run ?_
      exact Done.mk (congrArg (fun s : LH => encRu { ru0 x with lo := s.lo, hi := s.hi }) ez.symm) rfl
end Abs
namespace Abs
open Go Go.Proofs
set_option maxRecDepth 100000
set_option maxHeartbeats 4000000
def zRu : Ru := ⟨0, 0, 0, 0, 0, 0, 0, 0, 0, 0⟩
def adR (a : List Int) (r : Ru) : List Int := addI a r.id
def idsR (l : List Ru) : List Int := l.foldl adR []
def pickR (l : List Ru) (c : Int) : List Ru := if (fnd (fun x : Ru => x.id == c) zRu l).2 then [(fnd (fun x : Ru => x.id == c) zRu l).1] else []
def ordR (l : List Ru) : List Ru := (idsR l).flatMap (pickR l)
theorem ids_len : ∀ (l : List Ru) (a : List Int), (l.foldl adR a).length ≤ a.length + l.length
  | [], a => by simp
  | s :: l, a => by
    have h1 := ids_len l (adR a s)
    have h2 : (adR a s).length ≤ a.length + 1 := addI_len _ _
    simp only [List.foldl_cons, List.length_cons]; omega
theorem pick_le (l : List Ru) : ∀ cs : List Int, (cs.flatMap (pickR l)).length ≤ cs.length
  | [] => by simp
  | c :: cs => by
    have h := pick_le l cs
    have h2 : (pickR l c).length ≤ 1 := by unfold pickR; split <;> simp
    rw [List.flatMap_cons, List.length_append, List.length_cons]; omega
theorem nope {b : Bool} {X : Prop} (h : b = true) (g : b = false) : X := by rw [h] at g; cases g
structure QR where
  k : Nat
  b : Bool
  acc : List Dat
theorem ordered_ok (l : List Ru) (hl : l.length < 2^28) : CallsA Tryz.prog 28 [lst 10 encRu l] ct0 (lst 10 encRu (ordR l)) ct0 := by
  by_cases hl0 : l.length = 0
  · have e : l = [] := List.eq_nil_of_length_eq_zero hl0
    subst e
    refine fn_ok hm Tryz.func28 (fun _ => false) [] (fun _ => []) (by kernel_rfl) ?_
    refine run ?_
    refine LoopS.mk ⟨[], HeadS.lp (fun _ : Unit => True) (fun _ => ⟨[(5, it 0), (3, .ref 9 0)], [], [(9, ⟨1, true, []⟩)]⟩) (fun _ => 0) () trivial ?_⟩
    intro r hJ
    have b1 : decide ((0 : Int) < (([] : List Ru).map encRu).length) = false := by simp
    refine run ?_
    refine LoopS.mk ⟨[], HeadS.lp (fun _ : Unit => True) (fun _ => ⟨[(6, it 0), (4, .ref 10 0)], [], [(10, ⟨10, true, []⟩)]⟩) (fun _ => 0) () trivial ?_⟩
    intro r hJ
    refine run ?_
    exact Done.mk rfl rfl
  refine fn_ok hm Tryz.func28 (fun _ => false) [] (fun _ => []) (by kernel_rfl) ?_
  refine run ?_
  refine LoopS.mk ⟨[], HeadS.of (fun i : CJ => match i with | .raw k => k = 0 | .got k a => k ≤ l.length ∧ (l.take k).foldl adR [] = a) (fun i => match i with | .raw k => ⟨[(5, it k), (3, .ref 9 0)], [], [(9, ⟨1, true, []⟩)]⟩ | .got k a => ⟨[(5, it k), (3, ints a)], [], [(9, ⟨1, false, []⟩)]⟩) (fun i => l.length - i.k) (.raw 0) rfl ?_ ?_ ?_ ?_ ?_⟩
  · repeat' (first | exact trivial | exact rfl | refine ⟨?_, ?_⟩ | refine ⟨?_, ?_, ?_⟩)
  · kernel_rfl
  · kernel_rfl
  · exact CJ.both (fun k => ⟨rfl, rfl, rfl⟩) (fun k a => ⟨rfl, rfl, rfl⟩)
  refine CJ.both (fun k => ?_) (fun k a => ?_)
  · intro hJ
    have hJ : k = 0 := hJ
    have h2 : (l.take k).foldl adR [] = ([] : List Int) := by rw [hJ]; rfl
    by_cases hk : k < l.length
    · have b1 : decide ((k : Int) < ((l.map encRu).length : Nat)) = true := by simp; omega
      have ht := fold_take (f := adR) (z := []) hk
      have hal := ids_len (l.take k) []
      have htl : (l.take k).length ≤ l.length := by rw [List.length_take]; omega
      rw [h2] at hal ht
      have hal : ([] : List Int).length ≤ 0 + (l.take k).length := hal
      have ha := added_ok ([] : List Int) l[k].id (by omega)
      refine run ?_
      refine Idx.map hk rfl ?_
      refine run ?_; repeat ((apply call_ok; first | exact (ha)); refine run ?_)
      refine ⟨⟨.got (k + 1) (addI ([] : List Int) l[k].id), ⟨hk, ht⟩⟩, Nat.sub_lt_sub_left hk (Nat.lt_succ_self _), ?_⟩
      repeat' (first | exact trivial | exact rfl | refine ⟨?_, ?_⟩ | refine ⟨?_, ?_, ?_⟩)
    · exact absurd (by omega : l.length = 0) hl0
  · intro hJ
    have h1 : k ≤ l.length := hJ.1
    have h2 : (l.take k).foldl adR [] = a := hJ.2
    by_cases hk : k < l.length
    · have b1 : decide ((k : Int) < ((l.map encRu).length : Nat)) = true := by simp; omega
      have ht := fold_take (f := adR) (z := []) hk
      have hal := ids_len (l.take k) []
      have htl : (l.take k).length ≤ l.length := by rw [List.length_take]; omega
      rw [h2] at hal ht
      have hal : a.length ≤ 0 + (l.take k).length := hal
      have ha := added_ok a l[k].id (by omega)
      refine run ?_
      refine Idx.map hk rfl ?_
      refine run ?_; repeat ((apply call_ok; first | exact (ha)); refine run ?_)
      refine ⟨⟨.got (k + 1) (addI a l[k].id), ⟨hk, ht⟩⟩, Nat.sub_lt_sub_left hk (Nat.lt_succ_self _), ?_⟩
      repeat' (first | exact trivial | exact rfl | refine ⟨?_, ?_⟩ | refine ⟨?_, ?_, ?_⟩)
    · have b1 : decide ((k : Int) < ((l.map encRu).length : Nat)) = false := by simp; omega
      have ha : a = idsR l := by rw [← h2, List.take_of_length_le (by omega), idsR]
      have hal : a.length ≤ l.length := by rw [ha]; have := ids_len l []; simpa [idsR] using this
      refine run ?_
      refine LoopS.mk ⟨[], HeadS.lp (fun r : CR => r.k ≤ a.length ∧ r.acc = ((a.take r.k).flatMap (pickR l)).map encRu) (fun r => ⟨[(6, it r.k), (4, .ref 10 r.acc.length)], [], [(10, ⟨10, true, r.acc⟩)]⟩) (fun r => a.length - r.k) ⟨0, []⟩ ⟨Nat.zero_le _, rfl⟩ ?_⟩
      intro r hr
      have r1 := hr.1
      have r2 := hr.2
      have rle := pick_le l (a.take r.k)
      rw [List.length_take] at rle
      have rlen : r.acc.length = ((a.take r.k).flatMap (pickR l)).length := by rw [r2, List.length_map]
      by_cases gk : r.k < a.length
      · have c1 : decide ((r.k : Int) < ((a.map it).length : Nat)) = true := by simp; exact gk
        refine run ?_
        refine LoopS.mk ⟨[], HeadS.lp (fun q : QR => q.k ≤ l.length ∧ (q.b = false → q.acc = r.acc ∧ fnd (fun x : Ru => x.id == a[r.k]) zRu l = fnd (fun x : Ru => x.id == a[r.k]) zRu (l.drop q.k)) ∧ (q.b = true → q.acc = r.acc ++ (pickR l a[r.k]).map encRu)) (fun q => ⟨[(8, it q.k), (7, bo q.b), (4, .ref 10 q.acc.length)], [], [(10, ⟨10, true, q.acc⟩)]⟩) (fun q => l.length - q.k) ⟨0, false, r.acc⟩ ⟨Nat.zero_le _, fun _ => ⟨rfl, rfl⟩, fun h => by cases h⟩ ?_⟩
        intro q hq
        have q1 := hq.1
        have q2 := hq.2.1
        have q3 := hq.2.2
        by_cases jk : q.k < l.length
        · have d1 : decide ((q.k : Int) < ((l.map encRu).length : Nat)) = true := by simp; exact jk
          refine (Bool.eq_false_or_eq_true (q.b)).elim (fun d2 => ?_) (fun d2 => ?_)
          · have d3 : (!q.b) = false := by rw [d2]; rfl
            have e : q.acc = ((a.take (r.k + 1)).flatMap (pickR l)).map encRu := by rw [q3 d2, r2, fmD_take gk, List.map_append]
            refine run ?_
            refine ⟨⟨⟨r.k + 1, q.acc⟩, ⟨gk, e⟩⟩, Nat.sub_lt_sub_left gk (Nat.lt_succ_self _), ?_⟩
            repeat' (first | exact trivial | exact rfl | refine ⟨?_, ?_⟩ | refine ⟨?_, ?_, ?_⟩)
          · have d3 : (!q.b) = true := by rw [d2]; rfl
            have qa := (q2 d2).1
            have qb := (q2 d2).2
            have qlen : q.acc.length = r.acc.length := by rw [qa]
            refine (Bool.eq_false_or_eq_true (l[q.k].id == a[r.k])).elim (fun d4 => ?_) (fun d4 => ?_)
            · have e : fnd (fun x : Ru => x.id == a[r.k]) zRu l = (l[q.k], true) := qb.trans (fnd_yes jk d4)
              have e2 : q.acc ++ [encRu l[q.k]] = r.acc ++ (pickR l a[r.k]).map encRu := by rw [qa, pickR, e]; rfl
              refine run ?_
              refine Idx.map jk rfl ?_
              refine run ?_
              refine Idx.map gk rfl ?_
              refine run ?_
              refine Idx.map jk rfl ?_
              refine run ?_
              refine ⟨⟨⟨q.k + 1, l[q.k].id == a[r.k], _⟩, ⟨jk, (fun h => nope d4 h), fun _ => e2⟩⟩, Nat.sub_lt_sub_left jk (Nat.lt_succ_self _), ?_⟩
              repeat' (first | exact trivial | exact rfl | refine ⟨?_, ?_⟩ | refine ⟨?_, ?_, ?_⟩)
            · have e := qb.trans (fnd_no jk d4)
              refine run ?_
              refine Idx.map jk rfl ?_
              refine run ?_
              refine Idx.map gk rfl ?_
              refine run ?_
              refine ⟨⟨⟨q.k + 1, l[q.k].id == a[r.k], q.acc⟩, ⟨jk, (fun _ => ⟨qa, e⟩), fun h => nope h d4⟩⟩, Nat.sub_lt_sub_left jk (Nat.lt_succ_self _), ?_⟩
              repeat' (first | exact trivial | exact rfl | refine ⟨?_, ?_⟩ | refine ⟨?_, ?_, ?_⟩)
        · have d1 : decide ((q.k : Int) < ((l.map encRu).length : Nat)) = false := by simp; omega
          have e : q.acc = ((a.take (r.k + 1)).flatMap (pickR l)).map encRu := by
            rw [fmD_take gk, List.map_append, ← r2]
            cases hb : q.b with
            | true => exact q3 hb
            | false =>
              have e := (q2 hb).2.trans (fnd_end jk)
              rw [(q2 hb).1, pickR, e]; simp
          refine run ?_
          refine ⟨⟨⟨r.k + 1, q.acc⟩, ⟨gk, e⟩⟩, Nat.sub_lt_sub_left gk (Nat.lt_succ_self _), ?_⟩
          repeat' (first | exact trivial | exact rfl | refine ⟨?_, ?_⟩ | refine ⟨?_, ?_, ?_⟩)
      have c1 : decide ((r.k : Int) < ((a.map it).length : Nat)) = false := by simp; omega
      have e : r.acc = (ordR l).map encRu := by rw [r2, List.take_of_length_le (by omega), ha, ordR]
      refine run ?_
      exact Done.mk (congrArg (fun x => Dat.sl 10 x false) e) rfl
end Abs
namespace Abs
open Go Go.Proofs
set_option maxRecDepth 100000
set_option maxHeartbeats 4000000
def lessP (x y : Pa) : Bool := decide (x.a < y.a) || (x.a == y.a && decide (x.b < y.b))
theorem less_ok (x y : Pa) : CallsA Tryz.prog 154 [encPa x, encPa y] ct0 (bo (lessP x y)) ct0 := by
  refine (Bool.eq_false_or_eq_true (decide (x.a < y.a))).elim (fun c1 => ?_) (fun c1 => ?_)
  · have e : lessP x y = true := by unfold lessP; rw [c1]; rfl
    rw [e]
    refine fn_ok hm Tryz.func154 (fun _ => false) [] (fun _ => []) (by kernel_rfl) ?_
    refine run ?_
    exact Done.mk rfl rfl
  · refine (Bool.eq_false_or_eq_true (x.a == y.a)).elim (fun c2 => ?_) (fun c2 => ?_)
    · have e : lessP x y = decide (x.b < y.b) := by unfold lessP; rw [c1, c2]; rfl
      rw [e]
      refine fn_ok hm Tryz.func154 (fun _ => false) [] (fun _ => []) (by kernel_rfl) ?_
      refine run ?_
      exact Done.mk rfl rfl
    · have e : lessP x y = false := by unfold lessP; rw [c1, c2]; rfl
      rw [e]
      refine fn_ok hm Tryz.func154 (fun _ => false) [] (fun _ => []) (by kernel_rfl) ?_
      refine run ?_
      exact Done.mk rfl rfl
def wpL (l : List Pa) (X : Pa) : List Pa := (l.takeWhile fun x => lessP x X) ++ [X] ++ l.filter fun x => lessP X x
theorem withPair_ok (l : List Pa) (a b : Int) (X : Pa) (hX : X = ⟨a, b, 0⟩) (hl : l.length < 2^28) : CallsA Tryz.prog 114 [lst 3 encPa l, it a, it b] ct0 (lst 3 encPa (wpL l X)) ct0 := by
  refine fn_ok hm Tryz.func114 (fun _ => false) [] (fun _ => []) (by kernel_rfl) ?_
  refine run ?_
  refine LoopS.mk ⟨[], HeadS.lp (fun r : CR => r.k ≤ l.length ∧ r.acc = (l.take r.k).map encPa ∧ (l.takeWhile fun x => lessP x X) = l.take r.k ++ (l.drop r.k).takeWhile fun x => lessP x X) (fun r => ⟨[(9, it r.k), (8, .ref 14 r.acc.length)], [], [(14, ⟨3, true, r.acc⟩)]⟩) (fun r => l.length - r.k) ⟨0, []⟩ ⟨Nat.zero_le _, by simp, by simp⟩ ?_⟩
  intro r hJ
  have h1 := hJ.1
  have h2 := hJ.2.1
  have h3 := hJ.2.2
  by_cases hk : r.k < l.length
  · have b1 : decide ((r.k : Int) < ((l.map encPa).length : Nat)) = true := by simp; exact hk
    have ch : CallsA Tryz.prog 154 [encPa l[r.k], encPa ⟨a, b, 0⟩] ct0 (bo (lessP l[r.k] X)) ct0 := by rw [← hX]; exact less_ok l[r.k] X
    refine (Bool.eq_false_or_eq_true (lessP l[r.k] X)).elim (fun b2 => ?_) (fun b2 => ?_)
    · have hN : r.acc ++ [encPa l[r.k]] = (l.take (r.k + 1)).map encPa := by rw [h2, take_one hk, List.map_append]; rfl
      have hT : (l.takeWhile fun x => lessP x X) = l.take (r.k + 1) ++ (l.drop (r.k + 1)).takeWhile fun x => lessP x X := by
        rw [h3, tw_yes hk b2, take_one hk, List.append_assoc]; rfl
      have hlen : r.acc.length = r.k := by rw [h2, List.length_map, List.length_take]; omega
      refine run ?_
      refine Idx.map hk rfl ?_
      refine run ?_; repeat ((apply call_ok; first | exact (ch)); refine run ?_)
      refine Idx.map hk rfl ?_
      refine run ?_
      refine ⟨⟨⟨r.k + 1, _⟩, ⟨hk, hN, hT⟩⟩, Nat.sub_lt_sub_left hk (Nat.lt_succ_self _), ?_⟩
      repeat' (first | exact trivial | exact rfl | refine ⟨?_, ?_⟩ | refine ⟨?_, ?_, ?_⟩)
    · have hA : r.acc = (l.takeWhile fun x => lessP x X).map encPa := by rw [h3, tw_no hk b2, h2]; simp
      have hlen1 : r.acc.length ≤ l.length := by rw [hA, List.length_map]; exact (List.takeWhile_sublist _).length_le
      refine run ?_
      refine Idx.map hk rfl ?_
      refine run ?_; repeat ((apply call_ok; first | exact (ch)); refine run ?_)
      refine run ?_
      refine LoopS.mk ⟨[], HeadS.lp (fun q : CR => q.k ≤ l.length ∧ q.acc = (r.acc ++ [encPa ⟨a, b, 0⟩]) ++ ((l.take q.k).filter fun x => lessP X x).map encPa) (fun q => ⟨[(10, it q.k), (8, .ref 14 q.acc.length)], [], [(14, ⟨3, true, q.acc⟩)]⟩) (fun q => l.length - q.k) ⟨0, r.acc ++ [encPa ⟨a, b, 0⟩]⟩ ⟨Nat.zero_le _, by simp⟩ ?_⟩
      intro q hq
      have g1 := hq.1
      have g2 := hq.2
      have hle := flt_le (p := fun x => lessP X x) (l := l) q.k
      have glen : q.acc.length = r.acc.length + 1 + ((l.take q.k).filter fun x => lessP X x).length := by rw [g2]; simp; omega
      by_cases gk : q.k < l.length
      · have c1 : decide ((q.k : Int) < ((l.map encPa).length : Nat)) = true := by simp; exact gk
        have cg : CallsA Tryz.prog 154 [encPa ⟨a, b, 0⟩, encPa l[q.k]] ct0 (bo (lessP X l[q.k])) ct0 := by rw [← hX]; exact less_ok X l[q.k]
        refine (Bool.eq_false_or_eq_true (lessP X l[q.k])).elim (fun c2 => ?_) (fun c2 => ?_)
        · have gN : q.acc ++ [encPa l[q.k]] = (r.acc ++ [encPa ⟨a, b, 0⟩]) ++ ((l.take (q.k + 1)).filter fun x => lessP X x).map encPa := by rw [g2, flt_yes gk c2, List.map_append, ← List.append_assoc]; rfl
          refine run ?_
          refine Idx.map gk rfl ?_
          refine run ?_; repeat ((apply call_ok; first | exact (cg)); refine run ?_)
          refine Idx.map gk rfl ?_
          refine run ?_
          refine ⟨⟨⟨q.k + 1, _⟩, ⟨gk, gN⟩⟩, Nat.sub_lt_sub_left gk (Nat.lt_succ_self _), ?_⟩
          repeat' (first | exact trivial | exact rfl | refine ⟨?_, ?_⟩ | refine ⟨?_, ?_, ?_⟩)
        · have gN : q.acc = (r.acc ++ [encPa ⟨a, b, 0⟩]) ++ ((l.take (q.k + 1)).filter fun x => lessP X x).map encPa := by rw [g2, flt_no gk c2]
          refine run ?_
          refine Idx.map gk rfl ?_
          refine run ?_; repeat ((apply call_ok; first | exact (cg)); refine run ?_)
          refine ⟨⟨⟨q.k + 1, _⟩, ⟨gk, gN⟩⟩, Nat.sub_lt_sub_left gk (Nat.lt_succ_self _), ?_⟩
          repeat' (first | exact trivial | exact rfl | refine ⟨?_, ?_⟩ | refine ⟨?_, ?_, ?_⟩)
      · have c1 : decide ((q.k : Int) < ((l.map encPa).length : Nat)) = false := by simp; omega
        have e : q.acc = (wpL l X).map encPa := by rw [g2, hA, List.take_of_length_le (by omega), ← hX]; simp [wpL]
        refine run ?_
        exact Done.mk (congrArg (fun x => Dat.sl 3 x false) e) rfl
  have b1 : decide ((r.k : Int) < ((l.map encPa).length : Nat)) = false := by simp; omega
  have hA : r.acc = (l.takeWhile fun x => lessP x X).map encPa := by rw [h3, List.drop_eq_nil_of_le (by omega), h2]; simp
  have hlen1 : r.acc.length ≤ l.length := by rw [hA, List.length_map]; exact (List.takeWhile_sublist _).length_le
  refine run ?_
  refine LoopS.mk ⟨[], HeadS.lp (fun q : CR => q.k ≤ l.length ∧ q.acc = (r.acc ++ [encPa ⟨a, b, 0⟩]) ++ ((l.take q.k).filter fun x => lessP X x).map encPa) (fun q => ⟨[(10, it q.k), (8, .ref 14 q.acc.length)], [], [(14, ⟨3, true, q.acc⟩)]⟩) (fun q => l.length - q.k) ⟨0, r.acc ++ [encPa ⟨a, b, 0⟩]⟩ ⟨Nat.zero_le _, by simp⟩ ?_⟩
  intro q hq
  have g1 := hq.1
  have g2 := hq.2
  have hle := flt_le (p := fun x => lessP X x) (l := l) q.k
  have glen : q.acc.length = r.acc.length + 1 + ((l.take q.k).filter fun x => lessP X x).length := by rw [g2]; simp; omega
  by_cases gk : q.k < l.length
  · have c1 : decide ((q.k : Int) < ((l.map encPa).length : Nat)) = true := by simp; exact gk
    have cg : CallsA Tryz.prog 154 [encPa ⟨a, b, 0⟩, encPa l[q.k]] ct0 (bo (lessP X l[q.k])) ct0 := by rw [← hX]; exact less_ok X l[q.k]
    refine (Bool.eq_false_or_eq_true (lessP X l[q.k])).elim (fun c2 => ?_) (fun c2 => ?_)
    · have gN : q.acc ++ [encPa l[q.k]] = (r.acc ++ [encPa ⟨a, b, 0⟩]) ++ ((l.take (q.k + 1)).filter fun x => lessP X x).map encPa := by rw [g2, flt_yes gk c2, List.map_append, ← List.append_assoc]; rfl
      refine run ?_
      refine Idx.map gk rfl ?_
      refine run ?_; repeat ((apply call_ok; first | exact (cg)); refine run ?_)
      refine Idx.map gk rfl ?_
      refine run ?_
      refine ⟨⟨⟨q.k + 1, _⟩, ⟨gk, gN⟩⟩, Nat.sub_lt_sub_left gk (Nat.lt_succ_self _), ?_⟩
      repeat' (first | exact trivial | exact rfl | refine ⟨?_, ?_⟩ | refine ⟨?_, ?_, ?_⟩)
    · have gN : q.acc = (r.acc ++ [encPa ⟨a, b, 0⟩]) ++ ((l.take (q.k + 1)).filter fun x => lessP X x).map encPa := by rw [g2, flt_no gk c2]
      refine run ?_
      refine Idx.map gk rfl ?_
      refine run ?_; repeat ((apply call_ok; first | exact (cg)); refine run ?_)
      refine ⟨⟨⟨q.k + 1, _⟩, ⟨gk, gN⟩⟩, Nat.sub_lt_sub_left gk (Nat.lt_succ_self _), ?_⟩
      repeat' (first | exact trivial | exact rfl | refine ⟨?_, ?_⟩ | refine ⟨?_, ?_, ?_⟩)
  · have c1 : decide ((q.k : Int) < ((l.map encPa).length : Nat)) = false := by simp; omega
    have e : q.acc = (wpL l X).map encPa := by rw [g2, hA, List.take_of_length_le (by omega), ← hX]; simp [wpL]
    refine run ?_
    exact Done.mk (congrArg (fun x => Dat.sl 3 x false) e) rfl
end Abs
namespace Abs
open Go Go.Proofs
set_option maxRecDepth 100000
set_option maxHeartbeats 4000000
def absI (a : Int) : Int := if 0 - a > a then 0 - a else a
theorem abs_ok (a : Int) (h : -(2^40) < a ∧ a < 2^40) : CallsA Tryz.prog 153 [it a] ct0 (it (absI a)) ct0 := by
  have h1 := h.1
  have h2 := h.2
  refine fn_ok hm Tryz.func153 (fun _ => false) [] (fun _ => []) (by kernel_rfl) ?_
  refine run ?_
  exact Done.mk rfl rfl
def encAb (lo hi m r mask : Int) : Dat := .agg [it lo, it hi, it m, it r, it mask]
def stepI (lo hi m : Int) : Int := if lo == hi then 0 else m
theorem step_ok (lo hi m r mask : Int) : CallsA Tryz.prog 152 [encAb lo hi m r mask] ct0 (it (stepI lo hi m)) ct0 := by
  unfold stepI
  refine (Bool.eq_false_or_eq_true (lo == hi)).elim (fun b => ?_) (fun b => ?_)
  · rw [if_pos b]
    refine fn_ok hm Tryz.func152 (fun _ => false) [] (fun _ => []) (by kernel_rfl) ?_
    refine run ?_
    exact Done.mk rfl rfl
  · rw [if_neg (by rw [b]; simp)]
    refine fn_ok hm Tryz.func152 (fun _ => false) [] (fun _ => []) (by kernel_rfl) ?_
    refine run ?_
    exact Done.mk rfl rfl
def modI (a m : Int) : Int := (a.tmod m + m).tmod m
theorem mod_ok (a m : Int) (h : 0 < m ∧ m < 2^40) : CallsA Tryz.prog 167 [it a, it m] ct0 (it (modI a m)) ct0 := by
  have h1 := h.1
  have h2 := h.2
  have t1 : a.tmod m < m := Int.tmod_lt_of_pos _ h1
  have t2 : -m < a.tmod m := Int.lt_tmod_of_pos _ h1
  have hz : m ≠ 0 := by omega
  refine fn_ok hm Tryz.func167 (fun _ => false) [] (fun _ => []) (by kernel_rfl) ?_
  refine run ?_
  exact Done.mk rfl rfl
def gcdI (a b : Int) : Int := (Nat.gcd a.toNat b.toNat : Nat)
structure GI where
  x : Int
  y : Int
theorem gcd_step {x y : Int} (hx : 0 ≤ x) (hy : 0 < y) : Nat.gcd y.toNat (x.tmod y).toNat = Nat.gcd x.toNat y.toNat := by
  obtain ⟨a, rfl⟩ := Int.eq_ofNat_of_zero_le hx
  obtain ⟨b, rfl⟩ := Int.eq_ofNat_of_zero_le (Int.le_of_lt hy)
  have e : ((a : Int).tmod (b : Int)).toNat = a % b := rfl
  rw [e]
  show Nat.gcd b (a % b) = Nat.gcd a b
  rw [Nat.gcd_comm b, ← Nat.gcd_rec, Nat.gcd_comm]
theorem gcd_ok (a b : Int) (ha : 0 ≤ a) (hb : 0 ≤ b) : CallsA Tryz.prog 151 [it a, it b] ct0 (it (gcdI a b)) ct0 := by
  refine fn_ok hm Tryz.func151 (fun _ => false) [] (fun _ => []) (by kernel_rfl) ?_
  refine run ?_
  refine LoopS.mk ⟨[], HeadS.lp (fun r : GI => 0 ≤ r.x ∧ 0 ≤ r.y ∧ Nat.gcd r.x.toNat r.y.toNat = Nat.gcd a.toNat b.toNat) (fun r => ⟨[(0, it r.x), (1, it r.y)], [], []⟩) (fun r => r.y.toNat) ⟨a, b⟩ ⟨ha, hb, rfl⟩ ?_⟩
  intro r hJ
  have h1 := hJ.1
  have h2 := hJ.2.1
  have h3 := hJ.2.2
  by_cases hk : r.y = 0
  · have b1 : (!(r.y == 0)) = false := by rw [hk]; rfl
    have e : r.x = gcdI a b := by rw [gcdI, ← h3, hk]; simp; omega
    refine run ?_
    exact Done.mk (congrArg it e) rfl
  · have b1 : (!(r.y == 0)) = true := by simp; exact hk
    have hp : 0 < r.y := by omega
    have g := gcd_step h1 hp
    have t1 : r.x.tmod r.y < r.y := Int.tmod_lt_of_pos _ hp
    have t2 : 0 ≤ r.x.tmod r.y := Int.tmod_nonneg _ h1
    have hm' : (r.x.tmod r.y).toNat < r.y.toNat := by omega
    refine run ?_
    refine ⟨⟨⟨r.y, r.x.tmod r.y⟩, ⟨h2, t2, g.trans h3⟩⟩, hm', ?_⟩
    repeat' (first | exact trivial | exact rfl | refine ⟨?_, ?_⟩ | refine ⟨?_, ?_, ?_⟩)
end Abs
namespace Abs
open Go Go.Proofs
set_option maxRecDepth 100000
set_option maxHeartbeats 4000000
theorem quo_bd {d m : Int} (hd : 0 ≤ d) (h2 : d < 2^30) (hm : 0 < m) : IntKind.i64.wrap (d.tdiv m) * m ≤ d ∧ 0 ≤ IntKind.i64.wrap (d.tdiv m) * m := by
  have e : d.tdiv m = d / m := Int.tdiv_eq_ediv_of_nonneg hd
  have h0 : 0 ≤ d / m := Int.ediv_nonneg hd (by omega)
  have h1 : d / m * m ≤ d := Int.ediv_mul_le d (by omega)
  have h3 : d / m ≤ d := Int.ediv_le_self m hd
  rw [e, wrap_i64 (by omega) (by omega)]
  exact ⟨h1, Int.mul_nonneg h0 (by omega)⟩
def hiR (lo hi m : Int) : Int := lo + IntKind.i64.wrap ((hi - lo).tdiv m) * m
def byD (lo hi m mask : Int) : Dat :=
  if decide (m > 0) then (if lo == hiR lo hi m then encAb lo lo 1 0 mask else encAb lo (hiR lo hi m) m (modI lo m) mask)
  else encAb lo lo 1 0 mask
theorem by_ok (lo hi m mask : Int) (h1 : -(2^20) < lo) (h2 : lo ≤ hi) (h3 : hi < 2^20) (h4 : 0 ≤ m ∧ m < 2^40) (h5 : m = 0 → lo = hi) : CallsA Tryz.prog 125 [it lo, it hi, it m, it mask] ct0 (byD lo hi m mask) ct0 := by
  unfold byD
  refine (Bool.eq_false_or_eq_true (decide (m > 0))).elim (fun b1 => ?_) (fun b1 => ?_)
  · have hm0 : 0 < m := of_decide_eq_true b1
    have q := quo_bd (d := hi - lo) (m := m) (by omega) (by omega) hm0
    have q1 := q.1
    have q2 := q.2
    have hz : m ≠ 0 := by omega
    have c := mod_ok lo m ⟨hm0, h4.2⟩
    rw [if_pos b1]
    refine (Bool.eq_false_or_eq_true (lo == hiR lo hi m)).elim (fun b2 => ?_) (fun b2 => ?_)
    · have b3 : (lo == lo + IntKind.i64.wrap ((hi - lo).tdiv m) * m) = true := b2
      rw [if_pos b2]
      refine fn_ok hm Tryz.func125 (fun _ => false) [] (fun _ => []) (by kernel_rfl) ?_
      refine run ?_; repeat ((apply call_ok; first | exact (c)); refine run ?_)
      exact Done.mk rfl rfl
    · have b3 : (lo == lo + IntKind.i64.wrap ((hi - lo).tdiv m) * m) = false := b2
      rw [if_neg (by rw [b2]; simp)]
      refine fn_ok hm Tryz.func125 (fun _ => false) [] (fun _ => []) (by kernel_rfl) ?_
      refine run ?_; repeat ((apply call_ok; first | exact (c)); refine run ?_)
      exact Done.mk rfl rfl
  · have e : lo = hi := h5 (by have := of_decide_eq_false b1; omega)
    have b2 : (lo == hi) = true := by rw [e]; simp
    rw [if_neg (by rw [b1]; simp)]
    refine fn_ok hm Tryz.func125 (fun _ => false) [] (fun _ => []) (by kernel_rfl) ?_
    refine run ?_
    exact Done.mk rfl rfl
theorem of_ok (v mask : Int) (h : -(2^20) < v ∧ v < 2^20) : CallsA Tryz.prog 113 [.agg [it v, it mask]] ct0 (encAb v v 1 0 mask) ct0 := by
  have c : CallsA Tryz.prog 125 [it v, it v, it 0, it mask] ct0 (encAb v v 1 0 mask) ct0 := by_ok v v 0 mask h.1 (Int.le_refl _) h.2 ⟨Int.le_refl _, by omega⟩ (fun _ => rfl)
  refine fn_ok hm Tryz.func113 (fun _ => false) [] (fun _ => []) (by kernel_rfl) ?_
  refine run ?_; repeat ((apply call_ok; first | exact (c)); refine run ?_)
  exact Done.mk rfl rfl
theorem or_zero {k : Int} (h : 0 ≤ k ∧ k < 4) : (((BitVec.ofInt IntKind.i64.bits k ||| BitVec.ofInt IntKind.i64.bits 0).toNat : Nat) : Int) = k := by
  have : k = 0 ∨ k = 1 ∨ k = 2 ∨ k = 3 := by omega
  rcases this with rfl | rfl | rfl | rfl <;> decide
theorem join_ok (v w k : Int) (h1 : -(2^19) < v) (h2 : v ≤ w) (h3 : w < 2^19) (hk : 0 ≤ k ∧ k < 4) : CallsA Tryz.prog 112 [encAb v v 1 0 k, encAb w w 1 0 0] ct0 (byD v w (w - v) k) ct0 := by
  have s1 : CallsA Tryz.prog 152 [encAb v v 1 0 k] ct0 (it 0) ct0 := by
    have := step_ok v v 1 0 k
    rwa [show stepI v v 1 = 0 by simp [stepI]] at this
  have s2 : CallsA Tryz.prog 152 [encAb w w 1 0 0] ct0 (it 0) ct0 := by
    have := step_ok w w 1 0 0
    rwa [show stepI w w 1 = 0 by simp [stepI]] at this
  have g1 : CallsA Tryz.prog 151 [it 0, it 0] ct0 (it 0) ct0 := gcd_ok 0 0 (by omega) (by omega)
  have a1 : CallsA Tryz.prog 153 [it (v - w)] ct0 (it (w - v)) ct0 := by
    have := abs_ok (v - w) ⟨by omega, by omega⟩
    rwa [show absI (v - w) = w - v by unfold absI; split <;> omega] at this
  have g2 : CallsA Tryz.prog 151 [it 0, it (w - v)] ct0 (it (w - v)) ct0 := by
    have := gcd_ok 0 (w - v) (by omega) (by omega)
    rwa [show gcdI 0 (w - v) = w - v by simp [gcdI]; omega] at this
  have o := or_zero hk
  have b := by_ok v w (w - v) k (by omega) h2 (by omega) ⟨by omega, by omega⟩ (fun _ => by omega)
  have m1 : (if w < v then w else v) = v := if_neg (by omega)
  have m2 : (if w > v then w else v) = w := by split <;> omega
  have b' : CallsA Tryz.prog 125 [it (if w < v then w else v), it (if w > v then w else v), it (w - v), it k] ct0 (byD v w (w - v) k) ct0 := by rw [m1, m2]; exact b
  have hR : ∃ R, R = byD v w (w - v) k := ⟨_, rfl⟩
  refine hR.elim fun R hR => ?_
  have hRs : ∃ x1 x2 x3 x4, R = encAb x1 x2 x3 x4 k := by
    rw [hR]; unfold byD; split
    · split <;> exact ⟨_, _, _, _, rfl⟩
    · exact ⟨_, _, _, _, rfl⟩
  refine hRs.elim fun x1 h => h.elim fun x2 h => h.elim fun x3 h => h.elim fun x4 h => ?_
  rw [← hR, h] at b' ⊢
  refine fn_ok hm Tryz.func112 (fun _ => false) [] (fun _ => []) (by kernel_rfl) ?_
  refine run ?_; repeat ((apply call_ok; first | exact (s1) | exact (s2) | exact (g1) | exact (a1) | exact (g2) | exact (b')); refine run ?_)
  exact Done.mk rfl rfl
end Abs
namespace Abs
open Go Go.Proofs
set_option maxRecDepth 100000
set_option maxHeartbeats 4000000
def u16 (n : Int) : Dat := .int .u16 n
structure N8 where
  a : Int
  b : Int
  c : Int
  d : Int
  e : Int
  f : Int
  g : Int
  h : Int
def encN8 (n : N8) : Dat := .agg [u16 n.a, u16 n.b, u16 n.c, u16 n.d, u16 n.e, u16 n.f, u16 n.g, u16 n.h]
structure N8Ok (n : N8) : Prop where
  a : 0 ≤ n.a ∧ n.a < 65536
  b : 0 ≤ n.b ∧ n.b < 65536
  c : 0 ≤ n.c ∧ n.c < 65536
  d : 0 ≤ n.d ∧ n.d < 65536
  e : 0 ≤ n.e ∧ n.e < 65536
  f : 0 ≤ n.f ∧ n.f < 65536
  g : 0 ≤ n.g ∧ n.g < 65536
  h : 0 ≤ n.h ∧ n.h < 65536
theorem and7 (x : Int) : (((BitVec.ofInt IntKind.i64.bits x &&& BitVec.ofInt IntKind.i64.bits 7).toNat : Nat) : Int) ≤ 7 ∧ 0 ≤ (((BitVec.ofInt IntKind.i64.bits x &&& BitVec.ofInt IntKind.i64.bits 7).toNat : Nat) : Int) := by
  refine ⟨?_, Int.natCast_nonneg _⟩
  have h : (BitVec.ofInt IntKind.i64.bits x &&& BitVec.ofInt IntKind.i64.bits 7).toNat ≤ (BitVec.ofInt IntKind.i64.bits 7).toNat := by rw [BitVec.toNat_and]; exact Nat.and_le_right
  have h2 : (BitVec.ofInt IntKind.i64.bits 7).toNat = 7 := by decide
  omega
theorem u64_nn (x : Int) : 0 ≤ IntKind.u64.wrap x := by
  simp [IntKind.wrap, IntKind.bits, IntKind.signed]; omega
def bitP (h : Int) (k j : Nat) : Bool := IntKind.u16.wrap (((BitVec.ofInt IntKind.u16.bits (h.fdiv (2 ^ min (IntKind.u64.wrap ((3 * (k : Int) + (j : Int)).tmod 16)).toNat IntKind.u16.bits)) &&& BitVec.ofInt IntKind.u16.bits 1).toNat : Nat) : Int) == 1
def stP (h : Int) (a : Nat) (ps : List Pa) (b : Nat) : List Pa := if (!decide ((a : Int) = (b : Int))) && bitP h a b then wpL ps ⟨a, b, 0⟩ else ps
def rwP (h : Int) (ps : List Pa) (a : Nat) : List Pa := (List.range 3).foldl (stP h a) ps
def allP (h : Int) : List Pa := (List.range 3).foldl (rwP h) []
theorem wpL_len (l : List Pa) (X : Pa) : (wpL l X).length ≤ l.length + 1 := by
  have := tf_len (p := fun x => lessP x X) (q := fun x => lessP X x) (fun x h => by simp [lessP] at h ⊢; omega) l
  simp only [wpL, List.length_append, List.length_singleton]; omega
inductive PJ where
  | raw (k : Nat)
  | got (k : Nat) (ps : List Pa)
theorem PJ.both {P : PJ → Prop} (a : ∀ k, P (.raw k)) (b : ∀ k a, P (.got k a)) : ∀ i, P i
  | .raw k => a k
  | .got k x => b k x
def PJ.k : PJ → Nat
  | .raw k => k
  | .got k _ => k
theorem stP_len (h : Int) (a : Nat) (ps : List Pa) (b : Nat) : (stP h a ps b).length ≤ ps.length + 1 := by
  unfold stP; split
  · exact wpL_len _ _
  · omega
theorem rwP_len (h : Int) (a : Nat) (ps : List Pa) : ∀ j, ((List.range j).foldl (stP h a) ps).length ≤ ps.length + j
  | 0 => by simp
  | j + 1 => by rw [range_fold]; have := rwP_len h a ps j; have := stP_len h a ((List.range j).foldl (stP h a) ps) j; omega
theorem allP_le (h : Int) : ∀ k, ((List.range k).foldl (rwP h) []).length ≤ 3 * k
  | 0 => by simp
  | k + 1 => by rw [range_fold]; have := allP_le h k; have := rwP_len h k ((List.range k).foldl (rwP h) []) 3; unfold rwP at *; omega
theorem allP_len (h : Int) : (allP h).length ≤ 9 := allP_le h 3
theorem some_ok (p : Pg) (id : Int) (n : N8) (hn : N8Ok n) (hL : p.d.locks = 3) (hP : p.d.parts = 3)   : ∃ s : Sy, s.id = id ∧ s.pairs.length ≤ 9 ∧ CallsA Tryz.prog 68 [encP p, it id, encN8 n] ct0 (encSy s) ct0 := by
  have ha := hn.a
  have hb := hn.b
  have hc := hn.c
  have hd := hn.d
  have he := hn.e
  have hf := hn.f
  have hg := hn.g
  have t1 := tm_bd ha.1 40 (by omega)
  have t2 := tm_bd hb.1 4 (by omega)
  have t3 := tm_bd hc.1 30 (by omega)
  have t4 := tm_bd hd.1 8 (by omega)
  have o1 := of_ok (n.a.tmod 40 - 20) (n.b.tmod 4) ⟨by omega, by omega⟩
  have o2 := of_ok (n.a.tmod 40 - 20 + n.c.tmod 30) 0 ⟨by omega, by omega⟩
  have j := join_ok (n.a.tmod 40 - 20) (n.a.tmod 40 - 20 + n.c.tmod 30) (n.b.tmod 4) (by omega) (by omega) (by omega) t2
  have hRs : ∃ x1 x2 x3 x4, byD (n.a.tmod 40 - 20) (n.a.tmod 40 - 20 + n.c.tmod 30) (n.a.tmod 40 - 20 + n.c.tmod 30 - (n.a.tmod 40 - 20)) (n.b.tmod 4) = encAb x1 x2 x3 x4 (n.b.tmod 4) := by
    unfold byD; split
    · split <;> exact ⟨_, _, _, _, rfl⟩
    · exact ⟨_, _, _, _, rfl⟩
  refine hRs.elim fun x1 h => h.elim fun x2 h => h.elim fun x3 h => h.elim fun x4 h => ?_
  rw [h] at j
  have s0 : IntKind.u64.wrap p.d.locks = 3 := by rw [hL]; decide
  have z0 : 0 ≤ IntKind.u64.wrap p.d.locks := by omega
  have s1 : IntKind.i64.wrap (1 * 2 ^ (min (IntKind.u64.wrap p.d.locks).toNat IntKind.i64.bits)) - 1 = 7 := by rw [s0]; decide
  have s2 : IntKind.u64.wrap p.d.parts = 3 := by rw [hP]; decide
  have z2 : 0 ≤ IntKind.u64.wrap p.d.parts := by omega
  have s3 : IntKind.i64.wrap (1 * 2 ^ (min (IntKind.u64.wrap p.d.parts).toNat IntKind.i64.bits)) - 1 = 7 := by rw [s2]; decide
  have e1 := (and7 n.e).1
  have e2 := (and7 n.e).2
  have f1 := (and7 n.f).1
  have f2 := (and7 n.f).2
  have hAll : ∃ S, S = allP n.h := ⟨_, rfl⟩
  refine hAll.elim fun S hS => ?_
  by_cases hSl : S.length ≤ 9
  rotate_left
  · exact absurd (by rw [hS]; exact allP_len n.h) hSl
  refine ⟨⟨id, x1, x2, x3, x4, n.b.tmod 4, IntKind.i64.wrap (n.d.tmod 8 * 2 ^ min (1 : Int).toNat IntKind.i64.bits), (((BitVec.ofInt IntKind.i64.bits n.e &&& BitVec.ofInt IntKind.i64.bits 7).toNat : Nat) : Int), (((BitVec.ofInt IntKind.i64.bits n.f &&& BitVec.ofInt IntKind.i64.bits 7).toNat : Nat) : Int), S, n.g⟩, rfl, hSl, ?_⟩
  refine fn_ok hm Tryz.func68 (fun _ => false) [] (fun _ => []) (by kernel_rfl) ?_
  refine run ?_; repeat ((apply call_ok; first | exact (o1) | exact (o2) | exact (j)); refine run ?_)
  refine Idx.at rfl (Int.natCast_nonneg _) rfl ?_
  refine run ?_; repeat ((apply call_ok; first | exact (o1) | exact (o2) | exact (j)); refine run ?_)
  refine Idx.at rfl (Int.natCast_nonneg _) rfl ?_
  refine run ?_; repeat ((apply call_ok; first | exact (o1) | exact (o2) | exact (j)); refine run ?_)
  refine Idx.at rfl (Int.natCast_nonneg _) rfl ?_
  refine run ?_; repeat ((apply call_ok; first | exact (o1) | exact (o2) | exact (j)); refine run ?_)
  refine Idx.at rfl (Int.natCast_nonneg _) rfl ?_
  refine run ?_; repeat ((apply call_ok; first | exact (o1) | exact (o2) | exact (j)); refine run ?_)
  refine Idx.at rfl (Int.natCast_nonneg _) rfl ?_
  refine run ?_; repeat ((apply call_ok; first | exact (o1) | exact (o2) | exact (j)); refine run ?_)
  refine Arith.mk ?_
  refine run ?_; repeat ((apply call_ok; first | exact (o1) | exact (o2) | exact (j)); refine run ?_)
  refine Idx.at rfl (Int.natCast_nonneg _) rfl ?_
  refine run ?_; repeat ((apply call_ok; first | exact (o1) | exact (o2) | exact (j)); refine run ?_)
  refine Arith.mk ?_
  refine run ?_; repeat ((apply call_ok; first | exact (o1) | exact (o2) | exact (j)); refine run ?_)
  refine Idx.at rfl (Int.natCast_nonneg _) rfl ?_
  refine run ?_; repeat ((apply call_ok; first | exact (o1) | exact (o2) | exact (j)); refine run ?_)
  refine LoopS.mk ⟨[], HeadS.of (fun i : PJ => match i with | .raw k => k ≤ 3 ∧ (List.range k).foldl (rwP n.h) [] = [] | .got k ps => k ≤ 3 ∧ (List.range k).foldl (rwP n.h) [] = ps) (fun i => match i with | .raw k => ⟨[(9, it k)], [(8, .agg [it id, it x1, it x2, it x3, it x4, it (n.b.tmod 4), it (IntKind.i64.wrap (n.d.tmod 8 * 2 ^ min (1 : Int).toNat IntKind.i64.bits)), it (((BitVec.ofInt IntKind.i64.bits n.e &&& BitVec.ofInt IntKind.i64.bits 7).toNat : Nat) : Int), it (((BitVec.ofInt IntKind.i64.bits n.f &&& BitVec.ofInt IntKind.i64.bits 7).toNat : Nat) : Int), .sl 3 [] true, it n.g])], []⟩ | .got k ps => ⟨[(9, it k)], [(8, .agg [it id, it x1, it x2, it x3, it x4, it (n.b.tmod 4), it (IntKind.i64.wrap (n.d.tmod 8 * 2 ^ min (1 : Int).toNat IntKind.i64.bits)), it (((BitVec.ofInt IntKind.i64.bits n.e &&& BitVec.ofInt IntKind.i64.bits 7).toNat : Nat) : Int), it (((BitVec.ofInt IntKind.i64.bits n.f &&& BitVec.ofInt IntKind.i64.bits 7).toNat : Nat) : Int), lst 3 encPa ps, it n.g])], []⟩) (fun i => 3 - i.k) (.raw 0) ⟨Nat.zero_le _, rfl⟩ ?_ ?_ ?_ ?_ ?_⟩
  · repeat' (first | exact trivial | exact rfl | refine ⟨?_, ?_⟩ | refine ⟨?_, ?_, ?_⟩)
  · kernel_rfl
  · kernel_rfl
  · exact PJ.both (fun k => ⟨rfl, rfl, rfl⟩) (fun k a => ⟨rfl, rfl, rfl⟩)
  refine PJ.both (fun k => ?_) (fun k ps => ?_)
  · intro hJ
    have h1 : k ≤ 3 := hJ.1
    have h2 : (List.range k).foldl (rwP n.h) [] = ([] : List Pa) := hJ.2
    have hpl := allP_le n.h k
    rw [h2] at hpl
    by_cases hk : k < 3
    · have b1 : decide ((k : Int) < p.d.locks) = true := by rw [hL]; simp; omega
      refine run ?_
      refine LoopS.mk ⟨[], HeadS.of (fun i : PJ => match i with | .raw j => j ≤ 3 ∧ (List.range j).foldl (stP n.h k) ([] : List Pa) = [] | .got j qs => j ≤ 3 ∧ (List.range j).foldl (stP n.h k) ([] : List Pa) = qs) (fun i => match i with | .raw j => ⟨[(10, it j)], [(8, .agg [it id, it x1, it x2, it x3, it x4, it (n.b.tmod 4), it (IntKind.i64.wrap (n.d.tmod 8 * 2 ^ min (1 : Int).toNat IntKind.i64.bits)), it (((BitVec.ofInt IntKind.i64.bits n.e &&& BitVec.ofInt IntKind.i64.bits 7).toNat : Nat) : Int), it (((BitVec.ofInt IntKind.i64.bits n.f &&& BitVec.ofInt IntKind.i64.bits 7).toNat : Nat) : Int), .sl 3 [] true, it n.g])], []⟩ | .got j ps => ⟨[(10, it j)], [(8, .agg [it id, it x1, it x2, it x3, it x4, it (n.b.tmod 4), it (IntKind.i64.wrap (n.d.tmod 8 * 2 ^ min (1 : Int).toNat IntKind.i64.bits)), it (((BitVec.ofInt IntKind.i64.bits n.e &&& BitVec.ofInt IntKind.i64.bits 7).toNat : Nat) : Int), it (((BitVec.ofInt IntKind.i64.bits n.f &&& BitVec.ofInt IntKind.i64.bits 7).toNat : Nat) : Int), lst 3 encPa ps, it n.g])], []⟩) (fun i => 3 - i.k) (.raw 0) ⟨Nat.zero_le _, rfl⟩ ?_ ?_ ?_ ?_ ?_⟩
      · repeat' (first | exact trivial | exact rfl | refine ⟨?_, ?_⟩ | refine ⟨?_, ?_, ?_⟩)
      · kernel_rfl
      · kernel_rfl
      · exact PJ.both (fun k => ⟨rfl, rfl, rfl⟩) (fun k a => ⟨rfl, rfl, rfl⟩)
      refine PJ.both (fun j => ?_) (fun j qs => ?_)
      · intro hq
        have q1 : j ≤ 3 := hq.1
        have q2 : (List.range j).foldl (stP n.h k) ([] : List Pa) = ([] : List Pa) := hq.2
        have ql := rwP_len n.h k ([] : List Pa) j
        rw [q2] at ql
        by_cases g3 : j < 3
        · have d1 : decide ((j : Int) < p.d.locks) = true := by rw [hL]; simp; omega
          have z := u64_nn ((3 * (k : Int) + (j : Int)).tmod 16)
          have hst : (List.range (j + 1)).foldl (stP n.h k) ([] : List Pa) = stP n.h k ([] : List Pa) j := by rw [range_fold, q2]
          have w := withPair_ok ([] : List Pa) k j ⟨k, j, 0⟩ rfl (by omega)
          refine (Bool.eq_false_or_eq_true (!decide ((k : Int) = (j : Int)))).elim (fun d2 => ?_) (fun d2 => ?_)
          · refine (Bool.eq_false_or_eq_true (bitP n.h k j)).elim (fun d3 => ?_) (fun d3 => ?_)
            · have hb : (IntKind.u16.wrap (((BitVec.ofInt IntKind.u16.bits (n.h.fdiv (2 ^ min (IntKind.u64.wrap ((3 * (k : Int) + (j : Int)).tmod 16)).toNat IntKind.u16.bits)) &&& BitVec.ofInt IntKind.u16.bits 1).toNat : Nat) : Int) == 1) = true := d3
              have e : stP n.h k ([] : List Pa) j = wpL ([] : List Pa) ⟨k, j, 0⟩ := if_pos (by rw [d2, d3]; rfl)
              refine run ?_
              refine Idx.at rfl (Int.natCast_nonneg _) rfl ?_
              refine run ?_
              refine Arith.mk ?_
              refine run ?_
              refine Arith.mk ?_
              refine run ?_; repeat ((apply call_ok; first | exact (w)); refine run ?_)
              refine ⟨⟨.got (j + 1) (wpL ([] : List Pa) ⟨k, j, 0⟩), ⟨g3, hst.trans e⟩⟩, Nat.sub_lt_sub_left g3 (Nat.lt_succ_self _), ?_⟩
              repeat' (first | exact trivial | exact rfl | refine ⟨?_, ?_⟩ | refine ⟨?_, ?_, ?_⟩)
            · have hb : (IntKind.u16.wrap (((BitVec.ofInt IntKind.u16.bits (n.h.fdiv (2 ^ min (IntKind.u64.wrap ((3 * (k : Int) + (j : Int)).tmod 16)).toNat IntKind.u16.bits)) &&& BitVec.ofInt IntKind.u16.bits 1).toNat : Nat) : Int) == 1) = false := d3
              have e : stP n.h k ([] : List Pa) j = ([] : List Pa) := if_neg (by rw [d2, d3]; simp)
              refine run ?_
              refine Idx.at rfl (Int.natCast_nonneg _) rfl ?_
              refine run ?_
              refine Arith.mk ?_
              refine run ?_
              refine Arith.mk ?_
              refine run ?_; repeat ((apply call_ok; first | exact (w)); refine run ?_)
              refine ⟨⟨.raw (j + 1), ⟨g3, hst.trans e⟩⟩, Nat.sub_lt_sub_left g3 (Nat.lt_succ_self _), ?_⟩
              repeat' (first | exact trivial | exact rfl | refine ⟨?_, ?_⟩ | refine ⟨?_, ?_, ?_⟩)
          · have e : stP n.h k ([] : List Pa) j = ([] : List Pa) := if_neg (by rw [d2]; simp)
            refine run ?_
            refine ⟨⟨.raw (j + 1), ⟨g3, hst.trans e⟩⟩, Nat.sub_lt_sub_left g3 (Nat.lt_succ_self _), ?_⟩
            repeat' (first | exact trivial | exact rfl | refine ⟨?_, ?_⟩ | refine ⟨?_, ?_, ?_⟩)
        · have d1 : decide ((j : Int) < p.d.locks) = false := by rw [hL]; simp; omega
          have e : (List.range (k + 1)).foldl (rwP n.h) [] = ([] : List Pa) := by rw [range_fold, h2]; rw [show j = 3 by omega] at q2; exact q2
          refine run ?_
          refine ⟨⟨.raw (k + 1), ⟨hk, e⟩⟩, Nat.sub_lt_sub_left hk (Nat.lt_succ_self _), ?_⟩
          repeat' (first | exact trivial | exact rfl | refine ⟨?_, ?_⟩ | refine ⟨?_, ?_, ?_⟩)
      · intro hq
        have q1 : j ≤ 3 := hq.1
        have q2 : (List.range j).foldl (stP n.h k) ([] : List Pa) = qs := hq.2
        have ql := rwP_len n.h k ([] : List Pa) j
        rw [q2] at ql
        by_cases g3 : j < 3
        · have d1 : decide ((j : Int) < p.d.locks) = true := by rw [hL]; simp; omega
          have z := u64_nn ((3 * (k : Int) + (j : Int)).tmod 16)
          have hst : (List.range (j + 1)).foldl (stP n.h k) ([] : List Pa) = stP n.h k qs j := by rw [range_fold, q2]
          have w := withPair_ok qs k j ⟨k, j, 0⟩ rfl (by omega)
          refine (Bool.eq_false_or_eq_true (!decide ((k : Int) = (j : Int)))).elim (fun d2 => ?_) (fun d2 => ?_)
          · refine (Bool.eq_false_or_eq_true (bitP n.h k j)).elim (fun d3 => ?_) (fun d3 => ?_)
            · have hb : (IntKind.u16.wrap (((BitVec.ofInt IntKind.u16.bits (n.h.fdiv (2 ^ min (IntKind.u64.wrap ((3 * (k : Int) + (j : Int)).tmod 16)).toNat IntKind.u16.bits)) &&& BitVec.ofInt IntKind.u16.bits 1).toNat : Nat) : Int) == 1) = true := d3
              have e : stP n.h k qs j = wpL qs ⟨k, j, 0⟩ := if_pos (by rw [d2, d3]; rfl)
              refine run ?_
              refine Idx.at rfl (Int.natCast_nonneg _) rfl ?_
              refine run ?_
              refine Arith.mk ?_
              refine run ?_
              refine Arith.mk ?_
              refine run ?_; repeat ((apply call_ok; first | exact (w)); refine run ?_)
              refine ⟨⟨.got (j + 1) (wpL qs ⟨k, j, 0⟩), ⟨g3, hst.trans e⟩⟩, Nat.sub_lt_sub_left g3 (Nat.lt_succ_self _), ?_⟩
              repeat' (first | exact trivial | exact rfl | refine ⟨?_, ?_⟩ | refine ⟨?_, ?_, ?_⟩)
            · have hb : (IntKind.u16.wrap (((BitVec.ofInt IntKind.u16.bits (n.h.fdiv (2 ^ min (IntKind.u64.wrap ((3 * (k : Int) + (j : Int)).tmod 16)).toNat IntKind.u16.bits)) &&& BitVec.ofInt IntKind.u16.bits 1).toNat : Nat) : Int) == 1) = false := d3
              have e : stP n.h k qs j = qs := if_neg (by rw [d2, d3]; simp)
              refine run ?_
              refine Idx.at rfl (Int.natCast_nonneg _) rfl ?_
              refine run ?_
              refine Arith.mk ?_
              refine run ?_
              refine Arith.mk ?_
              refine run ?_; repeat ((apply call_ok; first | exact (w)); refine run ?_)
              refine ⟨⟨.got (j + 1) qs, ⟨g3, hst.trans e⟩⟩, Nat.sub_lt_sub_left g3 (Nat.lt_succ_self _), ?_⟩
              repeat' (first | exact trivial | exact rfl | refine ⟨?_, ?_⟩ | refine ⟨?_, ?_, ?_⟩)
          · have e : stP n.h k qs j = qs := if_neg (by rw [d2]; simp)
            refine run ?_
            refine ⟨⟨.got (j + 1) qs, ⟨g3, hst.trans e⟩⟩, Nat.sub_lt_sub_left g3 (Nat.lt_succ_self _), ?_⟩
            repeat' (first | exact trivial | exact rfl | refine ⟨?_, ?_⟩ | refine ⟨?_, ?_, ?_⟩)
        · have d1 : decide ((j : Int) < p.d.locks) = false := by rw [hL]; simp; omega
          have e : (List.range (k + 1)).foldl (rwP n.h) [] = qs := by rw [range_fold, h2]; rw [show j = 3 by omega] at q2; exact q2
          refine run ?_
          refine ⟨⟨.got (k + 1) qs, ⟨hk, e⟩⟩, Nat.sub_lt_sub_left hk (Nat.lt_succ_self _), ?_⟩
          repeat' (first | exact trivial | exact rfl | refine ⟨?_, ?_⟩ | refine ⟨?_, ?_, ?_⟩)
    · have b1 : decide ((k : Int) < p.d.locks) = false := by rw [hL]; simp; omega
      have e : ([] : List Pa) = S := by rw [hS, ← h2, show k = 3 by omega]; rfl
      refine run ?_
      exact Done.mk (congrArg (fun x => Dat.agg [it id, it x1, it x2, it x3, it x4, it (n.b.tmod 4), it (IntKind.i64.wrap (n.d.tmod 8 * 2 ^ min (1 : Int).toNat IntKind.i64.bits)), it (((BitVec.ofInt IntKind.i64.bits n.e &&& BitVec.ofInt IntKind.i64.bits 7).toNat : Nat) : Int), it (((BitVec.ofInt IntKind.i64.bits n.f &&& BitVec.ofInt IntKind.i64.bits 7).toNat : Nat) : Int), lst 3 encPa x, it n.g]) e) rfl
  · intro hJ
    have h1 : k ≤ 3 := hJ.1
    have h2 : (List.range k).foldl (rwP n.h) [] = ps := hJ.2
    have hpl := allP_le n.h k
    rw [h2] at hpl
    by_cases hk : k < 3
    · have b1 : decide ((k : Int) < p.d.locks) = true := by rw [hL]; simp; omega
      refine run ?_
      refine LoopS.mk ⟨[], HeadS.of (fun i : PJ => match i with | .raw j => False | .got j qs => j ≤ 3 ∧ (List.range j).foldl (stP n.h k) ps = qs) (fun i => match i with | .raw j => ⟨[(10, it j)], [(8, .agg [it id, it x1, it x2, it x3, it x4, it (n.b.tmod 4), it (IntKind.i64.wrap (n.d.tmod 8 * 2 ^ min (1 : Int).toNat IntKind.i64.bits)), it (((BitVec.ofInt IntKind.i64.bits n.e &&& BitVec.ofInt IntKind.i64.bits 7).toNat : Nat) : Int), it (((BitVec.ofInt IntKind.i64.bits n.f &&& BitVec.ofInt IntKind.i64.bits 7).toNat : Nat) : Int), .sl 3 [] true, it n.g])], []⟩ | .got j ps => ⟨[(10, it j)], [(8, .agg [it id, it x1, it x2, it x3, it x4, it (n.b.tmod 4), it (IntKind.i64.wrap (n.d.tmod 8 * 2 ^ min (1 : Int).toNat IntKind.i64.bits)), it (((BitVec.ofInt IntKind.i64.bits n.e &&& BitVec.ofInt IntKind.i64.bits 7).toNat : Nat) : Int), it (((BitVec.ofInt IntKind.i64.bits n.f &&& BitVec.ofInt IntKind.i64.bits 7).toNat : Nat) : Int), lst 3 encPa ps, it n.g])], []⟩) (fun i => 3 - i.k) (.got 0 ps) ⟨Nat.zero_le _, rfl⟩ ?_ ?_ ?_ ?_ ?_⟩
      · repeat' (first | exact trivial | exact rfl | refine ⟨?_, ?_⟩ | refine ⟨?_, ?_, ?_⟩)
      · kernel_rfl
      · kernel_rfl
      · exact PJ.both (fun k => ⟨rfl, rfl, rfl⟩) (fun k a => ⟨rfl, rfl, rfl⟩)
      refine PJ.both (fun j => ?_) (fun j qs => ?_)
      · intro hq; exact hq.elim
      · intro hq
        have q1 : j ≤ 3 := hq.1
        have q2 : (List.range j).foldl (stP n.h k) ps = qs := hq.2
        have ql := rwP_len n.h k ps j
        rw [q2] at ql
        by_cases g3 : j < 3
        · have d1 : decide ((j : Int) < p.d.locks) = true := by rw [hL]; simp; omega
          have z := u64_nn ((3 * (k : Int) + (j : Int)).tmod 16)
          have hst : (List.range (j + 1)).foldl (stP n.h k) ps = stP n.h k qs j := by rw [range_fold, q2]
          have w := withPair_ok qs k j ⟨k, j, 0⟩ rfl (by omega)
          refine (Bool.eq_false_or_eq_true (!decide ((k : Int) = (j : Int)))).elim (fun d2 => ?_) (fun d2 => ?_)
          · refine (Bool.eq_false_or_eq_true (bitP n.h k j)).elim (fun d3 => ?_) (fun d3 => ?_)
            · have hb : (IntKind.u16.wrap (((BitVec.ofInt IntKind.u16.bits (n.h.fdiv (2 ^ min (IntKind.u64.wrap ((3 * (k : Int) + (j : Int)).tmod 16)).toNat IntKind.u16.bits)) &&& BitVec.ofInt IntKind.u16.bits 1).toNat : Nat) : Int) == 1) = true := d3
              have e : stP n.h k qs j = wpL qs ⟨k, j, 0⟩ := if_pos (by rw [d2, d3]; rfl)
              refine run ?_
              refine Idx.at rfl (Int.natCast_nonneg _) rfl ?_
              refine run ?_
              refine Arith.mk ?_
              refine run ?_
              refine Arith.mk ?_
              refine run ?_; repeat ((apply call_ok; first | exact (w)); refine run ?_)
              refine ⟨⟨.got (j + 1) (wpL qs ⟨k, j, 0⟩), ⟨g3, hst.trans e⟩⟩, Nat.sub_lt_sub_left g3 (Nat.lt_succ_self _), ?_⟩
              repeat' (first | exact trivial | exact rfl | refine ⟨?_, ?_⟩ | refine ⟨?_, ?_, ?_⟩)
            · have hb : (IntKind.u16.wrap (((BitVec.ofInt IntKind.u16.bits (n.h.fdiv (2 ^ min (IntKind.u64.wrap ((3 * (k : Int) + (j : Int)).tmod 16)).toNat IntKind.u16.bits)) &&& BitVec.ofInt IntKind.u16.bits 1).toNat : Nat) : Int) == 1) = false := d3
              have e : stP n.h k qs j = qs := if_neg (by rw [d2, d3]; simp)
              refine run ?_
              refine Idx.at rfl (Int.natCast_nonneg _) rfl ?_
              refine run ?_
              refine Arith.mk ?_
              refine run ?_
              refine Arith.mk ?_
              refine run ?_; repeat ((apply call_ok; first | exact (w)); refine run ?_)
              refine ⟨⟨.got (j + 1) qs, ⟨g3, hst.trans e⟩⟩, Nat.sub_lt_sub_left g3 (Nat.lt_succ_self _), ?_⟩
              repeat' (first | exact trivial | exact rfl | refine ⟨?_, ?_⟩ | refine ⟨?_, ?_, ?_⟩)
          · have e : stP n.h k qs j = qs := if_neg (by rw [d2]; simp)
            refine run ?_
            refine ⟨⟨.got (j + 1) qs, ⟨g3, hst.trans e⟩⟩, Nat.sub_lt_sub_left g3 (Nat.lt_succ_self _), ?_⟩
            repeat' (first | exact trivial | exact rfl | refine ⟨?_, ?_⟩ | refine ⟨?_, ?_, ?_⟩)
        · have d1 : decide ((j : Int) < p.d.locks) = false := by rw [hL]; simp; omega
          have e : (List.range (k + 1)).foldl (rwP n.h) [] = qs := by rw [range_fold, h2]; rw [show j = 3 by omega] at q2; exact q2
          refine run ?_
          refine ⟨⟨.got (k + 1) qs, ⟨hk, e⟩⟩, Nat.sub_lt_sub_left hk (Nat.lt_succ_self _), ?_⟩
          repeat' (first | exact trivial | exact rfl | refine ⟨?_, ?_⟩ | refine ⟨?_, ?_, ?_⟩)
    · have b1 : decide ((k : Int) < p.d.locks) = false := by rw [hL]; simp; omega
      have e : ps = S := by rw [hS, ← h2, show k = 3 by omega]; rfl
      refine run ?_
      exact Done.mk (congrArg (fun x => Dat.agg [it id, it x1, it x2, it x3, it x4, it (n.b.tmod 4), it (IntKind.i64.wrap (n.d.tmod 8 * 2 ^ min (1 : Int).toNat IntKind.i64.bits)), it (((BitVec.ofInt IntKind.i64.bits n.e &&& BitVec.ofInt IntKind.i64.bits 7).toNat : Nat) : Int), it (((BitVec.ofInt IntKind.i64.bits n.f &&& BitVec.ofInt IntKind.i64.bits 7).toNat : Nat) : Int), lst 3 encPa x, it n.g]) e) rfl
end Abs
namespace Abs
open Go Go.Proofs
set_option maxRecDepth 100000
set_option maxHeartbeats 4000000
def sitesD (d : Df) : List Int := (fL d.body).map (·.site) ++ [d.site]
theorem sitesOf_ok (d : Df) (h : szL d.body < 2^30) : CallsA Tryz.prog 72 [encD d] ct0 (ints (sitesD d)) ct0 := by
  have hf := flat_ok _ d.body (Nat.lt_succ_self _) h
  have hfl := fL_len d.body
  have hL : ∃ L, L = fL d.body := ⟨_, rfl⟩
  refine hL.elim fun L hL => ?_
  rw [← hL] at hf hfl
  have hs : sitesD d = L.map (·.site) ++ [d.site] := by rw [hL]; rfl
  refine fn_ok hm Tryz.func72 (fun _ => false) [] (fun _ => []) (by kernel_rfl) ?_
  refine run ?_; repeat ((apply call_ok; first | exact (hf)); refine run ?_)
  refine LoopS.mk ⟨[], HeadS.lp (fun r : CR => r.k ≤ L.length ∧ r.acc = ((L.take r.k).map (·.site)).map it) (fun r => ⟨[(5, it r.k), (4, .ref 9 r.acc.length)], [], [(9, ⟨1, true, r.acc⟩)]⟩) (fun r => L.length - r.k) ⟨0, []⟩ ⟨Nat.zero_le _, rfl⟩ ?_⟩
  intro r hJ
  have h1 := hJ.1
  have h2 := hJ.2
  have hlen : r.acc.length = r.k := by rw [h2, List.length_map, List.length_map, List.length_take]; omega
  by_cases hk : r.k < L.length
  · have b1 : decide ((r.k : Int) < ((L.map encS).length : Nat)) = true := by simp; exact hk
    have hN : r.acc ++ [it L[r.k].site] = ((L.take (r.k + 1)).map (·.site)).map it := by rw [h2, map_take hk, List.map_append]; rfl
    refine run ?_
    refine Idx.map hk rfl ?_
    refine run ?_
    refine ⟨⟨⟨r.k + 1, _⟩, ⟨hk, hN⟩⟩, Nat.sub_lt_sub_left hk (Nat.lt_succ_self _), ?_⟩
    repeat' (first | exact trivial | exact rfl | refine ⟨?_, ?_⟩ | refine ⟨?_, ?_, ?_⟩)
  · have b1 : decide ((r.k : Int) < ((L.map encS).length : Nat)) = false := by simp; omega
    have e : r.acc ++ [it d.site] = (sitesD d).map it := by rw [h2, List.take_of_length_le (by omega), hs, List.map_append]; rfl
    refine run ?_
    exact Done.mk (congrArg (fun x => Dat.sl 1 x false) e) rfl
def hasI (l : List Int) (n : Int) : Bool := (fnd (fun x => x == n) 0 l).2
def calledB (p : Pg) (id : Int) : Bool := (p.defs.any fun d => hasI (rcalls d.body) id) || hasI p.threads id
theorem called_ok (p : Pg) (id : Int) (hs : ∀ d ∈ p.defs, szL d.body < 2^30) (hd : p.defs.length < 2^30) (ht : p.threads.length < 2^30) : CallsA Tryz.prog 70 [encP p, it id] ct0 (bo (calledB p id)) ct0 := by
  have ct : CallsA Tryz.prog 21 [ints p.threads, it id] ct0 (bo (hasI p.threads id)) ct0 := refHas_ok p.threads id (by omega)
  refine fn_ok hm Tryz.func70 (fun _ => false) [] (fun _ => []) (by kernel_rfl) ?_
  refine run ?_
  refine LoopS.mk ⟨[], HeadS.lp (fun k : Nat => k ≤ p.defs.length ∧ (p.defs.any fun d => hasI (rcalls d.body) id) = ((p.defs.drop k).any fun d => hasI (rcalls d.body) id)) (fun k => ⟨[(5, it k)], [], []⟩) (fun k => p.defs.length - k) 0 ⟨Nat.zero_le _, rfl⟩ ?_⟩
  intro k hJ
  have h1 := hJ.1
  have h2 := hJ.2
  by_cases hk : k < p.defs.length
  · have b1 : decide ((k : Int) < ((p.defs.map encD).length : Nat)) = true := by simp; exact hk
    have hz := hs p.defs[k] (List.getElem_mem hk)
    have c1 := refCalls_ok p.defs[k] hz
    have hrl := rcalls_len p.defs[k].body
    have c2 : CallsA Tryz.prog 21 [ints (rcalls p.defs[k].body), it id] ct0 (bo (hasI (rcalls p.defs[k].body) id)) ct0 := refHas_ok _ id (by omega)
    have hdr : ((p.defs.drop k).any fun d => hasI (rcalls d.body) id) = (hasI (rcalls p.defs[k].body) id || (p.defs.drop (k+1)).any fun d => hasI (rcalls d.body) id) := by
      rw [List.drop_eq_getElem_cons hk, List.any_cons]
    refine (Bool.eq_false_or_eq_true (hasI (rcalls p.defs[k].body) id)).elim (fun d1 => ?_) (fun d1 => ?_)
    · have e : true = calledB p id := by unfold calledB; rw [h2, hdr, d1]; rfl
      refine run ?_
      refine Idx.map hk rfl ?_
      refine run ?_; repeat ((apply call_ok; first | exact (c1) | exact (c2)); refine run ?_)
      exact Done.mk (congrArg Dat.bool e) rfl
    · have hN : (p.defs.any fun d => hasI (rcalls d.body) id) = ((p.defs.drop (k+1)).any fun d => hasI (rcalls d.body) id) := by rw [h2, hdr, d1]; rfl
      refine run ?_
      refine Idx.map hk rfl ?_
      refine run ?_; repeat ((apply call_ok; first | exact (c1) | exact (c2)); refine run ?_)
      refine ⟨⟨k + 1, ⟨hk, hN⟩⟩, Nat.sub_lt_sub_left hk (Nat.lt_succ_self _), ?_⟩
      repeat' (first | exact trivial | exact rfl | refine ⟨?_, ?_⟩ | refine ⟨?_, ?_, ?_⟩)
  · have b1 : decide ((k : Int) < ((p.defs.map encD).length : Nat)) = false := by simp; omega
    have e : hasI p.threads id = calledB p id := by unfold calledB; rw [h2, List.drop_eq_nil_of_le (by omega)]; rfl
    refine run ?_; repeat ((apply call_ok; first | exact (ct)); refine run ?_)
    exact Done.mk (congrArg Dat.bool e) rfl
def rowDif (l : List Int) (i : Nat) : Bool := !((l.take i).any fun y => l.getD i 0 == y)
def diffB (l : List Int) : Bool := (List.range l.length).all (rowDif l)
theorem anyI_take {l : List Int} {p : Int → Bool} {k : Nat} (h : k < l.length) : (l.take (k+1)).any p = ((l.take k).any p || p l[k]) := by
  rw [take_one h, List.any_append]; simp
theorem different_ok (l : List Int) (hl : l.length < 2^30) : CallsA Tryz.prog 71 [ints l] ct0 (bo (diffB l)) ct0 := by
  refine fn_ok hm Tryz.func71 (fun _ => false) [] (fun _ => []) (by kernel_rfl) ?_
  refine run ?_
  refine LoopS.mk ⟨[], HeadS.lp (fun k : Nat => k ≤ l.length ∧ (List.range k).all (rowDif l) = true) (fun k => ⟨[(3, it k)], [], []⟩) (fun k => l.length - k) 0 ⟨Nat.zero_le _, rfl⟩ ?_⟩
  intro k hJ
  have h1 := hJ.1
  have h2 := hJ.2
  by_cases hk : k < l.length
  · have b1 : decide ((k : Int) < ((l.map it).length : Nat)) = true := by simp; exact hk
    have hg : l.getD k 0 = l[k] := by simp [hk]
    refine run ?_
    refine LoopS.mk ⟨[], HeadS.lp (fun j : Nat => j ≤ k ∧ ((l.take j).any fun y => l[k] == y) = false) (fun j => ⟨[(4, it j)], [], []⟩) (fun j => k - j) 0 ⟨Nat.zero_le _, rfl⟩ ?_⟩
    intro j hq
    have q1 := hq.1
    have q2 := hq.2
    by_cases gk : j < k
    · have jl : j < l.length := by omega
      have d1 : decide ((j : Int) < (k : Int)) = true := by simp; exact gk
      refine (Bool.eq_false_or_eq_true (l[k] == l[j])).elim (fun d2 => ?_) (fun d2 => ?_)
      · have hrow : rowDif l k = false := by
          unfold rowDif; rw [hg]
          have : ((l.take k).any fun y => l[k] == y) = true := List.any_eq_true.2 ⟨l[j], List.mem_take_iff_getElem.2 ⟨j, by omega, rfl⟩, d2⟩
          rw [this]; rfl
        have e : false = diffB l := by
          unfold diffB
          exact (List.all_eq_false.2 ⟨k, List.mem_range.2 hk, by rw [hrow]; simp⟩).symm
        refine run ?_
        refine Idx.map hk rfl ?_
        refine run ?_
        refine Idx.map jl rfl ?_
        refine run ?_
        exact Done.mk (congrArg Dat.bool e) rfl
      · have hN : ((l.take (j + 1)).any fun y => l[k] == y) = false := by rw [anyI_take jl, q2, d2]; rfl
        refine run ?_
        refine Idx.map hk rfl ?_
        refine run ?_
        refine Idx.map jl rfl ?_
        refine run ?_
        refine ⟨⟨j + 1, ⟨gk, hN⟩⟩, Nat.sub_lt_sub_left gk (Nat.lt_succ_self _), ?_⟩
        repeat' (first | exact trivial | exact rfl | refine ⟨?_, ?_⟩ | refine ⟨?_, ?_, ?_⟩)
    · have d1 : decide ((j : Int) < (k : Int)) = false := by simp; omega
      have hN : (List.range (k + 1)).all (rowDif l) = true := by
        rw [List.range_succ, List.all_append, h2]
        simp only [Bool.true_and, List.all_cons, List.all_nil, Bool.and_true]
        unfold rowDif; rw [hg]
        have hkj : j = k := by omega
        rw [hkj] at q2
        rw [q2]; rfl
      refine run ?_
      refine ⟨⟨k + 1, ⟨hk, hN⟩⟩, Nat.sub_lt_sub_left hk (Nat.lt_succ_self _), ?_⟩
      repeat' (first | exact trivial | exact rfl | refine ⟨?_, ?_⟩ | refine ⟨?_, ?_, ?_⟩)
  · have b1 : decide ((k : Int) < ((l.map it).length : Nat)) = false := by simp; omega
    have e : true = diffB l := by unfold diffB; rw [← h2, show k = l.length by omega]
    refine run ?_
    exact Done.mk (congrArg Dat.bool e) rfl
end Abs
namespace Abs
open Go Go.Proofs
set_option maxRecDepth 100000
set_option maxHeartbeats 4000000
def bE : Nat → Nat
  | 0 => 4
  | n + 1 => 4 + 2 * bE n
theorem bE_ge : ∀ n, 4 ≤ bE n
  | 0 => Nat.le_refl _
  | n + 1 => by simp only [bE]; omega
theorem wNum (v : Int) : (wE (eNum v)).length = 4 := by simp [eNum, wE, wEs]
theorem wVar (v : Int) : (wE (eVar v)).length = 4 := by simp [eVar, wE, wEs]
theorem wOne (o n v : Int) : (wE (.mk o n v [])).length = 4 := by simp [wE, wEs]
theorem wBin (o : Int) (a b : Ex) : (wE (eBin o a b)).length = 4 + (wE a).length + (wE b).length := by simp [eBin, wE, wEs]; omega
theorem wZE : (wE zE).length = 4 := by simp [zE, wE, wEs]
theorem wZC : (wC zC).length = 3 := by simp [zC, wC, wCs, wl]
theorem wTest (o : Int) (a b : Ex) : (wC (cTest o a b)).length = 3 + (wE a).length + (wE b).length := by simp [cTest, wC, wCs, wl]; omega
theorem wNot (a : Co) : (wC (cNot a)).length = 3 + (wC a).length := by simp [cNot, wC, wCs, wl]; omega
theorem wAnd (o : Int) (a b : Co) : (wC (.mk o [] [a, b])).length = 3 + (wC a).length + (wC b).length := by simp [wC, wCs, wl]; omega
theorem Mk.expr_sz (m : Mk) : ∀ n a, (wE (m.expr n a).1).length ≤ bE n
  | 0, a => by rw [Mk.expr]; simp only [wNum, bE]; omega
  | n+1, a => by
    have h1 := Mk.expr_sz m n (a+1+1)
    have h2 := Mk.expr_sz m n (m.expr n (a+1+1)).2
    have h3 := bE_ge n
    rw [Mk.expr]
    repeat' split
    all_goals (simp only [wNum, wVar, wOne, wBin, bE]; omega)
def bC : Nat → Nat
  | 0 => 27
  | n + 1 => 3 + 2 * bC n
theorem bC_ge : ∀ n, 27 ≤ bC n
  | 0 => Nat.le_refl _
  | n + 1 => by have := bC_ge n; simp only [bC]; omega
theorem Mk.cond_sz (m : Mk) : ∀ n a, (wC (m.cond n a).1).length ≤ bC n
  | 0, a => by
    have h1 := m.expr_sz 1 (a+1)
    have h2 := m.expr_sz 1 (m.expr 1 (a+1)).2
    simp only [bE] at h1 h2
    rw [Mk.cond]; simp only [wTest, bC]; omega
  | n+1, a => by
    have h1 := m.expr_sz 1 (a+1)
    have h2 := m.expr_sz 1 (m.expr 1 (a+1)).2
    have h3 := Mk.cond_sz m n (a+1)
    have h4 := Mk.cond_sz m n ((m.cond n (a+1)).2+1)
    have h5 := bC_ge n
    simp only [bE] at h1 h2
    rw [Mk.cond]
    repeat' split
    all_goals (simp only [wTest, wNot, wAnd, bC]; omega)
def W (l : List Sm) : Nat := (l.flatMap wS).length
theorem W_nil : W [] = 0 := rfl
theorem W_cons (s : Sm) (l : List Sm) : W (s :: l) = (wS s).length + W l := by simp [W]
theorem W_app (a b : List Sm) : W (a ++ b) = W a + W b := by simp [W]
theorem wS0 (site op n m v : Int) (x y : Ex) (c : Co) : (wS (S0 site op n m v x y c)).length = 9 + (wE x).length + (wE y).length + (wC c).length := by
  rw [wS_len]; simp [S0, Sm.x, Sm.y, Sm.c, Sm.args, Sm.ptrs, Sm.body, Sm.els, wl]; omega
theorem wSB (site op n m v : Int) (x y : Ex) (c : Co) (b e : List Sm) : (wS (.mk site op n m v x y c [] [] b e)).length = 9 + (wE x).length + (wE y).length + (wC c).length + W b + W e := by
  rw [wS_len]; simp [Sm.x, Sm.y, Sm.c, Sm.args, Sm.ptrs, Sm.body, Sm.els, wl, W]; omega
theorem wSC (site op n m v : Int) (x y : Ex) (c : Co) (es : List Ex) (ps : List Int) : (wS (.mk site op n m v x y c es ps [] [])).length = 9 + (wE x).length + (wE y).length + (wC c).length + (es.flatMap wE).length + ps.length := by
  have e : ∀ l : List Int, (l.flatMap wI).length = l.length := fun l => by
    induction l with
    | nil => rfl
    | cons x l ih => rw [List.flatMap_cons, List.length_append, ih, List.length_cons]; show 1 + _ = _; omega
  rw [wS_len]; simp only [Sm.x, Sm.y, Sm.c, Sm.args, Sm.ptrs, Sm.body, Sm.els, wl_len, e, List.flatMap_nil, List.length_nil]; omega
theorem Mk.simple_sz (m : Mk) (a s : Nat) : W (m.simple a s).1 ≤ 366 := by
  have h1 := m.expr_sz 1 (a+1)
  have h2 := m.expr_sz 2 (a+1+1)
  simp only [bE] at h1 h2
  unfold Mk.simple
  repeat' split
  all_goals (simp only [W_cons, W_nil, wS0, wNum, wZE, wZC]; omega)
theorem Mk.risky_sz (m : Mk) (a s : Nat) : (wS (m.risky a s).1).length ≤ 366 := by
  have h1 := m.expr_sz 1 (a+1)
  have h2 := m.expr_sz 1 (a+1+1)
  have h3 := m.expr_sz 1 (a+1+1+1)
  have h4 := m.expr_sz 1 (m.expr 1 (a+1+1)).2
  have h5 := m.cond_sz 1 (a+1)
  simp only [bE, bC] at h1 h2 h3 h4 h5
  have key : (fun z : Sm × Nat × Nat => (wS z.1).length ≤ 366) (m.risky a s) := by
    unfold Mk.risky
    repeat' refine ite_p (P := fun z : Sm × Nat × Nat => (wS z.1).length ≤ 366) ?_ ?_
    all_goals (dsimp only; rw [wS0]; simp only [wZE, wZC]; omega)
  exact key
theorem Mk.args_sz (m : Mk) (a : Nat) : ∀ i, ((m.args a i).1.flatMap wE).length ≤ 12 * i
  | 0 => by simp [Mk.args]
  | i + 1 => by
    have h1 := Mk.args_sz m a i
    have h2 := m.expr_sz 1 (m.args a i).2
    simp only [bE] at h2
    simp only [Mk.args, List.flatMap_append, List.length_append, List.flatMap_cons, List.flatMap_nil, List.length_nil]; omega
theorem Mk.ptrs_len (m : Mk) (a : Nat) : ∀ i, (m.ptrs a i).length = i
  | 0 => rfl
  | i + 1 => by simp only [Mk.ptrs, List.length_append, Mk.ptrs_len m a i]; rfl
theorem Mk.hd_small (m : Mk) (hh : ∀ h ∈ m.heads, h.params.length ≤ 12 ∧ h.given.length ≤ 12) (a : Nat) : (m.hd a).params.length ≤ 12 ∧ (m.hd a).given.length ≤ 12 := by
  unfold Mk.hd
  rw [List.getD_eq_getElem?_getD]
  cases h : m.heads[(m.nx a m.nH).toNat]? with
  | none => simp [zH]
  | some x => exact hh x (List.mem_of_getElem? h)
theorem Mk.call_sz (m : Mk) (hh : ∀ h ∈ m.heads, h.params.length ≤ 12 ∧ h.given.length ≤ 12) (a s d : Nat) : (wS (m.call a s d).1).length ≤ 366 := by
  have h1 := m.hd_small hh (a+1)
  have h2 := m.args_sz (a+1+1) (m.hd (a+1)).params.length
  have h3 := m.ptrs_len (m.args (a+1+1) (m.hd (a+1)).params.length).2 (m.hd (a+1)).given.length
  unfold Mk.call
  split
  · simp only [wS0, wNum, wZE, wZC]; omega
  · simp only [wSC, wZE, wZC, h3]; omega
theorem Mk.other_sz (m : Mk) (hh : ∀ h ∈ m.heads, h.params.length ≤ 12 ∧ h.given.length ≤ 12) (k : Int) (dep : Nat) (x : Ms) : W (m.other k dep x).1 ≤ 366 := by
  have h1 := m.call_sz hh x.a x.s x.d
  have h2 := m.expr_sz 1 x.a
  have h3 := m.simple_sz x.a x.s
  have h4 := m.risky_sz x.a x.s
  simp only [bE] at h2
  unfold Mk.other
  repeat' split
  all_goals (simp only [W_cons, W_nil, wS0, wZE, wZC]; omega)
theorem Mk.nested_sz (m : Mk) (R : Nat → Ms → List Sm × Ms) (B : Nat) (hR : ∀ n, n ≤ 2 → ∀ x, W (R n x).1 ≤ B) (k : Int) (x : Ms) : (wS (m.nested R k x).1).length ≤ 74 + 2 * B := by
  have c := m.cond_sz 1 x.a
  simp only [bC] at c
  have tn : ∀ b, (1 + m.nx b 2).toNat ≤ 2 ∧ (m.nx b 2).toNat ≤ 2 := fun b => by have := m.nx_bd b (n := 2) (by omega); omega
  unfold Mk.nested
  split
  · have h1 := hR _ (tn ((m.cond 1 x.a).2+1)).1 ⟨(m.cond 1 x.a).2+1+1, x.s+1, x.l, x.d⟩
    simp only [wSB, wZE, W_nil]; omega
  split
  · have h1 := hR _ (tn (x.a+1)).1 ⟨x.a+1+1, x.s+1, x.l, x.d⟩
    have h2 := fun y => hR _ (tn (R (1 + m.nx (x.a+1) 2).toNat ⟨x.a+1+1, x.s+1, x.l, x.d⟩).2.a).2 y
    have h3 := h2 ⟨(R (1 + m.nx (x.a+1) 2).toNat ⟨x.a+1+1, x.s+1, x.l, x.d⟩).2.a+1, (R (1 + m.nx (x.a+1) 2).toNat ⟨x.a+1+1, x.s+1, x.l, x.d⟩).2.s, (R (1 + m.nx (x.a+1) 2).toNat ⟨x.a+1+1, x.s+1, x.l, x.d⟩).2.l, (R (1 + m.nx (x.a+1) 2).toNat ⟨x.a+1+1, x.s+1, x.l, x.d⟩).2.d⟩
    simp only [wSB, wZE, wZC]; omega
  · have h1 := hR _ (tn (m.cond 1 x.a).2).1 ⟨(m.cond 1 x.a).2+1, x.s+1, x.l, x.d⟩
    have h2 := fun y => hR _ (tn (R (1 + m.nx (m.cond 1 x.a).2 2).toNat ⟨(m.cond 1 x.a).2+1, x.s+1, x.l, x.d⟩).2.a).2 y
    have h3 := h2 ⟨(R (1 + m.nx (m.cond 1 x.a).2 2).toNat ⟨(m.cond 1 x.a).2+1, x.s+1, x.l, x.d⟩).2.a+1, (R (1 + m.nx (m.cond 1 x.a).2 2).toNat ⟨(m.cond 1 x.a).2+1, x.s+1, x.l, x.d⟩).2.s, (R (1 + m.nx (m.cond 1 x.a).2 2).toNat ⟨(m.cond 1 x.a).2+1, x.s+1, x.l, x.d⟩).2.l, (R (1 + m.nx (m.cond 1 x.a).2 2).toNat ⟨(m.cond 1 x.a).2+1, x.s+1, x.l, x.d⟩).2.d⟩
    simp only [wSB, wZE]; omega
theorem runS_sz (step : Ms → List Sm × Ms) (B : Nat) (h : ∀ x, W (step x).1 ≤ B) : ∀ n x, W (runS step n x).1 ≤ n * B
  | 0, x => by simp [runS, W_nil]
  | n + 1, x => by
    have h1 := runS_sz step B h n (step x).2
    have h2 := h x
    rw [runS, Nat.succ_mul]
    split
    · simp [W_nil]
    · simp only [W_app]; omega
theorem Mk.step_sz (m : Mk) (hh : ∀ h ∈ m.heads, h.params.length ≤ 12 ∧ h.given.length ≤ 12) (dep : Nat) (R : Nat → Ms → List Sm × Ms) (B : Nat) (hR : ∀ n, n ≤ 2 → ∀ x, W (R n x).1 ≤ B) (x : Ms) : W (m.step dep R x).1 ≤ 366 + 2 * B := by
  unfold Mk.step
  split
  · have := m.nested_sz R B hR (m.nx x.a 16) ⟨x.a+1, x.s, x.l-1, x.d⟩
    simp only [W_cons, W_nil]; omega
  · have := m.other_sz hh (m.nx x.a 16) dep ⟨x.a+1, x.s, x.l-1, x.d⟩
    omega
theorem Mk.stmts0_sz (m : Mk) (hh : ∀ h ∈ m.heads, h.params.length ≤ 12 ∧ h.given.length ≤ 12) (n : Nat) (x : Ms) : W (m.stmts 0 n x).1 ≤ n * 366 := by
  rw [Mk.stmts]
  exact runS_sz _ 366 (fun y => m.step_sz hh 0 _ 0 (fun n hn x => by simp [W_nil]) y) n x
theorem Mk.stmts1_sz (m : Mk) (hh : ∀ h ∈ m.heads, h.params.length ≤ 12 ∧ h.given.length ≤ 12) (n : Nat) (x : Ms) : W (m.stmts 1 n x).1 ≤ n * 1830 := by
  rw [Mk.stmts]
  exact runS_sz _ 1830 (fun y => m.step_sz hh 1 _ 732 (fun n hn x => by have := m.stmts0_sz hh n x; omega) y) n x
theorem Mk.stmts2_sz (m : Mk) (hh : ∀ h ∈ m.heads, h.params.length ≤ 12 ∧ h.given.length ≤ 12) (n : Nat) (x : Ms) : W (m.stmts 2 n x).1 ≤ n * 7686 := by
  rw [Mk.stmts]
  exact runS_sz _ 7686 (fun y => m.step_sz hh 2 _ 3660 (fun n hn x => by have := m.stmts1_sz hh n x; omega) y) n x
theorem nameOf_len (id : Int) : (nameOf id).length ≤ 100 := by
  show ((letters.drop (id.tmod 8).toNat).take _).length ≤ 100
  rw [List.length_take, List.length_drop]
  have : letters.length = 8 := rfl
  omega
structure DfOk (n : Nat) (d : Df) : Prop where
  id : 0 ≤ d.id ∧ d.id < 100
  np : d.params.length ≤ 12 ∧ d.given.length ≤ 12
  na : d.arrays.length ≤ 2
  w : W d.body ≤ 40000 + 30 * n
  nm : d.name.length ≤ 100
theorem DfOk.up {n : Nat} {d : Df} (h : DfOk n d) : DfOk (n+1) d := ⟨h.id, h.np, h.na, by have := h.w; omega, h.nm⟩
theorem Mk.defR_sz (m : Mk) (hh : ∀ h ∈ m.heads, h.params.length ≤ 12 ∧ h.given.length ≤ 12) (id : Int) (a s : Nat) (part : Int) (c : Nat) (gs : List Rng) (b2 : Nat) (ar : List Ar) (hc : c ≤ 2) (hg : gs.length ≤ 1) (ha : ar.length ≤ 2) (hid : 0 ≤ id ∧ id < 100) :
    DfOk 0 (m.defR id a s part c gs b2 ar).1 := by
  have tn : (1 + m.nx b2 5).toNat ≤ 5 := by have := m.nx_bd b2 (n := 5) (by omega); omega
  refine ⟨hid, ⟨?_, ?_⟩, ha, ?_, nameOf_len id⟩
  · show (m.params (a+1+1+1+1+1) c).length ≤ 12; rw [m.params_len]; omega
  · show gs.length ≤ 12; omega
  · have := (m.with' (m.dG id a part (m.params (a+1+1+1+1+1) c) gs ((((m.params (a+1+1+1+1+1) c).map encR).length : Nat) + 2 + m.nx ((a+1+1+1+1+1 + c)+1) 2) 2 ar [] 0)).stmts2_sz hh (1 + m.nx b2 5).toNat ⟨b2+1, s, 9, 0⟩
    show W ((m.with' (m.dG id a part (m.params (a+1+1+1+1+1) c) gs ((((m.params (a+1+1+1+1+1) c).map encR).length : Nat) + 2 + m.nx ((a+1+1+1+1+1 + c)+1) 2) 2 ar [] 0)).stmts 2 (1 + m.nx b2 5).toNat ⟨b2+1, s, 9, 0⟩).1 ≤ _
    omega
theorem Mk.def_sz (m : Mk) (hh : ∀ h ∈ m.heads, h.params.length ≤ 12 ∧ h.given.length ≤ 12) (id : Int) (th : Bool) (a s : Nat) (hid : 0 ≤ id ∧ id < 100) : DfOk 0 (m.def' id th a s).1 := by
  have bX := m.nx_bd (a+1+1+1+1) (n := 3) (by omega)
  unfold Mk.def'
  refine m.defR_sz hh _ _ _ _ _ _ _ _ ?_ ?_ ?_ hid
  · split <;> omega
  · have : ∀ b : Bool, (if b then [givenR] else []).length ≤ 1 := by intro b; cases b <;> simp
    exact this _
  · repeat' split
    all_goals simp
theorem mdRun_sz (L : List UInt8) (n : Nat) : ∀ i, i ≤ 4 → ∀ d ∈ (mdRun L n i).defs, DfOk 0 d
  | 0, _ => fun d hd => by simp [mdRun] at hd
  | i + 1, hi => fun d hd => by
    have h := mdRun_ok L n i
    rcases List.mem_append.1 hd with hx | hx
    · exact mdRun_sz L n i (by omega) d hx
    · have e := List.mem_singleton.1 hx
      subst e
      exact ((mdRun L n i).mk' L).def_sz h.heads (11 + i) _ _ _ (by omega)
theorem mdRun_heads (L : List UInt8) (n : Nat) : ∀ i, (mdRun L n i).heads = (mdRun L n i).defs.map headOf
  | 0 => rfl
  | i + 1 => by
    show _ ++ [_] = (_ ++ [_]).map headOf
    rw [List.map_append, ← mdRun_heads L n i]; rfl
structure PgOk (n : Nat) (p : Pg) : Prop where
  locks : p.d.locks = 3
  parts : p.d.parts = 3
  decl : p.d.globals.length = 2 ∧ p.d.classes.length = 2 ∧ p.d.queues.length = 1 ∧ p.d.sinks.length = 3
  heads : p.heads = p.defs.map headOf
  pos : 0 < p.defs.length
  nd : p.defs.length ≤ 4 + n
  th : 0 < p.threads.length
  nt : p.threads.length ≤ 2
  ok : ∀ d ∈ p.defs, DfOk n d
theorem thRun_le (ds : List Df) : ∀ (k : Nat) (t : List Int), t.length ≤ 2 → (thRun ds k t).length ≤ 2
  | 0, t, h => h
  | k + 1, t, h => by
    rw [thRun]
    split
    · refine thRun_le ds k _ ?_
      split
      · split
        · rw [List.length_append]; simp; omega
        · exact h
      · exact h
    · exact h
theorem madeP_ok (L : List UInt8) : PgOk 0 (madeP L) := by
  have hb := (⟨L, declD, [], [], [], zD, false⟩ : Mk).nx_bd 0 (n := 4) (by omega)
  have hN : ∃ n, n = (1 + (⟨L, declD, [], [], [], zD, false⟩ : Mk).nx 0 4).toNat := ⟨_, rfl⟩
  obtain ⟨n, hn⟩ := hN
  have e : madeP L = ⟨declD, (mdRun L n n).heads, (mdRun L n n).defs, if ((mdRun L n n).mk' L).nx (mdRun L n n).a 3 == 0 then (thRun (mdRun L n n).defs n []).take 1 else thRun (mdRun L n n).defs n []⟩ := by rw [hn]; rfl
  have hn0 : 0 < n := by omega
  have hn4 : n ≤ 4 := by omega
  have hm := mdRun_ok L n n
  have ht := thRun_pos L n hn0 hn4
  have ht2 := thRun_le (mdRun L n n).defs n [] (by simp)
  rw [e]
  refine ⟨rfl, rfl, ⟨rfl, rfl, rfl, rfl⟩, mdRun_heads L n n, ?_, ?_, ?_, ?_, mdRun_sz L n n hn4⟩
  · show 0 < (mdRun L n n).defs.length; rw [hm.nd]; exact hn0
  · show (mdRun L n n).defs.length ≤ 4 + 0; rw [hm.nd]; exact hn4
  · show 0 < (if ((mdRun L n n).mk' L).nx (mdRun L n n).a 3 == 0 then (thRun (mdRun L n n).defs n []).take 1 else thRun (mdRun L n n).defs n []).length
    split
    · rw [List.length_take]; omega
    · exact ht
  · show (if ((mdRun L n n).mk' L).nx (mdRun L n n).a 3 == 0 then (thRun (mdRun L n n).defs n []).take 1 else thRun (mdRun L n n).defs n []).length ≤ 2
    split
    · rw [List.length_take]; omega
    · exact ht2
theorem fm3 : ∀ l : List Rng, (l.flatMap wR).length = 3 * l.length
  | [] => rfl
  | r :: l => by rw [List.flatMap_cons, List.length_append, fm3 l, List.length_cons]; show 3 + _ = _; omega
theorem fmA : ∀ l : List Ar, (l.flatMap wA).length = 2 * l.length
  | [] => rfl
  | r :: l => by rw [List.flatMap_cons, List.length_append, fmA l, List.length_cons]; show 2 + _ = _; omega
theorem fmQ : ∀ l : List Qu, (l.flatMap wQ).length = 3 * l.length
  | [] => rfl
  | r :: l => by rw [List.flatMap_cons, List.length_append, fmQ l, List.length_cons]; show 3 + _ = _; omega
theorem fm_le {α β : Type} {w : α → List β} {B : Nat} (h : ∀ x, (w x).length ≤ B) : ∀ l : List α, (l.flatMap w).length ≤ B * l.length
  | [] => by simp
  | x :: l => by rw [List.flatMap_cons, List.length_append, List.length_cons, Nat.mul_succ]; have := h x; have := fm_le h l; omega
theorem DfOk.words {n : Nat} {d : Df} (h : DfOk n d) : (wD (nmD d)).length ≤ 40110 + 30 * n := by
  have h1 := h.np
  have h2 := h.na
  have h3 := h.w
  unfold W at h3
  have e : (wD (nmD d)).length = 3 + (1 + 1) + 2 + (1 + (d.params.flatMap wR).length) + (1 + (d.given.flatMap wR).length) + 2 + (1 + (d.arrays.flatMap wA).length) + 1 + (1 + (d.body.flatMap wS).length) := by
    simp [wD, nmD, wl]; omega
  rw [e, fm3, fm3, fmA]; omega
theorem DfOk.wordsD {n : Nat} {d : Df} (h : DfOk n d) : (wD d).length ≤ 40210 + 30 * n := by
  have h1 := h.np
  have h2 := h.na
  have h3 := h.w
  have h4 := h.nm
  unfold W at h3
  have e : (wD d).length = 3 + (1 + (d.name.flatMap fun b : UInt8 => [(b.toNat : Int)]).length) + 2 + (1 + (d.params.flatMap wR).length) + (1 + (d.given.flatMap wR).length) + 2 + (1 + (d.arrays.flatMap wA).length) + 1 + (1 + (d.body.flatMap wS).length) := by
    simp [wD, wl]; omega
  have e2 : ∀ l : List UInt8, (l.flatMap fun b : UInt8 => [(b.toNat : Int)]).length = l.length := fun l => by
    induction l with
    | nil => rfl
    | cons x l ih => rw [List.flatMap_cons, List.length_append, ih]; show 1 + l.length = l.length + 1; omega
  rw [e, e2, fm3, fm3, fmA]; omega
theorem PgOk.hd {n : Nat} {p : Pg} (h : PgOk n p) (c : Int) : (hdOf p c).params.length ≤ 12 ∧ (hdOf p c).given.length ≤ 12 := by
  unfold hdOf
  rcases Bool.eq_false_or_eq_true (fnd (fun x : Hd => x.id == c) zHd p.heads).2 with e | e
  · have := fnd_mem e
    rw [h.heads] at this
    obtain ⟨d, hd, e2⟩ := List.mem_map.1 this
    rw [h.heads, ← e2]
    exact (h.ok d hd).np
  · have : ∀ l : List Hd, (fnd (fun x : Hd => x.id == c) zHd l).2 = false → (fnd (fun x : Hd => x.id == c) zHd l).1 = zHd := by
      intro l
      induction l with
      | nil => intro _; rfl
      | cons x l ih =>
        intro hf
        unfold fnd at hf ⊢
        split
        · next q => rw [if_pos q] at hf; cases hf
        · next q => rw [if_neg q] at hf; exact ih hf
    rw [this _ e]; exact ⟨Nat.zero_le _, Nat.zero_le _⟩
theorem PgOk.fits {n : Nat} {p : Pg} (h : PgOk n p) (hn : n ≤ 1000) : Fits p := by
  have hnd := h.nd
  refine ⟨h.locks, ?_, by omega, ?_, ?_⟩
  · rw [h.heads, List.length_map]; omega
  · intro d hd
    have := (h.ok d hd).words; omega
  · intro d hd
    have h1 := (h.ok d hd).w
    have h2 := rcalls_len d.body
    have h3 := szL_fm d.body
    have h4 : (declC p).length ≤ 100 := by
      rw [declC_len, declB_len, declA_len, fmQ, wl_len, wl_len, fm3, fm3, h.decl.1, h.decl.2.1, h.decl.2.2.1, h.decl.2.2.2]; omega
    have h5 := fm_le (w := wHd p) (B := 76) (fun c => by rw [wHd_len, wl_len, wl_len, fm3, fm3]; have := h.hd c; omega) (rcalls d.body)
    unfold W at h1
    rw [declW_len]; omega
end Abs
namespace Abs
open Go Go.Proofs
set_option maxRecDepth 100000
set_option maxHeartbeats 4000000
theorem topOf_pairs (p : Pg) (c : Int) : (topOf p c).pairs.length ≤ 9 := by
  unfold topOf
  split
  · exact pairsT_le 3
  · exact Nat.zero_le _
theorem sumOf_pairs (p : Pg) {sums : List Sy} (h : ∀ x ∈ sums, x.pairs.length ≤ 9) (c : Int) : (sumOf p sums c).pairs.length ≤ 9 := by
  unfold sumOf
  split
  · next e => exact h _ (fnd_mem e)
  · exact topOf_pairs p c
theorem needOf_ok {p : Pg} {s : Su} {sums : List Sy} (id : Int) (hf : Fits p) (hr : s.rules.length < 2^30) (hs : ∀ x ∈ sums, x.pairs.length ≤ 9) : NeOk (needOf p s id sums).1 := by
  have z : NeOk zNe := ⟨by simp [zNe], by simp [zNe], by simp [zNe], by simp [zNe]⟩
  unfold needOf
  split
  · next e =>
    split
    · have hm0 := fnd_mem e
      have hd := hf.decl _ hm0
      have hz := szD _ (hf.words _ hm0)
      have hc := rcalls_len (fnd (fun x : Df => x.id == id) zDf p.defs).1.body
      refine ⟨?_, ?_, ?_, ?_⟩
      · show (declW p _).length < 2^62; omega
      · show ((rcalls _).map (sumOf p sums)).length < 2^30; rw [List.length_map]; omega
      · intro x hx
        obtain ⟨c, _, rfl⟩ := List.mem_map.1 (show x ∈ (rcalls _).map (sumOf p sums) from hx)
        have := sumOf_pairs p hs c; omega
      · show (s.rules.filter _).length < 2^30
        exact Nat.lt_of_le_of_lt (List.length_filter_le _ _) hr
    · exact z
  · exact z
end Abs
namespace Abs
open Go Go.Proofs
set_option maxRecDepth 100000
set_option maxHeartbeats 4000000
structure Ch where
  kind : Int
  at' : Int
  n : Int
def encCh (z : Ch) : Dat := .agg [u8 z.kind, u8 z.at', u8 z.n]
structure ChOk (z : Ch) : Prop where
  kind : 0 ≤ z.kind ∧ z.kind < 256
  at' : 0 ≤ z.at' ∧ z.at' < 256
  n : 0 ≤ z.n ∧ z.n < 256
def names3 : List (List UInt8) := [[97, 108, 112, 104, 97], [98, 101, 116, 97], [103, 97, 109, 109, 97]]
def chK (p : Pg) (z : Ch) : Nat := (z.at'.tmod (p.defs.length : Nat)).toNat
def Df.nm (d : Df) (s : List UInt8) : Df := ⟨d.id, d.site, s, d.firm, d.part, d.params, d.given, d.vars, d.refs, d.arrays, d.budget, d.body⟩
def Df.bud (d : Df) (b : Int) : Df := ⟨d.id, d.site, d.name, d.firm, d.part, d.params, d.given, d.vars, d.refs, d.arrays, b, d.body⟩
def Df.prt (d : Df) (b : Int) : Df := ⟨d.id, d.site, d.name, d.firm, b, d.params, d.given, d.vars, d.refs, d.arrays, d.budget, d.body⟩
def Df.bdy (d : Df) (b : List Sm) : Df := ⟨d.id, d.site, d.name, d.firm, d.part, d.params, d.given, d.vars, d.refs, d.arrays, d.budget, b⟩
def newS (d : Df) (z : Ch) : Sm := .mk (8000 + 10 * d.id + z.n.tmod 3) 6 (z.n.tmod 2) 0 0 (.mk 0 0 0 []) (.mk 0 0 0 []) (.mk 0 [] []) [] [] [] []
def Dc.frm (d : Dc) (n : Int) : Dc := ⟨d.globals, d.classes, d.queues, d.sinks, d.locks, d.parts, n⟩
def finP (q : Pg) : Pg := sortP (wHeads q) q.defs.dropLast (q.defs.getLastD zD)
def Pg.ds (p : Pg) (l : List Df) : Pg := ⟨p.d, p.heads, l, p.threads⟩
def changeP (p : Pg) (z : Ch) : Pg :=
  let k := chK p z
  let d := p.defs.getD k zD
  if z.kind.tmod 7 = 0 then finP (p.ds (p.defs.set k (d.nm (names3.getD (z.n.tmod 3).toNat []))))
  else if z.kind.tmod 7 = 1 then finP (p.ds (p.defs.set k (d.bud (1 + z.n))))
  else if z.kind.tmod 7 = 2 then finP (p.ds (p.defs.set k (d.prt (z.n.tmod 3))))
  else if z.kind.tmod 7 = 3 then
    (if (fnd (fun x : Df => x.id == 20 + z.n.tmod 2) zDf p.defs).2 then finP (p.ds p.defs) else finP (p.ds (p.defs ++ [spareD (20 + z.n.tmod 2) (z.n.tmod 4)])))
  else if z.kind.tmod 7 = 4 then
    (if calledB p d.id || decide (p.defs.length = 1) then p else wHeads (p.ds (p.defs.take k ++ p.defs.drop (k + 1))))
  else if z.kind.tmod 7 = 5 then
    (if decide (d.refs < 2) || !diffB (sitesD (d.bdy (d.body ++ [newS d z]))) then p else finP (p.ds (p.defs.set k (d.bdy (d.body ++ [newS d z])))))
  else finP ⟨p.d.frm (2 + z.n.tmod 2), p.heads, p.defs.set k d, p.threads.take 1⟩
theorem fin_ok (q : Pg) (h : 0 < q.defs.length) (h2 : q.defs.length < 2^28) : CallsA Tryz.prog 73 [encP (wHeads q)] ct0 (encP (finP q)) ct0 := by
  have hne : q.defs ≠ [] := fun e => by rw [e] at h; simp at h
  have e : q.defs = q.defs.dropLast ++ [q.defs.getLastD zD] := by
    have := List.dropLast_concat_getLast hne
    rw [List.getLastD_eq_getLast?, List.getLast?_eq_some_getLast hne]
    exact this.symm
  exact sorted_ok (wHeads q) _ _ e (by rw [List.length_dropLast]; omega)
theorem set_defs (l : List Df) (k : Nat) (d : Df) : (l.map encD).set k (encD d) = (l.set k d).map encD := by rw [List.map_set]
structure ChCx (p : Pg) (z : Ch) (k : Nat) : Prop where
  ok : ChOk z
  hk : k < p.defs.length
  len : p.defs.length < 2^20
  e : z.at'.tmod ((p.defs.map encD).length : Nat) = (k : Int)
  id : 0 ≤ (p.defs.getD k zD).id ∧ (p.defs.getD k zD).id < 1000
theorem getD_at {p : Pg} {k : Nat} (h : k < p.defs.length) : p.defs.getD k zD = p.defs[k] := by simp [List.getD, h]
theorem heads_set {p : Pg} {k : Nat} {i : Int} (e : i = k) (d : Df) (h : p.defs.length < 2^20) : CallsA Tryz.prog 22 [.agg (cDc p.d ++ [lst 5 encH p.heads, .sl 12 ((p.defs.map encD).set i.toNat (encD d)) false, ints p.threads])] ct0 (encP (wHeads (p.ds (p.defs.set k d)))) ct0 := by
  rw [e, show ((k : Nat) : Int).toNat = k from rfl, set_defs]
  exact withHeads_ok (p.ds (p.defs.set k d)) (by show (p.defs.set k d).length < _; rw [List.length_set]; omega)
theorem fin_set {p : Pg} {k : Nat} (d : Df) (hk : k < p.defs.length) (h : p.defs.length < 2^20) : CallsA Tryz.prog 73 [encP (wHeads (p.ds (p.defs.set k d)))] ct0 (encP (finP (p.ds (p.defs.set k d)))) ct0 :=
  fin_ok (p.ds (p.defs.set k d)) (by show 0 < (p.defs.set k d).length; rw [List.length_set]; omega) (by show (p.defs.set k d).length < _; rw [List.length_set]; omega)
theorem change0_ok {p : Pg} {z : Ch} {k : Nat} (c : ChCx p z k) (h7 : z.kind.tmod 7 = 0) :
    CallsA Tryz.prog 30 [encP p, encCh z] ct0 (encP (finP (p.ds (p.defs.set k ((p.defs[k]'c.hk).nm (names3.getD (z.n.tmod 3).toNat [])))))) ct0 := by
  have hk := c.hk
  have hl := c.len
  have q0 : (z.kind.tmod 7 == 0) = true := by rw [h7]; rfl
  have q1 : (z.kind.tmod 7 == 1) = false := by rw [h7]; rfl
  have q2 : (z.kind.tmod 7 == 2) = false := by rw [h7]; rfl
  have q3 : (z.kind.tmod 7 == 3) = false := by rw [h7]; rfl
  have q4 : (z.kind.tmod 7 == 4) = false := by rw [h7]; rfl
  have q5 : (z.kind.tmod 7 == 5) = false := by rw [h7]; rfl
  have q9 : (!(z.kind.tmod 7 == 3)) = true := by rw [h7]; rfl
  have hE := c.e
  have ha := c.ok.at'
  have hll : (p.defs.map encD).length = p.defs.length := List.length_map ..
  have hn := tm_bd c.ok.n.1 3 (by omega)
  have hs : ∃ s, s = names3.getD (z.n.tmod 3).toNat [] := ⟨_, rfl⟩
  refine hs.elim fun s hs => ?_
  have hnm : nth (names3.map Dat.str) (z.n.tmod 3).toNat = some (.str s) := by
    have h3 : (z.n.tmod 3).toNat < names3.length := by show _ < 3; omega
    rw [nth_map, nth_get h3, hs]; simp [List.getD, h3]
  rw [← hs]
  have hW := heads_set hE ((p.defs[k]'hk).nm s) hl
  have hF := fin_set (p := p) (k := k) ((p.defs[k]'hk).nm s) hk hl
  refine fn_ok hm Tryz.func30 (fun _ => false) [] (fun _ => []) (by kernel_rfl) ?_
  refine run ?_
  refine Idx.mapE k hE hk rfl ?_
  refine run ?_
  refine Idx.mapE k hE hk rfl ?_
  refine run ?_
  refine Idx.at rfl hn.1 hnm ?_
  refine run ?_
  refine Idx.at rfl hn.1 hnm ?_
  refine run ?_
  refine Idx.mapE k hE hk rfl ?_
  refine run ?_
  refine Idx.mapE k hE hk rfl ?_
  refine run ?_; repeat ((apply call_ok; first | exact (hW) | exact (hF)); refine run ?_)
  exact Done.mk rfl rfl
theorem change1_ok {p : Pg} {z : Ch} {k : Nat} (c : ChCx p z k) (h7 : z.kind.tmod 7 = 1) :
    CallsA Tryz.prog 30 [encP p, encCh z] ct0 (encP (finP (p.ds (p.defs.set k ((p.defs[k]'c.hk).bud (1 + z.n)))))) ct0 := by
  have hk := c.hk
  have hl := c.len
  have q0 : (z.kind.tmod 7 == 0) = false := by rw [h7]; rfl
  have q1 : (z.kind.tmod 7 == 1) = true := by rw [h7]; rfl
  have q2 : (z.kind.tmod 7 == 2) = false := by rw [h7]; rfl
  have q3 : (z.kind.tmod 7 == 3) = false := by rw [h7]; rfl
  have q4 : (z.kind.tmod 7 == 4) = false := by rw [h7]; rfl
  have q5 : (z.kind.tmod 7 == 5) = false := by rw [h7]; rfl
  have q9 : (!(z.kind.tmod 7 == 3)) = true := by rw [h7]; rfl
  have hE := c.e
  have ha := c.ok.at'
  have hll : (p.defs.map encD).length = p.defs.length := List.length_map ..
  have hn := c.ok.n
  have hW := heads_set hE ((p.defs[k]'hk).bud (1 + z.n)) hl
  have hF := fin_set (p := p) (k := k) ((p.defs[k]'hk).bud (1 + z.n)) hk hl
  refine fn_ok hm Tryz.func30 (fun _ => false) [] (fun _ => []) (by kernel_rfl) ?_
  refine run ?_
  refine Idx.mapE k hE hk rfl ?_
  refine run ?_
  refine Idx.mapE k hE hk rfl ?_
  refine run ?_
  refine Idx.mapE k hE hk rfl ?_
  refine run ?_
  refine Idx.mapE k hE hk rfl ?_
  refine run ?_; repeat ((apply call_ok; first | exact (hW) | exact (hF)); refine run ?_)
  exact Done.mk rfl rfl
theorem change2_ok {p : Pg} {z : Ch} {k : Nat} (c : ChCx p z k) (h7 : z.kind.tmod 7 = 2) :
    CallsA Tryz.prog 30 [encP p, encCh z] ct0 (encP (finP (p.ds (p.defs.set k ((p.defs[k]'c.hk).prt (z.n.tmod 3)))))) ct0 := by
  have hk := c.hk
  have hl := c.len
  have q0 : (z.kind.tmod 7 == 0) = false := by rw [h7]; rfl
  have q1 : (z.kind.tmod 7 == 1) = false := by rw [h7]; rfl
  have q2 : (z.kind.tmod 7 == 2) = true := by rw [h7]; rfl
  have q3 : (z.kind.tmod 7 == 3) = false := by rw [h7]; rfl
  have q4 : (z.kind.tmod 7 == 4) = false := by rw [h7]; rfl
  have q5 : (z.kind.tmod 7 == 5) = false := by rw [h7]; rfl
  have q9 : (!(z.kind.tmod 7 == 3)) = true := by rw [h7]; rfl
  have hE := c.e
  have ha := c.ok.at'
  have hll : (p.defs.map encD).length = p.defs.length := List.length_map ..
  have hn := tm_bd c.ok.n.1 3 (by omega)
  have hW := heads_set hE ((p.defs[k]'hk).prt (z.n.tmod 3)) hl
  have hF := fin_set (p := p) (k := k) ((p.defs[k]'hk).prt (z.n.tmod 3)) hk hl
  refine fn_ok hm Tryz.func30 (fun _ => false) [] (fun _ => []) (by kernel_rfl) ?_
  refine run ?_
  refine Idx.mapE k hE hk rfl ?_
  refine run ?_
  refine Idx.mapE k hE hk rfl ?_
  refine run ?_
  refine Idx.mapE k hE hk rfl ?_
  refine run ?_
  refine Idx.mapE k hE hk rfl ?_
  refine run ?_; repeat ((apply call_ok; first | exact (hW) | exact (hF)); refine run ?_)
  exact Done.mk rfl rfl
theorem change3_ok {p : Pg} {z : Ch} {k : Nat} (c : ChCx p z k) (h7 : z.kind.tmod 7 = 3) :
    CallsA Tryz.prog 30 [encP p, encCh z] ct0 (encP (if (fnd (fun x : Df => x.id == 20 + z.n.tmod 2) zDf p.defs).2 then finP (p.ds p.defs) else finP (p.ds (p.defs ++ [spareD (20 + z.n.tmod 2) (z.n.tmod 4)])))) ct0 := by
  have hk := c.hk
  have hl := c.len
  have q0 : (z.kind.tmod 7 == 0) = false := by rw [h7]; rfl
  have q1 : (z.kind.tmod 7 == 1) = false := by rw [h7]; rfl
  have q2 : (z.kind.tmod 7 == 2) = false := by rw [h7]; rfl
  have q3 : (z.kind.tmod 7 == 3) = true := by rw [h7]; rfl
  have q4 : (z.kind.tmod 7 == 4) = false := by rw [h7]; rfl
  have q5 : (z.kind.tmod 7 == 5) = false := by rw [h7]; rfl
  have q9 : (!(z.kind.tmod 7 == 3)) = false := by rw [h7]; rfl
  have hE := c.e
  have ha := c.ok.at'
  have hll : (p.defs.map encD).length = p.defs.length := List.length_map ..
  have hn := tm_bd c.ok.n.1 2 (by omega)
  have hn4 := tm_bd c.ok.n.1 4 (by omega)
  have hx : ∃ a, a = z.n.tmod 2 := ⟨_, rfl⟩
  refine hx.elim fun a hx => ?_
  have hy : ∃ b, b = z.n.tmod 4 := ⟨_, rfl⟩
  refine hy.elim fun b hy => ?_
  rw [← hx] at hn ⊢
  rw [← hy] at hn4 ⊢
  have hx := hx.symm
  have hy := hy.symm
  have cs := spare_ok (20 + a) b (by omega)
  have cf := refFindIn_ok p (20 + a) (by omega)
  refine (Bool.eq_false_or_eq_true ((fnd (fun x : Df => x.id == 20 + a) zDf p.defs).2)).elim (fun b0 => ?_) (fun b0 => ?_)
  · have n0 : (!(fnd (fun x : Df => x.id == 20 + a) zDf p.defs).2) = false := by rw [b0]; rfl
    rw [if_pos b0]
    have hW := withHeads_ok (p.ds p.defs) (by show p.defs.length < _; omega)
    have hF := fin_ok (p.ds p.defs) (by show 0 < p.defs.length; omega) (by show p.defs.length < _; omega)
    refine fn_ok hm Tryz.func30 (fun _ => false) [] (fun _ => []) (by kernel_rfl) ?_
    refine run ?_
    refine Idx.mapE k hE hk rfl ?_
    refine run ?_
    refine Idx.mapE k hE hk rfl ?_
    refine run ?_
    refine run ?_; repeat ((apply call_ok; first | exact (cs) | exact (cf)); refine run ?_)
    refine run ?_; repeat ((apply call_ok; first | exact (hW) | exact (hF)); refine run ?_)
    exact Done.mk rfl rfl
  · have n0 : (!(fnd (fun x : Df => x.id == 20 + a) zDf p.defs).2) = true := by rw [b0]; rfl
    rw [if_neg (by rw [b0]; simp)]
    have e : p.defs.map encD ++ [encD (spareD (20 + a) b)] = (p.defs ++ [spareD (20 + a) b]).map encD := by simp
    have hW : CallsA Tryz.prog 22 [.agg (cDc p.d ++ [lst 5 encH p.heads, .sl 12 (p.defs.map encD ++ [encD (spareD (20 + a) b)]) false, ints p.threads])] ct0 (encP (wHeads (p.ds (p.defs ++ [spareD (20 + a) b])))) ct0 := by
      rw [e]; exact withHeads_ok (p.ds (p.defs ++ [spareD (20 + a) b])) (by show (p.defs ++ _).length < _; simp; omega)
    have hF := fin_ok (p.ds (p.defs ++ [spareD (20 + a) b])) (by show 0 < (p.defs ++ _).length; simp) (by show (p.defs ++ _).length < _; simp; omega)
    refine fn_ok hm Tryz.func30 (fun _ => false) [] (fun _ => []) (by kernel_rfl) ?_
    refine run ?_
    refine Idx.mapE k hE hk rfl ?_
    refine run ?_
    refine Idx.mapE k hE hk rfl ?_
    refine run ?_
    refine run ?_; repeat ((apply call_ok; first | exact (cs) | exact (cf)); refine run ?_)
    refine run ?_; repeat ((apply call_ok; first | exact (hW) | exact (hF)); refine run ?_)
    exact Done.mk rfl rfl
theorem change4_ok {p : Pg} {z : Ch} {k : Nat} (c : ChCx p z k) (h7 : z.kind.tmod 7 = 4) (hs : ∀ d ∈ p.defs, szL d.body < 2^30) (ht : p.threads.length < 2^30) :
    CallsA Tryz.prog 30 [encP p, encCh z] ct0 (encP (if calledB p (p.defs[k]'c.hk).id || decide (p.defs.length = 1) then p else wHeads (p.ds (p.defs.take k ++ p.defs.drop (k + 1))))) ct0 := by
  have hk := c.hk
  have hl := c.len
  have q0 : (z.kind.tmod 7 == 0) = false := by rw [h7]; rfl
  have q1 : (z.kind.tmod 7 == 1) = false := by rw [h7]; rfl
  have q2 : (z.kind.tmod 7 == 2) = false := by rw [h7]; rfl
  have q3 : (z.kind.tmod 7 == 3) = false := by rw [h7]; rfl
  have q4 : (z.kind.tmod 7 == 4) = true := by rw [h7]; rfl
  have q5 : (z.kind.tmod 7 == 5) = false := by rw [h7]; rfl
  have q9 : (!(z.kind.tmod 7 == 3)) = true := by rw [h7]; rfl
  have hE := c.e
  have ha := c.ok.at'
  have hll : (p.defs.map encD).length = p.defs.length := List.length_map ..
  have hE2 : z.at'.tmod (p.defs.length : Nat) = (k : Int) := by rw [← hll]; exact hE
  have cc := called_ok p (p.defs[k]'hk).id hs (by omega) ht
  refine (Bool.eq_false_or_eq_true (calledB p (p.defs[k]'hk).id)).elim (fun b0 => ?_) (fun b0 => ?_)
  · rw [if_pos (by rw [b0]; rfl)]
    refine fn_ok hm Tryz.func30 (fun _ => false) [] (fun _ => []) (by kernel_rfl) ?_
    refine run ?_
    refine Idx.mapE k hE hk rfl ?_
    refine run ?_
    refine Idx.mapE k hE hk rfl ?_
    refine run ?_; repeat ((apply call_ok; first | exact (cc)); refine run ?_)
    exact Done.mk rfl rfl
  by_cases h1 : p.defs.length = 1
  · have b1 : (((p.defs.map encD).length : Int) == 1) = true := by rw [hll, h1]; rfl
    rw [if_pos (by rw [b0]; simp [h1])]
    refine fn_ok hm Tryz.func30 (fun _ => false) [] (fun _ => []) (by kernel_rfl) ?_
    refine run ?_
    refine Idx.mapE k hE hk rfl ?_
    refine run ?_
    refine Idx.mapE k hE hk rfl ?_
    refine run ?_; repeat ((apply call_ok; first | exact (cc)); refine run ?_)
    exact Done.mk rfl rfl
  · have b1 : (((p.defs.map encD).length : Int) == 1) = false := by rw [hll]; exact beq_eq_false_iff_ne.2 (by omega)
    have hc1 : (cut (p.defs.map encD) none (some (z.at'.tmod (p.defs.length : Nat)))).length ≤ p.defs.length := by show (List.take _ _).length ≤ _; rw [List.length_take]; omega
    have hc2 : (cut (p.defs.map encD) (some (z.at'.tmod (p.defs.length : Nat) + 1)) none).length ≤ p.defs.length := by show (List.drop _ _).length ≤ _; rw [List.length_drop]; omega
    rw [if_neg (by rw [b0, decide_eq_false h1]; simp)]
    have hW : CallsA Tryz.prog 22 [.agg (cDc p.d ++ [lst 5 encH p.heads, .sl 12 ((p.defs.map encD).take (z.at'.tmod ((p.defs.map encD).length : Nat)).toNat ++ (p.defs.map encD).drop (z.at'.tmod ((p.defs.map encD).length : Nat) + 1).toNat) false, ints p.threads])] ct0 (encP (wHeads (p.ds (p.defs.take k ++ p.defs.drop (k + 1))))) ct0 := by
      rw [hE, show ((k : Nat) : Int).toNat = k from rfl, show ((k : Nat) : Int) + 1 = ((k + 1 : Nat) : Int) by omega, show ((k + 1 : Nat) : Int).toNat = k + 1 from rfl, ← List.map_take, ← List.map_drop, ← List.map_append]
      exact withHeads_ok (p.ds (p.defs.take k ++ p.defs.drop (k + 1))) (by show (p.defs.take k ++ p.defs.drop (k + 1)).length < _; rw [List.length_append, List.length_take, List.length_drop]; omega)
    refine fn_ok hm Tryz.func30 (fun _ => false) [] (fun _ => []) (by kernel_rfl) ?_
    refine run ?_
    refine Idx.mapE k hE hk rfl ?_
    refine run ?_
    refine Idx.mapE k hE hk rfl ?_
    refine run ?_; repeat ((apply call_ok; first | exact (cc) | exact (hW)); refine run ?_)
    exact Done.mk rfl rfl
theorem change6_ok {p : Pg} {z : Ch} {k : Nat} (c : ChCx p z k) (h7 : z.kind.tmod 7 = 6) (ht0 : 0 < p.threads.length) (ht : p.threads.length < 2^30) :
    CallsA Tryz.prog 30 [encP p, encCh z] ct0 (encP (finP ⟨p.d.frm (2 + z.n.tmod 2), p.heads, p.defs.set k (p.defs[k]'c.hk), p.threads.take 1⟩)) ct0 := by
  have hk := c.hk
  have hl := c.len
  have q0 : (z.kind.tmod 7 == 0) = false := by rw [h7]; rfl
  have q1 : (z.kind.tmod 7 == 1) = false := by rw [h7]; rfl
  have q2 : (z.kind.tmod 7 == 2) = false := by rw [h7]; rfl
  have q3 : (z.kind.tmod 7 == 3) = false := by rw [h7]; rfl
  have q4 : (z.kind.tmod 7 == 4) = false := by rw [h7]; rfl
  have q5 : (z.kind.tmod 7 == 5) = false := by rw [h7]; rfl
  have q9 : (!(z.kind.tmod 7 == 3)) = true := by rw [h7]; rfl
  have hE := c.e
  have ha := c.ok.at'
  have hll : (p.defs.map encD).length = p.defs.length := List.length_map ..
  have hn := tm_bd c.ok.n.1 2 (by omega)
  have hW : CallsA Tryz.prog 22 [.agg (cDc (p.d.frm (2 + z.n.tmod 2)) ++ [lst 5 encH p.heads, .sl 12 ((p.defs.map encD).set (z.at'.tmod ((p.defs.map encD).length : Nat)).toNat (encD (p.defs[k]'hk))) false, .sl 1 ((p.threads.map it).take 1) false])] ct0 (encP (wHeads ⟨p.d.frm (2 + z.n.tmod 2), p.heads, p.defs.set k (p.defs[k]'hk), p.threads.take 1⟩)) ct0 := by
    rw [hE, show ((k : Nat) : Int).toNat = k from rfl, set_defs, ← List.map_take]
    exact withHeads_ok ⟨p.d.frm (2 + z.n.tmod 2), p.heads, p.defs.set k (p.defs[k]'hk), p.threads.take 1⟩ (by show (p.defs.set k _).length < _; rw [List.length_set]; omega)
  have hF := fin_ok ⟨p.d.frm (2 + z.n.tmod 2), p.heads, p.defs.set k (p.defs[k]'hk), p.threads.take 1⟩ (by show 0 < (p.defs.set k _).length; rw [List.length_set]; omega) (by show (p.defs.set k _).length < _; rw [List.length_set]; omega)
  have htl : (p.threads.map it).length = p.threads.length := List.length_map ..
  refine fn_ok hm Tryz.func30 (fun _ => false) [] (fun _ => []) (by kernel_rfl) ?_
  refine run ?_
  refine Idx.mapE k hE hk rfl ?_
  refine run ?_
  refine Idx.mapE k hE hk rfl ?_
  refine run ?_
  refine Idx.mapE k hE hk rfl ?_
  refine run ?_
  refine Idx.mapE k hE hk rfl ?_
  refine run ?_; repeat ((apply call_ok; first | exact (hW) | exact (hF)); refine run ?_)
  exact Done.mk rfl rfl
theorem change5_ok {p : Pg} {z : Ch} {k : Nat} (c : ChCx p z k) (h7 : z.kind.tmod 7 = 5) (hs : ∀ d ∈ p.defs, szL d.body < 2^28) (hid : ∀ d ∈ p.defs, 0 ≤ d.id ∧ d.id < 1000) :
    CallsA Tryz.prog 30 [encP p, encCh z] ct0 (encP (if decide ((p.defs[k]'c.hk).refs < 2) || !diffB (sitesD ((p.defs[k]'c.hk).bdy ((p.defs[k]'c.hk).body ++ [newS (p.defs[k]'c.hk) z]))) then p else finP (p.ds (p.defs.set k ((p.defs[k]'c.hk).bdy ((p.defs[k]'c.hk).body ++ [newS (p.defs[k]'c.hk) z])))))) ct0 := by
  have hk := c.hk
  have hl := c.len
  have q0 : (z.kind.tmod 7 == 0) = false := by rw [h7]; rfl
  have q1 : (z.kind.tmod 7 == 1) = false := by rw [h7]; rfl
  have q2 : (z.kind.tmod 7 == 2) = false := by rw [h7]; rfl
  have q3 : (z.kind.tmod 7 == 3) = false := by rw [h7]; rfl
  have q4 : (z.kind.tmod 7 == 4) = false := by rw [h7]; rfl
  have q5 : (z.kind.tmod 7 == 5) = true := by rw [h7]; rfl
  have q9 : (!(z.kind.tmod 7 == 3)) = true := by rw [h7]; rfl
  have hE := c.e
  have ha := c.ok.at'
  have hll : (p.defs.map encD).length = p.defs.length := List.length_map ..
  have hn := tm_bd c.ok.n.1 2 (by omega)
  have hn3 := tm_bd c.ok.n.1 3 (by omega)
  have hD : ∃ D, D = p.defs[k]'hk := ⟨_, rfl⟩
  refine hD.elim fun D hD => ?_
  have hz := hs (p.defs[k]'hk) (List.getElem_mem hk)
  have hi := hid (p.defs[k]'hk) (List.getElem_mem hk)
  have hx : p.defs[k]? = some D := by rw [List.getElem?_eq_getElem hk, hD]
  rw [← hD] at hz hi ⊢
  have hbl := len_le_sz D.body
  have hN : ∃ N, N = newS D z := ⟨_, rfl⟩
  refine hN.elim fun N hN => ?_
  rw [← hN]
  have hNe : encS N = .agg ([it (8000 + 10 * D.id + z.n.tmod 3), it 6, it (z.n.tmod 2), it 0, it 0] ++ ([it 0, it 0, it 0, .sl 4 [] false] ++ ([it 0, it 0, it 0, .sl 4 [] false] ++ ([it 0, .sl 4 [] false, .sl 3 [] false] ++ [.sl 4 [] false, .sl 1 [] false, .sl 20 [] false, .sl 20 [] false])))) := by rw [hN]; rfl
  have hB : (D.body.map encS ++ [encS N]) = (D.body ++ [N]).map encS := by simp
  have hszN : szL (D.body ++ [N]) < 2^29 := by rw [szL_append, hN, show szL [newS D z] = 1 from rfl]; omega
  have hSi : CallsA Tryz.prog 72 [.agg [it D.id, it D.site, .str D.name, it D.firm, it D.part, lst 3 encR D.params, lst 3 encR D.given, it D.vars, it D.refs, lst 2 encA D.arrays, it D.budget, .sl 20 (D.body.map encS ++ [encS N]) false]] ct0 (ints (sitesD (D.bdy (D.body ++ [N])))) ct0 := by
    rw [hB]; exact sitesOf_ok (D.bdy (D.body ++ [N])) (by show szL (D.body ++ [N]) < _; omega)
  have hfl := fL_len (D.body ++ [N])
  have hDi : CallsA Tryz.prog 71 [ints (sitesD (D.bdy (D.body ++ [N])))] ct0 (bo (diffB (sitesD (D.bdy (D.body ++ [N]))))) ct0 := different_ok _ (by
    show ((fL (D.body ++ [N])).map (·.site) ++ [D.site]).length < _
    rw [List.length_append, List.length_map, hfl, List.length_singleton]; omega)
  have hW : CallsA Tryz.prog 22 [.agg (cDc p.d ++ [lst 5 encH p.heads, .sl 12 ((p.defs.map encD).set (z.at'.tmod ((p.defs.map encD).length : Nat)).toNat (.agg [it D.id, it D.site, .str D.name, it D.firm, it D.part, lst 3 encR D.params, lst 3 encR D.given, it D.vars, it D.refs, lst 2 encA D.arrays, it D.budget, .sl 20 (D.body.map encS ++ [encS N]) false])) false, ints p.threads])] ct0 (encP (wHeads (p.ds (p.defs.set k (D.bdy (D.body ++ [N])))))) ct0 := by
    rw [hB]; exact heads_set hE (D.bdy (D.body ++ [N])) hl
  have hF := fin_set (p := p) (k := k) (D.bdy (D.body ++ [N])) hk hl
  rw [hNe] at hSi hW
  refine (Bool.eq_false_or_eq_true (decide (D.refs < 2))).elim (fun b0 => ?_) (fun b0 => ?_)
  · rw [if_pos (by rw [b0]; rfl)]
    refine fn_ok hm Tryz.func30 (fun _ => false) [] (fun _ => []) (by kernel_rfl) ?_
    refine run ?_
    refine Idx.mapG k D hE hx rfl ?_
    refine run ?_
    refine Idx.mapG k D hE hx rfl ?_
    refine run ?_
    exact Done.mk rfl rfl
  refine (Bool.eq_false_or_eq_true (diffB (sitesD (D.bdy (D.body ++ [N]))))).elim (fun b1 => ?_) (fun b1 => ?_)
  · have n1 : (!diffB (sitesD (D.bdy (D.body ++ [N])))) = false := by rw [b1]; rfl
    rw [if_neg (by rw [b0, b1]; simp)]
    refine fn_ok hm Tryz.func30 (fun _ => false) [] (fun _ => []) (by kernel_rfl) ?_
    refine run ?_
    refine Idx.mapG k D hE hx rfl ?_
    refine run ?_
    refine Idx.mapG k D hE hx rfl ?_
    refine run ?_; repeat ((apply call_ok; first | exact (hSi) | exact (hDi)); refine run ?_)
    refine Idx.mapG k D hE hx rfl ?_
    refine run ?_
    refine Idx.mapG k D hE hx rfl ?_
    refine run ?_; repeat ((apply call_ok; first | exact (hW) | exact (hF)); refine run ?_)
    exact Done.mk rfl rfl
  · have n1 : (!diffB (sitesD (D.bdy (D.body ++ [N])))) = true := by rw [b1]; rfl
    rw [if_pos (by rw [b0, b1]; rfl)]
    refine fn_ok hm Tryz.func30 (fun _ => false) [] (fun _ => []) (by kernel_rfl) ?_
    refine run ?_
    refine Idx.mapG k D hE hx rfl ?_
    refine run ?_
    refine Idx.mapG k D hE hx rfl ?_
    refine run ?_; repeat ((apply call_ok; first | exact (hSi) | exact (hDi)); refine run ?_)
    exact Done.mk rfl rfl
end Abs
