/- A part of a proof: an abstract machine, proved sound, or contracts of functions. No condition. -/
import Derived.Laws.BytesString
import Derived.Laws.IdiomStrings
import Derived.Deep.AppendSrc
import Derived.Test.YtcbpfnplkdijpaaGreatT1
set_option linter.unusedVariables false
set_option linter.unusedSimpArgs false
namespace Abs
open Go
section
variable {P : Program} {cx : Cx} {g : Gh} {s : St} {a : Act} {w : World} {o : Oper} {K : St → Prop} {Q : Go.Exit → Act → World → Prop}
def binB (P : Program) (op : BinOp) (t : TypeId) : Bool :=
  match op with
  | .eql => match und P t with | .struct _ => tyB P t && eqB P 8 t && !(P.eqGuardType P.depth t) | _ => true
  | .neq => match und P t with | .struct _ => tyB P t && eqB P 8 t && !(P.eqGuardType P.depth t) | _ => true
  | _ => true
theorem sound_binOp (h : Rel cx g s a w) (hd : dstB cx.n o.dst = true) {op : BinOp} {t t' : TypeId} {x y : Operand} (ho : o.op = .binOp op t x y t') (hb : binB P op t = true) {c : Cfg}
    (hk : exPlan P c o.dst s K (plan P o (getT P s))) : o.wp P a w (Post cx g K) Q := by
  simp only [plan, ho] at hk
  cases hx : getT P s t x with
  | none => rw [hx] at hk; exact hk.elim
  | some u =>
  cases hy : getT P s t' y with
  | none => rw [hx, hy] at hk; exact hk.elim
  | some v =>
  rw [hx, hy] at hk; dsimp only at hk
  have hu := h.get hx
  have hv := h.get hy
  have go : ∀ {v : Value} {d : Dat}, (eqGuard op t x y (a.eval x) (a.eval y)).run P w = .ok () w → (binOp op t (a.eval x) (a.eval y)).run P w = .ok v w → Rep g v d → K (s.put o.dst d) → o.wp P a w (Post cx g K) Q := by
    intro v d e0 e1 e2 e3
    refine wp_value (v := v) (w' := w) ?_ (post_put h hd e2 e3)
    simp [execOp, ho, e0, e1]
  unfold binPlan at hk
  split at hk
  ·
    rename_i k1 m1 k2 m2
    have e1 := hu.int_val
    have e2 := hv.int_val
    have hg : (eqGuard op t x y (a.eval x) (a.eval y)).run P w = .ok () w := eqGuard_plain (by rw [e1]; rfl) (by rw [e1]; simp) w
    split at hk
    · simp only [exPlan] at hk
      refine go hg (v := .int k1 (k1.wrap (m1 * 2 ^ (min m2.toNat k1.bits)))) ?_ (.pure (.int _ _)) hk.k
      have := hk.h
      rw [e1, e2]
      simp only [binOp, Op.shift]
      rw [if_neg (by omega)]; rfl
    · simp only [exPlan] at hk
      refine go hg (v := .int k1 (m1.fdiv (2 ^ (min m2.toNat k1.bits)))) ?_ (.pure (.int _ _)) hk.k
      have := hk.h
      rw [e1, e2]
      simp only [binOp, Op.shift]
      rw [if_neg (by omega)]; rfl
    · split at hk
      · rename_i hkb
        have := kindB_eq hkb; subst this
        obtain ⟨vv, d, r1, r2, r3⟩ := run_binOp_int (g := g) (w := w) (t := t) hk
        exact go hg (by rw [e1, e2]; exact r1) r2 r3
      · exact hk.elim
  ·
    rename_i l m
    have e1 := hu.str_val
    have e2 := hv.str_val
    have hg : (eqGuard op t x y (a.eval x) (a.eval y)).run P w = .ok () w := eqGuard_plain (by rw [e1]; rfl) (by rw [e1]; simp) w
    split at hk
    · exact go hg (by rw [e1, e2]; simp [binOp, Op.stringOp, toList_mk]) (.pure (.bool _)) hk
    · exact go hg (by rw [e1, e2]; simp [binOp, Op.stringOp, toList_mk]) (.pure (.bool _)) hk
    · simp only [exPlan] at hk
      have hlen := hk.h
      refine go hg (v := .string ⟨⟨l ++ m⟩⟩) ?_ (.pure (.str _)) hk.k
      rw [e1, e2]
      simp only [binOp, Op.stringOp]
      rw [if_neg (by simp [ByteArray.size, IntKind.max, IntKind.signed, IntKind.bits]; omega)]
      simp only [Sem.run_pure]
      rfl
    · exact hk.elim
  ·
    rename_i b1 b2
    have e1 := hu.bool_val
    have e2 := hv.bool_val
    have hg : (eqGuard op t x y (a.eval x) (a.eval y)).run P w = .ok () w := eqGuard_plain (by rw [e1]; rfl) (by rw [e1]; simp) w
    split at hk
    · split at hk
      · rename_i hut
        refine go hg (v := .bool (b1 == b2)) ?_ (.pure (.bool _)) hk
        rw [e1, e2]
        simp [binOp, Op.equal, Op.maxDepth, run_equalIn_bool' w 9999 t b1 b2 (und_underlying hut (by simp))]
      · exact hk.elim
    · split at hk
      · rename_i hut
        refine go hg (v := .bool (!(b1 == b2))) ?_ (.pure (.bool _)) hk
        rw [e1, e2]
        simp [binOp, Op.equal, Op.maxDepth, run_equalIn_bool' w 9999 t b1 b2 (und_underlying hut (by simp))]
      · exact hk.elim
    · exact hk.elim
  ·
    rename_i xs ys
    split at hk
    · exact hk.elim
    rename_i hlen
    simp only [Bool.and_eq_true] at hlen
    obtain ⟨⟨hl1, hl2⟩, hl3⟩ := hlen
    have l1 := Nat.eq_of_beq_eq_true hl1
    have l2 := Nat.eq_of_beq_eq_true hl2
    obtain ⟨us, e1, e2, e3⟩ := hu.agg_val
    obtain ⟨vs, e4, e5, e6⟩ := hv.agg_val
    have key : ∀ r, (match und P t with | .struct _ => tyB P t && eqB P 8 t && !(P.eqGuardType P.depth t) | _ => true) = true → eqF P 8 t xs ys = some r →
        P.eqGuardType P.depth t = false ∧ (Op.equalIn 10000 t (.agg us) (.agg vs)).run P w = .ok r w := by
      intro r hb hr
      cases hut : und P t with
      | struct fs =>
        rw [hut] at hb
        simp only [Bool.and_eq_true, Bool.not_eq_true'] at hb
        refine ⟨hb.2, ?_⟩
        exact eqF_run (g := g) 8 t xs ys (.agg us) (.agg vs) r hb.1.2 hb.1.1 hr 9992 (.inl ⟨us, vs, rfl, rfl, e2, e5, l1, l2, e3, e6, by simp [aggOf, hut]⟩)
      | _ => rw [hut] at hl3; cases hl3
    split at hk
    · split at hk
      · rename_i r hr
        obtain ⟨k1, k2⟩ := key r hb hr
        refine go (v := .bool r) ?_ ?_ (.pure (.bool _)) hk
        · rw [e1, e4]; exact run_eqGuard_agg w .eql t x y us vs k1
        · rw [e1, e4, run_eql_struct, k2]; rfl
      · exact hk.elim
    · split at hk
      · rename_i r hr
        obtain ⟨k1, k2⟩ := key r hb hr
        refine go (v := .bool (!r)) ?_ ?_ (.pure (.bool _)) hk
        · rw [e1, e4]; exact run_eqGuard_agg w .neq t x y us vs k1
        · rw [e1, e4, run_neq_struct, k2]; rfl
      · exact hk.elim
    · exact hk.elim
  · exact hk.elim
theorem sound_unOp (h : Rel cx g s a w) (hd : dstB cx.n o.dst = true) {op : UnOp} {t : TypeId} {x : Operand} (ho : o.op = .unOp op t x) {c : Cfg}
    (hk : exPlan P c o.dst s K (plan P o (getT P s))) : o.wp P a w (Post cx g K) Q := by
  simp only [plan, ho] at hk
  split at hk
  · rename_i b hx
    have e := (h.get hx).bool_val
    refine wp_value (v := .bool (!b)) (w' := w) ?_ (post_put h hd (.pure (.bool _)) hk)
    simp [execOp, ho, e, Op.unary]
  · rename_i k n hx
    have e := (h.get hx).int_val
    simp only [exPlan] at hk
    refine wp_value (v := .int k (k.wrap (0 - n))) (w' := w) ?_ (post_put h hd (.pure (.int _ _)) hk.out)
    simp [execOp, ho, e, Op.unary, Op.intArith]
  · exact hk.elim
theorem Rep.tup_val {ds : List Dat} {v : Value} (r : Rep g v (.tup ds)) : ∃ vs : Array Value, v = .tuple vs ∧ vs.size = ds.length ∧ ∀ (i : Nat) v x, vs[i]? = some v → nth ds i = some x → Rep g v x := by
  cases r with
  | pure r => cases r
  | tup hl hr => exact ⟨_, rfl, hl, hr⟩
theorem sound_extract (h : Rel cx g s a w) (hd : dstB cx.n o.dst = true) {x : Operand} {i : Nat} (ho : o.op = .extract x i) {c : Cfg}
    (hk : exPlan P c o.dst s K (plan P o (getT P s))) : o.wp P a w (Post cx g K) Q := by
  simp only [plan, ho] at hk
  split at hk
  · rename_i cs hx
    split at hk
    · rename_i d hi
      obtain ⟨vs, e1, e2, e3⟩ := (h.get hx).tup_val
      have hlt := lt_of_nth hi
      have hv : vs[i]? = some vs[i] := Array.getElem?_eq_getElem (by omega)
      refine wp_value (v := vs[i]) (w' := w) ?_ (post_put h hd (e3 i _ d hv hi) hk)
      simp [execOp, ho, e1, Instr.extract, hv]
    · exact hk.elim
  · exact hk.elim
theorem allSome_spec {α : Type} : ∀ {l : List (Option α)} {r : List α}, allSome l = some r → l = r.map some
  | [], r, h => by simp [allSome] at h; subst h; rfl
  | some x :: xs, r, h => by
    simp only [allSome] at h
    split at h
    · rename_i ys hy
      cases h
      simp [allSome_spec hy]
    · cases h
  | none :: _, r, h => by simp [allSome] at h
theorem rep_map (h : Rel cx g s a w) : ∀ {l : List Operand} {ds : List Dat}, allSome (l.map (getT P s 0)) = some ds →
    l.length = ds.length ∧ ∀ (i : Nat) v d, (l.map a.eval)[i]? = some v → nth ds i = some d → Rep g v d := by
  intro l ds hl
  have e := allSome_spec hl
  have hlen : l.length = ds.length := by simpa using congrArg List.length e
  refine ⟨hlen, fun i v d hv hd => ?_⟩
  simp only [List.getElem?_map] at hv
  cases hli : l[i]? with
  | none => rw [hli] at hv; cases hv
  | some x =>
    rw [hli] at hv
    simp only [Option.map_some, Option.some.injEq] at hv
    subst hv
    have h2 := congrArg (fun z => z[i]?) e
    simp only [List.getElem?_map, hli, Option.map_some] at h2
    rw [nth_eq] at hd
    rw [hd] at h2
    simp only [Option.map_some, Option.some.injEq] at h2
    exact h.get h2
theorem sound_makeFunc (h : Rel cx g s a w) (hd : dstB cx.n o.dst = true) {fn : Fn} {first cap : Array Operand} (ho : o.op = .makeFunc fn first cap) {c : Cfg}
    (hk : exPlan P c o.dst s K (plan P o (getT P s))) : o.wp P a w (Post cx g K) Q := by
  simp only [plan, ho] at hk
  split at hk
  · rename_i u v hu hv
    obtain ⟨p1, p2⟩ := rep_map h hu
    obtain ⟨q1, q2⟩ := rep_map h hv
    refine wp_value (v := .func fn (first.map a.eval) (cap.map a.eval)) (w' := w) ?_ (post_put h hd (.clo ?_ ?_ ?_ ?_) hk)
    · simp [execOp, ho, Instr.makeFunc]
    · simpa using p1
    · simpa using q1
    · intro i v d hv hd'
      exact p2 i v d (by simpa using hv) hd'
    · intro i v d hv hd'
      exact q2 i v d (by simpa using hv) hd'
  · exact hk.elim
theorem Rep.clo_val {fn : Fn} {df dc : List Dat} {v : Value} (r : Rep g v (.clo fn df dc)) : ∃ vf vc : Array Value, v = .func fn vf vc ∧ vf.size = df.length ∧ vc.size = dc.length ∧
    (∀ (i : Nat) v d, vf[i]? = some v → nth df i = some d → Rep g v d) ∧ ∀ (i : Nat) v d, vc[i]? = some v → nth dc i = some d → Rep g v d := by
  cases r with
  | pure r => cases r with
    | clo hf hc rf rc => exact ⟨_, _, rfl, hf, hc, fun i v d h1 h2 => .pure (rf i v d h1 h2), fun i v d h1 h2 => .pure (rc i v d h1 h2)⟩
  | clo hf hc rf rc => exact ⟨_, _, rfl, hf, hc, rf, rc⟩
theorem sound_nilCheck (h : Rel cx g s a w) (hd : dstB cx.n o.dst = true) {x : Operand} (ho : o.op = .nilCheck x) {c : Cfg}
    (hk : exPlan P c o.dst s K (plan P o (getT P s))) : o.wp P a w (Post cx g K) Q := by
  simp only [plan, ho] at hk
  split at hk
  · rename_i l off hx
    obtain ⟨b, hb, e1⟩ := (h.get hx).ptr_val
    refine wp_value (v := a.eval x) (w' := w) ?_ (post_put h hd (h.get hx) hk)
    simp [execOp, ho, e1]
  · rename_i d off hx
    obtain ⟨b, ob, e1, _⟩ := (h.get hx).imm_val
    refine wp_value (v := a.eval x) (w' := w) ?_ (post_put h hd (h.get hx) hk)
    simp [execOp, ho, e1]
  · rename_i k n i off hx
    obtain ⟨tv, b, _, _, _, _, e1⟩ := (h.get hx).eptr_val
    refine wp_value (v := a.eval x) (w' := w) ?_ (post_put h hd (h.get hx) hk)
    simp [execOp, ho, e1]
  · rename_i f u v hx
    obtain ⟨p, q, e1, _⟩ := (h.get hx).clo_val
    refine wp_value (v := a.eval x) (w' := w) ?_ (post_put h hd (h.get hx) hk)
    simp [execOp, ho, e1]
  · exact hk.elim
end
end Abs
namespace Abs
open Go
section
variable {P : Program} {cx : Cx} {g : Gh} {s : St} {a : Act} {w : World} {o : Oper} {K : St → Prop} {Q : Go.Exit → Act → World → Prop}
def fieldsAllB (P : Program) (t : TypeId) : Bool :=
  match und P t with
  | .struct fs => fs.toList.all fun f => tyB P f.type
  | _ => false
theorem run_places {fs : Array Field} (h : fs.toList.all (fun f => tyB P f.type) = true) (w : World) :
    (Array.mapM (fun f => Functor.map (Prod.mk f.offset) (Go.sizeOf f.type)) fs : Sem (Array (Nat × Nat))).run P w = .ok (fs.map fun f => (f.offset, szOf P f.type)) w := by
  rw [Array.mapM_eq_mapM_toList]
  have key : ∀ l : List Field, (l.all (fun f => tyB P f.type) = true) → (l.mapM fun f => Functor.map (Prod.mk f.offset) (Go.sizeOf f.type) : Sem (List (Nat × Nat))).run P w = .ok (l.map fun f => (f.offset, szOf P f.type)) w := by
    intro l
    induction l with
    | nil => intro _; simp
    | cons f l ih =>
      intro hl
      simp only [List.all_cons, Bool.and_eq_true] at hl
      simp only [List.mapM_cons, Sem.run_bind, Sem.run_map, run_size hl.1, Result.andThen_ok, Sem.run_pure, ih hl.2, List.map_cons]
  rw [Sem.run_map, key fs.toList h, Result.andThen_ok]
  congr 1
  apply Array.ext'
  simp
theorem foldl_set (vs : List Value) : ∀ (off k : Nat) (c : Array Value), (vs.zipIdx k).foldl (fun cs (x : Value × Nat) => cs.setIfInBounds (off + x.2) x.1) c = (splice c.toList (off + k) vs).toArray := by
  induction vs with
  | nil => intro off k c; simp [splice_nil, splice_cons]
  | cons v vs ih =>
    intro off k c
    simp only [List.zipIdx_cons, List.foldl_cons]
    rw [ih off (k + 1)]
    simp only [splice_nil, splice_cons, Array.toList_setIfInBounds]
    congr 2
    have : ∀ (l : List Value) (k : Nat) (x : Value), l.set k x = setAt l k x := by
      intro l
      induction l with
      | nil => intro k x; rfl
      | cons y l ih => intro k x; cases k with
        | zero => rfl
        | succ k => simp [setAt, ih]
    rw [this]
theorem fill_spec {place : Nat → Option (Nat × Nat)} : ∀ (ps : List (Nat × Value)) (c : Array Value) (ds : List Dat) (qs : List (Nat × Option Dat)) (r : List Dat) {t : TypeId},
    c.size = ds.length → (∀ (i : Nat) v x, c[i]? = some v → nth ds i = some x → Rep g v x ∧ leaf v = true) →
    ps.length = qs.length → (∀ (i : Nat) p q d, ps[i]? = some p → qs[i]? = some q → q.2 = some d → p.1 = q.1 ∧ Rep g p.2 d) →
    fillParts P t ds qs = some r → (∀ q ∈ qs, place q.1 = some ((Abs.fieldAt P t q.1).1, szOf P (Abs.fieldAt P t q.1).2) ∧ (Abs.fieldAt P t q.1).1 + szOf P (Abs.fieldAt P t q.1).2 ≤ ds.length) →
    ∃ c', Instr.fill place c ps = some c' ∧ c'.size = r.length ∧ ∀ (i : Nat) v x, c'[i]? = some v → nth r i = some x → Rep g v x ∧ leaf v = true
  | [], c, ds, qs, r, t, hl, hr, hlen, _, hf, _ => by
    have : qs = [] := by cases qs with | nil => rfl | cons => simp at hlen
    subst this
    simp only [fillParts] at hf; cases hf
    exact ⟨c, rfl, hl, hr⟩
  | p :: ps, c, ds, qs, r, t, hl, hr, hlen, hp, hf, hq => by
    cases qs with
    | nil => simp at hlen
    | cons q qs =>
      obtain ⟨f, od⟩ := q
      cases od with
      | none => simp [fillParts] at hf
      | some d =>
        simp only [fillParts, build0_eq] at hf
        split at hf
        · rename_i hb
          simp only [Bool.and_eq_true, Bool.not_eq_true'] at hb
          obtain ⟨hb, htup⟩ := hb
          have hb := Nat.eq_of_beq_eq_true hb
          obtain ⟨i, v⟩ := p
          obtain ⟨hi, hv⟩ := hp 0 (i, v) (f, some d) d rfl rfl rfl
          simp only at hi hv
          subst hi
          obtain ⟨q1, q2⟩ := hq (i, some d) (by simp)
          simp only at q1 q2
          have hvc := rep_cells hv (fun ds' e => by rw [e] at htup; cases htup)
          simp only [Instr.fill, q1]
          rw [if_neg (by
            have h1 : v.cells.size = szOf P (Abs.fieldAt P t i).2 := by rw [hvc.1, hb]
            simp only [h1, Bool.or_eq_true, decide_eq_true_eq, not_or]; omega)]
          have hfold : v.cells.zipIdx.foldl (fun cs (x : Value × Nat) => cs.setIfInBounds ((Abs.fieldAt P t i).1 + x.2) x.1) c = (splice c.toList (Abs.fieldAt P t i).1 v.cells.toList).toArray := by
            rw [← Array.foldl_toList, Array.toList_zipIdx, foldl_set]; rfl
          have e0 : (v.cells.zipIdx.foldl (fun cs (x : Value × Nat) => match x with | (c, j) => cs.setIfInBounds ((Abs.fieldAt P t i).1 + j) c) c) = (splice c.toList (Abs.fieldAt P t i).1 v.cells.toList).toArray := hfold
          rw [e0]
          refine fill_spec ps _ (splice ds (Abs.fieldAt P t i).1 (cells d)) qs r (t := t) (by simp [splice_length, hl]) ?_ (by simpa using hlen) (fun j p q d' h1 h2 h3 => hp (j + 1) p q d' (by simpa using h1) (by simpa using h2) h3) hf (fun q hq' => ?_)
          · exact splice_rep hl hr hvc.1 hvc.2
          · obtain ⟨q1, q2⟩ := hq q (by simp [hq'])
            exact ⟨q1, by rw [splice_length]; exact q2⟩
        · cases hf
def buildB (P : Program) (t : TypeId) (parts : Array (Nat × Operand)) : Bool :=
  fieldsAllB P t && zeroB P t && parts.toList.all fun p => fieldB P t p.1 && Nat.ble ((Abs.fieldAt P t p.1).1 + szOf P (Abs.fieldAt P t p.1).2) (szOf P t)
theorem sound_build (h : Rel cx g s a w) (hd : dstB cx.n o.dst = true) {t : TypeId} {parts : Array (Nat × Operand)} (ho : o.op = .build t parts) (hb : buildB P t parts = true) {c : Cfg}
    (hk : exPlan P c o.dst s K (plan P o (getT P s))) : o.wp P a w (Post cx g K) Q := by
  simp only [buildB, Bool.and_eq_true] at hb
  obtain ⟨⟨hfa, hz⟩, hps⟩ := hb
  simp only [plan, ho] at hk
  split at hk
  rotate_left
  · exact hk.elim
  rename_i fs hu
  split at hk
  rotate_left
  · exact hk.elim
  rename_i cs hcs
  split at hk
  rotate_left
  · exact hk.elim
  rename_i r hr
  obtain ⟨v0, z1, z2, z3⟩ := run_zero hz w
  have hv0 := (Rep.pure (g := g) (z2 g.I))
  rw [hcs] at hv0 z3
  obtain ⟨zs, e1, e2, e3⟩ := hv0.agg_val
  simp only [cells] at z3
  have hall : fs.toList.all (fun f => tyB P f.type) = true := by unfold fieldsAllB at hfa; rw [hu] at hfa; exact hfa
  · obtain ⟨c', f1, f2, f3⟩ := fill_spec (P := P) (g := g) (place := fun i => Option.map (fun f => (f.offset, szOf P f.type)) fs[i]?) (parts.toList.map fun p => (p.1, a.eval p.2)) zs cs
      (parts.toList.map fun p => (p.1, getT P s (Abs.fieldAt P t p.1).2 p.2)) r (t := t) e2 e3 (by simp) (fun i p q d h1 h2 h3 => by
        simp only [List.getElem?_map] at h1 h2
        cases hi : parts.toList[i]? with
        | none => rw [hi] at h1; cases h1
        | some x =>
          rw [hi] at h1 h2
          simp only [Option.map_some, Option.some.injEq] at h1 h2
          subst h1; subst h2
          exact ⟨rfl, h.get h3⟩) hr (fun q hq => by
        obtain ⟨p, hp, rfl⟩ := List.mem_map.1 hq
        have hp1 := List.all_eq_true.1 hps p hp
        simp only [Bool.and_eq_true] at hp1
        obtain ⟨fs', x, u1, u2, u3, u4⟩ := fieldB_info hp1.1
        rw [hu] at u1; cases u1
        refine ⟨by simp [u2, u3], by rw [z3]; exact Nat.le_of_ble_eq_true hp1.2⟩)
    refine wp_value (v := .agg c') (w' := w) ?_ (post_put h hd (.agg f2 (fun i v hv => ?_) (fun i v d hv hd => (f3 i v d hv hd).1)) hk)
    · have : (parts.map fun (x : Nat × Operand) => match x with | (i, x) => (i, a.eval x)).toList = parts.toList.map fun p => (p.1, a.eval p.2) := by simp
      simp [execOp, ho, Instr.build, z1, e1, und_of hu (by simp), run_places hall, Value.cells, f1]
    · have hi : i < r.length := by rw [← f2]; exact (Array.getElem?_eq_some_iff.1 hv).1
      obtain ⟨x, hx⟩ := nth_lt hi
      exact (f3 i v x hv hx).2
theorem flat_length {sz : Nat} {l : List Dat} (h : ∀ e ∈ l, (cells e).length = sz) : (l.flatMap cells).length = l.length * sz := by
  induction l with
  | nil => simp
  | cons x l ih =>
    simp only [List.flatMap_cons, List.length_append, List.length_cons, ih (fun e he => h e (List.mem_cons_of_mem _ he)), h x List.mem_cons_self, Nat.succ_mul]
    omega
theorem Mem.tv_none (m : Mem cx g s w) {k : Nat} (h : s.R k = none) : g.tv k = none := by
  cases ht : g.tv k with
  | none => rfl
  | some t => obtain ⟨r, hr⟩ := m.norow k t ht; rw [h] at hr; cases hr
theorem newRow_mem (h : Rel cx g s a w) {k : Nat} (hk : s.R k = none) {r : Row} (hz0 : r.sz ≠ 0) {cap : Nat} {c : Array Value} {e : TypeId} {fz : Nat × Nat} (hs : ∀ e ∈ r.es, (cells e).length = r.sz)
    (hcap : r.es.length ≤ cap) (hc : cap * r.sz ≤ c.size) (hf : Free fz c.size) (hown : r.own = true)
    (hr : ∀ j d, nth (r.es.flatMap cells) j = some d → ∃ v, c[j]? = some v ∧ RepI g.I v d ∧ leaf v = true) {s' : St} (hH : s'.H = s.H) (hR : s'.R = upd s.R k (some r)) (he : s'.env = s.env) :
    Ext g (g.row k ⟨r.sz, r.es.length, some w.heap.size, cap⟩) ∧ Rel cx (g.row k ⟨r.sz, r.es.length, some w.heap.size, cap⟩) s' a (pushB w (.cells c e fz)) := by
  have hx : Ext g (g.row k ⟨r.sz, r.es.length, some w.heap.size, cap⟩) := g.row_ext (.inl (h.mem.tv_none hk))
  refine ⟨hx, fun t d hd => (h.env t d (by rw [← he]; exact hd)).mono hx, h.size, h.defers, ?_⟩
  have hnoI : ∀ j, g.I w.heap.size j = none := by
    intro j
    cases hj : g.I w.heap.size j with
    | none => rfl
    | some v => exact absurd (h.mem.I_lt hj) (Nat.lt_irrefl _)
  refine h.mem.setRow (k := k) (r := r) (t := ⟨r.sz, r.es.length, some w.heap.size, cap⟩) hx rfl rfl (fun _ _ => rfl) ?_ rfl rfl hs ?_ ?_ hH hR
  · exact ⟨rfl, rfl, rfl, by simp [pushB], fun b hb _ => heap_push_old w _ b hb⟩
  · refine ⟨fun _ => ?_, fun e => absurd e hz0⟩
    refine ⟨hcap, h.mem.new _ (Nat.le_refl _), fun l hl => absurd (h.mem.mu_lt hl) (Nat.lt_irrefl _), c, e, fz, heap_push_new _ _, hf, hc, fun j _ => hnoI j, fun _ j => hnoI j, fun j d hd => ?_⟩
    obtain ⟨v, v1, v2, v3⟩ := hr j d hd
    exact ⟨v, v1, v2, v3, fun ho => by rw [hown] at ho; cases ho⟩
  · intro b hb
    cases hb
    refine ⟨fun j u hj hu hub => absurd (h.mem.tv_blk hu hub).1 (Nat.lt_irrefl _), fun o v hv => ?_⟩
    have : g.I w.heap.size o = some v := hv
    rw [hnoI o] at this; cases this
theorem post_newRow (h : Rel cx g s a w) {t : Nat} (hd : dstB cx.n (some t) = true) (hn : s.R t = none) {sz cap : Nat} (hz0 : sz ≠ 0) {es : List Dat} {c : Array Value} {e : TypeId} {fz : Nat × Nat} (hs : ∀ e ∈ es, (cells e).length = sz)
    (hcap : es.length ≤ cap) (hc : cap * sz ≤ c.size) (hf : Free fz c.size)
    (hr : ∀ j d, nth (es.flatMap cells) j = some d → ∃ v, c[j]? = some v ∧ RepI g.I v d ∧ leaf v = true)
    (hk : K { env := upd s.env t (some (.ref t es.length)), H := s.H, hn := s.hn, R := upd s.R t (some ⟨sz, true, es⟩), rn := t :: s.rn, y := s.y }) :
    Post cx g K (a.put (some t) (.slice (some ⟨w.heap.size, 0, none⟩) es.length cap)) (pushB w (.cells c e fz)) := by
  obtain ⟨h1, h2⟩ := newRow_mem (r := ⟨sz, true, es⟩) h hn hz0 hs hcap hc hf rfl hr (s' := { env := s.env, H := s.H, hn := s.hn, R := upd s.R t (some ⟨sz, true, es⟩), rn := t :: s.rn, y := s.y }) (e := e) rfl rfl rfl
  refine ⟨_, _, hk, h1, ?_⟩
  exact h2.put hd (.ref ⟨sz, es.length, some w.heap.size, cap⟩ (by simp [Gh.row, upd_eq]) (Nat.le_refl _) (fun _ => rfl) ⟨_, _, rfl⟩)
def sliceB (P : Program) (t : TypeId) (n : Nat) : Bool :=
  match und P t with
  | .slice e => tyB P e && zeroB P e && Nat.ble (n * szOf P e) (2 ^ 24)
  | _ => false
theorem rowParts_spec {sz : Nat} : ∀ {i : Nat} {l : List (Nat × Option Dat)} {es : List Dat}, rowParts sz i l = some es →
    l.length = es.length ∧ (∀ e ∈ es, (cells e).length = sz ∧ isTup e = false) ∧ ∀ (j : Nat) p, l[j]? = some p → p.1 = i + j ∧ ∃ d, p.2 = some d ∧ nth es j = some d
  | i, [], es, h => by simp [rowParts] at h; subst h; exact ⟨rfl, by simp, by simp⟩
  | i, (j, some d) :: rest, es, h => by
    simp only [rowParts] at h
    split at h
    · rename_i hb
      simp only [Bool.and_eq_true, Bool.not_eq_true'] at hb
      obtain ⟨⟨b1, b2⟩, b3⟩ := hb
      have b1 := Nat.eq_of_beq_eq_true b1
      have b2 := Nat.eq_of_beq_eq_true b2
      split at h
      · rename_i l hl
        cases h
        obtain ⟨h1, h2, h3⟩ := rowParts_spec hl
        refine ⟨by simp [h1], ?_, ?_⟩
        · intro e he
          rcases List.mem_cons.1 he with rfl | he
          · exact ⟨b2, b3⟩
          · exact h2 e he
        · intro q p hp
          cases q with
          | zero => simp at hp; subst hp; exact ⟨by simp [b1], d, rfl, rfl⟩
          | succ q =>
            obtain ⟨e1, d', e2, e3⟩ := h3 q p (by simpa using hp)
            exact ⟨by rw [e1]; omega, d', e2, e3⟩
      · cases h
    · cases h
  | i, (_, none) :: _, es, h => by simp [rowParts] at h
theorem fill_row {sz : Nat} : ∀ (ps : List (Nat × Value)) (es : List Dat) (i : Nat) (c : Array Value) (ds : List Dat), ps.length = es.length → (∀ e ∈ es, (cells e).length = sz) →
    (∀ (j : Nat) p d, ps[j]? = some p → nth es j = some d → p.1 = i + j ∧ RepI g.I p.2 d) →
    ds.length = i * sz → (i + es.length) * sz ≤ c.size → (∀ (j : Nat) v x, c[j]? = some v → nth ds j = some x → RepI g.I v x ∧ leaf v = true) →
    ∃ c', Instr.fill (fun i => some (i * sz, sz)) c ps = some c' ∧ c'.size = c.size ∧ ∀ (j : Nat) v x, c'[j]? = some v → nth (ds ++ es.flatMap cells) j = some x → RepI g.I v x ∧ leaf v = true
  | [], es, i, c, ds, hl, _, _, _, _, hc => by
    have : es = [] := by cases es with | nil => rfl | cons => simp at hl
    subst this
    exact ⟨c, rfl, rfl, by simpa using hc⟩
  | p :: ps, es, i, c, ds, hl, hs, hp, hd, hlen, hc => by
    cases es with
    | nil => simp at hl
    | cons e es =>
      obtain ⟨q, v⟩ := p
      obtain ⟨h1, h2⟩ := hp 0 (q, v) e rfl rfl
      simp only [Nat.add_zero] at h1 h2
      subst h1
      have hvc := repI_cells h2
      have hse := hs e (by simp)
      simp only [List.length_cons] at hlen
      have hsp : q * sz + sz ≤ c.size := by
        have : q * sz + sz ≤ (q + (es.length + 1)) * sz := by rw [← Nat.succ_mul]; exact Nat.mul_le_mul_right _ (by omega)
        omega
      simp only [Instr.fill]
      rw [if_neg (by simp only [hvc.1, hse, Bool.or_eq_true, decide_eq_true_eq, not_or]; omega)]
      have e0 : (v.cells.zipIdx.foldl (fun cs (x : Value × Nat) => match x with | (c, j) => cs.setIfInBounds (q * sz + j) c) c) = (splice c.toList (q * sz) v.cells.toList).toArray := by
        have := foldl_set v.cells.toList (q * sz) 0 c
        rw [← Array.foldl_toList, Array.toList_zipIdx]; exact this
      rw [e0]
      obtain ⟨c', k1, k2, k3⟩ := fill_row ps es (q + 1) ((splice c.toList (q * sz) v.cells.toList).toArray) (ds ++ cells e) (by simpa using hl) (fun e he => hs e (by simp [he]))
        (fun j p d h1 h2 => by
          have := hp (j + 1) p d (by simpa using h1) (by simpa [nth] using h2)
          exact ⟨by rw [this.1]; omega, this.2⟩) (by rw [List.length_append, hd, hse, Nat.succ_mul]) (by simp [splice_length]; rw [show q + 1 + es.length = q + (es.length + 1) by omega]; exact hlen)
        (fun j u x hu hx => by
          have hu' : nth (splice c.toList (q * sz) v.cells.toList) j = some u := by rw [nth_eq]; simpa using hu
          rw [nth_splice] at hu'
          simp only [Array.length_toList] at hu'
          rw [nth_eq, List.getElem?_append, ← nth_eq, ← nth_eq] at hx
          by_cases hj : j < ds.length
          · rw [if_pos hj] at hx
            rw [if_neg (by omega)] at hu'
            exact hc j u x (by rw [nth_eq] at hu'; simpa using hu') hx
          · rw [if_neg hj] at hx
            have hlt := lt_of_nth hx
            rw [if_pos (by rw [hvc.1]; omega)] at hu'
            refine hvc.2 (j - ds.length) u x ?_ hx
            rw [nth_eq] at hu'; rw [hd]; simpa using hu')
      refine ⟨c', k1, by rw [k2]; simp [splice_length], fun j u x hu hx => k3 j u x hu ?_⟩
      simpa [List.append_assoc] using hx
theorem sound_buildSlice (h : Rel cx g s a w) (hd : dstB cx.n o.dst = true) {t : TypeId} {n : Nat} {parts : Array (Nat × Operand)} (ho : o.op = .buildSlice t n parts) (hb : sliceB P t n = true) {c : Cfg}
    (hk : exPlan P c o.dst s K (plan P o (getT P s))) : o.wp P a w (Post cx g K) Q := by
  unfold sliceB at hb
  split at hb
  rotate_left
  · cases hb
  rename_i e hu
  simp only [Bool.and_eq_true] at hb
  obtain ⟨⟨hte, hz⟩, h24⟩ := hb
  have h24 := Nat.le_of_ble_eq_true h24
  have hel := elemT_slice hu
  simp only [plan, ho] at hk
  split at hk
  rotate_left
  · exact hk.elim
  rename_i hlen
  have hlen := Nat.eq_of_beq_eq_true hlen
  split at hk
  rotate_left
  · exact hk.elim
  rename_i es hes
  rw [hel] at hes hk
  obtain ⟨r1, r2, r3⟩ := rowParts_spec hes
  simp only [exPlan] at hk
  cases hdst : o.dst with
  | none => rw [hdst] at hk; exact hk.elim
  | some u =>
    rw [hdst] at hk; dsimp only at hk
    obtain ⟨s1, es1, g1, k1, l1, n1, q1⟩ := leakAll_sound es h hk
    have hz0 : szOf P e ≠ 0 := fun e0 => by rw [e0] at k1; exact k1
    have hzb : Nat.beq (szOf P e) 0 = false := beq_ne hz0
    rw [hzb] at k1; dsimp only at k1
    cases hr : s1.R u with
    | some r => rw [hr] at k1; exact k1.elim
    | none =>
      rw [hr] at k1; dsimp only at k1
      obtain ⟨v0, z1, z2, z3⟩ := run_zero hz w
      have hn : es1.length = n := by rw [n1, ← r1]; simpa using hlen
      have hs1 : ∀ x ∈ es1, (cells x).length = szOf P e := by
        intro x hx
        obtain ⟨i, hi⟩ := List.mem_iff_getElem?.1 hx
        have hi' : i < es.length := by rw [← n1]; exact (List.getElem?_eq_some_iff.1 hi).1
        obtain ⟨y, hy⟩ := nth_lt hi'
        obtain ⟨d', e1, e2, _⟩ := q1 i y hy
        rw [nth_eq, hi] at e1; cases e1
        rw [e2]; exact (r2 y (mem_of_nth hy)).1
      obtain ⟨c', f1, f2, f3⟩ := fill_row (g := g1) (sz := szOf P e) (parts.toList.map fun p => (p.1, a.eval p.2)) es1 0
        (((Array.range (n * szOf P e)).map fun i => (if n * szOf P e = 0 then #[] else v0.cells)[i % (if n * szOf P e = 0 then (#[] : Array Value) else v0.cells).size]!)) [] (by simp [hn, hlen]) hs1
        (fun j p d hp hd => by
          simp only [List.getElem?_map] at hp
          cases hj : parts.toList[j]? with
          | none => rw [hj] at hp; cases hp
          | some x =>
            rw [hj] at hp
            simp only [Option.map_some, Option.some.injEq] at hp
            subst hp
            obtain ⟨e1, d0, e2, e3⟩ := r3 j _ (by rw [List.getElem?_map, hj]; rfl)
            obtain ⟨d', e4, _, e5⟩ := q1 j d0 e3
            rw [hd] at e4; cases e4
            exact ⟨e1, e5 _ (h.get e2)⟩) (by simp) (by simp [hn]) (by simp [nth])
      refine wp_value (v := .slice (some ⟨w.heap.size, 0, none⟩) n n) (w' := pushB w (.cells c' e (0, 0))) ?_ ?_
      · have e0 : (parts.map fun (x : Nat × Operand) => match x with | (i, x) => (i, a.eval x)).toList = parts.toList.map fun p => (p.1, a.eval p.2) := by simp
        by_cases h0 : n * szOf P e = 0
        · rw [h0] at f1
          simp only [if_true, Array.range, Array.ofFn_zero, Array.map_empty] at f1
          have h24' : ¬ 0 > 2 ^ 24 := by omega
          simp only [execOp, ho, Instr.buildSlice, Sem.run_bind, und_of hu (by simp), Result.andThen_ok, run_size hte, h0, if_true, e0]
          rw [if_neg h24']
          simp only [Sem.run_bind, Sem.run_pure, Result.andThen_ok, Array.range, Array.ofFn_zero, Array.map_empty, f1]
          simp [newRow, pushB]
        · rw [if_neg h0] at f1
          simp only [execOp, ho, Instr.buildSlice, Sem.run_bind, und_of hu (by simp), Result.andThen_ok, run_size hte, h0, if_false, e0]
          rw [if_neg (by omega)]
          simp [z1, f1, newRow, pushB]
      · rw [hdst] at hd ⊢
        have := post_newRow (K := K) (a := a) (s := s1) (g := g1) (e := e) (cap := n) (es := es1) (sz := szOf P e) (c := c') (fz := (0, 0)) l1.rel hd hr hz0 hs1 (by omega) (by rw [f2]; simp) (fun o _ => by simp) (fun j d hd => ?_) k1
        · obtain ⟨s2, g2, p1, p2, p3⟩ := this
          rw [hn] at p3
          exact ⟨s2, g2, p1, l1.ext.trans p2, p3⟩
        · have hj : j < c'.size := by
            have h1 := lt_of_nth hd
            rw [flat_length hs1, hn] at h1
            rw [f2]; simpa using h1
          exact ⟨c'[j], by simp [hj], f3 j c'[j] d (by simp [hj]) (by simpa using hd)⟩
end
end Abs
namespace Abs
open Go
section
variable {P : Program} {cx : Cx} {g : Gh} {s : St} {a : Act} {w : World} {o : Oper} {K : St → Prop} {Q : Go.Exit → Act → World → Prop}
theorem rdRow_sound (h : Rel cx g s a w) {d : Dat} {K' : List Dat → Prop} (hk : rdRow s d K') {v : Value} (hv : Rep g v d) (hns : ∀ l, d ≠ .str l) {sz : Nat} (hz : rowSz s sz d = true) :
    ∃ es, K' es ∧ (∃ a cap, v = .slice a es.length cap) ∧ (∀ e ∈ es, (cells e).length = sz) ∧ (es ≠ [] → ∃ b o cap, v = .slice (some ⟨b, o, none⟩) es.length cap ∧
      ∀ j x, nth (es.flatMap cells) j = some x → ∃ u, w.cell? ⟨b, o + j, none⟩ = some u ∧ RepI g.I u x ∧ leaf u = true) := by
  cases d with
  | sl z es nl =>
    have hz : z = sz := Nat.eq_of_beq_eq_true hz
    subst hz
    have h1 := hv.sl_val
    obtain ⟨⟨p, cap, e1⟩, h2⟩ := h1.sl_val
    refine ⟨es, hk, ⟨p, cap, e1⟩, ?_, fun hne => ?_⟩
    · by_cases hne : es = []
      · subst hne; simp
      · obtain ⟨_, _, _, _, f, hs, _⟩ := h2 hne; exact hs
    · obtain ⟨b, ob, cap', e2, f, hs, hf⟩ := h2 hne
      refine ⟨b, ob, cap', e2, fun j x hx => ⟨f j, (h.mem.iw _ _ _ (hf j x hx).1).1, (hf j x hx).2, (h.mem.iw _ _ _ (hf j x hx).1).2⟩⟩
  | ref k n =>
    simp only [rdRow] at hk
    cases hr : s.R k with
    | none => rw [hr] at hk; exact hk.elim
    | some r =>
      rw [hr] at hk
      have hz0 := (rowSz_ref hr hz).2
      have hz : r.sz = sz := (rowSz_ref hr hz).1
      obtain ⟨tv, t1, t2, t3, t4, t5, t6⟩ := h.mem.ref_row hv hr hk.h
      have t6 := t6.o hz0
      refine ⟨r.es, hk.k, ?_, by rw [← hz]; exact t5, fun hne => ?_⟩
      · rw [t4]; unfold Tv.value
        cases hb : tv.base with
        | none =>
          unfold RowO at t6; rw [hb] at t6; dsimp only at t6 ⊢
          rw [t6.1]; exact ⟨_, _, rfl⟩
        | some b => rw [← t3]; exact ⟨_, _, rfl⟩
      · unfold RowO at t6
        cases hb : tv.base with
        | none => rw [hb] at t6; exact absurd t6.1 hne
        | some b =>
          rw [hb] at t6
          obtain ⟨_, _, _, cc, e, fz, c1, c2, c3, c4, c5, c6⟩ := t6
          refine ⟨b, 0, tv.cap, by rw [t4]; unfold Tv.value; rw [hb, t3], fun j x hx => ?_⟩
          obtain ⟨u, u1, u2, u3, _⟩ := c6 j x hx
          exact ⟨u, by rw [cell_blk c1, Nat.zero_add]; exact u1, u2, u3⟩
  | str l => exact absurd rfl (hns l)
  | _ => exact hk.elim
theorem args_eval (h : Rel cx g s a w) : ∀ {l : List Operand} {ts : List TypeId} {ds : List Dat}, allSome (typedArgs (getT P s) l ts) = some ds →
    (l.map a.eval).length = ds.length ∧ ∀ (i : Nat) v d, (l.map a.eval)[i]? = some v → nth ds i = some d → Rep g v d
  | [], ts, ds, hd => by
    cases ts <;> (simp [typedArgs, allSome] at hd; subst hd; exact ⟨rfl, by simp⟩)
  | x :: l, t :: ts, ds, hd => by
    simp only [typedArgs] at hd
    cases hx : getT P s t x with
    | none => rw [hx] at hd; simp [allSome] at hd
    | some d0 =>
      rw [hx] at hd
      simp only [allSome] at hd
      split at hd
      · rename_i ys hy
        cases hd
        obtain ⟨h1, h2⟩ := args_eval h hy
        refine ⟨by simpa using h1, fun i v d hv hdd => ?_⟩
        cases i with
        | zero => simp at hv; simp [nth] at hdd; subst hv; subst hdd; exact h.get hx
        | succ i => exact h2 i v d (by simpa using hv) (by simpa [nth] using hdd)
      · cases hd
  | x :: l, [], ds, hd => by
    simp only [typedArgs] at hd
    cases hx : getT P s 0 x with
    | none => rw [hx] at hd; simp [allSome] at hd
    | some d0 =>
      rw [hx] at hd
      simp only [allSome] at hd
      split at hd
      · rename_i ys hy
        cases hd
        obtain ⟨h1, h2⟩ := args_eval h hy
        refine ⟨by simpa using h1, fun i v d hv hdd => ?_⟩
        cases i with
        | zero => simp at hv; simp [nth] at hdd; subst hv; subst hdd; exact h.get hx
        | succ i => exact h2 i v d (by simpa using hv) (by simpa [nth] using hdd)
      · cases hd
theorem run_builtin {b : Builtin} {c : Call} (hc : c.callee = .builtin b) (ho : o.op = .call c) (a : Act) :
    ∃ q, execOp a.eval o = builtin b c.argTypes o.type q (c.args.map a.eval) :=
  ⟨c.args.map fun | .const _ => true | _ => false, by simp [execOp, ho, resolve, hc, invoke]; rfl⟩
theorem one_arg {l : List Value} {ds : List Dat} {d : Dat} (h : l.length = ds.length ∧ ∀ (i : Nat) v d, l[i]? = some v → nth ds i = some d → Rep g v d) (hd : ds = [d]) : ∃ v, l = [v] ∧ Rep g v d := by
  subst hd
  cases l with
  | nil => simp at h
  | cons v l =>
    cases l with
    | nil => exact ⟨v, rfl, h.2 0 v d rfl rfl⟩
    | cons => simp at h
theorem two_args {l : List Value} {ds : List Dat} {d e : Dat} (h : l.length = ds.length ∧ ∀ (i : Nat) v d, l[i]? = some v → nth ds i = some d → Rep g v d) (hd : ds = [d, e]) : ∃ v u, l = [v, u] ∧ Rep g v d ∧ Rep g u e := by
  subst hd
  match l, h with
  | [v, u], h => exact ⟨v, u, rfl, h.2 0 v d rfl rfl, h.2 1 u e rfl rfl⟩
  | [], h => simp at h
  | [_], h => simp at h
  | _ :: _ :: _ :: _, h => simp at h
theorem Rep.sl_len {z : Nat} {es : List Dat} {nl : Bool} {v : Value} (r : Rep g v (.sl z es nl)) : ∃ p cap, v = .slice p es.length cap := r.sl_val.sl_val.1
theorem minI_run : ∀ (l : List Dat) (vs : List Value) (k : IntKind) (x r : Int), vs.length = l.length → (∀ (i : Nat) v d, vs[i]? = some v → nth l i = some d → Rep g v d) → minI x l = some r →
    (vs.foldlM Builtin.min2 (.int k x)).run P w = .ok (.int k r) w
  | [], vs, k, x, r, hl, _, h => by
    have : vs = [] := by cases vs with | nil => rfl | cons => simp at hl
    subst this
    simp [minI] at h; subst h; simp
  | d :: l, vs, k, x, r, hl, hr, h => by
    cases vs with
    | nil => simp at hl
    | cons v vs =>
      cases d with
      | int k' b =>
        have hv := (hr 0 v _ rfl rfl).int_val
        simp only [minI] at h
        have ih := minI_run l vs k _ r (by simpa using hl) (fun i v d h1 h2 => hr (i + 1) v d (by simpa using h1) (by simpa [nth] using h2)) h
        simp only [List.foldlM_cons, hv, Builtin.min2, Sem.run_bind, Sem.run_pure, Result.andThen_ok]
        exact ih
      | _ => simp [minI] at h
theorem maxI_run : ∀ (l : List Dat) (vs : List Value) (k : IntKind) (x r : Int), vs.length = l.length → (∀ (i : Nat) v d, vs[i]? = some v → nth l i = some d → Rep g v d) → maxI x l = some r →
    (vs.foldlM Builtin.max2 (.int k x)).run P w = .ok (.int k r) w
  | [], vs, k, x, r, hl, _, h => by
    have : vs = [] := by cases vs with | nil => rfl | cons => simp at hl
    subst this
    simp [maxI] at h; subst h; simp
  | d :: l, vs, k, x, r, hl, hr, h => by
    cases vs with
    | nil => simp at hl
    | cons v vs =>
      cases d with
      | int k' b =>
        have hv := (hr 0 v _ rfl rfl).int_val
        simp only [maxI] at h
        have ih := maxI_run l vs k _ r (by simpa using hl) (fun i v d h1 h2 => hr (i + 1) v d (by simpa using h1) (by simpa [nth] using h2)) h
        simp only [List.foldlM_cons, hv, Builtin.max2, Sem.run_bind, Sem.run_pure, Result.andThen_ok]
        exact ih
      | _ => simp [maxI] at h
theorem headD_arg {c : Call} {t : TypeId} (ht : c.argTypes.toList.headD 0 = t) (hne : c.argTypes.size ≠ 0) : c.argTypes[0]? = some t := by
  cases h : c.argTypes.toList with
  | nil => exact absurd (by simpa using congrArg List.length h) hne
  | cons x l =>
    rw [h] at ht
    simp at ht; subst ht
    have : c.argTypes[0]? = c.argTypes.toList[0]? := by simp
    rw [this, h]; rfl
theorem sound_len (h : Rel cx g s a w) (hd : dstB cx.n o.dst = true) {c : Call} (hc : c.callee = .builtin .len) (ho : o.op = .call c) (hn : c.argTypes.size ≠ 0) {cf : Cfg}
    (hk : exPlan P cf o.dst s K (plan P o (getT P s))) : o.wp P a w (Post cx g K) Q := by
  simp only [plan, ho, callPlan, hc] at hk
  split at hk
  · exact hk.elim
  rename_i ds hds
  have hev := args_eval h hds
  obtain ⟨q, hrun⟩ := run_builtin hc ho a
  have h0 := headD_arg (c := c) rfl hn
  generalize c.argTypes.toList.headD 0 = T at *
  have hgo : ∀ {v u : Value} {d e : Dat}, c.args.toList.map a.eval = [v] → (Builtin.len_ c.argTypes o.type #[v]).run P w = .ok u w → Rep g u e → K (s.put o.dst e) → o.wp P a w (Post cx g K) Q := by
    intro v u d e e1 e2 e3 e4
    refine wp_value (v := u) (w' := w) ?_ (post_put h hd e3 e4)
    have ea : c.args.map a.eval = #[v] := by apply Array.ext'; simpa using e1
    rw [hrun, ea]
    simp [builtin, e2]
  split at hk
  · rename_i hu
    obtain ⟨v, e1, e2⟩ := one_arg hev rfl
    obtain ⟨p, cap, e3⟩ := e2.sl_len
    refine hgo (d := .any) e1 ?_ (.pure (.int _ _)) hk
    simp [Builtin.len_, h0, und_of hu (by simp), e3, goInt]
  · rename_i hu
    obtain ⟨v, e1, e2⟩ := one_arg hev rfl
    obtain ⟨_, _, _, _, p, cap, e3⟩ := e2.ref_val
    refine hgo (d := .any) e1 ?_ (.pure (.int _ _)) hk
    simp [Builtin.len_, h0, und_of hu (by simp), e3, goInt]
  · rename_i hu
    obtain ⟨v, e1, e2⟩ := one_arg hev rfl
    refine hgo (d := .any) e1 ?_ (.pure (.int _ _)) hk
    rw [e2.str_val]
    simp only [Builtin.len_, h0, List.getElem?_toArray, List.getElem?_cons_zero, Sem.run_bind, und_of hu (by simp), Result.andThen_ok]
    rfl
  · rename_i hu
    obtain ⟨v, e1, e2⟩ := one_arg hev rfl
    simp only [exPlan] at hk
    split at hk
    · rename_i row hr
      split at hk
      · obtain ⟨_, t, b, es, clock, _, _, _, _, hv, _, _, _, _, hb, hm⟩ := h.mem.map_at e2 hr
        refine hgo (d := .any) (u := goInt es.size) e1 ?_ (.pure (.int _ _)) (by rw [← hm.len] at hk; simpa using hk)
        subst hv
        simp only [Builtin.len_, h0, List.getElem?_toArray, List.getElem?_cons_zero, Sem.run_bind, und_of hu (by simp), Result.andThen_ok, run_getMap hb]
        rfl
      · exact hk.elim
    · exact hk.elim
  · exact hk.elim
theorem sound_min (h : Rel cx g s a w) (hd : dstB cx.n o.dst = true) {c : Call} (hc : c.callee = .builtin .min ∨ c.callee = .builtin .max) (ho : o.op = .call c) {cf : Cfg}
    (hk : exPlan P cf o.dst s K (plan P o (getT P s))) : o.wp P a w (Post cx g K) Q := by
  rcases hc with hc | hc
  all_goals
    simp only [plan, ho, callPlan, hc] at hk
    split at hk
    · exact hk.elim
    rename_i ds hds
    have hev := args_eval h hds
    obtain ⟨q, hrun⟩ := run_builtin hc ho a
    split at hk
    rotate_left
    · exact hk.elim
    rename_i k x rest
    split at hk
    rotate_left
    · exact hk.elim
    rename_i r hr
    have hl : ∃ vs, c.args.toList.map a.eval = .int k x :: vs ∧ vs.length = rest.length ∧ ∀ (i : Nat) v d, vs[i]? = some v → nth rest i = some d → Rep g v d := by
      obtain ⟨h1, h2⟩ := hev
      cases hm : c.args.toList.map a.eval with
      | nil => rw [hm] at h1; simp at h1
      | cons v vs =>
        rw [hm] at h1 h2
        refine ⟨vs, by rw [(h2 0 v _ rfl rfl).int_val], by simpa using h1, fun i v d h3 h4 => h2 (i + 1) v d (by simpa using h3) (by simpa [nth] using h4)⟩
    obtain ⟨vs, e1, e2, e3⟩ := hl
    have ea : (c.args.map a.eval).toList = .int k x :: vs := by simpa using e1
    refine wp_value (v := .int k r) (w' := w) ?_ (post_put h hd (.pure (.int _ _)) hk)
    rw [hrun]
  · simp only [builtin, Sem.run_bind, Builtin.min_, ea, minI_run rest vs k x r e2 e3 hr, Result.andThen_ok, Sem.run_pure]
  · simp only [builtin, Sem.run_bind, Builtin.max_, ea, maxI_run rest vs k x r e2 e3 hr, Result.andThen_ok, Sem.run_pure]
end
end Abs
namespace Abs
open Go
section
variable {P : Program} {cx : Cx} {g : Gh} {s : St} {a : Act} {w : World} {o : Oper} {K : St → Prop} {Q : Go.Exit → Act → World → Prop}
theorem flat_take {sz : Nat} {es : List Dat} (h : ∀ e ∈ es, (cells e).length = sz) (n j : Nat) (hj : j < n * sz) : nth ((es.take n).flatMap cells) j = nth (es.flatMap cells) j := by
  have e : es.flatMap cells = (es.take n).flatMap cells ++ (es.drop n).flatMap cells := by
    conv => lhs; rw [← List.take_append_drop n es]
    rw [List.flatMap_append]
  rw [e, nth_eq, nth_eq]
  rcases Nat.lt_or_ge j ((es.take n).flatMap cells).length with h1 | h1
  · rw [List.getElem?_append_left h1]
  · rw [List.getElem?_append_right h1, List.getElem?_eq_none h1]
    symm
    have h2 := flat_length (l := es.take n) (fun e he => h e (List.mem_of_mem_take he))
    have h3 : (es.take n).length = min n es.length := List.length_take
    rw [h2, h3] at h1
    have h4 : es.length ≤ n := by
      rcases Nat.le_total es.length n with h5 | h5
      · exact h5
      · rw [Nat.min_eq_left h5] at h1; omega
    rw [List.drop_eq_nil_of_le h4]; simp
theorem flat_drop {sz : Nat} {es : List Dat} (h : ∀ e ∈ es, (cells e).length = sz) (n j : Nat) (hn : n ≤ es.length) : nth ((es.drop n).flatMap cells) j = nth (es.flatMap cells) (n * sz + j) := by
  have e : es.flatMap cells = (es.take n).flatMap cells ++ (es.drop n).flatMap cells := by
    conv => lhs; rw [← List.take_append_drop n es]
    rw [List.flatMap_append]
  have h2 := flat_length (l := es.take n) (fun e he => h e (List.mem_of_mem_take he))
  have h3 : (es.take n).length = n := by rw [List.length_take]; exact Nat.min_eq_left hn
  rw [h3] at h2
  rw [e, nth_eq, nth_eq, List.getElem?_append_right (by rw [h2]; omega), h2]
  congr 1; omega
theorem cut_eq {α : Type} (es : List α) (lo hi : Option Int) (h : 0 ≤ lo.getD 0 ∧ lo.getD 0 ≤ hi.getD es.length ∧ hi.getD es.length ≤ es.length) :
    cut es lo hi = (es.drop (lo.getD 0).toNat).take ((hi.getD (es.length : Int)).toNat - (lo.getD 0).toNat) := by
  cases lo with
  | none =>
    cases hi with
    | none => simp [cut]
    | some b => simp [cut]
  | some a =>
    cases hi with
    | none =>
      simp only [cut, Option.getD_some, Option.getD_none, Int.toNat_natCast]
      rw [List.take_of_length_le (by simp)]
    | some b =>
      simp only [Option.getD_some] at h
      simp only [cut, Option.getD_some]
      congr 1; omega
theorem sub_rep {I : Nat → Nat → Option Value} {sz : Nat} {es : List Dat} {v : Value} (r : RepI I v (.sl sz es false)) {l n : Nat} (h1 : l ≤ n) (h2 : n ≤ es.length) :
    ∃ p cap, v = .slice p es.length cap ∧ es.length ≤ cap ∧ RepI I (.slice (if cap = l then p else p.map (·.add (l * sz))) (n - l) (cap - l)) (.sl sz ((es.drop l).take (n - l)) false) := by
  cases r with
  | slnil =>
    have e1 : l = 0 := by simp at h2; omega
    have e2 : n = 0 := by simp at h2; omega
    subst e1; subst e2
    exact ⟨none, 0, rfl, Nat.le_refl _, .slnil _ _⟩
  | sl0 p cap =>
    have e1 : l = 0 := by simp at h2; omega
    have e2 : n = 0 := by simp at h2; omega
    subst e1; subst e2
    exact ⟨p, cap, rfl, Nat.zero_le _, .sl0 _ _ _⟩
  | sl b ob cap _ _ f hc hs hi hr =>
    refine ⟨_, _, rfl, hc, ?_⟩
    by_cases hcl : cap = l
    · have e1 : n = l := by omega
      subst e1
      rw [if_pos hcl, Nat.sub_self]
      simp only [List.take_zero]
      exact .sl0 _ _ _
    · rw [if_neg hcl]
      have hs' : ∀ e ∈ (es.drop l).take (n - l), (cells e).length = sz := fun e he => hs e (List.mem_of_mem_drop (List.mem_of_mem_take he))
      have hl : ((es.drop l).take (n - l)).length = n - l := by simp; omega
      have key : ∀ j d, nth (((es.drop l).take (n - l)).flatMap cells) j = some d → nth (es.flatMap cells) (l * sz + j) = some d := by
        intro j d hd
        have hj := lt_of_nth hd
        rw [flat_length hs', hl] at hj
        rw [flat_take (fun e he => hs e (List.mem_of_mem_drop he)) _ _ hj, flat_drop hs l j (by omega)] at hd
        exact hd
      have := RepI.sl (I := I) b (ob + l * sz) (cap - l) sz ((es.drop l).take (n - l)) (fun j => f (l * sz + j)) (by rw [hl]; omega) hs'
        (fun j d hd => by rw [Nat.add_assoc]; exact hi _ d (key j d hd)) (fun j d hd => hr _ d (key j d hd))
      rw [hl] at this
      simp only [Option.map_some, add_addr]
      exact this
theorem RepI.sl_false {I : Nat → Nat → Option Value} {sz : Nat} {es : List Dat} {nl : Bool} {v : Value} (r : RepI I v (.sl sz es nl)) : RepI I v (.sl sz es false) := by
  cases r with
  | slnil => exact .slnil _ _
  | sl0 => exact .sl0 _ _ _
  | sl b o cap _ _ f hc hs hi hr => exact .sl b o cap _ _ f hc hs hi hr
theorem run_bounds {isSlice : Bool} {len cap l n : Nat} {lo hi : Option Value} (hlo : (lo = none ∧ l = 0) ∨ ∃ k x, lo = some (.int k x) ∧ 0 ≤ x ∧ x.toNat = l) (hhi : (hi = none ∧ n = len) ∨ ∃ k x, hi = some (.int k x) ∧ 0 ≤ x ∧ x.toNat = n)
    (h1 : l ≤ n) (h2 : n ≤ len) (h3 : len ≤ cap) (w : World) : (Instr.sliceBounds isSlice len cap lo hi none).run P w = .ok (l, n, cap) w := by
  rcases hlo with ⟨rfl, rfl⟩ | ⟨k, x, rfl, hx, rfl⟩
  · rcases hhi with ⟨rfl, rfl⟩ | ⟨k', y, rfl, hy, rfl⟩
    · simp [Instr.sliceBounds]
    · have : y ≤ (cap : Int) := by omega
      simp [Instr.sliceBounds, Instr.sliceBound, asIntOf, hy, this]
  · rcases hhi with ⟨rfl, rfl⟩ | ⟨k', y, rfl, hy, rfl⟩
    · have : x ≤ (n : Int) := by omega
      simp [Instr.sliceBounds, Instr.sliceBound, asIntOf, hx, this]
    · have e1 : y ≤ (cap : Int) := by omega
      have e2 : x ≤ y := by omega
      simp [Instr.sliceBounds, Instr.sliceBound, asIntOf, hx, hy, e1, e2, Int.toNat_of_nonneg hy]
theorem optInt_val (h : Rel cx g s a w) {x : Option Operand} {r : Option Int} (hx : optInt (getT P s) x = some r) :
    (x.map a.eval = none ∧ r = none) ∨ ∃ k n, x.map a.eval = some (.int k n) ∧ r = some n := by
  unfold optInt at hx
  cases x with
  | none => simp at hx; exact .inl ⟨rfl, hx.symm⟩
  | some y =>
    dsimp only at hx
    split at hx
    · rename_i k n hy
      cases hx
      exact .inr ⟨k, n, by simp [(h.get hy).int_val], rfl⟩
    · cases hx
def subB (P : Program) (t : TypeId) : Bool :=
  match und P t with
  | .slice e => tyB P e
  | .string => true
  | _ => false
theorem sound_slice (h : Rel cx g s a w) (hd : dstB cx.n o.dst = true) {t : TypeId} {x : Operand} {lo hi : Option Operand} (ho : o.op = .slice t x lo hi none) (hb : subB P t = true) {c : Cfg}
    (hk : exPlan P c o.dst s K (plan P o (getT P s))) : o.wp P a w (Post cx g K) Q := by
  simp only [plan, ho] at hk
  split at hk
  rotate_left
  · exact hk.elim
  rename_i d hx
  split at hk
  rotate_left
  · exact hk.elim
  rename_i l hl
  split at hk
  rotate_left
  · exact hk.elim
  rename_i n hn
  have hlo := optInt_val h hl
  have hhi := optInt_val h hn
  have hv := h.get hx
  have bounds : ∀ {len : Nat}, (0 ≤ l.getD 0 ∧ l.getD 0 ≤ n.getD len ∧ n.getD len ≤ len) → ((lo.map a.eval = none ∧ (l.getD 0).toNat = 0) ∨ ∃ k x, lo.map a.eval = some (.int k x) ∧ 0 ≤ x ∧ x.toNat = (l.getD 0).toNat) ∧
      ((hi.map a.eval = none ∧ (n.getD (len : Int)).toNat = len) ∨ ∃ k x, hi.map a.eval = some (.int k x) ∧ 0 ≤ x ∧ x.toNat = (n.getD (len : Int)).toNat) ∧ (l.getD 0).toNat ≤ (n.getD (len : Int)).toNat ∧ (n.getD (len : Int)).toNat ≤ len := by
    intro len ⟨b1, b2, b3⟩
    refine ⟨?_, ?_, by omega, by omega⟩
    · rcases hlo with ⟨e1, rfl⟩ | ⟨k, y, e1, rfl⟩
      · exact .inl ⟨e1, rfl⟩
      · exact .inr ⟨k, y, e1, b1, rfl⟩
    · rcases hhi with ⟨e1, rfl⟩ | ⟨k, y, e1, rfl⟩
      · exact .inl ⟨e1, by simp⟩
      · simp only [Option.getD_some] at b2 b3
        exact .inr ⟨k, y, e1, by omega, rfl⟩
  split at hk
  ·
    rename_i _ b hu
    have e := hv.str_val
    simp only [exPlan] at hk
    have hreq := hk.h
    have hk := hk.k
    obtain ⟨b1, b2, b3, b4⟩ := bounds hreq
    have hrun : (Instr.sliceAt t (a.eval x) (lo.map a.eval) (hi.map a.eval) none).run P w = .ok (.string ((⟨⟨b⟩⟩ : ByteArray).extract (l.getD 0).toNat (n.getD (b.length : Int)).toNat)) w := by
      have := run_bounds (P := P) (isSlice := false) (len := b.length) (cap := b.length) b1 b2 b3 b4 (Nat.le_refl _) w
      have hsz : (⟨⟨b⟩⟩ : ByteArray).size = b.length := rfl
      rw [e]
      simp only [Instr.sliceAt, Sem.run_bind, und_of hu (by simp), Result.andThen_ok, Instr.slice, hsz, this, Option.isSome_none, Bool.false_eq_true, if_false, Sem.run_pure]
    have hext : ((⟨⟨b⟩⟩ : ByteArray).extract (l.getD 0).toNat (n.getD (b.length : Int)).toNat) = ⟨⟨(b.drop (l.getD 0).toNat).take ((n.getD (b.length : Int)).toNat - (l.getD 0).toNat)⟩⟩ := by
      apply ByteArray.ext
      rw [ByteArray.data_extract]
      apply Array.ext'
      simp
    rw [hext, ← cut_eq b l n hreq] at hrun
    refine wp_value (v := .string ⟨⟨cut b l n⟩⟩) (w' := w) ?_ (post_put h hd (.pure (.str _)) hk)
    simp only [execOp, ho, Sem.run_bind, hrun, Option.map_none, Result.andThen_ok, Sem.run_pure]
  · exact hk.elim
  ·
    rename_i d _ _ e hu hns
    have hte : tyB P e = true := by unfold subB at hb; rw [hu] at hb; exact hb
    have hns' : ∀ b, d ≠ .str b := fun b hb => by subst hb; exact hns b rfl
    have hk2 : match rowSz s (szOf P e) d with
        | false => False
        | true => leak s d fun s a => match a with
          | .sl z es _ => match Nat.beq z (szOf P e) with
            | true => Need (0 ≤ l.getD 0 ∧ l.getD 0 ≤ n.getD es.length ∧ n.getD es.length ≤ es.length) (K (s.put o.dst (.sl (szOf P e) (cut es l n) false)))
            | false => False
          | _ => False := by
      cases d with
      | str b => exact absurd rfl (hns' b)
      | _ => exact hk
    cases hrs : rowSz s (szOf P e) d with
    | false => rw [hrs] at hk2; exact hk2.elim
    | true =>
      rw [hrs] at hk2; dsimp only at hk2
      obtain ⟨s1, d1, g1, k1, l1, _, _, r1⟩ := leak_sound h hk2
      have hv1 := r1 _ hv
      cases d1 with
      | sl z es nl =>
        dsimp only at k1
        split at k1
        rotate_left
        · exact k1.elim
        rename_i hbz
        have hz := Nat.eq_of_beq_eq_true hbz
        have hreq := k1.h
        have hk := k1.k
        have hzn : z = szOf P e ∧ RepI g1.I (a.eval x) (.sl z es false) := by
          refine ⟨hz, ?_⟩
          exact hv1.sl_false
        obtain ⟨rfl, hv2⟩ := hzn
        obtain ⟨b1, b2, b3, b4⟩ := bounds hreq
        obtain ⟨p, cap, e1, e2, e3⟩ := sub_rep hv2 b3 b4
        have hrun : (Instr.sliceAt t (a.eval x) (lo.map a.eval) (hi.map a.eval) none).run P w = .ok (.slice (if cap = (l.getD 0).toNat then p else p.map (·.add ((l.getD 0).toNat * szOf P e))) ((n.getD (es.length : Int)).toNat - (l.getD 0).toNat) (cap - (l.getD 0).toNat)) w := by
          have := run_bounds (P := P) (isSlice := true) (len := es.length) (cap := cap) b1 b2 b3 b4 e2 w
          rw [e1]
          simp only [Instr.sliceAt, Sem.run_bind, und_of hu (by simp), Result.andThen_ok, Instr.slice, this, run_size hte, Sem.run_pure]
        rw [← cut_eq es l n hreq] at e3
        refine wp_value (v := .slice (if cap = (l.getD 0).toNat then p else p.map (·.add ((l.getD 0).toNat * szOf P e))) ((n.getD (es.length : Int)).toNat - (l.getD 0).toNat) (cap - (l.getD 0).toNat)) (w' := w) ?_ ?_
        · simp only [execOp, ho, Sem.run_bind, hrun, Option.map_none, Result.andThen_ok, Sem.run_pure]
        · exact ⟨_, g1, hk, l1.ext, l1.rel.put hd (.pure e3)⟩
      | _ => exact k1.elim
  · exact hk.elim
end
end Abs
namespace Abs
open Go
section
variable {P : Program} {cx : Cx} {g : Gh} {s : St} {a : Act} {w : World} {o : Oper} {K : St → Prop} {Q : Go.Exit → Act → World → Prop}
theorem isU8_under {e : TypeId} (h : isU8 P e = true) : und P e = .int .u8 ∧ P.underlying e = some (.int .u8) := by
  unfold isU8 at h
  split at h
  · rename_i hu; exact ⟨hu, und_underlying hu (by simp)⟩
  · cases h
theorem textOf_spec : ∀ {es : List Dat} {b : List UInt8}, textOf es = some b → ∃ ns : List Int, es = ns.map (.int .u8) ∧ b = ns.map fun n => UInt8.ofNat n.toNat
  | [], b, h => by simp [textOf] at h; subst h; exact ⟨[], rfl, rfl⟩
  | d :: es, b, h => by
    cases d with
    | int k n =>
      cases k <;> simp only [textOf] at h <;> try cases h
      split at h
      · rename_i l hl
        cases h
        obtain ⟨ns, rfl, rfl⟩ := textOf_spec hl
        exact ⟨n :: ns, rfl, rfl⟩
      · cases h
    | _ => simp [textOf] at h
theorem foldl_push : ∀ (ns : List Int) (s : ByteArray), ns.foldl (fun r n => r.push (UInt8.ofNat n.toNat)) s = ⟨⟨s.data.toList ++ ns.map fun n => UInt8.ofNat n.toNat⟩⟩
  | [], s => by simp
  | n :: ns, s => by
    simp only [List.foldl_cons, foldl_push ns]
    congr 2
    simp [ByteArray.push]
theorem flat_ints (k : IntKind) (ns : List Int) : ((ns.map (Dat.int k)).flatMap cells) = ns.map (Dat.int k) := by
  induction ns with
  | nil => rfl
  | cons n ns ih => simp [cells, ih]
theorem flat_bytes (l : List UInt8) : ((l.map (fun c => Dat.int .u8 c.toNat)).flatMap cells) = l.map (fun c => Dat.int .u8 c.toNat) := by
  induction l with
  | nil => rfl
  | cons n ns ih => simp [cells, ih]
theorem repI_int {I : Nat → Nat → Option Value} {k : IntKind} {n : Int} {v : Value} (r : RepI I v (.int k n)) : v = .int k n := by cases r; rfl
def convB (P : Program) (src dst : TypeId) : Bool := tyB P src && tyB P dst && (match und P dst with | .slice e => tyB P e | _ => true) && (match und P src with | .slice e => tyB P e && Nat.beq (szOf P e) 1 | _ => true)
theorem und_some {t : TypeId} (h : tyB P t = true) (w : World) : (underlying t).run P w = .ok (und P t) w := by
  obtain ⟨i, _, _, _, _, hu⟩ := tyB_info h
  exact run_under hu w
theorem sound_convert (h : Rel cx g s a w) (hd : dstB cx.n o.dst = true) {src dst : TypeId} {x : Operand} (ho : o.op = .convert src dst x) (hb : convB P src dst = true) {c : Cfg}
    (hk : exPlan P c o.dst s K (plan P o (getT P s))) : o.wp P a w (Post cx g K) Q := by
  simp only [convB, Bool.and_eq_true] at hb
  obtain ⟨⟨⟨b1, b2⟩, b3⟩, b4⟩ := hb
  simp only [plan, ho] at hk
  split at hk
  rotate_left
  · exact hk.elim
  rename_i d hx
  have hv := h.get hx
  have us := und_some (P := P) b1 w
  have ud := und_some (P := P) b2 w
  have text : ∀ {z : Nat} (e : TypeId), und P src = .slice e → isU8 P e = true → und P dst = .string → (∀ l, d ≠ .str l) → exPlan P c o.dst s K (.text d) → o.wp P a w (Post cx g K) Q := by
    intro z e hs he hdst hns hk
    simp only [exPlan] at hk
    cases hrs : rowSz s 1 d with
    | false => rw [hrs] at hk; exact hk.elim
    | true =>
    rw [hrs] at hk; dsimp only at hk
    obtain ⟨es, k1, ⟨p, cap, e1⟩, e2, e3⟩ := rdRow_sound h hk hv hns hrs
    obtain ⟨b, hbt, k1⟩ := k1.out
    obtain ⟨ns, rfl, rfl⟩ := textOf_spec hbt
    refine wp_value (v := .string ⟨⟨ns.map fun n => UInt8.ofNat n.toNat⟩⟩) (w' := w) ?_ (post_put h hd (.pure (.str _)) k1)
    have hrun : (Conv.bytesToString (a.eval x)).run P w = .ok (.string ⟨⟨ns.map fun n => UInt8.ofNat n.toNat⟩⟩) w := by
      by_cases hne : ns = []
      · subst hne
        rw [e1]
        cases p with
        | none => rfl
        | some q =>
          have := run_bytesToString (P := P) w q 0 cap [] (by simp [loadCells, loadCellsFrom])
          exact this
      · obtain ⟨b, ob, cap', e4, e5⟩ := e3 (by simpa using hne)
        rw [e4]
        have hload : (loadCells ⟨b, ob, none⟩ (ns.map (Dat.int .u8)).length).run P w = .ok (ns.map (Value.int .u8)).toArray w := by
          have := run_loadCells_list (P := P) w ⟨b, ob, none⟩ (ns.map (Value.int .u8)) (fun j v hj => by
            rw [add_addr]
            have hj' : ∃ n, ns[j]? = some n ∧ v = .int .u8 n := by
              simp only [List.getElem?_map] at hj
              cases hn : ns[j]? with
              | none => rw [hn] at hj; cases hj
              | some n => rw [hn] at hj; simp at hj; exact ⟨n, rfl, hj.symm⟩
            obtain ⟨n, hn, rfl⟩ := hj'
            obtain ⟨u, u1, u2, _⟩ := e5 j (.int .u8 n) (by rw [flat_ints, nth_eq]; simp [hn])
            rw [u1, repI_int u2])
          simpa using this
        have := run_bytesToString (P := P) w ⟨b, ob, none⟩ (ns.map (Dat.int .u8)).length cap' ns hload
        rw [this, foldl_push]; rfl
    have hue := (isU8_under he).2
    rw [hs] at us; rw [hdst] at ud
    rw [e1] at hrun
    simp only [execOp, ho, Sem.run_bind]
    have hc := run_convert_bytes_string (P := P) w src dst e p (ns.map (Dat.int .u8)).length cap (und_underlying hs (by simp)) hue (und_underlying hdst (by simp))
    rw [e1, hc, hrun]; rfl
  unfold convPlan at hk
  split at hk
  · rename_i k k' n hu
    have e := hv.int_val
    simp only [exPlan] at hk
    rw [hu] at ud
    refine wp_value (v := .int k (k.wrap n)) (w' := w) ?_ (post_put h hd (.pure (.int _ _)) hk.out)
    simp [execOp, ho, convert, us, ud, e, Conv.intToInt]
  · rename_i l hu
    have e := hv.str_val
    rw [hu] at ud
    refine wp_value (v := .string ⟨⟨l⟩⟩) (w' := w) ?_ (post_put h hd (.pure (.str _)) hk)
    simp [execOp, ho, convert, us, ud, e]
  · rename_i z es nl hu
    split at hk
    · rename_i e hs
      split at hk
      · rename_i he
        exact text (z := 0) e hs he hu (by intro l hl; cases hl) hk
      · exact hk.elim
    · exact hk.elim
  · rename_i k n hu
    split at hk
    · rename_i e hs
      split at hk
      · rename_i he
        exact text (z := 0) e hs he hu (by intro l hl; cases hl) hk
      · exact hk.elim
    · exact hk.elim
  · rename_i e l hu
    split at hk
    rotate_left
    · exact hk.elim
    rename_i hsrc
    split at hk
    rotate_left
    · exact hk.elim
    rename_i he
    have ev := hv.str_val
    simp only [exPlan] at hk
    cases hdst : o.dst with
    | none => rw [hdst] at hk; exact hk.elim
    | some t =>
      rw [hdst] at hk; dsimp only at hk
      cases hr : s.R t with
      | some r => rw [hr] at hk; exact hk.elim
      | none =>
        rw [hr] at hk; dsimp only at hk
        have hrun := run_bytes_of_string (P := P) w src dst e ⟨⟨l⟩⟩ (und_underlying hsrc (by simp)) (und_underlying hu (by simp)) (isU8_under he).2
        generalize hcap : grownCap w (⟨⟨l⟩⟩ : ByteArray).size 0 e = cap at hrun
        have hsz : (⟨⟨l⟩⟩ : ByteArray).size = l.length := rfl
        have hcl : l.length ≤ cap := by
          rw [← hcap, hsz]; simp only [grownCap, Question.cut]; omega
        have hbs : (bytesRow ⟨⟨l⟩⟩ cap).size = cap := by
          simp [bytesRow, hsz]; omega
        refine wp_value (v := .slice (some ⟨w.heap.size, 0, none⟩) l.length cap) (w' := pushB w.drew (.cells (bytesRow ⟨⟨l⟩⟩ cap) e ((bytesRow ⟨⟨l⟩⟩ cap).size, (bytesRow ⟨⟨l⟩⟩ cap).size + 1))) ?_ ?_
        · simp only [execOp, ho, Sem.run_bind, ev]
          rw [hrun]; rfl
        · rw [hdst] at hd ⊢
          have hrel : Rel cx g s a w.drew := ⟨h.env, h.size, h.defers, h.mem.drew _⟩
          have hes : ∀ x ∈ l.map (fun c => Dat.int .u8 c.toNat), (cells x).length = 1 := by
            intro x hx
            obtain ⟨c, _, rfl⟩ := List.mem_map.1 hx
            rfl
          have hlen : (l.map (fun c => Dat.int .u8 c.toNat)).length = l.length := by simp
          have := post_newRow (K := K) (a := a) (s := s) (g := g) (w := w.drew) (e := e) (cap := cap) (es := l.map fun c => .int .u8 c.toNat) (sz := 1) (c := bytesRow ⟨⟨l⟩⟩ cap)
            (fz := ((bytesRow ⟨⟨l⟩⟩ cap).size, (bytesRow ⟨⟨l⟩⟩ cap).size + 1)) hrel hd hr (by decide) hes (by rw [hlen]; exact hcl) (by rw [hbs]; omega) (fun o ho => by simp; omega) (fun j d hj => ?_) (by rw [hlen]; exact hk)
          · rw [hlen] at this; exact this
          · have hj2 : ∃ c, l[j]? = some c ∧ d = .int .u8 c.toNat := by
              rw [flat_bytes, nth_eq] at hj
              simp only [List.getElem?_map] at hj
              cases hn : l[j]? with
              | none => rw [hn] at hj; cases hj
              | some n => rw [hn] at hj; simp at hj; exact ⟨n, rfl, hj.symm⟩
            obtain ⟨c, hc, rfl⟩ := hj2
            refine ⟨.int .u8 c.toNat, ?_, .int _ _, rfl⟩
            unfold bytesRow
            rw [Array.getElem?_append_left (by simpa using (List.getElem?_eq_some_iff.1 hc).1)]
            simp [hc]
  · exact hk.elim
end
end Abs
namespace Abs
open Go
section
variable {P : Program} {cx : Cx} {g : Gh} {s : St} {a : Act} {w : World} {o : Oper} {K : St → Prop} {Q : Go.Exit → Act → World → Prop}
theorem source_run (h : Rel cx g s a w) {d : Dat} {K' : List Dat → Prop} {sz : Nat} (hz : rowSz s sz d = true) (hk : rdRow s d K') {v : Value} (hv : Rep g v d) :
    ∃ xs, K' xs ∧ (∀ e ∈ xs, (cells e).length = sz) ∧ (∀ w' : World, (Builtin.lenOf v).run P w' = .ok xs.length w') ∧
      ∃ vs : Array Value, vs.size = xs.length * sz ∧ (Builtin.firstCells sz xs.length v).run P w = .ok vs w ∧ (Builtin.firstCells sz xs.length v).run P w.drew = .ok vs w.drew ∧
        ∀ j x, nth (xs.flatMap cells) j = some x → ∃ u, vs[j]? = some u ∧ RepI g.I u x ∧ leaf u = true := by
  by_cases hns : ∀ l, d ≠ .str l
  · obtain ⟨xs, k1, ⟨p, cap, e1⟩, e2, e3⟩ := rdRow_sound h hk hv hns hz
    refine ⟨xs, k1, e2, fun w' => by rw [e1]; rfl, ?_⟩
    by_cases hne : xs = []
    · subst hne
      refine ⟨#[], by simp, ?_, ?_, by simp [nth]⟩
      · rw [e1]; cases p <;> simp [Builtin.firstCells, loadCells, loadCellsFrom]
      · rw [e1]; cases p <;> simp [Builtin.firstCells, loadCells, loadCellsFrom]
    · obtain ⟨b, ob, cap', e4, e5⟩ := e3 hne
      have hlen := flat_length e2
      have hf : ∃ f : Nat → Value, ∀ j, j < xs.length * sz → w.cell? ⟨b, ob + j, none⟩ = some (f j) ∧ ∀ x, nth (xs.flatMap cells) j = some x → RepI g.I (f j) x ∧ leaf (f j) = true := by
        refine ⟨fun j => (w.cell? ⟨b, ob + j, none⟩).getD undef, fun j hj => ?_⟩
        obtain ⟨x, hx⟩ := nth_lt (l := xs.flatMap cells) (i := j) (by rw [hlen]; exact hj)
        obtain ⟨u, u1, u2, u3⟩ := e5 j x hx
        simp only [u1, Option.getD_some]
        refine ⟨trivial, fun y hy => ?_⟩
        rw [hx] at hy; cases hy
        exact ⟨u2, u3⟩
      obtain ⟨f, hf⟩ := hf
      have hrun : ∀ w' : World, (∀ b o, w'.cell? ⟨b, o, none⟩ = w.cell? ⟨b, o, none⟩) → (Builtin.firstCells sz xs.length v).run P w' = .ok ((List.range (xs.length * sz)).map f).toArray w' := by
        intro w' hw
        rw [e4]
        exact run_loadCells w' ⟨b, ob, none⟩ (xs.length * sz) f (fun j hj => by rw [add_addr, hw]; exact (hf j hj).1)
      refine ⟨((List.range (xs.length * sz)).map f).toArray, by simp, hrun w (fun _ _ => rfl), hrun w.drew (fun _ _ => rfl), fun j x hx => ?_⟩
      have hj : j < xs.length * sz := by rw [← hlen]; exact lt_of_nth hx
      exact ⟨f j, by simp [hj], (hf j hj).2 x hx⟩
  · obtain ⟨l, rfl⟩ : ∃ l, d = .str l := Classical.not_forall_not.1 (fun hh => hns fun l e => hh l e)
    have e1 := hv.str_val
    have hz : 1 = sz := Nat.eq_of_beq_eq_true hz
    subst hz
    have hsz : (⟨⟨l⟩⟩ : ByteArray).size = l.length := rfl
    have hex : ((⟨⟨l⟩⟩ : ByteArray).extract 0 l.length).data = ⟨l⟩ := by
      rw [ByteArray.data_extract]; apply Array.ext'; simp
    have hrun : ∀ w' : World, (Builtin.firstCells 1 l.length v).run P w' = .ok (l.map fun c => Value.int .u8 c.toNat).toArray w' := by
      intro w'
      rw [e1]
      simp only [Builtin.firstCells, Sem.run_pure, hex]
      congr 1
      apply Array.ext'; simp
    refine ⟨l.map fun c => Dat.int .u8 c.toNat, (show K' (l.map fun c => Dat.int .u8 c.toNat) from hk), ?_, fun w' => by rw [e1]; simp [Builtin.lenOf, hsz], (l.map fun c => Value.int .u8 c.toNat).toArray, by simp, ?_, ?_, fun j x hx => ?_⟩
    · intro x hx
      obtain ⟨c, _, rfl⟩ := List.mem_map.1 hx
      rfl
    · simpa using hrun w
    · simpa using hrun w.drew
    · rw [flat_bytes, nth_eq] at hx
      simp only [List.getElem?_map] at hx
      cases hn : l[j]? with
      | none => rw [hn] at hx; cases hx
      | some n =>
        rw [hn] at hx; simp at hx; subst hx
        exact ⟨.int .u8 n.toNat, by simp [hn], .int _ _, rfl⟩
def Gh.over (g : Gh) (b p q : Nat) (c : Array Value) : Gh := { g with I := fun b' j => if b' = b ∧ p ≤ j ∧ j < q then c[j]? else g.I b' j }
theorem over_sub {b p q : Nat} {c : Array Value} (h : ∀ j, p ≤ j → j < q → g.I b j = none) : SubI g.I (g.over b p q c).I := by
  intro b' j v hv
  simp only [Gh.over]
  split
  · rename_i hc
    obtain ⟨rfl, h1, h2⟩ := hc
    rw [h j h1 h2] at hv; cases hv
  · exact hv
theorem flat_append (xs ys : List Dat) {sz : Nat} (hx : ∀ e ∈ xs, (cells e).length = sz) (j : Nat) :
    nth ((xs ++ ys).flatMap cells) j = if j < xs.length * sz then nth (xs.flatMap cells) j else nth (ys.flatMap cells) (j - xs.length * sz) := by
  rw [List.flatMap_append, nth_eq, List.getElem?_append, flat_length hx, nth_eq, nth_eq]
theorem grow_in (h : Rel cx g s a w) {k : Nat} {r : Row} (hr : s.R k = some r) (hz0 : r.sz ≠ 0) {t : Tv} (ht : g.tv k = some t) {b : Nat} (hb : t.base = some b) {xs : List Dat} (hxs : ∀ e ∈ xs, (cells e).length = r.sz)
    (hcap : r.es.length + xs.length ≤ t.cap) {vs : Array Value} (hvs : vs.size = xs.length * r.sz) (hcells : ∀ j x, nth (xs.flatMap cells) j = some x → ∃ u, vs[j]? = some u ∧ RepI g.I u x ∧ leaf u = true) :
    ∃ w' g', (storeCells ⟨b, r.es.length * r.sz, none⟩ vs.toList).run P w = .ok () w' ∧ Ext g g' ∧
      Rel cx g' { s with R := upd s.R k (some { r with es := r.es ++ xs }) } a w' ∧ g'.tv k = some { t with n := (r.es ++ xs).length } := by
  obtain ⟨t', i1, i2, i3, i4, i5⟩ := h.mem.row k r hr
  rw [ht] at i1; cases i1
  have i5' := i5.o hz0; unfold RowO at i5'; rw [hb] at i5'
  obtain ⟨q1, q2, q3, c, e, fz, c1, c2, c3, c4, c5, c6⟩ := i5'
  have hfit : r.es.length * r.sz + vs.toList.length ≤ c.size := by
    have : (r.es.length + xs.length) * r.sz ≤ t.cap * r.sz := Nat.mul_le_mul_right _ hcap
    rw [Nat.add_mul] at this
    simp [hvs]; omega
  have hst := run_storeCells' (P := P) (o := r.es.length * r.sz) vs.toList 0 c w c1 c2 (by simpa using hfit) (fun v hv => by
    obtain ⟨j, hj⟩ := List.mem_iff_getElem?.1 hv
    have hj2 : vs[j]? = some v := by simpa using hj
    have hlt : j < xs.length * r.sz := by rw [← hvs]; exact (Array.getElem?_eq_some_iff.1 hj2).1
    obtain ⟨x, hx⟩ := nth_lt (l := xs.flatMap cells) (i := j) (by rw [flat_length hxs]; exact hlt)
    obtain ⟨u, u1, _, u3⟩ := hcells j x hx
    rw [hj2] at u1; cases u1; exact u3)
  rw [Nat.add_zero] at hst
  generalize hc' : (splice c.toList (r.es.length * r.sz) vs.toList).toArray = c' at hst
  have hc'at : ∀ j, c'[j]? = if r.es.length * r.sz ≤ j ∧ j < (r.es.length + xs.length) * r.sz then vs[j - r.es.length * r.sz]? else c[j]? := by
    intro j
    rw [← hc']
    have : ((splice c.toList (r.es.length * r.sz) vs.toList).toArray)[j]? = nth (splice c.toList (r.es.length * r.sz) vs.toList) j := by rw [nth_eq]; simp
    rw [this, nth_splice]
    simp only [Array.length_toList, hvs, Nat.add_mul]
    by_cases hj : r.es.length * r.sz ≤ j ∧ j < r.es.length * r.sz + xs.length * r.sz
    · rw [if_pos ⟨hj.1, hj.2, by simp [hvs] at hfit; omega⟩, if_pos hj, nth_eq]; simp
    · rw [if_neg (by omega), if_neg hj, nth_eq]; simp
  have hsize : c'.size = c.size := by rw [← hc']; simp [splice_length]
  have hrow : ∀ j d, nth ((r.es ++ xs).flatMap cells) j = some d → ∃ v, c'[j]? = some v ∧ RepI g.I v d ∧ leaf v = true ∧ (r.own = false → j < r.es.length * r.sz → g.I b j = some v) := by
    intro j d hd
    rw [flat_append _ _ i4] at hd
    split at hd
    · rename_i hj
      obtain ⟨v, v1, v2, v3, v4⟩ := c6 j d hd
      exact ⟨v, by rw [hc'at, if_neg (by omega)]; exact v1, v2, v3, fun ho _ => v4 ho⟩
    · rename_i hj
      obtain ⟨u, u1, u2, u3⟩ := hcells _ d hd
      have := lt_of_nth hd
      rw [flat_length hxs] at this
      exact ⟨u, by rw [hc'at, if_pos ⟨by omega, by rw [Nat.add_mul]; omega⟩]; exact u1, u2, u3, fun _ hlt => absurd hlt hj⟩
  have hs' : ∀ x ∈ r.es ++ xs, (cells x).length = r.sz := by
    intro x hx
    rcases List.mem_append.1 hx with hx | hx
    · exact i4 x hx
    · exact hxs x hx
  have hlen : (r.es ++ xs).length = r.es.length + xs.length := by simp
  refine ⟨setB w b (.cells c' e fz), ?_⟩
  have hnone : ∀ j, r.es.length * r.sz ≤ j → g.I b j = none := fun j hj => c4 j (by rw [i3]; exact hj)
  have key : ∀ g' : Gh, SubI g.I g'.I → g'.mu = g.mu → g'.tv = upd g.tv k (some { t with n := (r.es ++ xs).length }) → (∀ b', b' ≠ b → g'.I b' = g.I b') →
      (∀ j, (r.es.length + xs.length) * r.sz ≤ j → g'.I b j = none) → (r.own = true → ∀ j, g'.I b j = none) →
      (r.own = false → ∀ j d, nth ((r.es ++ xs).flatMap cells) j = some d → g'.I b j = c'[j]?) →
      (∀ j v, g'.I b j = some v → c'[j]? = some v ∧ leaf v = true) →
      Ext g g' ∧ Rel cx g' { s with R := upd s.R k (some { r with es := r.es ++ xs }) } a (setB w b (.cells c' e fz)) ∧ g'.tv k = some { t with n := (r.es ++ xs).length } := by
    intro g' hsub hmu htv hIo hI1 hI2 hI3 hI4
    have hx : Ext g g' := by
      refine ⟨hsub, fun l b e => by rw [hmu]; exact e, fun k' t' e => ?_⟩
      by_cases hkk : k' = k
      · subst hkk
        rw [ht] at e; cases e
        refine ⟨{ t with n := (r.es ++ xs).length }, by rw [htv, upd_eq], rfl, ?_⟩
        by_cases hx0 : xs = []
        · right; subst hx0
          simp only [List.append_nil, ← i3]
        · left
          have := List.length_pos_iff.2 hx0
          exact ⟨by simp only [hlen, i3]; omega, fun e => absurd (i2.symm.trans e) hz0⟩
      · exact ⟨t', by rw [htv, upd_ne _ _ _ _ hkk]; exact e, rfl, .inr rfl⟩
    refine ⟨hx, ⟨fun u d hd => (h.env u d hd).mono hx, h.size, h.defers, ?_⟩, by rw [htv, upd_eq]⟩
    refine h.mem.setRow (k := k) (r := { r with es := r.es ++ xs }) (t := { t with n := (r.es ++ xs).length }) hx hmu htv (fun b' hb' => hIo b' (by rintro rfl; exact hb' hb)) ((Frame.refl w _).setB b _ (.inr hb)) i2 rfl hs' ?_ ?_ rfl rfl
    · refine ⟨fun _ => ?_, fun e => absurd e hz0⟩
      unfold RowO
      simp only [hb]
      refine ⟨by rw [hlen]; exact hcap, q2, fun l => by rw [hmu]; exact q3 l, c', e, fz, heap_set_eq _ _ _ (lt_of_blk c1), by rw [hsize]; exact c2, by rw [hsize]; exact c3, fun j hj => hI1 j (by rw [← hlen]; exact hj), hI2, fun j d hd => ?_⟩
      obtain ⟨v, v1, v2, v3, _⟩ := hrow j d hd
      exact ⟨v, v1, v2.mono hsub, v3, fun ho => by rw [hI3 ho j d hd]; exact v1⟩
    · intro b' hb'
      have : b' = b := by rw [hb] at hb'; cases hb'; rfl
      subst this
      refine ⟨fun j u hj hu hub => hj (h.mem.rdis j k u t b' hu ht hub hb), fun o v hv => ?_⟩
      obtain ⟨h1, h2⟩ := hI4 o v hv
      exact ⟨by rw [cell_blk (heap_set_eq _ _ _ (lt_of_blk c1))]; exact h1, h2⟩
  cases hown : r.own with
  | true =>
    obtain ⟨k1, k2, k3⟩ := key (g.row k { t with n := (r.es ++ xs).length }) (fun _ _ _ e => e) rfl rfl (fun _ _ => rfl) (fun j hj => c5 hown j) (fun _ j => c5 hown j)
      (fun ho => by rw [hown] at ho; cases ho) (fun j v hv => by
        have : g.I b j = some v := hv
        rw [c5 hown j] at this; cases this)
    exact ⟨_, hst, k1, by rw [hown] at k2; exact k2, k3⟩
  | false =>
    obtain ⟨k1, k2, k3⟩ := key ((g.over b (r.es.length * r.sz) ((r.es.length + xs.length) * r.sz) c').row k { t with n := (r.es ++ xs).length })
      (over_sub (g := g) (fun j hj _ => hnone j hj)) rfl rfl
      (fun b' hb' => by funext j; simp [Gh.row, Gh.over, hb'])
      (fun j hj => by
        have : r.es.length * r.sz ≤ j := Nat.le_trans (Nat.mul_le_mul_right _ (by omega)) hj
        simp only [Gh.row, Gh.over]
        rw [if_neg (by omega)]
        exact hnone j this)
      (fun ho => by rw [hown] at ho; cases ho)
      (fun _ j d hd => by
        obtain ⟨v, v1, v2, v3, v4⟩ := hrow j d hd
        have hj := lt_of_nth hd
        rw [flat_length hs', hlen] at hj
        simp only [Gh.row, Gh.over]
        by_cases hj2 : r.es.length * r.sz ≤ j
        · rw [if_pos ⟨trivial, hj2, hj⟩]
        · rw [if_neg (by omega), v1]; exact v4 hown (by omega))
      (fun j v hv => by
        simp only [Gh.row, Gh.over] at hv
        split at hv
        · rename_i hj
          obtain ⟨d, hd⟩ := nth_lt (l := (r.es ++ xs).flatMap cells) (i := j) (by rw [flat_length hs', hlen]; exact hj.2.2)
          obtain ⟨v', v1, v2, v3, v4⟩ := hrow j d hd
          rw [hv] at v1; cases v1
          exact ⟨hv, v3⟩
        · rename_i hj
          have h1 := h.mem.iw b j v hv
          rw [cell_blk c1] at h1
          rw [hc'at, if_neg (by
            intro hh
            rw [hnone j hh.1] at hv; cases hv)]
          exact h1)
    exact ⟨_, hst, k1, by rw [hown] at k2; exact k2, k3⟩
theorem run_firstCells_row (h : Rel cx g s a w) {k : Nat} {r : Row} (hr : s.R k = some r) (hz0 : r.sz ≠ 0) {t : Tv} (ht : g.tv k = some t) (w' : World) (hw : ∀ b o, w'.cell? ⟨b, o, none⟩ = w.cell? ⟨b, o, none⟩) :
    ∃ vs : Array Value, vs.size = r.es.length * r.sz ∧ (Builtin.firstCells r.sz r.es.length t.value).run P w' = .ok vs w' ∧
      ∀ j x, nth (r.es.flatMap cells) j = some x → ∃ u, vs[j]? = some u ∧ RepI g.I u x ∧ leaf u = true := by
  obtain ⟨t', i1, i2, i3, i4, i5⟩ := h.mem.row k r hr
  rw [ht] at i1; cases i1
  have i5 := i5.o hz0
  unfold RowO at i5
  cases hb : t.base with
  | none =>
    rw [hb] at i5; dsimp only at i5
    refine ⟨#[], by rw [i5.1]; simp, ?_, by rw [i5.1]; simp [nth]⟩
    unfold Tv.value; rw [hb, i5.1]; rfl
  | some b =>
    rw [hb] at i5
    obtain ⟨q1, q2, q3, c, e, fz, c1, c2, c3, c4, c5, c6⟩ := i5
    have hlen := flat_length i4
    refine ⟨((List.range (r.es.length * r.sz)).map fun j => c.getD j undef).toArray, by simp, ?_, fun j x hx => ?_⟩
    · unfold Tv.value; rw [hb]
      refine run_loadCells w' ⟨b, 0, none⟩ (r.es.length * r.sz) (fun j => c.getD j undef) (fun j hj => ?_)
      obtain ⟨x, hx⟩ := nth_lt (l := r.es.flatMap cells) (i := j) (by rw [hlen]; exact hj)
      obtain ⟨u, u1, _⟩ := c6 j x hx
      rw [add_addr, Nat.zero_add, hw, cell_blk c1, u1]; simp [u1]
    · have hj : j < r.es.length * r.sz := by rw [← hlen]; exact lt_of_nth hx
      obtain ⟨u, u1, u2, u3, _⟩ := c6 j x hx
      exact ⟨u, by simp [hj, u1], u2, u3⟩
theorem grow_new (h : Rel cx g s a w) {k : Nat} {r : Row} (hold : (s.R k = none ∧ r.own = true) ∨ ∃ r0 t0, s.R k = some r0 ∧ g.tv k = some t0 ∧ r0.sz = r.sz ∧ r0.es.length < r.es.length) (hz0 : r.sz ≠ 0) {cap : Nat} {c : Array Value} {e : TypeId} {fz : Nat × Nat}
    (hs : ∀ e ∈ r.es, (cells e).length = r.sz) (hcap : r.es.length ≤ cap) (hc : cap * r.sz ≤ c.size) (hf : Free fz c.size)
    (hr : ∀ j d, nth (r.es.flatMap cells) j = some d → ∃ v, c[j]? = some v ∧ RepI g.I v d ∧ leaf v = true) {s' : St} (hH : s'.H = s.H) (hR : s'.R = upd s.R k (some r)) (he : s'.env = s.env) :
    ∃ g', Ext g g' ∧ Rel cx g' s' a (pushB w (.cells c e fz)) ∧ g'.tv k = some ⟨r.sz, r.es.length, some w.heap.size, cap⟩ := by
  have hlen := flat_length hs
  have hnoI : ∀ j, g.I w.heap.size j = none := by
    intro j
    cases hj : g.I w.heap.size j with
    | none => rfl
    | some v => exact absurd (h.mem.I_lt hj) (Nat.lt_irrefl _)
  have hx0 : Ext g (g.row k ⟨r.sz, r.es.length, some w.heap.size, cap⟩) := by
    refine g.row_ext ?_
    rcases hold with ⟨h1, _⟩ | ⟨r0, t0, h1, h2, h3, h4⟩
    · exact .inl (h.mem.tv_none h1)
    · obtain ⟨t', i1, i2, i3, _⟩ := h.mem.row k r0 h1
      rw [h2] at i1; cases i1
      exact .inr ⟨t0, h2, by rw [i2, h3], .inl ⟨by rw [i3]; exact h4, fun e => absurd (by rw [← h3, ← i2]; exact e) hz0⟩⟩
  have key : ∀ g' : Gh, SubI g.I g'.I → g'.mu = g.mu → g'.tv = upd g.tv k (some ⟨r.sz, r.es.length, some w.heap.size, cap⟩) → (∀ b', b' ≠ w.heap.size → g'.I b' = g.I b') →
      (∀ j, r.es.length * r.sz ≤ j → g'.I w.heap.size j = none) → (r.own = true → ∀ j, g'.I w.heap.size j = none) →
      (r.own = false → ∀ j d, nth (r.es.flatMap cells) j = some d → g'.I w.heap.size j = c[j]?) →
      (∀ j v, g'.I w.heap.size j = some v → c[j]? = some v ∧ leaf v = true) →
      Ext g g' ∧ Rel cx g' s' a (pushB w (.cells c e fz)) ∧ g'.tv k = some ⟨r.sz, r.es.length, some w.heap.size, cap⟩ := by
    intro g' hsub hmu htv hIo hI1 hI2 hI3 hI4
    have hx : Ext g g' := by
      refine ⟨hsub, fun l b e => by rw [hmu]; exact e, fun k' t' e => ?_⟩
      obtain ⟨t'', e1, e2⟩ := hx0.tv k' t' e
      exact ⟨t'', by rw [htv]; exact e1, e2⟩
    refine ⟨hx, ⟨fun u d hd => (h.env u d (by rw [← he]; exact hd)).mono hx, h.size, h.defers, ?_⟩, by rw [htv, upd_eq]⟩
    refine h.mem.setRow (k := k) (r := r) (t := ⟨r.sz, r.es.length, some w.heap.size, cap⟩) hx hmu htv (fun b' hb' => hIo b' (by rintro rfl; exact hb' rfl)) ?_ rfl rfl hs ?_ ?_ hH hR
    · exact ⟨rfl, rfl, rfl, by simp [pushB], fun b hb _ => heap_push_old w _ b hb⟩
    · refine ⟨fun _ => ?_, fun e => absurd e hz0⟩
      refine ⟨hcap, h.mem.new _ (Nat.le_refl _), fun l hl => ?_, c, e, fz, heap_push_new _ _, hf, hc, hI1, hI2, fun j d hd => ?_⟩
      · rw [hmu] at hl; exact absurd (h.mem.mu_lt hl) (Nat.lt_irrefl _)
      · obtain ⟨v, v1, v2, v3⟩ := hr j d hd
        exact ⟨v, v1, v2.mono hsub, v3, fun ho => by rw [hI3 ho j d hd]; exact v1⟩
    · intro b hb
      cases hb
      refine ⟨fun j u hj hu hub => absurd (h.mem.tv_blk hu hub).1 (Nat.lt_irrefl _), fun o v hv => ?_⟩
      obtain ⟨h1, h2⟩ := hI4 o v hv
      exact ⟨by rw [cell_blk (heap_push_new _ _)]; exact h1, h2⟩
  cases hown : r.own with
  | true =>
    exact ⟨_, key (g.row k ⟨r.sz, r.es.length, some w.heap.size, cap⟩) (fun _ _ _ e => e) rfl rfl (fun _ _ => rfl) (fun j _ => hnoI j) (fun _ j => hnoI j) (fun ho => by rw [hown] at ho; cases ho)
      (fun j v hv => by have : g.I w.heap.size j = some v := hv; rw [hnoI j] at this; cases this)⟩
  | false =>
    refine ⟨_, key ((g.over w.heap.size 0 (r.es.length * r.sz) c).row k ⟨r.sz, r.es.length, some w.heap.size, cap⟩) (over_sub (g := g) (fun j _ _ => hnoI j)) rfl rfl
      (fun b' hb' => by funext j; simp [Gh.row, Gh.over, hb']) (fun j hj => by
        simp only [Gh.row, Gh.over]; rw [if_neg (by omega)]; exact hnoI j) (fun ho => by rw [hown] at ho; cases ho) (fun _ j d hd => ?_) (fun j v hv => ?_)⟩
    · have hj := lt_of_nth hd
      rw [hlen] at hj
      simp only [Gh.row, Gh.over]
      rw [if_pos ⟨trivial, Nat.zero_le _, hj⟩]
    · simp only [Gh.row, Gh.over] at hv
      split at hv
      · rename_i hj
        obtain ⟨d, hd⟩ := nth_lt (l := r.es.flatMap cells) (i := j) (by rw [hlen]; exact hj.2.2)
        obtain ⟨v', v1, v2, v3⟩ := hr j d hd
        rw [hv] at v1; cases v1
        exact ⟨hv, v3⟩
      · rw [hnoI j] at hv; cases hv
def appendB (P : Program) (c : Call) : Bool :=
  match c.argTypes.toList with
  | [t, u] => match und P t with
    | .slice e => tyB P t && tyB P u && tyB P e && zeroB P e && (match und P u with | .slice _ => true | .string => true | _ => false) &&
      (match ti P e with | some i => Nat.ble i.bytes 8192 | none => false)
    | _ => false
  | _ => false
theorem src_of {t : TypeId} {sz : Nat} {v : Value} {xs : List Dat} {vs : Array Value} {I : Nat → Nat → Option Value} (hk : (match und P t with | .slice _ => true | .string => true | _ => false) = true)
    (hxs : ∀ e ∈ xs, (cells e).length = sz) (h1 : ∀ w' : World, (Builtin.lenOf v).run P w' = .ok xs.length w') (h2 : vs.size = xs.length * sz)
    (h3 : (Builtin.firstCells sz xs.length v).run P w = .ok vs w) (h4 : (Builtin.firstCells sz xs.length v).run P w.drew = .ok vs w.drew)
    (h5 : ∀ j x, nth (xs.flatMap cells) j = some x → ∃ u, vs[j]? = some u ∧ RepI I u x ∧ leaf u = true) : Src P sz t v xs.length vs.toList w := by
  refine ⟨?_, h1, by simpa using h3, by simpa using h4, by simpa using h2, fun u hu => ?_⟩
  · cases h : und P t with
    | slice e => exact .inl ⟨e, und_underlying h (by simp)⟩
    | string => exact .inr (und_underlying h (by simp))
    | _ => simp [h] at hk
  · obtain ⟨j, hj⟩ := List.mem_iff_getElem?.1 hu
    have hj2 : vs[j]? = some u := by simpa using hj
    have hlt : j < xs.length * sz := by rw [← h2]; exact (Array.getElem?_eq_some_iff.1 hj2).1
    obtain ⟨x, hx⟩ := nth_lt (l := xs.flatMap cells) (i := j) (by rw [flat_length hxs]; exact hlt)
    obtain ⟨u', u1, _, u3⟩ := h5 j x hx
    rw [hj2] at u1; cases u1
    rw [leaf_one]; exact u3
theorem run_append_in {t u ty e : TypeId} {i : TypeInfo} (ht : P.underlying t = some (.slice e)) (hi : P.info? e = some i) {b n cap m : Nat} {x : Value} {news : List Value} {w' : World} (hs : Src P i.size u x m news w) (hcap : n + m ≤ cap)
    (hst : (storeCells ⟨b, n * i.size, none⟩ news).run P w = .ok () w') :
    (Builtin.append_ #[t, u] ty #[.slice (some ⟨b, 0, none⟩) n cap, x]).run P w = .ok (.slice (some ⟨b, 0, none⟩) (n + m) cap) w' := by
  rcases hs.kind with ⟨e', hk⟩ | hk <;> simp [Builtin.append_, run_underlying ht, run_underlying hk, Go.sizeOf, typeInfo, hi, hs.len, hcap, hs.cells, Addr.add_lit, hst]
theorem run_append_none {t u ty e : TypeId} {i : TypeInfo} (ht : P.underlying t = some (.slice e)) (hi : P.info? e = some i) {x : Value} {news : List Value} (hs : Src P i.size u x 0 news w) :
    (Builtin.append_ #[t, u] ty #[.slice none 0 0, x]).run P w = .ok (.slice none 0 0) w := by
  rcases hs.kind with ⟨e', hk⟩ | hk <;> simp [Builtin.append_, run_underlying ht, run_underlying hk, Go.sizeOf, typeInfo, hi, hs.len, hs.cells]
theorem none_row (h : Rel cx g s a w) {k : Nat} (hk : s.R k = none) (r : Row) (hz0 : r.sz ≠ 0) (hr : r.es = []) {s' : St} (hH : s'.H = s.H) (hR : s'.R = upd s.R k (some r)) (he : s'.env = s.env) :
    ∃ g', Ext g g' ∧ Rel cx g' s' a w ∧ g'.tv k = some ⟨r.sz, r.es.length, none, 0⟩ := by
  have hx : Ext g (g.row k ⟨r.sz, r.es.length, none, 0⟩) := g.row_ext (.inl (h.mem.tv_none hk))
  refine ⟨_, hx, ⟨fun u d hd => (h.env u d (by rw [← he]; exact hd)).mono hx, h.size, h.defers, ?_⟩, by simp [Gh.row, upd_eq]⟩
  refine h.mem.setRow (k := k) (r := r) (t := ⟨r.sz, r.es.length, none, 0⟩) hx rfl rfl (fun _ _ => rfl) (Frame.refl w _) rfl rfl (by rw [hr]; simp) ?_ (by simp) hH hR
  exact ⟨fun _ => ⟨hr, rfl⟩, fun e => absurd e hz0⟩
theorem appendB_spec {c : Call} (h : appendB P c = true) : ∃ t u e i z, c.argTypes = #[t, u] ∧ P.underlying t = some (.slice e) ∧ szOf P (elemT P t) = i.size ∧ P.info? e = some i ∧ i.zero = some z ∧ z.cells.size = i.size ∧ i.bytes ≤ 8192 ∧
    (match und P u with | .slice _ => true | .string => true | _ => false) = true ∧ c.argTypes.toList.headD 0 = t := by
  unfold appendB at h
  split at h
  rotate_left
  · cases h
  rename_i t u htu
  split at h
  rotate_left
  · cases h
  rename_i e he
  simp only [Bool.and_eq_true] at h
  obtain ⟨⟨⟨⟨⟨_, _⟩, h3⟩, h4⟩, h5⟩, h6⟩ := h
  split at h6
  rotate_left
  · cases h6
  rename_i i hi
  have h6 := Nat.le_of_ble_eq_true h6
  unfold zeroB at h4
  rw [hi] at h4
  dsimp only at h4
  split at h4
  rotate_left
  · cases h4
  rename_i z hz
  simp only [Bool.and_eq_true] at h4
  have h7 := (repI_cells (zmatch_rep (I := fun _ _ => none) h4.1)).1
  rw [Nat.eq_of_beq_eq_true h4.2] at h7
  have h8 : elemT P t = e := by simp only [elemT, he]
  exact ⟨t, u, e, i, z, by apply Array.ext'; simpa using htu, und_underlying he (by simp), by rw [h8]; simp only [szOf, hi], ti_info hi, hz, h7, h6, h5, by rw [htu]; rfl⟩
theorem upd_same {α : Type} {e : Nat → Option α} {k : Nat} {r : α} (h : e k = some r) : upd e k (some r) = e := by
  funext u
  by_cases hu : u = k
  · subst hu; rw [upd_eq, h]
  · rw [upd_ne _ _ _ _ hu]
theorem sound_append (h : Rel cx g s a w) (hd : dstB cx.n o.dst = true) {c : Call} (hc : c.callee = .builtin .append) (ho : o.op = .call c) (hB : appendB P c = true) {cf : Cfg}
    (hk : exPlan P cf o.dst s K (plan P o (getT P s))) : o.wp P a w (Post cx g K) Q := by
  obtain ⟨t, u, e, i, z, b1, b2, b3, b4, b5, b6, b7, b8, b9⟩ := appendB_spec hB
  simp only [plan, ho, callPlan, hc, b9, b3] at hk
  split at hk
  · exact hk.elim
  rename_i ds hds
  have hev := args_eval h hds
  obtain ⟨q, hrun⟩ := run_builtin hc ho a
  split at hk
  rotate_left
  · exact hk.elim
  rename_i dx dy
  obtain ⟨vx, vy, e1, e2, e3⟩ := two_args hev rfl
  have ea : c.args.map a.eval = #[vx, vy] := by apply Array.ext'; simpa using e1
  have hgo : ∀ {v : Value} {w' : World}, (Builtin.append_ #[t, u] o.type #[vx, vy]).run P w = .ok v w' → Post cx g K (a.put o.dst v) w' → o.wp P a w (Post cx g K) Q := by
    intro v w' f1 f2
    refine wp_value (v := v) (w' := w') ?_ f2
    rw [hrun, ea, b1]
    simp [builtin, f1]
  clear hrun ea e1 hev hds
  simp only [exPlan] at hk
  split at hk
  · exact hk.elim
  rename_i hzz
  simp only [Bool.and_eq_true] at hzz
  obtain ⟨hz1, hz2⟩ := hzz
  have hrow : ∀ {K' : List Dat → Prop}, rdRow s dy K' → ∃ (xs : List Dat) (vs : Array Value), K' xs ∧ (∀ e ∈ xs, (cells e).length = i.size) ∧ Src P i.size u vy xs.length vs.toList w ∧ vs.size = xs.length * i.size ∧
      ∀ j x, nth (xs.flatMap cells) j = some x → ∃ u, vs[j]? = some u ∧ RepI g.I u x ∧ leaf u = true := by
    intro K' hk'
    obtain ⟨xs, k1, k2, k3, vs, k4, k5, k6, k7⟩ := source_run (P := P) h hz2 hk' e3
    exact ⟨xs, vs, k1, k2, src_of b8 k2 k3 k4 k5 k6 k7, k4, k7⟩
  have hfit : ∀ n m : Nat, m < n → n ≤ 2 ^ 32 → Builtin.nextslicecap n m * i.bytes ≤ 281474976710656 := by
    intro n m h1 h2
    refine growslice_fits h1 ?_
    exact Nat.le_trans (Nat.mul_le_mul h2 b7) (by decide)
  have hnew : ∀ {k : Nat} {r : Row} {xs : List Dat} {vs : Array Value} {base : Option Addr} {sLen sCap : Nat} {olds : List Value} {s' : St}, vx = .slice base sLen sCap →
      (∀ x ∈ r.es ++ xs, (cells x).length = r.sz) → r.sz = i.size → Src P i.size u vy xs.length vs.toList w → vs.size = xs.length * i.size →
      (∀ j x, nth (xs.flatMap cells) j = some x → ∃ u, vs[j]? = some u ∧ RepI g.I u x ∧ leaf u = true) →
      sLen = r.es.length → (Builtin.firstCells i.size sLen (.slice base sLen sCap)).run P w.drew = .ok olds.toArray w.drew → olds.length = r.es.length * i.size →
      (∀ j x, nth (r.es.flatMap cells) j = some x → ∃ u, olds[j]? = some u ∧ RepI g.I u x ∧ leaf u = true) →
      sCap < sLen + xs.length → (r.es ++ xs).length ≤ 2 ^ 32 →
      ((s.R k = none ∧ r.own = true) ∨ ∃ r0 t0, s.R k = some r0 ∧ g.tv k = some t0 ∧ r0.sz = r.sz ∧ r0.es.length < (r.es ++ xs).length) → r.sz ≠ 0 →
      s'.H = s.H → s'.R = upd s.R k (some { r with es := r.es ++ xs }) → s'.env = s.env → K (s'.put o.dst (.ref k (r.es ++ xs).length)) →
      o.wp P a w (Post cx g K) Q := by
    intro k r xs vs base sLen sCap olds s' g1 g2 g3 g4 g5 g6 g7 g8 g9 g10 g11 g12 g13 gz g14 g15 g16 g17
    subst g7
    have hlen : (r.es ++ xs).length = r.es.length + xs.length := by simp
    have hw := run_append_grow_src w t u o.type e i z b2 b4 b5 base r.es.length sCap olds g8 vy xs.length vs.toList g4 g11 (by rw [hlen] at g12; omega) (hfit _ _ g11 (by rw [← hlen]; exact g12))
    have hD : Rel cx g s a w.drew := ⟨h.env, h.size, h.defers, h.mem.drew _⟩
    have hge := grownCap_ge w (r.es.length + xs.length) sCap e
    generalize grownCap w (r.es.length + xs.length) sCap e = cap at *
    have hcs : ((olds ++ vs.toList).toArray ++ Builtin.zeroCells z.cells (cap - (r.es.length + xs.length))).size = cap * r.sz := by
      simp only [Array.size_append, List.size_toArray, List.length_append, size_zeroCells, b6, g9, Array.length_toList, g5, g3, ← Nat.add_mul]
      congr 1; omega
    obtain ⟨g', p1, p2, p3⟩ := grow_new hD (k := k) (r := { r with es := r.es ++ xs }) (cap := cap) (c := (olds ++ vs.toList).toArray ++ Builtin.zeroCells z.cells (cap - (r.es.length + xs.length))) (e := e) (fz := (0, 0)) g13 gz g2 (by rw [hlen]; exact hge)
      (by rw [hcs]; exact Nat.le_refl _) (fun o _ => by simp) (fun j d hd => by
        have h1 : ∀ x ∈ r.es, (cells x).length = r.sz := fun x hx => g2 x (List.mem_append_left _ hx)
        have h2 : ∀ x ∈ xs, (cells x).length = r.sz := fun x hx => g2 x (List.mem_append_right _ hx)
        rw [flat_append _ _ h1] at hd
        have hj : (r.es.length * r.sz) = olds.length := by rw [g9, g3]
        split at hd
        · rename_i hlt
          obtain ⟨v, v1, v2, v3⟩ := g10 j d hd
          refine ⟨v, ?_, v2, v3⟩
          rw [Array.getElem?_append_left (by simp; omega)]
          simp only [List.getElem?_toArray]
          rw [List.getElem?_append_left (by omega)]; exact v1
        · rename_i hlt
          obtain ⟨v, v1, v2, v3⟩ := g6 _ d hd
          have := lt_of_nth hd
          rw [flat_length h2] at this
          refine ⟨v, ?_, v2, v3⟩
          rw [Array.getElem?_append_left (by simp [g5]; rw [← g3]; omega)]
          simp only [List.getElem?_toArray]
          rw [List.getElem?_append_right (by omega), ← hj]; simpa using v1) (s' := s') g14 g15 g16
    refine hgo (by rw [g1]; exact hw) ⟨_, g', g17, p1, ?_⟩
    exact p2.put hd (.ref _ p3 (Nat.le_refl _) (fun _ => by simp only [Tv.value, hlen]; rfl) ⟨_, _, by rw [hlen]⟩)
  split at hk
  ·
    rename_i z1 es u1 hdst
    have hz1 : z1 = i.size := Nat.eq_of_beq_eq_true hz1
    obtain ⟨xs, vs, k1, k2, k3, k4, k5⟩ := hrow hk
    obtain ⟨k6, k7⟩ := k1
    split at k7
    rotate_left
    · exact k7.elim
    rename_i hn
    have hz0 : i.size ≠ 0 := fun e0 => by rw [e0] at hn; cases hn
    rw [beq_ne hz0] at hn
    dsimp only at hn
    have hvx : vx = .slice none 0 0 ∧ es = [] := by
      cases e2 with | pure r => cases r; exact ⟨rfl, rfl⟩
    obtain ⟨hvx, rfl⟩ := hvx
    by_cases hx0 : xs = []
    · subst hx0
      obtain ⟨g', p1, p2, p3⟩ := none_row h hn ⟨i.size, true, []⟩ hz0 rfl (s' := { env := s.env, H := s.H, hn := s.hn, R := upd s.R u1 (some ⟨i.size, true, []⟩), rn := u1 :: s.rn, y := s.y }) rfl rfl rfl
      refine hgo (by rw [hvx]; exact run_append_none b2 b4 (by simpa using k3)) ⟨_, g', k7, p1, ?_⟩
      have := p2.put hd (.ref _ p3 (Nat.le_refl _) (fun _ => rfl) ⟨_, _, rfl⟩)
      rw [hdst] at this ⊢
      exact this
    · have hpos := List.length_pos_iff.2 hx0
      refine hnew (k := u1) (r := ⟨i.size, true, []⟩) (xs := xs) (olds := []) (s' := { env := s.env, H := s.H, hn := s.hn, R := upd s.R u1 (some ⟨i.size, true, xs⟩), rn := u1 :: s.rn, y := s.y }) hvx (by simpa using k2) rfl k3 k4 k5 rfl
        (run_firstCells_none _ _ _ _ _) (by simp) (by simp [nth]) (by simpa using hpos) (by simpa using k6) (.inl ⟨hn, rfl⟩) hz0 rfl rfl rfl ?_
      rw [hdst]; exact k7
  ·
    rename_i k n u1 hdst
    cases hr : s.R k with
    | none => rw [hr] at hk; exact hk.elim
    | some r =>
      rw [hr] at hk
      dsimp only at hk
      have hz0 : r.sz ≠ 0 := (rowSz_ref hr hz1).2
      have hz1 : r.sz = i.size := (rowSz_ref hr hz1).1
      obtain ⟨xs, vs, k1, k2, k3, k4, k5⟩ := hrow hk
      obtain ⟨⟨k6, k7⟩, k8⟩ := k1
      obtain ⟨tv, t1, t2, t3, t4, t5, t6⟩ := h.mem.ref_row e2 hr k6
      have hlen : (r.es ++ xs).length = r.es.length + xs.length := by simp
      have hall : ∀ x ∈ r.es ++ xs, (cells x).length = r.sz := by
        intro x hx
        rcases List.mem_append.1 hx with hx | hx
        · exact t5 x hx
        · rw [hz1]; exact k2 x hx
      cases hb : tv.base with
      | none =>
        have hvx : vx = .slice none 0 0 := by rw [t4]; simp only [Tv.value, hb]
        have hre : r.es = [] ∧ tv.cap = 0 := by have t6 := t6.o hz0; unfold RowO at t6; rw [hb] at t6; exact t6
        by_cases hx0 : xs = []
        · subst hx0
          refine hgo (by rw [hvx]; exact run_append_none b2 b4 (by simpa using k3)) ?_
          rw [List.append_nil, upd_same hr] at k8
          refine ⟨_, g, k8, Ext.refl g, ?_⟩
          have h' : Rel cx g { env := s.env, H := s.H, hn := s.hn, R := s.R, rn := s.rn, y := s.y } a w := h
          have := h'.put hd (v := .slice none 0 0) (d := .ref k r.es.length) (.ref tv t1 (by rw [t3]; exact Nat.le_refl _) (fun _ => by rw [← t4, hvx]) (by rw [hre.1]; exact ⟨_, _, rfl⟩))
          rw [hdst] at this ⊢
          exact this
        · have hpos := List.length_pos_iff.2 hx0
          refine hnew (k := k) (r := r) (xs := xs) (olds := []) (s' := { s with R := upd s.R k (some { r with es := r.es ++ xs }) }) hvx hall hz1 k3 k4 k5 (by rw [hre.1]; rfl) (run_firstCells_none _ _ _ _ _) (by rw [hre.1]; simp) (by rw [hre.1]; simp [nth]) (by omega) k7
            (.inr ⟨r, tv, hr, t1, rfl, by rw [hlen]; omega⟩) hz0 rfl rfl rfl ?_
          rw [hdst]; exact k8
      | some b =>
        have hvx : vx = .slice (some ⟨b, 0, none⟩) r.es.length tv.cap := by rw [t4]; simp only [Tv.value, hb, t3]
        by_cases hcap : r.es.length + xs.length ≤ tv.cap
        · obtain ⟨w', g', f1, f2, f3, f4⟩ := grow_in (P := P) h hr hz0 t1 hb (xs := xs) (by intro x hx; rw [hz1]; exact k2 x hx) hcap (by rw [hz1]; exact k4) k5
          refine hgo (v := .slice (some ⟨b, 0, none⟩) (r.es.length + xs.length) tv.cap) (w' := w') (by rw [hvx]; exact run_append_in b2 b4 k3 hcap (by rw [← hz1]; exact f1)) ⟨_, g', k8, f2, ?_⟩
          have := f3.put hd (v := .slice (some ⟨b, 0, none⟩) (r.es.length + xs.length) tv.cap) (d := .ref k (r.es ++ xs).length) (.ref _ f4 (Nat.le_refl _) (fun _ => by simp only [Tv.value, hb, hlen]) ⟨_, _, by rw [hlen]⟩)
          rw [hdst] at this ⊢
          exact this
        · obtain ⟨olds, o1, o2, o3⟩ := run_firstCells_row (P := P) h hr hz0 t1 w.drew (fun _ _ => rfl)
          have hval : tv.value = .slice (some ⟨b, 0, none⟩) r.es.length tv.cap := by rw [← t4, hvx]
          refine hnew (k := k) (r := r) (xs := xs) (olds := olds.toList) (s' := { s with R := upd s.R k (some { r with es := r.es ++ xs }) }) hvx hall hz1 k3 k4 k5 rfl (by rw [← hval, ← hz1]; simpa using o2) (by rw [← hz1]; simpa using o1)
            (fun j x hx => by obtain ⟨v, v1, v2⟩ := o3 j x hx; exact ⟨v, by simpa using v1, v2⟩) (by omega) k7
            (.inr ⟨r, tv, hr, t1, rfl, ?_⟩) hz0 rfl rfl rfl ?_
          · have hcap0 : r.es.length ≤ tv.cap := by
              have t6 := t6.o hz0; unfold RowO at t6; rw [hb] at t6; dsimp only at t6; rw [← t3]; exact t6.1
            rw [hlen]; omega
          · rw [hdst]; exact k8
  · exact hk.elim
end
end Abs
namespace Abs
open Go
section
variable {P : Program} {cx : Cx} {g : Gh} {s : St} {a : Act} {w : World} {o : Oper} {K : St → Prop} {Q : Go.Exit → Act → World → Prop}
theorem MapRep.app {I : Nat → Nat → Option Value} {es fs : List MapEntry} {ds xs : List Dat} (h : MapRep I es ds) (k : MapRep I fs xs) : MapRep I (es ++ fs) (ds ++ xs) := by
  induction h with
  | nil => exact k
  | del _ ih => exact .del ih
  | cons hk hv _ ih => exact .cons hk hv ih
theorem MapRep.flat {I : Nat → Nat → Option Value} {es : List MapEntry} {ds : List Dat} (h : MapRep I es ds) : ∀ d ∈ ds, (cells d).length = 0 := by
  induction h with
  | nil => intro d hd; cases hd
  | del _ ih => intro d hd; rcases List.mem_cons.1 hd with e | e; · subst e; rfl
                exact ih d e
  | cons _ _ _ ih => intro d hd; rcases List.mem_cons.1 hd with e | e; · subst e; rfl
                     exact ih d e
theorem mfind_none {I : Nat → Nat → Option Value} {q : IntKind} {n : Int} {es : List MapEntry} {ds : List Dat} (h : MapRep I es ds) : ∀ {i j : Nat}, mfind q n ds i = some none → Instr.findNow (.int q) (.int q n) es j = some none := by
  induction h with
  | nil => intro i j _; rfl
  | del _ ih => intro i j e; exact ih (by simpa [mfind] using e)
  | @cons e es q' m v ds hk hv _ ih =>
    intro i j e1
    simp only [mfind] at e1
    split at e1
    · rename_i hq
      have hq := kindB_eq hq
      subst hq
      split at e1
      · cases e1
      · rename_i hm
        simp only [Instr.findNow, Instr.sameNow, hk, if_true, hm]
        exact ih e1
    · cases e1
theorem mfind_some {I : Nat → Nat → Option Value} {q : IntKind} {n : Int} {es : List MapEntry} {ds : List Dat} (h : MapRep I es ds) : ∀ {i r : Nat}, mfind q n ds i = some (some r) →
    ∃ es1 e es2 ds1 d ds2, es = es1 ++ e :: es2 ∧ ds = ds1 ++ .me (.int q n) d :: ds2 ∧ r = i + ds1.length ∧ MapRep I es1 ds1 ∧ MapRep I es2 ds2 ∧ e.key = .int q n ∧ RepI I e.val d ∧
      ∀ j, Instr.findNow (.int q) (.int q n) es j = some (some (j + es1.length, e.val)) := by
  induction h with
  | nil => intro i r e; cases e
  | del _ ih =>
    intro i r e
    obtain ⟨es1, e', es2, ds1, d, ds2, h1, h2, h3, h4, h5, h6, h7, h8⟩ := ih (i := i + 1) (r := r) (by simpa [mfind] using e)
    exact ⟨es1, e', es2, .md :: ds1, d, ds2, h1, by rw [h2]; rfl, by rw [h3, List.length_cons]; omega, .del h4, h5, h6, h7, h8⟩
  | @cons e es q' m v ds hk hv hr ih =>
    intro i r e1
    simp only [mfind] at e1
    split at e1
    · rename_i hq
      have hq := kindB_eq hq
      subst hq
      split at e1
      · rename_i hm
        cases e1
        have hm2 : n = m := by simpa using hm
        subst hm2
        refine ⟨[], e, es, [], v, ds, rfl, rfl, by simp, .nil, hr, hk, hv, fun j => ?_⟩
        simp only [Instr.findNow, Instr.sameNow, hk, if_true, hm]
        simp
      · rename_i hm
        obtain ⟨es1, e', es2, ds1, d, ds2, h1, h2, h3, h4, h5, h6, h7, h8⟩ := ih (i := i + 1) (r := r) e1
        refine ⟨e :: es1, e', es2, .me (.int q' m) v :: ds1, d, ds2, by rw [h1]; rfl, by rw [h2]; rfl, by rw [h3, List.length_cons]; omega, .cons hk hv h4, h5, h6, h7, fun j => ?_⟩
        simp only [Instr.findNow, Instr.sameNow, hk, if_true, hm]
        rw [h8 (j + 1), List.length_cons]
        congr 3; omega
    · cases e1
theorem run_checkKey {t : TypeId} {q : IntKind} (ht : P.underlying t = some (.int q)) (e : Bool) (n : Nat) (v : Value) (w : World) : (Instr.checkKey e (n + 1) t v).run P w = .ok () w := by
  simp [Instr.checkKey, run_underlying ht]
theorem run_findKey {t : TypeId} {q : IntKind} (ht : P.underlying t = some (.int q)) {v : Value} {es : List MapEntry} {r : Option (Nat × Value)} (h : Instr.findNow (.int q) v es 0 = some r) (w : World) : (Instr.findKey t v es).run P w = .ok r w := by
  simp [Instr.findKey, run_underlying ht, h]
theorem setB_same {b : Nat} {ob : Obj} (h : w.heap[b]? = some ob) : setB w b ob = w := by
  unfold setB
  have : w.heap.setIfInBounds b ob = w.heap := by
    apply Array.ext_getElem?
    intro i
    by_cases hi : i = b
    · subst hi; rw [Array.getElem?_setIfInBounds_self_of_lt (lt_of_blk h), h]
    · rw [Array.getElem?_setIfInBounds_ne (Ne.symm hi)]
  rw [this]
theorem map_upd (h : Rel cx g s a w) {k : Nat} {row : Row} (hr : s.R k = some row) {t : Tv} {b : Nat} {es : Array MapEntry} {clock : Nat} (ht : g.tv k = some t) (hz : t.sz = 0) (hn : t.n = row.es.length) (hb : t.base = some b) (hm : cx.mine b)
    (hmu : ∀ l, g.mu l ≠ some b) (hI : ∀ j, g.I b j = none) (hobj : w.heap[b]? = some (.map es clock)) {es' : Array MapEntry} {clock' : Nat} {ds' : List Dat} (hrep : MapRep g.I es'.toList ds') (hlen : row.es.length ≤ ds'.length) :
    ∃ g', Ext g g' ∧ Rel cx g' { s with R := upd s.R k (some ⟨0, true, ds'⟩) } a (setB w b (.map es' clock')) := by
  have hx : Ext g (g.row k { t with n := ds'.length }) := by
    refine g.row_ext (.inr ⟨t, ht, rfl, ?_⟩)
    by_cases he : t.n = ds'.length
    · right; rw [← he]
    · left; exact ⟨by show t.n < ds'.length; omega, fun _ => rfl⟩
  refine ⟨_, hx, fun u d hd => (h.env u d hd).mono hx, h.size, h.defers, ?_⟩
  refine h.mem.setRow (k := k) (r := ⟨0, true, ds'⟩) (t := { t with n := ds'.length }) hx rfl rfl (fun _ _ => rfl) ((Frame.refl w _).setB b _ (.inr hb)) hz rfl (fun d hd => hrep.flat d hd) ?_ ?_ rfl rfl
  · exact ⟨fun e => absurd rfl e, fun _ => ⟨rfl, b, es', clock', hb, hm, hmu, hI, heap_set_eq _ _ _ (lt_of_blk hobj), hrep⟩⟩
  · intro b' hb'
    have : b' = b := by
      have hb'' : t.base = some b' := hb'
      rw [hb] at hb''; cases hb''; rfl
    subst this
    refine ⟨fun j u hj hu hub => hj (h.mem.rdis j k u t b' hu ht hub hb), fun o v hv => ?_⟩
    have : g.I b' o = some v := hv
    rw [hI o] at this; cases this
theorem modify_at {α : Type} (f : α → α) : ∀ (l : List α) (e : α) (r : List α), (l ++ e :: r).modify l.length f = l ++ f e :: r
  | [], _, _ => by simp [List.modify]
  | x :: l, e, r => by
    have ih := modify_at f l e r
    simpa using ih
theorem intKey_spec {t : TypeId} {q : IntKind} (h : intKey P t = some q) : ∃ k e, P.underlying t = some (.map k e) ∧ P.underlying k = some (.int q) ∧ mapElem P t = e ∧ mapKeyT P t = k := by
  unfold intKey at h
  split at h
  · rename_i k e ht
    split at h
    · rename_i q' hk
      cases h
      exact ⟨k, e, und_underlying ht (by simp), und_underlying hk (by simp), by simp only [mapElem, ht], by simp only [mapKeyT, ht]⟩
    · cases h
  · cases h
theorem sound_makeMap (h : Rel cx g s a w) (hd : dstB cx.n o.dst = true) {t : TypeId} (ho : o.op = .makeMap t none) {cf : Cfg} (hk : exPlan P cf o.dst s K (plan P o (getT P s))) : o.wp P a w (Post cx g K) Q := by
  simp only [plan, ho] at hk
  split at hk
  rotate_left
  · exact hk.elim
  simp only [exPlan] at hk
  split at hk
  rotate_left
  · exact hk.elim
  rename_i u hu
  split at hk
  rotate_left
  · exact hk.elim
  rename_i hn
  refine wp_value (v := .map (some w.heap.size)) (w' := pushB w (.map #[] 0)) ?_ ?_
  · simp [execOp, ho, Instr.makeMap, newObj, Sem.run, pushB]
  · rw [hu] at hd ⊢
    have hnoI : ∀ j, g.I w.heap.size j = none := by
      intro j
      cases hj : g.I w.heap.size j with
      | none => rfl
      | some v => exact absurd (h.mem.I_lt hj) (Nat.lt_irrefl _)
    have hx : Ext g (g.row u ⟨0, 0, some w.heap.size, 0⟩) := g.row_ext (.inl (h.mem.tv_none hn))
    have hrel : Rel cx (g.row u ⟨0, 0, some w.heap.size, 0⟩) { s with R := upd s.R u (some ⟨0, true, []⟩) } a (pushB w (.map #[] 0)) := by
      refine ⟨fun u d hd => (h.env u d hd).mono hx, h.size, h.defers, ?_⟩
      refine h.mem.setRow (k := u) (r := ⟨0, true, []⟩) (t := ⟨0, 0, some w.heap.size, 0⟩) hx rfl rfl (fun _ _ => rfl) ?_ rfl rfl (fun d hd => by cases hd) ?_ ?_ rfl rfl
      · exact ⟨rfl, rfl, rfl, by simp [pushB], fun b hb _ => heap_push_old w _ b hb⟩
      · exact ⟨fun e => absurd rfl e, fun _ => ⟨rfl, w.heap.size, #[], 0, rfl, h.mem.new _ (Nat.le_refl _), fun l hl => absurd (h.mem.mu_lt hl) (Nat.lt_irrefl _), hnoI, heap_push_new _ _, .nil⟩⟩
      · intro b hb
        cases hb
        refine ⟨fun j v hj hv hub => absurd (h.mem.tv_blk hv hub).1 (Nat.lt_irrefl _), fun o v hv => ?_⟩
        have : g.I w.heap.size o = some v := hv
        rw [hnoI o] at this; cases this
    have := hrel.put hd (v := .map (some w.heap.size)) (d := .mref u) (.mref ⟨0, 0, some w.heap.size, 0⟩ (by simp [Gh.row, upd_eq]) rfl rfl)
    exact ⟨_, _, hk, hx, this.env, this.size, this.defers, this.mem.names rfl rfl⟩
theorem sound_mapUpdate (h : Rel cx g s a w) {t : TypeId} {m k x : Operand} (ho : o.op = .mapUpdate t m k x ∨ o.op = .insert t m k x) {cf : Cfg} (hk : exPlan P cf o.dst s K (plan P o (getT P s))) : o.wp P a w (Post cx g K) Q := by
  rcases ho with ho | ho
  all_goals
    simp only [plan, ho] at hk
    split at hk
    rotate_left
    · exact hk.elim
    rename_i q r q' n d hq hm hkey hx
    split at hk
    rotate_left
    · exact hk.elim
    rename_i hqq
    have hqq := kindB_eq hqq
    subst hqq
    obtain ⟨kt, e, t1, t2, t3, t4⟩ := intKey_spec hq
    simp only [exPlan] at hk
    split at hk
    · exact hk.elim
    rename_i hdst
    split at hk
    · exact hk.elim
    rename_i hp
    split at hk
    rotate_left
    · exact hk.elim
    rename_i row hrow
    split at hk
    rotate_left
    · exact hk.elim
    obtain ⟨hz, tv, b, es, clock, k1, k2, k3, k4, k5, k6, k7, k8, k9, k10, k11⟩ := h.mem.map_at (h.get hm) hrow
    have e1 := (h.get hkey).int_val
    have e2 := pure_rep hp (h.get hx)
    obtain ⟨i, hf, hk⟩ := hk
    have hgo : ∀ {w' : World}, (Instr.mapUpdate t (.map (some b)) (.int q' n) (a.eval x)).run P w = .ok () w' → Post cx g K a w' → o.wp P a w (Post cx g K) Q := by
      intro w' f1 f2
      refine wp_skips (w' := w') ?_ ?_
      · simp [execOp, ho, k5, e1, f1]
      · rw [hdst]; exact f2
    cases i with
    | none =>
      have hfn := mfind_none k11 (j := 0) hf
      obtain ⟨g', h1, h2⟩ := map_upd h hrow k1 k2 k3 k4 k7 k8 k9 k10 (es' := es.push { key := .int q' n, val := a.eval x, born := clock }) (clock' := clock + 1) (ds' := row.es ++ [.me (.int q' n) d])
        (by rw [Array.toList_push]; exact k11.app (.cons rfl e2 .nil)) (by simp)
      refine hgo (w' := setB w b (.map (es.push { key := .int q' n, val := a.eval x, born := clock }) (clock + 1))) ?_ ⟨_, g', hk, h1, h2⟩
      have hc : (Instr.checkKey false 10000 kt (.int q' n)).run P w = .ok () w := run_checkKey t2 false 9999 _ w
      simp [Instr.mapUpdate, run_underlying t1, run_getMap k10, hc, run_findKey t2 hfn, run_setMap _ k10]
    | some i =>
      obtain ⟨es1, e', es2, ds1, d1, ds2, s1, s2, s3, s4, s5, s6, s7, s8⟩ := mfind_some k11 hf
      have hi : i = ds1.length := by omega
      have hset : row.es.set i (.me (.int q' n) d) = ds1 ++ .me (.int q' n) d :: ds2 := by rw [s2, hi]; simp
      have hmod : (es.modify (0 + es1.length) fun e => { e with key := .int q' n, val := a.eval x }).toList = es1 ++ { e' with key := .int q' n, val := a.eval x } :: es2 := by
        rw [Array.toList_modify, s1, Nat.zero_add]; exact modify_at _ _ _ _
      obtain ⟨g', h1, h2⟩ := map_upd h hrow k1 k2 k3 k4 k7 k8 k9 k10 (es' := es.modify (0 + es1.length) fun e => { e with key := .int q' n, val := a.eval x }) (clock' := clock) (ds' := row.es.set i (.me (.int q' n) d))
        (by rw [hset, hmod]; exact s4.app (.cons rfl e2 s5)) (by simp)
      refine hgo (w' := setB w b (.map (es.modify (0 + es1.length) fun e => { e with key := .int q' n, val := a.eval x }) clock)) ?_ ⟨_, g', hk, h1, h2⟩
      have hc : (Instr.checkKey false 10000 kt (.int q' n)).run P w = .ok () w := run_checkKey t2 false 9999 _ w
      have hkey : ((es[0 + es1.length]?).map (·.key)).getD (.int q' n) = .int q' n := by
        have : es[0 + es1.length]? = some e' := by rw [← Array.getElem?_toList, s1]; simp
        rw [this]; exact s6
      have hst : (Instr.keyThatStays (.int q' n) (.int q' n)).run P w = .ok (.int q' n) w := by
        simp [Instr.keyThatStays, Instr.sameBits]
      simp [Instr.mapUpdate, run_underlying t1, run_getMap k10, hc, run_findKey t2 (s8 0)]
      simp only [Nat.zero_add] at hkey ⊢
      simp [hkey, hst, run_setMap _ k10]
theorem rep_ok (ok : Bool) {v : Value} {d : Dat} (b : Bool) (r : RepI g.I v d) : Rep g (if ok then .tuple #[v, .bool b] else v) (match ok with | true => .tup [d, .bool b] | false => d) := by
  cases ok with
  | false => exact .pure r
  | true =>
    refine .tup rfl (fun i u x hu hx => ?_)
    match i, hu, hx with
    | 0, hu, hx => cases hu; cases hx; exact .pure r
    | 1, hu, hx => cases hu; cases hx; exact .pure (.bool b)
theorem sound_lookup (h : Rel cx g s a w) (hd : dstB cx.n o.dst = true) {t : TypeId} {m k : Operand} {ok : Bool} (ho : o.op = .lookup t m k ok) (hB : zeroB P (mapElem P t) = true) {cf : Cfg} (hk : exPlan P cf o.dst s K (plan P o (getT P s))) : o.wp P a w (Post cx g K) Q := by
  simp only [plan, ho] at hk
  split at hk
  rotate_left
  · exact hk.elim
  rename_i q r q' n hq hm hkey
  split at hk
  rotate_left
  · exact hk.elim
  rename_i hqq
  have hqq := kindB_eq hqq
  subst hqq
  obtain ⟨kt, e, t1, t2, t3, t4⟩ := intKey_spec hq
  simp only [exPlan] at hk
  split at hk
  rotate_left
  · exact hk.elim
  rename_i row hrow
  split at hk
  rotate_left
  · exact hk.elim
  obtain ⟨hz, tv, b, es, clock, k1, k2, k3, k4, k5, k6, k7, k8, k9, k10, k11⟩ := h.mem.map_at (h.get hm) hrow
  have e1 := (h.get hkey).int_val
  obtain ⟨i, hf, hk⟩ := hk
  rw [t3] at hB hk
  have hc : (Instr.checkKey es.isEmpty 10000 kt (.int q' n)).run P w = .ok () w := run_checkKey t2 _ 9999 _ w
  have hgo : ∀ {v : Value} {d : Dat}, (Instr.lookup t (.map (some b)) (.int q' n) ok).run P w = .ok v w → Rep g v d → K (s.put o.dst d) → o.wp P a w (Post cx g K) Q := by
    intro v d f1 f2 f3
    refine wp_value (v := v) (w' := w) ?_ (post_put h hd f2 f3)
    simp [execOp, ho, k5, e1, f1]
  cases i with
  | none =>
    have hfn := mfind_none k11 (j := 0) hf
    obtain ⟨z, z1, z2, _⟩ := run_zero hB w
    refine hgo (v := if ok then .tuple #[z, .bool false] else z) ?_ (rep_ok ok false (z2 _)) hk
    simp [Instr.lookup, run_underlying t1, run_getMap k10, hc, run_findKey t2 hfn, z1]
  | some i =>
    obtain ⟨es1, e', es2, ds1, d1, ds2, s1, s2, s3, s4, s5, s6, s7, s8⟩ := mfind_some k11 hf
    obtain ⟨kd, v, hv, hk⟩ := hk
    have hi : i = ds1.length := by omega
    have : kd = .int q' n ∧ v = d1 := by
      rw [hi, nth_eq, s2] at hv
      simp at hv
      exact ⟨hv.1.symm, hv.2.symm⟩
    obtain ⟨_, rfl⟩ := this
    refine hgo (v := if ok then .tuple #[e'.val, .bool true] else e'.val) ?_ (rep_ok ok true s7) hk
    simp [Instr.lookup, run_underlying t1, run_getMap k10, hc, run_findKey t2 (s8 0)]
theorem sound_delete (h : Rel cx g s a w) (hd : dstB cx.n o.dst = true) {c : Call} (hc : c.callee = .builtin .delete) (ho : o.op = .call c) (hn : c.argTypes.size ≠ 0) {cf : Cfg}
    (hk : exPlan P cf o.dst s K (plan P o (getT P s))) : o.wp P a w (Post cx g K) Q := by
  simp only [plan, ho, callPlan, hc] at hk
  split at hk
  · exact hk.elim
  rename_i ds hds
  have hev := args_eval h hds
  obtain ⟨qq, hrun⟩ := run_builtin hc ho a
  have h0 := headD_arg (c := c) rfl hn
  generalize c.argTypes.toList.headD 0 = T at *
  split at hk
  rotate_left
  · exact hk.elim
  rename_i q r q' n hq
  split at hk
  rotate_left
  · exact hk.elim
  rename_i hqq
  have hqq := kindB_eq hqq
  subst hqq
  obtain ⟨vm, vk, e0, em, ek⟩ := two_args hev rfl
  obtain ⟨kt, e, t1, t2, t3, t4⟩ := intKey_spec hq
  simp only [exPlan] at hk
  split at hk
  · exact hk.elim
  rename_i hdst
  split at hk
  rotate_left
  · exact hk.elim
  rename_i row hrow
  split at hk
  rotate_left
  · exact hk.elim
  obtain ⟨hz, tv, b, es, clock, k1, k2, k3, k4, k5, k6, k7, k8, k9, k10, k11⟩ := h.mem.map_at em hrow
  have e1 := ek.int_val
  obtain ⟨i, hf, hk⟩ := hk
  have hck : (Instr.checkKey es.isEmpty 10000 kt (.int q' n)).run P w = .ok () w := run_checkKey t2 _ 9999 _ w
  have ea : c.args.map a.eval = #[.map (some b), .int q' n] := by apply Array.ext'; rw [← k5, ← e1]; simpa using e0
  have hgo : ∀ {w' : World}, (Builtin.delete_ c.argTypes o.type #[.map (some b), .int q' n]).run P w = .ok (.tuple #[]) w' → Post cx g K a w' → o.wp P a w (Post cx g K) Q := by
    intro w' f1 f2
    refine wp_value (v := .tuple #[]) (w' := w') ?_ ?_
    · rw [hrun, ea]; simp [builtin, f1]
    · rw [hdst]; exact f2
  cases i with
  | none =>
    have hfn := mfind_none k11 (j := 0) hf
    refine hgo (w' := w) ?_ ⟨_, g, hk, Ext.refl g, h⟩
    have := run_setMap (P := P) (.map es clock) k10
    rw [setB_same k10] at this
    simp [Builtin.delete_, h0, run_underlying t1, run_getMap k10, hck, run_findKey t2 hfn, this]
  | some i =>
    obtain ⟨es1, e', es2, ds1, d1, ds2, s1, s2, s3, s4, s5, s6, s7, s8⟩ := mfind_some k11 hf
    have hi : i = ds1.length := by omega
    have hset : row.es.set i .md = ds1 ++ .md :: ds2 := by rw [s2, hi]; simp
    have her : (es.eraseIdxIfInBounds (0 + es1.length)).toList = es1 ++ es2 := by
      rw [Array.toList_eraseIdxIfInBounds, s1, Nat.zero_add]; simp [List.eraseIdx_append_of_length_le]
    obtain ⟨g', h1, h2⟩ := map_upd h hrow k1 k2 k3 k4 k7 k8 k9 k10 (es' := es.eraseIdxIfInBounds (0 + es1.length)) (clock' := clock) (ds' := row.es.set i .md)
      (by rw [hset, her]; exact s4.app (.del s5)) (by simp)
    refine hgo (w' := setB w b (.map (es.eraseIdxIfInBounds (0 + es1.length)) clock)) ?_ ⟨_, g', hk, h1, h2⟩
    simp [Builtin.delete_, h0, run_underlying t1, run_getMap k10, hck, run_findKey t2 (s8 0)]
    simp [run_setMap _ k10]
end
end Abs
namespace Abs
open Go
section
variable {P : Program} {cx : Cx} {g : Gh} {s : St} {a : Act} {w : World}
variable {o : Oper} {K : St → Prop} {Q : Exit → Act → World → Prop}
theorem post_newImm (h : Rel cx g s a w) {t : Nat} (hd : dstB cx.n (some t) = true) {v : Value} {d : Dat} {e : TypeId} (r : Rep g v d) (ht : ∀ ds, d ≠ .tup ds)
    (hk : putImm s t d K) :
    Post cx g K (a.put (some t) (.pointer (some ⟨w.heap.size, 0, none⟩))) (pushB w (.cells v.cells e (0, 0))) := by
  obtain ⟨rc1, rc2⟩ := rep_cells r ht
  have at' : ∀ (i : Nat) x, v.cells[i]? = some x → ∃ y, nth (cells d) i = some y := fun i x hx => nth_lt (by rw [← rc1]; exact (Array.getElem?_eq_some_iff.1 hx).1)
  obtain ⟨g', he, hm, hI⟩ := h.mem.newImm (e := e) r (fun i x hx => let ⟨y, hy⟩ := at' i x hx; (rc2 i x y hx hy).2)
  have h' : Rel cx g' s a (pushB w (.cells v.cells e (0, 0))) := ⟨fun u x hx => (h.env u x hx).mono he, h.size, h.defers, hm⟩
  unfold putImm at hk
  split at hk
  · rename_i hp
    refine ⟨_, g', hk, he, h'.put hd (d := .imm d 0) (.pure ?_)⟩
    have pr := pure_rep hp (r.mono he)
    have q := repI_cells pr
    have := RepI.imm (I := g'.I) w.heap.size 0 0 d (fun j => (v.cells[j]?).getD undef) (fun j x hx => by
        have : j < v.cells.size := by rw [q.1]; exact lt_of_nth hx
        rw [Nat.zero_add, hI]; simp [this]) (fun j x hx => by
        have hj : j < v.cells.size := by rw [q.1]; exact lt_of_nth hx
        have e : v.cells[j]? = some v.cells[j] := by simp [hj]
        rw [e]; exact (q.2 j _ x e hx).2) (fun j x hx => by
        have hj : j < v.cells.size := by rw [q.1]; exact lt_of_nth hx
        have e : v.cells[j]? = some v.cells[j] := by simp [hj]
        rw [e]; exact (q.2 j _ x e hx).1)
    simpa using this
  · cases d with
    | clo f p q =>
      refine ⟨_, g', hk, he, h'.put hd (d := .pin (.clo f p q)) ?_⟩
      obtain ⟨vf, vc, e1, _⟩ := r.clo_val
      subst e1
      exact .pin (.func f vf vc) (by rw [hI]; rfl) rfl (r.mono he)
    | _ => exact hk.elim
theorem sound_boxImm (h : Rel cx g s a w) (hd : dstB cx.n o.dst = true) {t : TypeId} {x : Operand} (ho : o.op = .box t x) {d : Dat} (hx : getT P s t x = some d) (htup : ∀ ds, d ≠ .tup ds)
    {u : Nat} (hu : o.dst = some u) (hk : putImm s u d K) : o.wp P a w (Post cx g K) Q := by
  refine wp_value (v := .pointer (some ⟨w.heap.size, 0, none⟩)) (w' := pushB w (.cells (a.eval x).cells t (0, 0))) ?_ ?_
  · simp [execOp, ho, Instr.box, run_newVar]
  · rw [hu] at hd ⊢
    exact post_newImm h hd (h.get hx) htup hk
theorem sound_allocImm (h : Rel cx g s a w) (hd : dstB cx.n o.dst = true) {t : TypeId} (ho : o.op = .alloc t) (hz : zeroB P t = true)
    {u : Nat} (hu : o.dst = some u) (hk : putImm s u (zeroD P 8 t) K) : o.wp P a w (Post cx g K) Q := by
  obtain ⟨v, hv, hr, _⟩ := run_zero hz w
  refine wp_value (v := .pointer (some ⟨w.heap.size, 0, none⟩)) (w' := pushB w (.cells v.cells t (0, 0))) ?_ ?_
  · simp [execOp, ho, Instr.alloc, hv, run_newVar]
  · rw [hu] at hd ⊢
    exact post_newImm h hd (.pure (hr _)) (zeroD_notup _ _ _) hk
end
section
variable {P : Program} {cx : Cx} {g : Gh} {s : St} {a : Act} {w : World}
def opB (P : Program) (n : Nat) (o : Oper) : Bool := dstB n o.dst && match o.op with
  | .move _ => true
  | .assign _ => true
  | .pick _ _ _ => true
  | .alloc t => zeroB P t
  | .box _ _ => true
  | .build t ps => buildB P t ps
  | .buildSlice t n _ => sliceB P t n
  | .load t _ => tyB P t
  | .store t _ _ => tyB P t && isNone' o.dst
  | .nilCheck _ => true
  | .binOp op t _ _ _ => binB P op t
  | .unOp _ _ _ => true
  | .convert s d _ => convB P s d
  | .makeFunc _ _ _ => true
  | .slice t _ _ _ none => subB P t
  | .fieldAddr t _ f => fieldB P t f
  | .field t _ f => fieldB P t f
  | .indexAddr t _ _ => indexB P t
  | .index t _ _ => arrayB P t
  | .extract _ _ => true
  | .makeMap _ none => true
  | .mapUpdate _ _ _ _ => true
  | .insert _ _ _ _ => true
  | .lookup t _ _ _ => zeroB P (mapElem P t)
  | .call c => match c.callee with
    | .builtin .len => !Nat.beq c.argTypes.size 0
    | .builtin .append => appendB P c
    | .builtin .delete => !Nat.beq c.argTypes.size 0
    | .builtin .min => true
    | .builtin .max => true
    | .value _ => true
    | _ => false
  | _ => false
theorem sound_plain (h : Rel cx g s a w) {o : Oper} (hB : opB P cx.n o = true) (hc : callOf o = false) {c : Cfg} {K : St → Prop} {Q : Exit → Act → World → Prop}
    (hk : exPlan P c o.dst s K (plan P o (getT P s))) : o.wp P a w (Post cx g K) Q := by
  unfold opB at hB
  rw [Bool.and_eq_true] at hB
  obtain ⟨hd, hB⟩ := hB
  cases ho : o.op with
  | move x =>
    simp only [plan, ho] at hk
    split at hk
    · rename_i d hx; exact sound_move h hd (.inl ho) hx hk
    · exact hk.elim
  | assign x =>
    simp only [plan, ho] at hk
    split at hk
    · rename_i d hx; exact sound_move h hd (.inr ho) hx hk
    · exact hk.elim
  | pick c' x y =>
    simp only [plan, ho] at hk
    split at hk
    · rename_i b hb; exact sound_pick h hd ho hb hk
    · exact hk.elim
  | alloc t =>
    rw [ho] at hB
    simp only [plan, ho, exPlan] at hk
    split at hk
    · rename_i u hu
      split at hk
      · split at hk
        · rename_i hn; exact sound_alloc h hd ho hB hu hn hk
        · exact hk.elim
      · exact sound_allocImm h hd ho hB hu hk
    · exact hk.elim
  | box t x =>
    simp only [plan, ho] at hk
    split at hk
    · rename_i d hx
      split at hk
      · rename_i hb
        simp only [Bool.and_eq_true, Bool.not_eq_true'] at hb
        simp only [exPlan] at hk
        split at hk
        · rename_i u hu
          split at hk
          · split at hk
            · rename_i hn
              exact sound_box h hd ho hx (by intro ds e; subst e; simp [isTup] at hb) hu hn hk
            · exact hk.elim
          · exact sound_boxImm h hd ho hx (by intro ds e; subst e; simp [isTup] at hb) hu hk
        · exact hk.elim
      · exact hk.elim
    · exact hk.elim
  | build t ps => rw [ho] at hB; exact sound_build h hd ho hB hk
  | buildSlice t n ps => rw [ho] at hB; exact sound_buildSlice h hd ho hB hk
  | load t x =>
    rw [ho] at hB
    simp only [plan, ho] at hk
    split at hk
    · rename_i d hx; exact sound_load h hd ho hB hx hk
    · exact hk.elim
  | store t x y =>
    rw [ho] at hB
    simp only [Bool.and_eq_true] at hB
    have hn : o.dst = none := by
      cases hdst : o.dst with
      | none => rfl
      | some u => simp [hdst, isNone'] at hB
    simp only [plan, ho] at hk
    split at hk
    · rename_i p hx
      split at hk
      · rename_i d hy; exact sound_store h ho hn hB.1 hx hy hk
      · exact hk.elim
    · exact hk.elim
  | nilCheck x => exact sound_nilCheck h hd ho hk
  | binOp op t x y t' => rw [ho] at hB; exact sound_binOp h hd ho hB hk
  | unOp op t x => exact sound_unOp h hd ho hk
  | convert s d x => rw [ho] at hB; exact sound_convert h hd ho hB hk
  | makeFunc fn first cap => exact sound_makeFunc h hd ho hk
  | slice t x lo hi mx =>
    cases mx with
    | none => rw [ho] at hB; exact sound_slice h hd ho hB hk
    | some m => rw [ho] at hB; cases hB
  | fieldAddr t x f => rw [ho] at hB; exact sound_fieldAddr h hd ho hB hk
  | field t x f => rw [ho] at hB; exact sound_field h hd ho hB hk
  | indexAddr t x y => rw [ho] at hB; exact sound_indexAddr h hd ho hB hk
  | index t x y => rw [ho] at hB; exact sound_index h hd ho hB hk
  | extract x i => exact sound_extract h hd ho hk
  | makeMap t r =>
    cases r with
    | none => exact sound_makeMap h hd ho hk
    | some r => rw [ho] at hB; cases hB
  | mapUpdate t m k x => exact sound_mapUpdate h (.inl ho) hk
  | insert t m k x => exact sound_mapUpdate h (.inr ho) hk
  | lookup t x i ok => rw [ho] at hB; exact sound_lookup h hd ho hB hk
  | call c' =>
    rw [ho] at hB
    dsimp only at hB
    cases hce : c'.callee with
    | value f => simp [callOf, ho, hce] at hc
    | invoke r m => rw [hce] at hB; cases hB
    | builtin b =>
      rw [hce] at hB
      cases b <;> first
        | exact sound_append h hd hce ho hB hk
        | exact sound_min h hd (.inl hce) ho hk
        | exact sound_min h hd (.inr hce) ho hk
        | (refine sound_len h hd hce ho (fun e => ?_) hk; rw [e] at hB; cases hB)
        | (refine sound_delete h hd hce ho (fun e => ?_) hk; rw [e] at hB; cases hB)
        | cases hB
  | _ => rw [ho] at hB; cases hB
end
end Abs
namespace Abs
open Go
theorem place_spec : ∀ (ls : List Nat) (i l j : Nat), place ls i l = some j → i ≤ j ∧ nth ls (j - i) = some l
  | [], _, _, _, h => by simp [place] at h
  | x :: xs, i, l, j, h => by
    simp only [place] at h
    cases hb : Nat.beq x l with
    | true =>
      rw [hb] at h
      simp at h; subst h
      have := Nat.eq_of_beq_eq_true hb
      subst this
      exact ⟨Nat.le_refl _, by simp [nth]⟩
    | false =>
      rw [hb] at h
      obtain ⟨h1, h2⟩ := place_spec xs (i + 1) l j h
      refine ⟨by omega, ?_⟩
      rw [show j - i = (j - (i + 1)) + 1 by omega]
      exact h2
theorem place_some {ls : List Nat} {l j : Nat} (h : place ls 0 l = some j) : nth ls j = some l := (place_spec ls 0 l j h).2
theorem place_none : ∀ (ls : List Nat) (i l : Nat), place ls i l = none → l ∉ ls
  | [], _, _, _ => by simp
  | x :: xs, i, l, h => by
    simp only [place] at h
    cases hb : Nat.beq x l with
    | true => rw [hb] at h; simp at h
    | false =>
      rw [hb] at h
      have h1 := place_none xs (i + 1) l h
      intro hm
      rcases List.mem_cons.1 hm with e | e
      · subst e; simp at hb
      · exact h1 e
theorem mem_of_nth' {α : Type} {l : List α} {i : Nat} {x : α} (h : nth l i = some x) : x ∈ l := by
  rw [nth_eq] at h; exact List.mem_of_getElem? h
theorem place_nodup {ls : List Nat} {l j : Nat} (hn : ls.Nodup) (h : nth ls j = some l) : place ls 0 l = some j := by
  cases hp : place ls 0 l with
  | none => exact absurd (mem_of_nth' h) (place_none _ _ _ hp)
  | some i =>
    have := place_some hp
    rw [nth_eq] at this h
    obtain ⟨a1, a2⟩ := List.getElem?_eq_some_iff.1 this
    obtain ⟨b1, b2⟩ := List.getElem?_eq_some_iff.1 h
    have := (List.getElem_inj hn (i := i) (j := j) (h₀ := a1) (h₁ := b1)).1 (a2.trans b2.symm)
    rw [this]
theorem nth_prefix {α : Type} {l m : List α} (h : l <+: m) {i : Nat} {x : α} (hx : nth l i = some x) : nth m i = some x := by
  obtain ⟨t, rfl⟩ := h
  have := lt_of_nth hx
  rw [nth_eq] at *
  rw [List.getElem?_append_left this]; exact hx
def Gh.sub (g : Gh) (ls ks : List Nat) : Gh :=
  ⟨g.I, fun l => if 1000 ≤ l then (nth ls (l - 1000)).bind g.mu else none, fun k => if 1000 ≤ k then (nth ks (k - 1000)).bind g.tv else none⟩
theorem sub_mu (g : Gh) {ls ks : List Nat} {i l : Nat} (h : nth ls i = some l) : (g.sub ls ks).mu (1000 + i) = g.mu l := by
  simp [Gh.sub, h]
theorem sub_tv (g : Gh) {ls ks : List Nat} {i k : Nat} (h : nth ks i = some k) : (g.sub ls ks).tv (1000 + i) = g.tv k := by
  simp [Gh.sub, h]
theorem sub_mu_inv {g : Gh} {ls ks : List Nat} {l b : Nat} (h : (g.sub ls ks).mu l = some b) : ∃ i l', l = 1000 + i ∧ nth ls i = some l' ∧ g.mu l' = some b := by
  simp only [Gh.sub] at h
  split at h
  · rename_i hl
    obtain ⟨l', h1, h2⟩ := Option.bind_eq_some_iff.1 h
    exact ⟨l - 1000, l', by omega, h1, h2⟩
  · cases h
theorem sub_tv_inv {g : Gh} {ls ks : List Nat} {k : Nat} {t : Tv} (h : (g.sub ls ks).tv k = some t) : ∃ i k', k = 1000 + i ∧ nth ks i = some k' ∧ g.tv k' = some t := by
  simp only [Gh.sub] at h
  split at h
  · rename_i hl
    obtain ⟨l', h1, h2⟩ := Option.bind_eq_some_iff.1 h
    exact ⟨k - 1000, l', by omega, h1, h2⟩
  · cases h
theorem Rep.ref_sub {g : Gh} {ls ks : List Nat} {i k n : Nat} {v : Value} (r : Rep g v (.ref k n)) (h : nth ks i = some k) : Rep (g.sub ls ks) v (.ref (1000 + i) n) := by
  cases r with
  | pure r => cases r
  | ref t ht hn hv h1 => exact .ref t ((sub_tv g h).trans ht) hn hv h1
theorem Rep.ptr_sub {g : Gh} {ls ks : List Nat} {i l off : Nat} {v : Value} (r : Rep g v (.ptr l off)) (h : nth ls i = some l) : Rep (g.sub ls ks) v (.ptr (1000 + i) off) := by
  cases r with
  | pure r => cases r
  | ptr hb => exact .ptr ((sub_mu g h).trans hb)
theorem Rep.mref_sub {g : Gh} {ls ks : List Nat} {i k : Nat} {v : Value} (r : Rep g v (.mref k)) (h : nth ks i = some k) : Rep (g.sub ls ks) v (.mref (1000 + i)) := by
  cases r with
  | pure r => cases r
  | mref t ht hz hb => exact .mref t ((sub_tv g h).trans ht) hz hb
structure More (ls ls' : List Nat) : Prop where
  pre : ls <+: ls'
  nodup : ls.Nodup → ls'.Nodup
theorem More.refl (ls : List Nat) : More ls ls := ⟨List.prefix_refl _, id⟩
theorem More.trans {a b c : List Nat} (h : More a b) (k : More b c) : More a c := ⟨h.pre.trans k.pre, fun x => k.nodup (h.nodup x)⟩
theorem More.snoc {ls : List Nat} {l : Nat} (h : place ls 0 l = none) : More ls (ls ++ [l]) :=
  ⟨List.prefix_append _ _, fun hn => by
    have := place_none _ _ _ h
    rw [List.nodup_append]
    exact ⟨hn, by simp, fun a ha b hb => by simp at hb; subst hb; intro e; subst e; exact this ha⟩⟩
theorem nth_snoc (ls : List Nat) (l : Nat) : nth (ls ++ [l]) ls.length = some l := by simp [nth_eq]
section
variable {P : Program} {cx : Cx} {a : Act} {w : World}
def Handed (g' : Gh) (ls' ks' : List Nat) (g : Gh) (d d' : Dat) : Prop :=
  ∀ gf lsf ksf, Ext g' gf → ls' <+: lsf → ks' <+: ksf → ∀ v, Rep g v d → Rep (gf.sub lsf ksf) v d'
theorem Handed.of_leak {g g' : Gh} {ls ks : List Nat} {d d' : Dat} (h : ∀ v, Rep g v d → RepI g'.I v d') : Handed g' ls ks g d d' :=
  fun gf _ _ he _ _ v hv => .pure ((h v hv).mono he.I)
theorem Handed.mono {g g' g'' : Gh} {ls ls' ks ks' : List Nat} {d d' : Dat} (h : Handed g' ls ks g d d') (he : Ext g' g'') (hl : ls <+: ls') (hk : ks <+: ks') : Handed g'' ls' ks' g d d' :=
  fun gf lsf ksf e1 e2 e3 v hv => h gf lsf ksf (he.trans e1) (hl.trans e2) (hk.trans e3) v hv
theorem Handed.pre {g0 g g' : Gh} {ls ks : List Nat} {d d' : Dat} (h : Handed g' ls ks g d d') (he : Ext g0 g) : Handed g' ls ks g0 d d' :=
  fun gf lsf ksf e1 e2 e3 v hv => h gf lsf ksf e1 e2 e3 v (hv.mono he)
theorem Handed.ptr {g g' : Gh} {ls ks : List Nat} {i l off : Nat} (h : nth ls i = some l) (he : Ext g g') : Handed g' ls ks g (.ptr l off) (.ptr (1000 + i) off) :=
  fun gf lsf ksf e1 e2 _ v hv => (hv.mono (he.trans e1)).ptr_sub (nth_prefix e2 h)
theorem Handed.same {g g' : Gh} {ls ks : List Nat} {d : Dat} (h : pureD d = true) (he : Ext g g') : Handed g' ls ks g d d :=
  fun gf _ _ e1 _ _ v hv => .pure ((pure_rep h hv).mono (he.trans e1).I)
theorem handPins_spec : ∀ (ds : List Dat) {ls : List Nat} {K : List Nat → List Dat → Prop}, handPins ls ds K →
    ∃ ls' ds', K ls' ds' ∧ More ls ls' ∧ ds'.length = ds.length ∧ ∀ (i : Nat) d, nth ds i = some d → ∃ d', nth ds' i = some d' ∧ ∀ g ks, Handed g ls' ks g d d'
  | [], ls, K, hk => ⟨ls, [], hk, More.refl _, rfl, fun i d hd => by simp [nth] at hd⟩
  | d :: ds, ls, K, hk => by
    have join : ∀ {ls1 : List Nat} {d1 : Dat}, More ls ls1 → (∀ g ks, Handed g ls1 ks g d d1) → handPins ls1 ds (fun ls ds => K ls (d1 :: ds)) →
        ∃ ls' ds', K ls' ds' ∧ More ls ls' ∧ ds'.length = (d :: ds).length ∧ ∀ (i : Nat) x, nth (d :: ds) i = some x → ∃ d', nth ds' i = some d' ∧ ∀ g ks, Handed g ls' ks g x d' := by
      intro ls1 d1 m1 hh hk
      obtain ⟨ls2, ds2, k2, m2, n2, r2⟩ := handPins_spec ds hk
      refine ⟨ls2, d1 :: ds2, k2, m1.trans m2, by simp [n2], fun i x hx => ?_⟩
      cases i with
      | zero => simp [nth] at hx; subst hx; exact ⟨d1, rfl, fun g ks => (hh g ks).mono (Ext.refl g) m2.pre (List.prefix_refl _)⟩
      | succ i => exact r2 i x (by simpa [nth] using hx)
    simp only [handPins_cons] at hk
    split at hk
    · split at hk
      · rename_i i hi
        exact join (More.refl _) (fun g ks => Handed.ptr (place_some hi) (Ext.refl g)) hk
      · rename_i hi
        exact join (More.snoc hi) (fun g ks => Handed.ptr (nth_snoc _ _) (Ext.refl g)) hk
    · split at hk
      · rename_i hp
        exact join (More.refl _) (fun g ks => Handed.same hp (Ext.refl g)) hk
      · exact hk.elim
theorem handPin_spec {ls : List Nat} {d : Dat} {K : List Nat → Dat → Prop} (hk : handPin ls d K) : ∃ ls' d', K ls' d' ∧ More ls ls' ∧ ∀ g ks, Handed g ls' ks g (.pin d) d' := by
  unfold handPin at hk
  split at hk
  · rename_i f a b
    obtain ⟨ls1, a', k1, m1, n1, r1⟩ := handPins_spec a hk
    obtain ⟨ls2, b', k2, m2, n2, r2⟩ := handPins_spec b k1
    refine ⟨ls2, _, k2, m1.trans m2, fun g ks gf lsf ksf e1 e2 e3 v hv => ?_⟩
    obtain ⟨bk, x, rfl, i1, l1, hr⟩ := hv.pin_val
    refine .pin x (e1.I _ _ _ i1) l1 ?_
    obtain ⟨vf, vc, rfl, hf, hc, rf, rc⟩ := hr.clo_val
    refine .clo (by omega) (by omega) (fun i v d hv hd => ?_) (fun i v d hv hd => ?_)
    · have hi : i < a.length := by
        have := (Array.getElem?_eq_some_iff.1 hv).1; omega
      obtain ⟨x, hx⟩ := nth_lt hi
      obtain ⟨d', p1, p2⟩ := r1 i x hx
      rw [hd] at p1; cases p1
      exact p2 g ks gf lsf ksf e1 (m2.pre.trans e2) e3 v (rf i v x hv hx)
    · have hi : i < b.length := by
        have := (Array.getElem?_eq_some_iff.1 hv).1; omega
      obtain ⟨x, hx⟩ := nth_lt hi
      obtain ⟨d', p1, p2⟩ := r2 i x hx
      rw [hd] at p1; cases p1
      exact p2 g ks gf lsf ksf e1 e2 e3 v (rc i v x hv hx)
  · exact hk.elim
theorem handCaps_sound : ∀ (ds : List Dat) {g : Gh} {s : St} {ls ks : List Nat} (_ : Rel cx g s a w) {K : St → List Nat → List Nat → List Dat → Prop}, handCaps s ls ks ds K →
    ∃ s' ls' ks' ds' g', K s' ls' ks' ds' ∧ Laid cx g s a w s' g' ∧ More ls ls' ∧ More ks ks' ∧ ds'.length = ds.length ∧
      ∀ (i : Nat) d, nth ds i = some d → ∃ d', nth ds' i = some d' ∧ Handed g' ls' ks' g d d'
  | [], g, s, ls, ks, h, K, hk => ⟨s, ls, ks, [], g, hk, Laid.refl h, More.refl _, More.refl _, rfl, fun i d hd => by simp [nth] at hd⟩
  | d :: ds, g, s, ls, ks, h, K, hk => by
    have join : ∀ {s1 : St} {ls1 : List Nat} {d1 : Dat} {g1 : Gh}, Laid cx g s a w s1 g1 → More ls ls1 → Handed g1 ls1 ks g d d1 →
        handCaps s1 ls1 ks ds (fun s ls ks ds => K s ls ks (d1 :: ds)) →
        ∃ s' ls' ks' ds' g', K s' ls' ks' ds' ∧ Laid cx g s a w s' g' ∧ More ls ls' ∧ More ks ks' ∧ ds'.length = (d :: ds).length ∧
          ∀ (i : Nat) x, nth (d :: ds) i = some x → ∃ d', nth ds' i = some d' ∧ Handed g' ls' ks' g x d' := by
      intro s1 ls1 d1 g1 l1 m1 hh hk
      obtain ⟨s2, ls2, ks2, ds2, g2, k2, l2, m2, m2', n2, r2⟩ := handCaps_sound ds l1.rel hk
      refine ⟨s2, ls2, ks2, d1 :: ds2, g2, k2, l1.trans l2, m1.trans m2, m2', by simp [n2], fun i x hx => ?_⟩
      cases i with
      | zero => simp [nth] at hx; subst hx; exact ⟨d1, rfl, hh.mono l2.ext m2.pre m2'.pre⟩
      | succ i =>
        obtain ⟨d', e1, e2⟩ := r2 i x (by simpa [nth] using hx)
        exact ⟨d', e1, e2.pre l1.ext⟩
    simp only [handCaps_nil, handCaps_cons] at hk
    split at hk
    · rename_i l off
      split at hk
      · rename_i i hi
        exact join (Laid.refl h) (More.refl _) (Handed.ptr (place_some hi) (Ext.refl g)) hk
      · rename_i hi
        exact join (Laid.refl h) (More.snoc hi) (Handed.ptr (nth_snoc _ _) (Ext.refl g)) hk
    · obtain ⟨ls1, d1, k1, m1, r1⟩ := handPin_spec hk
      exact join (Laid.refl h) m1 (r1 g ks) k1
    · obtain ⟨s1, d1, g1, k1, l1, _, _, r1⟩ := leak_sound h hk
      exact join l1 (More.refl _) (Handed.of_leak r1) k1
theorem handCell_sound {d : Dat} {g : Gh} {s : St} {ls ks : List Nat} (h : Rel cx g s a w) {K : St → List Nat → List Nat → Dat → Prop} (hk : handCell s ls ks d K) :
    ∃ s' ls' ks' d' g', K s' ls' ks' d' ∧ Laid cx g s a w s' g' ∧ More ls ls' ∧ More ks ks' ∧ Handed g' ls' ks' g d d' := by
  unfold handCell at hk
  split at hk
  · rename_i l off
    split at hk
    · rename_i i hi
      exact ⟨s, ls, ks, _, g, hk, Laid.refl h, More.refl _, More.refl _, Handed.ptr (place_some hi) (Ext.refl g)⟩
    · rename_i hi
      exact ⟨s, _, ks, _, g, hk, Laid.refl h, More.snoc hi, More.refl _, Handed.ptr (nth_snoc _ _) (Ext.refl g)⟩
  · rename_i fn first cap
    obtain ⟨s1, ls1, ks1, first', g1, k0, l0, o1, o2, n0, r0⟩ := handCaps_sound first h hk
    obtain ⟨s', ls', ks', cap', g', k1, l1, m1, m2, n1, r1⟩ := handCaps_sound cap l0.rel k0
    refine ⟨s', ls', ks', _, g', k1, l0.trans l1, o1.trans m1, o2.trans m2, fun gf lsf ksf e1 e2 e3 v hv => ?_⟩
    obtain ⟨vf, vc, rfl, hf, hc, rf, rc⟩ := hv.clo_val
    refine .clo (by omega) (by omega) (fun i v d hv hd => ?_) (fun i v d hv hd => ?_)
    · have hi : i < first.length := by
        have := (Array.getElem?_eq_some_iff.1 hv).1; omega
      obtain ⟨x, hx⟩ := nth_lt hi
      obtain ⟨d', p1, p2⟩ := r0 i x hx
      rw [hd] at p1; cases p1
      exact p2 gf lsf ksf (l1.ext.trans e1) (m1.pre.trans e2) (m2.pre.trans e3) v (rf i v x hv hx)
    · have hi : i < cap.length := by
        have := (Array.getElem?_eq_some_iff.1 hv).1; omega
      obtain ⟨x, hx⟩ := nth_lt hi
      obtain ⟨d', p1, p2⟩ := r1 i x hx
      rw [hd] at p1; cases p1
      exact p2 gf lsf ksf e1 e2 e3 v ((rc i v x hv hx).mono l0.ext)
  · obtain ⟨ls1, d1, k1, m1, r1⟩ := handPin_spec hk
    exact ⟨s, ls1, ks, d1, g, k1, Laid.refl h, m1, More.refl _, r1 g ks⟩
  · obtain ⟨s1, d1, g1, k1, l1, _, _, r1⟩ := leak_sound h hk
    exact ⟨s1, ls, ks, d1, g1, k1, l1, More.refl _, More.refl _, Handed.of_leak r1⟩
theorem named_spec {ks : List Nat} {k : Nat} {K : List Nat → Nat → Prop} (hk : named ks k K) : ∃ ks' i, K ks' (1000 + i) ∧ More ks ks' ∧ nth ks' i = some k := by
  unfold named at hk
  split at hk
  · rename_i i hi; exact ⟨ks, i, hk, More.refl _, place_some hi⟩
  · rename_i hi; exact ⟨_, _, hk, More.snoc hi, nth_snoc _ _⟩
theorem handRow_spec {s : St} {ks : List Nat} {k n : Nat} {K : List Nat → Dat → Prop} (hk : handRow s ks k n K) :
    ∃ ks' d', K ks' d' ∧ More ks ks' ∧ ((∃ i, d' = .ref (1000 + i) n ∧ nth ks' i = some k) ∨ ∃ r, s.R k = some r ∧ r.own = false ∧ n = r.es.length ∧ d' = .sl r.sz r.es false) := by
  unfold handRow at hk
  split at hk
  · rename_i r hr
    obtain ⟨hn, hk⟩ := hk
    split at hk
    · obtain ⟨ks', i, h1, h2, h3⟩ := named_spec hk
      rw [← hn] at h1
      exact ⟨ks', _, h1, h2, .inl ⟨i, rfl, h3⟩⟩
    · rename_i hown
      exact ⟨ks, _, hk, More.refl _, .inr ⟨r, hr, hown, hn, rfl⟩⟩
  · exact hk.elim
theorem handMap_spec {s : St} {ks : List Nat} {k : Nat} {K : List Nat → Dat → Prop} (hk : handMap s ks k K) : ∃ ks' i, K ks' (.mref (1000 + i)) ∧ More ks ks' ∧ nth ks' i = some k := by
  unfold handMap at hk
  split at hk
  · exact named_spec hk
  · exact hk.elim
theorem Handed.mref {g g' : Gh} {ls ks : List Nat} {i k : Nat} (h : nth ks i = some k) (he : Ext g g') : Handed g' ls ks g (.mref k) (.mref (1000 + i)) :=
  fun gf lsf ksf e1 _ e3 v hv => (hv.mono (he.trans e1)).mref_sub (nth_prefix e3 h)
theorem Handed.ref {g g' : Gh} {ls ks : List Nat} {i k n : Nat} (h : nth ks i = some k) (he : Ext g g') : Handed g' ls ks g (.ref k n) (.ref (1000 + i) n) :=
  fun gf lsf ksf e1 _ e3 v hv => (hv.mono (he.trans e1)).ref_sub (nth_prefix e3 h)
theorem Handed.row {s : St} {g g' : Gh} {ls ks : List Nat} {k n : Nat} {d' : Dat} (hz : Fz s g) (h : (∃ i, d' = .ref (1000 + i) n ∧ nth ks i = some k) ∨ ∃ r, s.R k = some r ∧ r.own = false ∧ n = r.es.length ∧ d' = .sl r.sz r.es false)
    (he : Ext g g') : Handed g' ls ks g (.ref k n) d' := by
  rcases h with ⟨i, rfl, h⟩ | ⟨r, h1, h2, h3, rfl⟩
  · exact Handed.ref h he
  · exact Handed.of_leak fun v hv => (hz k r h1 h2 n v hv h3).mono he.I
theorem handArgs_sound (byref : Bool) : ∀ (ds : List Dat) {g : Gh} {s : St} {ls ks : List Nat} (_ : Rel cx g s a w) {K : St → List Nat → List Nat → List Dat → Prop}, handArgs byref s ls ks ds K →
    ∃ s' ls' ks' ds' g', K s' ls' ks' ds' ∧ Laid cx g s a w s' g' ∧ More ls ls' ∧ More ks ks' ∧ ds'.length = ds.length ∧
      ∀ (i : Nat) d, nth ds i = some d → ∃ d', nth ds' i = some d' ∧ Handed g' ls' ks' g d d'
  | [], g, s, ls, ks, h, K, hk => ⟨s, ls, ks, [], g, hk, Laid.refl h, More.refl _, More.refl _, rfl, fun i d hd => by simp [nth] at hd⟩
  | d :: ds, g, s, ls, ks, h, K, hk => by
    have join : ∀ {s1 : St} {ls1 ks1 : List Nat} {d1 : Dat} {g1 : Gh}, Laid cx g s a w s1 g1 → More ls ls1 → More ks ks1 → Handed g1 ls1 ks1 g d d1 →
        handArgs byref s1 ls1 ks1 ds (fun s ls ks ds => K s ls ks (d1 :: ds)) →
        ∃ s' ls' ks' ds' g', K s' ls' ks' ds' ∧ Laid cx g s a w s' g' ∧ More ls ls' ∧ More ks ks' ∧ ds'.length = (d :: ds).length ∧
          ∀ (i : Nat) x, nth (d :: ds) i = some x → ∃ d', nth ds' i = some d' ∧ Handed g' ls' ks' g x d' := by
      intro s1 ls1 ks1 d1 g1 l1 m1 m1' hh hk
      obtain ⟨s2, ls2, ks2, ds2, g2, k2, l2, m2, m2', n2, r2⟩ := handArgs_sound byref ds l1.rel hk
      refine ⟨s2, ls2, ks2, d1 :: ds2, g2, k2, l1.trans l2, m1.trans m2, m1'.trans m2', by simp [n2], fun i x hx => ?_⟩
      cases i with
      | zero => simp [nth] at hx; subst hx; exact ⟨d1, rfl, hh.mono l2.ext m2.pre m2'.pre⟩
      | succ i =>
        obtain ⟨d', e1, e2⟩ := r2 i x (by simpa [nth] using hx)
        exact ⟨d', e1, e2.pre l1.ext⟩
    simp only [handArgs_nil, handArgs_cons] at hk
    split at hk
    · rename_i k n
      obtain ⟨ks', d', h1, h2, h3⟩ := handRow_spec hk
      exact join (Laid.refl h) (More.refl _) h2 (Handed.row h.mem.fz h3 (Ext.refl g)) h1
    · obtain ⟨ks', i, h1, h2, h3⟩ := handMap_spec hk
      exact join (Laid.refl h) (More.refl _) h2 (Handed.mref h3 (Ext.refl g)) h1
    · obtain ⟨s1, ls1, ks1, d1, g1, k1, l1, m1, m1', r1⟩ := handCell_sound h hk
      exact join l1 m1 m1' r1 k1
def BoxHanded (s : St) (ks' : List Nat) (d d' : Dat) : Prop :=
  (cells d').length = (cells d).length ∧ ∀ (g : Gh) (_ : Fz s g) (ls ksf : List Nat), ks' <+: ksf → ∀ (i : Nat) v x x', nth (cells d) i = some x → nth (cells d') i = some x' → Rep g v x → Rep (g.sub ls ksf) v x'
theorem Rep.pure_sub {g : Gh} {ls ks : List Nat} {v : Value} {d : Dat} (h : pureD d = true) (r : Rep g v d) : Rep (g.sub ls ks) v d := .pure (pure_rep (g := g) h r)
theorem pure_cells {d : Dat} (h : pureD d = true) {i : Nat} {x : Dat} (hx : nth (cells d) i = some x) : pureD x = true := by
  cases d with
  | agg cs => exact (pureGo_cell cs h i x hx).1
  | _ => cases i <;> simp [cells, nth] at hx <;> (subst hx; exact h)
theorem handBody_spec (s : St) : ∀ (ds : List Dat) {ks : List Nat} {K : List Nat → List Dat → Prop}, handBody s ks ds K →
    ∃ ks' ds', K ks' ds' ∧ More ks ks' ∧ ds'.length = ds.length ∧ (∀ d ∈ ds', cells d = [d]) ∧ (∀ y ∈ ds, cells y = [y]) ∧
      ∀ (g : Gh) (_ : Fz s g) (ls ksf : List Nat), ks' <+: ksf → ∀ (i : Nat) v x x', nth ds i = some x → nth ds' i = some x' → Rep g v x → Rep (g.sub ls ksf) v x'
  | [], ks, K, hk => ⟨ks, [], hk, More.refl _, rfl, by simp, by simp, fun _ _ _ _ _ i v x x' hx => by simp [nth] at hx⟩
  | d :: ds, ks, K, hk => by
    have join : ∀ {ks1 : List Nat} {d1 : Dat}, More ks ks1 → cells d1 = [d1] → cells d = [d] → (∀ (g : Gh) (_ : Fz s g) (ls ksf : List Nat), ks1 <+: ksf → ∀ v, Rep g v d → Rep (g.sub ls ksf) v d1) →
        handBody s ks1 ds (fun ks ds => K ks (d1 :: ds)) →
        ∃ ks' ds', K ks' ds' ∧ More ks ks' ∧ ds'.length = (d :: ds).length ∧ (∀ d ∈ ds', cells d = [d]) ∧ (∀ y ∈ d :: ds, cells y = [y]) ∧
          ∀ (g : Gh) (_ : Fz s g) (ls ksf : List Nat), ks' <+: ksf → ∀ (i : Nat) v x x', nth (d :: ds) i = some x → nth ds' i = some x' → Rep g v x → Rep (g.sub ls ksf) v x' := by
      intro ks1 d1 m1 ha hb hh hk
      obtain ⟨ks2, ds2, k2, m2, n2, a2, b2, r2⟩ := handBody_spec s ds hk
      refine ⟨ks2, d1 :: ds2, k2, m1.trans m2, by simp [n2], ?_, ?_, fun g hz ls ksf hp i v x x' hx hx' hv => ?_⟩
      · intro y hy
        rcases List.mem_cons.1 hy with e | e
        · subst e; exact ha
        · exact a2 y e
      · intro y hy
        rcases List.mem_cons.1 hy with e | e
        · subst e; exact hb
        · exact b2 y e
      · cases i with
        | zero => simp [nth] at hx hx'; subst hx; subst hx'; exact hh g hz ls ksf (m2.pre.trans hp) v hv
        | succ i => exact r2 g hz ls ksf hp i v x x' (by simpa [nth] using hx) (by simpa [nth] using hx') hv
    simp only [handBody_nil, handBody_cons] at hk
    split at hk
    · rename_i k n
      obtain ⟨ks', d', h1, h2, h3⟩ := handRow_spec hk
      refine join h2 ?_ rfl (fun g hz ls ksf hp v hv => ?_) h1
      · rcases h3 with ⟨i, rfl, _⟩ | ⟨r, _, _, _, rfl⟩ <;> rfl
      · rcases h3 with ⟨i, rfl, h4⟩ | ⟨r, q1, q2, q3, rfl⟩
        · exact hv.ref_sub (nth_prefix hp h4)
        · exact .pure (hz k r q1 q2 n v hv q3)
    · obtain ⟨ks', i, h1, h2, h3⟩ := handMap_spec hk
      exact join h2 rfl rfl (fun g hz ls ksf hp v hv => hv.mref_sub (nth_prefix hp h3)) h1
    all_goals first
      | exact hk.elim
      | skip
    rename_i hn1 hm hn10 hn11 hn2 hn3 hn4 hn5 hnp hn6 hn7 hn8 hn9
    have hc : cells d = [d] := by
      cases d <;> first | rfl | exact absurd rfl (hn7 _) | exact absurd rfl (hn10 _ _) | exact absurd rfl hn11
    refine join (More.refl _) hc hc (fun g hz ls ksf hp v hv => ?_) hk
    cases hv with
    | pure r => exact .pure r
    | ref => exact absurd rfl (hn1 _ _)
    | ptr => exact absurd rfl (hn2 _ _)
    | vptr => exact absurd rfl (hn3 _ _)
    | eptr => exact absurd rfl (hn4 _ _ _ _)
    | mref => exact absurd rfl (hm _)
    | agg => exact absurd rfl (hn7 _)
    | tup => exact absurd rfl (hn6 _)
    | clo => exact absurd rfl (hn5 _ _ _)
    | pin => exact absurd rfl (hnp _)
theorem handBox_spec {s : St} {ks : List Nat} {d : Dat} {K : List Nat → Dat → Prop} (hk : handBox s ks d K) : ∃ ks' d', K ks' d' ∧ More ks ks' ∧ BoxHanded s ks' d d' := by
  unfold handBox at hk
  split at hk
  · rename_i hp
    exact ⟨ks, d, hk, More.refl _, rfl, fun g _ ls ksf _ i v x x' hx hx' hv => by rw [hx] at hx'; cases hx'; exact hv.pure_sub (pure_cells hp hx)⟩
  · split at hk
    · rename_i cs _
      obtain ⟨ks', ds', k1, m1, n1, a1, b1, r1⟩ := handBody_spec s cs hk
      exact ⟨ks', _, k1, m1, n1, r1⟩
    · rename_i hp hna
      obtain ⟨ks', ds', k1, m1, n1, a1, b1, r1⟩ := handBody_spec s [d] hk
      split at k1
      · rename_i d'
        have e1 : cells d = [d] := b1 d (by simp)
        have e2 : cells d' = [d'] := a1 d' (by simp)
        exact ⟨ks', d', k1, m1, by rw [e1, e2]; rfl, by rw [e1, e2]; exact r1⟩
      · exact k1.elim
theorem BoxHanded.mono {s : St} {ks ks' : List Nat} {d d' : Dat} (h : BoxHanded s ks d d') (hp : ks <+: ks') : BoxHanded s ks' d d' :=
  ⟨h.1, fun g hz ls ksf e => h.2 g hz ls ksf (hp.trans e)⟩
theorem handBoxes_spec (s : St) : ∀ (ls : List Nat) {ks : List Nat} {K : List Nat → List Dat → Prop}, handBoxes s ks ls K →
    ∃ ks' H, K ks' H ∧ More ks ks' ∧ H.length = ls.length ∧ ∀ (i l : Nat), nth ls i = some l → ∃ d d', s.H l = some d ∧ nth H i = some d' ∧ BoxHanded s ks' d d'
  | [], ks, K, hk => ⟨ks, [], hk, More.refl _, rfl, fun i l hl => by simp [nth] at hl⟩
  | l :: ls, ks, K, hk => by
    simp only [handBoxes_nil, handBoxes_cons] at hk
    split at hk
    · rename_i d hd
      obtain ⟨ks1, d1, k1, m1, b1⟩ := handBox_spec hk
      obtain ⟨ks2, H2, k2, m2, n2, r2⟩ := handBoxes_spec s ls k1
      refine ⟨ks2, d1 :: H2, k2, m1.trans m2, by simp [n2], fun i x hx => ?_⟩
      cases i with
      | zero => simp [nth] at hx; subst hx; exact ⟨d, d1, hd, rfl, b1.mono m2.pre⟩
      | succ i => exact r2 i x (by simpa [nth] using hx)
    · exact hk.elim
theorem rowsOf_spec (s : St) : ∀ (ks : List Nat) {R : List Row}, rowsOf s ks = some R → R.length = ks.length ∧ ∀ (i k : Nat), nth ks i = some k → ∃ r, s.R k = some r ∧ nth R i = some r
  | [], R, h => by simp [rowsOf] at h; subst h; exact ⟨rfl, fun i k hk => by simp [nth] at hk⟩
  | k :: ks, R, h => by
    simp only [rowsOf] at h
    split at h
    · rename_i r hr
      split at h
      · rename_i l hl
        cases h
        obtain ⟨h1, h2⟩ := rowsOf_spec s ks hl
        refine ⟨by simp [h1], fun i x hx => ?_⟩
        cases i with
        | zero => simp [nth] at hx; subst hx; exact ⟨r, hr, rfl⟩
        | succ i => exact h2 i x (by simpa [nth] using hx)
      · cases h
    · cases h
theorem boxArgs_eq : ∀ (ds : List Dat) (n : Nat) (e : Nat → Option Dat) (l : Nat), boxArgs ds n e l = if n ≤ l ∧ l < n + ds.length then nth ds (l - n) else e l
  | [], n, e, l => by
    simp only [boxArgs, List.length_nil, Nat.add_zero]
    rw [if_neg (by omega)]
  | d :: ds, n, e, l => by
    simp only [boxArgs, List.length_cons]
    rw [boxArgs_eq ds (n + 1) _ l]
    by_cases h1 : n + 1 ≤ l ∧ l < n + 1 + ds.length
    · rw [if_pos h1, if_pos (by omega), show l - n = (l - (n + 1)) + 1 by omega]; rfl
    · rw [if_neg h1]
      by_cases h2 : l = n
      · subst h2; rw [upd_eq, if_pos (by omega)]; simp [nth]
      · rw [upd_ne _ _ _ _ h2, if_neg (by omega)]
theorem rowArgs_eq : ∀ (ds : List Row) (n : Nat) (e : Nat → Option Row) (l : Nat), rowArgs ds n e l = if n ≤ l ∧ l < n + ds.length then nth ds (l - n) else e l
  | [], n, e, l => by
    simp only [rowArgs, List.length_nil, Nat.add_zero]
    rw [if_neg (by omega)]
  | d :: ds, n, e, l => by
    simp only [rowArgs, List.length_cons]
    rw [rowArgs_eq ds (n + 1) _ l]
    by_cases h1 : n + 1 ≤ l ∧ l < n + 1 + ds.length
    · rw [if_pos h1, if_pos (by omega), show l - n = (l - (n + 1)) + 1 by omega]; rfl
    · rw [if_neg h1]
      by_cases h2 : l = n
      · subst h2; rw [upd_eq, if_pos (by omega)]; simp [nth]
      · rw [upd_ne _ _ _ _ h2, if_neg (by omega)]
theorem box_at (H : List Dat) (l : Nat) : boxArgs H 1000 (fun _ => none) l = if 1000 ≤ l then nth H (l - 1000) else none := by
  rw [boxArgs_eq]
  by_cases h1 : 1000 ≤ l
  · by_cases h2 : l < 1000 + H.length
    · rw [if_pos ⟨h1, h2⟩, if_pos h1]
    · rw [if_neg (by omega), if_pos h1, nth_none _ _ (by omega)]
  · rw [if_neg (by omega), if_neg h1]
theorem row_at (H : List Row) (l : Nat) : rowArgs H 1000 (fun _ => none) l = if 1000 ≤ l then nth H (l - 1000) else none := by
  rw [rowArgs_eq]
  by_cases h1 : 1000 ≤ l
  · by_cases h2 : l < 1000 + H.length
    · rw [if_pos ⟨h1, h2⟩, if_pos h1]
    · rw [if_neg (by omega), if_pos h1, nth_none _ _ (by omega)]
  · rw [if_neg (by omega), if_neg h1]
theorem RowAt.names {cx cx' : Cx} {g g' : Gh} {w : World} {t : Tv} {r : Row} (k : RowAt cx g w t r) (hI : g'.I = g.I) (hm : ∀ b, t.base = some b → cx'.mine b ∧ ∀ l, g'.mu l ≠ some b) :
    RowAt cx' g' w t r := by
  refine ⟨fun hz => ?_, fun hz => ?_⟩
  · have k := k.o hz
    unfold RowO at *
    cases hb : t.base with
    | none => rw [hb] at k; exact k
    | some b =>
      rw [hb] at k
      obtain ⟨k1, k2, k3, k4⟩ := k
      dsimp only
      rw [hI]
      exact ⟨k1, (hm b hb).1, (hm b hb).2, k4⟩
  · obtain ⟨o1, b, es, clock, k1, k2, k3, k4⟩ := k.m hz
    unfold MapAt
    rw [hI]
    exact ⟨o1, b, es, clock, k1, (hm b k1).1, (hm b k1).2, k4⟩
def Gh.X (g : Gh) (b : Nat) : Prop := (∃ l, g.mu l = some b) ∨ ∃ k t, g.tv k = some t ∧ t.base = some b
theorem Mem.sub {cx cx' : Cx} {g : Gh} {s : St} {w : World} (m : Mem cx g s w) {ls ks : List Nat} (hl : ls.Nodup) (hk : ks.Nodup) {H : List Dat} {R : List Row}
    (hH : H.length = ls.length ∧ ∀ (i l : Nat), nth ls i = some l → ∃ d d', s.H l = some d ∧ nth H i = some d' ∧ BoxHanded s ks d d')
    (hR : R.length = ks.length ∧ ∀ (i k : Nat), nth ks i = some k → ∃ r, s.R k = some r ∧ nth R i = some r)
    (hmine : ∀ b, (g.sub ls ks).X b → cx'.mine b)
    (hnew : ∀ b o v, g.I b o = some v → cx'.I0 b o = some v ∨ cx'.mine b) (hframe : cx'.Fr g.I w) (hnew' : ∀ b, w.heap.size ≤ b → cx'.mine b)
    {s' : St} (eH : s'.H = boxArgs H 1000 (fun _ => none)) (eR : s'.R = rowArgs R 1000 (fun _ => none)) : Mem cx' (g.sub ls ks) s' w where
  iw := m.iw
  box l d h := by
    rw [eH, box_at] at h
    split at h
    · rename_i h1000
      have hlt := lt_of_nth h
      obtain ⟨l', hl'⟩ := nth_lt (l := ls) (i := l - 1000) (by omega)
      obtain ⟨d0, d', e1, e2, e3⟩ := hH.2 _ _ hl'
      rw [h] at e2; cases e2
      obtain ⟨b, b1, b2, b3⟩ := m.box l' d0 e1
      have hb : (g.sub ls ks).mu l = some b := by
        have := sub_mu g (ks := ks) hl'
        rw [show 1000 + (l - 1000) = l by omega] at this
        rw [this, b1]
      refine ⟨b, hb, ?_, hmine b (.inl ⟨l, hb⟩)⟩
      obtain ⟨c, e, fz, c1, c2, c3, c4⟩ := b2
      refine ⟨c, e, fz, c1, c2, by rw [c3, e3.1], fun i v x hv hx => ?_⟩
      have hi : i < (cells d0).length := by rw [← c3]; exact (Array.getElem?_eq_some_iff.1 hv).1
      obtain ⟨y, hy⟩ := nth_lt hi
      exact ⟨e3.2 g m.fz ls ks (List.prefix_refl _) i v y x hy hx (c4 i v y hv hy).1, (c4 i v y hv hy).2⟩
    · cases h
  nobox l b h := by
    obtain ⟨i, l', rfl, h1, h2⟩ := sub_mu_inv h
    obtain ⟨d0, d', e1, e2, e3⟩ := hH.2 _ _ h1
    exact ⟨d', by rw [eH, box_at, if_pos (by omega), Nat.add_sub_cancel_left]; exact e2⟩
  inj l n b h1 h2 := by
    obtain ⟨i, l', rfl, h3, h4⟩ := sub_mu_inv h1
    obtain ⟨j, n', rfl, h5, h6⟩ := sub_mu_inv h2
    have := m.inj l' n' b h4 h6
    subst this
    have a1 := place_nodup hl h3
    have a2 := place_nodup hl h5
    rw [a1] at a2; cases a2; rfl
  dis l b h o := by
    obtain ⟨i, l', rfl, h3, h4⟩ := sub_mu_inv h
    exact m.dis l' b h4 o
  row k r h := by
    rw [eR, row_at] at h
    split at h
    · rename_i h1000
      have hlt := lt_of_nth h
      obtain ⟨k', hk'⟩ := nth_lt (l := ks) (i := k - 1000) (by omega)
      obtain ⟨r0, e1, e2⟩ := hR.2 _ _ hk'
      rw [h] at e2; cases e2
      obtain ⟨t, t1, t2, t3, t4, t5⟩ := m.row k' r e1
      have ht : (g.sub ls ks).tv k = some t := by
        have := sub_tv g (ls := ls) hk'
        rw [show 1000 + (k - 1000) = k by omega] at this
        rw [this, t1]
      refine ⟨t, ht, t2, t3, t4, t5.names rfl fun b hb => ⟨hmine b (.inr ⟨k, t, ht, hb⟩), fun l hl' => ?_⟩⟩
      obtain ⟨i, l', rfl, h3, h4⟩ := sub_mu_inv hl'
      exact (t5.blk hb).2.2 l' h4
    · cases h
  norow k t h := by
    obtain ⟨i, k', rfl, h1, h2⟩ := sub_tv_inv h
    obtain ⟨r0, e1, e2⟩ := hR.2 _ _ h1
    exact ⟨r0, by rw [eR, row_at, if_pos (by omega), Nat.add_sub_cancel_left]; exact e2⟩
  rdis k j t u b h1 h2 h3 h4 := by
    obtain ⟨i, k', rfl, h5, h6⟩ := sub_tv_inv h1
    obtain ⟨i', j', rfl, h7, h8⟩ := sub_tv_inv h2
    have := m.rdis k' j' t u b h6 h8 h3 h4
    subst this
    have a1 := place_nodup hk h5
    have a2 := place_nodup hk h7
    rw [a1] at a2; cases a2; rfl
  newI := hnew
  frame := hframe
  new := hnew'
end
end Abs
namespace Abs
open Go
structure CallsA (P : Program) (f : FuncId) (args : List Dat) (m : Ct) (r : Dat) (m' : Ct) : Prop where
  fn : ∃ fn, P.funcs[f]? = some fn ∧ fn.body.isNone = false ∧ (fn.name == "runtime.NumGoroutine") = false
  go : ∀ (γ : Gh) (w : World) (vs : Array Value), vs.size = args.length → (∀ (i : Nat) v d, vs[i]? = some v → nth args i = some d → Rep γ v d) →
    Mem (Cx.of 0 (γ.X) w (γ.I)) γ (init args m) w →
    Calls P f vs w fun e w' => match e with
      | .returned v => ∃ γ', Ext γ γ' ∧ Rep γ' v r ∧ Mem (Cx.of 0 (γ.X) w (γ.I)) γ' (init [] m') w'
      | _ => False
def rowPl (ks : List Nat) (t len k : Nat) : Option Nat :=
  match place ks 0 k with
  | some i => some (1000 + i)
  | none => if 5000 + 10 * t ≤ k ∧ k < 5000 + 10 * t + (len - ks.length) then some (1000 + ks.length + (k - (5000 + 10 * t))) else none
theorem newRowsDead_spec {ks : List Nat} {t : Nat} {R : Nat → Option Row} : ∀ {rs : List Row} {i : Nat}, newRowsDead ks t R i rs = true →
    ∀ j, i ≤ j → j < i + rs.length → ks.length ≤ j → R (5000 + 10 * t + (j - ks.length)) = none
  | [], i, _, j, h1, h2, _ => by simp at h2; omega
  | r :: rs, i, h, j, h1, h2, h3 => by
    simp only [newRowsDead] at h
    simp only [List.length_cons] at h2
    by_cases hij : j = i
    · subst hij
      rw [nth_none _ _ h3] at h
      dsimp only at h
      split at h
      · cases h
      · assumption
    · have : newRowsDead ks t R (i + 1) rs = true := by
        split at h
        · exact h
        · split at h
          · cases h
          · exact h
      exact newRowsDead_spec this j (by omega) (by omega) h3
theorem putRows_spec {ks : List Nat} {t : Nat} (hn : ks.Nodup) : ∀ {rs : List Row} {i : Nat} {R : Nat → Option Row} {rn : List Nat}
    (_ : ∀ j, ks.length ≤ j → j < i + rs.length → place ks 0 (5000 + 10 * t + (j - ks.length)) = none) (k : Nat),
    (putRows ks t R rn i rs).1 k = match place ks 0 k with
      | some j => if i ≤ j ∧ j < i + rs.length then nth rs (j - i) else R k
      | none => if 5000 + 10 * t ≤ k ∧ i ≤ ks.length + (k - (5000 + 10 * t)) ∧ ks.length + (k - (5000 + 10 * t)) < i + rs.length then nth rs (ks.length + (k - (5000 + 10 * t)) - i) else R k
  | [], i, R, rn, _, k => by
    simp only [putRows, List.length_nil, Nat.add_zero]
    split
    · rw [if_neg (by omega)]
    · rw [if_neg (by omega)]
  | r :: rs, i, R, rn, hd, k => by
    simp only [putRows]
    have hd' : ∀ j, ks.length ≤ j → j < i + 1 + rs.length → place ks 0 (5000 + 10 * t + (j - ks.length)) = none := fun j h1 h2 => hd j h1 (by simp; omega)
    cases hi : nth ks i with
    | some k0 =>
      dsimp only
      rw [putRows_spec hn hd' k]
      have hlt := lt_of_nth hi
      cases hp : place ks 0 k with
      | some j =>
        dsimp only
        by_cases hij : j = i
        · subst hij
          have := place_some hp
          rw [hi] at this; cases this
          rw [if_neg (by omega), if_pos (by simp), upd_eq, Nat.sub_self]; rfl
        · have hne : k ≠ k0 := by
            intro e; subst e
            rw [place_nodup hn hi] at hp; cases hp; exact hij rfl
          rw [upd_ne _ _ _ _ hne]
          by_cases hc : i + 1 ≤ j ∧ j < i + 1 + rs.length
          · rw [if_pos hc, if_pos (by simp; omega), show j - i = (j - (i + 1)) + 1 by omega]; rfl
          · rw [if_neg hc, if_neg (by simp; omega)]
      | none =>
        dsimp only
        have hne : k ≠ k0 := by intro e; subst e; rw [place_nodup hn hi] at hp; cases hp
        rw [upd_ne _ _ _ _ hne]
        by_cases hc : 5000 + 10 * t ≤ k ∧ i + 1 ≤ ks.length + (k - (5000 + 10 * t)) ∧ ks.length + (k - (5000 + 10 * t)) < i + 1 + rs.length
        · rw [if_pos hc, if_pos (by simp; omega), show ks.length + (k - (5000 + 10 * t)) - i = (ks.length + (k - (5000 + 10 * t)) - (i + 1)) + 1 by omega]; rfl
        · rw [if_neg hc, if_neg (by simp; omega)]
    | none =>
      dsimp only
      rw [putRows_spec hn hd' k]
      have hge : ks.length ≤ i := by
        rcases Nat.lt_or_ge i ks.length with h | h
        · obtain ⟨x, hx⟩ := nth_lt h; rw [hi] at hx; cases hx
        · exact h
      have hdead := hd i hge (by simp)
      cases hp : place ks 0 k with
      | some j =>
        dsimp only
        have hj := lt_of_nth (place_some hp)
        have hne : k ≠ 5000 + 10 * t + (i - ks.length) := by intro e; subst e; rw [hdead] at hp; cases hp
        rw [upd_ne _ _ _ _ hne, if_neg (by omega), if_neg (by omega)]
      | none =>
        dsimp only
        by_cases hk : k = 5000 + 10 * t + (i - ks.length)
        · subst hk
          rw [if_neg (by omega), upd_eq, if_pos (by simp; omega), show ks.length + (5000 + 10 * t + (i - ks.length) - (5000 + 10 * t)) - i = 0 by omega]
          rfl
        · rw [upd_ne _ _ _ _ hk]
          by_cases hc : 5000 + 10 * t ≤ k ∧ i + 1 ≤ ks.length + (k - (5000 + 10 * t)) ∧ ks.length + (k - (5000 + 10 * t)) < i + 1 + rs.length
          · rw [if_pos hc, if_pos (by simp; omega), show ks.length + (k - (5000 + 10 * t)) - i = (ks.length + (k - (5000 + 10 * t)) - (i + 1)) + 1 by omega]; rfl
          · rw [if_neg hc, if_neg (by simp; omega)]
theorem putRows_at {ks : List Nat} {t : Nat} (hn : ks.Nodup) {rs : List Row} {R : Nat → Option Row} {rn : List Nat} (hlen : ks.length ≤ rs.length)
    (hd : ∀ j, ks.length ≤ j → j < rs.length → place ks 0 (5000 + 10 * t + (j - ks.length)) = none) (k : Nat) :
    (putRows ks t R rn 0 rs).1 k = match rowPl ks t rs.length k with
      | some p => nth rs (p - 1000)
      | none => R k := by
  rw [putRows_spec hn (by simpa using hd) k]
  unfold rowPl
  cases hp : place ks 0 k with
  | some j =>
    have hj := lt_of_nth (place_some hp)
    dsimp only
    rw [if_pos (by omega)]
    simp
  | none =>
    dsimp only
    by_cases hc : 5000 + 10 * t ≤ k ∧ k < 5000 + 10 * t + (rs.length - ks.length)
    · rw [if_pos hc, if_pos (by omega)]
      dsimp only
      rw [show ks.length + (k - (5000 + 10 * t)) - 0 = 1000 + ks.length + (k - (5000 + 10 * t)) - 1000 by omega]
    · rw [if_neg hc, if_neg (by omega)]
theorem rowPl_some {ks : List Nat} {t len k p : Nat} (h : rowPl ks t len k = some p) (hlen : ks.length ≤ len) : 1000 ≤ p ∧ p - 1000 < len ∧ rowName ks t (p - 1000) = k := by
  unfold rowPl at h
  split at h
  · rename_i i hi
    cases h
    have h1 := place_some hi
    have h2 := lt_of_nth h1
    refine ⟨by omega, by omega, ?_⟩
    rw [Nat.add_sub_cancel_left, rowName, h1]
  · split at h
    · rename_i hc
      cases h
      refine ⟨by omega, by omega, ?_⟩
      rw [rowName, nth_none _ _ (by omega)]
      dsimp only
      omega
    · cases h
theorem rowPl_name {ks : List Nat} {t len i : Nat} (hn : ks.Nodup) (hi : i < len)
    (hd : ∀ j, ks.length ≤ j → j < len → place ks 0 (5000 + 10 * t + (j - ks.length)) = none) : rowPl ks t len (rowName ks t i) = some (1000 + i) := by
  unfold rowName
  cases hk : nth ks i with
  | some k =>
    dsimp only
    unfold rowPl
    rw [place_nodup hn hk]
  | none =>
    have hge : ks.length ≤ i := by
      rcases Nat.lt_or_ge i ks.length with h | h
      · obtain ⟨x, hx⟩ := nth_lt h; rw [hk] at hx; cases hx
      · exact h
    dsimp only
    unfold rowPl
    rw [hd i hge hi]
    dsimp only
    rw [if_pos (by omega)]
    congr 1
    omega
theorem putBoxes_spec {ks : List Nat} {t : Nat} : ∀ {ls : List Nat} {ds : List Dat} {H : Nat → Option Dat} (_ : ls.Nodup) (_ : ls.length ≤ ds.length) (l : Nat),
    putBoxes ks t H ls ds l = match place ls 0 l with
      | some i => (nth ds i).map (back ks t)
      | none => H l
  | [], ds, H, _, _, l => by cases ds <;> rfl
  | x :: ls, [], H, _, h, l => by simp at h
  | x :: ls, d :: ds, H, hn, h, l => by
    simp only [putBoxes]
    have hn' := List.nodup_cons.1 hn
    rw [putBoxes_spec hn'.2 (by simpa using h) l]
    have shift : ∀ (ls : List Nat) (i : Nat), place ls (i + 1) l = (place ls i l).map (· + 1) := by
      intro ls
      induction ls with
      | nil => intro i; rfl
      | cons y ls ih =>
        intro i
        simp only [place]
        cases Nat.beq y l
        · exact ih (i + 1)
        · rfl
    have e : place (x :: ls) 0 l = bif Nat.beq x l then some 0 else (place ls 0 l).map (· + 1) := by
      simp only [place]; rw [shift]
    rw [e]
    cases hb : Nat.beq x l with
    | true =>
      have := Nat.eq_of_beq_eq_true hb
      subst this
      have : place ls 0 x = none := by
        cases hp : place ls 0 x with
        | none => rfl
        | some i => exact absurd (mem_of_nth' (place_some hp)) hn'.1
      rw [this]
      simp [upd_eq, nth]
    | false =>
      cases hp : place ls 0 l with
      | none =>
        have hne : l ≠ x := by intro e; subst e; simp at hb
        simp [upd_ne _ _ _ _ hne]
      | some i => simp [nth]
section
variable {P : Program} {cx : Cx} {g : Gh} {s : St} {a : Act} {w : World}
theorem back_cell {γ' g2 : Gh} {ks : List Nat} {t : Nat} {v : Value} {d : Dat} (hI : γ'.I = g2.I)
    (htv : ∀ k u, γ'.tv k = some u → 1000 ≤ k ∧ g2.tv (rowName ks t (k - 1000)) = some u) (hb : backCellB d = true) (r : Rep γ' v d) : Rep g2 v (backCell ks t d) := by
  cases d with
  | ref k n =>
    cases r with
    | pure r => cases r
    | ref u hu hn hv h1 => exact .ref u (htv k u hu).2 hn hv h1
  | mref k =>
    cases r with
    | pure r => cases r
    | mref u hu hz hb => exact .mref u (htv k u hu).2 hz hb
  | _ => exact .pure (hI ▸ pure_rep (g := γ') hb r)
theorem back_val {γ' g2 : Gh} {ks : List Nat} {t : Nat} {v : Value} {d : Dat} (hI : γ'.I = g2.I)
    (htv : ∀ k u, γ'.tv k = some u → 1000 ≤ k ∧ g2.tv (rowName ks t (k - 1000)) = some u) (hb : backB d = true) (r : Rep γ' v d) : Rep g2 v (back ks t d) := by
  unfold backB at hb
  unfold back
  split at hb
  · rename_i hp
    exact .pure (hI ▸ pure_rep (g := γ') hp r)
  · rename_i hp
    split at hb
    · rename_i cs
      dsimp only
      rw [List.all_eq_true] at hb
      cases r with
      | pure r =>
        cases r with
        | agg vs _ hl h1 hr =>
          refine .agg (by simpa using hl) h1 fun i v d hv hd => ?_
          rw [nth_map] at hd
          obtain ⟨x, hx, rfl⟩ := Option.map_eq_some_iff.1 hd
          exact back_cell hI htv (hb x (mem_of_nth' hx)) (.pure (hr i v x hv hx))
      | agg hl h1 hr =>
        refine .agg (by simpa using hl) h1 fun i v d hv hd => ?_
        rw [nth_map] at hd
        obtain ⟨x, hx, rfl⟩ := Option.map_eq_some_iff.1 hd
        exact back_cell hI htv (hb x (mem_of_nth' hx)) (hr i v x hv hx)
    · rename_i cs
      dsimp only
      rw [List.all_eq_true] at hb
      cases r with
      | pure r => cases r
      | tup hl hr =>
        refine .tup (by simpa using hl) fun i v d hv hd => ?_
        rw [nth_map] at hd
        obtain ⟨x, hx, rfl⟩ := Option.map_eq_some_iff.1 hd
        have h2 := hr i v x hv hx
        split
        · rename_i hpx
          exact .pure (hI ▸ pure_rep (g := γ') hpx h2)
        · exact back_cell hI htv (hb x (mem_of_nth' hx)) h2
    · rename_i k n
      exact back_cell hI htv hb r
    · rename_i k
      exact back_cell (d := .mref k) hI htv hb r
    · cases hb
theorem back_box {γ' g2 : Gh} {ks : List Nat} {t b : Nat} {d : Dat} (hI : γ'.I = g2.I)
    (htv : ∀ k u, γ'.tv k = some u → 1000 ≤ k ∧ g2.tv (rowName ks t (k - 1000)) = some u) (hb : backB d = true) (r : BoxAt γ' w b d) (htup : ∀ ds, d ≠ .tup ds) : BoxAt g2 w b (back ks t d) := by
  obtain ⟨c, e, fz, c1, c2, c3, c4⟩ := r
  have key : (cells (back ks t d)).length = (cells d).length ∧ ∀ (i : Nat) v x y, nth (cells d) i = some y → nth (cells (back ks t d)) i = some x → Rep γ' v y → Rep g2 v x := by
    unfold backB at hb
    unfold back
    split at hb
    · rename_i hp
      exact ⟨rfl, fun i v x y hy hx hv => by rw [hy] at hx; cases hx; exact .pure (hI ▸ pure_rep (g := γ') (pure_cells hp hy) hv)⟩
    · rename_i hp
      split at hb
      · rename_i cs
        rw [List.all_eq_true] at hb
        refine ⟨by simp [cells], fun i v x y hy hx hv => ?_⟩
        simp only [cells] at hy hx
        rw [nth_map, hy] at hx
        cases hx
        exact back_cell hI htv (hb y (mem_of_nth' hy)) hv
      · exact absurd rfl (htup _)
      · rename_i k n
        refine ⟨rfl, fun i v x y hy hx hv => ?_⟩
        cases i with
        | zero => simp [cells, nth, backCell] at hy hx; subst hy; subst hx; exact back_cell (d := .ref k n) hI htv hb hv
        | succ i => simp [cells, nth] at hy
      · rename_i k
        refine ⟨rfl, fun i v x y hy hx hv => ?_⟩
        cases i with
        | zero => simp [cells, nth, backCell] at hy hx; subst hy; subst hx; exact back_cell (d := .mref k) hI htv hb hv
        | succ i => simp [cells, nth] at hy
      · cases hb
  refine ⟨c, e, fz, c1, c2, c3.trans key.1.symm, fun i v x hv hx => ?_⟩
  have hi : i < (cells d).length := by rw [← c3]; exact (Array.getElem?_eq_some_iff.1 hv).1
  obtain ⟨y, hy⟩ := nth_lt hi
  exact ⟨key.2 i v x y hy hx (c4 i v y hv hy).1, (c4 i v y hv hy).2⟩
end
end Abs
namespace Abs
open Go
section
variable {P : Program} {cx : Cx} {g : Gh} {s : St} {a : Act} {w : World}
theorem BoxAt.notup {g : Gh} {w : World} {b : Nat} {d : Dat} (r : BoxAt g w b d) : ∀ ds, d ≠ .tup ds := by
  intro ds e
  subst e
  obtain ⟨c, t, fz, c1, c2, c3, c4⟩ := r
  have h0 : 0 < c.size := by rw [c3]; simp [cells]
  have h1 := c4 0 c[0] (.tup ds) (Array.getElem?_eq_getElem h0) rfl
  obtain ⟨vs, e, _⟩ := h1.1.tup_val
  rw [e] at h1
  simp [leaf] at h1
def Gh.back (g γ' : Gh) (ks : List Nat) (t len : Nat) : Gh :=
  { I := γ'.I, mu := g.mu, tv := fun k => match rowPl ks t len k with | some p => γ'.tv p | none => g.tv k }
theorem Mem.behind (m : Mem cx g s w) {ls ks : List Nat} {t : Nat} (hl : ls.Nodup) (hk : ks.Nodup)
    (hks : ∀ (i k : Nat), nth ks i = some k → ∃ r, s.R k = some r) (hls : ∀ (i l : Nat), nth ls i = some l → ∃ d, s.H l = some d)
    {γ' : Gh} {m' : Ct} {w' : World} (he : Ext (g.sub ls ks) γ') (m2 : Mem (Cx.of 0 ((g.sub ls ks).X) w (g.I)) γ' (init [] m') w')
    (hdead : newRowsDead ks t s.R 0 m'.R = true) (hH : m'.H.all backB = true)
    {s' : St} (eH : s'.H = putBoxes ks t s.H ls m'.H) (eR : s'.R = (putRows ks t s.R s.rn 0 m'.R).1) :
    Ext g (g.back γ' ks t m'.R.length) ∧ Mem cx (g.back γ' ks t m'.R.length) s' w' ∧
      ∀ k u, γ'.tv k = some u → 1000 ≤ k ∧ (g.back γ' ks t m'.R.length).tv (rowName ks t (k - 1000)) = some u := by
  have mk : ∀ {i k : Nat}, nth ks i = some k → ∃ u, g.tv k = some u ∧ (g.sub ls ks).tv (1000 + i) = some u := fun {i k} h => by
    obtain ⟨r, hr⟩ := hks i k h
    obtain ⟨u, hu, _⟩ := m.row k r hr
    exact ⟨u, hu, (sub_tv g h).trans hu⟩
  have ml : ∀ {i l : Nat}, nth ls i = some l → ∃ b, g.mu l = some b ∧ γ'.mu (1000 + i) = some b := fun {i l} h => by
    obtain ⟨d, hd⟩ := hls i l h
    obtain ⟨b, hb, _⟩ := m.box l d hd
    exact ⟨b, hb, he.mu _ _ ((sub_mu g h).trans hb)⟩
  have f2 : ∀ {p u}, γ'.tv p = some u → ∃ i r, p = 1000 + i ∧ nth m'.R i = some r := fun {p u} h => by
    obtain ⟨r, hr⟩ := m2.norow p u h
    simp only [init] at hr
    rw [row_at] at hr
    split at hr
    · exact ⟨p - 1000, r, by omega, hr⟩
    · cases hr
  have f2H : ∀ {p b}, γ'.mu p = some b → ∃ i d, p = 1000 + i ∧ nth m'.H i = some d := fun {p b} h => by
    obtain ⟨r, hr⟩ := m2.nobox p b h
    simp only [init] at hr
    rw [box_at] at hr
    split at hr
    · exact ⟨p - 1000, r, by omega, hr⟩
    · cases hr
  have f3 : ks.length ≤ m'.R.length := by
    rcases Nat.eq_zero_or_pos ks.length with h | h
    · omega
    · obtain ⟨k, hk'⟩ := nth_lt (l := ks) (i := ks.length - 1) (by omega)
      obtain ⟨u, _, hu⟩ := mk hk'
      obtain ⟨u', hu', _⟩ := he.tv _ _ hu
      obtain ⟨i, r, e, hi⟩ := f2 hu'
      have := lt_of_nth hi
      omega
  have f3H : ls.length ≤ m'.H.length := by
    rcases Nat.eq_zero_or_pos ls.length with h | h
    · omega
    · obtain ⟨k, hk'⟩ := nth_lt (l := ls) (i := ls.length - 1) (by omega)
      obtain ⟨u, _, hu⟩ := ml hk'
      obtain ⟨i, r, e, hi⟩ := f2H hu
      have := lt_of_nth hi
      omega
  have hd : ∀ j, ks.length ≤ j → j < m'.R.length → place ks 0 (5000 + 10 * t + (j - ks.length)) = none := fun j h1 h2 => by
    have := newRowsDead_spec hdead j (Nat.zero_le _) (by omega) h1
    cases hp : place ks 0 (5000 + 10 * t + (j - ks.length)) with
    | none => rfl
    | some i =>
      obtain ⟨r, hr⟩ := hks _ _ (place_some hp)
      rw [this] at hr; cases hr
  have newdead : ∀ {k p}, place ks 0 k = none → rowPl ks t m'.R.length k = some p → s.R k = none := fun {k p} h1 h2 => by
    unfold rowPl at h2
    rw [h1] at h2
    dsimp only at h2
    split at h2
    · rename_i hc
      have := newRowsDead_spec hdead (ks.length + (k - (5000 + 10 * t))) (Nat.zero_le _) (by omega) (by omega)
      rw [show 5000 + 10 * t + (ks.length + (k - (5000 + 10 * t)) - ks.length) = k by omega] at this
      exact this
    · cases h2
  have X1 : ∀ {b}, (g.sub ls ks).X b → b < w.heap.size ∧ cx.mine b := fun {b} h => by
    rcases h with ⟨l, hl'⟩ | ⟨k, u, hu, hb⟩
    · obtain ⟨i, l', rfl, h1, h2⟩ := sub_mu_inv hl'
      obtain ⟨d, hd⟩ := hls i l' h1
      obtain ⟨b', e1, e2, e3⟩ := m.box l' d hd
      rw [h2] at e1; cases e1
      exact ⟨e2.lt, e3⟩
    · obtain ⟨i, k', rfl, h1, h2⟩ := sub_tv_inv hu
      have := m.tv_blk h2 hb
      exact ⟨this.1, this.2.1⟩
  have X2 : ∀ {l b}, place ls 0 l = none → g.mu l = some b → ¬ (g.sub ls ks).X b := fun {l b} h1 h2 h => by
    rcases h with ⟨x, hx⟩ | ⟨k, u, hu, hb⟩
    · obtain ⟨i, l', rfl, h3, h4⟩ := sub_mu_inv hx
      have := m.inj l l' b h2 h4
      subst this
      rw [place_nodup hl h3] at h1; cases h1
    · obtain ⟨i, k', rfl, h3, h4⟩ := sub_tv_inv hu
      exact (m.tv_blk h4 hb).2.2 l h2
  have X3 : ∀ {k u b}, place ks 0 k = none → g.tv k = some u → u.base = some b → ¬ (g.sub ls ks).X b := fun {k u b} h1 h2 h3 h => by
    rcases h with ⟨x, hx⟩ | ⟨k', u', hu, hb⟩
    · obtain ⟨i, l', rfl, h5, h4⟩ := sub_mu_inv hx
      exact (m.tv_blk h2 h3).2.2 l' h4
    · obtain ⟨i, k', rfl, h5, h4⟩ := sub_tv_inv hu
      have := m.rdis k k' u u' b h2 h4 h3 hb
      subst this
      rw [place_nodup hk h5] at h1; cases h1
  have fr2 : Frame w w' (g.sub ls ks).X := m2.frame
  have keepB : ∀ {b}, b < w.heap.size → ¬ (g.sub ls ks).X b → w'.heap[b]? = w.heap[b]? := fun {b} h1 h2 => fr2.block b h1 h2
  have keepI : ∀ {b}, b < w.heap.size → ¬ (g.sub ls ks).X b → ∀ o, γ'.I b o = g.I b o := fun {b} h1 h2 o => by
    cases h : γ'.I b o with
    | some v =>
      rcases m2.newI b o v h with h3 | h3 | h3
      · exact h3.symm
      · have h3 : w.heap.size ≤ b := h3
        omega
      · exact absurd h3 h2
    | none =>
      cases h3 : g.I b o with
      | none => rfl
      | some v =>
        have := he.I b o v h3
        rw [h] at this; cases this
  have mine1 : ∀ {b}, (w.heap.size ≤ b ∨ (g.sub ls ks).X b) → cx.mine b := fun {b} h => by
    rcases h with h | h
    · exact m.new _ h
    · exact (X1 h).2
  have hext : Ext g (g.back γ' ks t m'.R.length) := by
    refine ⟨he.I, fun l b h => h, fun k u h => ?_⟩
    simp only [Gh.back]
    cases hp : rowPl ks t m'.R.length k with
    | none => exact ⟨u, h, rfl, .inr rfl⟩
    | some p =>
      dsimp only
      cases hpl : place ks 0 k with
      | none =>
        have := newdead hpl hp
        obtain ⟨r, hr⟩ := m.norow k u h
        rw [this] at hr; cases hr
      | some i =>
        unfold rowPl at hp
        rw [hpl] at hp
        cases hp
        exact he.tv _ _ ((sub_tv g (place_some hpl)).trans h)
  have htv : ∀ k u, γ'.tv k = some u → 1000 ≤ k ∧ (g.back γ' ks t m'.R.length).tv (rowName ks t (k - 1000)) = some u := fun k u h => by
    obtain ⟨i, r, rfl, hi⟩ := f2 h
    refine ⟨by omega, ?_⟩
    simp only [Gh.back]
    rw [Nat.add_sub_cancel_left, rowPl_name hk (lt_of_nth hi) hd]
    exact h
  have rowNew : ∀ {p r}, (init [] m').R p = some r → ∃ u, γ'.tv p = some u ∧ u.sz = r.sz ∧ u.n = r.es.length ∧ (∀ e ∈ r.es, (cells e).length = r.sz) ∧
      RowAt cx (g.back γ' ks t m'.R.length) w' u r ∧ ∀ b, u.base = some b → (w.heap.size ≤ b ∨ (g.sub ls ks).X b) := fun {p r} h => by
    obtain ⟨u, u1, u2, u3, u4, u5⟩ := m2.row p r h
    refine ⟨u, u1, u2, u3, u4, u5.names rfl fun b hb => ?_, fun b hb => (u5.blk hb).2.1⟩
    have hbl := u5.blk hb
    refine ⟨mine1 hbl.2.1, fun l hl' => ?_⟩
    cases hp : place ls 0 l with
    | some i =>
      obtain ⟨b', e1, e2⟩ := ml (place_some hp)
      have hl'' : g.mu l = some b := hl'
      rw [hl''] at e1; cases e1
      exact hbl.2.2 _ e2
    | none =>
      rcases hbl.2.1 with h3 | h3
      · have h3 : w.heap.size ≤ b := h3
        have := m.mu_lt hl'
        omega
      · exact X2 hp hl' h3
  have Rat : ∀ k, s'.R k = match rowPl ks t m'.R.length k with | some p => (init [] m').R p | none => s.R k := fun k => by
    rw [eR, putRows_at hk f3 hd k]
    cases hp : rowPl ks t m'.R.length k with
    | none => rfl
    | some p =>
      dsimp only
      simp only [init]
      rw [row_at, if_pos (rowPl_some hp f3).1]
  have nopl : ∀ {k}, rowPl ks t m'.R.length k = none → place ks 0 k = none := fun {k} h => by
    unfold rowPl at h
    split at h
    · cases h
    · assumption
  refine ⟨hext, ?_, htv⟩
  refine ⟨m2.iw, ?_, ?_, m.inj, ?_, ?_, ?_, ?_, ?_, ?_, ?_⟩
  · intro l d h
    rw [eH, putBoxes_spec hl f3H] at h
    cases hp : place ls 0 l with
    | some i =>
      rw [hp] at h
      dsimp only at h
      obtain ⟨d0, hd0, rfl⟩ := Option.map_eq_some_iff.1 h
      have h0 : (init [] m').H (1000 + i) = some d0 := by
        simp only [init]; rw [box_at, if_pos (by omega), Nat.add_sub_cancel_left]; exact hd0
      obtain ⟨b, b1, b2, b3⟩ := m2.box _ _ h0
      obtain ⟨b', e1, e2⟩ := ml (place_some hp)
      rw [b1] at e2; cases e2
      refine ⟨b, e1, back_box (γ' := γ') (g2 := g.back γ' ks t m'.R.length) rfl htv ?_ b2 b2.notup, ?_⟩
      · rw [List.all_eq_true] at hH; exact hH d0 (mem_of_nth' hd0)
      · exact mine1 b3
    | none =>
      rw [hp] at h
      dsimp only at h
      obtain ⟨b, b1, b2, b3⟩ := m.box l d h
      exact ⟨b, b1, b2.mono hext (keepB b2.lt (X2 hp b1)), b3⟩
  · intro l b h
    rw [eH, putBoxes_spec hl f3H]
    cases hp : place ls 0 l with
    | some i =>
      obtain ⟨d0, hd0⟩ := nth_lt (l := m'.H) (i := i) (by have := lt_of_nth (place_some hp); omega)
      exact ⟨Abs.back ks t d0, by simp [hd0]⟩
    | none => exact m.nobox l b h
  · intro l b h o
    cases hp : place ls 0 l with
    | some i =>
      obtain ⟨b', e1, e2⟩ := ml (place_some hp)
      have h' : g.mu l = some b := h
      rw [h'] at e1; cases e1
      exact m2.dis _ _ e2 o
    | none =>
      show γ'.I b o = none
      rw [keepI (m.mu_lt h) (X2 hp h)]
      exact m.dis l b h o
  · intro k r h
    rw [Rat] at h
    simp only [Gh.back]
    cases hp : rowPl ks t m'.R.length k with
    | some p =>
      rw [hp] at h
      obtain ⟨u, u1, u2, u3, u4, u5, _⟩ := rowNew h
      exact ⟨u, u1, u2, u3, u4, u5⟩
    | none =>
      rw [hp] at h
      obtain ⟨u, u1, u2, u3, u4, u5⟩ := m.row k r h
      refine ⟨u, u1, u2, u3, u4, u5.mono hext fun b hb => ?_⟩
      have hX := X3 (nopl hp) u1 hb
      have hlt := (m.tv_blk u1 hb)
      exact ⟨keepB hlt.1 hX, hlt.2.2, keepI hlt.1 hX⟩
  · intro k u h
    simp only [Gh.back] at h
    rw [Rat]
    cases hp : rowPl ks t m'.R.length k with
    | some p =>
      rw [hp] at h
      exact m2.norow p u h
    | none =>
      rw [hp] at h
      exact m.norow k u h
  · intro k j u v b h1 h2 h3 h4
    simp only [Gh.back] at h1 h2
    cases hp : rowPl ks t m'.R.length k with
    | some p =>
      rw [hp] at h1
      dsimp only at h1
      obtain ⟨r, hr⟩ := m2.norow p u h1
      obtain ⟨u', e1, _, _, _, _, e2⟩ := rowNew hr
      rw [h1] at e1; cases e1
      cases hq : rowPl ks t m'.R.length j with
      | some q =>
        rw [hq] at h2
        dsimp only at h2
        have := m2.rdis p q u v b h1 h2 h3 h4
        subst this
        rw [← (rowPl_some hp f3).2.2, ← (rowPl_some hq f3).2.2]
      | none =>
        rw [hq] at h2
        dsimp only at h2
        rcases e2 b h3 with h5 | h5
        · have := (m.tv_blk h2 h4).1; omega
        · exact absurd h5 (X3 (nopl hq) h2 h4)
    | none =>
      rw [hp] at h1
      dsimp only at h1
      cases hq : rowPl ks t m'.R.length j with
      | some q =>
        rw [hq] at h2
        dsimp only at h2
        obtain ⟨r, hr⟩ := m2.norow q v h2
        obtain ⟨u', e1, _, _, _, _, e2⟩ := rowNew hr
        rw [h2] at e1; cases e1
        rcases e2 b h4 with h5 | h5
        · have := (m.tv_blk h1 h3).1; omega
        · exact absurd h5 (X3 (nopl hp) h1 h3)
      | none =>
        rw [hq] at h2
        exact m.rdis k j u v b h1 h2 h3 h4
  · intro b o v h
    rcases m2.newI b o v h with h1 | h1
    · exact m.newI b o v h1
    · exact .inr (mine1 h1)
  · exact cx.st _ _ _ _ m.frame hext.I (fr2.sub fun i _ h => mine1 (.inr h)) m2.iw m.new
  · exact fun b hb => m.new b (Nat.le_trans fr2.size hb)
theorem sound_call (h : Rel cx g s a w) {o : Oper} (hd : dstB cx.n o.dst = true) (hc : callOf o = true) {cf : Cfg}
    (hC : ∀ f args m r m', cf.C f args m r m' → CallsA P f args m r m') {K : St → Prop} {Q : Go.Exit → Act → World → Prop}
    (hk : exPlan P cf o.dst s K (plan P o (getT P s))) : o.wp P a w (Post cx g K) Q := by
  unfold callOf at hc
  split at hc
  rotate_left
  · cases hc
  rename_i c ho
  split at hc
  rotate_left
  · cases hc
  rename_i f hce
  simp only [plan, ho, callPlan, hce] at hk
  split at hk
  · exact hk.elim
  rename_i args hargs
  have hev := args_eval h hargs
  split at hk
  rotate_left
  · exact hk.elim
  · exact hk.elim
  rename_i fid first cap hf
  split at hk
  · exact hk.elim
  obtain ⟨vf, vc, ef, hvf, hvc, rf, rc⟩ := (h.get hf).clo_val
  simp only [exPlan] at hk
  split at hk
  rotate_left
  · exact hk.elim
  rename_i t hdst
  obtain ⟨s1, ls, ks1, args', g1, k1, l1, ml, mk1, n1, r1⟩ := handArgs_sound _ _ h hk
  obtain ⟨ks, H, k2, mk2, hH1, hH2⟩ := handBoxes_spec s1 ls k1
  split at k2
  rotate_left
  · exact k2.elim
  rename_i R hR
  obtain ⟨r, m', hcall, k3⟩ := k2.out
  split at k3
  rotate_left
  · exact k3.elim
  rename_i hb
  simp only [Bool.and_eq_true] at hb
  obtain ⟨hb1, ⟨hb2, hb3⟩, _⟩ := hb
  obtain ⟨⟨fn, hfn, hbody, hname⟩, hgo⟩ := hC _ _ _ _ _ hcall
  have hls : ls.Nodup := ml.nodup List.nodup_nil
  have hks : ks.Nodup := mk2.nodup (mk1.nodup List.nodup_nil)
  have hRs := rowsOf_spec s1 ks hR
  have hrun : (execOp a.eval o).run P w = .ok (.enter fid (vf ++ c.args.map a.eval ++ vc)) w := by
    have hb' : fn.body ≠ none := by intro e; rw [e] at hbody; cases hbody
    have hn' : fn.name ≠ "runtime.NumGoroutine" := by intro e; rw [e] at hname; simp at hname
    simp [execOp, ho, resolve, hce, ef, Deferred.ofValue, invoke, callFunc, hfn, hn', hb']
  unfold Oper.wp
  rw [hrun, Oper.upon_enter]
  have hsub : Mem (Cx.of 0 ((g1.sub ls ks).X) w ((g1.sub ls ks).I)) (g1.sub ls ks) (init args' ⟨H, R⟩) w :=
    l1.rel.mem.sub hls hks ⟨hH1, hH2⟩ hRs (fun b hb => Or.inr hb) (fun b o v hv => .inl hv) (Frame.refl _ _) (fun b hb => Or.inl hb) rfl rfl
  have e1 : (c.args.map a.eval).toList = c.args.toList.map a.eval := by simp
  have hvs : (vf ++ c.args.map a.eval ++ vc).size = args'.length := by
    rw [n1]
    have := hev.1
    simp at this
    simp [hvf, hvc, this]
  have hrep : ∀ (i : Nat) v d, (vf ++ c.args.map a.eval ++ vc)[i]? = some v → nth args' i = some d → Rep (g1.sub ls ks) v d := by
    intro i v d hv hd'
    have hi := lt_of_nth hd'
    rw [n1] at hi
    obtain ⟨x, hx⟩ := nth_lt hi
    obtain ⟨d', p1, p2⟩ := r1 i x hx
    rw [hd'] at p1; cases p1
    refine p2 g1 ls ks (Ext.refl _) (List.prefix_refl _) mk2.pre v ?_
    have lf : (c.args.map a.eval).size = args.length := by have := hev.1; simp at this; simp [this]
    rw [nth_eq] at hx
    by_cases h1 : i < first.length
    · rw [List.append_assoc, List.getElem?_append_left h1] at hx
      rw [Array.append_assoc, Array.getElem?_append_left (by omega)] at hv
      exact rf i v x hv (by rw [nth_eq]; exact hx)
    · by_cases h2 : i < first.length + args.length
      · rw [List.getElem?_append_left (by simp; omega), List.getElem?_append_right (by omega)] at hx
        rw [Array.getElem?_append_left (by simp at lf ⊢; omega), Array.getElem?_append_right (by omega)] at hv
        rw [hvf] at hv
        refine hev.2 (i - first.length) v x ?_ (by rw [nth_eq]; exact hx)
        rw [← e1]; simpa using hv
      · rw [List.getElem?_append_right (by simp; omega)] at hx
        rw [Array.getElem?_append_right (by simp at lf ⊢; omega)] at hv
        refine rc (i - (first ++ args).length) v x ?_ (by rw [nth_eq]; exact hx)
        have : (vf ++ Array.map a.eval c.args).size = (first ++ args).length := by simp at lf ⊢; omega
        rw [this] at hv
        exact hv
  refine Calls.mono (hgo (g1.sub ls ks) w _ hvs hrep hsub) fun e w' he => ?_
  cases e with
  | panicked ch => exact he.elim
  | outgrown => exact he.elim
  | returned v =>
    obtain ⟨γ', x1, x2, x3⟩ := he
    obtain ⟨y1, y2, y3⟩ := l1.rel.mem.behind (t := t) hls hks (fun i k hik => by obtain ⟨r, hr, _⟩ := hRs.2 i k hik; exact ⟨r, hr⟩)
      (fun i l hil => by obtain ⟨d, _, hd', _⟩ := hH2 i l hil; exact ⟨d, hd'⟩) x1 x3 hb1 hb3
      (s' := { env := s1.env, H := putBoxes ks t s1.H ls m'.H, hn := s1.hn, R := (putRows ks t s1.R s1.rn 0 m'.R).1, rn := (putRows ks t s1.R s1.rn 0 m'.R).2, y := s1.y }) rfl rfl
    have hrel : Rel cx (g1.back γ' ks t m'.R.length) { env := s1.env, H := putBoxes ks t s1.H ls m'.H, hn := s1.hn, R := (putRows ks t s1.R s1.rn 0 m'.R).1, rn := (putRows ks t s1.R s1.rn 0 m'.R).2, y := s1.y } a w' :=
      ⟨fun u d hu => (l1.rel.env u d hu).mono y1, l1.rel.size, l1.rel.defers, y2⟩
    refine ⟨_, _, k3, l1.ext.trans y1, ?_⟩
    have := hrel.put (dst := some t) (by rw [← hdst]; exact hd) (back_val (ks := ks) (t := t) (γ' := γ') rfl y3 hb2 x2)
    rw [hdst]
    exact this
theorem sound_op (h : Rel cx g s a w) {o : Oper} (hB : opB P cx.n o = true) {cf : Cfg}
    (hC : ∀ f args m r m', cf.C f args m r m' → CallsA P f args m r m') {K : St → Prop} {Q : Go.Exit → Act → World → Prop}
    (hk : exPlan P cf o.dst s K (plan P o (getT P s))) : o.wp P a w (Post cx g K) Q := by
  cases hc : callOf o with
  | false => exact sound_plain h hB hc hk
  | true =>
    have hd : dstB cx.n o.dst = true := by
      unfold opB at hB; rw [Bool.and_eq_true] at hB; exact hB.1
    exact sound_call h hd hc hC hk
end
end Abs
