/- A part of a proof: an abstract machine, proved sound, or contracts of functions. No condition. -/
import Derived.Tactics
import Derived.RangeFuncLeaves
import Derived.KernelRfl
import Derived.Test.YtcbpfnplkdijpaaGreatProg
import Derived.Test.YtcbpfnplkdijpaaGreatT3
set_option linter.unusedVariables false
set_option linter.unusedSimpArgs false
namespace Abs
open Go
section
variable {P : Program} {cx : Cx} {a : Act} {w : World}
theorem outVals_sound (ls : List Nat) : ∀ (ds : List Dat) {fs : List Bool} {g : Gh} {s : St} {ks : List Nat} (_ : Rel cx g s a w) {K : St → List Nat → List Dat → Prop}, outVals s ks fs ds K →
    ∃ s' ks' ds' g', K s' ks' ds' ∧ Laid cx g s a w s' g' ∧ More ks ks' ∧ ds'.length = ds.length ∧
      ∀ (i : Nat) d, nth ds i = some d → ∃ d', nth ds' i = some d' ∧ Handed g' ls ks' g d d'
  | [], fs, g, s, ks, h, K, hk => ⟨s, ks, [], g, hk, Laid.refl h, More.refl _, rfl, fun i d hd => by simp [nth] at hd⟩
  | d :: ds, fs, g, s, ks, h, K, hk => by
    have join : ∀ {s1 : St} {ks1 : List Nat} {d1 : Dat} {g1 : Gh}, Laid cx g s a w s1 g1 → More ks ks1 → Handed g1 ls ks1 g d d1 →
        outVals s1 ks1 fs.tail ds (fun s ks ds => K s ks (d1 :: ds)) →
        ∃ s' ks' ds' g', K s' ks' ds' ∧ Laid cx g s a w s' g' ∧ More ks ks' ∧ ds'.length = (d :: ds).length ∧
          ∀ (i : Nat) x, nth (d :: ds) i = some x → ∃ d', nth ds' i = some d' ∧ Handed g' ls ks' g x d' := by
      intro s1 ks1 d1 g1 l1 m1 hh hk
      obtain ⟨s2, ks2, ds2, g2, k2, l2, m2, n2, r2⟩ := outVals_sound ls ds l1.rel hk
      refine ⟨s2, ks2, d1 :: ds2, g2, k2, l1.trans l2, m1.trans m2, by simp [n2], fun i x hx => ?_⟩
      cases i with
      | zero => simp [nth] at hx; subst hx; exact ⟨d1, rfl, hh.mono l2.ext (List.prefix_refl _) m2.pre⟩
      | succ i =>
        obtain ⟨d', e1, e2⟩ := r2 i x (by simpa [nth] using hx)
        exact ⟨d', e1, e2.pre l1.ext⟩
    simp only [outVals_nil, outVals_cons] at hk
    split at hk
    · rename_i k n _
      obtain ⟨ks', d', h1, h2, h3⟩ := handRow_spec hk
      exact join (Laid.refl h) h2 (Handed.row h.mem.fz h3 (Ext.refl g)) h1
    · obtain ⟨s1, d1, g1, k1, l1, _, _, r1⟩ := leak_sound h hk
      exact join l1 (More.refl _) (Handed.of_leak r1) k1
end
theorem nth_upTo (b : Nat) : ∀ (n i : Nat), nth (upTo b n) i = if i < n then some (b + i) else none
  | 0, i => by simp [upTo, nth]
  | n + 1, i => by
    have len : ∀ n, (upTo b n).length = n := by
      intro n
      induction n with
      | zero => rfl
      | succ n ih => simp [upTo, ih]
    simp only [upTo]
    rw [nth_eq]
    by_cases h : i < n
    · rw [List.getElem?_append_left (by rw [len]; exact h), ← nth_eq, nth_upTo b n i, if_pos h, if_pos (by omega)]
    · rw [List.getElem?_append_right (by rw [len]; omega), len]
      by_cases h2 : i = n
      · subst h2; rw [if_pos (by omega)]; simp
      · rw [if_neg (by omega)]
        rw [List.getElem?_eq_none (by simp; omega)]
theorem length_upTo (b : Nat) : ∀ n, (upTo b n).length = n
  | 0 => rfl
  | n + 1 => by simp [upTo, length_upTo b n]
theorem mem_upTo {b n x : Nat} : x ∈ upTo b n ↔ b ≤ x ∧ x < b + n := by
  induction n with
  | zero => simp [upTo]
  | succ n ih => simp only [upTo, List.mem_append, ih, List.mem_singleton]; omega
theorem nodup_upTo (b : Nat) : ∀ n, (upTo b n).Nodup
  | 0 => List.nodup_nil
  | n + 1 => by
    simp only [upTo]
    rw [List.nodup_append]
    refine ⟨nodup_upTo b n, by simp, fun x hx y hy e => ?_⟩
    rw [mem_upTo] at hx
    simp at hy
    omega
theorem argEnv_eq : ∀ (ds : List Dat) (n : Nat) (e : Nat → Option Dat) (l : Nat), argEnv ds n e l = if n ≤ l ∧ l < n + ds.length then nth ds (l - n) else e l
  | [], n, e, l => by
    simp only [argEnv, List.length_nil, Nat.add_zero]
    rw [if_neg (by omega)]
  | d :: ds, n, e, l => by
    simp only [argEnv, List.length_cons]
    rw [argEnv_eq ds (n + 1) _ l]
    by_cases h1 : n + 1 ≤ l ∧ l < n + 1 + ds.length
    · rw [if_pos h1, if_pos (by omega), show l - n = (l - (n + 1)) + 1 by omega]; rfl
    · rw [if_neg h1]
      by_cases h2 : l = n
      · subst h2; rw [upd_eq, if_pos (by omega)]; simp [nth]
      · rw [upd_ne _ _ _ _ h2, if_neg (by omega)]
def resB (P : Program) : List ResultVar → Bool
  | [] => true
  | .tmp _ :: r => resB P r
  | .cell _ t :: r => tyB P t && resB P r
def fnB (P : Program) (fn : Func) (n : Nat) : Bool :=
  (match fn.body with | some c => codeB P fn.ntmps c | none => false) && !(fn.name == "runtime.NumGoroutine") && Nat.ble n fn.ntmps && resB P fn.results.toList
def rd1 (tmps : Array Value) : ResultVar → Sem Value
  | .tmp t => pure (tmps.getD t undef)
  | .cell a t => do loadVar t (← asAddr (tmps.getD a undef))
theorem rd_sound {P : Program} {cx : Cx} {g : Gh} {s : St} {a : Act} {w : World} (h : Rel cx g s a w) : ∀ {L : List ResultVar} (_ : resB P L = true) {ds : List Dat} (_ : resVals P s L = some ds),
    ∃ vs : List Value, (L.mapM (rd1 a.tmps)).run P w = .ok vs w ∧ vs.length = ds.length ∧ ∀ (i : Nat) v d, nth vs i = some v → nth ds i = some d → Rep g v d
  | [], _, ds, hr => by
    simp [resVals] at hr; subst hr
    exact ⟨[], by simp, rfl, fun i v d hv => by simp [nth] at hv⟩
  | .tmp t :: L, hb, ds, hr => by
    simp only [resVals] at hr
    split at hr
    · rename_i d hd
      split at hr
      · rename_i l hl
        cases hr
        obtain ⟨vs, h1, h2, h3⟩ := rd_sound h (L := L) hb hl
        refine ⟨a.tmps.getD t undef :: vs, ?_, by simp [h2], fun i v x hv hx => ?_⟩
        · rw [List.mapM_cons]
          simp [rd1, h1]
        · cases i with
          | zero => cases hv; cases hx; exact h.env t _ hd
          | succ i => exact h3 i v x hv hx
      · cases hr
    · cases hr
  | .cell b t :: L, hb, ds, hr => by
    have hb' : (tyB P t && resB P L) = true := hb
    rw [Bool.and_eq_true] at hb'
    simp only [resVals] at hr
    split at hr
    · rename_i l off he
      split at hr
      · rename_i d hd
        split at hr
        · rename_i c hc
          split at hr
          · rename_i l' hl'
            cases hr
            obtain ⟨vs, h1, h2, h3⟩ := rd_sound h (L := L) hb'.2 hl'
            obtain ⟨blk, e1, e2⟩ := (h.env b _ he).ptr_val
            obtain ⟨blk', f1, f2, _⟩ := h.mem.box l d hd
            rw [e1] at f1; cases f1
            obtain ⟨v, hv1, hv2⟩ := load_part (P := P) hb'.1 f2.cellsAt hc
            rw [Nat.zero_add] at hv1
            refine ⟨v :: vs, ?_, by simp [h2], fun i y x hy hx => ?_⟩
            · rw [List.mapM_cons]
              have e3 : (rd1 a.tmps (.cell b t)).run P w = .ok v w := by
                show (asAddr (a.tmps.getD b undef) >>= fun y => loadVar t y).run P w = _
                rw [e2]
                simpa [asAddr] using hv1
              simp [e3, h1]
            · cases i with
              | zero => cases hy; cases hx; exact hv2
              | succ i => exact h3 i y x hy hx
          · cases hr
        · cases hr
      · cases hr
    · cases hr
theorem results_run {P : Program} {cx : Cx} {g : Gh} {s : St} {a : Act} {w : World} (h : Rel cx g s a w) {fn : Func} (hb : resB P fn.results.toList = true) {ds : List Dat} (hr : resVals P s fn.results.toList = some ds)
    {g' : Gh} {ls ks : List Nat} {ds' : List Dat} (hlen : ds'.length = ds.length) (hh : ∀ (i : Nat) d, nth ds i = some d → ∃ d', nth ds' i = some d' ∧ ∀ v, Rep g v d → Rep (g'.sub ls ks) v d') :
    ∃ v, (results fn a.tmps).run P w = .ok v w ∧ Rep (g'.sub ls ks) v (joinRes ds') := by
  obtain ⟨vs, h1, h2, h3⟩ := rd_sound (P := P) h hb hr
  have e : (results fn a.tmps) = (fn.results.mapM (rd1 a.tmps)) >>= fun vs => pure (if h : vs.size = 1 then vs[0] else .tuple vs) := by
    unfold results
    congr 1
  have e2 : (fn.results.mapM (rd1 a.tmps)).run P w = .ok vs.toArray w := by
    rw [Array.mapM_eq_mapM_toList]
    simp [h1]
  have all : ∀ (i : Nat) v d', nth vs i = some v → nth ds' i = some d' → Rep (g'.sub ls ks) v d' := fun i v d' hv hd => by
    have hi : i < ds.length := by have := lt_of_nth hd; omega
    obtain ⟨d, hd0⟩ := nth_lt hi
    obtain ⟨x, e1, e2⟩ := hh i d hd0
    rw [hd] at e1; cases e1
    exact e2 v (h3 i v d hv hd0)
  refine ⟨if h : vs.toArray.size = 1 then vs.toArray[0] else .tuple vs.toArray, by rw [e]; simp [e2], ?_⟩
  have hl0 := h2.trans hlen.symm
  clear e e2 h1 h2 h3
  match vs, ds', hl0, all with
  | [], [], _, _ => exact .tup rfl fun i v d hv hd => by simp [nth] at hd
  | [v], [d], _, all => exact all 0 v d rfl rfl
  | v1 :: v2 :: vs, d1 :: d2 :: ds, hl, all =>
    rw [dif_neg (by simp)]
    refine .tup (by simpa using hl) fun i v d hv hd => all i v d (by rw [nth_eq]; simpa using hv) hd
theorem init_nm (args : List Dat) (m : Ct) : Nm (init args m) := by
  refine ⟨fun l hl => ?_, fun k hk => ?_⟩
  · show l ∈ upTo 1000 m.H.length
    have : boxArgs m.H 1000 (fun _ => none) l ≠ none := hl
    rw [box_at] at this
    split at this
    · cases hx : nth m.H (l - 1000) with
      | none => exact absurd hx this
      | some d => rw [mem_upTo]; have := lt_of_nth hx; omega
    · exact absurd rfl this
  · show k ∈ upTo 1000 m.R.length
    have : rowArgs m.R 1000 (fun _ => none) k ≠ none := hk
    rw [row_at] at this
    split at this
    · cases hx : nth m.R (k - 1000) with
      | none => exact absurd hx this
      | some d => rw [mem_upTo]; have := lt_of_nth hx; omega
    · exact absurd rfl this
theorem fin_sound {P : Program} {n : Nat} {γ g : Gh} {w0 w : World} {s : St} {a : Act} (h : Rel (Cx.of n (γ.X) w0 (γ.I)) g s a w) (he : Ext γ g) {args : List Dat} {m : Ct} (h0 : Mem (Cx.of 0 (γ.X) w0 (γ.I)) γ (init args m) w0)
    {fn : Func} (hb : resB P fn.results.toList = true) {fs : List Bool} {r : Dat} {m' : Ct} (hf : fin P fs s fn.results.toList m.H.length m.R.length r m') :
    ∃ v, (results fn a.tmps).run P w = .ok v w ∧ ∃ γ', Ext γ γ' ∧ Rep γ' v r ∧ Mem (Cx.of 0 (γ.X) w0 (γ.I)) γ' (init [] m') w := by
  unfold fin at hf
  split at hf
  · exact hf.elim
  rename_i ds hds
  obtain ⟨s2, ks1, ds2, g2, k1, l2, m1, n2, r2⟩ := outVals_sound (upTo 1000 m.H.length) ds h hf
  obtain ⟨ks2, H, k2, m2, n1, r1⟩ := handBoxes_spec s2 _ k1
  split at k2
  rotate_left
  · exact k2.elim
  rename_i R hR
  obtain ⟨q1, q2⟩ := k2
  have hRs := rowsOf_spec s2 ks2 hR
  obtain ⟨v, v1, v2⟩ := results_run (P := P) h hb hds (g' := g2) (ls := upTo 1000 m.H.length) (ks := ks2) n2 fun i d hd => by
    obtain ⟨d', e1, e2⟩ := r2 i d hd
    exact ⟨d', e1, e2 g2 _ _ (Ext.refl _) (List.prefix_refl _) m2.pre⟩
  have pre : upTo 1000 m.R.length <+: ks2 := m1.pre.trans m2.pre
  have nd : ks2.Nodup := m2.nodup (m1.nodup (nodup_upTo _ _))
  have he2 := he.trans l2.ext
  have mu1 : ∀ l b, γ.mu l = some b → (g2.sub (upTo 1000 m.H.length) ks2).mu l = some b := fun l b hl => by
    obtain ⟨d, hd⟩ := h0.nobox l b hl
    have : boxArgs m.H 1000 (fun _ => none) l = some d := hd
    rw [box_at] at this
    split at this
    · rename_i hle
      have hlt := lt_of_nth this
      have hn : nth (upTo 1000 m.H.length) (l - 1000) = some l := by rw [nth_upTo, if_pos hlt, show 1000 + (l - 1000) = l by omega]
      have e := sub_mu g2 (ks := ks2) hn
      rw [show 1000 + (l - 1000) = l by omega] at e
      rw [e]; exact he2.mu l b hl
    · cases this
  have tv1 : ∀ k t, γ.tv k = some t → ∃ t', (g2.sub (upTo 1000 m.H.length) ks2).tv k = some t' ∧ t'.sz = t.sz ∧ (t.n < t'.n ∨ t = t') := fun k t hk => by
    obtain ⟨d, hd⟩ := h0.norow k t hk
    have : rowArgs m.R 1000 (fun _ => none) k = some d := hd
    rw [row_at] at this
    split at this
    · rename_i hle
      have hlt := lt_of_nth this
      have hn : nth (upTo 1000 m.R.length) (k - 1000) = some k := by rw [nth_upTo, if_pos hlt, show 1000 + (k - 1000) = k by omega]
      have e := sub_tv g2 (ls := upTo 1000 m.H.length) (nth_prefix pre hn)
      rw [show 1000 + (k - 1000) = k by omega] at e
      rw [e]; exact he2.tv k t hk
    · cases this
  refine ⟨v, v1, g2.sub (upTo 1000 m.H.length) ks2, ⟨he2.I, mu1, tv1⟩, q1 ▸ v2, ?_⟩
  subst q2
  refine l2.rel.mem.sub (nodup_upTo _ _) nd ⟨n1, fun i l hl => ?_⟩ hRs (fun b hb => ?_) (fun b o x hx => ?_) ?_ ?_ rfl rfl
  · obtain ⟨d, d', e1, e2, e3⟩ := r1 i l hl
    exact ⟨d, d', e1, e2, e3⟩
  · rcases hb with ⟨l, hl⟩ | ⟨k, t, hk, ht⟩
    · obtain ⟨i, l', rfl, _, h4⟩ := sub_mu_inv hl
      obtain ⟨d, hd⟩ := l2.rel.mem.nobox l' b h4
      obtain ⟨b', e1, _, e3⟩ := l2.rel.mem.box l' d hd
      rw [h4] at e1; cases e1
      exact e3
    · obtain ⟨i, k', rfl, _, h4⟩ := sub_tv_inv hk
      obtain ⟨r0, hr0⟩ := l2.rel.mem.norow k' t h4
      obtain ⟨t', e1, _, _, _, e5⟩ := l2.rel.mem.row k' r0 hr0
      rw [h4] at e1; cases e1
      exact (e5.blk ht).2.1
  · exact l2.rel.mem.newI b o x hx
  · exact l2.rel.mem.frame
  · exact l2.rel.mem.new
def shut (w : World) (bs : List Nat) : World := bs.foldl (fun w b => w.putObj b (.deferred none)) w
theorem shut_size (bs : List Nat) : ∀ w, (shut w bs).heap.size = w.heap.size := by
  induction bs with
  | nil => intro w; rfl
  | cons b bs ih => intro w; show (shut (w.putObj b _) bs).heap.size = _; rw [ih]; simp
theorem shut_other (bs : List Nat) : ∀ (w : World) (b : Nat), b ∉ bs → (shut w bs).heap[b]? = w.heap[b]? := by
  induction bs with
  | nil => intro w b _; rfl
  | cons x bs ih =>
    intro w b hb
    rw [List.mem_cons, not_or] at hb
    show (shut (w.putObj x _) bs).heap[b]? = _
    rw [ih _ _ hb.2]
    exact World.putObj_heap_other hb.1
theorem shut_frame (bs : List Nat) : ∀ (w : World), Frame w (shut w bs) (fun b => b ∈ bs) := by
  induction bs with
  | nil => intro w; exact Frame.refl _ _
  | cons x bs ih =>
    intro w
    have h1 : Frame w (w.putObj x (.deferred none)) (fun b => b ∈ x :: bs) := ⟨rfl, rfl, rfl, by simp, fun b _ hb => World.putObj_heap_other (fun e => hb (by rw [e]; simp))⟩
    exact h1.trans ((ih _).sub fun b _ hb => List.mem_cons_of_mem _ hb)
theorem leave_marks {P : Program} {n : Nat} {fn : Func} {tmps : Array Value} {R : Ending → World → Prop} : ∀ (bs : List Nat) (w : World), bs.Nodup → (∀ b ∈ bs, w.heap[b]? = some (.deferred (some []))) →
    (∃ v, (results fn tmps).run P (shut w bs) = .ok v (shut w bs) ∧ R (.returned v) (shut w bs)) → LeavesInM (FW none) n P fn tmps R (bs.map markOf) .returning w
  | [], w, _, _, h => h
  | b :: bs, w, hn, hb, h => by
    rw [List.nodup_cons] at hn
    refine ⟨(fun e => by cases e), .inl ⟨b, w.putObj b (.deferred none), rfl, run_takeDeferred (hb b (by simp)), leave_marks bs _ hn.2 (fun x hx => ?_) h⟩⟩
    rw [World.putObj_heap_other (fun e => hn.1 (by rw [← e]; exact hx))]
    exact hb x (List.mem_cons_of_mem _ hx)
theorem okC_pure {g : Gh} {x : Dat} (h : okC x = true) : (∃ k off, x = .ptr k off) ∨ (∃ k n, x = .ref k n) ∨ (pureD x = true ∧ ∀ cs, x ≠ .agg cs) := by
  cases x <;> first
    | exact .inl ⟨_, _, rfl⟩
    | exact .inr (.inl ⟨_, _, rfl⟩)
    | exact .inr (.inr ⟨h, by intro cs e; cases e⟩)
    | cases h
theorem fixC_nagg {l : Nat} {d x : Dat} (h : ∀ cs, x ≠ .agg cs) : ∀ cs, fixC l d x ≠ .agg cs := by
  intro cs e
  cases x with
  | agg cs => exact absurd rfl (h _)
  | ptr k off => simp only [fixC] at e; cases hb : Nat.beq k l <;> rw [hb] at e <;> cases e
  | vptr k off => simp only [fixC] at e; cases hb : Nat.beq k l <;> rw [hb] at e <;> cases e
  | clo f a b => simp only [fixC] at e; split at e <;> cases e
  | _ => cases e
theorem fixH_cells {l : Nat} {d x : Dat} : cells (fixH l d x) = (cells x).map (fixC l d) := by
  by_cases h : ∃ cs, x = .agg cs
  · obtain ⟨cs, rfl⟩ := h; rfl
  · have h1 : ∀ cs, x ≠ .agg cs := fun cs e => h ⟨cs, e⟩
    have e1 : fixH l d x = fixC l d x := by cases x <;> first | rfl | exact absurd rfl (h1 _)
    have e2 : cells x = [x] := by cases x <;> first | rfl | exact absurd rfl (h1 _)
    have e3 : cells (fixC l d x) = [fixC l d x] := by
      have := fixC_nagg (l := l) (d := d) h1
      cases hx : fixC l d x <;> first | rfl | exact absurd hx (this _)
    rw [e1, e2, e3]; rfl
theorem fixB_sound {cx : Cx} {g : Gh} {s : St} {a : Act} {w : World} (h : Rel cx g s a w) {l : Nat} {d : Dat} (hl : s.H l = some d) {K : St → Prop} (hk : fixB s l d K) :
    ∃ s' g', K s' ∧ Rel cx g' s' a w ∧ SubI g.I g'.I ∧ (∀ k, 1000 ≤ k → g'.mu k = g.mu k) ∧ g'.tv = g.tv := by
  unfold fixB at hk
  split at hk
  rotate_left
  · exact hk.elim
  rename_i hp
  rw [Bool.and_eq_true] at hp
  obtain ⟨hp, hlt⟩ := hp
  have hlt : l < 1000 := by simpa [Nat.blt_eq] using hlt
  obtain ⟨b, hb, hbox, hmine⟩ := h.mem.box l d hl
  obtain ⟨c, et, fz, c1, c2, c3, c4⟩ := hbox
  obtain ⟨g', hg'⟩ : ∃ g' : Gh, g' = { I := fun x o => if x = b then c[o]? else g.I x o, mu := upd g.mu l none, tv := g.tv } := ⟨_, rfl⟩
  have I1 : ∀ o, g'.I b o = c[o]? := fun o => by rw [hg']; simp
  have I2 : ∀ x o, x ≠ b → g'.I x o = g.I x o := fun x o e => by rw [hg']; simp [e]
  have hs : SubI g.I g'.I := fun x o v e => by
    by_cases hx : x = b
    · subst hx; rw [h.mem.dis l x hb o] at e; cases e
    · rw [I2 x o hx]; exact e
  have ml : ∀ k, k ≠ l → g'.mu k = g.mu k := fun k e => by rw [hg']; exact upd_ne _ _ _ _ e
  have mn : g'.mu l = none := by rw [hg']; exact upd_eq _ _ _
  have cl : ∀ o v, c[o]? = some v → w.cell? ⟨b, o, none⟩ = some v ∧ leaf v = true := fun o v e => by
    refine ⟨(cell_blk c1).trans e, ?_⟩
    have : o < (cells d).length := by rw [← c3]; exact (Array.getElem?_eq_some_iff.1 e).1
    obtain ⟨x, hx⟩ := nth_lt this
    exact (c4 o v x e hx).2
  have cells' : Cells g'.I w := fun x o v e => by
    by_cases hx : x = b
    · subst hx; rw [I1] at e; exact cl o v e
    · rw [I2 x o hx] at e; exact h.mem.iw x o v e
  have pc : ∀ j x, nth (cells d) j = some x → pureD x = true := fun j x hx => by
    cases d with
    | agg cs => exact (pureGo_cell cs hp j x hx).1
    | _ =>
      cases j with
      | zero => simp [nth, cells] at hx; subst hx; exact hp
      | succ j => simp [nth, cells] at hx
  have imm : ∀ off, RepI g'.I (.pointer (some ⟨b, off, none⟩)) (.imm d off) := fun off => by
    have := RepI.imm (I := g'.I) b 0 off d (fun j => (c[j]?).getD undef) (fun j x hx => by
        have : j < c.size := by rw [c3]; exact lt_of_nth hx
        rw [I1]; simp [this]) (fun j x hx => by
        have hj : j < c.size := by rw [c3]; exact lt_of_nth hx
        have e : c[j]? = some c[j] := by simp [hj]
        rw [e]; exact (c4 j _ x e hx).2) (fun j x hx => by
        have hj : j < c.size := by rw [c3]; exact lt_of_nth hx
        have e : c[j]? = some c[j] := by simp [hj]
        rw [e]; exact (pure_rep (pc j x hx) (c4 j _ x e hx).1).mono hs)
    rwa [Nat.zero_add] at this
  have fc : ∀ v x, leaf v = true ∨ (∀ cs, x ≠ .agg cs) → (∀ ds, x ≠ .tup ds) → Rep g v x → Rep g' v (fixC l d x) := fun v x hv ht r => by
    cases x with
    | ptr k off =>
      obtain ⟨b', e1, e2⟩ := r.ptr_val
      simp only [fixC]
      cases hkl : Nat.beq k l with
      | true =>
        have := Nat.eq_of_beq_eq_true hkl
        subst this
        rw [hb] at e1; cases e1
        subst e2
        exact .pure (imm off)
      | false =>
        have hne : k ≠ l := fun e => by subst e; simp at hkl
        subst e2
        exact .ptr (by rw [ml k hne]; exact e1)
    | vptr k off =>
      obtain ⟨b', e1, e2⟩ := r.vptr_val
      simp only [fixC]
      cases hkl : Nat.beq k l with
      | true => subst e2; exact .pure (.any _ rfl)
      | false =>
        have hne : k ≠ l := fun e => by subst e; simp at hkl
        subst e2
        exact .vptr (by rw [ml k hne]; exact e1)
    | clo f x y =>
      simp only [fixC]
      split
      · rename_i hpp
        exact .pure ((pure_rep hpp r).mono hs)
      · obtain ⟨vf, vc, e, _⟩ := r.clo_val
        subst e
        exact .pure (.any _ rfl)
    | ref k n =>
      obtain ⟨t, e1, e2, e3, e4⟩ := r.ref_val
      exact .ref t (by rw [hg']; exact e1) e2 e3 e4
    | eptr k n i off =>
      cases r with
      | pure r => cases r
      | eptr t e1 e2 e3 e4 e5 => exact .eptr t (by rw [hg']; exact e1) e2 e3 e4 e5
    | tup ds => exact absurd rfl (ht _)
    | agg cs =>
      rcases hv with hv | hv
      · have : ∃ vs, v = .agg vs := by
          cases r with
          | pure r => cases r; exact ⟨_, rfl⟩
          | agg => exact ⟨_, rfl⟩
        obtain ⟨vs, rfl⟩ := this
        cases hv
      · exact absurd rfl (hv _)
    | sl z es bb =>
      cases r with
      | pure r => exact .pure (r.mono hs)
    | any => cases r with | pure r => exact .pure (r.mono hs)
    | _ => exact .pure ((pure_rep rfl r).mono hs)
  refine ⟨_, g', hk, ⟨fun t x ht => ?_, h.size, h.defers, ?_⟩, hs, fun k hk => ml k (by omega), by rw [hg']⟩
  · dsimp only at ht
    split at ht
    rotate_left
    · cases ht
    rename_i y hy
    have r := h.env t y hy
    have other : (∀ cs, y ≠ .agg cs) → (∀ ds, y ≠ .tup ds) → fixE l d y = some (fixC l d y) → Rep g' (a.tmps.getD t undef) x := fun h1 h2 h3 => by
      rw [h3] at ht; cases ht
      exact fc _ y (.inr h1) h2 r
    cases y with
    | clo f x1 y1 =>
      simp only [fixE] at ht
      split at ht
      · rename_i hok
        cases ht
        rw [Bool.and_eq_true, List.all_eq_true, List.all_eq_true] at hok
        obtain ⟨vf, vc, e, k1, k2, k3, k4⟩ := r.clo_val
        rw [e]
        have one : ∀ v z, okC z = true → Rep g v z → Rep g' v (fixC l d z) := fun v z hz rz => by
          refine fc v z (.inr fun cs e => ?_) (fun ds e => ?_) rz
          · subst e; simp [okC] at hz
          · subst e; simp [okC, pureD] at hz
        refine .clo (by rw [k1]; simp) (by rw [k2]; simp) (fun i v z hv hz => ?_) (fun i v z hv hz => ?_)
        · rw [nth_map] at hz
          cases hq : nth x1 i with
          | none => rw [hq] at hz; cases hz
          | some q => rw [hq] at hz; cases hz; exact one v q (hok.1 q (mem_of_nth' hq)) (k3 i v q hv hq)
        · rw [nth_map] at hz
          cases hq : nth y1 i with
          | none => rw [hq] at hz; cases hz
          | some q => rw [hq] at hz; cases hz; exact one v q (hok.2 q (mem_of_nth' hq)) (k4 i v q hv hq)
      · cases ht
    | agg cs =>
      simp only [fixE] at ht
      split at ht
      · rename_i hpp
        cases ht
        exact .pure ((pure_rep hpp r).mono hs)
      · cases ht
    | tup ds => cases ht
    | _ => exact other (by intro cs e; cases e) (by intro cs e; cases e) rfl
  · have ext_row : ∀ {v : Value} {x : Dat}, RepI g.I v x → RepI g'.I v x := fun r => r.mono hs
    refine ⟨cells', fun u x hx => ?_, fun u b' hu => ?_, fun u v b' h1 h2 => ?_, fun u b' hu o => ?_, fun k r hr => ?_, fun k t hk => ?_, fun k j t u b' h1 h2 h3 h4 => ?_, fun x o v e => ?_, ?_, h.mem.new⟩
    · dsimp only at hx
      cases hul : Nat.beq u l with
      | true => rw [hul] at hx; cases hx
      | false =>
        rw [hul] at hx
        dsimp only [cond] at hx
        have hne : u ≠ l := fun e => by subst e; simp at hul
        split at hx
        rotate_left
        · cases hx
        rename_i y hy
        cases hx
        obtain ⟨b2, p1, p2, p3⟩ := h.mem.box u y hy
        obtain ⟨cc, t2, fz2, q1, q2, q3, q4⟩ := p2
        refine ⟨b2, by rw [ml u hne]; exact p1, ⟨cc, t2, fz2, q1, q2, by rw [q3, fixH_cells]; simp, fun i v z hv hz => ?_⟩, p3⟩
        rw [fixH_cells, nth_map] at hz
        cases hq : nth (cells y) i with
        | none => rw [hq] at hz; cases hz
        | some q =>
          rw [hq] at hz; cases hz
          obtain ⟨r1, r2⟩ := q4 i v q hv hq
          refine ⟨fc v q (.inl r2) (fun ds e => ?_) r1, r2⟩
          subst e
          obtain ⟨vs, e, _⟩ := r1.tup_val
          subst e; cases r2
    · have hne : u ≠ l := fun e => by subst e; rw [mn] at hu; cases hu
      rw [ml u hne] at hu
      obtain ⟨x, hx⟩ := h.mem.nobox u b' hu
      have : Nat.beq u l = false := beq_ne hne
      exact ⟨fixH l d x, by dsimp only; rw [this]; dsimp only [cond]; rw [hx]⟩
    · have n1 : u ≠ l := fun e => by subst e; rw [mn] at h1; cases h1
      have n2 : v ≠ l := fun e => by subst e; rw [mn] at h2; cases h2
      rw [ml u n1] at h1; rw [ml v n2] at h2
      exact h.mem.inj u v b' h1 h2
    · have n1 : u ≠ l := fun e => by subst e; rw [mn] at hu; cases hu
      rw [ml u n1] at hu
      have hbb : b' ≠ b := fun e => by subst e; exact n1 (h.mem.inj u l b' hu hb)
      rw [I2 b' o hbb]; exact h.mem.dis u b' hu o
    · obtain ⟨t, t1, t2, t3, t4, t5⟩ := h.mem.row k r hr
      refine ⟨t, by rw [hg']; exact t1, t2, t3, t4, ?_⟩
      unfold RowAt at *
      cases hbase : t.base with
      | none => rw [hbase] at t5; exact t5
      | some b2 =>
        rw [hbase] at t5
        obtain ⟨y1, y2, y3, cc, e2, fz2, y4, y5, y6, y7, y8, y9⟩ := t5
        have hbb : b2 ≠ b := fun e => by subst e; exact y3 l hb
        refine ⟨y1, y2, fun u hu => ?_, cc, e2, fz2, y4, y5, y6, fun j hj => by rw [I2 b2 j hbb]; exact y7 j hj, fun ho j => by rw [I2 b2 j hbb]; exact y8 ho j, fun j z hz => ?_⟩
        · have n1 : u ≠ l := fun e => by subst e; rw [mn] at hu; cases hu
          rw [ml u n1] at hu; exact y3 u hu
        · obtain ⟨v, v1, v2, v3, v4⟩ := y9 j z hz
          exact ⟨v, v1, v2.mono hs, v3, fun ho => by rw [I2 b2 j hbb]; exact v4 ho⟩
    · rw [hg'] at hk; exact h.mem.norow k t hk
    · rw [hg'] at h1 h2; exact h.mem.rdis k j t u b' h1 h2 h3 h4
    · by_cases hx : x = b
      · subst hx; exact .inr hmine
      · rw [I2 x o hx] at e; exact h.mem.newI x o v e
    · exact cx.st _ _ _ _ h.mem.frame hs (Frame.refl w _) cells' h.mem.new
theorem fixes_sound {cx : Cx} {a : Act} {w : World} : ∀ {ls : List Nat} {g : Gh} {s : St} (_ : Rel cx g s a w) {K : St → Prop} (_ : fixes ls s K),
    ∃ s' g', K s' ∧ Rel cx g' s' a w ∧ SubI g.I g'.I ∧ (∀ k, 1000 ≤ k → g'.mu k = g.mu k) ∧ g'.tv = g.tv
  | [], g, s, h, K, hk => ⟨s, g, hk, h, fun _ _ _ e => e, fun _ _ => rfl, rfl⟩
  | l :: ls, g, s, h, K, hk => by
    rw [fixes_cons] at hk
    split at hk
    · rename_i d hd
      obtain ⟨s1, g1, k1, h1, e1, e2, e3⟩ := fixB_sound h hd hk
      obtain ⟨s2, g2, k2, h2, f1, f2, f3⟩ := fixes_sound h1 k1
      exact ⟨s2, g2, k2, h2, fun _ _ _ e => f1 _ _ _ (e1 _ _ _ e), fun k hk => (f2 k hk).trans (e2 k hk), f3.trans e3⟩
    · exact hk.elim
theorem fn_sound {P : Program} (hm : P.follows .mixedOrders = true) {cf : Cfg} (hok : CfgOk P cf) {f : FuncId} {fn : Func} (hf : P.funcs[f]? = some fn)
    {fs : List Bool} {args : List Dat} {m : Ct} {r : Dat} {m' : Ct} (hB : fnB P fn args.length = true) (hx : exF P cf fs fn args m r m') : CallsA P f args m r m' := by
  unfold fnB at hB
  simp only [Bool.and_eq_true] at hB
  obtain ⟨⟨⟨hB1, hB2⟩, hB3⟩, hB4⟩ := hB
  unfold exF at hx
  cases hbody : fn.body with
  | none => rw [hbody] at hx; exact hx.elim
  | some c =>
    rw [hbody] at hx hB1
    dsimp only at hx hB1
    refine ⟨⟨fn, hf, by rw [hbody]; rfl, by simpa using hB2⟩, fun γ w vs hsz hrep hmem => ?_⟩
    have hle : args.length ≤ fn.ntmps := Nat.le_of_ble_eq_true hB3
    have hrel : Rel (Cx.of fn.ntmps γ.X w γ.I) γ (init args m) { tmps := vs ++ Array.replicate (fn.ntmps - vs.size) undef, defers := [] } w := by
      refine ⟨fun t d ht => ?_, by simp [Cx.of]; omega, rfl, ⟨hmem.iw, hmem.box, hmem.nobox, hmem.inj, hmem.dis, hmem.row, hmem.norow, hmem.rdis, hmem.newI, hmem.frame, hmem.new⟩⟩
      have ht' : argEnv args 0 (fun _ => none) t = some d := ht
      rw [argEnv_eq] at ht'
      split at ht'
      · rename_i hlt
        have hlt' : t < vs.size := by omega
        have e : (vs ++ Array.replicate (fn.ntmps - vs.size) undef).getD t undef = vs[t] := by
          simp [Array.getD, show t < vs.size + (fn.ntmps - vs.size) by omega, hlt']
        show Rep γ ((vs ++ Array.replicate (fn.ntmps - vs.size) undef).getD t undef) d
        rw [e]
        exact hrep t _ d (by simp [hlt']) (by simpa using ht')
      · cases ht'
    refine (callsIn_wide (n := 0)).1 (callsIn_of_wp_marks (F := FW none) hf hbody trivial (ex_sound hm hok (M := none) (cx := Cx.of fn.ntmps γ.X w γ.I) c hB1 (.inr rfl) _ _ γ _ w _ hx hrel rfl (init_nm _ _) fun e s' cx' g' a' w' k1 k2 k3 k4 k5 k6 => ?_))
    have fin : ∀ {e : Go.Exit}, (e = .normal ∨ e = .ret) → (fixes cf.fix s' fun s => fin P fs s fn.results.toList m.H.length m.R.length r m') →
        bodyPostM (FW none) 0 P fn (fun e w' => match e with
          | .returned v => ∃ γ', Ext γ γ' ∧ Rep γ' v r ∧ Mem (Cx.of 0 γ.X w γ.I) γ' (init [] m') w'
          | _ => False) e a' w' := fun {e} he hk => by
      obtain ⟨bs, b1, b2, b3, b4⟩ := k3.D rfl w.heap.size (fun I w' (hw : Frame w w' γ.X) => hw.size) ⟨[], rfl, List.nodup_nil, (fun _ _ _ b hb => (by cases hb)), fun b hb => (by cases hb)⟩
      have hf0 : Frame w w' γ.X := k3.fr rfl _ _ k6.mem.frame
      have hb3 := b3 _ _ k6.mem.frame
      have hn0 : cx'.n = fn.ntmps := k3.n
      have nobs : ∀ b o v, g'.I b o = some v → b ∉ bs := fun b o v e hb => by
        obtain ⟨_, _, _, h⟩ := cell_obj (k6.mem.iw b o v e).1 (hb3 b hb).2
        cases h
      have cl : Cells g'.I (shut w' bs) := fun b o v e => ⟨(cell_same (shut_other bs w' b (nobs b o v e))).trans (k6.mem.iw b o v e).1, (k6.mem.iw b o v e).2⟩
      have fr1 : Frame w (shut w' bs) γ.X := by
        have h1 := shut_frame bs w'
        refine ⟨h1.os.trans hf0.os, h1.tape.trans hf0.tape, h1.output.trans hf0.output, by rw [shut_size]; exact hf0.size, fun b hb hX => ?_⟩
        rw [shut_other bs w' b (fun hm => by have := (hb3 b hm).1; omega)]
        exact hf0.block b hb hX
      have rel1 : Rel (Cx.of fn.ntmps γ.X w γ.I) g' s' { a' with defers := [] } (shut w' bs) := by
        refine ⟨k6.env, by rw [← hn0]; exact k6.size, rfl, ?_⟩
        exact k6.mem.after (I' := g'.I) (fun _ _ _ e => e) cl (fun b _ hb => shut_other bs w' b (fun hm => b4 b hm hb)) (fun b o v e _ _ => e) (fun b _ hb => k3.mine rfl b hb)
          (fun b o v e => (k6.mem.newI b o v e).imp (fun q => by rw [← k3.I0 rfl]; exact q) (k3.mine rfl b)) fr1 (fun b hb => by rw [shut_size] at hb; exact k3.mine rfl b (k6.mem.new b hb))
      obtain ⟨s2, g2, h1, h2, h3, h4, h5⟩ := fixes_sound rel1 hk
      have hmu : ∀ l b, γ.mu l = some b → g2.mu l = some b := fun l b e => by
        obtain ⟨d, hd⟩ := hmem.nobox l b e
        have : boxArgs m.H 1000 (fun _ => none) l = some d := hd
        rw [box_at] at this
        split at this
        · rename_i hle; rw [h4 l hle]; exact k5.mu l b e
        · cases this
      have hext : Ext γ g2 := ⟨fun b o v e => h3 _ _ _ (k5.I _ _ _ e), hmu, fun k t e => by rw [h5]; exact k5.tv k t e⟩
      obtain ⟨v, v1, v2⟩ := fin_sound (P := P) h2 hext hmem hB4 h1
      have hlv : LeavesInM (FW none) 0 P fn a'.tmps (fun e w' => match e with
          | .returned v => ∃ γ', Ext γ γ' ∧ Rep γ' v r ∧ Mem (Cx.of 0 γ.X w γ.I) γ' (init [] m') w'
          | _ => False) a'.defers .returning w' := by
        rw [k6.defers, b1]
        exact leave_marks bs w' b2 (fun b hb => (hb3 b hb).2) ⟨v, v1, v2⟩
      rcases he with rfl | rfl
      · exact hlv
      · exact hlv
    cases e with
    | exit id => exact k1.elim
    | normal => exact fin (.inl rfl) k1
    | ret => exact fin (.inr rfl) k1
theorem fnY_sound {P : Program} (hm : P.follows .mixedOrders = true) {cf : Cfg} (hok : CfgOk P cf) {f : FuncId} {fn : Func} (hf : P.funcs[f]? = some fn)
    {args : List Dat} {k : Nat} {Q : Dat → YS → Prop} (hB : fnB P fn args.length = true) (hR : noRF (fn.body.getD .skip) = true) (hx : exYF P cf fn args k Q) : CallsY P cf.l cf.xs f args k Q := by
  unfold fnB at hB
  simp only [Bool.and_eq_true] at hB
  obtain ⟨⟨⟨hB1, hB2⟩, hB3⟩, hB4⟩ := hB
  unfold exYF at hx
  cases hbody : fn.body with
  | none => rw [hbody] at hx; exact hx.elim
  | some c =>
    rw [hbody] at hx hB1 hR
    dsimp only at hx hB1
    refine ⟨⟨fn, hf, by rw [hbody]; rfl, by simpa using hB2⟩, fun h N I w vs hsz hrep hcells hI0 hnew hJ => ?_⟩
    have hle : args.length ≤ fn.ntmps := Nat.le_of_ble_eq_true hB3
    let M : Mode P cf := ⟨h, fn.ntmps, w, I, N⟩
    have hmem : Mem (h.cx fn.ntmps w I (.run k) N) ⟨I, fun _ => none, fun _ => none⟩ (init args ⟨[], []⟩) w :=
      ⟨hcells, fun l d hl => (by
        have : boxArgs [] 1000 (fun _ => none) l = some d := hl
        cases this), fun l b e => (by cases e), fun l m b e => (by cases e), fun l b e => (by cases e), fun l d hl => (by
        have : rowArgs [] 1000 (fun _ => none) l = some d := hl
        cases this), fun l b e => (by cases e), fun k j t u b e => (by cases e), fun b o v e => .inl e, ⟨hJ, Nat.le_refl _, fun _ _ _ => rfl⟩, fun b hb => ⟨hb, hnew b hb⟩⟩
    have hrel : Rel (h.cx fn.ntmps w I (.run k) N) ⟨I, fun _ => none, fun _ => none⟩ ((init args ⟨[], []⟩).at (.run k)) { tmps := vs ++ Array.replicate (fn.ntmps - vs.size) undef, defers := [] } w := by
      refine ⟨fun t d ht => ?_, by simp [Host.cx]; omega, rfl, hmem.names rfl rfl⟩
      have ht' : argEnv args 0 (fun _ => none) t = some d := ht
      rw [argEnv_eq] at ht'
      split at ht'
      · rename_i hlt
        have hlt' : t < vs.size := by omega
        have e : (vs ++ Array.replicate (fn.ntmps - vs.size) undef).getD t undef = vs[t] := by
          simp [Array.getD, show t < vs.size + (fn.ntmps - vs.size) by omega, hlt']
        show Rep _ ((vs ++ Array.replicate (fn.ntmps - vs.size) undef).getD t undef) d
        rw [e]
        exact .pure (hrep t _ d (by simp [hlt']) (by simpa using ht'))
      · cases ht'
    have hat : At M (h.cx fn.ntmps w I (.run k) N) (.run k) N := ⟨rfl, fun b o v e => ⟨cell_lt (hcells b o v e).1, hI0 b o v e⟩, fun b e => .inl e, fun b e => e⟩
    refine (callsIn_wide (n := 0)).1 (callsIn_of_wp_marks (F := FW none) hf hbody trivial (ex_sound hm hok (M := some M) (cx := h.cx fn.ntmps w I (.run k) N) c hB1 (.inl hR) ((init args ⟨[], []⟩).at (.run k)) _ ⟨I, fun _ => none, fun _ => none⟩ { tmps := vs ++ Array.replicate (fn.ntmps - vs.size) undef, defers := [] } w _ hx hrel ⟨M, N, rfl, hat⟩ (init_nm args ⟨[], []⟩) fun e s' cx' g' a' w' k1 k2 k3 k4 k5 k6 => ?_))
    have fin : ∀ {e : Go.Exit}, (e = .normal ∨ e = .ret) → finY P s' fn.results.toList Q →
        bodyPostM (FW none) 0 P fn (fun e w' => match e with
          | .returned v => ∃ r y N' I', Q r y ∧ (∀ b, N' b → N b ∨ (w.heap.size ≤ b ∧ b < w'.heap.size)) ∧ (∀ b, N b → N' b) ∧ SubI I I' ∧ Rep ⟨I', fun _ => none, fun _ => none⟩ v r ∧
            Cells I' w' ∧ (∀ b o v, I' b o = some v → I b o = some v ∨ (w.heap.size ≤ b ∧ ¬ N' b)) ∧ (∃ Ih, h.J y N' Ih w' ∧ SubI Ih I') ∧
            w.heap.size ≤ w'.heap.size ∧ ∀ b, b < w.heap.size → ¬ N' b → w'.heap[b]? = w.heap[b]?
          | _ => False) e a' w' := fun {e} he hk => by
      have hY : ∃ N', At M cx' s'.y N' := by
        have h0 := k4
        cases hy : s'.y with
        | off => rw [hy] at h0; cases h0
        | run k => rw [hy] at h0; obtain ⟨m, N', e, h1⟩ := h0; cases e; exact ⟨N', h1⟩
        | stop => rw [hy] at h0; obtain ⟨m, N', e, h1⟩ := h0; cases e; exact ⟨N', h1⟩
      obtain ⟨N', hA⟩ := hY
      have hcx := hA.cx
      unfold finY at hk
      split at hk
      · exact hk.elim
      rename_i ds hds
      obtain ⟨s2, ds2, g2, ⟨kl, hQ⟩, l2, n2, r2⟩ := leakAll_sound ds k6 (keep_leakAll hk)
      obtain ⟨v, v1, v2⟩ := results_run (P := P) k6 hB4 hds (g' := g2) (ls := []) (ks := []) n2 fun i d hd => by
        obtain ⟨d', e1, _, e2⟩ := r2 i d hd
        exact ⟨d', e1, fun v hv => .pure (e2 v hv)⟩
      have hfr := l2.rel.mem.frame
      have hnewm := l2.rel.mem.new
      have hnewI := l2.rel.mem.newI
      have hdef := l2.rel.defers
      rw [hcx] at hfr hnewm hnewI hdef
      obtain ⟨hJ', f2, f3⟩ := hfr
      have hx : Ext (g2.sub [] []) ⟨g2.I, fun _ => none, fun _ => none⟩ := by
        refine ⟨fun _ _ _ h => h, fun l b e => ?_, fun l t e => ?_⟩
        · have : (if 1000 ≤ l then (nth ([] : List Nat) (l - 1000)).bind g2.mu else none) = some b := e
          split at this <;> cases this
        · have : (if 1000 ≤ l then (nth ([] : List Nat) (l - 1000)).bind g2.tv else none) = some t := e
          split at this <;> cases this
      have res : ∃ v, (results fn a'.tmps).run P w' = .ok v w' ∧ ∃ r y N' I', Q r y ∧ (∀ b, N' b → N b ∨ (w.heap.size ≤ b ∧ b < w'.heap.size)) ∧ (∀ b, N b → N' b) ∧ SubI I I' ∧ Rep ⟨I', fun _ => none, fun _ => none⟩ v r ∧
            Cells I' w' ∧ (∀ b o v, I' b o = some v → I b o = some v ∨ (w.heap.size ≤ b ∧ ¬ N' b)) ∧ (∃ Ih, h.J y N' Ih w' ∧ SubI Ih I') ∧
            w.heap.size ≤ w'.heap.size ∧ ∀ b, b < w.heap.size → ¬ N' b → w'.heap[b]? = w.heap[b]? :=
        ⟨v, v1, _, s'.y, N', g2.I, by rw [← kl.y]; exact hQ, fun b e => (hA.up b e).imp id (fun q => ⟨q, by
            rcases Nat.lt_or_ge b w'.heap.size with z | z
            · exact z
            · exact absurd e (hnewm b z).2⟩), hA.lo, fun b o v e => l2.ext.I _ _ _ (k5.I _ _ _ e), v2.mono hx, l2.rel.mem.iw, fun b o v e => (hnewI b o v e).imp id id, hJ', f2, f3⟩
      have hlv : ∀ R : Ending → World → Prop, (∃ v, (results fn a'.tmps).run P w' = .ok v w' ∧ R (.returned v) w') → LeavesInM (FW none) 0 P fn a'.tmps R a'.defers .returning w' := fun R hR => by
        rw [hdef]
        exact hR
      rcases he with rfl | rfl
      · exact hlv _ res
      · exact hlv _ res
    cases e with
    | exit id => exact k1.elim
    | normal => exact fin (.inl rfl) k1
    | ret => exact fin (.inr rfl) k1
end Abs
namespace Abs
open Go
def cfA (P : Program) (byref : FuncId → Bool) (hint : Nat → List Ad := fun _ => []) (fix : List Nat := []) : Cfg := ⟨byref, CallsA P, hint, fix, 0, [], fun _ _ _ _ => False, IterA P⟩
def cfY (P : Program) (l : Nat) (xs : List (List Dat)) (byref : FuncId → Bool) (hint : Nat → List Ad := fun _ => []) : Cfg := ⟨byref, CallsA P, hint, [], l, xs, fun f args k outs => CallsY P l xs f args k fun r y => (r, y) ∈ outs, fun _ _ => False⟩
theorem fn_ok {P : Program} (hm : P.follows .mixedOrders = true) {f : FuncId} {fn : Func} (hf : P.funcs[f]? = some fn) (byref : FuncId → Bool) (fs : List Bool) (hint : Nat → List Ad)
    {args : List Dat} {m : Ct} {r : Dat} {m' : Ct} (hB : fnB P fn args.length = true) (hx : exF P (cfA P byref hint) fs fn args m r m') : CallsA P f args m r m' :=
  fn_sound hm ⟨fun _ _ _ _ _ h => h, fun _ _ _ _ h => False.elim h, fun _ _ h => h⟩ hf hB hx
theorem fn_fix {P : Program} (hm : P.follows .mixedOrders = true) {f : FuncId} {fn : Func} (hf : P.funcs[f]? = some fn) (byref : FuncId → Bool) (fs : List Bool) (hint : Nat → List Ad) (fix : List Nat)
    {args : List Dat} {m : Ct} {r : Dat} {m' : Ct} (hB : fnB P fn args.length = true) (hx : exF P (cfA P byref hint fix) fs fn args m r m') : CallsA P f args m r m' :=
  fn_sound hm ⟨fun _ _ _ _ _ h => h, fun _ _ _ _ h => False.elim h, fun _ _ h => h⟩ hf hB hx
theorem fn_y {P : Program} (hm : P.follows .mixedOrders = true) {l : Nat} {xs : List (List Dat)} {f : FuncId} {fn : Func} (hf : P.funcs[f]? = some fn) (byref : FuncId → Bool) (hint : Nat → List Ad)
    {args : List Dat} {k : Nat} {Q : Dat → YS → Prop} (hB : fnB P fn args.length = true) (hR : noRF (fn.body.getD .skip) = true) (hx : exYF P (cfY P l xs byref hint) fn args k Q) : CallsY P l xs f args k Q :=
  fnY_sound (cf := cfY P l xs byref hint) hm ⟨fun _ _ _ _ _ h => h, fun _ _ _ _ h => h, fun _ _ h => h.elim⟩ hf hB hR hx
theorem wrap_i64 {x : Int} (h1 : -(2^63) ≤ x) (h2 : x < 2^63) : IntKind.i64.wrap x = x := by
  simp [IntKind.wrap, IntKind.bits, IntKind.signed, Int.bmod_def]
  omega
theorem Arith.i64 {x : Int} {K : Int → Prop} (h1 : -(2^63) ≤ x) (h2 : x < 2^63) (h : K x) : Arith .i64 x K := ⟨by rw [wrap_i64 h1 h2]; exact h⟩
theorem Arith.to {x y : Int} {K : Int → Prop} (e : x = y) (h1 : -(2^63) ≤ y) (h2 : y < 2^63) (h : K y) : Arith .i64 x K := by subst e; exact .i64 h1 h2 h
theorem Idx.at {n : Nat} {es : List Dat} {i : Int} {K : Dat → Prop} {d : Dat} (h1 : n = es.length) (h2 : 0 ≤ i) (h3 : nth es i.toNat = some d) (h : K d) : Idx n es i K := ⟨d, h1, h2, h3, h⟩
theorem nth_get {α : Type} {l : List α} {i : Nat} (h : i < l.length) : nth l i = some l[i] := by rw [nth_eq]; simp [h]
theorem call_ok {P : Program} {f : FuncId} {args : List Dat} {m : Ct} {K : Dat → Ct → Prop} {r : Dat} {m' : Ct} (h : CallsA P f args m r m') (k : K r m') : CallS P (CallsA P) f args m K := ⟨r, m', h, k⟩
theorem Idx.map {α : Type} {xs : List α} {f : α → Dat} {k : Nat} {n : Nat} {K : Dat → Prop} (hk : k < xs.length) (hn : n = (xs.map f).length) (h : K (f xs[k])) : Idx n (xs.map f) (k : Int) K :=
  ⟨f xs[k], hn, by omega, by rw [nth_map, show ((k : Int).toNat) = k from rfl, nth_get hk]; rfl, h⟩
theorem HeadS.nat {W : List Nat} {body : St → (Out → St → Prop) → Prop} {K : Out → St → Prop} {s : St} (n : Nat) (J : Nat → Prop) (m : Nat → Mods) (h0 : J 0) (hh : Holds s (s.with W (m 0)) (m 0))
    (hd : deadH s W = true) (hr : deadR s (rowDsts W) = true) (ht : ∀ k, tidy W (rowDsts W) (m k) = true ∧ liveH s (m k).H = true ∧ liveR s (m k).R = true)
    (hb : ∀ k, k ≤ n → J k → body (s.with W (m k)) fun e s' => match e with
        | .normal => ∃ j : { k // k ≤ n ∧ J k }, n - j.1 < n - k ∧ s'.y = s.y ∧ Holds s' (s.with W (m j.1)) (m j.1)
        | e => K e s') : HeadS W body K s :=
  ⟨{ k // k ≤ n ∧ J k }, ⟨0, Nat.zero_le _, h0⟩, fun k => m k.1, fun _ => s.y, fun k => n - k.1, ⟨rfl, hh⟩, hd, hr, fun k => ⟨ht k.1, hb k.1 k.2.1 k.2.2⟩⟩
theorem next_round {n : Nat} {J : Nat → Prop} {m : Nat → Mods} {W : List Nat} {s s' : St} {k : Nat} (h1 : k < n) (h2 : J (k + 1)) (hy : s'.y = s.y) (h3 : Holds s' (s.with W (m (k + 1))) (m (k + 1))) :
    ∃ j : { k // k ≤ n ∧ J k }, n - j.1 < n - k ∧ s'.y = s.y ∧ Holds s' (s.with W (m j.1)) (m j.1) := ⟨⟨k + 1, h1, h2⟩, by simp only; omega, hy, h3⟩
theorem HeadS.natY {W : List Nat} {body : St → (Out → St → Prop) → Prop} {K : Out → St → Prop} {s : St} (n : Nat) (J : Nat → Prop) (ys : Nat → YS) (m : Nat → Mods) (h0 : J 0) (hy : ys 0 = s.y) (hh : Holds s (s.with W (m 0)) (m 0))
    (hd : deadH s W = true) (hr : deadR s (rowDsts W) = true) (ht : ∀ k, tidy W (rowDsts W) (m k) = true ∧ liveH s (m k).H = true ∧ liveR s (m k).R = true)
    (hb : ∀ k, k ≤ n → J k → body ((s.with W (m k)).at (ys k)) fun e s' => match e with
        | .normal => ∃ j : { k // k ≤ n ∧ J k }, n - j.1 < n - k ∧ s'.y = ys j.1 ∧ Holds s' (s.with W (m j.1)) (m j.1)
        | e => K e s') : HeadS W body K s :=
  ⟨{ k // k ≤ n ∧ J k }, ⟨0, Nat.zero_le _, h0⟩, fun k => m k.1, fun k => ys k.1, fun k => n - k.1, ⟨hy, hh⟩, hd, hr, fun k => ⟨ht k.1, hb k.1 k.2.1 k.2.2⟩⟩
theorem RoundS.nat {It : Dat → List (List Dat) → Prop} {W ps : List Nat} {f : Dat} {asg body : St → (Out → St → Prop) → Prop} {K : Out → St → Prop} {s : St} (xs : List (List Dat)) (J : Nat → Prop) (m : Nat → Mods)
    (hI : It f xs) (hl : ∀ x ∈ xs, x.length = ps.length) (h0 : J 0) (hh : Holds s (s.with W (m 0)) (m 0)) (hd : deadH s W = true) (hr : deadR s (rowDsts W) = true)
    (ht : ∀ k, tidy W (rowDsts W) (m k) = true ∧ liveH s (m k).H = true ∧ liveR s (m k).R = true ∧ (m k).env = [])
    (hb : ∀ k x, nth xs k = some x → J k → asg ((s.with W (m k)).params ps x) fun e s1 => match e with
        | .normal => body s1 fun e s' => match e with
          | .normal => ∃ j : { k // J k }, j.1 = k + 1 ∧ Holds s' (s.with W (m j.1)) (m j.1)
          | e => K e (s'.back (Hide W s.env))
        | _ => False)
    (he : J xs.length → K .normal (s.with W (m xs.length))) : RoundS It W ps f asg body K s := by
  refine ⟨xs, { k // J k }, ⟨0, h0⟩, fun k => m k.1, fun k => k.1, hI, hl, rfl, hh, hd, hr, fun k => ⟨ht k.1, fun x hx => hb k.1 x hx k.2, fun e => ?_⟩⟩
  have e' : k.1 = xs.length := e
  have h1 := k.2
  rw [e'] at h1
  show K .normal (s.with W (m k.1))
  rw [e']; exact he h1
end Abs
namespace Abs
open Go
theorem yesBr {b : Bool} {X Y : Prop} (h : b = true) (x : X) : Br b X Y := ⟨fun _ => x, fun e => (by rw [h] at e; cases e)⟩
theorem noBr {b : Bool} {X Y : Prop} (h : b = false) (y : Y) : Br b X Y := ⟨fun e => (by rw [h] at e; cases e), fun _ => y⟩
theorem wrapU8 {y : Int} (h1 : 0 ≤ y) (h2 : y < 256) : IntKind.u8.wrap y = y := by simp [IntKind.wrap, IntKind.signed, IntKind.bits]; omega
theorem Arith.u8to {x y : Int} {K : Int → Prop} (e : x = y) (h1 : 0 ≤ y) (h2 : y < 256) (h : K y) : Arith .u8 x K := by
  subst e; exact ⟨by rw [wrapU8 h1 h2]; exact h⟩
structure ChkL (b : Bool) : Prop where
  h : b = true
theorem build_id {α : Type} : ∀ (l : List α) (K : List α → Prop), build l K → K l
  | [], _, h => h
  | x :: l, K, h => build_id l (fun ys => K (x :: ys)) h
def bare (r : Rec) : Rec := ⟨r.rh, r.wh, r.rr, r.wr, [], []⟩
theorem indepB_bare (ops : List Oper) (rs : List Rec) : indepB ops (rs.map bare) = indepB ops rs := by
  unfold indepB
  dsimp only
  congr 1
  funext j
  rw [nth_map]
  congr 1
  cases nth ops j with
  | none => rfl
  | some oj =>
    cases nth rs j with
    | none => rfl
    | some rj =>
      cases nth (befores ops []) j with
      | none => rfl
      | some bj =>
        dsimp only [Option.map]
        congr 1
        funext i
        rw [nth_map]
        cases nth ops i with
        | none => rfl
        | some oi => cases nth rs i <;> rfl
def layRec (r : Rec) (K : Rec → Prop) : Prop :=
  build r.rh fun a => build r.wh fun b => build r.rr fun c => build r.wr fun d => K ⟨a, b, c, d, [], []⟩
theorem layRec_id {r : Rec} {K : Rec → Prop} (h : layRec r K) : K (bare r) :=
  build_id r.wr _ (build_id r.rr _ (build_id r.wh _ (build_id r.rh _ h)))
def layAll (l : List Rec) : (List Rec → Prop) → Prop :=
  List.rec (motive := fun _ => (List Rec → Prop) → Prop) (fun K => K []) (fun r _ ih K => layRec r fun r' => ih fun rs => K (r' :: rs)) l
theorem layAll_id : ∀ (l : List Rec) (K : List Rec → Prop), layAll l K → K (l.map bare)
  | [], _, h => h
  | r :: l, K, h => layAll_id l (fun rs => K (bare r :: rs)) (layRec_id (r := r) (K := fun r' => layAll l fun rs => K (r' :: rs)) h)
theorem Chk.lay {ops : List Oper} {rs : List Rec} {K : Prop} (h : layAll rs fun rs' => ChkL (indepB ops rs')) (k : K) : Chk (indepB ops rs) K := ⟨by rw [← indepB_bare]; exact (layAll_id rs _ h).h, k⟩
structure Rest (R : Prop) : Prop where
  out : R
theorem run {G R : Prop} (r : R) (h : Rest R → G := by
    intro h
    (repeat ((conv => whnf); first
      | ((with_reducible refine Need.mk ?_ ?_); (first | exact rfl | assumption | omega | (refine ⟨rfl, ?_⟩; simp <;> omega) | (simp <;> omega)))
      | ((with_reducible refine Chk.lay ?_ ?_); (conv => whnf); (with_reducible refine ChkL.mk ?_); kernel_rfl)
      | ((with_reducible refine Chk.mk ?_ ?_); kernel_rfl)
      | ((with_reducible refine yesBr ?_ ?_); (first | assumption | exact rfl | decide))
      | ((with_reducible refine noBr ?_ ?_); (first | assumption | exact rfl | decide))
      | ((with_reducible refine Arith.to (by assumption) ?_ ?_ ?_); omega; omega)
      | ((with_reducible refine Arith.i64 ?_ ?_ ?_); omega; omega)
      | ((with_reducible refine Arith.u8to (by assumption) ?_ ?_ ?_); omega; omega)))
    exact h.out) : G := h ⟨r⟩
theorem HeadS.lp {W : List Nat} {body : St → (Out → St → Prop) → Prop} {K : Out → St → Prop} {s : St} {ι : Type} (J : ι → Prop) (m : ι → Mods) (μ : ι → Nat) (i0 : ι) (h0 : J i0)
    (hb : ∀ i, J i → body (s.with W (m i)) fun e s' => match e with
        | .normal => ∃ j : { i // J i }, μ j.1 < μ i ∧ s'.y = s.y ∧ Holds s' (s.with W (m j.1)) (m j.1)
        | e => K e s')
    (hh : Holds s (s.with W (m i0)) (m i0) := by repeat' (first | exact trivial | exact rfl | refine ⟨?_, ?_⟩ | refine ⟨?_, ?_, ?_⟩))
    (hd : deadH s W = true := by kernel_rfl) (hr : deadR s (rowDsts W) = true := by kernel_rfl)
    (ht : ∀ i, tidy W (rowDsts W) (m i) = true ∧ liveH s (m i).H = true ∧ liveR s (m i).R = true := by intro k; exact ⟨rfl, rfl, rfl⟩) : HeadS W body K s :=
  ⟨{ i // J i }, ⟨i0, h0⟩, fun i => m i.1, fun _ => s.y, fun i => μ i.1, ⟨rfl, hh⟩, hd, hr, fun i => ⟨ht i.1, hb i.1 i.2⟩⟩
end Abs
namespace Abs
open Go Go.Proofs
theorem hm : Tryz.prog.follows .mixedOrders = true := by kernel_rfl
def it (n : Int) : Dat := .int .i64 n
def u8 (n : Int) : Dat := .int .u8 n
def bo (b : Bool) : Dat := .bool b
def lst {α : Type} (sz : Nat) (f : α → Dat) (xs : List α) : Dat := .sl sz (xs.map f) false
def ints (xs : List Int) : Dat := .sl 1 (xs.map it) false
def byt (xs : List UInt8) : Dat := .sl 1 (xs.map fun b => .int .u8 b.toNat) false
abbrev ct0 : Ct := ⟨[], []⟩
structure Rng where
  lo : Int
  hi : Int
  mask : Int
 deriving DecidableEq
def encR (r : Rng) : Dat := .agg [it r.lo, it r.hi, it r.mask]
inductive Ex where
  | mk (op n v : Int) (a : List Ex)
inductive Co where
  | mk (op : Int) (a : List Ex) (c : List Co)
inductive Sm where
  | mk (site op n m v : Int) (x y : Ex) (c : Co) (args : List Ex) (ptrs : List Int) (body els : List Sm)
def Ex.op : Ex → Int | .mk x _ _ _ => x
def Ex.n : Ex → Int | .mk _ x _ _ => x
def Ex.v : Ex → Int | .mk _ _ x _ => x
def Ex.a : Ex → List Ex | .mk _ _ _ x => x
def Co.op : Co → Int | .mk x _ _ => x
def Co.a : Co → List Ex | .mk _ x _ => x
def Co.c : Co → List Co | .mk _ _ x => x
def Sm.site : Sm → Int | .mk x _ _ _ _ _ _ _ _ _ _ _ => x
def Sm.op : Sm → Int | .mk _ x _ _ _ _ _ _ _ _ _ _ => x
def Sm.n : Sm → Int | .mk _ _ x _ _ _ _ _ _ _ _ _ => x
def Sm.m : Sm → Int | .mk _ _ _ x _ _ _ _ _ _ _ _ => x
def Sm.v : Sm → Int | .mk _ _ _ _ x _ _ _ _ _ _ _ => x
def Sm.x : Sm → Ex | .mk _ _ _ _ _ x _ _ _ _ _ _ => x
def Sm.y : Sm → Ex | .mk _ _ _ _ _ _ x _ _ _ _ _ => x
def Sm.c : Sm → Co | .mk _ _ _ _ _ _ _ x _ _ _ _ => x
def Sm.args : Sm → List Ex | .mk _ _ _ _ _ _ _ _ x _ _ _ => x
def Sm.ptrs : Sm → List Int | .mk _ _ _ _ _ _ _ _ _ x _ _ => x
def Sm.body : Sm → List Sm | .mk _ _ _ _ _ _ _ _ _ _ x _ => x
def Sm.els : Sm → List Sm | .mk _ _ _ _ _ _ _ _ _ _ _ x => x
mutual
def rE : Ex → List Dat
  | .mk op n v a => [it op, it n, it v, .sl 4 (encEs a) false]
def encEs : List Ex → List Dat
  | [] => []
  | e :: es => .agg (rE e) :: encEs es
end
def cE (e : Ex) : List Dat := [it e.op, it e.n, it e.v, .sl 4 (encEs e.a) false]
def encE (e : Ex) : Dat := .agg (cE e)
theorem rE_eq (e : Ex) : rE e = cE e := by cases e; simp [rE, cE, Ex.op, Ex.n, Ex.v, Ex.a]
theorem encEs_map : ∀ l, encEs l = l.map encE
  | [] => by simp [encEs]
  | e :: l => by simp [encEs, encE, rE_eq, encEs_map l]
mutual
def rC : Co → List Dat
  | .mk op a c => [it op, .sl 4 (encEs a) false, .sl 3 (encCs c) false]
def encCs : List Co → List Dat
  | [] => []
  | e :: es => .agg (rC e) :: encCs es
end
def cC (c : Co) : List Dat := [it c.op, .sl 4 (encEs c.a) false, .sl 3 (encCs c.c) false]
def encC (c : Co) : Dat := .agg (cC c)
theorem rC_eq (e : Co) : rC e = cC e := by cases e; simp [rC, cC, Co.op, Co.a, Co.c]
theorem encCs_map : ∀ l, encCs l = l.map encC
  | [] => by simp [encCs]
  | e :: l => by simp [encCs, encC, rC_eq, encCs_map l]
mutual
def rS : Sm → List Dat
  | .mk site op n m v x y c args ptrs body els => it site :: it op :: it n :: it m :: it v :: (cE x ++ (cE y ++ (cC c ++ [.sl 4 (encEs args) false, ints ptrs, .sl 20 (encSs body) false, .sl 20 (encSs els) false])))
def encSs : List Sm → List Dat
  | [] => []
  | e :: es => .agg (rS e) :: encSs es
end
def cS (s : Sm) : List Dat := it s.site :: it s.op :: it s.n :: it s.m :: it s.v :: (cE s.x ++ (cE s.y ++ (cC s.c ++ [.sl 4 (encEs s.args) false, ints s.ptrs, .sl 20 (encSs s.body) false, .sl 20 (encSs s.els) false])))
def encS (s : Sm) : Dat := .agg (cS s)
theorem rS_eq (e : Sm) : rS e = cS e := by cases e; simp [rS, cS, Sm.site, Sm.op, Sm.n, Sm.m, Sm.v, Sm.x, Sm.y, Sm.c, Sm.args, Sm.ptrs, Sm.body, Sm.els]
theorem encSs_map : ∀ l, encSs l = l.map encS
  | [] => by simp [encSs]
  | e :: l => by simp [encSs, encS, rS_eq, encSs_map l]
structure Ar where
  len : Int
  of' : Int
 deriving DecidableEq
def encA (a : Ar) : Dat := .agg [it a.len, it a.of']
structure Df where
  id : Int
  site : Int
  name : List UInt8
  firm : Int
  part : Int
  params : List Rng
  given : List Rng
  vars : Int
  refs : Int
  arrays : List Ar
  budget : Int
  body : List Sm
def cD (d : Df) : List Dat := [it d.id, it d.site, .str d.name, it d.firm, it d.part, lst 3 encR d.params, lst 3 encR d.given, it d.vars, it d.refs, lst 2 encA d.arrays, it d.budget, lst 20 encS d.body]
def encD (d : Df) : Dat := .agg (cD d)
structure Hd where
  id : Int
  firm : Int
  part : Int
  params : List Rng
  given : List Rng
def encH (h : Hd) : Dat := .agg [it h.id, it h.firm, it h.part, lst 3 encR h.params, lst 3 encR h.given]
structure Qu where
  cap : Int
  r : Rng
def encQ (q : Qu) : Dat := .agg [it q.cap, it q.r.lo, it q.r.hi, it q.r.mask]
structure Dc where
  globals : List Rng
  classes : List Rng
  queues : List Qu
  sinks : List Int
  locks : Int
  parts : Int
  firms : Int
def cDc (d : Dc) : List Dat := [lst 3 encR d.globals, lst 3 encR d.classes, lst 4 encQ d.queues, ints d.sinks, it d.locks, it d.parts, it d.firms]
structure Pg where
  d : Dc
  heads : List Hd
  defs : List Df
  threads : List Int
def cP (p : Pg) : List Dat := cDc p.d ++ [lst 5 encH p.heads, lst 12 encD p.defs, ints p.threads]
def encP (p : Pg) : Dat := .agg (cP p)
structure Ru where
  id : Int
  ver : Int
  firm : Int
  op : Int
  alo : Int
  ahi : Int
  blo : Int
  bhi : Int
  lo : Int
  hi : Int
 deriving DecidableEq
def encRu (r : Ru) : Dat := .agg [it r.id, it r.ver, it r.firm, it r.op, it r.alo, it r.ahi, it r.blo, it r.bhi, it r.lo, it r.hi]
structure Su where
  level : Int
  rules : List Ru
def encSu (s : Su) : Dat := .agg [it s.level, lst 10 encRu s.rules]
structure Pa where
  a : Int
  b : Int
  site : Int
 deriving DecidableEq
def encPa (p : Pa) : Dat := .agg [it p.a, it p.b, it p.site]
structure Sy where
  id : Int
  rlo : Int
  rhi : Int
  rm : Int
  rr : Int
  rmask : Int
  throws : Int
  locks : Int
  loads : Int
  pairs : List Pa
  cost : Int
 deriving DecidableEq
def encSy (s : Sy) : Dat := .agg [it s.id, it s.rlo, it s.rhi, it s.rm, it s.rr, it s.rmask, it s.throws, it s.locks, it s.loads, lst 3 encPa s.pairs, it s.cost]
structure Ne where
  id : Int
  body : List UInt8
  decl : List Int
  sums : List Sy
  rules : List Ru
  level : Int
 deriving DecidableEq
def cN (n : Ne) : List Dat := [it n.id, byt n.body, ints n.decl, lst 11 encSy n.sums, lst 10 encRu n.rules, it n.level]
def encN (n : Ne) : Dat := .agg (cN n)
theorem Br.yes {b : Bool} {X Y : Prop} (h : b = true) (x : X) : Br b X Y := ⟨fun _ => x, fun e => (by rw [h] at e; cases e)⟩
theorem Br.no {b : Bool} {X Y : Prop} (h : b = false) (y : Y) : Br b X Y := ⟨fun e => (by rw [h] at e; cases e), fun _ => y⟩
theorem take_next {α : Type} {xs ys : List α} {k : Nat} (h1 : k < xs.length) (h2 : k < ys.length) (h : xs.take k = ys.take k) (e : xs[k] = ys[k]) : xs.take (k+1) = ys.take (k+1) := by
  rw [List.take_add_one, List.take_add_one, h]
  simp [h1, h2, e]
theorem take_all {α : Type} {xs ys : List α} {k : Nat} (h1 : ¬ k < xs.length) (h2 : xs.length = ys.length) (h : xs.take k = ys.take k) : xs = ys := by
  rwa [List.take_of_length_le (by omega), List.take_of_length_le (by omega)] at h
theorem sameInts_ok (xs ys : List Int) (h : xs.length < 2^62) : CallsA Tryz.prog 13 [ints xs, ints ys] ct0 (bo (xs == ys)) ct0 := by
  refine fn_ok hm Tryz.func13 (fun _ => false) [] (fun _ => []) (by kernel_rfl) ?_
  refine Br.mk (fun h1 => ?_) (fun h1 => ?_)
  · refine Done.mk (congrArg Dat.bool ?_) rfl
    simp at h1
    exact (beq_eq_false_iff_ne.2 fun e => h1 (by rw [e])).symm
  · simp at h1
    refine LoopS.mk ⟨[], HeadS.nat xs.length (fun k => xs.take k = ys.take k) (fun k => ⟨[(5, it k)], [], []⟩) rfl ⟨⟨rfl, trivial⟩, trivial, trivial⟩ rfl rfl (fun k => ⟨rfl, rfl, rfl⟩) fun k hk hJ => ?_⟩
    refine Br.mk (fun h2 => ?_) (fun h2 => ?_)
    · simp at h2
      refine Idx.map h2 rfl ?_
      refine Idx.map (by omega) rfl ?_
      refine Chk.mk rfl ?_
      refine Br.mk (fun h3 => ?_) (fun h3 => ?_)
      · simp at h3
        refine Done.mk (congrArg Dat.bool ?_) rfl
        refine (beq_eq_false_iff_ne.2 fun e => h3 ?_).symm
        subst e; rfl
      · refine Arith.i64 (by omega) (by omega) ?_
        simp at h3
        exact ⟨⟨k + 1, h2, take_next h2 (by omega) hJ h3⟩, Nat.sub_lt_sub_left h2 (Nat.lt_succ_self k), rfl, ⟨rfl, trivial⟩, trivial, trivial⟩
    · refine Done.mk (congrArg Dat.bool ?_) rfl
      simp at h2
      rw [take_all (by omega) (by omega) hJ]; simp
end Abs
namespace Abs
open Go Go.Proofs
theorem encRu_eq_of {r s : Ru} (h : (!(r.id == s.id && (r.ver == s.ver && (r.firm == s.firm && (r.op == s.op && (r.alo == s.alo && (r.ahi == s.ahi && (r.blo == s.blo && (r.bhi == s.bhi && (r.lo == s.lo && (r.hi == s.hi && true))))))))))) = false) : r = s := by
  cases r; cases s; simp at h; simp [h]
theorem encRu_ne_of {r s : Ru} (h : (!(r.id == s.id && (r.ver == s.ver && (r.firm == s.firm && (r.op == s.op && (r.alo == s.alo && (r.ahi == s.ahi && (r.blo == s.blo && (r.bhi == s.bhi && (r.lo == s.lo && (r.hi == s.hi && true))))))))))) = true) : r ≠ s := by
  intro e; subst e; simp at h
theorem encPa_eq_of {r s : Pa} (h : (!(r.a == s.a && (r.b == s.b && (r.site == s.site && true)))) = false) : r = s := by
  cases r; cases s; simp at h; simp [h]
theorem encPa_ne_of {r s : Pa} (h : (!(r.a == s.a && (r.b == s.b && (r.site == s.site && true)))) = true) : r ≠ s := by
  intro e; subst e; simp at h
theorem equalInts_ok (xs ys : List Int) (h : xs.length < 2^62) : CallsA Tryz.prog 43 [ints xs, ints ys] ct0 (bo (xs == ys)) ct0 := by
  refine fn_ok hm Tryz.func43 (fun _ => false) [] (fun _ => []) (by kernel_rfl) ?_
  refine Br.mk (fun h1 => ?_) (fun h1 => ?_)
  · refine Done.mk (congrArg Dat.bool ?_) rfl
    simp at h1
    exact (beq_eq_false_iff_ne.2 fun e => h1 (by rw [e])).symm
  · simp at h1
    refine LoopS.mk ⟨[], HeadS.nat xs.length (fun k => xs.take k = ys.take k) (fun k => ⟨[(13, it k)], [], []⟩) rfl ⟨⟨rfl, trivial⟩, trivial, trivial⟩ rfl rfl (fun k => ⟨rfl, rfl, rfl⟩) fun k hk hJ => ?_⟩
    refine Br.mk (fun h2 => ?_) (fun h2 => ?_)
    · simp at h2
      refine Idx.map h2 rfl ?_
      refine Idx.map (by omega) rfl ?_
      refine Chk.mk rfl ?_
      refine Br.mk (fun h3 => ?_) (fun h3 => ?_)
      · refine Done.mk (congrArg Dat.bool ?_) rfl
        refine (beq_eq_false_iff_ne.2 fun e => ?_).symm
        subst e
        simp at h3
      · refine Arith.i64 (by omega) (by omega) ?_
        have h4 : xs[k] = ys[k] := by simp at h3; exact h3
        exact ⟨⟨k + 1, h2, take_next h2 (by omega) hJ h4⟩, Nat.sub_lt_sub_left h2 (Nat.lt_succ_self k), rfl, ⟨rfl, trivial⟩, trivial, trivial⟩
    · refine Done.mk (congrArg Dat.bool ?_) rfl
      simp at h2
      rw [take_all (by omega) (by omega) hJ]; simp
theorem equalRules_ok (xs ys : List Ru) (h : xs.length < 2^62) : CallsA Tryz.prog 46 [lst 10 encRu xs, lst 10 encRu ys] ct0 (bo (xs == ys)) ct0 := by
  refine fn_ok hm Tryz.func46 (fun _ => false) [] (fun _ => []) (by kernel_rfl) ?_
  refine Br.mk (fun h1 => ?_) (fun h1 => ?_)
  · refine Done.mk (congrArg Dat.bool ?_) rfl
    simp at h1
    exact (beq_eq_false_iff_ne.2 fun e => h1 (by rw [e])).symm
  · simp at h1
    refine LoopS.mk ⟨[], HeadS.nat xs.length (fun k => xs.take k = ys.take k) (fun k => ⟨[(13, it k)], [], []⟩) rfl ⟨⟨rfl, trivial⟩, trivial, trivial⟩ rfl rfl (fun k => ⟨rfl, rfl, rfl⟩) fun k hk hJ => ?_⟩
    refine Br.mk (fun h2 => ?_) (fun h2 => ?_)
    · simp at h2
      refine Idx.map h2 rfl ?_
      refine Idx.map (by omega) rfl ?_
      refine Chk.mk rfl ?_
      refine Br.mk (fun h3 => ?_) (fun h3 => ?_)
      · refine Done.mk (congrArg Dat.bool ?_) rfl
        refine (beq_eq_false_iff_ne.2 fun e => ?_).symm
        subst e
        exact encRu_ne_of h3 rfl
      · refine Arith.i64 (by omega) (by omega) ?_
        have h4 : xs[k] = ys[k] := by exact encRu_eq_of h3
        exact ⟨⟨k + 1, h2, take_next h2 (by omega) hJ h4⟩, Nat.sub_lt_sub_left h2 (Nat.lt_succ_self k), rfl, ⟨rfl, trivial⟩, trivial, trivial⟩
    · refine Done.mk (congrArg Dat.bool ?_) rfl
      simp at h2
      rw [take_all (by omega) (by omega) hJ]; simp
theorem equalPairs_ok (xs ys : List Pa) (h : xs.length < 2^62) : CallsA Tryz.prog 86 [lst 3 encPa xs, lst 3 encPa ys] ct0 (bo (xs == ys)) ct0 := by
  refine fn_ok hm Tryz.func86 (fun _ => false) [] (fun _ => []) (by kernel_rfl) ?_
  refine Br.mk (fun h1 => ?_) (fun h1 => ?_)
  · refine Done.mk (congrArg Dat.bool ?_) rfl
    simp at h1
    exact (beq_eq_false_iff_ne.2 fun e => h1 (by rw [e])).symm
  · simp at h1
    refine LoopS.mk ⟨[], HeadS.nat xs.length (fun k => xs.take k = ys.take k) (fun k => ⟨[(13, it k)], [], []⟩) rfl ⟨⟨rfl, trivial⟩, trivial, trivial⟩ rfl rfl (fun k => ⟨rfl, rfl, rfl⟩) fun k hk hJ => ?_⟩
    refine Br.mk (fun h2 => ?_) (fun h2 => ?_)
    · simp at h2
      refine Idx.map h2 rfl ?_
      refine Idx.map (by omega) rfl ?_
      refine Chk.mk rfl ?_
      refine Br.mk (fun h3 => ?_) (fun h3 => ?_)
      · refine Done.mk (congrArg Dat.bool ?_) rfl
        refine (beq_eq_false_iff_ne.2 fun e => ?_).symm
        subst e
        exact encPa_ne_of h3 rfl
      · refine Arith.i64 (by omega) (by omega) ?_
        have h4 : xs[k] = ys[k] := by exact encPa_eq_of h3
        exact ⟨⟨k + 1, h2, take_next h2 (by omega) hJ h4⟩, Nat.sub_lt_sub_left h2 (Nat.lt_succ_self k), rfl, ⟨rfl, trivial⟩, trivial, trivial⟩
    · refine Done.mk (congrArg Dat.bool ?_) rfl
      simp at h2
      rw [take_all (by omega) (by omega) hJ]; simp
theorem textOf_byt : ∀ (xs : List UInt8), textOf (xs.map fun b => .int .u8 b.toNat) = some xs
  | [] => rfl
  | x :: xs => by
    simp only [List.map_cons, textOf, textOf_byt xs]
    simp
theorem bytesEqual_ok (xs ys : List UInt8) : CallsA Tryz.prog 42 [byt xs, byt ys] ct0 (bo (xs == ys)) ct0 := by
  refine fn_ok hm Tryz.func42 (fun _ => false) [] (fun _ => []) (by kernel_rfl) ?_
  refine TextS.mk ⟨xs, textOf_byt xs, ?_⟩
  refine TextS.mk ⟨ys, textOf_byt ys, ?_⟩
  exact Done.mk rfl rfl
end Abs
namespace Abs
open Go Go.Proofs
theorem beq_no {α : Type} [BEq α] [LawfulBEq α] {a b : α} (h : a = b → False) : false = (a == b) := (beq_eq_false_iff_ne.2 h).symm
theorem depEqual_ok (a b : Sy) (h : a.pairs.length < 2^62) : CallsA Tryz.prog 45 [encSy a, encSy b] ct0 (bo (a == b)) ct0 := by
  by_cases e : a.pairs = b.pairs
  · have h1 : (a.pairs == b.pairs) = true := by simpa using e
    refine fn_ok hm Tryz.func45 (fun _ => false) [] (fun _ => []) (by kernel_rfl) ?_
    refine call_ok (equalPairs_ok a.pairs b.pairs h) ?_
    refine Br.no (by rw [h1]; rfl) ?_
    refine Done.mk (congrArg Dat.bool ?_) rfl
    cases a; cases b
    simp at e
    rw [Bool.eq_iff_iff]
    simp [e]
    intro _
    constructor <;> (intro h; simp [h])
  · have h1 : (a.pairs == b.pairs) = false := by simpa using e
    refine fn_ok hm Tryz.func45 (fun _ => false) [] (fun _ => []) (by kernel_rfl) ?_
    refine call_ok (equalPairs_ok a.pairs b.pairs h) ?_
    refine Br.yes (by rw [h1]; rfl) ?_
    refine Done.mk (congrArg Dat.bool (beq_no fun e => ?_)) rfl
    subst e; simp at h1
def fun0 (f : FuncId) : Dat := .clo (.func f) [] []
theorem equalSums_ok (xs ys : List Sy) (h : xs.length < 2^62) (hp : ∀ x ∈ xs, x.pairs.length < 2^62) : CallsA Tryz.prog 44 [lst 11 encSy xs, lst 11 encSy ys, fun0 45] ct0 (bo (xs == ys)) ct0 := by
  refine fn_ok hm Tryz.func44 (fun _ => false) [] (fun _ => []) (by kernel_rfl) ?_
  refine Br.mk (fun h1 => ?_) (fun h1 => ?_)
  · refine Done.mk (congrArg Dat.bool ?_) rfl
    simp at h1
    exact beq_no fun e => h1 (by rw [e])
  · simp at h1
    refine LoopS.mk ⟨[], HeadS.nat xs.length (fun k => xs.take k = ys.take k) (fun k => ⟨[(17, it k)], [], []⟩) rfl ⟨⟨rfl, trivial⟩, trivial, trivial⟩ rfl rfl (fun k => ⟨rfl, rfl, rfl⟩) fun k hk hJ => ?_⟩
    refine Br.mk (fun h2 => ?_) (fun h2 => ?_)
    · simp at h2
      have h5 : k < ys.length := by omega
      have hc := depEqual_ok xs[k] ys[k] (hp _ (by simp))
      refine Idx.map h2 rfl ?_
      refine Idx.map h5 rfl ?_
      refine call_ok hc ?_
      refine Br.mk (fun h3 => ?_) (fun h3 => ?_)
      · refine Done.mk (congrArg Dat.bool (beq_no fun e => ?_)) rfl
        subst e; simp at h3
      · refine Arith.i64 (by omega) (by omega) ?_
        exact ⟨⟨k + 1, h2, take_next h2 h5 hJ (by simpa using h3)⟩, Nat.sub_lt_sub_left h2 (Nat.lt_succ_self k), rfl, ⟨rfl, trivial⟩, trivial, trivial⟩
    · refine Done.mk (congrArg Dat.bool ?_) rfl
      simp at h2
      rw [take_all (by omega) (by omega) hJ]; simp
end Abs
namespace Abs
open Go Go.Proofs
set_option maxRecDepth 100000
set_option maxHeartbeats 4000000
theorem Idx.mapE {α : Type} {xs : List α} {f : α → Dat} {i : Int} (k : Nat) {n : Nat} {K : Dat → Prop} (e : i = k) (hk : k < xs.length) (hn : n = (xs.map f).length) (h : K (f xs[k])) : Idx n (xs.map f) i K := by
  subst e; exact Idx.map hk hn h
structure Mk where
  L : List UInt8
  d : Dc
  heads : List Hd
  defs : List Df
  th : List Int
  D : Df
  calm : Bool
def encMk (m : Mk) (a s l p d : Nat) : Dat := .agg ([byt m.L, it a] ++ (cDc m.d ++ ([.ref 1000 (m.heads.map encH).length, .ref 1001 (m.defs.map encD).length, .ref 1002 (m.th.map it).length] ++ (cD m.D ++ [it s, it l, it p, it d, bo m.calm]))))
def ctM (m : Mk) (a s l p d : Nat) : Ct := ⟨[encMk m a s l p d], [⟨5, true, m.heads.map encH⟩, ⟨12, true, m.defs.map encD⟩, ⟨1, true, m.th.map it⟩]⟩
abbrev mp : Dat := .ptr 1000 0
def Mk.nx (m : Mk) (a : Nat) (n : Int) : Int := (((m.L.getD a 0).toNat : Nat) : Int).tmod n
theorem Mk.nx_bd (m : Mk) (a : Nat) {n : Int} (h : 0 < n) : 0 ≤ m.nx a n ∧ m.nx a n < n := ⟨Int.tmod_nonneg _ (by omega), Int.tmod_lt_of_pos _ h⟩
theorem next_ok (m : Mk) (a s l p d : Nat) (n : Int) (h : a < 2^60) (hn : 0 < n) : CallsA Tryz.prog 109 [mp, it n] (ctM m a s l p d) (it (m.nx a n)) (ctM m (a + 1) s l p d) := by
  by_cases hl : a < m.L.length
  · have hb : decide ((a : Int) + 1 > ((m.L.map fun b => Dat.int .u8 b.toNat).length : Nat)) = false := by simp; omega
    have hu := UInt8.toNat_lt (m.L[a])
    refine fn_ok hm Tryz.func109 (fun _ => false) [] (fun _ => []) (by kernel_rfl) ?_
    refine run ?_
    refine Idx.mapE a (by omega) (by omega) rfl ?_
    refine run ?_
    refine Done.mk (congrArg it ?_) rfl
    simp [Mk.nx, List.getD, hl]
  · have hb : decide ((a : Int) + 1 > ((m.L.map fun b => Dat.int .u8 b.toNat).length : Nat)) = true := by simp; omega
    refine fn_ok hm Tryz.func109 (fun _ => false) [] (fun _ => []) (by kernel_rfl) ?_
    refine run ?_
    refine Done.mk (congrArg it ?_) rfl
    simp [Mk.nx, List.getD, hl]
theorem site_ok (m : Mk) (a s l p d : Nat) (h : s < 2^60) : CallsA Tryz.prog 150 [mp] (ctM m a s l p d) (it (s+1 : Nat)) (ctM m a (s+1) l p d) := by
  refine fn_ok hm Tryz.func150 (fun _ => false) [] (fun _ => []) (by kernel_rfl) ?_
  refine run ?_
  exact Done.mk rfl rfl
def eNum (v : Int) : Ex := .mk 1 0 v []
def eVar (v : Int) : Ex := .mk 2 v 0 []
def eBin (op : Int) (a b : Ex) : Ex := .mk op 0 0 [a, b]
def cTest (op : Int) (a b : Ex) : Co := .mk op [a, b] []
def cNot (c : Co) : Co := .mk 5 [] [c]
theorem num_ok (v : Int) : CallsA Tryz.prog 64 [it v] ct0 (encE (eNum v)) ct0 := by
  refine fn_ok hm Tryz.func64 (fun _ => false) [] (fun _ => []) (by kernel_rfl) ?_
  refine run ?_
  exact Done.mk rfl rfl
theorem var_ok (v : Int) : CallsA Tryz.prog 63 [it v] ct0 (encE (eVar v)) ct0 := by
  refine fn_ok hm Tryz.func63 (fun _ => false) [] (fun _ => []) (by kernel_rfl) ?_
  refine run ?_
  exact Done.mk rfl rfl
theorem encE_mk (e : Ex) : encE (.mk e.op e.n e.v e.a) = encE e := by cases e; rfl
theorem bin_ok (v : Int) (a b : Ex) : CallsA Tryz.prog 62 [it v, encE a, encE b] ct0 (encE (eBin v a b)) ct0 := by
  cases a; cases b
  refine fn_ok hm Tryz.func62 (fun _ => false) [] (fun _ => []) (by kernel_rfl) ?_
  refine run ?_
  exact Done.mk rfl rfl
theorem test_ok (v : Int) (a b : Ex) : CallsA Tryz.prog 212 [it v, encE a, encE b] ct0 (encC (cTest v a b)) ct0 := by
  cases a; cases b
  refine fn_ok hm Tryz.func212 (fun _ => false) [] (fun _ => []) (by kernel_rfl) ?_
  refine run ?_
  exact Done.mk rfl rfl
theorem not_ok (a : Co) : CallsA Tryz.prog 213 [encC a] ct0 (encC (cNot a)) ct0 := by
  cases a
  refine fn_ok hm Tryz.func213 (fun _ => false) [] (fun _ => []) (by kernel_rfl) ?_
  refine run ?_
  exact Done.mk rfl rfl
def Mk.expr (m : Mk) : Nat → Nat → Ex × Nat
  | 0, a => (eNum (m.nx (a+1) 14 - 3), a+1+1)
  | n+1, a =>
    if m.nx a 12 < 4 then (eNum (m.nx (a+1) 14 - 3), a+1+1)
    else if m.nx a 12 < 9 then (eVar (m.nx (a+1) m.D.vars), a+1+1)
    else if m.nx a 12 = 9 ∧ 0 < m.D.arrays.length then (.mk 3 (m.nx (a+1) m.D.arrays.length) 0 [], a+1+1)
    else (eBin (4 + m.nx (a+1) 7) (m.expr n (a+1+1)).1 (m.expr n (m.expr n (a+1+1)).2).1, (m.expr n (m.expr n (a+1+1)).2).2)
def useE : Nat → Nat
  | 0 => 2
  | n + 1 => 2 + 2 * useE n
theorem useE_two (n : Nat) : 2 ≤ useE n := by cases n <;> simp [useE]
theorem Mk.expr_at (m : Mk) : ∀ n a, a ≤ (m.expr n a).2 ∧ (m.expr n a).2 ≤ a + useE n
  | 0, a => by simp only [Mk.expr, useE]; omega
  | n+1, a => by
    have h1 := Mk.expr_at m n (a+1+1)
    have h2 := Mk.expr_at m n (m.expr n (a+1+1)).2
    have h3 := useE_two n
    rw [Mk.expr]
    split
    · simp only [useE]; omega
    split
    · simp only [useE]; omega
    split
    · simp only [useE]; omega
    · simp only [useE]; omega
theorem expr_ok (m : Mk) (s l p d : Nat) (hv : 0 < m.D.vars) (n : Nat) : ∀ (a : Nat) (_ : a + useE n < 2^60) (_ : n < 2^60), CallsA Tryz.prog 207 [mp, it n] (ctM m a s l p d) (encE (m.expr n a).1) (ctM m ((m.expr n a).2) s l p d) := by
  induction n with
  | zero =>
    intro a h hn
    have b1 := m.nx_bd a (n := 12) (by omega)
    have b2 := m.nx_bd (a+1) (n := 14) (by omega)
    simp only [useE] at h
    refine (Bool.eq_false_or_eq_true (decide (m.nx a 12 < 4))).elim (fun h1 => ?_) (fun h1 => ?_)
    all_goals
      refine fn_ok hm Tryz.func207 (fun _ => false) [] (fun _ => []) (by kernel_rfl) ?_
      refine run ?_; repeat ((apply call_ok; first | exact (next_ok m _ _ _ _ _ _ (by omega) (by omega)) | exact (num_ok _)); refine run ?_)
      exact Done.mk rfl rfl
  | succ n ih =>
    intro a h hn
    have b1 := m.nx_bd a (n := 12) (by omega)
    have b2 := m.nx_bd (a+1) (n := 14) (by omega)
    have b3 := m.nx_bd (a+1) (n := 7) (by omega)
    have g1 := m.expr_at n (a+1+1)
    have g2 := m.expr_at n (m.expr n (a+1+1)).2
    have g3 := useE_two n
    simp only [useE] at h
    have h2 : (((n + 1 : Nat) : Int) == 0) = false := by simp; omega
    have e1 : ((n + 1 : Nat) : Int) - 1 = (n : Int) := by omega
    refine (Bool.eq_false_or_eq_true (decide (m.nx a 12 < 4))).elim (fun h1 => ?_) (fun h1 => ?_)
    · have e : m.expr (n+1) a = (eNum (m.nx (a+1) 14 - 3), a+1+1) := by rw [Mk.expr, if_pos (by simpa using h1)]
      rw [e]
      refine fn_ok hm Tryz.func207 (fun _ => false) [] (fun _ => []) (by kernel_rfl) ?_
      refine run ?_; repeat ((apply call_ok; first | exact (next_ok m _ _ _ _ _ _ (by omega) (by omega)) | exact (num_ok _)); refine run ?_)
      exact Done.mk rfl rfl
    have n1 : ¬ m.nx a 12 < 4 := by simpa using h1
    refine (Bool.eq_false_or_eq_true (decide (m.nx a 12 < 9))).elim (fun h3 => ?_) (fun h3 => ?_)
    · have e : m.expr (n+1) a = (eVar (m.nx (a+1) m.D.vars), a+1+1) := by rw [Mk.expr, if_neg n1, if_pos (by simpa using h3)]
      rw [e]
      refine fn_ok hm Tryz.func207 (fun _ => false) [] (fun _ => []) (by kernel_rfl) ?_
      refine run ?_; repeat ((apply call_ok; first | exact (next_ok m _ _ _ _ _ _ (by omega) (by omega)) | exact (var_ok _)); refine run ?_)
      exact Done.mk rfl rfl
    have n2 : ¬ m.nx a 12 < 9 := by simpa using h3
    by_cases h4 : m.nx a 12 = 9 ∧ 0 < m.D.arrays.length
    · have e : m.expr (n+1) a = (.mk 3 (m.nx (a+1) m.D.arrays.length) 0 [], a+1+1) := by rw [Mk.expr, if_neg n1, if_neg n2, if_pos h4]
      have e2 : (m.nx a 12 == 9) = true := by simp [h4.1]
      have e3 : decide ((((m.D.arrays.map encA).length : Nat) : Int) > 0) = true := by simp; exact h4.2
      have e4 : ((m.D.arrays.map encA).length : Int) = m.D.arrays.length := by simp
      rw [e, ← e4]
      refine fn_ok hm Tryz.func207 (fun _ => false) [] (fun _ => []) (by kernel_rfl) ?_
      refine run ?_; repeat ((apply call_ok; first | exact (next_ok m _ _ _ _ _ _ (by omega) (by omega))); refine run ?_)
      exact Done.mk rfl rfl
    have e : m.expr (n+1) a = (eBin (4 + m.nx (a+1) 7) (m.expr n (a+1+1)).1 (m.expr n (m.expr n (a+1+1)).2).1, (m.expr n (m.expr n (a+1+1)).2).2) := by rw [Mk.expr, if_neg n1, if_neg n2, if_neg h4]
    rw [e]
    refine (Bool.eq_false_or_eq_true (m.nx a 12 == 9)).elim (fun e2 => ?_) (fun e2 => ?_)
    · have e3 : decide ((((m.D.arrays.map encA).length : Nat) : Int) > 0) = false := by
        simp at e2 h4 ⊢; exact h4 e2
      refine fn_ok hm Tryz.func207 (fun _ => false) [] (fun _ => []) (by kernel_rfl) ?_
      refine run ?_; repeat ((apply call_ok; first | exact (next_ok m _ _ _ _ _ _ (by omega) (by omega)) | exact (ih _ (by omega) (by omega)) | exact (bin_ok _ _ _)); refine run ?_)
      exact Done.mk rfl rfl
    · refine fn_ok hm Tryz.func207 (fun _ => false) [] (fun _ => []) (by kernel_rfl) ?_
      refine run ?_; repeat ((apply call_ok; first | exact (next_ok m _ _ _ _ _ _ (by omega) (by omega)) | exact (ih _ (by omega) (by omega)) | exact (bin_ok _ _ _)); refine run ?_)
      exact Done.mk rfl rfl
end Abs
namespace Abs
open Go Go.Proofs
set_option maxRecDepth 100000
set_option maxHeartbeats 4000000
def Mk.nP (m : Mk) : Int := ((m.D.params.map encR).length : Nat)
def Mk.nA (m : Mk) : Int := ((m.D.arrays.map encA).length : Nat)
theorem Mk.nP_eq (m : Mk) : m.nP = m.D.params.length := by simp [Mk.nP]
theorem Mk.nA_eq (m : Mk) : m.nA = m.D.arrays.length := by simp [Mk.nA]
structure Mk.Ok (m : Mk) : Prop where
  vars : m.nP < m.D.vars ∧ m.D.vars < 2^40 ∧ m.nP < 2^40
  arr : 0 < m.nA ∧ m.nA < 2^40
def Mk.cond (m : Mk) : Nat → Nat → Co × Nat
  | 0, a => (cTest (2 + (m.nx a 8).tmod 3) (m.expr 1 (a+1)).1 (m.expr 1 (m.expr 1 (a+1)).2).1, (m.expr 1 (m.expr 1 (a+1)).2).2)
  | n+1, a =>
    if m.nx a 8 < 6 then (cTest (2 + (m.nx a 8).tmod 3) (m.expr 1 (a+1)).1 (m.expr 1 (m.expr 1 (a+1)).2).1, (m.expr 1 (m.expr 1 (a+1)).2).2)
    else if m.nx a 8 = 6 then (cNot (m.cond n (a+1)).1, (m.cond n (a+1)).2)
    else (.mk (6 + m.nx (m.cond n (a+1)).2 2) [] [(m.cond n (a+1)).1, (m.cond n ((m.cond n (a+1)).2+1)).1], (m.cond n ((m.cond n (a+1)).2+1)).2)
def useC : Nat → Nat
  | 0 => 13
  | n + 1 => 2 + 2 * useC n
theorem useC_le (n : Nat) : 13 ≤ useC n := by induction n with | zero => simp [useC] | succ n ih => simp only [useC]; omega
theorem Mk.cond_at (m : Mk) : ∀ n a, a ≤ (m.cond n a).2 ∧ (m.cond n a).2 ≤ a + useC n
  | 0, a => by
    have h1 := m.expr_at 1 (a+1)
    have h2 := m.expr_at 1 (m.expr 1 (a+1)).2
    simp only [Mk.cond, useC]; simp only [useE] at h1 h2; omega
  | n+1, a => by
    have h1 := m.expr_at 1 (a+1)
    have h2 := m.expr_at 1 (m.expr 1 (a+1)).2
    have h3 := Mk.cond_at m n (a+1)
    have h4 := Mk.cond_at m n ((m.cond n (a+1)).2+1)
    have h5 := useC_le n
    rw [Mk.cond]
    simp only [useE] at h1 h2
    split
    · simp only [useC]; omega
    split
    · simp only [useC]; omega
    · simp only [useC]; omega
theorem encC_and (v : Int) (a b : Co) : encC (.mk v [] [a, b]) = .agg [it v, .sl 4 [] false, .sl 3 [encC a, encC b] false] := by cases a; cases b; rfl
theorem cond_ok (m : Mk) (s l p d : Nat) (hv : 0 < m.D.vars) (n : Nat) : ∀ (a : Nat) (_ : a + useC n < 2^60) (_ : n < 2^60), CallsA Tryz.prog 204 [mp, it n] (ctM m a s l p d) (encC (m.cond n a).1) (ctM m ((m.cond n a).2) s l p d) := by
  have one : ∀ a, a + 6 < 2^60 → CallsA Tryz.prog 207 [mp, it 1] (ctM m a s l p d) (encE (m.expr 1 a).1) (ctM m ((m.expr 1 a).2) s l p d) := fun a h => expr_ok m s l p d hv 1 a (by simp only [useE]; omega) (by omega)
  induction n with
  | zero =>
    intro a h hn
    have b1 := m.nx_bd a (n := 8) (by omega)
    have b2 : 0 ≤ (m.nx a 8).tmod 3 ∧ (m.nx a 8).tmod 3 < 3 := ⟨Int.tmod_nonneg _ b1.1, Int.tmod_lt_of_pos _ (by omega)⟩
    have h1 := m.expr_at 1 (a+1)
    have h2 := m.expr_at 1 (m.expr 1 (a+1)).2
    simp only [useE] at h1 h2
    simp only [useC] at h
    refine (Bool.eq_false_or_eq_true (decide (m.nx a 8 < 6))).elim (fun h1 => ?_) (fun h1 => ?_)
    all_goals
      refine fn_ok hm Tryz.func204 (fun _ => false) [] (fun _ => []) (by kernel_rfl) ?_
      refine run ?_; repeat ((apply call_ok; first | exact (next_ok m _ _ _ _ _ _ (by omega) (by omega)) | exact (one _ (by omega)) | exact (test_ok _ _ _)); refine run ?_)
      exact Done.mk rfl rfl
  | succ n ih =>
    intro a h hn
    have b1 := m.nx_bd a (n := 8) (by omega)
    have b2 : 0 ≤ (m.nx a 8).tmod 3 ∧ (m.nx a 8).tmod 3 < 3 := ⟨Int.tmod_nonneg _ b1.1, Int.tmod_lt_of_pos _ (by omega)⟩
    have b3 := m.nx_bd (m.cond n (a+1)).2 (n := 2) (by omega)
    have g1 := m.expr_at 1 (a+1)
    have g2 := m.expr_at 1 (m.expr 1 (a+1)).2
    simp only [useE] at g1 g2
    have g3 := m.cond_at n (a+1)
    have g4 := m.cond_at n ((m.cond n (a+1)).2+1)
    have g5 := useC_le n
    simp only [useC] at h
    have h2 : (((n + 1 : Nat) : Int) == 0) = false := by simp; omega
    have e1 : ((n + 1 : Nat) : Int) - 1 = (n : Int) := by omega
    refine (Bool.eq_false_or_eq_true (decide (m.nx a 8 < 6))).elim (fun h1 => ?_) (fun h1 => ?_)
    · have e : m.cond (n+1) a = (cTest (2 + (m.nx a 8).tmod 3) (m.expr 1 (a+1)).1 (m.expr 1 (m.expr 1 (a+1)).2).1, (m.expr 1 (m.expr 1 (a+1)).2).2) := by rw [Mk.cond, if_pos (by simpa using h1)]
      rw [e]
      refine fn_ok hm Tryz.func204 (fun _ => false) [] (fun _ => []) (by kernel_rfl) ?_
      refine run ?_; repeat ((apply call_ok; first | exact (next_ok m _ _ _ _ _ _ (by omega) (by omega)) | exact (one _ (by omega)) | exact (test_ok _ _ _)); refine run ?_)
      exact Done.mk rfl rfl
    have n1 : ¬ m.nx a 8 < 6 := by simpa using h1
    refine (Bool.eq_false_or_eq_true (m.nx a 8 == 6)).elim (fun h3 => ?_) (fun h3 => ?_)
    · have e : m.cond (n+1) a = (cNot (m.cond n (a+1)).1, (m.cond n (a+1)).2) := by rw [Mk.cond, if_neg n1, if_pos (by simpa using h3)]
      rw [e]
      refine fn_ok hm Tryz.func204 (fun _ => false) [] (fun _ => []) (by kernel_rfl) ?_
      refine run ?_; repeat ((apply call_ok; first | exact (next_ok m _ _ _ _ _ _ (by omega) (by omega)) | exact (ih _ (by omega) (by omega)) | exact (not_ok _)); refine run ?_)
      exact Done.mk rfl rfl
    · have e : m.cond (n+1) a = (.mk (6 + m.nx (m.cond n (a+1)).2 2) [] [(m.cond n (a+1)).1, (m.cond n ((m.cond n (a+1)).2+1)).1], (m.cond n ((m.cond n (a+1)).2+1)).2) := by rw [Mk.cond, if_neg n1, if_neg (by simpa using h3)]
      rw [e]
      refine fn_ok hm Tryz.func204 (fun _ => false) [] (fun _ => []) (by kernel_rfl) ?_
      refine run ?_; repeat ((apply call_ok; first | exact (next_ok m _ _ _ _ _ _ (by omega) (by omega)) | exact (ih _ (by omega) (by omega)) | exact (not_ok _)); refine run ?_)
      exact Done.mk (encC_and _ _ _).symm rfl
def Mk.tg (m : Mk) (a : Nat) : Int := m.nP + m.nx a (m.D.vars - m.nP)
theorem target_ok (m : Mk) (a s l p d : Nat) (h : a < 2^60) (ok : m.Ok) : CallsA Tryz.prog 205 [mp] (ctM m a s l p d) (it (m.tg a)) (ctM m (a+1) s l p d) := by
  have h1 := ok.vars
  have h2 := m.nx_bd a (n := m.D.vars - m.nP) (by omega)
  have h3 : m.nP = ((m.D.params.map encR).length : Nat) := rfl
  rw [h3] at h1 h2
  refine fn_ok hm Tryz.func205 (fun _ => false) [] (fun _ => []) (by kernel_rfl) ?_
  refine run ?_; repeat ((apply call_ok; first | exact (next_ok m _ _ _ _ _ _ (by omega) (by omega))); refine run ?_)
  exact Done.mk rfl rfl
def zE : Ex := .mk 0 0 0 []
def zC : Co := .mk 0 [] []
def S0 (site op n m v : Int) (x y : Ex) (c : Co) : Sm := .mk site op n m v x y c [] [] [] []
def Mk.simple (m : Mk) (a s : Nat) : List Sm × Nat × Nat :=
  if m.nx a 8 = 0 then ([S0 (s+1 : Nat) 2 (m.tg (a+1)) 0 0 (eNum (m.nx (a+1+1) 4)) zE zC], a+1+1+1, s+1)
  else if m.nx a 8 = 1 then ([S0 (s+1 : Nat) 3 0 0 0 (eNum (m.nx (a+1) 4)) (m.expr 2 (a+1+1)).1 zC], (m.expr 2 (a+1+1)).2, s+1)
  else if m.nx a 8 = 2 then ([S0 (s+1 : Nat) 4 (m.tg (a+1)) (m.nx (a+1+1) 2) 0 zE zE zC], a+1+1+1, s+1)
  else if m.nx a 8 = 3 then ([S0 (s+1 : Nat) 20 (m.tg (a+1)) (m.nx (a+1+1) 2) 0 zE zE zC], a+1+1+1, s+1)
  else if m.nx a 8 = 4 then ([S0 (s+1 : Nat) 16 0 (m.nx (a+1) 3) 0 zE zE zC, S0 (s+1+1 : Nat) 5 0 0 0 (eNum (m.nx (a+1+1) 9)) zE zC, S0 (s+1+1+1 : Nat) 17 0 (m.nx (a+1) 3) 0 zE zE zC], a+1+1+1, s+1+1+1)
  else if m.nx a 8 = 5 then ([S0 (s+1 : Nat) 6 1 0 0 zE zE zC, S0 (s+1+1 : Nat) 9 1 0 0 (m.expr 1 (a+1)).1 zE zC, S0 (s+1+1+1 : Nat) 7 1 0 0 zE zE zC], (m.expr 1 (a+1)).2, s+1+1+1)
  else ([S0 (s+1 : Nat) 1 (m.tg (a+1)) 0 0 (m.expr 2 (a+1+1)).1 zE zC], (m.expr 2 (a+1+1)).2, s+1)
def Mk.risky (m : Mk) (a s : Nat) : Sm × Nat × Nat :=
  if m.nx a 15 = 0 ∨ m.nx a 15 = 1 then (S0 (s+1 : Nat) 2 (m.tg (a+1)) (m.nx (a+1+1) m.nA) 0 (m.expr 1 (a+1+1+1)).1 zE zC, (m.expr 1 (a+1+1+1)).2, s+1)
  else if m.nx a 15 = 2 then (S0 (s+1 : Nat) 3 0 (m.nx (a+1) m.nA) 0 (m.expr 1 (a+1+1)).1 (m.expr 1 (m.expr 1 (a+1+1)).2).1 zC, (m.expr 1 (m.expr 1 (a+1+1)).2).2, s+1)
  else if m.nx a 15 = 3 then (S0 (s+1 : Nat) 5 0 (m.nx (a+1) 2) 0 (m.expr 1 (a+1+1)).1 zE zC, (m.expr 1 (a+1+1)).2, s+1)
  else if m.nx a 15 = 4 then (S0 (s+1 : Nat) 6 (m.nx (a+1) 2) 0 0 zE zE zC, a+1+1, s+1)
  else if m.nx a 15 = 5 then (S0 (s+1 : Nat) 7 (m.nx (a+1) 2) 0 0 zE zE zC, a+1+1, s+1)
  else if m.nx a 15 = 6 then (S0 (s+1 : Nat) 8 (m.nx (a+1) 2) (m.nx (a+1+1) 2) 0 zE zE zC, a+1+1+1, s+1)
  else if m.nx a 15 = 7 then (S0 (s+1 : Nat) 10 (m.tg (a+1)) (m.nx (a+1+1) 2) 0 zE zE zC, a+1+1+1, s+1)
  else if m.nx a 15 = 8 then (S0 (s+1 : Nat) (16 + m.nx (a+1) 2) 0 (m.nx (a+1+1) 3) 0 zE zE zC, a+1+1+1, s+1)
  else if m.nx a 15 = 9 then (S0 (s+1 : Nat) 18 0 0 0 (m.expr 1 (a+1)).1 zE zC, (m.expr 1 (a+1)).2, s+1)
  else if m.nx a 15 = 10 then (S0 (s+1 : Nat) 19 (m.tg (a+1)) 0 0 zE zE zC, a+1+1, s+1)
  else if m.nx a 15 = 11 then (S0 (s+1 : Nat) 21 0 (m.nx (a+1) 3) 0 (m.expr 1 (a+1+1)).1 zE zC, (m.expr 1 (a+1+1)).2, s+1)
  else if m.nx a 15 = 12 then (S0 (s+1 : Nat) 22 0 (m.nx (a+1) 3) 0 zE zE zC, a+1+1, s+1)
  else if m.nx a 15 = 13 then (S0 (s+1 : Nat) 23 0 0 0 zE zE (m.cond 1 (a+1)).1, (m.cond 1 (a+1)).2, s+1)
  else (S0 (s+1 : Nat) 9 (m.nx (a+1) 2) 0 0 (m.expr 1 (a+1+1)).1 zE zC, (m.expr 1 (a+1+1)).2, s+1)
theorem simple_ok (m : Mk) (a s l p d : Nat) (h : a + 100 < 2^60) (h' : s + 10 < 2^60) (ok : m.Ok) : CallsA Tryz.prog 208 [mp] (ctM m a s l p d) (lst 20 encS (m.simple a s).1) (ctM m ((m.simple a s).2.1) ((m.simple a s).2.2) l p d) := by
  have hv : 0 < m.D.vars := by have := ok.vars; have := m.nP_eq; omega
  have b0 := m.nx_bd a (n := 8) (by omega)
  have ha := ok.arr
  have hA : m.nA = ((m.D.arrays.map encA).length : Nat) := rfl
  have e1 : ∀ a, a + 6 < 2^60 → CallsA Tryz.prog 207 [mp, it 1] (ctM m a (s+1) l p d) (encE (m.expr 1 a).1) (ctM m ((m.expr 1 a).2) (s+1) l p d) := fun a h => expr_ok m (s+1) l p d hv 1 a (by simp only [useE]; omega) (by omega)
  have e1' : ∀ a, a + 6 < 2^60 → CallsA Tryz.prog 207 [mp, it 1] (ctM m a (s+1+1) l p d) (encE (m.expr 1 a).1) (ctM m ((m.expr 1 a).2) (s+1+1) l p d) := fun a h => expr_ok m (s+1+1) l p d hv 1 a (by simp only [useE]; omega) (by omega)
  have e2 : ∀ a, a + 14 < 2^60 → CallsA Tryz.prog 207 [mp, it 2] (ctM m a (s+1) l p d) (encE (m.expr 2 a).1) (ctM m ((m.expr 2 a).2) (s+1) l p d) := fun a h => expr_ok m (s+1) l p d hv 2 a (by simp only [useE]; omega) (by omega)
  have c1 : ∀ a, a + 28 < 2^60 → CallsA Tryz.prog 204 [mp, it 1] (ctM m a (s+1) l p d) (encC (m.cond 1 a).1) (ctM m ((m.cond 1 a).2) (s+1) l p d) := fun a h => cond_ok m (s+1) l p d hv 1 a (by simp only [useC]; omega) (by omega)
  have g1 := m.expr_at 1 (a+1)
  have g2 := m.expr_at 1 (a+1+1)
  simp only [useE] at g1 g2
  have hk := next_ok m a (s+1) l p d 8 (by omega) (by omega)
  have hc : m.nx a 8 = 0 ∨ m.nx a 8 = 1 ∨ m.nx a 8 = 2 ∨ m.nx a 8 = 3 ∨ m.nx a 8 = 4 ∨ m.nx a 8 = 5 ∨ m.nx a 8 = 6 ∨ m.nx a 8 = 7 := by omega
  rcases hc with hc | hc | hc | hc | hc | hc | hc | hc
  · have e : m.simple a s = ([S0 (s+1 : Nat) 2 (m.tg (a+1)) 0 0 (eNum (m.nx (a+1+1) 4)) zE zC], a+1+1+1, s+1) := by simp [Mk.simple, hc]
    rw [e]; rw [hc] at hk
    refine fn_ok hm Tryz.func208 (fun _ => false) [] (fun _ => []) (by kernel_rfl) ?_
    refine run ?_; repeat ((apply call_ok; first | exact (hk) | exact (site_ok m _ _ _ _ _ (by omega)) | exact (target_ok m _ _ _ _ _ (by omega) ok) | exact (next_ok m _ _ _ _ _ _ (by omega) (by omega)) | exact (num_ok _) | exact (e1 _ (by omega)) | exact (e1' _ (by omega)) | exact (e2 _ (by omega)) | exact (c1 _ (by omega))); refine run ?_)
    exact Done.mk rfl rfl
  · have e : m.simple a s = ([S0 (s+1 : Nat) 3 0 0 0 (eNum (m.nx (a+1) 4)) (m.expr 2 (a+1+1)).1 zC], (m.expr 2 (a+1+1)).2, s+1) := by simp [Mk.simple, hc]
    rw [e]; rw [hc] at hk
    refine fn_ok hm Tryz.func208 (fun _ => false) [] (fun _ => []) (by kernel_rfl) ?_
    refine run ?_; repeat ((apply call_ok; first | exact (hk) | exact (site_ok m _ _ _ _ _ (by omega)) | exact (target_ok m _ _ _ _ _ (by omega) ok) | exact (next_ok m _ _ _ _ _ _ (by omega) (by omega)) | exact (num_ok _) | exact (e1 _ (by omega)) | exact (e1' _ (by omega)) | exact (e2 _ (by omega)) | exact (c1 _ (by omega))); refine run ?_)
    exact Done.mk rfl rfl
  · have e : m.simple a s = ([S0 (s+1 : Nat) 4 (m.tg (a+1)) (m.nx (a+1+1) 2) 0 zE zE zC], a+1+1+1, s+1) := by simp [Mk.simple, hc]
    rw [e]; rw [hc] at hk
    refine fn_ok hm Tryz.func208 (fun _ => false) [] (fun _ => []) (by kernel_rfl) ?_
    refine run ?_; repeat ((apply call_ok; first | exact (hk) | exact (site_ok m _ _ _ _ _ (by omega)) | exact (target_ok m _ _ _ _ _ (by omega) ok) | exact (next_ok m _ _ _ _ _ _ (by omega) (by omega)) | exact (num_ok _) | exact (e1 _ (by omega)) | exact (e1' _ (by omega)) | exact (e2 _ (by omega)) | exact (c1 _ (by omega))); refine run ?_)
    exact Done.mk rfl rfl
  · have e : m.simple a s = ([S0 (s+1 : Nat) 20 (m.tg (a+1)) (m.nx (a+1+1) 2) 0 zE zE zC], a+1+1+1, s+1) := by simp [Mk.simple, hc]
    rw [e]; rw [hc] at hk
    refine fn_ok hm Tryz.func208 (fun _ => false) [] (fun _ => []) (by kernel_rfl) ?_
    refine run ?_; repeat ((apply call_ok; first | exact (hk) | exact (site_ok m _ _ _ _ _ (by omega)) | exact (target_ok m _ _ _ _ _ (by omega) ok) | exact (next_ok m _ _ _ _ _ _ (by omega) (by omega)) | exact (num_ok _) | exact (e1 _ (by omega)) | exact (e1' _ (by omega)) | exact (e2 _ (by omega)) | exact (c1 _ (by omega))); refine run ?_)
    exact Done.mk rfl rfl
  · have e : m.simple a s = ([S0 (s+1 : Nat) 16 0 (m.nx (a+1) 3) 0 zE zE zC, S0 (s+1+1 : Nat) 5 0 0 0 (eNum (m.nx (a+1+1) 9)) zE zC, S0 (s+1+1+1 : Nat) 17 0 (m.nx (a+1) 3) 0 zE zE zC], a+1+1+1, s+1+1+1) := by simp [Mk.simple, hc]
    rw [e]; rw [hc] at hk
    refine fn_ok hm Tryz.func208 (fun _ => false) [] (fun _ => []) (by kernel_rfl) ?_
    refine run ?_; repeat ((apply call_ok; first | exact (hk) | exact (site_ok m _ _ _ _ _ (by omega)) | exact (target_ok m _ _ _ _ _ (by omega) ok) | exact (next_ok m _ _ _ _ _ _ (by omega) (by omega)) | exact (num_ok _) | exact (e1 _ (by omega)) | exact (e1' _ (by omega)) | exact (e2 _ (by omega)) | exact (c1 _ (by omega))); refine run ?_)
    exact Done.mk rfl rfl
  · have e : m.simple a s = ([S0 (s+1 : Nat) 6 1 0 0 zE zE zC, S0 (s+1+1 : Nat) 9 1 0 0 (m.expr 1 (a+1)).1 zE zC, S0 (s+1+1+1 : Nat) 7 1 0 0 zE zE zC], (m.expr 1 (a+1)).2, s+1+1+1) := by simp [Mk.simple, hc]
    rw [e]; rw [hc] at hk
    refine fn_ok hm Tryz.func208 (fun _ => false) [] (fun _ => []) (by kernel_rfl) ?_
    refine run ?_; repeat ((apply call_ok; first | exact (hk) | exact (site_ok m _ _ _ _ _ (by omega)) | exact (target_ok m _ _ _ _ _ (by omega) ok) | exact (next_ok m _ _ _ _ _ _ (by omega) (by omega)) | exact (num_ok _) | exact (e1 _ (by omega)) | exact (e1' _ (by omega)) | exact (e2 _ (by omega)) | exact (c1 _ (by omega))); refine run ?_)
    exact Done.mk rfl rfl
  · have e : m.simple a s = ([S0 (s+1 : Nat) 1 (m.tg (a+1)) 0 0 (m.expr 2 (a+1+1)).1 zE zC], (m.expr 2 (a+1+1)).2, s+1) := by simp [Mk.simple, hc]
    rw [e]; rw [hc] at hk
    refine fn_ok hm Tryz.func208 (fun _ => false) [] (fun _ => []) (by kernel_rfl) ?_
    refine run ?_; repeat ((apply call_ok; first | exact (hk) | exact (site_ok m _ _ _ _ _ (by omega)) | exact (target_ok m _ _ _ _ _ (by omega) ok) | exact (next_ok m _ _ _ _ _ _ (by omega) (by omega)) | exact (num_ok _) | exact (e1 _ (by omega)) | exact (e1' _ (by omega)) | exact (e2 _ (by omega)) | exact (c1 _ (by omega))); refine run ?_)
    exact Done.mk rfl rfl
  · have e : m.simple a s = ([S0 (s+1 : Nat) 1 (m.tg (a+1)) 0 0 (m.expr 2 (a+1+1)).1 zE zC], (m.expr 2 (a+1+1)).2, s+1) := by simp [Mk.simple, hc]
    rw [e]; rw [hc] at hk
    refine fn_ok hm Tryz.func208 (fun _ => false) [] (fun _ => []) (by kernel_rfl) ?_
    refine run ?_; repeat ((apply call_ok; first | exact (hk) | exact (site_ok m _ _ _ _ _ (by omega)) | exact (target_ok m _ _ _ _ _ (by omega) ok) | exact (next_ok m _ _ _ _ _ _ (by omega) (by omega)) | exact (num_ok _) | exact (e1 _ (by omega)) | exact (e1' _ (by omega)) | exact (e2 _ (by omega)) | exact (c1 _ (by omega))); refine run ?_)
    exact Done.mk rfl rfl
theorem risky_ok (m : Mk) (a s l p d : Nat) (h : a + 100 < 2^60) (h' : s + 10 < 2^60) (ok : m.Ok) : CallsA Tryz.prog 209 [mp] (ctM m a s l p d) (encS (m.risky a s).1) (ctM m ((m.risky a s).2.1) ((m.risky a s).2.2) l p d) := by
  have hv : 0 < m.D.vars := by have := ok.vars; have := m.nP_eq; omega
  have b0 := m.nx_bd a (n := 15) (by omega)
  have ha := ok.arr
  have hA : m.nA = ((m.D.arrays.map encA).length : Nat) := rfl
  have e1 : ∀ a, a + 6 < 2^60 → CallsA Tryz.prog 207 [mp, it 1] (ctM m a (s+1) l p d) (encE (m.expr 1 a).1) (ctM m ((m.expr 1 a).2) (s+1) l p d) := fun a h => expr_ok m (s+1) l p d hv 1 a (by simp only [useE]; omega) (by omega)
  have e1' : ∀ a, a + 6 < 2^60 → CallsA Tryz.prog 207 [mp, it 1] (ctM m a (s+1+1) l p d) (encE (m.expr 1 a).1) (ctM m ((m.expr 1 a).2) (s+1+1) l p d) := fun a h => expr_ok m (s+1+1) l p d hv 1 a (by simp only [useE]; omega) (by omega)
  have e2 : ∀ a, a + 14 < 2^60 → CallsA Tryz.prog 207 [mp, it 2] (ctM m a (s+1) l p d) (encE (m.expr 2 a).1) (ctM m ((m.expr 2 a).2) (s+1) l p d) := fun a h => expr_ok m (s+1) l p d hv 2 a (by simp only [useE]; omega) (by omega)
  have c1 : ∀ a, a + 28 < 2^60 → CallsA Tryz.prog 204 [mp, it 1] (ctM m a (s+1) l p d) (encC (m.cond 1 a).1) (ctM m ((m.cond 1 a).2) (s+1) l p d) := fun a h => cond_ok m (s+1) l p d hv 1 a (by simp only [useC]; omega) (by omega)
  have g1 := m.expr_at 1 (a+1)
  have g2 := m.expr_at 1 (a+1+1)
  simp only [useE] at g1 g2
  have hk := next_ok m a (s+1) l p d 15 (by omega) (by omega)
  have hc : m.nx a 15 = 0 ∨ m.nx a 15 = 1 ∨ m.nx a 15 = 2 ∨ m.nx a 15 = 3 ∨ m.nx a 15 = 4 ∨ m.nx a 15 = 5 ∨ m.nx a 15 = 6 ∨ m.nx a 15 = 7 ∨ m.nx a 15 = 8 ∨ m.nx a 15 = 9 ∨ m.nx a 15 = 10 ∨ m.nx a 15 = 11 ∨ m.nx a 15 = 12 ∨ m.nx a 15 = 13 ∨ m.nx a 15 = 14 := by omega
  rcases hc with hc | hc | hc | hc | hc | hc | hc | hc | hc | hc | hc | hc | hc | hc | hc
  · have e : m.risky a s = (S0 (s+1 : Nat) 2 (m.tg (a+1)) (m.nx (a+1+1) m.nA) 0 (m.expr 1 (a+1+1+1)).1 zE zC, (m.expr 1 (a+1+1+1)).2, s+1) := by simp [Mk.risky, hc]
    rw [e]; rw [hc] at hk
    refine fn_ok hm Tryz.func209 (fun _ => false) [] (fun _ => []) (by kernel_rfl) ?_
    refine run ?_; repeat ((apply call_ok; first | exact (hk) | exact (site_ok m _ _ _ _ _ (by omega)) | exact (target_ok m _ _ _ _ _ (by omega) ok) | exact (next_ok m _ _ _ _ _ _ (by omega) (by omega)) | exact (num_ok _) | exact (e1 _ (by omega)) | exact (e1' _ (by omega)) | exact (e2 _ (by omega)) | exact (c1 _ (by omega))); refine run ?_)
    exact Done.mk rfl rfl
  · have e : m.risky a s = (S0 (s+1 : Nat) 2 (m.tg (a+1)) (m.nx (a+1+1) m.nA) 0 (m.expr 1 (a+1+1+1)).1 zE zC, (m.expr 1 (a+1+1+1)).2, s+1) := by simp [Mk.risky, hc]
    rw [e]; rw [hc] at hk
    refine fn_ok hm Tryz.func209 (fun _ => false) [] (fun _ => []) (by kernel_rfl) ?_
    refine run ?_; repeat ((apply call_ok; first | exact (hk) | exact (site_ok m _ _ _ _ _ (by omega)) | exact (target_ok m _ _ _ _ _ (by omega) ok) | exact (next_ok m _ _ _ _ _ _ (by omega) (by omega)) | exact (num_ok _) | exact (e1 _ (by omega)) | exact (e1' _ (by omega)) | exact (e2 _ (by omega)) | exact (c1 _ (by omega))); refine run ?_)
    exact Done.mk rfl rfl
  · have e : m.risky a s = (S0 (s+1 : Nat) 3 0 (m.nx (a+1) m.nA) 0 (m.expr 1 (a+1+1)).1 (m.expr 1 (m.expr 1 (a+1+1)).2).1 zC, (m.expr 1 (m.expr 1 (a+1+1)).2).2, s+1) := by simp [Mk.risky, hc]
    rw [e]; rw [hc] at hk
    refine fn_ok hm Tryz.func209 (fun _ => false) [] (fun _ => []) (by kernel_rfl) ?_
    refine run ?_; repeat ((apply call_ok; first | exact (hk) | exact (site_ok m _ _ _ _ _ (by omega)) | exact (target_ok m _ _ _ _ _ (by omega) ok) | exact (next_ok m _ _ _ _ _ _ (by omega) (by omega)) | exact (num_ok _) | exact (e1 _ (by omega)) | exact (e1' _ (by omega)) | exact (e2 _ (by omega)) | exact (c1 _ (by omega))); refine run ?_)
    exact Done.mk rfl rfl
  · have e : m.risky a s = (S0 (s+1 : Nat) 5 0 (m.nx (a+1) 2) 0 (m.expr 1 (a+1+1)).1 zE zC, (m.expr 1 (a+1+1)).2, s+1) := by simp [Mk.risky, hc]
    rw [e]; rw [hc] at hk
    refine fn_ok hm Tryz.func209 (fun _ => false) [] (fun _ => []) (by kernel_rfl) ?_
    refine run ?_; repeat ((apply call_ok; first | exact (hk) | exact (site_ok m _ _ _ _ _ (by omega)) | exact (target_ok m _ _ _ _ _ (by omega) ok) | exact (next_ok m _ _ _ _ _ _ (by omega) (by omega)) | exact (num_ok _) | exact (e1 _ (by omega)) | exact (e1' _ (by omega)) | exact (e2 _ (by omega)) | exact (c1 _ (by omega))); refine run ?_)
    exact Done.mk rfl rfl
  · have e : m.risky a s = (S0 (s+1 : Nat) 6 (m.nx (a+1) 2) 0 0 zE zE zC, a+1+1, s+1) := by simp [Mk.risky, hc]
    rw [e]; rw [hc] at hk
    refine fn_ok hm Tryz.func209 (fun _ => false) [] (fun _ => []) (by kernel_rfl) ?_
    refine run ?_; repeat ((apply call_ok; first | exact (hk) | exact (site_ok m _ _ _ _ _ (by omega)) | exact (target_ok m _ _ _ _ _ (by omega) ok) | exact (next_ok m _ _ _ _ _ _ (by omega) (by omega)) | exact (num_ok _) | exact (e1 _ (by omega)) | exact (e1' _ (by omega)) | exact (e2 _ (by omega)) | exact (c1 _ (by omega))); refine run ?_)
    exact Done.mk rfl rfl
  · have e : m.risky a s = (S0 (s+1 : Nat) 7 (m.nx (a+1) 2) 0 0 zE zE zC, a+1+1, s+1) := by simp [Mk.risky, hc]
    rw [e]; rw [hc] at hk
    refine fn_ok hm Tryz.func209 (fun _ => false) [] (fun _ => []) (by kernel_rfl) ?_
    refine run ?_; repeat ((apply call_ok; first | exact (hk) | exact (site_ok m _ _ _ _ _ (by omega)) | exact (target_ok m _ _ _ _ _ (by omega) ok) | exact (next_ok m _ _ _ _ _ _ (by omega) (by omega)) | exact (num_ok _) | exact (e1 _ (by omega)) | exact (e1' _ (by omega)) | exact (e2 _ (by omega)) | exact (c1 _ (by omega))); refine run ?_)
    exact Done.mk rfl rfl
  · have e : m.risky a s = (S0 (s+1 : Nat) 8 (m.nx (a+1) 2) (m.nx (a+1+1) 2) 0 zE zE zC, a+1+1+1, s+1) := by simp [Mk.risky, hc]
    rw [e]; rw [hc] at hk
    refine fn_ok hm Tryz.func209 (fun _ => false) [] (fun _ => []) (by kernel_rfl) ?_
    refine run ?_; repeat ((apply call_ok; first | exact (hk) | exact (site_ok m _ _ _ _ _ (by omega)) | exact (target_ok m _ _ _ _ _ (by omega) ok) | exact (next_ok m _ _ _ _ _ _ (by omega) (by omega)) | exact (num_ok _) | exact (e1 _ (by omega)) | exact (e1' _ (by omega)) | exact (e2 _ (by omega)) | exact (c1 _ (by omega))); refine run ?_)
    exact Done.mk rfl rfl
  · have e : m.risky a s = (S0 (s+1 : Nat) 10 (m.tg (a+1)) (m.nx (a+1+1) 2) 0 zE zE zC, a+1+1+1, s+1) := by simp [Mk.risky, hc]
    rw [e]; rw [hc] at hk
    refine fn_ok hm Tryz.func209 (fun _ => false) [] (fun _ => []) (by kernel_rfl) ?_
    refine run ?_; repeat ((apply call_ok; first | exact (hk) | exact (site_ok m _ _ _ _ _ (by omega)) | exact (target_ok m _ _ _ _ _ (by omega) ok) | exact (next_ok m _ _ _ _ _ _ (by omega) (by omega)) | exact (num_ok _) | exact (e1 _ (by omega)) | exact (e1' _ (by omega)) | exact (e2 _ (by omega)) | exact (c1 _ (by omega))); refine run ?_)
    exact Done.mk rfl rfl
  · have e : m.risky a s = (S0 (s+1 : Nat) (16 + m.nx (a+1) 2) 0 (m.nx (a+1+1) 3) 0 zE zE zC, a+1+1+1, s+1) := by simp [Mk.risky, hc]
    rw [e]; rw [hc] at hk
    have b1 := m.nx_bd (a+1) (n := 2) (by omega)
    refine fn_ok hm Tryz.func209 (fun _ => false) [] (fun _ => []) (by kernel_rfl) ?_
    refine run ?_; repeat ((apply call_ok; first | exact (hk) | exact (site_ok m _ _ _ _ _ (by omega)) | exact (target_ok m _ _ _ _ _ (by omega) ok) | exact (next_ok m _ _ _ _ _ _ (by omega) (by omega)) | exact (num_ok _) | exact (e1 _ (by omega)) | exact (e1' _ (by omega)) | exact (e2 _ (by omega)) | exact (c1 _ (by omega))); refine run ?_)
    exact Done.mk rfl rfl
  · have e : m.risky a s = (S0 (s+1 : Nat) 18 0 0 0 (m.expr 1 (a+1)).1 zE zC, (m.expr 1 (a+1)).2, s+1) := by simp [Mk.risky, hc]
    rw [e]; rw [hc] at hk
    refine fn_ok hm Tryz.func209 (fun _ => false) [] (fun _ => []) (by kernel_rfl) ?_
    refine run ?_; repeat ((apply call_ok; first | exact (hk) | exact (site_ok m _ _ _ _ _ (by omega)) | exact (target_ok m _ _ _ _ _ (by omega) ok) | exact (next_ok m _ _ _ _ _ _ (by omega) (by omega)) | exact (num_ok _) | exact (e1 _ (by omega)) | exact (e1' _ (by omega)) | exact (e2 _ (by omega)) | exact (c1 _ (by omega))); refine run ?_)
    exact Done.mk rfl rfl
  · have e : m.risky a s = (S0 (s+1 : Nat) 19 (m.tg (a+1)) 0 0 zE zE zC, a+1+1, s+1) := by simp [Mk.risky, hc]
    rw [e]; rw [hc] at hk
    refine fn_ok hm Tryz.func209 (fun _ => false) [] (fun _ => []) (by kernel_rfl) ?_
    refine run ?_; repeat ((apply call_ok; first | exact (hk) | exact (site_ok m _ _ _ _ _ (by omega)) | exact (target_ok m _ _ _ _ _ (by omega) ok) | exact (next_ok m _ _ _ _ _ _ (by omega) (by omega)) | exact (num_ok _) | exact (e1 _ (by omega)) | exact (e1' _ (by omega)) | exact (e2 _ (by omega)) | exact (c1 _ (by omega))); refine run ?_)
    exact Done.mk rfl rfl
  · have e : m.risky a s = (S0 (s+1 : Nat) 21 0 (m.nx (a+1) 3) 0 (m.expr 1 (a+1+1)).1 zE zC, (m.expr 1 (a+1+1)).2, s+1) := by simp [Mk.risky, hc]
    rw [e]; rw [hc] at hk
    refine fn_ok hm Tryz.func209 (fun _ => false) [] (fun _ => []) (by kernel_rfl) ?_
    refine run ?_; repeat ((apply call_ok; first | exact (hk) | exact (site_ok m _ _ _ _ _ (by omega)) | exact (target_ok m _ _ _ _ _ (by omega) ok) | exact (next_ok m _ _ _ _ _ _ (by omega) (by omega)) | exact (num_ok _) | exact (e1 _ (by omega)) | exact (e1' _ (by omega)) | exact (e2 _ (by omega)) | exact (c1 _ (by omega))); refine run ?_)
    exact Done.mk rfl rfl
  · have e : m.risky a s = (S0 (s+1 : Nat) 22 0 (m.nx (a+1) 3) 0 zE zE zC, a+1+1, s+1) := by simp [Mk.risky, hc]
    rw [e]; rw [hc] at hk
    refine fn_ok hm Tryz.func209 (fun _ => false) [] (fun _ => []) (by kernel_rfl) ?_
    refine run ?_; repeat ((apply call_ok; first | exact (hk) | exact (site_ok m _ _ _ _ _ (by omega)) | exact (target_ok m _ _ _ _ _ (by omega) ok) | exact (next_ok m _ _ _ _ _ _ (by omega) (by omega)) | exact (num_ok _) | exact (e1 _ (by omega)) | exact (e1' _ (by omega)) | exact (e2 _ (by omega)) | exact (c1 _ (by omega))); refine run ?_)
    exact Done.mk rfl rfl
  · have e : m.risky a s = (S0 (s+1 : Nat) 23 0 0 0 zE zE (m.cond 1 (a+1)).1, (m.cond 1 (a+1)).2, s+1) := by simp [Mk.risky, hc]
    rw [e]; rw [hc] at hk
    refine fn_ok hm Tryz.func209 (fun _ => false) [] (fun _ => []) (by kernel_rfl) ?_
    refine run ?_; repeat ((apply call_ok; first | exact (hk) | exact (site_ok m _ _ _ _ _ (by omega)) | exact (target_ok m _ _ _ _ _ (by omega) ok) | exact (next_ok m _ _ _ _ _ _ (by omega) (by omega)) | exact (num_ok _) | exact (e1 _ (by omega)) | exact (e1' _ (by omega)) | exact (e2 _ (by omega)) | exact (c1 _ (by omega))); refine run ?_)
    exact Done.mk rfl rfl
  · have e : m.risky a s = (S0 (s+1 : Nat) 9 (m.nx (a+1) 2) 0 0 (m.expr 1 (a+1+1)).1 zE zC, (m.expr 1 (a+1+1)).2, s+1) := by simp [Mk.risky, hc]
    rw [e]; rw [hc] at hk
    refine fn_ok hm Tryz.func209 (fun _ => false) [] (fun _ => []) (by kernel_rfl) ?_
    refine run ?_; repeat ((apply call_ok; first | exact (hk) | exact (site_ok m _ _ _ _ _ (by omega)) | exact (target_ok m _ _ _ _ _ (by omega) ok) | exact (next_ok m _ _ _ _ _ _ (by omega) (by omega)) | exact (num_ok _) | exact (e1 _ (by omega)) | exact (e1' _ (by omega)) | exact (e2 _ (by omega)) | exact (c1 _ (by omega))); refine run ?_)
    exact Done.mk rfl rfl
end Abs
namespace Abs
open Go Go.Proofs
set_option maxRecDepth 100000
set_option maxHeartbeats 4000000
theorem Idx.mapG {α : Type} {xs : List α} {f : α → Dat} {i : Int} (k : Nat) (x : α) {n : Nat} {K : Dat → Prop} (e : i = k) (hx : xs[k]? = some x) (hn : n = (xs.map f).length) (h : K (f x)) : Idx n (xs.map f) i K := by
  obtain ⟨hk, rfl⟩ := List.getElem?_eq_some_iff.1 hx
  subst e; exact Idx.map hk hn h
def Mk.argsD (m : Mk) (a : Nat) : Nat → List Dat × Nat
  | 0 => ([], a)
  | i + 1 => ((m.argsD a i).1 ++ [encE (m.expr 1 (m.argsD a i).2).1], (m.expr 1 (m.argsD a i).2).2)
def Mk.args (m : Mk) (a : Nat) : Nat → List Ex × Nat
  | 0 => ([], a)
  | i + 1 => ((m.args a i).1 ++ [(m.expr 1 (m.args a i).2).1], (m.expr 1 (m.args a i).2).2)
theorem Mk.argsD_eq (m : Mk) (a : Nat) : ∀ i, m.argsD a i = ((m.args a i).1.map encE, (m.args a i).2)
  | 0 => rfl
  | i + 1 => by simp only [Mk.argsD, Mk.args, Mk.argsD_eq m a i]; simp
theorem Mk.argsD_at (m : Mk) (a : Nat) : ∀ i, (m.argsD a i).1.length = i ∧ a ≤ (m.argsD a i).2 ∧ (m.argsD a i).2 ≤ a + 6 * i
  | 0 => by simp [Mk.argsD]
  | i + 1 => by
    have h1 := Mk.argsD_at m a i
    have h2 := m.expr_at 1 (m.argsD a i).2
    simp only [useE] at h2
    simp only [Mk.argsD, List.length_append, List.length_cons, List.length_nil]; omega
def Mk.ptrsD (m : Mk) (a : Nat) : Nat → List Dat
  | 0 => []
  | i + 1 => m.ptrsD a i ++ [it (m.nx (a + i) 2)]
def Mk.ptrs (m : Mk) (a : Nat) : Nat → List Int
  | 0 => []
  | i + 1 => m.ptrs a i ++ [m.nx (a + i) 2]
theorem Mk.ptrsD_eq (m : Mk) (a : Nat) : ∀ i, m.ptrsD a i = (m.ptrs a i).map it
  | 0 => rfl
  | i + 1 => by simp only [Mk.ptrsD, Mk.ptrs, Mk.ptrsD_eq m a i]; simp
theorem Mk.ptrsD_len (m : Mk) (a : Nat) : ∀ i, (m.ptrsD a i).length = i
  | 0 => rfl
  | i + 1 => by simp only [Mk.ptrsD, List.length_append, Mk.ptrsD_len m a i]; rfl
def Mk.nH (m : Mk) : Int := ((m.heads.map encH).length : Nat)
def zEr : List Dat := [it 0, it 0, it 0, .sl 4 [] true]
def zCr : List Dat := [it 0, .sl 4 [] true, .sl 3 [] true]
def zH : Hd := ⟨0, 0, 0, [], []⟩
def Mk.hd (m : Mk) (a : Nat) : Hd := m.heads.getD (m.nx a m.nH).toNat zH
def Mk.call (m : Mk) (a s d : Nat) : Sm × Nat × Nat :=
  if m.heads.length = 0 ∨ 2 ≤ d then (S0 (s+1 : Nat) 1 (m.tg a) 0 0 (eNum 1) zE zC, a+1, d)
  else
    let h := m.hd (a+1)
    let x := m.args (a+1+1) h.params.length
    (.mk (s+1 : Nat) 13 (m.tg a) h.id 0 zE zE zC x.1 (m.ptrs x.2 h.given.length) [] [], x.2 + h.given.length, d+1)
theorem encS_call (x n h : Int) (es : List Ex) (ps : List Int) : encS (.mk x 13 n h 0 zE zE zC es ps [] []) = .agg ([it x, it 13, it n, it h, it 0] ++ (cE zE ++ (cE zE ++ (cC zC ++ [.sl 4 (es.map encE) false, .sl 1 (ps.map it) false, .sl 20 [] false, .sl 20 [] false])))) := by
  simp [encS, cS, Sm.site, Sm.op, Sm.n, Sm.m, Sm.v, Sm.x, Sm.y, Sm.c, Sm.args, Sm.ptrs, Sm.body, Sm.els, encEs_map, encSs, ints]
theorem mcall_ok (m : Mk) (a s l p d : Nat) (hc : m.calm = false) (h : a + 1000 < 2^60) (h' : s + 10 < 2^60) (hd : d < 2^60) (ok : m.Ok) (hh : ∀ h ∈ m.heads, h.params.length ≤ 12 ∧ h.given.length ≤ 12) (hl : m.heads.length < 2^30) :
    CallsA Tryz.prog 206 [mp] (ctM m a s l p d) (encS (m.call a s d).1) (ctM m (m.call a s d).2.1 (s+1) l p (m.call a s d).2.2) := by
  by_cases h0 : m.heads.length = 0 ∨ 2 ≤ d
  · have e : m.call a s d = (S0 (s+1 : Nat) 1 (m.tg a) 0 0 (eNum 1) zE zC, a+1, d) := by rw [Mk.call, if_pos h0]
    rw [e]
    refine (Bool.eq_false_or_eq_true ((((m.heads.map encH).length : Nat) : Int) == 0)).elim (fun h1 => ?_) (fun h1 => ?_)
    · refine fn_ok hm Tryz.func206 (fun _ => false) [] (fun _ => []) (by kernel_rfl) ?_
      refine run ?_; repeat ((apply call_ok; first | exact (site_ok m _ _ _ _ _ (by omega)) | exact (target_ok m _ _ _ _ _ (by omega) ok) | exact (num_ok _)); refine run ?_)
      exact Done.mk rfl rfl
    · have h2 : decide ((d : Int) ≥ 2) = true := by simp at h1; simp [h1] at h0; simp; omega
      refine fn_ok hm Tryz.func206 (fun _ => false) [] (fun _ => []) (by kernel_rfl) ?_
      refine run ?_; repeat ((apply call_ok; first | exact (site_ok m _ _ _ _ _ (by omega)) | exact (target_ok m _ _ _ _ _ (by omega) ok) | exact (num_ok _)); refine run ?_)
      exact Done.mk rfl rfl
  · have n1 : ((((m.heads.map encH).length : Nat) : Int) == 0) = false := by simp; intro e; simp [e] at h0
    have n2 : decide ((d : Int) ≥ 2) = false := by simp at h0 ⊢; omega
    have hb := m.nx_bd (a+1) (n := m.nH) (by simp [Mk.nH]; simp at h0; have := h0.1; cases hm : m.heads with | nil => exact absurd hm this | cons _ _ => simp)
    have hx : (m.nx (a+1) m.nH).toNat < m.heads.length := by have := hb.2; simp [Mk.nH] at this ⊢; omega
    have e0 : m.hd (a+1) = m.heads[(m.nx (a+1) m.nH).toNat] := by simp [Mk.hd, List.getD, hx]
    have hp := hh (m.hd (a+1)) (by rw [e0]; simp)
    have e : m.call a s d = (.mk (s+1 : Nat) 13 (m.tg a) (m.hd (a+1)).id 0 zE zE zC (m.args (a+1+1) (m.hd (a+1)).params.length).1 (m.ptrs (m.args (a+1+1) (m.hd (a+1)).params.length).2 (m.hd (a+1)).given.length) [] [], (m.args (a+1+1) (m.hd (a+1)).params.length).2 + (m.hd (a+1)).given.length, d+1) := by
      rw [Mk.call, if_neg h0]
    rw [e]
    refine fn_ok hm Tryz.func206 (fun _ => false) [] (fun _ => []) (by kernel_rfl) ?_
    refine run ?_; repeat ((apply call_ok; first | exact (site_ok m _ _ _ _ _ (by omega)) | exact (target_ok m _ _ _ _ _ (by omega) ok) | exact (num_ok _) | exact (next_ok m _ _ _ _ _ m.nH (by omega) (by omega))); refine run ?_)
    refine Idx.mapG (m.nx (a+1) m.nH).toNat (m.hd (a+1)) (by omega) (by rw [e0]; simp [hx]) rfl ?_
    refine run ?_
    refine Idx.mapG (m.nx (a+1) m.nH).toNat (m.hd (a+1)) (by omega) (by rw [e0]; simp [hx]) rfl ?_
    refine run ?_
    refine LoopS.mk ⟨[.cell 3 16 20010], HeadS.nat (((m.hd (a+1)).params.map encR).length) (fun _ => True) (fun k => ⟨[(5, it k)], [(3, .agg ([it (s+1 : Nat), it 13, it (m.tg a), it (m.hd (a+1)).id, it 0] ++ (zEr ++ (zEr ++ (zCr ++ [.ref 20010 (m.argsD (a+1+1) k).1.length, .sl 1 [] true, .sl 20 [] true, .sl 20 [] true]))))), (1000, encMk m (m.argsD (a+1+1) k).2 (s+1) l p (d+1))], [(20010, ⟨4, true, (m.argsD (a+1+1) k).1⟩)]⟩) (trivial) ?_ ?_ ?_ ?_ ?_⟩
    · repeat' (first | exact trivial | exact rfl | refine ⟨?_, ?_⟩ | refine ⟨?_, ?_, ?_⟩)
    · kernel_rfl
    · kernel_rfl
    · intro k; exact ⟨rfl, rfl, rfl⟩
    intro k hk hJ
    have ga := m.argsD_at (a+1+1) k
    have gl : ((m.hd (a+1)).params.map encR).length = (m.hd (a+1)).params.length := by simp
    have one : ∀ a, a + 6 < 2^60 → CallsA Tryz.prog 207 [mp, it 1] (ctM m a (s+1) l p (d+1)) (encE (m.expr 1 a).1) (ctM m ((m.expr 1 a).2) (s+1) l p (d+1)) := fun a h => expr_ok m (s+1) l p (d+1) (by have := ok.vars; have := m.nP_eq; omega) 1 a (by simp only [useE]; omega) (by omega)
    have ha := Nat.lt_or_ge k ((m.hd (a+1)).params.map encR).length
    refine Br.mk (fun hb => ?_) (fun hb => ?_)
    · have hk1 : k < ((m.hd (a+1)).params.map encR).length := by simpa using hb
      refine run ?_; repeat ((apply call_ok; first | exact (one _ (by omega))); refine run ?_)
      refine ⟨⟨k + 1, hk1, trivial⟩, Nat.sub_lt_sub_left hk1 (Nat.lt_succ_self k), ?_⟩
      repeat' (first | exact trivial | exact rfl | refine ⟨?_, ?_⟩ | refine ⟨?_, ?_, ?_⟩)
    · have hk1 : k = ((m.hd (a+1)).params.map encR).length := by simp at hb; omega
      have gp := m.ptrsD_len (m.argsD (a+1+1) k).2
      refine LoopS.mk ⟨[.cell 3 17 20016], HeadS.nat (((m.hd (a+1)).given.map encR).length) (fun _ => True) (fun j => ⟨[(6, it j)], [(3, .agg ([it (s+1 : Nat), it 13, it (m.tg a), it (m.hd (a+1)).id, it 0] ++ (zEr ++ (zEr ++ (zCr ++ [.ref 20010 (m.argsD (a+1+1) k).1.length, .ref 20016 (m.ptrsD (m.argsD (a+1+1) k).2 j).length, .sl 20 [] true, .sl 20 [] true]))))), (1000, encMk m ((m.argsD (a+1+1) k).2 + j) (s+1) l p (d+1))], [(20016, ⟨1, true, m.ptrsD (m.argsD (a+1+1) k).2 j⟩)]⟩) (trivial) ?_ ?_ ?_ ?_ ?_⟩
      · repeat' (first | exact trivial | exact rfl | refine ⟨?_, ?_⟩ | refine ⟨?_, ?_, ?_⟩)
      · kernel_rfl
      · kernel_rfl
      · intro k; exact ⟨rfl, rfl, rfl⟩
      intro j hj hJ2
      refine Br.mk (fun hb2 => ?_) (fun hb2 => ?_)
      · have hj1 : j < ((m.hd (a+1)).given.map encR).length := by simpa using hb2
        have gm : ((m.hd (a+1)).given.map encR).length = (m.hd (a+1)).given.length := by simp
        have gq := gp j
        refine run ?_; repeat ((apply call_ok; first | exact (next_ok m _ _ _ _ _ _ (by omega) (by omega))); refine run ?_)
        refine ⟨⟨j + 1, hj1, trivial⟩, Nat.sub_lt_sub_left hj1 (Nat.lt_succ_self j), ?_⟩
        repeat' (first | exact trivial | exact rfl | refine ⟨?_, ?_⟩ | refine ⟨?_, ?_, ?_⟩)
      · refine run ?_
        have hj1 : j = (m.hd (a+1)).given.length := by simp at hb2; simp at hj; omega
        subst hj1
        have hk2 : k = (m.hd (a+1)).params.length := by simpa using hk1
        subst hk2
        have e2 : (m.args (a+1+1) (m.hd (a+1)).params.length).1.map encE = (m.argsD (a+1+1) (m.hd (a+1)).params.length).1 := by rw [m.argsD_eq]
        have e4 : (m.args (a+1+1) (m.hd (a+1)).params.length).2 = (m.argsD (a+1+1) (m.hd (a+1)).params.length).2 := by rw [m.argsD_eq]
        refine Done.mk ?_ ?_
        · rw [encS_call, e2, e4, ← m.ptrsD_eq]; rfl
        · rw [e4]; rfl
end Abs
namespace Abs
open Go Go.Proofs
set_option maxRecDepth 100000
set_option maxHeartbeats 4000000
structure Ms where
  a : Nat
  s : Nat
  l : Nat
  d : Nat
def Mk.other (m : Mk) (k : Int) (dep : Nat) (x : Ms) : List Sm × Ms :=
  if 4 ≤ k ∧ k < 10 then ([(m.call x.a x.s x.d).1], ⟨(m.call x.a x.s x.d).2.1, x.s+1, x.l, (m.call x.a x.s x.d).2.2⟩)
  else if k = 10 then ([S0 (x.s+1 : Nat) 14 0 0 (1 + m.nx x.a 3) zE zE zC], ⟨x.a+1, x.s+1, x.l, x.d⟩)
  else if k = 11 ∧ dep < 2 then ([S0 (x.s+1 : Nat) 24 0 0 0 (m.expr 1 x.a).1 zE zC], ⟨(m.expr 1 x.a).2, x.s+1, x.l, x.d⟩)
  else if k < 4 then ((m.simple x.a x.s).1, ⟨(m.simple x.a x.s).2.1, (m.simple x.a x.s).2.2, x.l, x.d⟩)
  else ([(m.risky x.a x.s).1], ⟨(m.risky x.a x.s).2.1, (m.risky x.a x.s).2.2, x.l, x.d⟩)
def Mk.nested (m : Mk) (R : Nat → Ms → List Sm × Ms) (k : Int) (x : Ms) : Sm × Ms :=
  if k = 6 then
    let c := m.cond 1 x.a
    let b := R (1 + m.nx (c.2+1) 2).toNat ⟨c.2+1+1, x.s+1, x.l, x.d⟩
    (.mk (x.s+1 : Nat) 12 0 0 (1 + m.nx c.2 3) zE zE c.1 [] [] b.1 [], b.2)
  else if k = 7 then
    let b := R (1 + m.nx (x.a+1) 2).toNat ⟨x.a+1+1, x.s+1, x.l, x.d⟩
    let e := R (m.nx b.2.a 2).toNat ⟨b.2.a+1, b.2.s, b.2.l, b.2.d⟩
    (.mk (x.s+1 : Nat) 15 (m.tg x.a) 0 0 zE zE zC [] [] b.1 e.1, e.2)
  else
    let c := m.cond 1 x.a
    let b := R (1 + m.nx c.2 2).toNat ⟨c.2+1, x.s+1, x.l, x.d⟩
    let e := R (m.nx b.2.a 2).toNat ⟨b.2.a+1, b.2.s, b.2.l, b.2.d⟩
    (.mk (x.s+1 : Nat) 11 0 0 0 zE zE c.1 [] [] b.1 e.1, e.2)
def runS (step : Ms → List Sm × Ms) : Nat → Ms → List Sm × Ms
  | 0, x => ([], x)
  | n+1, x => if x.l = 0 then ([], x) else ((step x).1 ++ (runS step n (step x).2).1, (runS step n (step x).2).2)
def Mk.step (m : Mk) (dep : Nat) (R : Nat → Ms → List Sm × Ms) (x : Ms) : List Sm × Ms :=
  if 0 < dep ∧ 4 ≤ m.nx x.a 16 ∧ m.nx x.a 16 ≤ 7 then ([(m.nested R (m.nx x.a 16) ⟨x.a+1, x.s, x.l-1, x.d⟩).1], (m.nested R (m.nx x.a 16) ⟨x.a+1, x.s, x.l-1, x.d⟩).2)
  else m.other (m.nx x.a 16) dep ⟨x.a+1, x.s, x.l-1, x.d⟩
def Mk.stmts (m : Mk) : Nat → Nat → Ms → List Sm × Ms
  | 0, n, x => runS (m.step 0 fun _ x => ([], x)) n x
  | dep+1, n, x => runS (m.step (dep+1) (m.stmts dep)) n x
def Less (x y : Ms) : Prop := y.a + 200 * y.l ≤ x.a + 200 * x.l ∧ y.s + 10 * y.l ≤ x.s + 10 * x.l ∧ y.l ≤ x.l ∧ (x.d ≤ 2 → y.d ≤ 2)
theorem Less.refl (x : Ms) : Less x x := ⟨by omega, by omega, by omega, fun h => h⟩
theorem Less.trans {x y z : Ms} (h : Less x y) (k : Less y z) : Less x z := ⟨by have := h.1; have := k.1; omega, by have := h.2.1; have := k.2.1; omega, by have := h.2.2.1; have := k.2.2.1; omega, fun e => k.2.2.2 (h.2.2.2 e)⟩
theorem Mk.simple_use (m : Mk) (a s : Nat) : (m.simple a s).2.1 ≤ a + 40 ∧ (m.simple a s).2.2 ≤ s + 3 ∧ (m.simple a s).1.length ≤ 3 := by
  have h1 := m.expr_at 1 (a+1)
  have h2 := m.expr_at 2 (a+1+1)
  simp only [useE] at h1 h2
  unfold Mk.simple
  repeat' split
  all_goals (try dsimp only)
  all_goals refine ⟨by omega, by omega, by simp⟩
theorem ite_p {α : Type} {P : α → Prop} {c : Prop} [Decidable c] {x y : α} (hx : P x) (hy : P y) : P (if c then x else y) := by split <;> assumption
theorem Mk.risky_use (m : Mk) (a s : Nat) : (m.risky a s).2.1 ≤ a + 40 ∧ (m.risky a s).2.2 ≤ s + 3 := by
  have h1 := m.expr_at 1 (a+1)
  have h2 := m.expr_at 1 (a+1+1)
  have h3 := m.expr_at 1 (a+1+1+1)
  have h4 := m.expr_at 1 (m.expr 1 (a+1+1)).2
  have h5 := m.cond_at 1 (a+1)
  simp only [useE, useC] at h1 h2 h3 h4 h5
  have key : (fun z : Sm × Nat × Nat => z.2.1 ≤ a + 40 ∧ z.2.2 ≤ s + 3) (m.risky a s) := by
    unfold Mk.risky
    repeat' refine ite_p (P := fun z : Sm × Nat × Nat => z.2.1 ≤ a + 40 ∧ z.2.2 ≤ s + 3) ?_ ?_
    all_goals dsimp only
    all_goals omega
  exact key
theorem Mk.args_at (m : Mk) (a i : Nat) : a ≤ (m.args a i).2 ∧ (m.args a i).2 ≤ a + 6 * i := by
  have h := m.argsD_at a i
  rw [m.argsD_eq] at h
  exact h.2
theorem Mk.hd_mem (m : Mk) (a : Nat) (P : Hd → Prop) (hP : ∀ h ∈ m.heads, P h) (h0 : P zH) : P (m.hd a) := by
  unfold Mk.hd
  rw [List.getD_eq_getElem?_getD]
  cases h : m.heads[(m.nx a m.nH).toNat]? with
  | none => exact h0
  | some x => exact hP x (List.mem_of_getElem? h)
theorem Mk.call_use (m : Mk) (a s d : Nat) (hh : ∀ h ∈ m.heads, h.params.length ≤ 12 ∧ h.given.length ≤ 12) : (m.call a s d).2.1 ≤ a + 100 ∧ (d ≤ 2 → (m.call a s d).2.2 ≤ 2) := by
  have h0 := m.hd_mem (a+1) _ hh (by simp [zH])
  have h1 := m.args_at (a+1+1) (m.hd (a+1)).params.length
  unfold Mk.call
  split
  · simp only; omega
  · simp only; omega
theorem Mk.other_use (m : Mk) (k : Int) (dep : Nat) (x : Ms) (hh : ∀ h ∈ m.heads, h.params.length ≤ 12 ∧ h.given.length ≤ 12) :
    (m.other k dep x).2.a ≤ x.a + 100 ∧ (m.other k dep x).2.s ≤ x.s + 3 ∧ (m.other k dep x).2.l = x.l ∧ (x.d ≤ 2 → (m.other k dep x).2.d ≤ 2) ∧ (m.other k dep x).1.length ≤ 3 := by
  have h1 := m.call_use x.a x.s x.d hh
  have h2 := m.simple_use x.a x.s
  have h3 := m.risky_use x.a x.s
  have h4 := m.expr_at 1 x.a
  simp only [useE] at h4
  unfold Mk.other
  repeat' split
  all_goals dsimp only
  all_goals refine ⟨?_, ?_, rfl, ?_, ?_⟩
  all_goals first | omega | simp | exact h1.2 | exact h2.2.2 | exact fun h => h
theorem Mk.nested_use (m : Mk) {R : Nat → Ms → List Sm × Ms} (hR : ∀ n x, Less x (R n x).2) (k : Int) (x : Ms) :
    (m.nested R k x).2.a + 200 * (m.nested R k x).2.l ≤ x.a + 100 + 200 * x.l ∧ (m.nested R k x).2.s + 10 * (m.nested R k x).2.l ≤ x.s + 3 + 10 * x.l ∧ (m.nested R k x).2.l ≤ x.l ∧ (x.d ≤ 2 → (m.nested R k x).2.d ≤ 2) := by
  have h1 := m.cond_at 1 x.a
  simp only [useC] at h1
  unfold Mk.nested
  split
  · have h2 := hR (1 + m.nx ((m.cond 1 x.a).2+1) 2).toNat ⟨(m.cond 1 x.a).2+1+1, x.s+1, x.l, x.d⟩
    simp only [Less] at h2 ⊢; omega
  split
  · have h2 := hR (1 + m.nx (x.a+1) 2).toNat ⟨x.a+1+1, x.s+1, x.l, x.d⟩
    have h3 := hR (m.nx (R (1 + m.nx (x.a+1) 2).toNat ⟨x.a+1+1, x.s+1, x.l, x.d⟩).2.a 2).toNat ⟨(R (1 + m.nx (x.a+1) 2).toNat ⟨x.a+1+1, x.s+1, x.l, x.d⟩).2.a+1, (R (1 + m.nx (x.a+1) 2).toNat ⟨x.a+1+1, x.s+1, x.l, x.d⟩).2.s, (R (1 + m.nx (x.a+1) 2).toNat ⟨x.a+1+1, x.s+1, x.l, x.d⟩).2.l, (R (1 + m.nx (x.a+1) 2).toNat ⟨x.a+1+1, x.s+1, x.l, x.d⟩).2.d⟩
    simp only [Less] at h2 h3 ⊢; omega
  · have h2 := hR (1 + m.nx (m.cond 1 x.a).2 2).toNat ⟨(m.cond 1 x.a).2+1, x.s+1, x.l, x.d⟩
    have h3 := hR (m.nx (R (1 + m.nx (m.cond 1 x.a).2 2).toNat ⟨(m.cond 1 x.a).2+1, x.s+1, x.l, x.d⟩).2.a 2).toNat ⟨(R (1 + m.nx (m.cond 1 x.a).2 2).toNat ⟨(m.cond 1 x.a).2+1, x.s+1, x.l, x.d⟩).2.a+1, (R (1 + m.nx (m.cond 1 x.a).2 2).toNat ⟨(m.cond 1 x.a).2+1, x.s+1, x.l, x.d⟩).2.s, (R (1 + m.nx (m.cond 1 x.a).2 2).toNat ⟨(m.cond 1 x.a).2+1, x.s+1, x.l, x.d⟩).2.l, (R (1 + m.nx (m.cond 1 x.a).2 2).toNat ⟨(m.cond 1 x.a).2+1, x.s+1, x.l, x.d⟩).2.d⟩
    simp only [Less] at h2 h3 ⊢; omega
theorem Mk.step_use (m : Mk) (hh : ∀ h ∈ m.heads, h.params.length ≤ 12 ∧ h.given.length ≤ 12) (dep : Nat) {R : Nat → Ms → List Sm × Ms} (hR : ∀ n x, Less x (R n x).2) (x : Ms) (hl : x.l ≠ 0) :
    Less x (m.step dep R x).2 ∧ (m.step dep R x).1.length ≤ 3 := by
  have h1 := m.other_use (m.nx x.a 16) dep ⟨x.a+1, x.s, x.l-1, x.d⟩ hh
  have h2 := m.nested_use hR (m.nx x.a 16) ⟨x.a+1, x.s, x.l-1, x.d⟩
  unfold Mk.step
  split
  · simp only [Less, List.length_cons, List.length_nil] at h2 ⊢; omega
  · simp only [Less] at h1 ⊢; omega
theorem runS_use {step : Ms → List Sm × Ms} (h : ∀ x, x.l ≠ 0 → Less x (step x).2) : ∀ n x, Less x (runS step n x).2
  | 0, x => Less.refl x
  | n+1, x => by
    simp only [runS]
    split
    · exact Less.refl x
    · rename_i hl
      exact (h x hl).trans (runS_use h n _)
theorem Mk.stmts_use (m : Mk) (hh : ∀ h ∈ m.heads, h.params.length ≤ 12 ∧ h.given.length ≤ 12) : ∀ dep n x, Less x (m.stmts dep n x).2
  | 0, n, x => runS_use (fun x hl => (m.step_use hh 0 (fun _ x => Less.refl x) x hl).1) n x
  | dep+1, n, x => runS_use (fun x hl => (m.step_use hh (dep+1) (m.stmts_use hh dep) x hl).1) n x
end Abs
namespace Abs
open Go Go.Proofs
set_option maxRecDepth 100000
set_option maxHeartbeats 4000000
structure Mk.Fine (m : Mk) : Prop where
  ok : m.Ok
  calm : m.calm = false
  heads : ∀ h ∈ m.heads, h.params.length ≤ 12 ∧ h.given.length ≤ 12
  nh : m.heads.length < 2^30
theorem lst_one (s : Sm) : lst 20 encS [s] = .sl 20 [encS s] false := rfl
theorem other_ok (m : Mk) (k : Int) (dep a s l p d : Nat) (fine : m.Fine) (h : a + 1000 < 2^60) (h' : s + 10 < 2^60) (hd : d < 2^60) (hk : 0 ≤ k ∧ k < 16) :
    CallsA Tryz.prog 187 [mp, it k, it dep] (ctM m a s l p d) (lst 20 encS (m.other k dep ⟨a, s, l, d⟩).1) (ctM m (m.other k dep ⟨a, s, l, d⟩).2.a (m.other k dep ⟨a, s, l, d⟩).2.s l p (m.other k dep ⟨a, s, l, d⟩).2.d) := by
  have hc := fine.calm
  have hc' : (!m.calm) = true := by simp [hc]
  have hv : 0 < m.D.vars := by have := fine.ok.vars; have := m.nP_eq; omega
  have one : ∀ a, a + 6 < 2^60 → CallsA Tryz.prog 207 [mp, it 1] (ctM m a (s+1) l p d) (encE (m.expr 1 a).1) (ctM m ((m.expr 1 a).2) (s+1) l p d) := fun a h => expr_ok m (s+1) l p d hv 1 a (by simp only [useE]; omega) (by omega)
  by_cases c1 : 4 ≤ k ∧ k < 10
  · have e : m.other k dep ⟨a, s, l, d⟩ = ([(m.call a s d).1], ⟨(m.call a s d).2.1, s+1, l, (m.call a s d).2.2⟩) := by rw [Mk.other, if_pos c1]
    have e1 : decide (k ≥ 4) = true := by simp; omega
    have e2 : decide (k < 10) = true := by simp; omega
    rw [e]
    refine fn_ok hm Tryz.func187 (fun _ => false) [] (fun _ => []) (by kernel_rfl) ?_
    refine run ?_; repeat ((apply call_ok; first | exact (mcall_ok m a s l p d hc h h' hd fine.ok fine.heads fine.nh)); refine run ?_)
    exact Done.mk rfl rfl
  have e12 : (decide (k ≥ 4) && decide (k < 10)) = false := by simp; omega
  by_cases c2 : k = 10
  · have e : m.other k dep ⟨a, s, l, d⟩ = ([S0 (s+1 : Nat) 14 0 0 (1 + m.nx a 3) zE zE zC], ⟨a+1, s+1, l, d⟩) := by rw [Mk.other, if_neg c1, if_pos c2]
    have b := m.nx_bd a (n := 3) (by omega)
    rw [e]; subst c2
    refine fn_ok hm Tryz.func187 (fun _ => false) [] (fun _ => []) (by kernel_rfl) ?_
    refine run ?_; repeat ((apply call_ok; first | exact (site_ok m _ _ _ _ _ (by omega)) | exact (next_ok m _ _ _ _ _ _ (by omega) (by omega))); refine run ?_)
    exact Done.mk rfl rfl
  have e3 : (k == 10) = false := by simpa using c2
  by_cases c3 : k = 11 ∧ dep < 2
  · have e : m.other k dep ⟨a, s, l, d⟩ = ([S0 (s+1 : Nat) 24 0 0 0 (m.expr 1 a).1 zE zC], ⟨(m.expr 1 a).2, s+1, l, d⟩) := by rw [Mk.other, if_neg c1, if_neg c2, if_pos c3]
    have e6 : decide ((dep : Int) < 2) = true := by simp; omega
    rw [e]; obtain ⟨rfl, _⟩ := c3
    refine fn_ok hm Tryz.func187 (fun _ => false) [] (fun _ => []) (by kernel_rfl) ?_
    refine run ?_; repeat ((apply call_ok; first | exact (site_ok m _ _ _ _ _ (by omega)) | exact (one _ (by omega))); refine run ?_)
    exact Done.mk rfl rfl
  by_cases c4 : k < 4
  · have e : m.other k dep ⟨a, s, l, d⟩ = ((m.simple a s).1, ⟨(m.simple a s).2.1, (m.simple a s).2.2, l, d⟩) := by rw [Mk.other, if_neg c1, if_neg c2, if_neg c3, if_pos c4]
    have e1 : decide (k ≥ 4) = false := by simp; omega
    have e4 : (k == 11) = false := by simp; omega
    have e5 : decide (k < 4) = true := by simpa using c4
    rw [e]
    refine fn_ok hm Tryz.func187 (fun _ => false) [] (fun _ => []) (by kernel_rfl) ?_
    refine run ?_; repeat ((apply call_ok; first | exact (simple_ok m a s l p d (by omega) (by omega) fine.ok)); refine run ?_)
    exact Done.mk rfl rfl
  · have e : m.other k dep ⟨a, s, l, d⟩ = ([(m.risky a s).1], ⟨(m.risky a s).2.1, (m.risky a s).2.2, l, d⟩) := by rw [Mk.other, if_neg c1, if_neg c2, if_neg c3, if_neg c4]
    have e1 : decide (k ≥ 4) = true := by simp; omega
    have e2 : decide (k < 10) = false := by simp; omega
    have e5 : decide (k < 4) = false := by simpa using c4
    rw [e]
    refine (Bool.eq_false_or_eq_true (k == 11)).elim (fun e4 => ?_) (fun e4 => ?_)
    · have e6 : decide ((dep : Int) < 2) = false := by simp at e4 c3 ⊢; have := c3 e4; omega
      refine fn_ok hm Tryz.func187 (fun _ => false) [] (fun _ => []) (by kernel_rfl) ?_
      refine run ?_; repeat ((apply call_ok; first | exact (risky_ok m a s l p d (by omega) (by omega) fine.ok)); refine run ?_)
      exact Done.mk rfl rfl
    · refine fn_ok hm Tryz.func187 (fun _ => false) [] (fun _ => []) (by kernel_rfl) ?_
      refine run ?_; repeat ((apply call_ok; first | exact (risky_ok m a s l p d (by omega) (by omega) fine.ok)); refine run ?_)
      exact Done.mk rfl rfl
def ListOk (m : Mk) (pb : Nat) (l' : Int) (R : Nat → Ms → List Sm × Ms) : Prop :=
  ∀ (n a s l p d : Nat), n ≤ 2 → a + 200 * l + 1000 < 2^59 → s + 10 * l + 100 < 2^59 → d ≤ 2 → p < pb → l < 2^50 →
    CallsA Tryz.prog 149 [mp, it n, it l'] (ctM m a s l p d) (lst 20 encS (R n ⟨a, s, l, d⟩).1) (ctM m (R n ⟨a, s, l, d⟩).2.a (R n ⟨a, s, l, d⟩).2.s (R n ⟨a, s, l, d⟩).2.l p (R n ⟨a, s, l, d⟩).2.d)
theorem encS_nest (x o n v : Int) (c : Co) (b e : List Sm) : encS (.mk x o n 0 v zE zE c [] [] b e) = .agg ([it x, it o, it n, it 0, it v] ++ (cE zE ++ (cE zE ++ (cC c ++ [.sl 4 [] false, .sl 1 [] false, lst 20 encS b, lst 20 encS e])))) := by
  simp [encS, cS, Sm.site, Sm.op, Sm.n, Sm.m, Sm.v, Sm.x, Sm.y, Sm.c, Sm.args, Sm.ptrs, Sm.body, Sm.els, encEs, encSs_map, ints, lst]
theorem nested_no (m : Mk) (k : Int) (dep a s l p d : Nat) (h : dep = 0 ∨ k < 4 ∨ 7 < k) : CallsA Tryz.prog 186 [mp, it k, it dep] (ctM m a s l p d) (.tup [encS (S0 0 0 0 0 0 zE zE zC), bo false]) (ctM m a s l p d) := by
  refine (Bool.eq_false_or_eq_true ((dep : Int) == 0)).elim (fun e1 => ?_) (fun e1 => ?_)
  · refine fn_ok hm Tryz.func186 (fun _ => false) [] (fun _ => []) (by kernel_rfl) ?_
    refine run ?_
    exact Done.mk rfl rfl
  refine (Bool.eq_false_or_eq_true (decide (k < 4))).elim (fun e2 => ?_) (fun e2 => ?_)
  · refine fn_ok hm Tryz.func186 (fun _ => false) [] (fun _ => []) (by kernel_rfl) ?_
    refine run ?_
    exact Done.mk rfl rfl
  have e3 : decide (k > 7) = true := by simp at e1 e2 ⊢; omega
  refine fn_ok hm Tryz.func186 (fun _ => false) [] (fun _ => []) (by kernel_rfl) ?_
  refine run ?_
  exact Done.mk rfl rfl
theorem nested_ok (m : Mk) (k : Int) (dep a s l p d : Nat) (fine : m.Fine) (h : a + 200 * l + 1100 < 2^59) (h' : s + 10 * l + 103 < 2^59) (hd : d ≤ 2) {pb : Nat} (hpb : pb ≤ 2^58) (hp : p + 1 < pb) (hl : l < 2^50) (hk : 4 ≤ k ∧ k ≤ 7) (hdep : dep < 2^50)
    {R : Nat → Ms → List Sm × Ms} (hR : ListOk m pb (((dep+1 : Nat) : Int) - 1) R) (hu : ∀ n x, Less x (R n x).2) :
    CallsA Tryz.prog 186 [mp, it k, it (dep+1 : Nat)] (ctM m a s l p d) (.tup [encS (m.nested R k ⟨a, s, l, d⟩).1, bo true]) (ctM m (m.nested R k ⟨a, s, l, d⟩).2.a (m.nested R k ⟨a, s, l, d⟩).2.s (m.nested R k ⟨a, s, l, d⟩).2.l p (m.nested R k ⟨a, s, l, d⟩).2.d) := by
  have hv : 0 < m.D.vars := by have := fine.ok.vars; have := m.nP_eq; omega
  have e1 : (((dep+1 : Nat) : Int) == 0) = false := by simp; omega
  have e2 : decide (k < 4) = false := by simp; omega
  have e3 : decide (k > 7) = false := by simp; omega
  have c1 : CallsA Tryz.prog 204 [mp, it 1] (ctM m a (s+1) l p d) (encC (m.cond 1 a).1) (ctM m ((m.cond 1 a).2) (s+1) l p d) := cond_ok m (s+1) l p d hv 1 a (by simp only [useC]; omega) (by omega)
  have g1 := m.cond_at 1 a
  simp only [useC] at g1
  by_cases k6 : k = 6
  · subst k6
    have b1 := m.nx_bd (m.cond 1 a).2 (n := 3) (by omega)
    have b2 := m.nx_bd ((m.cond 1 a).2+1) (n := 2) (by omega)
    have n1 : ((1 + m.nx ((m.cond 1 a).2+1) 2).toNat : Int) = 1 + m.nx ((m.cond 1 a).2+1) 2 := by omega
    have r1 := hR (1 + m.nx ((m.cond 1 a).2+1) 2).toNat ((m.cond 1 a).2+1+1) (s+1) l (p+1) d (by omega) (by omega) (by omega) hd hp hl
    rw [n1] at r1
    have e : m.nested R 6 ⟨a, s, l, d⟩ = (.mk (s+1 : Nat) 12 0 0 (1 + m.nx (m.cond 1 a).2 3) zE zE (m.cond 1 a).1 [] [] (R (1 + m.nx ((m.cond 1 a).2+1) 2).toNat ⟨(m.cond 1 a).2+1+1, s+1, l, d⟩).1 [], (R (1 + m.nx ((m.cond 1 a).2+1) 2).toNat ⟨(m.cond 1 a).2+1+1, s+1, l, d⟩).2) := by rw [Mk.nested, if_pos rfl]
    rw [e]
    have p1 : ((p + 1 : Nat) : Int) - 1 = p := by omega
    refine fn_ok hm Tryz.func186 (fun _ => false) [] (fun _ => []) (by kernel_rfl) ?_
    refine run ?_; repeat ((apply call_ok; first | exact (site_ok m _ _ _ _ _ (by omega)) | exact (c1) | exact (next_ok m _ _ _ _ _ _ (by omega) (by omega)) | exact (r1)); refine run ?_)
    exact Done.mk (by rw [encS_nest]; rfl) rfl
  by_cases k7 : k = 7
  · subst k7
    have b2 := m.nx_bd (a+1) (n := 2) (by omega)
    have n1 : ((1 + m.nx (a+1) 2).toNat : Int) = 1 + m.nx (a+1) 2 := by omega
    have u1 := hu (1 + m.nx (a+1) 2).toNat ⟨a+1+1, s+1, l, d⟩
    have r1 := hR (1 + m.nx (a+1) 2).toNat (a+1+1) (s+1) l p d (by omega) (by omega) (by omega) hd (by omega) hl
    generalize hb : R (1 + m.nx (a+1) 2).toNat ⟨a+1+1, s+1, l, d⟩ = b at *
    have b3 := m.nx_bd b.2.a (n := 2) (by omega)
    have n2 : ((m.nx b.2.a 2).toNat : Int) = m.nx b.2.a 2 := by omega
    simp only [Less] at u1
    have r2 := hR (m.nx b.2.a 2).toNat (b.2.a+1) b.2.s b.2.l p b.2.d (by omega) (by omega) (by omega) (by omega) (by omega) (by omega)
    rw [n1] at r1
    rw [n2] at r2
    have e : m.nested R 7 ⟨a, s, l, d⟩ = (.mk (s+1 : Nat) 15 (m.tg a) 0 0 zE zE zC [] [] b.1 (R (m.nx b.2.a 2).toNat ⟨b.2.a+1, b.2.s, b.2.l, b.2.d⟩).1, (R (m.nx b.2.a 2).toNat ⟨b.2.a+1, b.2.s, b.2.l, b.2.d⟩).2) := by
      rw [Mk.nested, if_neg (by omega), if_pos rfl]; simp only [hb]
    rw [e]
    refine fn_ok hm Tryz.func186 (fun _ => false) [] (fun _ => []) (by kernel_rfl) ?_
    refine run ?_; repeat ((apply call_ok; first | exact (site_ok m _ _ _ _ _ (by omega)) | exact (target_ok m _ _ _ _ _ (by omega) fine.ok) | exact (r1) | exact (r2) | exact (next_ok m _ _ _ _ _ _ (by omega) (by omega))); refine run ?_)
    exact Done.mk (by rw [encS_nest]; rfl) rfl
  · have k67 : (k == 6) = false := by simpa using k6
    have k77 : (k == 7) = false := by simpa using k7
    have b2 := m.nx_bd (m.cond 1 a).2 (n := 2) (by omega)
    have n1 : ((1 + m.nx (m.cond 1 a).2 2).toNat : Int) = 1 + m.nx (m.cond 1 a).2 2 := by omega
    have u1 := hu (1 + m.nx (m.cond 1 a).2 2).toNat ⟨(m.cond 1 a).2+1, s+1, l, d⟩
    have r1 := hR (1 + m.nx (m.cond 1 a).2 2).toNat ((m.cond 1 a).2+1) (s+1) l p d (by omega) (by omega) (by omega) hd (by omega) hl
    generalize hb : R (1 + m.nx (m.cond 1 a).2 2).toNat ⟨(m.cond 1 a).2+1, s+1, l, d⟩ = b at *
    have b3 := m.nx_bd b.2.a (n := 2) (by omega)
    have n2 : ((m.nx b.2.a 2).toNat : Int) = m.nx b.2.a 2 := by omega
    simp only [Less] at u1
    have r2 := hR (m.nx b.2.a 2).toNat (b.2.a+1) b.2.s b.2.l p b.2.d (by omega) (by omega) (by omega) (by omega) (by omega) (by omega)
    rw [n1] at r1
    rw [n2] at r2
    have e : m.nested R k ⟨a, s, l, d⟩ = (.mk (s+1 : Nat) 11 0 0 0 zE zE (m.cond 1 a).1 [] [] b.1 (R (m.nx b.2.a 2).toNat ⟨b.2.a+1, b.2.s, b.2.l, b.2.d⟩).1, (R (m.nx b.2.a 2).toNat ⟨b.2.a+1, b.2.s, b.2.l, b.2.d⟩).2) := by
      rw [Mk.nested, if_neg k6, if_neg k7]; simp only [hb]
    rw [e]
    refine fn_ok hm Tryz.func186 (fun _ => false) [] (fun _ => []) (by kernel_rfl) ?_
    refine run ?_; repeat ((apply call_ok; first | exact (site_ok m _ _ _ _ _ (by omega)) | exact (c1) | exact (r1) | exact (r2) | exact (next_ok m _ _ _ _ _ _ (by omega) (by omega))); refine run ?_)
    exact Done.mk (by rw [encS_nest]; rfl) rfl
end Abs
namespace Abs
open Go Go.Proofs
set_option maxRecDepth 100000
set_option maxHeartbeats 4000000
theorem HeadS.inv {W : List Nat} {body : St → (Out → St → Prop) → Prop} {K : Out → St → Prop} {s : St} {ι : Type} (J : ι → Prop) (m : ι → Mods) (μ : ι → Nat) (i0 : ι) (h0 : J i0) (hh : Holds s (s.with W (m i0)) (m i0))
    (hd : deadH s W = true) (hr : deadR s (rowDsts W) = true) (ht : ∀ i, tidy W (rowDsts W) (m i) = true ∧ liveH s (m i).H = true ∧ liveR s (m i).R = true)
    (hb : ∀ i, J i → body (s.with W (m i)) fun e s' => match e with
        | .normal => ∃ j : { i // J i }, μ j.1 < μ i ∧ s'.y = s.y ∧ Holds s' (s.with W (m j.1)) (m j.1)
        | e => K e s') : HeadS W body K s :=
  ⟨{ i // J i }, ⟨i0, h0⟩, fun i => m i.1, fun _ => s.y, fun i => μ i.1, ⟨rfl, hh⟩, hd, hr, fun i => ⟨ht i.1, hb i.1 i.2⟩⟩
structure Rnd where
  i : Nat
  acc : List Dat
  x : Ms
structure RndOk (step : Ms → List Sm × Ms) (n : Nat) (x0 : Ms) (r : Rnd) : Prop where
  i : r.i ≤ n
  out : r.acc ++ (runS step (n - r.i) r.x).1.map encS = (runS step n x0).1.map encS
  end' : (runS step (n - r.i) r.x).2 = (runS step n x0).2
  less : Less x0 r.x
  len : r.acc.length ≤ 3 * r.i
theorem RndOk.next {step : Ms → List Sm × Ms} {n : Nat} {x0 : Ms} {r : Rnd} (h : RndOk step n x0 r) (h1 : r.i < n) (h2 : r.x.l ≠ 0) (hl : Less r.x (step r.x).2) (h3 : (step r.x).1.length ≤ 3) :
    RndOk step n x0 ⟨r.i + 1, r.acc ++ (step r.x).1.map encS, (step r.x).2⟩ := by
  have e : n - r.i = (n - (r.i + 1)) + 1 := by omega
  have o := h.out
  have q := h.end'
  rw [e] at o q
  simp only [runS, if_neg h2] at o q
  refine ⟨h1, ?_, q, h.less.trans hl, ?_⟩
  · rw [← o]; simp
  · have := h.len
    simp only [List.length_append, List.length_map]; omega
theorem RndOk.last {step : Ms → List Sm × Ms} {n : Nat} {x0 : Ms} {r : Rnd} (h : RndOk step n x0 r) (h1 : r.i = n ∨ r.x.l = 0) : r.acc = (runS step n x0).1.map encS ∧ r.x = (runS step n x0).2 := by
  have o := h.out
  have q := h.end'
  have e : runS step (n - r.i) r.x = ([], r.x) := by
    rcases h1 with h1 | h1
    · rw [h1, Nat.sub_self]; rfl
    · cases n - r.i with
      | zero => rfl
      | succ k => simp only [runS, if_pos h1]
  rw [e] at o q
  exact ⟨by simpa using o, q⟩
theorem list_ok (m : Mk) (fine : m.Fine) (dep : Nat) (hdep : dep < 2^40) {R : Nat → Ms → List Sm × Ms} (hu : ∀ n x, Less x (R n x).2) (hR : 0 < dep → ListOk m (2^50 + 1 - dep) ((dep : Int) - 1) R)
    (n a s l p d : Nat) (hn : n ≤ 2^20) (h : a + 200 * l + 1000 < 2^59) (h' : s + 10 * l + 100 < 2^59) (hd : d ≤ 2) (hp : p < 2^50 - dep) (hl : l < 2^50) :
    CallsA Tryz.prog 149 [mp, it n, it dep] (ctM m a s l p d) (lst 20 encS (runS (m.step dep R) n ⟨a, s, l, d⟩).1)
      (ctM m (runS (m.step dep R) n ⟨a, s, l, d⟩).2.a (runS (m.step dep R) n ⟨a, s, l, d⟩).2.s (runS (m.step dep R) n ⟨a, s, l, d⟩).2.l p (runS (m.step dep R) n ⟨a, s, l, d⟩).2.d) := by
  refine fn_ok hm Tryz.func149 (fun _ => false) [] (fun _ => []) (by kernel_rfl) ?_
  refine run ?_
  refine LoopS.mk ⟨[], HeadS.inv (RndOk (m.step dep R) n ⟨a, s, l, d⟩) (fun r => ⟨[(8, it r.i), (7, .ref 12 r.acc.length)], [(1000, encMk m r.x.a r.x.s r.x.l p r.x.d)], [(12, ⟨20, true, r.acc⟩)]⟩) (fun r => n - r.i) ⟨0, [], ⟨a, s, l, d⟩⟩
    ⟨Nat.zero_le _, by simp, by simp, Less.refl _, by simp⟩ ?_ ?_ ?_ ?_ ?_⟩
  · repeat' (first | exact trivial | exact rfl | refine ⟨?_, ?_⟩ | refine ⟨?_, ?_, ?_⟩)
  · kernel_rfl
  · kernel_rfl
  · intro r; exact ⟨rfl, rfl, rfl⟩
  intro r hr
  have q1 := hr.i
  have q2 := hr.less
  have q3 := hr.len
  simp only [Less] at q2
  by_cases hlast : r.i = n ∨ r.x.l = 0
  · obtain ⟨z1, z2⟩ := hr.last hlast
    rw [← z2]
    refine (Bool.eq_false_or_eq_true (decide ((r.i : Int) < n))).elim (fun b1 => ?_) (fun b1 => ?_)
    · have b2 : decide ((r.x.l : Int) > 0) = false := by simp at b1 ⊢; omega
      refine run ?_
      exact Done.mk (by rw [lst, ← z1]; rfl) rfl
    · refine run ?_
      exact Done.mk (by rw [lst, ← z1]; rfl) rfl
  have b1 : decide ((r.i : Int) < n) = true := by simp; omega
  have b2 : decide ((r.x.l : Int) > 0) = true := by simp; omega
  have el : (r.x.l : Int) - 1 = ((r.x.l - 1 : Nat) : Int) := by omega
  have bk := m.nx_bd r.x.a (n := 16) (by omega)
  have hs := m.step_use fine.heads dep hu r.x (by omega)
  have hnx := hr.next (by omega) (by omega) hs.1 hs.2
  by_cases hnest : 0 < dep ∧ 4 ≤ m.nx r.x.a 16 ∧ m.nx r.x.a 16 ≤ 7
  · have e : m.step dep R r.x = ([(m.nested R (m.nx r.x.a 16) ⟨r.x.a+1, r.x.s, r.x.l-1, r.x.d⟩).1], (m.nested R (m.nx r.x.a 16) ⟨r.x.a+1, r.x.s, r.x.l-1, r.x.d⟩).2) := by rw [Mk.step, if_pos hnest]
    rw [e] at hnx
    obtain ⟨dep', rfl⟩ : ∃ k, dep = k + 1 := ⟨dep - 1, by omega⟩
    have hc := nested_ok m (m.nx r.x.a 16) dep' (r.x.a+1) r.x.s (r.x.l-1) p r.x.d fine (by omega) (by omega) (by omega) (pb := 2^50 + 1 - (dep' + 1)) (by omega) (by omega) (by omega) hnest.2 (by omega) (hR hnest.1) hu
    refine run ?_; repeat ((apply call_ok; first | exact (next_ok m _ _ _ _ _ _ (by omega) (by omega)) | exact (hc)); refine run ?_)
    refine ⟨⟨_, hnx⟩, ?_, ?_⟩
    · show n - (r.i + 1) < n - r.i; omega
    · repeat' (first | exact trivial | exact rfl | refine ⟨?_, ?_⟩ | refine ⟨?_, ?_, ?_⟩)
  · have e : m.step dep R r.x = m.other (m.nx r.x.a 16) dep ⟨r.x.a+1, r.x.s, r.x.l-1, r.x.d⟩ := by rw [Mk.step, if_neg hnest]
    rw [e] at hnx hs
    have hc := nested_no m (m.nx r.x.a 16) dep (r.x.a+1) r.x.s (r.x.l-1) p r.x.d (by omega)
    have hx := (m.other_use (m.nx r.x.a 16) dep ⟨r.x.a+1, r.x.s, r.x.l-1, r.x.d⟩ fine.heads).2.2.1
    have ho : CallsA Tryz.prog 187 [mp, it (m.nx r.x.a 16), it dep] (ctM m (r.x.a+1) r.x.s (r.x.l-1) p r.x.d) (lst 20 encS (m.other (m.nx r.x.a 16) dep ⟨r.x.a+1, r.x.s, r.x.l-1, r.x.d⟩).1)
        (ctM m (m.other (m.nx r.x.a 16) dep ⟨r.x.a+1, r.x.s, r.x.l-1, r.x.d⟩).2.a (m.other (m.nx r.x.a 16) dep ⟨r.x.a+1, r.x.s, r.x.l-1, r.x.d⟩).2.s (m.other (m.nx r.x.a 16) dep ⟨r.x.a+1, r.x.s, r.x.l-1, r.x.d⟩).2.l p (m.other (m.nx r.x.a 16) dep ⟨r.x.a+1, r.x.s, r.x.l-1, r.x.d⟩).2.d) := by
      rw [hx]; exact other_ok m (m.nx r.x.a 16) dep (r.x.a+1) r.x.s (r.x.l-1) p r.x.d fine (by omega) (by omega) (by omega) bk
    have h3 := hs.2
    refine run ?_; repeat ((apply call_ok; first | exact (next_ok m _ _ _ _ _ _ (by omega) (by omega)) | exact (hc) | exact (ho)); refine run ?_)
    refine ⟨⟨_, hnx⟩, ?_, ?_⟩
    · show n - (r.i + 1) < n - r.i; omega
    · repeat' (first | exact trivial | exact rfl | refine ⟨?_, ?_⟩ | refine ⟨?_, ?_, ?_⟩)
theorem stmts_ok (m : Mk) (fine : m.Fine) (n : Nat) (hn : n ≤ 2^20) : ∀ (dep a s l p d : Nat), dep < 2^40 → a + 200 * l + 1000 < 2^59 → s + 10 * l + 100 < 2^59 → d ≤ 2 → p < 2^50 - dep → l < 2^50 →
    CallsA Tryz.prog 149 [mp, it n, it dep] (ctM m a s l p d) (lst 20 encS (m.stmts dep n ⟨a, s, l, d⟩).1) (ctM m (m.stmts dep n ⟨a, s, l, d⟩).2.a (m.stmts dep n ⟨a, s, l, d⟩).2.s (m.stmts dep n ⟨a, s, l, d⟩).2.l p (m.stmts dep n ⟨a, s, l, d⟩).2.d)
  | 0, a, s, l, p, d, h1, h2, h3, h4, h5, h6 => list_ok m fine 0 h1 (fun _ x => Less.refl x) (fun h => absurd h (Nat.lt_irrefl 0)) n a s l p d hn h2 h3 h4 h5 h6
  | dep + 1, a, s, l, p, d, h1, h2, h3, h4, h5, h6 => by
    refine list_ok m fine (dep + 1) h1 (m.stmts_use fine.heads dep) (fun _ => ?_) n a s l p d hn h2 h3 h4 h5 h6
    intro n a s l p d g1 g2 g3 g4 g5 g6
    have e : ((dep + 1 : Nat) : Int) - 1 = (dep : Int) := by omega
    rw [e]
    exact stmts_ok m fine n (by omega) dep a s l p d (by omega) g2 g3 g4 (by omega) g6
end Abs
