/- A part of a proof: an abstract machine, proved sound, or contracts of functions. No condition. -/
import Derived.RangeFuncCalls
import Derived.RangeFuncRecord
import Derived.RangeFuncLeaves
import Derived.OrdersIn
import Derived.Test.YtcbpfnplkdijpaaGreatT2
set_option linter.unusedVariables false
set_option linter.unusedSimpArgs false
namespace Abs
open Go
theorem allSome_congr {ρ ρ' : TypeId → Operand → Option Dat} : ∀ {l : List Operand} {ts : List TypeId}, (∀ t x, x ∈ l → ρ t x = ρ' t x) → typedArgs ρ l ts = typedArgs ρ' l ts
  | [], ts, _ => by cases ts <;> rfl
  | x :: l, [], h => by
    simp only [typedArgs]
    rw [h 0 x (by simp), allSome_congr (fun t y hy => h t y (by simp [hy]))]
  | x :: l, t :: ts, h => by
    simp only [typedArgs]
    rw [h t x (by simp), allSome_congr (fun t y hy => h t y (by simp [hy]))]
theorem plan_congr {P : Program} {o : Oper} {ρ ρ' : TypeId → Operand → Option Dat} (h : ∀ t x, x ∈ o.op.operands → ρ t x = ρ' t x) : plan P o ρ = plan P o ρ' := by
  have two : ∀ {x y : Operand}, o.op.operands = #[x, y] → (∀ t, ρ t x = ρ' t x) ∧ ∀ t, ρ t y = ρ' t y := fun {x y} e =>
    ⟨fun t => h t x (by rw [e]; simp), fun t => h t y (by rw [e]; simp)⟩
  have one : ∀ {x : Operand}, o.op.operands = #[x] → ∀ t, ρ t x = ρ' t x := fun {x} e t => h t x (by rw [e]; simp)
  have parts : ∀ (ps : Array (Nat × Operand)) (τ : Nat × Operand → TypeId), (∀ x ∈ ps.toList.map (·.2), ∀ t, ρ t x = ρ' t x) → (ps.toList.map fun p => (p.1, ρ (τ p) p.2)) = ps.toList.map fun p => (p.1, ρ' (τ p) p.2) := by
    intro ps τ hp
    refine List.map_congr_left fun p hm => ?_
    rw [hp p.2 (List.mem_map.2 ⟨p, hm, rfl⟩)]
  have opt : ∀ {x : Option Operand}, (∀ y, x = some y → ∀ t, ρ t y = ρ' t y) → optInt ρ x = optInt ρ' x := by
    intro x hx
    cases x with
    | none => rfl
    | some y => simp only [optInt]; rw [hx y rfl]
  unfold plan
  cases ho : o.op with
  | move x => dsimp only; rw [one (by rw [ho]; rfl)]
  | assign x => dsimp only; rw [one (by rw [ho]; rfl)]
  | pick c x y =>
    have hh : ∀ z ∈ #[c, x, y], ∀ t, ρ t z = ρ' t z := fun z hz t => h t z (by rw [ho]; exact hz)
    dsimp only
    rw [hh c (by simp), hh x (by simp), hh y (by simp)]
  | alloc t => rfl
  | box t x => dsimp only; rw [one (by rw [ho]; rfl)]
  | build t ps =>
    dsimp only
    rw [parts ps (fun p => (fieldAt P t p.1).2) fun x hx t => h t x (by rw [ho]; simpa [Op.operands] using hx)]
  | buildSlice t n ps =>
    dsimp only
    rw [parts ps (fun p => elemT P t) fun x hx t => h t x (by rw [ho]; simpa [Op.operands] using hx)]
  | load t x => dsimp only; rw [one (by rw [ho]; rfl)]
  | store t x y =>
    obtain ⟨h1, h2⟩ := two (by rw [ho]; rfl)
    dsimp only; rw [h1, h2]
  | nilCheck x => dsimp only; rw [one (by rw [ho]; rfl)]
  | binOp op t x y t' =>
    obtain ⟨h1, h2⟩ := two (by rw [ho]; rfl)
    dsimp only; rw [h1, h2]
  | unOp op t x => dsimp only; rw [one (by rw [ho]; rfl)]
  | convert s d x => dsimp only; rw [one (by rw [ho]; rfl)]
  | makeFunc fn first cap =>
    dsimp only
    rw [List.map_congr_left (l := first.toList) fun x hx => h 0 x (by rw [ho]; simp [Op.operands]; exact .inl (by simpa using hx)),
      List.map_congr_left (l := cap.toList) fun x hx => h 0 x (by rw [ho]; simp [Op.operands]; exact .inr (by simpa using hx))]
  | slice t x lo hi mx =>
    cases mx with
    | some m => rfl
    | none =>
      dsimp only
      rw [h t x (by rw [ho]; simp [Op.operands]), opt (x := lo) fun y hy t => h t y (by subst hy; rw [ho]; simp [Op.operands]), opt (x := hi) fun y hy t => h t y (by subst hy; rw [ho]; simp [Op.operands])]
  | fieldAddr t x f => dsimp only; rw [one (by rw [ho]; rfl)]
  | field t x f => dsimp only; rw [one (by rw [ho]; rfl)]
  | indexAddr t x y =>
    obtain ⟨h1, h2⟩ := two (by rw [ho]; rfl)
    dsimp only; rw [h1, h2]
  | index t x y =>
    obtain ⟨h1, h2⟩ := two (by rw [ho]; rfl)
    dsimp only; rw [h1, h2]
  | extract x i => dsimp only; rw [one (by rw [ho]; rfl)]
  | call c =>
    dsimp only
    unfold callPlan
    rw [allSome_congr (ρ := ρ) (ρ' := ρ') (l := c.args.toList) fun t x hx => h t x (by rw [ho]; simp [Op.operands, Call.operands]; exact .inr (by simpa using hx))]
    cases hc : c.callee with
    | value f => dsimp only; rw [h 0 f (by rw [ho]; simp [Op.operands, Call.operands, hc])]
    | _ => rfl
  | _ => rfl
def opEx (P : Program) (c : Cfg) (all : List Oper) (o : Oper) (s : St) (K : Rec → St → Prop) : Prop :=
  guardOf all s o (exPlan P c o.dst s (fun s' => K ((touch o.dst s (plan P o (getT P s))).seen s s') s') (plan P o (getT P s))) (K .nil (s.forget o.dst))
def opTo (P : Program) (c : Cfg) (all : List Oper) (o : Oper) (u u' : St) : Prop :=
  guardOf all u o (∀ K : St → Prop, K u' → exPlan P c o.dst u K (plan P o (getT P u))) (u' = u.forget o.dst)
structure LocStep (P : Program) (c : Cfg) (all : List Oper) (o : Oper) (s s' : St) (r : Rec) : Prop where
  out : ∀ u, Agr r s u → (∀ t ∈ readsOf all o, s.env t = u.env t) → ∃ u', Par s u s' u' o.dst r.wh r.wr ∧ opTo P c all o u u'
  wv : ∀ l ∈ r.wh, (l, s.H l, s'.H l) ∈ r.wv
  wv' : ∀ x ∈ r.wv, x.1 ∈ r.wh
theorem guardOf_mono {all : List Oper} {s : St} {o : Oper} {X Y X' Y' : Prop} (h : guardOf all s o X Y) (hx : X → X') (hy : Y → Y') : guardOf all s o X' Y' := by
  unfold guardOf at *
  split at h
  · exact hx h
  · split at h
    · split at h
      · split at h
        · exact BrW_of ⟨fun e => hx ((BrW_to h).t e), fun e => hy ((BrW_to h).f e)⟩
        · exact hy h
        · exact h.elim
      · exact h.elim
    · exact h.elim
theorem guardOf_cases {all : List Oper} {s : St} {o : Oper} {X Y : Prop} (h : guardOf all s o X Y) :
    (X ∧ ∀ u : St, (∀ t ∈ readsOf all o, s.env t = u.env t) → ∀ X' Y' : Prop, X' → guardOf all u o X' Y') ∨
    (Y ∧ ∀ u : St, (∀ t ∈ readsOf all o, s.env t = u.env t) → ∀ X' Y' : Prop, Y' → guardOf all u o X' Y') := by
  unfold guardOf at h
  split at h
  · rename_i hg
    exact .inl ⟨h, fun u _ X' Y' hx => by unfold guardOf; rw [hg]; exact hx⟩
  · rename_i j want hg
    split at h
    · rename_i oj hj
      split at h
      · rename_i t ht
        have hmem : t ∈ readsOf all o := by
          unfold readsOf Oper.looksAt
          refine List.mem_append_right _ ?_
          rw [hg]
          rw [nth_eq] at hj
          simp [hj, ht]
        split at h
        · rename_i b hb
          cases hbw : (b == want) with
          | true =>
            refine .inl ⟨(BrW_to h).t hbw, fun u hu X' Y' hx => ?_⟩
            unfold guardOf
            rw [hg]; dsimp only
            rw [hj]; dsimp only
            rw [ht]; dsimp only
            rw [← hu t hmem, hb]
            exact BrW_of ⟨fun _ => hx, fun e => by rw [hbw] at e; cases e⟩
          | false =>
            refine .inr ⟨(BrW_to h).f hbw, fun u hu X' Y' hx => ?_⟩
            unfold guardOf
            rw [hg]; dsimp only
            rw [hj]; dsimp only
            rw [ht]; dsimp only
            rw [← hu t hmem, hb]
            exact BrW_of ⟨fun e => by (rw [hbw] at e; cases e), fun _ => hx⟩
        · rename_i hb
          refine .inr ⟨h, fun u hu X' Y' hx => ?_⟩
          unfold guardOf
          rw [hg]; dsimp only
          rw [hj]; dsimp only
          rw [ht]; dsimp only
          rw [← hu t hmem, hb]
          exact hx
        · exact h.elim
      · exact h.elim
    · exact h.elim
theorem getT_congr {P : Program} {s u : St} {o : Oper} {all : List Oper} (h : ∀ t ∈ readsOf all o, s.env t = u.env t) : ∀ t x, x ∈ o.op.operands → getT P s t x = getT P u t x := by
  intro t x hx
  cases x with
  | tmp n =>
    refine h n ?_
    unfold readsOf Oper.looksAt
    refine List.mem_append_left _ (List.mem_filterMap.2 ⟨.tmp n, by simpa using hx, rfl⟩)
  | _ => rfl
theorem loc_op {P : Program} {c : Cfg} {all : List Oper} {o : Oper} {s : St} {K : Rec → St → Prop} (hk : opEx P c all o s K) :
    ∃ r s', K r s' ∧ LocStep P c all o s s' r := by
  rcases guardOf_cases hk with ⟨h, hg⟩ | ⟨h, hg⟩
  · obtain ⟨s', k1, l1⟩ := loc_plan h
    refine ⟨_, s', k1, ⟨fun u hu he => ?_, fun l hl => List.mem_map.2 ⟨l, hl, rfl⟩, fun x hx => by obtain ⟨l, hl, rfl⟩ := List.mem_map.1 hx; exact hl⟩⟩
    obtain ⟨u', p, q⟩ := l1 u ⟨hu.H, hu.R, hu.L⟩
    refine ⟨u', p, ?_⟩
    have e := plan_congr (P := P) (o := o) (getT_congr (P := P) he)
    refine hg u he _ _ ?_
    rw [← e]
    exact q
  · refine ⟨_, _, h, ⟨fun u _ he => ⟨u.forget o.dst, Par.forget s u _ _ _, ?_⟩, (fun l hl => by cases hl), (fun x hx => by cases hx)⟩⟩
    exact hg u he _ _ rfl
theorem exOps_trace {P : Program} {c : Cfg} {all : List Oper} : ∀ {l : List Oper} {rs : List Rec} {s : St} {K : List Rec → St → Prop}, exOps P c all l rs s K →
    ∃ (S : Nat → St) (T : List Rec), S 0 = s ∧ T.length = l.length ∧ K (T.reverse ++ rs) (S l.length) ∧
      ∀ (i : Nat) o r, nth l i = some o → nth T i = some r → LocStep P c all o (S i) (S (i + 1)) r
  | [], rs, s, K, h => ⟨fun _ => s, [], rfl, rfl, h, fun i o r hi => by simp [nth] at hi⟩
  | o :: l, rs, s, K, h => by
    have h' : opEx P c all o s (fun r s' => exOps P c all l (r :: rs) s' K) := h
    obtain ⟨r, s', k1, l1⟩ := loc_op h'
    obtain ⟨S, T, e1, e2, k2, l2⟩ := exOps_trace k1
    refine ⟨fun i => match i with | 0 => s | i + 1 => S i, r :: T, rfl, by simp [e2], by simpa using k2, fun i o' r' ho hr => ?_⟩
    cases i with
    | zero =>
      simp [nth] at ho hr; subst ho; subst hr
      show LocStep P c all o s (S 0) r
      rw [e1]; exact l1
    | succ i => exact l2 i o' r' (by simpa [nth] using ho) (by simpa [nth] using hr)
def Closed (all : List Oper) (D : Nat → Prop) : Prop := ∀ k o, nth all k = some o → D k → ∀ e ∈ o.after, Region.binds .any e = true → D e.on
def Pre (o : Oper) (D : Nat → Prop) : Prop := ∀ e ∈ o.after, Region.binds .any e = true → D e.on
theorem memB_iff {l : List Nat} {x : Nat} : memB l x = true ↔ x ∈ l := by
  induction l with
  | nil => simp [memB]
  | cons y l ih =>
    simp only [memB, Bool.or_eq_true, List.mem_cons, ih]
    constructor
    · rintro (h | h)
      · exact .inl (Nat.eq_of_beq_eq_true h).symm
      · exact .inr h
    · rintro (h | h)
      · subst h; exact .inl (by simp)
      · exact .inr h
theorem inB_iff (b i : Nat) : inB b i = b.testBit i := by
  have h : Nat.land (Nat.shiftRight b i) 1 = (b >>> i) % 2 := Nat.and_one_is_mod _
  unfold inB
  rw [h, Nat.testBit_eq_decide_div_mod_eq, Nat.shiftRight_eq_div_pow]
  rcases Nat.mod_two_eq_zero_or_one (b / 2 ^ i) with e | e <;> rw [e] <;> rfl
theorem inB_lor (a b i : Nat) : inB (Nat.lor a b) i = (inB a i || inB b i) := by
  rw [inB_iff, inB_iff, inB_iff]; exact Nat.testBit_or a b i
theorem inB_pow {n i : Nat} (h : inB (Nat.pow 2 n) i = true) : i = n := by
  rw [inB_iff] at h
  have : (2 ^ n).testBit i = true := h
  rw [Nat.testBit_two_pow] at this
  exact (of_decide_eq_true this).symm
theorem inB_zero (i : Nat) : inB 0 i = false := by rw [inB_iff]; exact Nat.zero_testBit i
theorem befores_spec {all : List Oper} {D : Nat → Prop} (hD : Closed all D) : ∀ {l : List Oper} {acc : List Nat} (_ : ∀ k o, nth l k = some o → nth all (acc.length + k) = some o)
    (_ : ∀ (k : Nat) o b, nth all k = some o → nth acc k = some b → Pre o D → ∀ i, inB b i = true → D i),
    ∀ (k : Nat) o b, nth all k = some o → nth (l.foldl (fun acc o => acc ++ [o.after.toList.foldl (fun m e => bif Region.binds .any e then Nat.lor m (Nat.lor (Nat.pow 2 e.on) ((nth acc e.on).getD 0)) else m) 0]) acc) k = some b → Pre o D → ∀ i, inB b i = true → D i
  | [], acc, _, h, k, o, b, ho, hb, hp => h k o b ho hb hp
  | x :: l, acc, hl, h, k, o, b, ho, hb, hp => by
    simp only [List.foldl_cons] at hb
    refine befores_spec hD (l := l) ?_ ?_ k o b ho hb hp
    · intro k o hk
      have := hl (k + 1) o (by simpa [nth] using hk)
      simp only [List.length_append, List.length_cons, List.length_nil]
      rw [show acc.length + (0 + 1) + k = acc.length + (k + 1) by omega]; exact this
    · intro k o b ho hb hp
      by_cases hk : k < acc.length
      · refine h k o b ho ?_ hp
        rw [nth_eq] at hb ⊢
        rwa [List.getElem?_append_left hk] at hb
      · have hk2 : k = acc.length := by
          have := lt_of_nth hb
          simp at this; omega
        subst hk2
        have hx : nth all acc.length = some x := hl 0 x rfl
        rw [ho] at hx; cases hx
        rw [nth_eq, List.getElem?_append_right (Nat.le_refl _), Nat.sub_self] at hb
        simp at hb
        subst hb
        have key : ∀ (es : List Edge) (l0 : Nat), (∀ e ∈ es, Region.binds .any e = true → D e.on) → (∀ i, inB l0 i = true → D i) →
            ∀ i, inB (es.foldl (fun m e => bif Region.binds .any e then Nat.lor m (Nat.lor (Nat.pow 2 e.on) ((nth acc e.on).getD 0)) else m) l0) i = true → D i := by
          intro es
          induction es with
          | nil => intro l0 _ h0; exact h0
          | cons e es ih =>
            intro l0 he h0
            simp only [List.foldl_cons]
            refine ih _ (fun e' he' => he e' (by simp [he'])) ?_
            cases hbind : Region.binds .any e with
            | true =>
              have hon := he e (by simp) hbind
              intro i hi
              simp only [cond_true] at hi
              rw [inB_lor, inB_lor, Bool.or_eq_true, Bool.or_eq_true] at hi
              rcases hi with e2 | e1 | e2
              · exact h0 i e2
              · have := inB_pow e1; subst this; exact hon
              · cases hn : nth acc e.on with
                | none => rw [hn] at e2; rw [show (Option.none.getD 0 : Nat) = 0 from rfl, inB_zero] at e2; cases e2
                | some b' =>
                  rw [hn] at e2
                  cases hoe : nth all e.on with
                  | none =>
                    exfalso
                    have h1 := lt_of_nth hn
                    have h2 := lt_of_nth ho
                    have h3 : e.on < all.length := by omega
                    obtain ⟨y, hy⟩ := nth_lt h3
                    rw [hoe] at hy; cases hy
                  | some oe => exact h e.on oe b' hoe hn (fun e' he' hb' => hD e.on oe hoe hon e' he' hb') i e2
            | false => exact h0
        have := key x.after.toList 0 (fun e he hb => hp e (by simpa using he) hb) (fun i hi => by rw [inB_zero] at hi; cases hi)
        simpa using this
end Abs
namespace Abs
open Go
theorem meets_iff {a b : List Nat} : meets a b = true ↔ ∃ x, x ∈ a ∧ x ∈ b := by
  unfold meets
  rw [List.any_eq_true]
  constructor
  · rintro ⟨x, h1, h2⟩; exact ⟨x, h1, memB_iff.1 h2⟩
  · rintro ⟨x, h1, h2⟩; exact ⟨x, h1, memB_iff.2 h2⟩
theorem meets_not {a b : List Nat} (h : meets a b = false) {x : Nat} (h1 : x ∈ a) (h2 : x ∈ b) : False := by
  rw [meets_iff.2 ⟨x, h1, h2⟩] at h; cases h
structure Indep (ops : Array Oper) (T : List Rec) : Prop where
  down : ∀ j o, nth ops.toList j = some o → ∀ e ∈ o.after, Region.binds .any e = true → e.on < j
  apart : ∀ (D : Nat → Prop), Closed ops.toList D → ∀ i j, i < j → ∀ oi oj ri rj, nth ops.toList i = some oi → nth ops.toList j = some oj → nth T i = some ri → nth T j = some rj →
    apartB ops.toList oi oj ri rj = true ∨ (Pre oj D → D i)
def LdHold (qs : List (Nat × Nat × Nat × Bool)) (wv : List (Nat × Option Dat × Option Dat)) : Prop := ∀ q ∈ qs, ∀ x ∈ wv, q.1 = x.1 → pr x.2.1 q = pr x.2.2 q
structure IndepL (ops : Array Oper) (T : List Rec) : Prop where
  ld : ∀ (D : Nat → Prop), Closed ops.toList D → ∀ i j, i < j → ∀ oj ri rj, nth ops.toList j = some oj → nth T i = some ri → nth T j = some rj →
    (LdHold ri.ld rj.wv ∧ LdHold rj.ld ri.wv) ∨ (Pre oj D → D i)
theorem ldOne_spec {q : Nat × Nat × Nat × Bool} : ∀ {wv : List (Nat × Option Dat × Option Dat)} {K : Prop}, ldOne q wv K → K ∧ ∀ x ∈ wv, q.1 = x.1 → pr x.2.1 q = pr x.2.2 q
  | [], K, h => ⟨h, fun x hx => by cases hx⟩
  | (l, a, b) :: r, K, h => by
    simp only [ldOne_nil, ldOne_cons] at h
    cases hb : Nat.beq q.1 l with
    | true =>
      rw [hb] at h
      obtain ⟨h1, h2⟩ := ldOne_spec h.k
      refine ⟨h1, fun x hx e => ?_⟩
      rcases List.mem_cons.1 hx with rfl | hx
      · exact h.h
      · exact h2 x hx e
    | false =>
      rw [hb] at h
      obtain ⟨h1, h2⟩ := ldOne_spec h
      refine ⟨h1, fun x hx e => ?_⟩
      rcases List.mem_cons.1 hx with rfl | hx
      · exfalso
        have e' : q.1 = l := e
        rw [e'] at hb
        rw [Nat.beq_refl] at hb; cases hb
      · exact h2 x hx e
theorem ldAll_spec : ∀ {qs : List (Nat × Nat × Nat × Bool)} {wv : List (Nat × Option Dat × Option Dat)} {K : Prop}, ldAll qs wv K → K ∧ LdHold qs wv
  | [], wv, K, h => ⟨h, fun q hq => by cases hq⟩
  | q :: qs, wv, K, h => by
    obtain ⟨h1, h2⟩ := ldOne_spec h
    obtain ⟨h3, h4⟩ := ldAll_spec h1
    refine ⟨h3, fun q' hq => ?_⟩
    rcases List.mem_cons.1 hq with rfl | hq
    · exact h2
    · exact h4 q' hq
theorem eqRow_spec {bj : Nat} {rj : Rec} : ∀ {rs : List Rec} {i : Nat} {K : Prop}, eqRow bj rj i rs K →
    K ∧ ∀ k ri, nth rs k = some ri → inB bj (i + k) = true ∨ (LdHold ri.ld rj.wv ∧ LdHold rj.ld ri.wv)
  | [], i, K, h => ⟨h, fun k ri hk => by simp [nth] at hk⟩
  | r :: rs, i, K, h => by
    simp only [eqRow_nil, eqRow_cons] at h
    cases hb : inB bj i with
    | true =>
      rw [hb] at h
      obtain ⟨h1, h2⟩ := eqRow_spec h
      refine ⟨h1, fun k ri hk => ?_⟩
      cases k with
      | zero => exact .inl hb
      | succ k => rw [show i + (k + 1) = i + 1 + k by omega]; exact h2 k ri (by simpa [nth] using hk)
    | false =>
      rw [hb] at h
      obtain ⟨h1, h2⟩ := ldAll_spec h
      obtain ⟨h3, h4⟩ := ldAll_spec h1
      obtain ⟨h5, h6⟩ := eqRow_spec h3
      refine ⟨h5, fun k ri hk => ?_⟩
      cases k with
      | zero => simp [nth] at hk; subst hk; exact .inr ⟨h2, h4⟩
      | succ k => rw [show i + (k + 1) = i + 1 + k by omega]; exact h6 k ri (by simpa [nth] using hk)
theorem eqGo_spec {all : List Rec} {bs : List Nat} : ∀ {rs : List Rec} {j : Nat} {K : Prop}, eqGo all bs j rs K →
    K ∧ ∀ k rj, nth rs k = some rj → ∃ bj, nth bs (j + k) = some bj ∧ ∀ i ri, i < j + k → nth all i = some ri → inB bj i = true ∨ (LdHold ri.ld rj.wv ∧ LdHold rj.ld ri.wv)
  | [], j, K, h => ⟨h, fun k ri hk => by simp [nth] at hk⟩
  | r :: rs, j, K, h => by
    simp only [eqGo_nil, eqGo_cons] at h
    split at h
    · rename_i bj hbj
      obtain ⟨h1, h2⟩ := eqRow_spec h
      obtain ⟨h3, h4⟩ := eqGo_spec h1
      refine ⟨h3, fun k rj hk => ?_⟩
      cases k with
      | zero =>
        simp [nth] at hk; subst hk
        refine ⟨bj, hbj, fun i ri hi hr => ?_⟩
        have := h2 i ri (by rw [nth_eq] at hr ⊢; rw [List.getElem?_take]; simp [show i < j by omega, hr])
        simpa using this
      | succ k => rw [show j + (k + 1) = j + 1 + k by omega]; exact h4 k rj (by simpa [nth] using hk)
    · exact h.elim
theorem anyLd_no {ls : List Nat} : ∀ {rs : List Rec}, anyLd ls rs = false → ∀ r ∈ rs, ∀ q ∈ r.ld, q.1 ∉ ls
  | [], _, r, hr => by cases hr
  | x :: rs, h, r, hr => by
    simp only [anyLd, Bool.or_eq_false_iff] at h
    rcases List.mem_cons.1 hr with rfl | hr
    · intro q hq hm
      have := List.any_eq_false.1 h.1 q hq
      exact this (memB_iff.2 hm)
    · exact anyLd_no h.2 r hr
theorem mem_nth {α : Type} {l : List α} {i : Nat} {x : α} (h : nth l i = some x) : x ∈ l := by rw [nth_eq] at h; exact List.mem_of_getElem? h
theorem eqP_spec {ops : Array Oper} {T : List Rec} {K : Prop} (h : eqP ops.toList T K) (hw : ∀ r ∈ T, ∀ x ∈ r.wv, x.1 ∈ r.wh) : K ∧ IndepL ops T := by
  unfold eqP at h
  split at h
  · rename_i hn
    refine ⟨h, ⟨fun D hD i j hij oj ri rj ho hi hj => .inl ⟨fun q hq x hx e => ?_, fun q hq x hx e => ?_⟩⟩⟩
    · exact absurd (List.mem_flatMap.2 ⟨rj, mem_nth hj, e ▸ hw rj (mem_nth hj) x hx⟩) (anyLd_no hn ri (mem_nth hi) q hq)
    · exact absurd (List.mem_flatMap.2 ⟨ri, mem_nth hi, e ▸ hw ri (mem_nth hi) x hx⟩) (anyLd_no hn rj (mem_nth hj) q hq)
  · obtain ⟨h1, h2⟩ := eqGo_spec h
    refine ⟨h1, ⟨fun D hD i j hij oj ri rj ho hi hj => ?_⟩⟩
    obtain ⟨bj, hb, hr⟩ := h2 j rj hj
    rw [Nat.zero_add] at hb hr
    rcases hr i ri hij hi with hm | hm
    · refine .inr fun hp => ?_
      exact befores_spec hD (l := ops.toList) (acc := []) (fun k o hk => by simpa using hk) (fun k o b _ hb => by simp [nth] at hb) j oj bj ho hb hp i hm
    · exact .inl hm
theorem ldOne_det {q : Nat × Nat × Nat × Bool} : ∀ {wv : List (Nat × Option Dat × Option Dat)} {K : Prop}, ldOne q wv K → K ∧ ∀ K', K' → ldOne q wv K'
  | [], K, h => ⟨h, fun _ h => h⟩
  | (l, a, b) :: r, K, h => by
    simp only [ldOne_nil, ldOne_cons] at h ⊢
    cases hb : Nat.beq q.1 l with
    | true =>
      rw [hb] at h
      obtain ⟨h1, h2⟩ := ldOne_det h.k
      exact ⟨h1, fun K' hk => ⟨h.h, h2 K' hk⟩⟩
    | false => rw [hb] at h; exact ldOne_det h
theorem ldAll_det : ∀ {qs : List (Nat × Nat × Nat × Bool)} {wv : List (Nat × Option Dat × Option Dat)} {K : Prop}, ldAll qs wv K → K ∧ ∀ K', K' → ldAll qs wv K'
  | [], wv, K, h => ⟨h, fun _ h => h⟩
  | q :: qs, wv, K, h => by
    obtain ⟨h1, h2⟩ := ldOne_det (q := q) h
    obtain ⟨h3, h4⟩ := ldAll_det h1
    exact ⟨h3, fun K' hk => h2 _ (h4 K' hk)⟩
theorem eqRow_det {bj : Nat} {rj : Rec} : ∀ {rs : List Rec} {i : Nat} {K : Prop}, eqRow bj rj i rs K → K ∧ ∀ K', K' → eqRow bj rj i rs K'
  | [], i, K, h => ⟨h, fun _ h => h⟩
  | r :: rs, i, K, h => by
    simp only [eqRow_nil, eqRow_cons] at h ⊢
    cases hb : inB bj i with
    | true => rw [hb] at h; exact eqRow_det h
    | false =>
      rw [hb] at h
      obtain ⟨h1, q1⟩ := ldAll_det h
      obtain ⟨h3, q2⟩ := ldAll_det h1
      obtain ⟨h5, q3⟩ := eqRow_det h3
      exact ⟨h5, fun K' hk => q1 _ (q2 _ (q3 K' hk))⟩
theorem eqGo_det {all : List Rec} {bs : List Nat} : ∀ {rs : List Rec} {j : Nat} {K : Prop}, eqGo all bs j rs K → K ∧ ∀ K', K' → eqGo all bs j rs K'
  | [], j, K, h => ⟨h, fun _ h => h⟩
  | r :: rs, j, K, h => by
    simp only [eqGo_nil, eqGo_cons] at h ⊢
    split at h
    · obtain ⟨h1, q1⟩ := eqRow_det h
      obtain ⟨h3, q2⟩ := eqGo_det h1
      exact ⟨h3, fun K' hk => q1 _ (q2 K' hk)⟩
    · exact h.elim
theorem eqP_det {ops : List Oper} {T : List Rec} {K : Prop} (h : eqP ops T K) : K ∧ ∀ K', K' → eqP ops T K' := by
  unfold eqP at *
  split at h
  · exact ⟨h, fun _ h => h⟩
  · exact eqGo_det h
theorem indepB_spec {ops : Array Oper} {T : List Rec} (h : indepB ops.toList T = true) : Indep ops T := by
  have h' : ∀ j, j < ops.toList.length → edgesDown ops.toList j = true ∧ (match nth ops.toList j, nth T j, nth (befores ops.toList []) j with
    | some oj, some rj, some bj => (List.range j).all fun i => inB bj i || match nth ops.toList i, nth T i with
      | some oi, some ri => apartB ops.toList oi oj ri rj
      | _, _ => false
    | _, _, _ => false) = true := by
    intro j hj
    have h := h
    unfold indepB at h
    simp only [List.all_eq_true, List.mem_range, Bool.and_eq_true] at h
    obtain ⟨h1, h2⟩ := h j hj
    refine ⟨h1, ?_⟩
    split
    · rename_i oj rj bj e1 e2 e3
      rw [e1, e2, e3] at h2
      dsimp only at h2
      exact h2
    · rename_i hno
      split at h2
      · rename_i oj rj bj e1 e2 e3
        exact (hno _ _ _ e1 e2 e3).elim
      · exact h2
  refine ⟨fun j o ho e he hbd => ?_, fun D hD i j hij oi oj ri rj h1 h2 h3 h4 => ?_⟩
  · have h1 := (h' j (lt_of_nth ho)).1
    unfold edgesDown at h1
    dsimp only at h1
    rw [ho] at h1
    simp only [List.all_eq_true] at h1
    have := h1 e (by simpa using he)
    rw [hbd] at this
    simpa [Nat.blt_eq] using this
  · have hb := (h' j (lt_of_nth h2)).2
    rw [h2, h4] at hb
    split at hb
    · rename_i oj' rj' bj e1 e2 e3
      cases e1; cases e2
      simp only [List.all_eq_true, List.mem_range] at hb
      have hbi := hb i hij
      rw [h1, h3] at hbi
      dsimp only at hbi
      rw [Bool.or_eq_true] at hbi
      rcases hbi with hbi | hbi
      · refine .inr fun hp => ?_
        exact befores_spec hD (l := ops.toList) (acc := []) (fun k o hk => by simpa using hk) (fun k o b _ hb => by simp [nth] at hb) j oj bj h2 e3 hp i hbi
      · exact .inl hbi
    · cases hb
section
variable {P : Program} {cx : Cx} {c : Cfg} {ops : Array Oper} {S : Nat → St} {T : List Rec}
structure Inv (ops : Array Oper) (S : Nat → St) (T : List Rec) (D : Nat → Prop) (u : St) : Prop where
  env : ∀ x m, m ≤ ops.size → (∀ i o, i < m → nth ops.toList i = some o → o.dst = some x → D i) → (∀ i o, m ≤ i → nth ops.toList i = some o → o.dst = some x → ¬ D i) → u.env x = (S m).env x
  H : ∀ x m, m ≤ ops.size → (∀ i r, i < m → nth T i = some r → x ∈ r.wh → D i) → (∀ i r, m ≤ i → nth T i = some r → x ∈ r.wh → ¬ D i) → u.H x = (S m).H x
  R : ∀ x m, m ≤ ops.size → (∀ i r, i < m → nth T i = some r → x ∈ r.wr → D i) → (∀ i r, m ≤ i → nth T i = some r → x ∈ r.wr → ¬ D i) → u.R x = (S m).R x
  L : ∀ q m, m ≤ ops.size → (∀ i, i < m → i < ops.size → pr ((S (i+1)).H q.1) q ≠ pr ((S i).H q.1) q → D i) →
    (∀ i, m ≤ i → i < ops.size → pr ((S (i+1)).H q.1) q ≠ pr ((S i).H q.1) q → ¬ D i) → pr (u.H q.1) q = pr ((S m).H q.1) q
theorem key_step {α : Type} {n : Nat} {V : Nat → α} {W : Nat → Prop} {D : Nat → Prop} {j : Nat} (hj : j < n) {v v' : α}
    (hinv : ∀ m, m ≤ n → (∀ i, i < m → W i → D i) → (∀ i, m ≤ i → W i → ¬ D i) → v = V m)
    (hkeep : ∀ i, i < n → ¬ W i → V (i + 1) = V i) (hWn : ∀ i, W i → i < n)
    (hjD : ¬ D j) (hord1 : ∀ i, i < j → W i → W j → D i) (hord2 : ∀ i, j < i → W i → W j → ¬ D i)
    (hp : (V (j + 1) = V j ∧ v' = v) ∨ (V (j + 1) = v' ∧ W j)) :
    ∀ m, m ≤ n → (∀ i, i < m → W i → (D i ∨ i = j)) → (∀ i, m ≤ i → W i → ¬ (D i ∨ i = j)) → v' = V m := by
  intro m hm h1 h2
  by_cases hW : W j
  · have hjm : j < m := by
      rcases Nat.lt_or_ge j m with h | h
      · exact h
      · exact absurd (.inr rfl) (h2 j h hW)
    have hconst : ∀ k, j + 1 + k ≤ m → V (j + 1 + k) = V (j + 1) := by
      intro k
      induction k with
      | zero => intro _; rfl
      | succ k ih =>
        intro hk
        have hnw : ¬ W (j + 1 + k) := by
          intro hw
          rcases h1 (j + 1 + k) (by omega) hw with h | h
          · exact hord2 (j + 1 + k) (by omega) hw hW h
          · omega
        rw [show j + 1 + (k + 1) = (j + 1 + k) + 1 by omega, hkeep (j + 1 + k) (by omega) hnw]
        exact ih (by omega)
    have hVm : V m = V (j + 1) := by
      have := hconst (m - (j + 1)) (by omega)
      rwa [show j + 1 + (m - (j + 1)) = m by omega] at this
    rcases hp with ⟨a, b⟩ | ⟨a, _⟩
    · rw [hVm, a, b]
      refine hinv j (by omega) (fun i hi hw => hord1 i hi hw hW) (fun i hi hw => ?_)
      rcases Nat.lt_or_ge j i with h | h
      · exact hord2 i h hw hW
      · have : i = j := by omega
        subst this; exact hjD
    · rw [hVm, a]
  · rcases hp with ⟨a, b⟩ | ⟨_, b⟩
    · rw [b]
      refine hinv m hm (fun i hi hw => ?_) (fun i hi hw hd => h2 i hi hw (.inl hd))
      rcases h1 i hi hw with h | h
      · exact h
      · subst h; exact absurd hw hW
    · exact absurd b hW
theorem key_at {α : Type} {n : Nat} {V : Nat → α} {W : Nat → Prop} {D : Nat → Prop} {j : Nat} (hj : j < n) {v : α}
    (hinv : ∀ m, m ≤ n → (∀ i, i < m → W i → D i) → (∀ i, m ≤ i → W i → ¬ D i) → v = V m)
    (hjD : ¬ D j) (hord1 : ∀ i, i < j → W i → D i) (hord2 : ∀ i, j < i → W i → ¬ D i) : v = V j := by
  refine hinv j (by omega) hord1 (fun i hi hw => ?_)
  rcases Nat.lt_or_ge j i with h | h
  · exact hord2 i h hw
  · have : i = j := by omega
    subst this; exact hjD
end
end Abs
namespace Abs
open Go
def FW (ro : Option Nat) : Fence := { fn := fun _ => True, depth := none, alive := false, round := ro }
theorem FW_calls {ro : Option Nat} {n : Nat} {P : Program} {f : FuncId} {args : Array Value} {w : World} {R : Ending → World → Prop} : CallsIn (FW ro) n P f args w R ↔ Calls P f args w R := by
  cases ro with
  | none => exact callsIn_wide
  | some l => exact ⟨fun h => (callsIn_wide (n := n)).1 (CallsIn.outOfRound (F := Fence.wide) (l := l) h), fun h => CallsIn.inRound (F := Fence.wide) l (callsIn_wide.2 h)⟩
theorem FW_rows {ro : Option Nat} {n : Nat} {P : Program} {row : String} {args : Array Value} {w : World} {R : Value → World → Prop} (h : Rows P row args w R) : RowsIn (FW ro) n P row args w R := by
  cases ro with
  | none => exact fun c cs _ => let ⟨v, w', r, s⟩ := h c cs; ⟨v, w', r, stepsIn_wide.2 s⟩
  | some l => exact fun c cs _ => let ⟨v, w', r, s⟩ := h c cs; ⟨v, w', r, stepsIn_wide.2 s⟩
theorem FW_round {ro : Option Nat} {n : Nat} {P : Program} {l : Nat} {f : FuncId} {tmps : Array Value} {asg body : Code} {w : World} {R : Ending → World → Prop} (h : RoundIn Fence.wide n P l f tmps asg body w R) :
    RoundIn (FW ro) n P l f tmps asg body w R := by
  cases ro with
  | none => exact h
  | some l => exact h
theorem wpIn_of_wp {P : Program} {ro : Option Nat} {n : Nat} {o : Oper} {a : Act} {w : World} {M : Act → World → Prop} {Q : Go.Exit → Act → World → Prop} (hd : ∀ c, o.op ≠ .defer c) (h : o.wp P a w M Q) :
    o.wpIn (FW ro) n P a w M Q := by
  refine ⟨fun _ _ => trivial, ?_⟩
  rw [Oper.semAt_eq _ _ _ hd]
  unfold Oper.wp at h
  generalize (execOp a.eval o).run P w = r at h
  cases r with
  | ok x w' =>
    cases x <;> simp only [Oper.upon, Oper.uponIn] at h ⊢ <;>
      first
        | exact h
        | exact ⟨fun e => by simp [FW] at e, FW_calls.2 h⟩
        | exact ⟨fun e => by simp [FW] at e, FW_rows h⟩
        | exact h.elim
  | halt x w' => cases x <;> simp only [Oper.upon, Oper.uponIn] at h ⊢ <;> exact h
theorem RowAt.mine {cx cx' : Cx} {g : Gh} {w : World} {t : Tv} {r : Row} (h : ∀ b, t.base = some b → cx.mine b → cx'.mine b) (k : RowAt cx g w t r) : RowAt cx' g w t r := by
  unfold RowAt at *
  cases hb : t.base with
  | none => rw [hb] at k; exact k
  | some b => rw [hb] at k; exact ⟨k.1, h b hb k.2.1, k.2.2⟩
theorem ext_I {g : Gh} {I' : Nat → Nat → Option Value} (h : SubI g.I I') : Ext g { g with I := I' } := ⟨h, fun _ _ e => e, fun _ t e => ⟨t, e, rfl, .inr rfl⟩⟩
theorem Mem.after {cx cx' : Cx} {g : Gh} {s : St} {w w' : World} (m : Mem cx g s w) {I' : Nat → Nat → Option Value} (hI : SubI g.I I') (hc : Cells I' w')
    (hkeep : ∀ b, b < w.heap.size → cx.mine b → w'.heap[b]? = w.heap[b]?) (hold : ∀ b o v, I' b o = some v → cx.mine b → b < w.heap.size → g.I b o = some v)
    (hmine : ∀ b, b < w.heap.size → cx.mine b → cx'.mine b) (hnewI : ∀ b o v, I' b o = some v → cx'.I0 b o = some v ∨ cx'.mine b)
    (hfr : cx'.Fr I' w') (hnew : ∀ b, w'.heap.size ≤ b → cx'.mine b) : Mem cx' { g with I := I' } s w' where
  iw := hc
  box l d h := by
    obtain ⟨b, h1, h2, h3⟩ := m.box l d h
    exact ⟨b, h1, h2.mono (ext_I hI) (hkeep b h2.lt h3), hmine b h2.lt h3⟩
  nobox := m.nobox
  inj := m.inj
  dis l b h o := by
    obtain ⟨d, hd⟩ := m.nobox l b h
    obtain ⟨b', h1, h2, h3⟩ := m.box l d hd
    have h1' : g.mu l = some b := h
    rw [h1'] at h1; cases h1
    show I' b o = none
    cases hx : I' b o with
    | none => rfl
    | some v => rw [← hold b o v hx h3 h2.lt]; exact (m.dis l b h o).symm ▸ rfl
  row k r h := by
    obtain ⟨t, h1, h2, h3, h4, h5⟩ := m.row k r h
    refine ⟨t, h1, h2, h3, h4, RowAt.mine (cx := cx) (fun b hb => hmine b (h5.blk hb).1) (h5.mono (ext_I hI) fun b hb => ⟨hkeep b (h5.blk hb).1 (h5.blk hb).2.1, (h5.blk hb).2.2, fun j => ?_⟩)⟩
    show I' b j = g.I b j
    cases hx : I' b j with
    | some v => exact (hold b j v hx (h5.blk hb).2.1 (h5.blk hb).1).symm
    | none =>
      cases hy : g.I b j with
      | none => rfl
      | some v => have := hI b j v hy; rw [hx] at this; cases this
  norow := m.norow
  rdis := m.rdis
  newI := hnewI
  frame := hfr
  new := hnew
structure RoundDone (J : YS → (Nat → Prop) → (Nat → Nat → Option Value) → World → Prop) (k : Nat) (N : Nat → Prop) (I : Nat → Nat → Option Value) (w : World) (e : Ending) (w' : World) : Prop where
  size : w.heap.size ≤ w'.heap.size
  keep : ∀ b, b < w.heap.size → ¬ N b → w'.heap[b]? = w.heap[b]?
  cells : Cells I w'
  out : ∃ y, ((e = .returned (.bool true) ∧ y = .run (k + 1)) ∨ (e = .returned (.bool false) ∧ y = .stop)) ∧ J y (fun b => N b ∨ (w.heap.size ≤ b ∧ b < w'.heap.size)) I w'
structure Host (P : Program) (l : Nat) (xs : List (List Dat)) where
  J : YS → (Nat → Prop) → (Nat → Nat → Option Value) → World → Prop
  I0 : Nat → Nat → Option Value
  on : ∀ y N I w, J y N I w → y ≠ .off
  rely : ∀ y N I w w', J y N I w → Frame w w' (fun b => ¬ N b) → (∀ b o v, I b o = some v → w'.cell? ⟨b, o, none⟩ = some v) → J y N I w'
  round : ∀ k N Ih I w (vs : Array Value) ds, J (.run k) N Ih w → SubI Ih I → nth xs k = some ds → vs.size = ds.length → (∀ (i : Nat) v d, vs[i]? = some v → nth ds i = some d → RepI I v d) →
    Cells I w → (∀ b o v, I b o = some v → I0 b o = some v ∨ ¬ N b) → (∀ b, w.heap.size ≤ b → ¬ N b) →
    ∃ fn tmps assign body, (Instr.yield l vs).run P w = .ok (.round l fn tmps assign body) w ∧ ∀ n, RoundIn Fence.wide n P l fn tmps assign body w (RoundDone J k N I w)
def Host.cx {P : Program} {l : Nat} {xs : List (List Dat)} (h : Host P l xs) (n : Nat) (w0 : World) (I0 : Nat → Nat → Option Value) (y : YS) (N : Nat → Prop) : Cx where
  n := n
  mine b := w0.heap.size ≤ b ∧ ¬ N b
  I0 := I0
  D := []
  Fr I w := (∃ Ih, h.J y N Ih w ∧ SubI Ih I) ∧ w0.heap.size ≤ w.heap.size ∧ ∀ b, b < w0.heap.size → ¬ N b → w.heap[b]? = w0.heap[b]?
  st I I' w w' hf hs fr hc _ := by
    obtain ⟨⟨Ih, h1, h2⟩, h3, h4⟩ := hf
    refine ⟨⟨Ih, h.rely y N Ih w w' h1 (fr.sub fun i _ e => e.2) (fun b o v e => (hc b o v (hs _ _ _ (h2 _ _ _ e))).1), fun b o v e => hs _ _ _ (h2 _ _ _ e)⟩, Nat.le_trans h3 fr.size, fun b hb hn => ?_⟩
    exact (fr.block b (Nat.lt_of_lt_of_le hb h3) (fun e => by have := e.1; omega)).trans (h4 b hb hn)
structure CallsY (P : Program) (l : Nat) (xs : List (List Dat)) (f : FuncId) (args : List Dat) (k : Nat) (Q : Dat → YS → Prop) : Prop where
  fn : ∃ fn, P.funcs[f]? = some fn ∧ fn.body.isNone = false ∧ (fn.name == "runtime.NumGoroutine") = false
  go : ∀ (h : Host P l xs) (N : Nat → Prop) (I : Nat → Nat → Option Value) (w : World) (vs : Array Value), vs.size = args.length → (∀ (i : Nat) v d, vs[i]? = some v → nth args i = some d → RepI I v d) →
    Cells I w → (∀ b o v, I b o = some v → h.I0 b o = some v ∨ ¬ N b) → (∀ b, w.heap.size ≤ b → ¬ N b) → (∃ Ih, h.J (.run k) N Ih w ∧ SubI Ih I) →
    Calls P f vs w fun e w' => match e with
      | .returned v => ∃ r y N' I', Q r y ∧ (∀ b, N' b → N b ∨ (w.heap.size ≤ b ∧ b < w'.heap.size)) ∧ (∀ b, N b → N' b) ∧ SubI I I' ∧ Rep ⟨I', fun _ => none, fun _ => none⟩ v r ∧
          Cells I' w' ∧ (∀ b o v, I' b o = some v → I b o = some v ∨ (w.heap.size ≤ b ∧ ¬ N' b)) ∧ (∃ Ih, h.J y N' Ih w' ∧ SubI Ih I') ∧
          w.heap.size ≤ w'.heap.size ∧ ∀ b, b < w.heap.size → ¬ N' b → w'.heap[b]? = w.heap[b]?
      | _ => False
structure IterA (P : Program) (d : Dat) (xs : List (List Dat)) : Prop where
  out : ∃ f first cap, d = .clo (.func f) first cap ∧ (pureD.go first && pureD.go cap) = true ∧ ∀ l, CallsY P l xs f (first ++ [.yld l] ++ cap) 0 fun _ y => y = .run xs.length ∨ y = .stop
structure CfgOk (P : Program) (c : Cfg) : Prop where
  C : ∀ f args m r m', c.C f args m r m' → CallsA P f args m r m'
  CY : ∀ f args k outs, c.CY f args k outs → CallsY P c.l c.xs f args k fun r y => (r, y) ∈ outs
  It : ∀ d xs, c.It d xs → IterA P d xs
structure Mode (P : Program) (c : Cfg) where
  h : Host P c.l c.xs
  n : Nat
  w0 : World
  I0 : Nat → Nat → Option Value
  N0 : Nat → Prop
structure At {P : Program} {c : Cfg} (M : Mode P c) (cx : Cx) (y : YS) (N : Nat → Prop) : Prop where
  cx : cx = M.h.cx M.n M.w0 M.I0 y N
  I0 : ∀ b o v, M.I0 b o = some v → b < M.w0.heap.size ∧ (M.h.I0 b o = some v ∨ ¬ N b)
  up : ∀ b, N b → M.N0 b ∨ M.w0.heap.size ≤ b
  lo : ∀ b, M.N0 b → N b
def YOk {P : Program} {c : Cfg} (M : Option (Mode P c)) (cx : Cx) : YS → Prop
  | .off => M = none
  | y => ∃ m N, M = some m ∧ At m cx y N
end Abs
namespace Abs
open Go
structure LKeep (s s' : St) : Prop where
  env : s'.env = s.env
  H : s'.H = s.H
  hn : s'.hn = s.hn
  rn : s'.rn = s.rn
  R : ∀ k, s'.R k = none ↔ s.R k = none
  y : s'.y = s.y
theorem LKeep.refl (s : St) : LKeep s s := ⟨rfl, rfl, rfl, rfl, fun _ => Iff.rfl, rfl⟩
theorem LKeep.trans {a b c : St} (h : LKeep a b) (k : LKeep b c) : LKeep a c :=
  ⟨k.env.trans h.env, k.H.trans h.H, k.hn.trans h.hn, k.rn.trans h.rn, fun x => (k.R x).trans (h.R x), k.y.trans h.y⟩
theorem keep_leakCell {s : St} {d : Dat} {K : St → Dat → Prop} (hk : leakCell s d K) : leakCell s d fun s' d' => LKeep s s' ∧ K s' d' := by
  cases d with
  | ref k n =>
    simp only [leakCell] at hk ⊢
    cases hr : s.R k with
    | none => rw [hr] at hk; exact hk.elim
    | some r =>
      rw [hr] at hk
      refine ⟨hk.h, ⟨rfl, rfl, rfl, rfl, fun x => ?_, rfl⟩, hk.k⟩
      simp only [St.freeze]
      by_cases hx : x = k
      · subst hx; rw [upd_eq, hr]; simp
      · rw [upd_ne _ _ _ _ hx]
  | sl z es b => exact ⟨LKeep.refl s, hk⟩
  | _ =>
    simp only [leakCell] at hk ⊢
    split at hk
    · rename_i hp; exact ⟨LKeep.refl s, hk⟩
    · exact hk.elim
theorem leakCell_mono {s : St} {d : Dat} {K K' : St → Dat → Prop} (hk : leakCell s d K) (h : ∀ s d, K s d → K' s d) : leakCell s d K' := by
  cases d with
  | ref k n =>
    simp only [leakCell] at hk ⊢
    split at hk
    · exact ⟨hk.h, h _ _ hk.k⟩
    · exact hk.elim
  | sl z es b => exact h _ _ hk
  | _ =>
    simp only [leakCell] at hk ⊢
    split at hk
    · exact h _ _ hk
    · exact hk.elim
theorem keep_leakCells : ∀ {ds : List Dat} {s : St} {K : St → List Dat → Prop}, leakCells s ds K → leakCells s ds fun s' ds' => LKeep s s' ∧ K s' ds'
  | [], s, K, hk => ⟨LKeep.refl s, hk⟩
  | d :: ds, s, K, hk => by
    simp only [leakCells_nil, leakCells_cons] at hk ⊢
    refine leakCell_mono (keep_leakCell hk) fun s1 d1 ⟨k1, h1⟩ => ?_
    have h2 := keep_leakCells h1
    exact leakCells_mono h2 fun s2 ds2 ⟨k2, h3⟩ => ⟨k1.trans k2, h3⟩
 where leakCells_mono : ∀ {ds : List Dat} {s : St} {K K' : St → List Dat → Prop}, leakCells s ds K → (∀ s d, K s d → K' s d) → leakCells s ds K'
  | [], _, _, _, hk, h => h _ _ hk
  | d :: ds, _, _, _, hk, h => by
    rw [leakCells_cons] at hk ⊢
    exact leakCell_mono hk fun _ _ h1 => leakCells_mono h1 fun _ _ h2 => h _ _ h2
theorem leak_mono {s : St} {d : Dat} {K K' : St → Dat → Prop} (hk : leak s d K) (h : ∀ s d, K s d → K' s d) : leak s d K' := by
  unfold leak at *
  split
  · rename_i hp; rw [hp] at hk; exact h _ _ hk
  · rename_i hp
    rw [hp] at hk
    cases d with
    | agg cs => exact keep_leakCells.leakCells_mono hk fun _ _ h2 => h _ _ h2
    | ref k n => exact leakCell_mono (d := .ref k n) hk h
    | sl z es b => exact leakCell_mono (d := .sl z es b) hk h
    | _ => exact hk.elim
theorem keep_leak {s : St} {d : Dat} {K : St → Dat → Prop} (hk : leak s d K) : leak s d fun s' d' => LKeep s s' ∧ K s' d' := by
  unfold leak at *
  split
  · rename_i hp; rw [hp] at hk; exact ⟨LKeep.refl s, hk⟩
  · rename_i hp
    rw [hp] at hk
    cases d with
    | agg cs => exact keep_leakCells hk
    | ref k n => exact keep_leakCell (d := .ref k n) hk
    | sl z es b => exact keep_leakCell (d := .sl z es b) hk
    | _ => exact hk.elim
theorem leakAll_mono : ∀ {ds : List Dat} {s : St} {K K' : St → List Dat → Prop}, leakAll s ds K → (∀ s d, K s d → K' s d) → leakAll s ds K'
  | [], _, _, _, hk, h => h _ _ hk
  | d :: ds, _, _, _, hk, h => by
    rw [leakAll_cons] at hk ⊢
    exact leak_mono hk fun _ _ h1 => leakAll_mono h1 fun _ _ h2 => h _ _ h2
theorem keep_leakAll : ∀ {ds : List Dat} {s : St} {K : St → List Dat → Prop}, leakAll s ds K → leakAll s ds fun s' ds' => LKeep s s' ∧ K s' ds'
  | [], s, K, hk => ⟨LKeep.refl s, hk⟩
  | d :: ds, s, K, hk => by
    simp only [leakAll_nil, leakAll_cons] at hk ⊢
    refine leak_mono (keep_leak hk) fun s1 d1 ⟨k1, h1⟩ => ?_
    exact leakAll_mono (keep_leakAll h1) fun s2 ds2 ⟨k2, h3⟩ => ⟨k1.trans k2, h3⟩
theorem handCaps_mono : ∀ {ds : List Dat} {s : St} {ls ks : List Nat} {K K' : St → List Nat → List Nat → List Dat → Prop}, handCaps s ls ks ds K →
    (∀ s' ls ks ds, LKeep s s' → K s' ls ks ds → K' s' ls ks ds) → handCaps s ls ks ds K'
  | [], s, ls, ks, K, K', hk, h => h _ _ _ _ (LKeep.refl s) hk
  | d :: ds, s, ls, ks, K, K', hk, h => by
    cases d with
    | ptr l off =>
      simp only [handCaps_nil, handCaps_cons] at hk ⊢
      split at hk
      · exact handCaps_mono hk fun s' ls' ks' ds' k1 h1 => h _ _ _ _ k1 h1
      · exact handCaps_mono hk fun s' ls' ks' ds' k1 h1 => h _ _ _ _ k1 h1
    | _ =>
      simp only [handCaps_nil, handCaps_cons] at hk ⊢
      exact leak_mono (keep_leak hk) fun s1 d1 ⟨k1, h1⟩ => handCaps_mono h1 fun s' ls' ks' ds' k2 h2 => h _ _ _ _ (k1.trans k2) h2
theorem handCell_mono {d : Dat} {s : St} {ls ks : List Nat} {K K' : St → List Nat → List Nat → Dat → Prop} (hk : handCell s ls ks d K)
    (h : ∀ s' ls ks d, LKeep s s' → K s' ls ks d → K' s' ls ks d) : handCell s ls ks d K' := by
  cases d with
  | ptr l off =>
    simp only [handCell] at hk ⊢
    split at hk
    · exact h _ _ _ _ (LKeep.refl s) hk
    · exact h _ _ _ _ (LKeep.refl s) hk
  | clo fn first cap =>
    simp only [handCell] at hk ⊢
    exact handCaps_mono hk fun s1 ls1 ks1 ds1 k1 h1 => handCaps_mono h1 fun s' ls' ks' ds' k2 h2 => h _ _ _ _ (k1.trans k2) h2
  | _ =>
    simp only [handCell] at hk ⊢
    exact leak_mono (keep_leak hk) fun s1 d1 ⟨k1, h1⟩ => h _ _ _ _ k1 h1
theorem handRow_mono {s : St} {ks : List Nat} {k n : Nat} {K K' : List Nat → Dat → Prop} (hk : handRow s ks k n K) (h : ∀ ks d, K ks d → K' ks d) : handRow s ks k n K' := by
  unfold handRow at *
  split at hk
  · refine ⟨hk.h, ?_⟩
    have h2 := hk.k
    split at h2
    · unfold named at h2 ⊢
      split at h2
      · exact h _ _ h2
      · exact h _ _ h2
    · exact h _ _ h2
  · exact hk.elim
theorem handArgs_mono {byref : Bool} : ∀ {ds : List Dat} {s : St} {ls ks : List Nat} {K K' : St → List Nat → List Nat → List Dat → Prop}, handArgs byref s ls ks ds K →
    (∀ s' ls ks ds, LKeep s s' → K s' ls ks ds → K' s' ls ks ds) → handArgs byref s ls ks ds K'
  | [], s, ls, ks, K, K', hk, h => h _ _ _ _ (LKeep.refl s) hk
  | d :: ds, s, ls, ks, K, K', hk, h => by
    have other : handCell s ls ks d (fun s ls ks d => handArgs byref s ls ks ds fun s ls ks ds => K s ls ks (d :: ds)) →
        handCell s ls ks d (fun s ls ks d => handArgs byref s ls ks ds fun s ls ks ds => K' s ls ks (d :: ds)) := fun h0 =>
      handCell_mono h0 fun s1 ls1 ks1 d1 k1 h1 => handArgs_mono h1 fun s' ls' ks' ds' k2 h2 => h _ _ _ _ (k1.trans k2) h2
    cases d with
    | ref k n =>
      cases byref with
      | true =>
        simp only [handArgs_nil, handArgs_cons] at hk ⊢
        exact handRow_mono hk fun ks1 d1 h1 => handArgs_mono h1 fun s' ls' ks' ds' k2 h2 => h _ _ _ _ k2 h2
      | false => exact other hk
    | _ => exact other hk
theorem handBody_mono {s : St} : ∀ {ds : List Dat} {ks : List Nat} {K K' : List Nat → List Dat → Prop}, handBody s ks ds K → (∀ ks d, K ks d → K' ks d) → handBody s ks ds K'
  | [], ks, K, K', hk, h => h _ _ hk
  | d :: ds, ks, K, K', hk, h => by
    cases d with
    | ref k n =>
      simp only [handBody_nil, handBody_cons] at hk ⊢
      exact handRow_mono hk fun ks1 d1 h1 => handBody_mono h1 fun ks2 ds2 h2 => h _ _ h2
    | _ =>
      first
        | (simp only [handBody_nil, handBody_cons] at hk; done)
        | (simp only [handBody_nil, handBody_cons] at hk ⊢
           exact handBody_mono hk fun ks2 ds2 h2 => h _ _ h2)
theorem handBox_mono {s : St} {ks : List Nat} {d : Dat} {K K' : List Nat → Dat → Prop} (hk : handBox s ks d K) (h : ∀ ks d, K ks d → K' ks d) : handBox s ks d K' := by
  unfold handBox at *
  split
  · rename_i hp; rw [hp] at hk; exact h _ _ hk
  · rename_i hp
    rw [hp] at hk
    have one : ∀ {d : Dat}, (handBody s ks [d] fun ks ds => match ds with | [d] => K ks d | _ => False) → handBody s ks [d] fun ks ds => match ds with | [d] => K' ks d | _ => False := fun h0 =>
      handBody_mono h0 fun ks1 ds1 h2 => by
        cases ds1 with
        | nil => exact h2
        | cons x xs =>
          cases xs with
          | nil => exact h _ _ h2
          | cons y ys => exact h2
    cases d with
    | agg cs => exact handBody_mono hk fun _ _ h2 => h _ _ h2
    | _ => exact one hk
theorem handBoxes_mono {s : St} : ∀ {ls ks : List Nat} {K K' : List Nat → List Dat → Prop}, handBoxes s ks ls K → (∀ ks d, K ks d → K' ks d) → handBoxes s ks ls K'
  | [], ks, K, K', hk, h => h _ _ hk
  | l :: ls, ks, K, K', hk, h => by
    simp only [handBoxes_nil, handBoxes_cons] at hk ⊢
    split at hk
    · exact handBox_mono hk fun ks1 d1 h1 => handBoxes_mono h1 fun ks2 ds2 h2 => h _ _ h2
    · exact hk.elim
def Nm (s : St) : Prop := (∀ l, s.H l ≠ none → l ∈ s.hn) ∧ ∀ k, s.R k ≠ none → k ∈ s.rn
structure Keep (W : List Nat) (s s' : St) : Prop where
  env : ∀ t, t ∉ W → s'.env t = s.env t
  H : ∀ l, s'.H l ≠ none → s.H l ≠ none ∨ l ∈ W
  R : ∀ k, s'.R k ≠ none → s.R k ≠ none ∨ k ∈ rowDsts W
  liveH : ∀ l, s.H l ≠ none → s'.H l ≠ none
  liveR : ∀ k, s.R k ≠ none → s'.R k ≠ none
  nm : Nm s → Nm s'
  y : s.y = .off → s'.y = .off
theorem rowDsts_mono {W V : List Nat} (h : ∀ t ∈ W, t ∈ V) : ∀ k ∈ rowDsts W, k ∈ rowDsts V := by
  intro k hk
  unfold rowDsts at *
  rw [List.mem_flatMap] at *
  obtain ⟨t, ht, hk⟩ := hk
  exact ⟨t, h t ht, hk⟩
theorem Keep.refl (W : List Nat) (s : St) : Keep W s s := ⟨fun _ _ => rfl, fun _ h => .inl h, fun _ h => .inl h, fun _ h => h, fun _ h => h, fun h => h, fun h => h⟩
theorem Keep.trans {W V U : List Nat} {a b c : St} (h : Keep W a b) (k : Keep V b c) (h1 : ∀ t ∈ W, t ∈ U) (h2 : ∀ t ∈ V, t ∈ U) : Keep U a c where
  env t ht := (k.env t (fun e => ht (h2 t e))).trans (h.env t (fun e => ht (h1 t e)))
  H l hl := by
    rcases k.H l hl with e | e
    · rcases h.H l e with e | e
      · exact .inl e
      · exact .inr (h1 l e)
    · exact .inr (h2 l e)
  R l hl := by
    rcases k.R l hl with e | e
    · rcases h.R l e with e | e
      · exact .inl e
      · exact .inr (rowDsts_mono h1 l e)
    · exact .inr (rowDsts_mono h2 l e)
  liveH l hl := k.liveH l (h.liveH l hl)
  liveR l hl := k.liveR l (h.liveR l hl)
  nm hn := k.nm (h.nm hn)
  y h0 := k.y (h.y h0)
theorem Keep.sub {W U : List Nat} {a b : St} (h : Keep W a b) (h1 : ∀ t ∈ W, t ∈ U) : Keep U a b := h.trans (Keep.refl U b) h1 (fun _ h => h)
theorem Keep.of_laid {s s' : St} (h : LKeep s s') (W : List Nat) : Keep W s s' where
  env t _ := by rw [h.env]
  H l hl := by rw [h.H] at hl; exact .inl hl
  R k hk := .inl fun e => hk ((h.R k).2 e)
  liveH l hl := by rw [h.H]; exact hl
  liveR k hk e := hk ((h.R k).1 e)
  nm hn := ⟨fun l hl => by rw [h.H] at hl; rw [h.hn]; exact hn.1 l hl, fun k hk => by rw [h.rn]; exact hn.2 k fun e => hk ((h.R k).2 e)⟩
  y h0 := h.y.trans h0
theorem Keep.of_upd {s s' : St} {W : List Nat} (he : s'.env = s.env ∨ ∃ t d, t ∈ W ∧ s'.env = upd s.env t d)
    (hH : (s'.H = s.H ∧ s'.hn = s.hn) ∨ (∃ l d, s.H l ≠ none ∧ s'.H = upd s.H l (some d) ∧ s'.hn = s.hn) ∨ (∃ l d, l ∈ W ∧ s'.H = upd s.H l (some d) ∧ s'.hn = l :: s.hn))
    (hR : (s'.R = s.R ∧ s'.rn = s.rn) ∨ (∃ l d, s.R l ≠ none ∧ s'.R = upd s.R l (some d) ∧ s'.rn = s.rn) ∨ (∃ l d, l ∈ rowDsts W ∧ s'.R = upd s.R l (some d) ∧ s'.rn = l :: s.rn)) (hy : s'.y = s.y := by rfl) : Keep W s s' := by
  have sp : ∀ {α : Type} {H H' : Nat → Option α} {hn hn' : List Nat} {V : List Nat}, ((H' = H ∧ hn' = hn) ∨ (∃ l d, H l ≠ none ∧ H' = upd H l (some d) ∧ hn' = hn) ∨ (∃ l d, l ∈ V ∧ H' = upd H l (some d) ∧ hn' = l :: hn)) →
      (∀ l, H' l ≠ none → H l ≠ none ∨ l ∈ V) ∧ (∀ l, H l ≠ none → H' l ≠ none) ∧ ((∀ l, H l ≠ none → l ∈ hn) → ∀ l, H' l ≠ none → l ∈ hn') := by
    intro α H H' hn hn' V h
    rcases h with ⟨rfl, rfl⟩ | ⟨l, d, h0, rfl, rfl⟩ | ⟨l, d, h0, rfl, rfl⟩
    · exact ⟨fun _ h => .inl h, fun _ h => h, fun h => h⟩
    · refine ⟨fun x hx => ?_, fun x hx => ?_, fun h x hx => ?_⟩
      · by_cases e : x = l
        · subst e; exact .inl h0
        · rw [upd_ne _ _ _ _ e] at hx; exact .inl hx
      · by_cases e : x = l
        · subst e; rw [upd_eq]; simp
        · rw [upd_ne _ _ _ _ e]; exact hx
      · by_cases e : x = l
        · subst e; exact h x h0
        · rw [upd_ne _ _ _ _ e] at hx; exact h x hx
    · refine ⟨fun x hx => ?_, fun x hx => ?_, fun h x hx => ?_⟩
      · by_cases e : x = l
        · subst e; exact .inr h0
        · rw [upd_ne _ _ _ _ e] at hx; exact .inl hx
      · by_cases e : x = l
        · subst e; rw [upd_eq]; simp
        · rw [upd_ne _ _ _ _ e]; exact hx
      · by_cases e : x = l
        · subst e; simp
        · rw [upd_ne _ _ _ _ e] at hx; exact List.mem_cons_of_mem _ (h x hx)
  obtain ⟨a1, a2, a3⟩ := sp hH
  obtain ⟨b1, b2, b3⟩ := sp hR
  refine ⟨fun t ht => ?_, a1, b1, a2, b2, fun hn => ⟨a3 hn.1, b3 hn.2⟩, fun h => hy.trans h⟩
  rcases he with e | ⟨u, d, h0, e⟩
  · rw [e]
  · rw [e, upd_ne _ _ _ _ (by intro x; subst x; exact ht h0)]
theorem Keep.put (s : St) (dst : Option Nat) (d : Dat) : Keep (tmpOf dst) s (s.put dst d) := by
  cases dst with
  | none => exact Keep.refl _ _
  | some t => exact Keep.of_upd (.inr ⟨t, some d, by simp [tmpOf], rfl⟩) (.inl ⟨rfl, rfl⟩) (.inl ⟨rfl, rfl⟩)
theorem Keep.forget (s : St) (dst : Option Nat) : Keep (tmpOf dst) s (s.forget dst) := by
  cases dst with
  | none => exact Keep.refl _ _
  | some t => exact Keep.of_upd (.inr ⟨t, some (.tup []), by simp [tmpOf], rfl⟩) (.inl ⟨rfl, rfl⟩) (.inl ⟨rfl, rfl⟩)
theorem putRows_keep {ks : List Nat} {t : Nat} : ∀ {rs : List Row} {i : Nat} {R : Nat → Option Row} {rn : List Nat} (_ : ∀ k ∈ ks, R k ≠ none) (_ : i + rs.length ≤ ks.length + 4),
    (∀ k, (putRows ks t R rn i rs).1 k ≠ none → R k ≠ none ∨ k ∈ rowDsts [t]) ∧ (∀ k, R k ≠ none → (putRows ks t R rn i rs).1 k ≠ none) ∧
    ((∀ k, R k ≠ none → k ∈ rn) → ∀ k, (putRows ks t R rn i rs).1 k ≠ none → k ∈ (putRows ks t R rn i rs).2)
  | [], i, R, rn, _, _ => ⟨fun _ h => .inl h, fun _ h => h, fun h => h⟩
  | r :: rs, i, R, rn, hl, hlen => by
    simp only [List.length_cons] at hlen
    simp only [putRows]
    cases hi : nth ks i with
    | some k0 =>
      dsimp only
      have h0 := hl k0 (mem_of_nth' hi)
      have hl' : ∀ k ∈ ks, upd R k0 (some r) k ≠ none := fun k hk => by
        by_cases e : k = k0
        · subst e; rw [upd_eq]; simp
        · rw [upd_ne _ _ _ _ e]; exact hl k hk
      obtain ⟨a1, a2, a3⟩ := putRows_keep (t := t) (rs := rs) (i := i + 1) (R := upd R k0 (some r)) (rn := rn) hl' (by omega)
      have un : ∀ k, upd R k0 (some r) k ≠ none → R k ≠ none := fun k hk => by
        by_cases e : k = k0
        · subst e; exact h0
        · rw [upd_ne _ _ _ _ e] at hk; exact hk
      refine ⟨fun k hk => (a1 k hk).imp (un k) id, fun k hk => a2 k ?_, fun h => a3 fun k hk => h k (un k hk)⟩
      by_cases e : k = k0
      · subst e; rw [upd_eq]; simp
      · rw [upd_ne _ _ _ _ e]; exact hk
    | none =>
      dsimp only
      have hge : ks.length ≤ i := by
        rcases Nat.lt_or_ge i ks.length with h | h
        · obtain ⟨x, hx⟩ := nth_lt h; rw [hi] at hx; cases hx
        · exact h
      have hup : ∀ k, R k ≠ none → upd R (5000 + 10 * t + (i - ks.length)) (some r) k ≠ none := fun k hk => by
        by_cases e : k = 5000 + 10 * t + (i - ks.length)
        · subst e; rw [upd_eq]; simp
        · rw [upd_ne _ _ _ _ e]; exact hk
      obtain ⟨a1, a2, a3⟩ := putRows_keep (t := t) (rs := rs) (i := i + 1) (R := upd R (5000 + 10 * t + (i - ks.length)) (some r)) (rn := (5000 + 10 * t + (i - ks.length)) :: rn) (fun k hk => hup k (hl k hk)) (by omega)
      refine ⟨fun k hk => ?_, fun k hk => a2 k (hup k hk), fun h => a3 fun k hk => ?_⟩
      · rcases a1 k hk with e | e
        · by_cases e2 : k = 5000 + 10 * t + (i - ks.length)
          · refine .inr ?_
            unfold rowDsts
            simp only [List.flatMap_cons, List.flatMap_nil, List.append_nil, List.mem_cons, List.not_mem_nil, or_false]
            omega
          · rw [upd_ne _ _ _ _ e2] at e; exact .inl e
        · exact .inr e
      · by_cases e2 : k = 5000 + 10 * t + (i - ks.length)
        · subst e2; simp
        · rw [upd_ne _ _ _ _ e2] at hk; exact List.mem_cons_of_mem _ (h k hk)
theorem putBoxes_keep {ks : List Nat} {t : Nat} : ∀ {ls : List Nat} {ds : List Dat} {H : Nat → Option Dat} (_ : ∀ l ∈ ls, H l ≠ none),
    (∀ l, putBoxes ks t H ls ds l ≠ none ↔ H l ≠ none)
  | [], ds, H, _, l => by cases ds <;> exact Iff.rfl
  | x :: ls, [], H, _, l => Iff.rfl
  | x :: ls, d :: ds, H, h, l => by
    simp only [putBoxes]
    have hu : ∀ l, upd H x (some (back ks t d)) l ≠ none ↔ H l ≠ none := fun l => by
      by_cases e : l = x
      · subst e; rw [upd_eq]; simp [h l (by simp)]
      · rw [upd_ne _ _ _ _ e]
    rw [putBoxes_keep (fun y hy => (hu y).2 (h y (by simp [hy])))]
    exact hu l
end Abs
namespace Abs
open Go
theorem nth_iff_mem {α : Type} {l : List α} {x : α} : (∃ i, nth l i = some x) ↔ x ∈ l := by
  constructor
  · rintro ⟨i, hi⟩; exact mem_of_nth' hi
  · intro h
    obtain ⟨i, hi⟩ := List.mem_iff_getElem?.1 h
    exact ⟨i, by rw [nth_eq]; exact hi⟩
theorem handBoxes_live {s : St} : ∀ {ls ks : List Nat} {K : List Nat → List Dat → Prop}, handBoxes s ks ls K → handBoxes s ks ls fun ks ds => (∀ l ∈ ls, s.H l ≠ none) ∧ K ks ds
  | [], ks, K, hk => ⟨by simp, hk⟩
  | l :: ls, ks, K, hk => by
    simp only [handBoxes_nil, handBoxes_cons] at hk ⊢
    split at hk
    · rename_i d hd
      refine handBox_mono hk fun ks1 d1 h1 => handBoxes_mono (handBoxes_live h1) fun ks2 ds2 ⟨h2, h3⟩ => ⟨?_, h3⟩
      intro x hx
      rcases List.mem_cons.1 hx with e | e
      · subst e; rw [hd]; simp
      · exact h2 x e
    · exact hk.elim
theorem plan_mono {P : Program} {c : Cfg} {dst : Option Nat} {s : St} {K K' : St → Prop} {p : Plan} (hk : exPlan P c dst s K p)
    (h : ∀ s', Keep (tmpOf dst) s s' → s'.y = s.y → K s' → K' s') : exPlan P c dst s K' p := by
  have put : ∀ {d : Dat}, K (s.put dst d) → K' (s.put dst d) := fun {d} hk => h _ (Keep.put s dst d) (by cases dst <;> rfl) hk
  have setH : ∀ {l : Nat} {d d' : Dat}, s.H l = some d → K { s with H := upd s.H l (some d') } → K' { s with H := upd s.H l (some d') } := fun {l d d'} hl hk =>
    h _ (Keep.of_upd (.inl rfl) (.inr (.inl ⟨l, d', by rw [hl]; simp, rfl, rfl⟩)) (.inl ⟨rfl, rfl⟩)) rfl hk
  cases p with
  | val d => exact put hk
  | need q d => exact ⟨hk.h, put hk.k⟩
  | arith k x => exact ⟨put hk.out⟩
  | load a n agg =>
    cases a with
    | ptr l off =>
      simp only [exPlan] at hk ⊢
      split at hk
      · split at hk
        · exact put hk
        · exact hk.elim
      · exact hk.elim
    | vptr l off =>
      simp only [exPlan] at hk ⊢
      split at hk
      · obtain ⟨d, a1, a2, a3, a4⟩ := hk.out
        exact ⟨d, a1, a2, a3, put a4⟩
      · exact hk.elim
    | imm d off =>
      simp only [exPlan] at hk ⊢
      split at hk
      · exact put hk
      · exact hk.elim
    | eptr k m i off =>
      simp only [exPlan] at hk ⊢
      split at hk
      · obtain ⟨d, a1, a2, a3, a4⟩ := hk.out
        refine ⟨d, a1, a2, a3, ?_⟩
        split at a4
        · exact put a4
        · exact a4.elim
      · exact hk.elim
    | _ => exact hk.elim
  | store a v n =>
    simp only [exPlan] at hk ⊢
    split at hk
    · exact hk.elim
    · cases a with
      | ptr l off =>
        dsimp only at hk ⊢
        split at hk
        · rename_i hl
          split at hk
          · exact setH hl hk
          · exact hk.elim
        · exact hk.elim
      | vptr l off =>
        dsimp only at hk ⊢
        split at hk
        · rename_i hl
          cases v with
          | agg _ => exact hk.elim
          | tup _ => exact hk.elim
          | _ => exact ⟨hk.h, setH hl hk.k⟩
        · exact hk.elim
      | eptr k m i off =>
        dsimp only at hk ⊢
        refine leak_mono (keep_leak hk) fun s1 v1 ⟨k1, h1⟩ => ?_
        split at h1
        · rename_i r hr
          split at h1
          · obtain ⟨d, a1, a2, a3, a4⟩ := h1.out
            refine ⟨d, a1, a2, a3, ?_⟩
            split at a4
            · refine h _ ((Keep.of_laid k1 (tmpOf dst)).trans (Keep.of_upd (W := tmpOf dst) (.inl rfl) (.inl ⟨rfl, rfl⟩) (.inr (.inl ⟨k, _, by rw [hr]; simp, rfl, rfl⟩))) (fun _ h => h) (fun _ h => h)) k1.y a4
            · exact a4.elim
          · exact h1.elim
        · exact h1.elim
      | _ => exact hk.elim
  | alloc d =>
    simp only [exPlan] at hk ⊢
    split at hk
    · rename_i t
      split at hk
      · exact h _ (Keep.of_upd (.inr ⟨t, _, by simp [tmpOf], rfl⟩) (.inr (.inr ⟨t, _, by simp [tmpOf], rfl, rfl⟩)) (.inl ⟨rfl, rfl⟩)) rfl hk
      · exact hk.elim
    · exact hk.elim
  | row sz es =>
    simp only [exPlan] at hk ⊢
    split at hk
    · rename_i t
      refine leakAll_mono (keep_leakAll hk) fun s1 es1 ⟨k1, h1⟩ => ?_
      split at h1
      · have := (Keep.of_laid k1 (tmpOf (some t))).trans (U := tmpOf (some t)) (Keep.of_upd (W := tmpOf (some t)) (s' := { env := upd s1.env t (some (.ref t es1.length)), H := s1.H, hn := s1.hn, R := upd s1.R t (some ⟨sz, true, es1⟩), rn := t :: s1.rn, y := s1.y })
          (.inr ⟨t, _, by simp [tmpOf], rfl⟩) (.inl ⟨rfl, rfl⟩) (.inr (.inr ⟨t, _, by simp [tmpOf, rowDsts], rfl, rfl⟩))) (fun _ h => h) (fun _ h => h)
        exact h _ this k1.y h1
      · exact h1.elim
    · exact hk.elim
  | idx sz a i =>
    simp only [exPlan] at hk ⊢
    split at hk
    · exact hk.elim
    · cases a with
      | sl z es b =>
        obtain ⟨d, a1, a2, a3, a4⟩ := hk.out
        exact ⟨d, a1, a2, a3, put a4⟩
      | ref k n =>
        dsimp only at hk ⊢
        split at hk
        · split at hk
          · obtain ⟨d, a1, a2, a3, a4⟩ := hk.out
            exact ⟨d, a1, a2, a3, put a4⟩
          · obtain ⟨d, a1, a2, a3, a4⟩ := hk.out
            exact ⟨d, a1, a2, a3, put a4⟩
        · exact hk.elim
      | _ => exact hk.elim
  | aidx l off m sz i => exact ⟨hk.h, put hk.k⟩
  | part cs i =>
    obtain ⟨d, a1, a2, a3, a4⟩ := hk.out
    exact ⟨d, a1, a2, a3, put a4⟩
  | sidx b i =>
    obtain ⟨d, a1, a2, a3⟩ := hk.out
    exact ⟨d, a1, a2, put a3⟩
  | app sz a b =>
    simp only [exPlan] at hk ⊢
    split at hk
    · exact hk.elim
    · split at hk
      · rename_i _ _ t _
        have rd : ∀ {X X' : List Dat → Prop}, rdRow s b X → (∀ xs, X xs → X' xs) → rdRow s b X' := fun {X X'} h0 hx => by
          unfold rdRow at *
          cases b with
          | ref k n =>
            dsimp only at h0 ⊢
            split at h0
            · exact ⟨h0.h, hx _ h0.k⟩
            · exact h0.elim
          | sl _ _ _ => exact hx _ h0
          | str _ => exact hx _ h0
          | _ => exact h0.elim
        refine rd hk fun xs hn => ⟨hn.h, ?_⟩
        have hk := hn.k
        split at hk
        · exact h _ (Keep.of_upd (.inr ⟨t, _, by simp [tmpOf], rfl⟩) (.inl ⟨rfl, rfl⟩) (.inr (.inr ⟨t, _, by simp [tmpOf, rowDsts], rfl, rfl⟩))) rfl hk
        · exact hk.elim
      · rename_i k n t _
        split at hk
        · rename_i r hr
          have rd : ∀ {X X' : List Dat → Prop}, rdRow s b X → (∀ xs, X xs → X' xs) → rdRow s b X' := fun {X X'} h0 hx => by
            unfold rdRow at *
            cases b with
            | ref k n =>
              dsimp only at h0 ⊢
              split at h0
              · exact ⟨h0.h, hx _ h0.k⟩
              · exact h0.elim
            | sl _ _ _ => exact hx _ h0
            | str _ => exact hx _ h0
            | _ => exact h0.elim
          refine rd hk fun xs hn => ⟨hn.h, h _ (Keep.of_upd (.inr ⟨t, _, by simp [tmpOf], rfl⟩) (.inl ⟨rfl, rfl⟩) (.inr (.inl ⟨k, _, by rw [hr]; simp, rfl, rfl⟩))) rfl hn.k⟩
        · exact hk.elim
      · exact hk.elim
  | sub sz a lo hi =>
    simp only [exPlan] at hk ⊢
    cases a with
    | str b => exact ⟨hk.h, put hk.k⟩
    | _ =>
      dsimp only at hk ⊢
      split at hk
      · exact hk.elim
      · refine leak_mono (keep_leak hk) fun s1 v1 ⟨k1, h1⟩ => ?_
        cases v1 with
        | sl z es b =>
          dsimp only at h1 ⊢
          split at h1
          · exact ⟨h1.h, h _ ((Keep.of_laid k1 (tmpOf dst)).trans (Keep.put s1 dst _) (fun _ h => h) (fun _ h => h)) ((show (s1.put dst _).y = s1.y by cases dst <;> rfl).trans k1.y) h1.k⟩
          · exact h1.elim
        | _ => exact h1.elim
  | sel b x y =>
    simp only [exPlan] at hk ⊢
    refine ⟨fun e => ?_, fun e => ?_⟩
    · have := hk.t e
      split at this
      · exact put this
      · exact this.elim
    · have := hk.f e
      split at this
      · exact put this
      · exact this.elim
  | bytes e b =>
    simp only [exPlan] at hk ⊢
    split at hk
    · rename_i t
      split at hk
      · exact h _ (Keep.of_upd (.inr ⟨t, _, by simp [tmpOf], rfl⟩) (.inl ⟨rfl, rfl⟩) (.inr (.inr ⟨t, _, by simp [tmpOf, rowDsts], rfl, rfl⟩))) rfl hk
      · exact hk.elim
    · exact hk.elim
  | text a =>
    simp only [exPlan] at hk ⊢
    split at hk
    · exact hk.elim
    · have rd : ∀ {X X' : List Dat → Prop}, rdRow s a X → (∀ xs, X xs → X' xs) → rdRow s a X' := fun {X X'} h0 hx => by
        unfold rdRow at *
        cases a with
        | ref k n =>
          dsimp only at h0 ⊢
          split at h0
          · exact ⟨h0.h, hx _ h0.k⟩
          · exact h0.elim
        | sl _ _ _ => exact hx _ h0
        | str _ => exact hx _ h0
        | _ => exact h0.elim
      refine rd hk fun xs hn => ?_
      obtain ⟨b, hb, hn⟩ := hn.out
      exact ⟨b, hb, put hn⟩
  | call f args =>
    simp only [exPlan] at hk ⊢
    split at hk
    · rename_i t
      refine handArgs_mono hk fun s1 ls ks as k1 h1 => ?_
      refine handBoxes_mono (handBoxes_live h1) fun ks1 H1 ⟨hl, h2⟩ => ?_
      split at h2
      · rename_i R hR
        obtain ⟨hlen, hlive⟩ := rowsOf_spec _ _ hR
        obtain ⟨r, m', hc, h3⟩ := h2.out
        refine ⟨r, m', hc, ?_⟩
        split at h3
        · rename_i hb
          rw [Bool.and_eq_true, Bool.and_eq_true, Nat.ble_eq] at hb
          obtain ⟨b1, b2, b3⟩ := putRows_keep (ks := ks1) (t := t) (rs := m'.R) (i := 0) (R := s1.R) (rn := s1.rn) (fun k hk => by
            rw [← nth_iff_mem] at hk
            obtain ⟨i, hi⟩ := hk
            obtain ⟨r, hr, _⟩ := hlive i k hi
            rw [hr]; simp) (by simpa using hb.2.2)
          have bx := fun l => putBoxes_keep (ks := ks1) (t := t) (ls := ls) (ds := m'.H) (H := s1.H) hl l
          have kk : Keep (tmpOf (some t)) s1 { env := upd s1.env t (some (back ks1 t r)), H := putBoxes ks1 t s1.H ls m'.H, hn := s1.hn, R := (putRows ks1 t s1.R s1.rn 0 m'.R).1, rn := (putRows ks1 t s1.R s1.rn 0 m'.R).2, y := s1.y } :=
            { env := fun u hu => upd_ne _ _ _ _ (by intro e; subst e; exact hu (by simp [tmpOf]))
              H := fun l hl => .inl ((bx l).1 hl)
              R := b1
              liveH := fun l hl => (bx l).2 hl
              liveR := b2
              nm := fun hn => ⟨fun l hl => hn.1 l ((bx l).1 hl), b3 hn.2⟩
              y := fun h => h }
          exact h _ ((Keep.of_laid k1 (tmpOf (some t))).trans kk (fun _ h => h) (fun _ h => h)) k1.y h3
        · exact h3.elim
      · exact h2.elim
    · exact hk.elim
  | yield => exact hk.elim
  | ycall => exact hk.elim
  | bad => exact hk.elim
theorem build_eq {α : Type} : ∀ (l : List α) (K : List α → Prop), build l K = K l
  | [], K => rfl
  | x :: l, K => by simp only [build_nil, build_cons]; exact build_eq l _
theorem upd_self {α : Type} {e : Nat → Option α} {t : Nat} {x : Option α} (h : e t = x) : upd e t x = e := by
  funext u
  by_cases hu : u = t
  · subst hu; rw [upd_eq, h]
  · rw [upd_ne _ _ _ _ hu]
theorem norm_eq (dst : Option Nat) (p : Plan) (s : St) (K : St → Prop) : norm dst p s K = K s := by
  unfold norm
  split
  split
  · split
    · rename_i he
      split
      · rw [build_eq, upd_self he]
      · rw [build_eq, upd_self he]
      · rw [upd_self he]
    · rfl
  · split
    · split
      · rename_i he
        split
        · rw [build_eq, upd_self he]
        · rw [upd_self he]
      · rfl
    · rfl
theorem exOps_eq (P : Program) (c : Cfg) (all : List Oper) : ∀ (l : List Oper) (rs : List Rec) (s : St) (K : List Rec → St → Prop), exOps' P c all l rs s K = exOps P c all l rs s K
  | [], rs, s, K => rfl
  | o :: l, rs, s, K => by
    simp only [exOps'_cons, exOps]
    congr 1
    · congr 1
      funext s'
      rw [norm_eq, exOps_eq P c all l]
    · rw [exOps_eq P c all l]
theorem exOps_mono {P : Program} {c : Cfg} {all : List Oper} : ∀ {l : List Oper} {rs : List Rec} {s : St} {K K' : List Rec → St → Prop}, exOps P c all l rs s K →
    (∀ rs' s', Keep (l.flatMap fun o => tmpOf o.dst) s s' → K rs' s' → K' rs' s') → exOps P c all l rs s K'
  | [], rs, s, K, K', hk, h => h _ _ (Keep.refl _ _) hk
  | o :: l, rs, s, K, K', hk, h => by
    simp only [exOps] at hk ⊢
    have up : ∀ {a b : St}, Keep (tmpOf o.dst) s a → Keep (l.flatMap fun o => tmpOf o.dst) a b → Keep ((o :: l).flatMap fun o => tmpOf o.dst) s b := fun ha hb =>
      ha.trans hb (fun t ht => by simp [ht]) (fun t ht => by
        rw [List.flatMap_cons]; exact List.mem_append_right _ ht)
    exact guardOf_mono hk (fun h1 => plan_mono h1 fun s1 k1 _ h2 => exOps_mono h2 fun rs' s' k2 h3 => h _ _ (up k1 k2) h3)
      (fun h1 => exOps_mono h1 fun rs' s' k2 h3 => h _ _ (up (Keep.forget s o.dst) k2) h3)
theorem exOps_y {P : Program} {c : Cfg} {all : List Oper} : ∀ {l : List Oper} {rs : List Rec} {s : St} {K : List Rec → St → Prop}, exOps P c all l rs s K →
    exOps P c all l rs s fun rs' s' => s'.y = s.y ∧ K rs' s'
  | [], rs, s, K, hk => ⟨rfl, hk⟩
  | o :: l, rs, s, K, hk => by
    simp only [exOps] at hk ⊢
    exact guardOf_mono hk (fun h1 => plan_mono h1 fun s1 _ k1 h2 => exOps_mono (exOps_y h2) fun rs' s' _ h3 => ⟨h3.1.trans k1, h3.2⟩)
      (fun h1 => exOps_mono (exOps_y h1) fun rs' s' _ h3 => ⟨h3.1.trans (by cases o.dst <;> rfl), h3.2⟩)
end Abs
namespace Abs
open Go
section
variable {P : Program} {cx : Cx} {c : Cfg} {ops : Array Oper} {S : Nat → St} {T : List Rec}
theorem tmpOf_mem {d : Option Nat} {t : Nat} : t ∈ tmpOf d ↔ d = some t := by
  cases d <;> simp [tmpOf, eq_comm]
theorem apart_spec {ops : List Oper} {x y : Oper} {rx ry : Rec} (h : apartB ops x y rx ry = true) :
    (∀ t, x.dst = some t → ¬ (t ∈ readsOf ops y ∨ y.dst = some t)) ∧ (∀ t, y.dst = some t → ¬ (t ∈ readsOf ops x ∨ x.dst = some t)) ∧
    (∀ l, l ∈ rx.wh → ¬ (l ∈ ry.rh ∨ l ∈ ry.wh)) ∧ (∀ l, l ∈ ry.wh → ¬ (l ∈ rx.rh ∨ l ∈ rx.wh)) ∧
    (∀ l, l ∈ rx.wr → ¬ (l ∈ ry.rr ∨ l ∈ ry.wr)) ∧ (∀ l, l ∈ ry.wr → ¬ (l ∈ rx.rr ∨ l ∈ rx.wr)) := by
  unfold apartB at h
  simp only [Bool.not_eq_true', Bool.or_eq_false_iff] at h
  obtain ⟨⟨⟨⟨⟨⟨⟨⟨a1, a2⟩, a3⟩, b1⟩, b2⟩, b3⟩, c1⟩, c2⟩, c3⟩ := h
  refine ⟨fun t ht => ?_, fun t ht => ?_, fun l hl => ?_, fun l hl => ?_, fun l hl => ?_, fun l hl => ?_⟩
  · rintro (h | h)
    · exact meets_not a1 (tmpOf_mem.2 ht) h
    · exact meets_not a2 (tmpOf_mem.2 ht) (tmpOf_mem.2 h)
  · rintro (h | h)
    · exact meets_not a3 (tmpOf_mem.2 ht) h
    · exact meets_not a2 (tmpOf_mem.2 h) (tmpOf_mem.2 ht)
  · rintro (h | h)
    · exact meets_not b1 hl h
    · exact meets_not b2 hl h
  · rintro (h | h)
    · exact meets_not b3 h hl
    · exact meets_not b2 h hl
  · rintro (h | h)
    · exact meets_not c1 hl h
    · exact meets_not c2 hl h
  · rintro (h | h)
    · exact meets_not c3 h hl
    · exact meets_not c2 h hl
theorem order_step (hI : Indep ops T) (hIL : IndepL ops T) (hlen : T.length = ops.size)
    (hL : ∀ (i : Nat) o r, nth ops.toList i = some o → nth T i = some r → LocStep P c ops.toList o (S i) (S (i + 1)) r)
    {D : Nat → Prop} (hD : Closed ops.toList D) {u : St} (hu : Inv ops S T D u) {j : Nat} {o : Oper} (ho : nth ops.toList j = some o) (hjD : ¬ D j) (hpre : Pre o D) :
    ∃ u', opTo P c ops.toList o u u' ∧ Inv ops S T (fun i => D i ∨ i = j) u' := by
  have hj : j < ops.size := by have := lt_of_nth ho; simpa using this
  obtain ⟨r, hr⟩ := nth_lt (l := T) (i := j) (by omega)
  have hn : ∀ {i : Nat} {x : Oper}, nth ops.toList i = some x → i < ops.size := fun h => by have := lt_of_nth h; simpa using this
  have hnT : ∀ {i : Nat} {x : Rec}, nth T i = some x → i < ops.size := fun h => by have := lt_of_nth h; omega
  have both : ∀ {i : Nat}, i < ops.size → ∃ x y, nth ops.toList i = some x ∧ nth T i = some y := fun {i} h => by
    obtain ⟨x, hx⟩ := nth_lt (l := ops.toList) (i := i) (by simpa using h)
    obtain ⟨y, hy⟩ := nth_lt (l := T) (i := i) (by omega)
    exact ⟨x, y, hx, hy⟩
  have ord1 : ∀ {i : Nat} {x : Oper} {y : Rec}, i < j → nth ops.toList i = some x → nth T i = some y → ¬ apartB ops.toList x o y r = true → D i := fun {i x y} h1 h2 h3 h4 =>
    (hI.apart D hD i j h1 x o y r h2 ho h3 hr).resolve_left h4 hpre
  have ord2 : ∀ {i : Nat} {x : Oper} {y : Rec}, j < i → nth ops.toList i = some x → nth T i = some y → ¬ apartB ops.toList o x r y = true → ¬ D i := fun {i x y} h1 h2 h3 h4 h5 =>
    hjD ((hI.apart D hD j i h1 o x r y ho h2 hr h3).resolve_left h4 (fun e he hb => hD i x h2 h5 e he hb))
  have stay : ∀ {i : Nat} {x : Oper} {y : Rec}, nth ops.toList i = some x → nth T i = some y →
      (∀ t, x.dst ≠ some t → (S (i + 1)).env t = (S i).env t) ∧ (∀ l, l ∉ y.wh → (S (i + 1)).H l = (S i).H l) ∧ (∀ l, l ∉ y.wr → (S (i + 1)).R l = (S i).R l) := fun {i x y} h1 h2 => by
    obtain ⟨u', p, _⟩ := (hL i x y h1 h2).out (S i) ⟨fun _ _ => rfl, fun _ _ => rfl, fun _ _ => rfl⟩ (fun _ _ => rfl)
    refine ⟨fun t ht => ?_, fun t ht => ?_, fun t ht => ?_⟩
    · rcases p.env t with ⟨a, _⟩ | ⟨_, b⟩
      · exact a
      · exact absurd b ht
    · rcases p.H t with ⟨a, _⟩ | ⟨_, b⟩
      · exact a
      · exact absurd b ht
    · rcases p.R t with ⟨a, _⟩ | ⟨_, b⟩
      · exact a
      · exact absurd b ht
  have ienv : ∀ x m, m ≤ ops.size → (∀ i, i < m → (∃ y, nth ops.toList i = some y ∧ y.dst = some x) → D i) → (∀ i, m ≤ i → (∃ y, nth ops.toList i = some y ∧ y.dst = some x) → ¬ D i) → u.env x = (S m).env x :=
    fun x m hm h1 h2 => hu.env x m hm (fun i y hi hy hd => h1 i hi ⟨y, hy, hd⟩) (fun i y hi hy hd => h2 i hi ⟨y, hy, hd⟩)
  have iH : ∀ x m, m ≤ ops.size → (∀ i, i < m → (∃ y, nth T i = some y ∧ x ∈ y.wh) → D i) → (∀ i, m ≤ i → (∃ y, nth T i = some y ∧ x ∈ y.wh) → ¬ D i) → u.H x = (S m).H x :=
    fun x m hm h1 h2 => hu.H x m hm (fun i y hi hy hd => h1 i hi ⟨y, hy, hd⟩) (fun i y hi hy hd => h2 i hi ⟨y, hy, hd⟩)
  have iR : ∀ x m, m ≤ ops.size → (∀ i, i < m → (∃ y, nth T i = some y ∧ x ∈ y.wr) → D i) → (∀ i, m ≤ i → (∃ y, nth T i = some y ∧ x ∈ y.wr) → ¬ D i) → u.R x = (S m).R x :=
    fun x m hm h1 h2 => hu.R x m hm (fun i y hi hy hd => h1 i hi ⟨y, hy, hd⟩) (fun i y hi hy hd => h2 i hi ⟨y, hy, hd⟩)
  have oenv1 : ∀ {x i}, (x ∈ readsOf ops.toList o ∨ o.dst = some x) → i < j → (∃ y, nth ops.toList i = some y ∧ y.dst = some x) → D i := fun {x i} hx hi hy => by
    obtain ⟨y, hy, hd⟩ := hy
    obtain ⟨_, z, _, hz⟩ := both (hn hy)
    exact ord1 hi hy hz (fun h => (apart_spec h).1 x hd hx)
  have oenv2 : ∀ {x i}, (x ∈ readsOf ops.toList o ∨ o.dst = some x) → j < i → (∃ y, nth ops.toList i = some y ∧ y.dst = some x) → ¬ D i := fun {x i} hx hi hy => by
    obtain ⟨y, hy, hd⟩ := hy
    obtain ⟨_, z, _, hz⟩ := both (hn hy)
    exact ord2 hi hy hz (fun h => (apart_spec h).2.1 x hd hx)
  have oH1 : ∀ {x i}, (x ∈ r.rh ∨ x ∈ r.wh) → i < j → (∃ y, nth T i = some y ∧ x ∈ y.wh) → D i := fun {x i} hx hi hy => by
    obtain ⟨y, hy, hd⟩ := hy
    obtain ⟨z, _, hz, _⟩ := both (hnT hy)
    exact ord1 hi hz hy (fun h => (apart_spec h).2.2.1 x hd hx)
  have oH2 : ∀ {x i}, (x ∈ r.rh ∨ x ∈ r.wh) → j < i → (∃ y, nth T i = some y ∧ x ∈ y.wh) → ¬ D i := fun {x i} hx hi hy => by
    obtain ⟨y, hy, hd⟩ := hy
    obtain ⟨z, _, hz, _⟩ := both (hnT hy)
    exact ord2 hi hz hy (fun h => (apart_spec h).2.2.2.1 x hd hx)
  have oR1 : ∀ {x i}, (x ∈ r.rr ∨ x ∈ r.wr) → i < j → (∃ y, nth T i = some y ∧ x ∈ y.wr) → D i := fun {x i} hx hi hy => by
    obtain ⟨y, hy, hd⟩ := hy
    obtain ⟨z, _, hz, _⟩ := both (hnT hy)
    exact ord1 hi hz hy (fun h => (apart_spec h).2.2.2.2.1 x hd hx)
  have oR2 : ∀ {x i}, (x ∈ r.rr ∨ x ∈ r.wr) → j < i → (∃ y, nth T i = some y ∧ x ∈ y.wr) → ¬ D i := fun {x i} hx hi hy => by
    obtain ⟨y, hy, hd⟩ := hy
    obtain ⟨z, _, hz, _⟩ := both (hnT hy)
    exact ord2 hi hz hy (fun h => (apart_spec h).2.2.2.2.2 x hd hx)
  have turned : ∀ {q : Nat × Nat × Nat × Bool} {i : Nat} {x : Oper} {y : Rec}, nth ops.toList i = some x → nth T i = some y → pr ((S (i+1)).H q.1) q ≠ pr ((S i).H q.1) q → q.1 ∈ y.wh := fun {q i x y} h1 h2 h3 =>
    Classical.byContradiction fun hno => h3 (by rw [(stay h1 h2).2.1 _ hno])
  have ldj : ∀ {q : Nat × Nat × Nat × Bool}, q ∈ r.ld → ∀ {i : Nat} {x : Oper} {y : Rec}, nth ops.toList i = some x → nth T i = some y → pr ((S (i+1)).H q.1) q ≠ pr ((S i).H q.1) q → ¬ LdHold r.ld y.wv := fun {q} hq {i x y} h1 h2 h3 h4 =>
    h3 (h4 q hq _ ((hL i x y h1 h2).wv _ (turned h1 h2 h3)) rfl).symm
  have agrL : ∀ q ∈ r.ld, pr ((S j).H q.1) q = pr (u.H q.1) q := fun q hq => by
    refine (hu.L q j (by omega) (fun i hi hlt hch => ?_) (fun i hi hlt hch hd => ?_)).symm
    · obtain ⟨x, y, hx, hy⟩ := both hlt
      rcases hIL.ld D hD i j hi o y r ho hy hr with h | h
      · exact absurd h.2 (ldj hq hx hy hch)
      · exact h hpre
    · rcases Nat.lt_or_ge j i with h' | h'
      · obtain ⟨x, y, hx, hy⟩ := both hlt
        rcases hIL.ld D hD j i h' x r y hx hr hy with h | h
        · exact absurd h.1 (ldj hq hx hy hch)
        · exact hjD (h (fun e he hb => hD i x hx hd e he hb))
      · have : i = j := by omega
        subst this; exact hjD hd
  have agr : Agr r (S j) u := ⟨fun x hx => (key_at (V := fun m => (S m).H x) hj (iH x) hjD (fun i => oH1 hx) (fun i => oH2 hx)).symm,
    fun x hx => (key_at (V := fun m => (S m).R x) hj (iR x) hjD (fun i => oR1 hx) (fun i => oR2 hx)).symm, agrL⟩
  have agrE : ∀ t ∈ readsOf ops.toList o, (S j).env t = u.env t := fun x hx =>
    (key_at (V := fun m => (S m).env x) hj (ienv x) hjD (fun i => oenv1 (.inl hx)) (fun i => oenv2 (.inl hx))).symm
  obtain ⟨u', p, q⟩ := (hL j o r ho hr).out u agr agrE
  refine ⟨u', q, ⟨fun x m hm h1 h2 => ?_, fun x m hm h1 h2 => ?_, fun x m hm h1 h2 => ?_, fun q m hm h1 h2 => ?_⟩⟩
  rotate_left 3
  · have inv := fun m hm (a : ∀ i, i < m → (i < ops.size ∧ pr ((S (i+1)).H q.1) q ≠ pr ((S i).H q.1) q) → D i) (b : ∀ i, m ≤ i → (i < ops.size ∧ pr ((S (i+1)).H q.1) q ≠ pr ((S i).H q.1) q) → ¬ D i) =>
      hu.L q m hm (fun i hi hlt hch => a i hi ⟨hlt, hch⟩) (fun i hi hlt hch => b i hi ⟨hlt, hch⟩)
    have before : q.1 ∈ r.wh → ∀ i, i < j → (i < ops.size ∧ pr ((S (i+1)).H q.1) q ≠ pr ((S i).H q.1) q) → D i := fun hw i hi hc => by
      obtain ⟨x, y, hx, hy⟩ := both hc.1
      exact oH1 (.inr hw) hi ⟨y, hy, turned hx hy hc.2⟩
    have behind : q.1 ∈ r.wh → ∀ i, j < i → (i < ops.size ∧ pr ((S (i+1)).H q.1) q ≠ pr ((S i).H q.1) q) → ¬ D i := fun hw i hi hc => by
      obtain ⟨x, y, hx, hy⟩ := both hc.1
      exact oH2 (.inr hw) hi ⟨y, hy, turned hx hy hc.2⟩
    refine key_step (V := fun m => pr ((S m).H q.1) q) (W := fun i => i < ops.size ∧ pr ((S (i+1)).H q.1) q ≠ pr ((S i).H q.1) q) hj inv (fun i hi hw => ?_) (fun i h => h.1) hjD
      (fun i hi hw hwj => before (turned ho hr hwj.2) i hi hw) (fun i hi hw hwj => behind (turned ho hr hwj.2) i hi hw) ?_ m hm (fun i hi hc => h1 i hi hc.1 hc.2) (fun i hi hc => h2 i hi hc.1 hc.2)
    · exact Classical.byContradiction fun hc => hw ⟨hi, hc⟩
    · rcases p.H q.1 with ⟨a, b⟩ | ⟨a, b⟩
      · exact .inl ⟨by rw [a], by rw [b]⟩
      · by_cases hw : pr ((S (j+1)).H q.1) q = pr ((S j).H q.1) q
        · refine .inl ⟨hw, ?_⟩
          have hv := key_at (V := fun m => pr ((S m).H q.1) q) (W := fun i => i < ops.size ∧ pr ((S (i+1)).H q.1) q ≠ pr ((S i).H q.1) q) hj inv hjD (before b) (behind b)
          rw [hv, ← a]; exact hw
        · exact .inr ⟨by rw [a], hj, hw⟩
  · refine key_step (V := fun m => (S m).env x) (W := fun i => ∃ y, nth ops.toList i = some y ∧ y.dst = some x) hj (ienv x) (fun i hi hw => ?_) (fun i ⟨y, hy, _⟩ => hn hy) hjD
      (fun i hi hw hwj => ?_) (fun i hi hw hwj => ?_) ?_ m hm (fun i hi ⟨y, hy, hd⟩ => h1 i y hi hy hd) (fun i hi ⟨y, hy, hd⟩ => h2 i y hi hy hd)
    · obtain ⟨y, z, hy, hz⟩ := both hi
      exact (stay hy hz).1 x (fun e => hw ⟨y, hy, e⟩)
    · obtain ⟨y, hy, hd⟩ := hwj
      rw [ho] at hy; cases hy
      exact oenv1 (.inr hd) hi hw
    · obtain ⟨y, hy, hd⟩ := hwj
      rw [ho] at hy; cases hy
      exact oenv2 (.inr hd) hi hw
    · exact (p.env x).imp id fun ⟨a, b⟩ => ⟨a, o, ho, b⟩
  · refine key_step (V := fun m => (S m).H x) (W := fun i => ∃ y, nth T i = some y ∧ x ∈ y.wh) hj (iH x) (fun i hi hw => ?_) (fun i ⟨y, hy, _⟩ => hnT hy) hjD
      (fun i hi hw hwj => ?_) (fun i hi hw hwj => ?_) ?_ m hm (fun i hi ⟨y, hy, hd⟩ => h1 i y hi hy hd) (fun i hi ⟨y, hy, hd⟩ => h2 i y hi hy hd)
    · obtain ⟨y, z, hy, hz⟩ := both hi
      exact (stay hy hz).2.1 x (fun e => hw ⟨z, hz, e⟩)
    · obtain ⟨y, hy, hd⟩ := hwj
      rw [hr] at hy; cases hy
      exact oH1 (.inr hd) hi hw
    · obtain ⟨y, hy, hd⟩ := hwj
      rw [hr] at hy; cases hy
      exact oH2 (.inr hd) hi hw
    · exact (p.H x).imp id fun ⟨a, b⟩ => ⟨a, r, hr, b⟩
  · refine key_step (V := fun m => (S m).R x) (W := fun i => ∃ y, nth T i = some y ∧ x ∈ y.wr) hj (iR x) (fun i hi hw => ?_) (fun i ⟨y, hy, _⟩ => hnT hy) hjD
      (fun i hi hw hwj => ?_) (fun i hi hw hwj => ?_) ?_ m hm (fun i hi ⟨y, hy, hd⟩ => h1 i y hi hy hd) (fun i hi ⟨y, hy, hd⟩ => h2 i y hi hy hd)
    · obtain ⟨y, z, hy, hz⟩ := both hi
      exact (stay hy hz).2.2 x (fun e => hw ⟨z, hz, e⟩)
    · obtain ⟨y, hy, hd⟩ := hwj
      rw [hr] at hy; cases hy
      exact oR1 (.inr hd) hi hw
    · obtain ⟨y, hy, hd⟩ := hwj
      rw [hr] at hy; cases hy
      exact oR2 (.inr hd) hi hw
    · exact (p.R x).imp id fun ⟨a, b⟩ => ⟨a, r, hr, b⟩
theorem guard_sound {g : Gh} {u : St} {a : Act} {w : World} (h : Rel cx g u a w) {o : Oper} {X Y : Prop} (hg : guardOf ops.toList u o X Y) :
    (Region.wanted o (yielded ops a.tmps) = true ∧ X) ∨ (Region.wanted o (yielded ops a.tmps) = false ∧ Y) := by
  unfold guardOf at hg
  unfold Region.wanted
  split at hg
  · rename_i e; rw [e]; exact .inl ⟨rfl, hg⟩
  · rename_i j want e
    rw [e]
    dsimp only
    split at hg
    · rename_i oj hj
      split at hg
      · rename_i t ht
        split at hg
        · rename_i b hb
          have hv := (h.env t _ hb).bool_val
          have hy : yielded ops a.tmps j = some b := by
            unfold yielded
            rw [nth_eq] at hj
            have hj' : ops[j]? = some oj := by simpa using hj
            rw [hj']
            simp only [Option.bind_some, ht]
            have : a.tmps[t]? = some (.bool b) := by
              rw [← hv]
              rcases Nat.lt_or_ge t a.tmps.size with hlt | hge
              · simp [hlt]
              · simp [Array.getElem?_eq_none hge, undef] at hv
            rw [this]
          rw [hy]
          cases hbw : (b == want) with
          | true => exact .inl ⟨by simpa using hbw, (BrW_to hg).t hbw⟩
          | false => exact .inr ⟨by simpa using hbw, (BrW_to hg).f hbw⟩
        · rename_i hb
          refine .inr ⟨?_, hg⟩
          obtain ⟨vs, hv, _⟩ := (h.env t _ hb).tup_val
          have hy : yielded ops a.tmps j = none := by
            unfold yielded
            rw [nth_eq] at hj
            have hj' : ops[j]? = some oj := by simpa using hj
            rw [hj']
            simp only [Option.bind_some, ht]
            rcases Nat.lt_or_ge t a.tmps.size with hlt | hge
            · have : a.tmps[t]? = some (.tuple vs) := by
                rw [← hv]; simp [hlt]
              rw [this]
            · rw [Array.getElem?_eq_none hge]
          rw [hy]; rfl
        · exact hg.elim
      · exact hg.elim
    · exact hg.elim
theorem wp_next {g : Gh} {o : Oper} {a : Act} {w : World} {K : St → Prop} {Q : Go.Exit → Act → World → Prop} {M : Act → World → Prop}
    (h : o.wp P a w (Post cx g K) Q) (hm : ∀ s' g' a' w', K s' → Ext g g' → Rel cx g' s' a' w' → M a' w') : o.wp P a w M Q :=
  Oper.wp_mono (fun _ _ ⟨s', g', k, e, r⟩ => hm s' g' _ _ k e r) h
def opsB (P : Program) (n : Nat) (ops : Array Oper) : Bool := ops.toList.all (opB P n)
theorem plan_nodefer {ρ : TypeId → Operand → Option Dat} {dst : Option Nat} {s : St} {K : St → Prop} {o : Oper} (hk : exPlan P c dst s K (plan P o ρ)) : ∀ d, o.op ≠ .defer d := fun d e => by
  simp only [plan, e, exPlan] at hk
theorem opTo_sound {ro : Option Nat} {n : Nat} {g : Gh} {u u' : St} {a : Act} {w : World} {o : Oper} {j : Nat} (h : Rel cx g u a w) (hB : opsB P cx.n ops = true) (ho : nth ops.toList j = some o)
    (hok : CfgOk P c) (ht : opTo P c ops.toList o u u') {Q : Go.Exit → Act → World → Prop} {M : Act → World → Prop}
    (hm : ∀ g' a' w', Ext g g' → Rel cx g' u' a' w' → M a' w') : wpOpIn (FW ro) n P ops Q j M a w := by
  have ho' : ops[j]? = some o := by rw [nth_eq] at ho; simpa using ho
  have hb : opB P cx.n o = true := by
    unfold opsB at hB
    rw [List.all_eq_true] at hB
    exact hB o (mem_of_nth' ho)
  unfold wpOpIn
  rw [ho']
  dsimp only
  rcases guard_sound h ht with ⟨h1, h2⟩ | ⟨h1, h2⟩
  · rw [if_pos h1]
    have hx := h2 (fun s' => s' = u') rfl
    refine wpIn_of_wp (plan_nodefer hx) (wp_next (sound_op h hb hok.C hx) fun s' g' a' w' e1 e2 e3 => ?_)
    subst e1; exact hm g' a' w' e2 e3
  · rw [if_neg (by rw [h1]; simp)]
    subst h2
    exact ⟨fun _ _ => trivial, hm g _ w (Ext.refl g) (h.forget o.dst)⟩
theorem Rel.same {g : Gh} {s s' : St} {a : Act} {w : World} (h : Rel cx g s a w) (e1 : s'.env = s.env) (e2 : s'.H = s.H) (e3 : s'.R = s.R) : Rel cx g s' a w :=
  ⟨by rw [e1]; exact h.env, h.size, h.defers, h.mem.names e2 e3⟩
theorem order_sound (hI : Indep ops T) (hIL : IndepL ops T) (hlen : T.length = ops.size) (hB : opsB P cx.n ops = true)
    (hok : CfgOk P c) {ro : Option Nat} {n : Nat}
    (hL : ∀ (i : Nat) o r, nth ops.toList i = some o → nth T i = some r → LocStep P c ops.toList o (S i) (S (i + 1)) r) {Q : Go.Exit → Act → World → Prop} :
    ∀ (fuel : Nat) (listed : Array Bool) (u : St) (g : Gh) (a : Act) (w : World), listed.size = ops.size → ops.size ≤ fuel + listed.toList.count true →
      Closed ops.toList (fun i => listed.getD i false = true) → Inv ops S T (fun i => listed.getD i false = true) u → Rel cx g u a w →
      (∀ g' a' w', Ext g g' → Rel cx g' (S ops.size) a' w' → Q .normal a' w') → wpAnyIn (FW ro) n P .any ops Q fuel listed a w := by
  have hall : ∀ {listed : Array Bool}, listed.size = ops.size → Region.ready .any ops listed = [] → ∀ i, i < ops.size → listed.getD i false = true := by
    intro listed hs hr i
    induction i using Nat.strongRecOn with
    | _ i ih =>
      intro hi
      cases hl : listed.getD i false with
      | true => rfl
      | false =>
        exfalso
        obtain ⟨o, ho⟩ := nth_lt (l := ops.toList) (i := i) (by simpa using hi)
        have : i ∈ Region.ready .any ops listed := by
          rw [mem_ready]
          refine ⟨?_, o, by rw [nth_eq] at ho; simpa using ho, fun e he hbd => ?_⟩
          · have : i < listed.size := by omega
            simp [this] at hl ⊢; exact hl
          · have := hI.down i o ho e he hbd
            exact ih e.on this (by omega)
        rw [hr] at this; cases this
  have hend : ∀ {listed : Array Bool} {u : St} {g : Gh} {a : Act} {w : World}, listed.size = ops.size → Region.ready .any ops listed = [] → Inv ops S T (fun i => listed.getD i false = true) u → Rel cx g u a w →
      (∀ g' a' w', Ext g g' → Rel cx g' (S ops.size) a' w' → Q .normal a' w') → Q .normal a w := by
    intro listed u g a w hs hr hu h hq
    have hd := hall hs hr
    have lt1 : ∀ {i : Nat} {x : Oper}, nth ops.toList i = some x → i < ops.size := fun h => by have := lt_of_nth h; simpa using this
    have lt2 : ∀ {i : Nat} {x : Rec}, nth T i = some x → i < ops.size := fun h => by have := lt_of_nth h; omega
    refine hq g a w (Ext.refl g) (h.same ?_ ?_ ?_)
    · funext x
      exact (hu.env x ops.size (Nat.le_refl _) (fun i o _ ho _ => hd i (lt1 ho)) (fun i o hi ho _ => absurd (lt1 ho) (by omega))).symm
    · funext x
      exact (hu.H x ops.size (Nat.le_refl _) (fun i o _ ho _ => hd i (lt2 ho)) (fun i o hi ho _ => absurd (lt2 ho) (by omega))).symm
    · funext x
      exact (hu.R x ops.size (Nat.le_refl _) (fun i o _ ho _ => hd i (lt2 ho)) (fun i o hi ho _ => absurd (lt2 ho) (by omega))).symm
  intro fuel
  induction fuel with
  | zero =>
    intro listed u g a w hs hf hcl hu h hq
    have hr : Region.ready .any ops listed = [] := by
      cases hr : Region.ready .any ops listed with
      | nil => rfl
      | cons i rest =>
        exfalso
        have hi : i ∈ Region.ready .any ops listed := by rw [hr]; simp
        obtain ⟨h0, o, ho, _⟩ := mem_ready.1 hi
        have hlt : i < listed.size := by rw [hs]; exact (Array.getElem?_eq_some_iff.1 ho).1
        have hfull : listed.toList.count true = listed.toList.length := by
          have := List.count_le_length (a := true) (l := listed.toList)
          simp at this ⊢; simp at hf; omega
        rw [List.count_eq_length] at hfull
        have := hfull listed[i] (by simp)
        simp [hlt] at h0
        rw [h0] at this; cases this
    exact ⟨hr, hend hs hr hu h hq⟩
  | succ fuel ih =>
    intro listed u g a w hs hf hcl hu h hq
    refine ⟨fun hr => hend hs hr hu h hq, fun j hj => ?_⟩
    obtain ⟨h0, o, ho, hpre⟩ := mem_ready.1 hj
    have ho' : nth ops.toList j = some o := by rw [nth_eq]; simpa using ho
    have hlt : j < listed.size := by rw [hs]; exact (Array.getElem?_eq_some_iff.1 ho).1
    have hjD : ¬ listed.getD j false = true := by simp [hlt] at h0 ⊢; exact h0
    obtain ⟨u', q, hu'⟩ := order_step hI hIL hlen hL hcl hu ho' hjD hpre
    have hset : ∀ i, (listed.setIfInBounds j true).getD i false = true ↔ (listed.getD i false = true ∨ i = j) := by
      intro i
      by_cases hij : j = i
      · subst hij; simp [hlt]
      · rw [getD_set_ne false hij]
        constructor
        · exact .inl
        · rintro (h | h)
          · exact h
          · exact absurd h.symm hij
    refine opTo_sound h hB ho' hok q fun g' a' w' e1 e2 => ?_
    refine ih _ u' g' a' w' (by simpa using hs) ?_ ?_ ?_ e2 (fun g'' a'' w'' e3 e4 => hq g'' a'' w'' (e1.trans e3) e4)
    · have hl : listed[j] = false := by simp [hlt] at h0; exact h0
      have hne : (listed.setIfInBounds j true).toList.count true = listed.toList.count true + 1 := by
        rw [Array.toList_setIfInBounds, List.count_set (by simpa using hlt)]
        simp [hl]
      omega
    · intro k ok hok hk e he hb
      rw [hset] at hk ⊢
      rcases hk with hk | hk
      · exact .inl (hcl k ok hok hk e he hb)
      · subst hk
        rw [ho'] at hok; cases hok
        exact .inl (hpre e he hb)
    · have : (fun i => (listed.setIfInBounds j true).getD i false = true) = fun i => (listed.getD i false = true ∨ i = j) := funext fun i => propext (hset i)
      rw [this]; exact hu'
structure CxTo (cx cx' : Cx) (y : YS) : Prop where
  n : cx'.n = cx.n
  same : y = .off → cx' = cx
theorem CxTo.refl (cx : Cx) (y : YS) : CxTo cx cx y := ⟨rfl, fun _ => rfl⟩
theorem exY_cases {b : Bool} {dst : Option Nat} {s : St} {K : St → Prop} {p : Plan} (hk : exY P c b dst s K p) :
    (b = true ∧ ∃ l args, p = .yield l args) ∨ (b = true ∧ ∃ f args, p = .ycall f args) ∨ exPlan P c dst s K p := by
  cases b <;> cases p <;> first
    | exact .inr (.inr hk)
    | exact .inl ⟨rfl, _, _, rfl⟩
    | exact .inr (.inl ⟨rfl, _, _, rfl⟩)
theorem callOf_plan {o : Oper} (hc : callOf o = true) {ρ : TypeId → Operand → Option Dat} : ∃ c' f, o.op = .call c' ∧ c'.callee = .value f ∧
    ((∃ l args, plan P o ρ = .yield l args ∧ ρ 0 f = some (.yld l) ∧ allSome (typedArgs ρ c'.args.toList c'.argTypes.toList) = some args) ∨
     (∃ fid first cap args, plan P o ρ = .ycall fid (first ++ args ++ cap) ∧ ρ 0 f = some (.clo (.func fid) first cap) ∧ allSome (typedArgs ρ c'.args.toList c'.argTypes.toList) = some args) ∨
     ((∀ l args, plan P o ρ ≠ .yield l args) ∧ ∀ f args, plan P o ρ ≠ .ycall f args)) := by
  unfold callOf at hc
  split at hc
  rotate_left
  · cases hc
  rename_i c' ho
  split at hc
  rotate_left
  · cases hc
  rename_i f hce
  refine ⟨c', f, ho, hce, ?_⟩
  simp only [plan, ho, callPlan, hce]
  split
  · exact .inr (.inr ⟨fun _ _ e => (by cases e), fun _ _ e => (by cases e)⟩)
  rename_i args hargs
  split
  · rename_i fid first cap hf
    split
    · exact .inr (.inl ⟨fid, first, cap, args, rfl, hf, hargs⟩)
    · exact .inr (.inr ⟨fun _ _ e => (by cases e), fun _ _ e => (by cases e)⟩)
  · rename_i l hf
    exact .inl ⟨l, args, rfl, hf, hargs⟩
  · exact .inr (.inr ⟨fun _ _ e => (by cases e), fun _ _ e => (by cases e)⟩)
theorem Rep.yld_val {g : Gh} {l : Nat} {v : Value} (r : Rep g v (.yld l)) : v = .func (.yield l) #[] #[] := by cases r with | pure r => cases r; rfl
theorem Rel.putY {g : Gh} {s : St} {a : Act} {w : World} (h : Rel cx g s a w) {dst : Option Nat} (hd : dstB cx.n dst = true) {v : Value} {d : Dat} (r : Rep g v d) (y : YS) : Rel cx g (s.putY dst d y) (a.put dst v) w := by
  have := h.put hd r
  cases dst with
  | none => exact ⟨this.env, this.size, this.defers, this.mem.names rfl rfl⟩
  | some t => exact ⟨this.env, this.size, this.defers, this.mem.names rfl rfl⟩
theorem At.moved {M : Mode P c} {g : Gh} {s : St} {a : Act} {w w' : World} {y y' : YS} {N N' : Nat → Prop} (hA : At M cx y N) (h : Rel cx g s a w) {I' : Nat → Nat → Option Value} (hI : SubI g.I I') (hc : Cells I' w')
    (hN : ∀ b, N' b → N b ∨ (w.heap.size ≤ b ∧ b < w'.heap.size)) (hN1 : ∀ b, N b → N' b) (hnew : ∀ b o v, I' b o = some v → g.I b o = some v ∨ (w.heap.size ≤ b ∧ ¬ N' b))
    (hJ : ∃ Ih, M.h.J y' N' Ih w' ∧ SubI Ih I') (hsz : w.heap.size ≤ w'.heap.size) (hkeep : ∀ b, b < w.heap.size → ¬ N' b → w'.heap[b]? = w.heap[b]?) :
    At M (M.h.cx M.n M.w0 M.I0 y' N') y' N' ∧ Rel (M.h.cx M.n M.w0 M.I0 y' N') { g with I := I' } s a w' := by
  obtain ⟨rfl, hI0, hup, hlo⟩ := hA
  have hf := h.mem.frame
  obtain ⟨_, f2, f3⟩ := hf
  have nN : ∀ b, b < w.heap.size → ¬ N b → ¬ N' b := fun b h1 h2 h3 => by rcases hN b h3 with h4 | h4; exact h2 h4; omega
  refine ⟨⟨rfl, fun b o v e => ⟨(hI0 b o v e).1, (hI0 b o v e).2.imp id (nN b (Nat.lt_of_lt_of_le (hI0 b o v e).1 f2))⟩, fun b e => (by rcases hN b e with k | k; exact hup b k; exact .inr (Nat.le_trans f2 k.1)), fun b e => hN1 b (hlo b e)⟩, fun t d ht => (h.env t d ht).mono (ext_I hI), h.size, h.defers, ?_⟩
  refine h.mem.after hI hc (fun b h1 h2 => hkeep b h1 (nN b h1 h2.2)) (fun b o v h1 h2 h3 => ?_) (fun b h1 h2 => ⟨h2.1, nN b h1 h2.2⟩) (fun b o v e => ?_) ⟨hJ, Nat.le_trans f2 hsz, fun b h1 h2 => ?_⟩ (fun b hb => ?_)
  · rcases hnew b o v h1 with e | e
    · exact e
    · omega
  · rcases hnew b o v e with e | e
    · rcases h.mem.newI b o v e with k | k
      · exact .inl k
      · exact .inr ⟨k.1, nN b (h.mem.I_lt e) k.2⟩
    · exact .inr ⟨Nat.le_trans f2 e.1, e.2⟩
  · exact (hkeep b (Nat.lt_of_lt_of_le h1 f2) h2).trans (f3 b h1 (fun e => h2 (hN1 b e)))
  · refine ⟨Nat.le_trans f2 (Nat.le_trans hsz hb), fun e => ?_⟩
    rcases hN b e with k | k
    · exact (h.mem.new b (Nat.le_trans hsz hb)).2 k
    · omega
theorem line_sound {all : Array Oper} (hok : CfgOk P c) {M : Option (Mode P c)} {ro : Option Nat} {n : Nat} {Q : Go.Exit → Act → World → Prop} :
    ∀ (l : List Oper) (i : Nat) (_ : ∀ k o, nth l k = some o → nth all.toList (i + k) = some o) {cx : Cx} (_ : opsB P cx.n all = true) {s : St} {K : St → Prop} {g : Gh} {a : Act} {w : World},
      exLine P c all.toList l s K → Rel cx g s a w → YOk M cx s.y → (∀ s' cx' g' a' w', K s' → CxTo cx cx' s.y → YOk M cx' s'.y → Ext g g' → Rel cx' g' s' a' w' → Q .normal a' w') → wpOpsIn (FW ro) n P all Q (List.range' i l.length) a w
  | [], i, _, cx, hB, s, K, g, a, w, hk, h, hy, hq => by
    exact hq s cx g a w hk (.refl _ _) hy (Ext.refl g) h
  | o :: l, i, hl, cx, hB, s, K, g, a, w, hk, h, hy, hq => by
    have ho : nth all.toList i = some o := hl 0 o rfl
    have ho' : all[i]? = some o := by rw [nth_eq] at ho; simpa using ho
    have hb : opB P cx.n o = true := by
      unfold opsB at hB
      rw [List.all_eq_true] at hB
      exact hB o (mem_of_nth' ho)
    have hd : dstB cx.n o.dst = true := by
      unfold opB at hb; rw [Bool.and_eq_true] at hb; exact hb.1
    have hl' : ∀ k o, nth l k = some o → nth all.toList (i + 1 + k) = some o := fun k o hk => by
      rw [show i + 1 + k = i + (k + 1) by omega]; exact hl (k + 1) o (by simpa [nth] using hk)
    rw [List.length_cons, List.range'_succ, wpOpsIn_cons]
    unfold wpOpIn
    rw [ho']
    dsimp only
    rw [exLine_cons] at hk
    rcases guard_sound h hk with ⟨h1, h2⟩ | ⟨h1, h2⟩
    rotate_left
    · rw [if_neg (by rw [h1]; simp)]
      have ey : (s.forget o.dst).y = s.y := by cases o.dst <;> rfl
      exact ⟨fun _ _ => trivial, line_sound hok l (i + 1) hl' hB h2 (h.forget o.dst) (by rw [ey]; exact hy) fun s' cx' g' a' w' k1 k2 k3 k4 k5 => hq s' cx' g' a' w' k1 (by rw [ey] at k2; exact k2) k3 k4 k5⟩
    rw [if_pos h1]
    have go : ∀ {s1 : St} {cx1 : Cx} {g1 : Gh} {a1 : Act} {w1 : World}, exLine P c all.toList l s1 K → CxTo cx cx1 s.y → (s.y = .off → s1.y = .off) → YOk M cx1 s1.y → Ext g g1 → Rel cx1 g1 s1 a1 w1 → wpOpsIn (FW ro) n P all Q (List.range' (i + 1) l.length) a1 w1 :=
      fun {s1 cx1 g1 a1 w1} e1 e2 e3 e4 e5 e6 => line_sound hok l (i + 1) hl' (by rw [e2.n]; exact hB) e1 e6 e4 fun s' cx' g' a' w' k1 k2 k3 k4 k5 =>
        hq s' cx' g' a' w' k1 ⟨k2.n.trans e2.n, fun e => (k2.same (e3 e)).trans (e2.same e)⟩ k3 (e5.trans k4) k5
    rcases exY_cases h2 with ⟨hcb, ly, args, hp⟩ | ⟨hcb, f, args, hp⟩ | hp
    · obtain ⟨c', f, ho1, hce, (⟨l2, args2, p1, hf, hargs⟩ | ⟨fid, first, cap, args2, p1, _⟩ | ⟨p1, _⟩)⟩ := callOf_plan (P := P) hcb (ρ := getT P s)
      rotate_left
      · rw [hp] at p1; cases p1
      · exact absurd hp (p1 _ _)
      rw [hp] at p1; cases p1
      rw [hp, hcb] at h2
      simp only [exY] at h2
      split at h2
      rotate_left
      · exact h2.elim
      rename_i k hk1
      have hev := args_eval h hargs
      have ef := (h.get hf).yld_val
      obtain ⟨s1, args', g1, k2, l1, n1, r1⟩ := leakAll_sound args h h2
      obtain ⟨⟨rfl, hds⟩, k3⟩ := k2
      rw [hk1] at hy
      obtain ⟨m, N, rfl, hA⟩ := hy
      have hcx := hA.cx
      have hfr := l1.rel.mem.frame
      have hnewm := l1.rel.mem.new
      have hnewI := l1.rel.mem.newI
      rw [hcx] at hfr hnewm hnewI
      obtain ⟨⟨Ih, hJ, hs⟩, f2, f3⟩ := hfr
      have e1 : (c'.args.map a.eval).toList = c'.args.toList.map a.eval := by simp
      obtain ⟨fn, tmps, asg, body, y1, y2⟩ := m.h.round k N Ih g1.I w (c'.args.map a.eval) args' hJ hs hds (by rw [n1]; have := hev.1; simp at this; simp [this])
        (fun i v d hv hd' => by
          have hi := lt_of_nth hd'
          rw [n1] at hi
          obtain ⟨x, hx⟩ := nth_lt hi
          obtain ⟨d2, q1, _, q2⟩ := r1 i x hx
          rw [hd'] at q1; cases q1
          exact q2 v (hev.2 i v x (by rw [← e1]; simpa using hv) hx)) l1.rel.mem.iw
        (fun b o v e => by
          rcases hnewI b o v e with q | q
          · exact (hA.I0 b o v q).2
          · exact .inr q.2) (fun b hb => (hnewm b hb).2)
      have hrun : (execOp a.eval o).run P w = .ok (.round c.l fn tmps asg body) w := by
        rw [← y1]
        simp [execOp, ho1, resolve, hce, ef, Deferred.ofValue, invoke]
      refine ⟨fun _ _ => trivial, ?_⟩
      rw [Oper.semAt_eq _ _ _ (by intro d e; rw [ho1] at e; cases e), hrun, Oper.uponIn_round]
      refine ⟨fun e => by simp [FW] at e, (FW_round (y2 _)).mono fun e w' he => ?_⟩
      obtain ⟨z1, z2, z3, y', z4, z5⟩ := he
      have hA1 := (At.moved (y' := y') (N' := fun b => N b ∨ (w.heap.size ≤ b ∧ b < w'.heap.size)) hA l1.rel (I' := g1.I) (fun _ _ _ h => h) z3 (fun b h => h) (fun b h => .inl h) (fun b o v e => .inl e)
        ⟨g1.I, z5, fun _ _ _ h => h⟩ z1 (fun b hb hn => z2 b hb fun e => hn (.inl e)))
      have hto : CxTo cx (m.h.cx m.n m.w0 m.I0 y' fun b => N b ∨ (w.heap.size ≤ b ∧ b < w'.heap.size)) s.y := ⟨by rw [hcx]; rfl, fun e => by rw [hk1] at e; cases e⟩
      have hd1 : dstB (m.h.cx m.n m.w0 m.I0 y' fun b => N b ∨ (w.heap.size ≤ b ∧ b < w'.heap.size)).n o.dst = true := by rw [hto.n]; exact hd
      rcases z4 with ⟨rfl, rfl⟩ | ⟨rfl, rfl⟩
      · have := k3.a
        rw [norm_eq] at this
        exact go this hto (fun e => by rw [hk1] at e; cases e) (by cases o.dst <;> exact ⟨m, _, rfl, hA1.1⟩) l1.ext (hA1.2.putY hd1 (.pure (.bool _)) _)
      · have := k3.b
        rw [norm_eq] at this
        exact go this hto (fun e => by rw [hk1] at e; cases e) (by cases o.dst <;> exact ⟨m, _, rfl, hA1.1⟩) l1.ext (hA1.2.putY hd1 (.pure (.bool _)) _)
    · obtain ⟨c', f', ho1, hce, (⟨l2, args2, p1, _⟩ | ⟨fid, first, cap, args2, p1, hf, hargs⟩ | ⟨_, p1⟩)⟩ := callOf_plan (P := P) hcb (ρ := getT P s)
      · rw [hp] at p1; cases p1
      rotate_left
      · exact absurd hp (p1 _ _)
      rw [hp] at p1
      injection p1 with p1 p2
      subst p1; subst p2
      rw [hp, hcb] at h2
      simp only [exY] at h2
      split at h2
      rotate_left
      · exact h2.elim
      rename_i k hk1
      have hev := args_eval h hargs
      obtain ⟨vf, vc, ef, hvf, hvc, rf, rc⟩ := (h.get hf).clo_val
      obtain ⟨s1, args', g1, k2, l1, n1, r1⟩ := leakAll_sound _ h h2
      obtain ⟨Q0, hcall, k3⟩ := k2.out
      rw [hk1] at hy
      obtain ⟨m, N, rfl, hA⟩ := hy
      have hcx := hA.cx
      have hfr := l1.rel.mem.frame
      have hnewm := l1.rel.mem.new
      have hnewI := l1.rel.mem.newI
      rw [hcx] at hfr hnewm hnewI
      obtain ⟨⟨Ih, hJ, hs⟩, f2, f3⟩ := hfr
      obtain ⟨⟨fn, hfn, hbody, hname⟩, hgo⟩ := hok.CY _ _ _ _ hcall
      have e1 : (c'.args.map a.eval).toList = c'.args.toList.map a.eval := by simp
      have lf : (c'.args.map a.eval).size = args2.length := by have := hev.1; simp at this; simp [this]
      have hrun : (execOp a.eval o).run P w = .ok (.enter f (vf ++ c'.args.map a.eval ++ vc)) w := by
        have hb' : fn.body ≠ none := by intro e; rw [e] at hbody; cases hbody
        have hn' : fn.name ≠ "runtime.NumGoroutine" := by intro e; rw [e] at hname; simp at hname
        simp [execOp, ho1, resolve, hce, ef, Deferred.ofValue, invoke, callFunc, hfn, hn', hb']
      refine wpIn_of_wp (by intro d e; rw [ho1] at e; cases e) ?_
      unfold Oper.wp
      rw [hrun, Oper.upon_enter]
      refine Calls.mono (hgo m.h N g1.I w _ (by rw [n1]; simp at lf ⊢; omega) (fun i v d hv hd' => ?_) l1.rel.mem.iw (fun b o v e => by
          rcases hnewI b o v e with q | q
          · exact (hA.I0 b o v q).2
          · exact .inr q.2) (fun b hb => (hnewm b hb).2) ⟨Ih, hJ, hs⟩) fun e w' he => ?_
      · have hi := lt_of_nth hd'
        rw [n1] at hi
        obtain ⟨x, hx⟩ := nth_lt hi
        have key : Rep g v x := by
          have hx0 := hx
          rw [nth_eq] at hx
          by_cases h1 : i < first.length
          · rw [List.append_assoc, List.getElem?_append_left h1] at hx
            rw [Array.append_assoc, Array.getElem?_append_left (by omega)] at hv
            exact rf i v x hv (by rw [nth_eq]; exact hx)
          · by_cases h2 : i < first.length + args2.length
            · rw [List.getElem?_append_left (by simp; omega), List.getElem?_append_right (by omega)] at hx
              rw [Array.getElem?_append_left (by simp at lf ⊢; omega), Array.getElem?_append_right (by omega)] at hv
              rw [hvf] at hv
              refine hev.2 (i - first.length) v x ?_ (by rw [nth_eq]; exact hx)
              rw [← e1]; simpa using hv
            · rw [List.getElem?_append_right (by simp; omega)] at hx
              rw [Array.getElem?_append_right (by simp at lf ⊢; omega)] at hv
              refine rc (i - (first ++ args2).length) v x ?_ (by rw [nth_eq]; exact hx)
              have : (vf ++ Array.map a.eval c'.args).size = (first ++ args2).length := by simp at lf ⊢; omega
              rw [this] at hv
              exact hv
        obtain ⟨d2, q1, _, q2⟩ := r1 i x hx
        rw [hd'] at q1; cases q1
        exact q2 v key
      · cases e with
        | panicked ch => exact he.elim
        | outgrown => exact he.elim
        | returned v =>
          obtain ⟨r, y', N', I', x1, x2, x3, x4, x5, x6, x7, x8, x9, x10⟩ := he
          have hA1 := (At.moved (y' := y') (N' := N') hA l1.rel (I' := I') x4 x6 x2 x3 x7 x8 x9 x10)
          have hto : CxTo cx (m.h.cx m.n m.w0 m.I0 y' N') s.y := ⟨by rw [hcx]; rfl, fun e => by rw [hk1] at e; cases e⟩
          have hd1 : dstB (m.h.cx m.n m.w0 m.I0 y' N').n o.dst = true := by rw [hto.n]; exact hd
          have hx : Ext ⟨I', fun _ => none, fun _ => none⟩ { g1 with I := I' } := ⟨fun _ _ _ h => h, fun _ _ h => (by cases h), fun _ _ h => (by cases h)⟩
          have hr1 : Rep { g1 with I := I' } v r := x5.mono hx
          have := allK_mem k3 x1
          rw [norm_eq] at this
          refine go this hto (fun e => by rw [hk1] at e; cases e) ?_ (l1.ext.trans (ext_I x4)) (hA1.2.putY hd1 hr1 y')
          have hy' : (s1.putY o.dst r y').y = y' := by cases o.dst <;> rfl
          rw [hy']
          cases y' with
          | off => obtain ⟨_, hj, _⟩ := x8; exact absurd rfl (m.h.on _ _ _ _ hj)
          | run k => exact ⟨m, _, rfl, hA1.1⟩
          | stop => exact ⟨m, _, rfl, hA1.1⟩
    · have hp' := plan_mono (K' := fun s1 => s1.y = s.y ∧ exLine P c all.toList l s1 K) hp fun s1 _ h1 h2 => ⟨h1, by rw [norm_eq] at h2; exact h2⟩
      refine wpIn_of_wp (plan_nodefer hp) (wp_next (sound_op h hb hok.C hp') fun s' g' a' w' e1 e2 e3 => ?_)
      exact go e1.2 (.refl _ _) (fun e => e1.1.trans e) (by rw [e1.1]; exact hy) e2 e3
theorem region_sound (hm : P.follows .mixedOrders = true) (hB : opsB P cx.n ops = true) (hok : CfgOk P c) {M : Option (Mode P c)} {ro : Option Nat} {n : Nat}
    {id : Nat} {d : Bool} {s : St} {K : St → Prop} {g : Gh} {a : Act} {w : World} {Q : Go.Exit → Act → World → Prop}
    (hk : match d with
      | true => exOps P c ops.toList ops.toList [] s fun rs s' => Chk (indepB ops.toList rs.reverse) (eqP ops.toList rs.reverse (K s'))
      | false => exLine P c ops.toList ops.toList s K) (h : Rel cx g s a w) (hy : YOk M cx s.y)
    (hq : ∀ s' cx' g' a' w', K s' → CxTo cx cx' s.y → YOk M cx' s'.y → Ext g g' → Rel cx' g' s' a' w' → Q .normal a' w') : (Code.region id ops d).wpIn (FW ro) n P Q a w := by
  cases d with
  | false =>
    refine wpIn_region ?_
    have := line_sound (ro := ro) (n := n) hok ops.toList 0 (fun k o hk => by simpa using hk) hB hk h hy hq
    rw [List.range_eq_range']
    simpa using this
  | true =>
    refine wpIn_region_any hm ?_
    dsimp only at hk
    replace hk := exOps_mono (K' := fun rs s' => Chk (indepB ops.toList rs.reverse) (eqP ops.toList rs.reverse (K s' ∧ s'.y = s.y))) (exOps_y hk) fun rs s' _ k2 =>
      ⟨k2.2.h, (eqP_det k2.2.k).2 _ ⟨(eqP_det k2.2.k).1, k2.1⟩⟩
    obtain ⟨S, T, e1, e2, k1, l1⟩ := exOps_trace hk
    rw [List.append_nil, List.reverse_reverse] at k1
    have hI := indepB_spec k1.h
    have hw : ∀ r ∈ T, ∀ x ∈ r.wv, x.1 ∈ r.wh := fun r hr => by
      obtain ⟨i, hi⟩ := List.getElem?_of_mem hr
      rw [← nth_eq] at hi
      have hlt := lt_of_nth hi
      obtain ⟨o, ho⟩ := nth_lt (l := ops.toList) (i := i) (by omega)
      exact (l1 i o r ho hi).wv'
    obtain ⟨k2, hIL⟩ := eqP_spec k1.k hw
    have hlen : T.length = ops.size := by simpa using e2
    have hnone : ∀ i, (Array.replicate ops.size false).getD i false = true → False := by
      intro i hi
      rcases Nat.lt_or_ge i ops.size with hlt | hge
      · simp [hlt] at hi
      · simp [hge] at hi
    have hfix : ∀ {α : Type} (V : Nat → α) (W : Nat → Prop), (∀ i, i < ops.size → ¬ W i → V (i + 1) = V i) → ∀ m, m ≤ ops.size → (∀ i, i < m → ¬ W i) → V m = V 0 := by
      intro α V W hV m
      induction m with
      | zero => intro _ _; rfl
      | succ m ih =>
        intro hm hw
        rw [hV m (by omega) (hw m (by omega))]
        exact ih (by omega) (fun i hi => hw i (by omega))
    have both : ∀ {i : Nat}, i < ops.size → ∃ x y, nth ops.toList i = some x ∧ nth T i = some y := fun {i} h => by
      obtain ⟨x, hx⟩ := nth_lt (l := ops.toList) (i := i) (by simpa using h)
      obtain ⟨y, hy⟩ := nth_lt (l := T) (i := i) (by omega)
      exact ⟨x, y, hx, hy⟩
    refine order_sound hI hIL hlen hB hok l1 ops.size (Array.replicate ops.size false) s g a _ (by simp) (by omega) (fun k o _ hk => (hnone k hk).elim) ?_
      ⟨h.env, h.size, h.defers, h.mem.drew _⟩ (fun g' a' w' x1 x2 => hq (S ops.size) cx g' a' w' (by have := k2.1; simpa using this) (.refl _ _) (by have := k2.2; simp at this; rw [this]; exact hy) x1 x2)
    have stay : ∀ {i : Nat} {x : Oper} {y : Rec}, nth ops.toList i = some x → nth T i = some y →
        (∀ t, x.dst ≠ some t → (S (i + 1)).env t = (S i).env t) ∧ (∀ l, l ∉ y.wh → (S (i + 1)).H l = (S i).H l) ∧ (∀ l, l ∉ y.wr → (S (i + 1)).R l = (S i).R l) := fun {i x y} h1 h2 => by
      obtain ⟨u', p, _⟩ := (l1 i x y h1 h2).out (S i) ⟨fun _ _ => rfl, fun _ _ => rfl, fun _ _ => rfl⟩ (fun _ _ => rfl)
      refine ⟨fun t ht => ?_, fun t ht => ?_, fun t ht => ?_⟩
      · rcases p.env t with ⟨a, _⟩ | ⟨_, b⟩
        · exact a
        · exact absurd b ht
      · rcases p.H t with ⟨a, _⟩ | ⟨_, b⟩
        · exact a
        · exact absurd b ht
      · rcases p.R t with ⟨a, _⟩ | ⟨_, b⟩
        · exact a
        · exact absurd b ht
    refine ⟨fun x m hm h1 h2 => ?_, fun x m hm h1 h2 => ?_, fun x m hm h1 h2 => ?_, fun q m hm h1 h2 => ?_⟩
    rotate_left 3
    · have := hfix (fun m => pr ((S m).H q.1) q) (fun i => i < ops.size ∧ pr ((S (i+1)).H q.1) q ≠ pr ((S i).H q.1) q) (fun i hi hw => Classical.byContradiction fun hc => hw ⟨hi, hc⟩) m hm
        (fun i hi hc => hnone i (h1 i hi hc.1 hc.2))
      rw [this, e1]
    · have := hfix (fun m => (S m).env x) (fun i => ∃ y, nth ops.toList i = some y ∧ y.dst = some x) (fun i hi hw => by
        obtain ⟨y, z, hy, hz⟩ := both hi
        exact (stay hy hz).1 x (fun e => hw ⟨y, hy, e⟩)) m hm (fun i hi ⟨y, hy, hd⟩ => hnone i (h1 i y hi hy hd))
      rw [this, e1]
    · have := hfix (fun m => (S m).H x) (fun i => ∃ y, nth T i = some y ∧ x ∈ y.wh) (fun i hi hw => by
        obtain ⟨y, z, hy, hz⟩ := both hi
        exact (stay hy hz).2.1 x (fun e => hw ⟨z, hz, e⟩)) m hm (fun i hi ⟨y, hy, hd⟩ => hnone i (h1 i y hi hy hd))
      rw [this, e1]
    · have := hfix (fun m => (S m).R x) (fun i => ∃ y, nth T i = some y ∧ x ∈ y.wr) (fun i hi hw => by
        obtain ⟨y, z, hy, hz⟩ := both hi
        exact (stay hy hz).2.2 x (fun e => hw ⟨z, hz, e⟩)) m hm (fun i hi ⟨y, hy, hd⟩ => hnone i (h1 i y hi hy hd))
      rw [this, e1]
end
end Abs
namespace Abs
open Go
inductive Nms (h r : Nat → Prop) : Dat → Prop where
  | any : Nms h r .any
  | bool (b : Bool) : Nms h r (.bool b)
  | int (k : IntKind) (n : Int) : Nms h r (.int k n)
  | str (l : List UInt8) : Nms h r (.str l)
  | sl (sz : Nat) (es : List Dat) (b : Bool) : Nms h r (.sl sz es b)
  | imm (d : Dat) (off : Nat) : Nms h r (.imm d off)
  | yld (l : Nat) : Nms h r (.yld l)
  | nilptr : Nms h r .nilptr
  | nilfn : Nms h r .nilfn
  | nilmap : Nms h r .nilmap
  | nilif : Nms h r .nilif
  | ref {k n : Nat} (hk : r k) : Nms h r (.ref k n)
  | ptr {l off : Nat} (hl : h l) : Nms h r (.ptr l off)
  | vptr {l off : Nat} (hl : h l) : Nms h r (.vptr l off)
  | eptr {k n off : Nat} {i : Int} (hk : r k) : Nms h r (.eptr k n i off)
  | agg {ds : List Dat} (hr : ∀ (i : Nat) d, nth ds i = some d → Nms h r d) : Nms h r (.agg ds)
  | tup {ds : List Dat} (hr : ∀ (i : Nat) d, nth ds i = some d → Nms h r d) : Nms h r (.tup ds)
  | clo {fn : Fn} {df dc : List Dat} (rf : ∀ (i : Nat) d, nth df i = some d → Nms h r d) (rc : ∀ (i : Nat) d, nth dc i = some d → Nms h r d) : Nms h r (.clo fn df dc)
theorem arr_at {vs : Array Value} {ds : List Dat} (hl : vs.size = ds.length) {i : Nat} {d : Dat} (hd : nth ds i = some d) : ∃ v, vs[i]? = some v := by
  have h1 := lt_of_nth hd
  exact ⟨vs[i]'(by omega), by simp [show i < vs.size by omega]⟩
theorem RepI.nms {I : Nat → Nat → Option Value} {v : Value} {d : Dat} (x : RepI I v d) (h r : Nat → Prop) : Nms h r d := by
  induction x with
  | any v hv => exact .any
  | bool b => exact .bool b
  | int k n => exact .int k n
  | str l => exact .str l
  | slnil sz b => exact .sl _ _ _
  | sl0 a cap sz => exact .sl _ _ _
  | sl b o cap sz es f hc hs hi _ ih => exact .sl _ _ _
  | agg vs ds hl h1 _ ih => exact .agg fun i d hd => let ⟨v, hv⟩ := arr_at hl hd; ih i v d hv hd
  | imm b o off d f hi h1 _ ih => exact .imm _ _
  | clo hf hc _ _ ihf ihc => exact .clo (fun i d hd => let ⟨v, hv⟩ := arr_at hf hd; ihf i v d hv hd) (fun i d hd => let ⟨v, hv⟩ := arr_at hc hd; ihc i v d hv hd)
  | yld l => exact .yld l
  | nilptr => exact .nilptr
  | nilfn => exact .nilfn
  | nilmap => exact .nilmap
  | nilif => exact .nilif
theorem Rep.nms {g : Gh} {v : Value} {d : Dat} (x : Rep g v d) : Nms (fun l => g.mu l ≠ none) (fun k => g.tv k ≠ none) d := by
  induction x with
  | pure r => exact r.nms _ _
  | ref t ht hn hv h1 => exact .ref (by rw [ht]; simp)
  | ptr hb => exact .ptr (by rw [hb]; simp)
  | vptr hb => exact .vptr (by rw [hb]; simp)
  | eptr t ht hn hi hb hp => exact .eptr (by rw [ht]; simp)
  | agg hl h1 _ ih => exact .agg fun i d hd => let ⟨v, hv⟩ := arr_at hl hd; ih i v d hv hd
  | tup hl _ ih => exact .tup fun i d hd => let ⟨v, hv⟩ := arr_at hl hd; ih i v d hv hd
  | clo hf hc _ _ ihf ihc => exact .clo (fun i d hd => let ⟨v, hv⟩ := arr_at hf hd; ihf i v d hv hd) (fun i d hd => let ⟨v, hv⟩ := arr_at hc hd; ihc i v d hv hd)
theorem Rep.restrict {g g' : Gh} {h r : Nat → Prop} {v : Value} {d : Dat} (x : Rep g v d) (n : Nms h r d) (hI : g'.I = g.I)
    (hm : ∀ l b, h l → g.mu l = some b → g'.mu l = some b) (ht : ∀ k t, r k → g.tv k = some t → g'.tv k = some t) : Rep g' v d := by
  induction x with
  | pure x => exact .pure (by rw [hI]; exact x)
  | ref t e hn hv h1 => cases n with | ref hk => exact .ref t (ht _ _ hk e) hn hv h1
  | ptr hb => cases n with | ptr hl => exact .ptr (hm _ _ hl hb)
  | vptr hb => cases n with | vptr hl => exact .vptr (hm _ _ hl hb)
  | eptr t e hn hi hb hp => cases n with | eptr hk => exact .eptr t (ht _ _ hk e) hn hi hb hp
  | agg hl h1 _ ih => cases n with | agg hr => exact .agg hl h1 fun i v d hv hd => ih i v d hv hd (hr i d hd)
  | tup hl _ ih => cases n with | tup hr => exact .tup hl fun i v d hv hd => ih i v d hv hd (hr i d hd)
  | clo hf hc _ _ ihf ihc => cases n with
    | clo rf rc => exact .clo hf hc (fun i v d hv hd => ihf i v d hv hd (rf i d hd)) (fun i v d hv hd => ihc i v d hv hd (rc i d hd))
theorem memB_not {l : List Nat} {x : Nat} (h : (!memB l x) = true) : x ∉ l := by
  intro hx
  rw [memB_iff.2 hx] at h; cases h
theorem tidy_go {W V : List Nat} : ∀ {ds : List Dat}, tidyD.go W V ds = true → ∀ (i : Nat) d, nth ds i = some d → Nms (fun l => l ∉ W) (fun k => k ∉ V) d
  | [], _, i, d, hd => by simp [nth] at hd
  | x :: ds, h, i, d, hd => by
    have two : ∀ {b : Bool}, (b && tidyD.go W V ds) = true → b = true ∧ tidyD.go W V ds = true := fun h => by rwa [Bool.and_eq_true] at h
    cases i with
    | zero =>
      simp [nth] at hd; subst hd
      cases x with
      | ptr l off => exact .ptr (memB_not (two h).1)
      | vptr l off => exact .vptr (memB_not (two h).1)
      | ref k n => exact .ref (memB_not (two h).1)
      | eptr k n i off => exact .eptr (memB_not (two h).1)
      | clo _ _ _ => cases h
      | tup _ => cases h
      | agg _ => cases h
      | any => exact .any
      | bool b => exact .bool b
      | int k n => exact .int k n
      | str l => exact .str l
      | sl _ _ _ => exact .sl _ _ _
      | imm _ _ => exact .imm _ _
      | yld l => exact .yld l
      | nilptr => exact .nilptr
      | nilfn => exact .nilfn
      | nilmap => exact .nilmap
      | nilif => exact .nilif
    | succ i =>
      have hg : tidyD.go W V ds = true := by
        cases x with
        | ptr l off => exact (two h).2
        | vptr l off => exact (two h).2
        | ref k n => exact (two h).2
        | eptr k n i off => exact (two h).2
        | clo _ _ _ => cases h
        | tup _ => cases h
        | agg _ => cases h
        | _ => exact h
      exact tidy_go hg i d (by simpa [nth] using hd)
theorem tidy_nms {W V : List Nat} {d : Dat} (h : tidyD W V d = true) : Nms (fun l => l ∉ W) (fun k => k ∉ V) d := by
  cases d with
  | ptr l off => exact .ptr (memB_not h)
  | vptr l off => exact .vptr (memB_not h)
  | ref k n => exact .ref (memB_not h)
  | eptr k n i off => exact .eptr (memB_not h)
  | clo fn df dc =>
    have h2 : (tidyD.go W V df && tidyD.go W V dc) = true := h
    rw [Bool.and_eq_true] at h2
    exact .clo (tidy_go h2.1) (tidy_go h2.2)
  | agg cs => exact .agg (tidy_go h)
  | tup cs => exact .tup (tidy_go h)
  | any => exact .any
  | bool b => exact .bool b
  | int k n => exact .int k n
  | str l => exact .str l
  | sl _ _ _ => exact .sl _ _ _
  | imm _ _ => exact .imm _ _
  | yld l => exact .yld l
  | nilptr => exact .nilptr
  | nilfn => exact .nilfn
  | nilmap => exact .nilmap
  | nilif => exact .nilif
theorem Nms.cells {h r : Nat → Prop} {d x : Dat} (n : Nms h r d) {j : Nat} (hj : nth (cells d) j = some x) : Nms h r x := by
  have one : ∀ {d : Dat}, Nms h r d → nth [d] j = some x → Nms h r x := fun {d} n hj => by
    cases j with
    | zero => simp [nth] at hj; subst hj; exact n
    | succ j => simp [nth] at hj
  cases d with
  | agg cs => cases n with | agg hr => exact hr j x hj
  | _ => exact one n hj
theorem tidyL_at {W V : List Nat} : ∀ {l : List (Nat × Dat)}, tidyL W V l = true → ∀ p ∈ l, tidyD W V p.2 = true
  | [], _, p, hp => by cases hp
  | (t, d) :: l, h, p, hp => by
    have h2 : (tidyD W V d && tidyL W V l) = true := h
    rw [Bool.and_eq_true] at h2
    rcases List.mem_cons.1 hp with e | e
    · subst e; exact h2.1
    · exact tidyL_at h2.2 p e
theorem keysIn_at {W : List Nat} : ∀ {l : List (Nat × Dat)}, keysIn W l = true → ∀ p ∈ l, p.1 ∈ W
  | [], _, p, hp => by cases hp
  | (t, d) :: l, h, p, hp => by
    have h2 : (memB W t && keysIn W l) = true := h
    rw [Bool.and_eq_true] at h2
    rcases List.mem_cons.1 hp with e | e
    · subst e; exact memB_iff.1 h2.1
    · exact keysIn_at h2.2 p e
theorem Over_cases {α : Type} {e : Nat → Option α} : ∀ (ms : List (Nat × α)) (t : Nat), (∃ d, (t, d) ∈ ms ∧ Over ms e t = some d) ∨ ((∀ p ∈ ms, p.1 ≠ t) ∧ Over ms e t = e t)
  | [], t => .inr ⟨by simp, rfl⟩
  | (u, d) :: ms, t => by
    simp only [Over]
    by_cases h : t = u
    · subst h
      exact .inl ⟨d, by simp, by rw [show Nat.beq t t = true by simp]; rfl⟩
    · have hb : Nat.beq t u = false := by
        cases hb : Nat.beq t u with
        | false => rfl
        | true => exact absurd (Nat.eq_of_beq_eq_true hb) h
      rw [hb]
      rcases Over_cases (e := e) ms t with ⟨d', h1, h2⟩ | ⟨h1, h2⟩
      · exact .inl ⟨d', by simp [h1], h2⟩
      · refine .inr ⟨fun p hp => ?_, h2⟩
        rcases List.mem_cons.1 hp with e | e
        · subst e; exact fun h' => h h'.symm
        · exact h1 p e
theorem Hide_cases {α : Type} (W : List Nat) (e : Nat → Option α) (t : Nat) : (t ∈ W ∧ Hide W e t = none) ∨ (t ∉ W ∧ Hide W e t = e t) := by
  unfold Hide
  cases h : memB W t with
  | true => exact .inl ⟨memB_iff.1 h, rfl⟩
  | false => exact .inr ⟨fun hm => (by rw [memB_iff.2 hm] at h; cases h), rfl⟩
theorem deadH_at {s : St} : ∀ {W : List Nat}, deadH s W = true → ∀ l ∈ W, s.H l = none
  | [], _, l, hl => by cases hl
  | x :: W, h, l, hl => by
    simp only [deadH] at h
    cases hx : s.H x with
    | some d => rw [hx] at h; cases h
    | none =>
      rw [hx] at h
      rcases List.mem_cons.1 hl with e | e
      · subst e; exact hx
      · exact deadH_at h l e
theorem deadR_at {s : St} : ∀ {W : List Nat}, deadR s W = true → ∀ l ∈ W, s.R l = none
  | [], _, l, hl => by cases hl
  | x :: W, h, l, hl => by
    simp only [deadR] at h
    cases hx : s.R x with
    | some d => rw [hx] at h; cases h
    | none =>
      rw [hx] at h
      rcases List.mem_cons.1 hl with e | e
      · subst e; exact hx
      · exact deadR_at h l e
theorem liveH_at {s : St} : ∀ {W : List (Nat × Dat)}, liveH s W = true → ∀ p ∈ W, s.H p.1 ≠ none
  | [], _, l, hl => by cases hl
  | (x, d) :: W, h, l, hl => by
    simp only [liveH] at h
    cases hx : s.H x with
    | none => rw [hx] at h; cases h
    | some d =>
      rw [hx] at h
      rcases List.mem_cons.1 hl with e | e
      · subst e; rw [hx]; simp
      · exact liveH_at h l e
theorem liveR_at {s : St} : ∀ {W : List (Nat × Row)}, liveR s W = true → ∀ p ∈ W, s.R p.1 ≠ none
  | [], _, l, hl => by cases hl
  | (x, d) :: W, h, l, hl => by
    simp only [liveR] at h
    cases hx : s.R x with
    | none => rw [hx] at h; cases h
    | some d =>
      rw [hx] at h
      rcases List.mem_cons.1 hl with e | e
      · subst e; rw [hx]; simp
      · exact liveR_at h l e
theorem sameH_at {s t : St} : ∀ {l : List Nat}, sameH s t l → ∀ x ∈ l, s.H x = t.H x
  | [], _, x, hx => by cases hx
  | y :: l, h, x, hx => by
    rcases List.mem_cons.1 hx with e | e
    · subst e; exact h.1
    · exact sameH_at h.2 x e
theorem sameR_at {s t : St} : ∀ {l : List Nat}, sameR s t l → ∀ x ∈ l, s.R x = t.R x
  | [], _, x, hx => by cases hx
  | y :: l, h, x, hx => by
    rcases List.mem_cons.1 hx with e | e
    · subst e; exact h.1
    · exact sameR_at h.2 x e
theorem holdsEnv_at {s : St} : ∀ {l : List (Nat × Dat)}, holdsEnv s l → ∀ p ∈ l, s.env p.1 = some p.2
  | [], _, x, hx => by cases hx
  | (t, d) :: l, h, x, hx => by
    rcases List.mem_cons.1 hx with e | e
    · subst e; exact h.1
    · exact holdsEnv_at h.2 x e
section
variable {cx : Cx} {g : Gh} {s : St} {a : Act} {w : World}
theorem Mem.reBox (m : Mem cx g s w) {l b : Nat} {d d' : Dat} (hl : s.H l = some d) (hb : g.mu l = some b) (hx : BoxAt g w b d') {s' : St} (hH : s'.H = upd s.H l (some d')) (hR : s'.R = s.R) : Mem cx g s' w where
  iw := m.iw
  box x y hy := by
    rw [hH] at hy
    by_cases e : x = l
    · subst e
      rw [upd_eq] at hy; cases hy
      obtain ⟨b', h1, _, h3⟩ := m.box x d hl
      rw [hb] at h1; cases h1
      exact ⟨b, hb, hx, h3⟩
    · rw [upd_ne _ _ _ _ e] at hy
      exact m.box x y hy
  nobox x y hy := by
    rw [hH]
    by_cases e : x = l
    · subst e; rw [upd_eq]; exact ⟨_, rfl⟩
    · rw [upd_ne _ _ _ _ e]; exact m.nobox x y hy
  inj := m.inj
  dis := m.dis
  row := by rw [hR]; exact m.row
  norow := by rw [hR]; exact m.norow
  rdis := m.rdis
  newI := m.newI
  frame := m.frame
  new := m.new
theorem upd_none {α : Type} {e : Nat → Option α} {k : Nat} {x : Option α} (j : Nat) (h : j ≠ k) : upd e k x j = e j := upd_ne _ _ _ _ h
theorem adopt_row (m : Mem cx g s w) {k sz : Nat} (hk : s.R k = none) {s' : St} (hH : s'.H = s.H) (hR : s'.R = upd s.R k (some ⟨sz, true, []⟩)) :
    ∃ g', Ext g g' ∧ Mem cx g' s' w ∧ g'.mu = g.mu ∧ g'.I = g.I ∧ ∀ v, Rep g v (.sl sz [] true) → Rep g' v (.ref k 0) := by
  have hg : g.tv k = none := by
    cases h : g.tv k with
    | none => rfl
    | some t => obtain ⟨r, hr⟩ := m.norow k t h; rw [hk] at hr; cases hr
  let g' : Gh := { I := g.I, mu := g.mu, tv := upd g.tv k (some ⟨sz, 0, none, 0⟩) }
  have he : Ext g g' := ⟨fun _ _ _ h => h, fun _ _ h => h, fun j t hj => ⟨t, by
    show upd g.tv k _ j = some t
    rw [upd_ne _ _ _ _ (by intro e; subst e; rw [hg] at hj; cases hj)]; exact hj, rfl, .inr rfl⟩⟩
  refine ⟨g', he, m.setRow (k := k) (r := ⟨sz, true, []⟩) (t := ⟨sz, 0, none, 0⟩) he rfl rfl (fun _ _ => rfl) (Frame.refl _ _) rfl rfl (fun e h => by cases h) ⟨rfl, rfl⟩ (fun b h => by cases h) hH hR, rfl, rfl, fun v hv => ?_⟩
  have hv' : v = .slice none 0 0 := by
    cases hv with
    | pure r =>
      cases r with
      | slnil => rfl
  subst hv'
  exact .ref ⟨sz, 0, none, 0⟩ (by show upd g.tv k _ k = _; rw [upd_eq]) (Nat.le_refl _) (fun _ => rfl) ⟨none, 0, rfl⟩
theorem setCell_spec {d x : Dat} {j : Nat} {y : Dat} (h : nth (cells d) j = some y) (hx : ∀ cs, x ≠ .agg cs) : (cells (setCell d j x)).length = (cells d).length ∧
    ∀ (i : Nat) z, nth (cells (setCell d j x)) i = some z → (i = j ∧ z = x) ∨ (i ≠ j ∧ nth (cells d) i = some z) := by
  have one : ∀ {d : Dat}, nth [d] j = some y → cells x = [x] → (cells x).length = [d].length ∧ ∀ (i : Nat) z, nth (cells x) i = some z → (i = j ∧ z = x) ∨ (i ≠ j ∧ nth [d] i = some z) := fun {d} h hc => by
    rw [hc]
    refine ⟨rfl, fun i z hz => ?_⟩
    cases j with
    | succ j => simp [nth] at h
    | zero =>
      cases i with
      | zero => simp [nth] at hz; exact .inl ⟨rfl, hz.symm⟩
      | succ i => simp [nth] at hz
  have hc : cells x = [x] := by cases x <;> first | rfl | exact absurd rfl (hx _)
  cases d with
  | agg cs =>
    have len : ∀ (cs : List Dat) (j : Nat), (setAt cs j x).length = cs.length := by
      intro cs
      induction cs with
      | nil => intro j; cases j <;> rfl
      | cons c cs ih => intro j; cases j with
        | zero => rfl
        | succ j => simp [setAt, ih]
    have at' : ∀ (cs : List Dat) (j i : Nat) z, nth (setAt cs j x) i = some z → (i = j ∧ z = x) ∨ (i ≠ j ∧ nth cs i = some z) := by
      intro cs
      induction cs with
      | nil => intro j i z hz; cases j <;> simp [setAt, nth] at hz
      | cons c cs ih =>
        intro j i z hz
        cases j with
        | zero =>
          cases i with
          | zero => simp [setAt, nth] at hz; exact .inl ⟨rfl, hz.symm⟩
          | succ i => exact .inr ⟨by omega, by simpa [setAt, nth] using hz⟩
        | succ j =>
          cases i with
          | zero => exact .inr ⟨by omega, by simpa [setAt, nth] using hz⟩
          | succ i =>
            rcases ih j i z (by simpa [setAt, nth] using hz) with ⟨e1, e2⟩ | ⟨e1, e2⟩
            · exact .inl ⟨by omega, e2⟩
            · exact .inr ⟨by omega, by simpa [nth] using e2⟩
    exact ⟨len cs j, at' cs j⟩
  | _ => exact one h hc
theorem adopt_sound {V W U : List Nat} (hV : ∀ k ∈ V, k ∈ rowDsts U) (hW : ∀ t ∈ W, t ∈ U) : ∀ {ad : List Ad} {g : Gh} {s : St} {K : St → Prop}, adopt V W ad s K → Rel cx g s a w →
    ∃ s' g', K s' ∧ Ext g g' ∧ Rel cx g' s' a w ∧ Keep U s s'
  | [], g, s, K, hk, h => ⟨s, g, hk, Ext.refl g, h, Keep.refl _ _⟩
  | .tmp t k :: ad, g, s, K, hk, h => by
    simp only [adopt_nil, adopt_tmp, adopt_cell, adopt_lay, adopt_layCell] at hk
    split at hk
    · rename_i sz ht
      split at hk
      · rename_i hm hR
        rw [Bool.and_eq_true] at hm
        obtain ⟨g1, e1, m1, q1, q2, r1⟩ := adopt_row h.mem hR (sz := sz) (s' := { env := upd s.env t (some (.ref k 0)), H := s.H, hn := s.hn, R := upd s.R k (some ⟨sz, true, []⟩), rn := k :: s.rn, y := s.y }) rfl rfl
        have h1 : Rel cx g1 { env := upd s.env t (some (.ref k 0)), H := s.H, hn := s.hn, R := upd s.R k (some ⟨sz, true, []⟩), rn := k :: s.rn, y := s.y } a w :=
          ⟨fun u d hu => by
            by_cases e : u = t
            · subst e
              have hu' : upd s.env u (some (.ref k 0)) u = some d := hu
              rw [upd_eq] at hu'; cases hu'
              exact r1 _ (h.env u _ ht)
            · have hu' : upd s.env t (some (.ref k 0)) u = some d := hu
              rw [upd_ne _ _ _ _ e] at hu'
              exact (h.env u d hu').mono e1, h.size, h.defers, m1⟩
        obtain ⟨s2, g2, k2, e2, h2, kk⟩ := adopt_sound hV hW hk h1
        refine ⟨s2, g2, k2, e1.trans e2, h2, ?_⟩
        have k0 : Keep U s { env := upd s.env t (some (.ref k 0)), H := s.H, hn := s.hn, R := upd s.R k (some ⟨sz, true, []⟩), rn := k :: s.rn, y := s.y } :=
          Keep.of_upd (.inr ⟨t, _, hW t (memB_iff.1 hm.2), rfl⟩) (.inl ⟨rfl, rfl⟩) (.inr (.inr ⟨k, _, hV k (memB_iff.1 hm.1), rfl, rfl⟩))
        exact k0.trans kk (fun _ h => h) (fun _ h => h)
      · exact hk.elim
    · exact hk.elim
  | .cell l j k :: ad, g, s, K, hk, h => by
    simp only [adopt_nil, adopt_tmp, adopt_cell, adopt_lay, adopt_layCell] at hk
    split at hk
    · rename_i d hd
      split at hk
      · rename_i sz hc
        split at hk
        · rename_i hm hR
          obtain ⟨g1, e1, m1, q1, q2, r1⟩ := adopt_row h.mem hR (sz := sz) (s' := { env := s.env, H := s.H, hn := s.hn, R := upd s.R k (some ⟨sz, true, []⟩), rn := k :: s.rn, y := s.y }) rfl rfl
          obtain ⟨b, b1, b2, b3⟩ := m1.box l d hd
          obtain ⟨z1, z2⟩ := setCell_spec (x := .ref k 0) hc (by intro cs e; cases e)
          have hbox : BoxAt g1 w b (setCell d j (.ref k 0)) := by
            obtain ⟨c, e, fz, c1, c2, c3, c4⟩ := b2
            refine ⟨c, e, fz, c1, c2, by rw [z1]; exact c3, fun i v x hv hx => ?_⟩
            rcases z2 i x hx with ⟨rfl, rfl⟩ | ⟨_, hx'⟩
            · obtain ⟨p1, p2⟩ := c4 i v _ hv hc
              refine ⟨?_, p2⟩
              have : Rep g v (.sl sz [] true) := by
                cases p1 with
                | pure r => exact .pure (by rw [← q2]; exact r)
              exact r1 v this
            · exact c4 i v x hv hx'
          have m2 : Mem cx g1 { env := s.env, H := upd s.H l (some (setCell d j (.ref k 0))), hn := s.hn, R := upd s.R k (some ⟨sz, true, []⟩), rn := k :: s.rn, y := s.y } w := m1.reBox hd b1 hbox rfl rfl
          have h1 : Rel cx g1 { env := s.env, H := upd s.H l (some (setCell d j (.ref k 0))), hn := s.hn, R := upd s.R k (some ⟨sz, true, []⟩), rn := k :: s.rn, y := s.y } a w :=
            ⟨fun u d hu => (h.env u d hu).mono e1, h.size, h.defers, m2⟩
          obtain ⟨s2, g2, k2, e2, h2, kk⟩ := adopt_sound hV hW hk h1
          refine ⟨s2, g2, k2, e1.trans e2, h2, ?_⟩
          have k0 : Keep U s { env := s.env, H := upd s.H l (some (setCell d j (.ref k 0))), hn := s.hn, R := upd s.R k (some ⟨sz, true, []⟩), rn := k :: s.rn, y := s.y } :=
            Keep.of_upd (.inl rfl) (.inr (.inl ⟨l, _, by rw [hd]; simp, rfl, rfl⟩)) (.inr (.inr ⟨k, _, hV k (memB_iff.1 hm), rfl, rfl⟩))
          exact k0.trans kk (fun _ h => h) (fun _ h => h)
        · exact hk.elim
      · exact hk.elim
    · exact hk.elim
  | .lay t :: ad, g, s, K, hk, h => by
    simp only [adopt_nil, adopt_tmp, adopt_cell, adopt_lay, adopt_layCell] at hk
    split at hk
    · rename_i d hd
      split at hk
      · rename_i hm
        obtain ⟨s1, d1, g1, k1, l1, _, _, r1⟩ := leak_sound h (keep_leak hk)
        obtain ⟨lk, k1⟩ := k1
        have h1 : Rel cx g1 { env := upd s1.env t (some d1), H := s1.H, hn := s1.hn, R := s1.R, rn := s1.rn, y := s1.y } a w :=
          ⟨fun u x hu => by
            have hu' : upd s1.env t (some d1) u = some x := hu
            by_cases e : u = t
            · subst e
              rw [upd_eq] at hu'; cases hu'
              exact .pure (r1 _ (h.env u _ hd))
            · rw [upd_ne _ _ _ _ e] at hu'
              exact l1.rel.env u x hu', l1.rel.size, l1.rel.defers, l1.rel.mem.names rfl rfl⟩
        obtain ⟨s2, g2, k2, e2, h2, kk⟩ := adopt_sound hV hW k1 h1
        refine ⟨s2, g2, k2, l1.ext.trans e2, h2, ?_⟩
        have k0 : Keep U s1 { env := upd s1.env t (some d1), H := s1.H, hn := s1.hn, R := s1.R, rn := s1.rn, y := s1.y } :=
          Keep.of_upd (.inr ⟨t, _, hW t (memB_iff.1 hm), rfl⟩) (.inl ⟨rfl, rfl⟩) (.inl ⟨rfl, rfl⟩)
        exact ((Keep.of_laid lk U).trans k0 (fun _ h => h) (fun _ h => h)).trans kk (fun _ h => h) (fun _ h => h)
      · exact hk.elim
    · exact hk.elim
  | .layCell l j :: ad, g, s, K, hk, h => by
    simp only [adopt_nil, adopt_tmp, adopt_cell, adopt_lay, adopt_layCell] at hk
    split at hk
    · rename_i d hd
      split at hk
      · rename_i x hx
        obtain ⟨s1, x1, g1, k1, l1, _, _, r1⟩ := leakCell_sound h (keep_leakCell hk)
        obtain ⟨lk, k1⟩ := k1
        have hna : ∀ cs, x1 ≠ .agg cs := fun cs e => by subst e; exact k1
        have k1' : adopt V W ad { env := s1.env, H := upd s1.H l (some (setCell d j x1)), hn := s1.hn, R := s1.R, rn := s1.rn, y := s1.y } K := by
          cases x1 <;> first | exact k1 | exact k1.elim
        have hd1 : s1.H l = some d := by rw [l1.H]; exact hd
        obtain ⟨b, b1, b2, b3⟩ := l1.rel.mem.box l d hd1
        obtain ⟨b', b1', b2', _⟩ := h.mem.box l d hd
        obtain ⟨z1, z2⟩ := setCell_spec (x := x1) hx hna
        have hbox : BoxAt g1 w b (setCell d j x1) := by
          obtain ⟨c, e, fz, c1, c2, c3, c4⟩ := b2
          have e1 : b = b' := by rw [l1.mu, b1'] at b1; cases b1; rfl
          subst e1
          obtain ⟨c', e', fz', c1', _, _, c4'⟩ := b2'
          rw [c1] at c1'; cases c1'
          refine ⟨c, e, fz, c1, c2, by rw [z1]; exact c3, fun i v y hv hy => ?_⟩
          rcases z2 i y hy with ⟨rfl, rfl⟩ | ⟨_, hx'⟩
          · obtain ⟨p1, p2⟩ := c4' i v _ hv hx
            exact ⟨.pure (r1 v p1), p2⟩
          · exact c4 i v y hv hx'
        have m2 : Mem cx g1 { env := s1.env, H := upd s1.H l (some (setCell d j x1)), hn := s1.hn, R := s1.R, rn := s1.rn, y := s1.y } w := l1.rel.mem.reBox hd1 b1 hbox rfl rfl
        have h1 : Rel cx g1 { env := s1.env, H := upd s1.H l (some (setCell d j x1)), hn := s1.hn, R := s1.R, rn := s1.rn, y := s1.y } a w := ⟨l1.rel.env, l1.rel.size, l1.rel.defers, m2⟩
        obtain ⟨s2, g2, k2, e2, h2, kk⟩ := adopt_sound hV hW k1' h1
        refine ⟨s2, g2, k2, l1.ext.trans e2, h2, ?_⟩
        have k0 : Keep U s1 { env := s1.env, H := upd s1.H l (some (setCell d j x1)), hn := s1.hn, R := s1.R, rn := s1.rn, y := s1.y } :=
          Keep.of_upd (.inl rfl) (.inr (.inl ⟨l, _, by rw [hd1]; simp, rfl, rfl⟩)) (.inl ⟨rfl, rfl⟩)
        exact ((Keep.of_laid lk U).trans k0 (fun _ h => h) (fun _ h => h)).trans kk (fun _ h => h) (fun _ h => h)
      · exact hk.elim
    · exact hk.elim
end
structure Fit (W : List Nat) (s : St) (m : Mods) : Prop where
  td : tidy W (rowDsts W) m = true
  lh : liveH s m.H = true
  lr : liveR s m.R = true
theorem with_H {W : List Nat} {s : St} {m : Mods} (hf : Fit W s m) (l : Nat) : (s.with W m).H l ≠ none ↔ s.H l ≠ none := by
  show Over m.H s.H l ≠ none ↔ _
  rcases Over_cases (e := s.H) m.H l with ⟨d, h1, h2⟩ | ⟨_, h2⟩
  · rw [h2]
    have := liveH_at hf.lh _ h1
    exact ⟨fun _ => this, fun _ => by simp⟩
  · rw [h2]
theorem with_R {W : List Nat} {s : St} {m : Mods} (hf : Fit W s m) (l : Nat) : (s.with W m).R l ≠ none ↔ s.R l ≠ none := by
  show Over m.R s.R l ≠ none ↔ _
  rcases Over_cases (e := s.R) m.R l with ⟨d, h1, h2⟩ | ⟨_, h2⟩
  · rw [h2]
    have := liveR_at hf.lr _ h1
    exact ⟨fun _ => this, fun _ => by simp⟩
  · rw [h2]
theorem with_env {W : List Nat} {s : St} {m : Mods} (hf : Fit W s m) {t : Nat} (ht : t ∉ W) : (s.with W m).env t = s.env t := by
  show Over m.env (Hide W s.env) t = _
  have hk : keysIn W m.env = true := by have := hf.td; unfold tidy at this; rw [Bool.and_eq_true] at this; exact this.2
  rcases Over_cases (e := Hide W s.env) m.env t with ⟨d, h1, h2⟩ | ⟨_, h2⟩
  · exact absurd (keysIn_at hk _ h1) ht
  · rw [h2]
    rcases Hide_cases W s.env t with ⟨h3, _⟩ | ⟨_, h3⟩
    · exact absurd h3 ht
    · exact h3
theorem with_keep {W : List Nat} {s : St} {m : Mods} (hf : Fit W s m) : Keep W s (s.with W m) where
  env t ht := with_env hf ht
  H l hl := .inl ((with_H hf l).1 hl)
  R l hl := .inl ((with_R hf l).1 hl)
  liveH l hl := (with_H hf l).2 hl
  liveR l hl := (with_R hf l).2 hl
  nm hn := ⟨fun l hl => hn.1 l ((with_H hf l).1 hl), fun l hl => hn.2 l ((with_R hf l).1 hl)⟩
  y h := h
theorem loop_enter {cx : Cx} {g : Gh} {W : List Nat} {s : St} {m : Mods} {a : Act} {w : World} (h : Rel cx g s a w) (hn : Nm s) (hf : Fit W s m) (hh : Holds s (s.with W m) m) : Rel cx g (s.with W m) a w := by
  have eH : (s.with W m).H = s.H := by
    funext l
    cases hl : s.H l with
    | none =>
      cases hx : (s.with W m).H l with
      | none => rfl
      | some d => exact absurd hl ((with_H hf l).1 (by rw [hx]; simp))
    | some d => rw [← hl]; exact (sameH_at hh.H l (hn.1 l (by rw [hl]; simp))).symm
  have eR : (s.with W m).R = s.R := by
    funext l
    cases hl : s.R l with
    | none =>
      cases hx : (s.with W m).R l with
      | none => rfl
      | some d => exact absurd hl ((with_R hf l).1 (by rw [hx]; simp))
    | some d => rw [← hl]; exact (sameR_at hh.R l (hn.2 l (by rw [hl]; simp))).symm
  refine ⟨fun t d ht => ?_, h.size, h.defers, h.mem.names eH eR⟩
  rcases Over_cases (e := Hide W s.env) m.env t with ⟨d', h1, h2⟩ | ⟨_, h2⟩
  · have : (s.with W m).env t = some d' := h2
    rw [ht] at this; cases this
    exact h.env t d (holdsEnv_at hh.env _ h1)
  · rcases Hide_cases W s.env t with ⟨_, h3⟩ | ⟨_, h3⟩
    · have : (s.with W m).env t = none := h2.trans h3
      rw [ht] at this; cases this
    · have : (s.with W m).env t = s.env t := h2.trans h3
      exact h.env t d (by rw [← this]; exact ht)
open Classical in
theorem loop_round {cx0 cx : Cx} {g0 g' : Gh} {W : List Nat} {s s' : St} {m m' : Mods} {a0 a' : Act} {w0 w' : World} (h0 : Rel cx0 g0 s a0 w0) (he : Ext g0 g') (h : Rel cx g' s' a' w') (hn : Nm s)
    (hf : Fit W s m) (hf' : Fit W s m') (hk : Keep W (s.with W m) s') (hd : deadH s W = true) (hdr : deadR s (rowDsts W) = true) (hh : Holds s' (s.with W m') m') :
    ∃ g'', Ext g0 g'' ∧ Rel cx g'' (s.with W m') a' w' ∧ g''.I = g'.I := by
  refine ⟨{ I := g'.I, mu := fun l => if s.H l = none then none else g'.mu l, tv := fun k => if s.R k = none then none else g'.tv k }, ?_, ?_⟩
  · refine ⟨he.I, fun l b hl => ?_, fun k t hk => ?_⟩
    · obtain ⟨d, hd⟩ := h0.mem.nobox l b hl
      show (if s.H l = none then none else g'.mu l) = some b
      rw [if_neg (by rw [hd]; simp)]
      exact he.mu l b hl
    · obtain ⟨r, hr⟩ := h0.mem.norow k t hk
      obtain ⟨t', h1, h2⟩ := he.tv k t hk
      refine ⟨t', ?_, h2⟩
      show (if s.R k = none then none else g'.tv k) = some t'
      rw [if_neg (by rw [hr]; simp)]
      exact h1
  · have mu0 : ∀ l, s.H l ≠ none → (if s.H l = none then none else g'.mu l) = g'.mu l := fun l hl => if_neg hl
    have tv0 : ∀ l, s.R l ≠ none → (if s.R l = none then none else g'.tv l) = g'.tv l := fun l hl => if_neg hl
    have lH : ∀ l b, g'.mu l = some b → l ∉ W → s.H l ≠ none := fun l b hl hw => by
      obtain ⟨d, hd⟩ := h.mem.nobox l b hl
      rcases hk.H l (by rw [hd]; simp) with e | e
      · exact (with_H hf l).1 e
      · exact absurd e hw
    have lR : ∀ l b, g'.tv l = some b → l ∉ rowDsts W → s.R l ≠ none := fun l b hl hw => by
      obtain ⟨d, hd⟩ := h.mem.norow l b hl
      rcases hk.R l (by rw [hd]; simp) with e | e
      · exact (with_R hf l).1 e
      · exact absurd e hw
    let g'' : Gh := { I := g'.I, mu := fun l => if s.H l = none then none else g'.mu l, tv := fun k => if s.R k = none then none else g'.tv k }
    have toT : ∀ {v : Value} {d : Dat}, Rep g' v d → Nms (fun l => l ∉ W) (fun k => k ∉ rowDsts W) d → Rep g'' v d := fun {v d} x n =>
      x.restrict n rfl (fun l b hl hb => by show (if s.H l = none then none else g'.mu l) = some b; rw [mu0 l (lH l b hb hl)]; exact hb)
        (fun k t hl hb => by show (if s.R k = none then none else g'.tv k) = some t; rw [tv0 k (lR k t hb hl)]; exact hb)
    have toS : ∀ {v : Value} {d : Dat}, Rep g' v d → Nms (fun l => g0.mu l ≠ none) (fun k => g0.tv k ≠ none) d → Rep g'' v d := fun {v d} x n =>
      x.restrict n rfl (fun l b hl hb => by
          have : s.H l ≠ none := by
            cases h1 : g0.mu l with
            | none => exact absurd h1 hl
            | some b' => obtain ⟨d, hd⟩ := h0.mem.nobox l b' h1; rw [hd]; simp
          show (if s.H l = none then none else g'.mu l) = some b; rw [mu0 l this]; exact hb)
        (fun k t hl hb => by
          have : s.R k ≠ none := by
            cases h1 : g0.tv k with
            | none => exact absurd h1 hl
            | some b' => obtain ⟨d, hd⟩ := h0.mem.norow k b' h1; rw [hd]; simp
          show (if s.R k = none then none else g'.tv k) = some t; rw [tv0 k this]; exact hb)
    have td := hf'.td
    unfold tidy at td
    rw [Bool.and_eq_true, Bool.and_eq_true] at td
    have lvH : ∀ l d, (s.with W m').H l = some d → s.H l ≠ none ∧ s'.H l = some d := fun l d hl => by
      have h1 : s.H l ≠ none := (with_H hf' l).1 (by rw [hl]; simp)
      exact ⟨h1, by rw [sameH_at hh.H l (hn.1 l h1)]; exact hl⟩
    have lvR : ∀ l d, (s.with W m').R l = some d → s.R l ≠ none ∧ s'.R l = some d := fun l d hl => by
      have h1 : s.R l ≠ none := (with_R hf' l).1 (by rw [hl]; simp)
      exact ⟨h1, by rw [sameR_at hh.R l (hn.2 l h1)]; exact hl⟩
    refine ⟨⟨fun t d ht => ?_, h.size, h.defers, ?_⟩, rfl⟩
    · rcases Over_cases (e := Hide W s.env) m'.env t with ⟨d', h1, h2⟩ | ⟨_, h2⟩
      · have : (s.with W m').env t = some d' := h2
        rw [ht] at this; cases this
        exact toT (h.env t d (holdsEnv_at hh.env _ h1)) (tidy_nms (tidyL_at td.1.1 _ h1))
      · rcases Hide_cases W s.env t with ⟨_, h3⟩ | ⟨h4, h3⟩
        · have : (s.with W m').env t = none := h2.trans h3
          rw [ht] at this; cases this
        · have e1 : (s.with W m').env t = s.env t := h2.trans h3
          rw [ht] at e1
          have e2 : s'.env t = some d := by rw [hk.env t h4, with_env hf h4]; exact e1.symm
          exact toS (h.env t d e2) (h0.env t d e1.symm).nms
    · refine { iw := h.mem.iw, box := fun l d hl => ?_, nobox := fun l b hl => ?_, inj := fun l m b h1 h2 => ?_, dis := fun l b hl => ?_, row := fun k r hr => ?_, norow := fun k t hk => ?_, rdis := fun k j t u b h1 h2 h3 h4 => ?_, newI := h.mem.newI, frame := h.mem.frame, new := h.mem.new }
      · obtain ⟨h1, h2⟩ := lvH l d hl
        obtain ⟨b, hb, hx, hm⟩ := h.mem.box l d h2
        refine ⟨b, by show (if s.H l = none then none else g'.mu l) = some b; rw [mu0 l h1]; exact hb, ?_, hm⟩
        obtain ⟨c, e, fz, y1, y2, y3, y4⟩ := hx
        refine ⟨c, e, fz, y1, y2, y3, fun i v x hv hx => ⟨?_, (y4 i v x hv hx).2⟩⟩
        have hrep := (y4 i v x hv hx).1
        rcases Over_cases (e := s.H) m'.H l with ⟨d', z1, z2⟩ | ⟨_, z2⟩
        · have : (s.with W m').H l = some d' := z2
          rw [hl] at this; cases this
          exact toT hrep ((tidy_nms (tidyL_at td.1.2 _ z1)).cells hx)
        · have e1 : (s.with W m').H l = s.H l := z2
          rw [hl] at e1
          obtain ⟨b0, _, ⟨c0, _, _, x1, _, x3, x4⟩, _⟩ := h0.mem.box l d e1.symm
          obtain ⟨v0, hv0⟩ : ∃ v0, c0[i]? = some v0 := ⟨c0[i]'(by have := lt_of_nth hx; omega), by simp [show i < c0.size by have := lt_of_nth hx; omega]⟩
          exact toS hrep (x4 i v0 x hv0 hx).1.nms
      · have hl' : (if s.H l = none then none else g'.mu l) = some b := hl
        split at hl'
        · cases hl'
        · rename_i hne
          cases hx : (s.with W m').H l with
          | some d => exact ⟨d, rfl⟩
          | none => exact absurd hx ((with_H hf' l).2 hne)
      · have h1' : (if s.H l = none then none else g'.mu l) = some b := h1
        have h2' : (if s.H m = none then none else g'.mu m) = some b := h2
        split at h1'
        · cases h1'
        · split at h2'
          · cases h2'
          · exact h.mem.inj l m b h1' h2'
      · have h1' : (if s.H l = none then none else g'.mu l) = some b := hl
        split at h1'
        · cases h1'
        · exact h.mem.dis l b h1'
      · obtain ⟨h1, h2⟩ := lvR k r hr
        obtain ⟨t, x1, x2, x3, x4, x5⟩ := h.mem.row k r h2
        refine ⟨t, by show (if s.R k = none then none else g'.tv k) = some t; rw [tv0 k h1]; exact x1, x2, x3, x4, ?_⟩
        unfold RowAt at *
        cases hb : t.base with
        | none => rw [hb] at x5; exact x5
        | some b =>
          rw [hb] at x5
          obtain ⟨y1, y2, y3, y4⟩ := x5
          refine ⟨y1, y2, fun l hl => ?_, y4⟩
          have h1' : (if s.H l = none then none else g'.mu l) = some b := hl
          split at h1'
          · cases h1'
          · exact y3 l h1'
      · have h1' : (if s.R k = none then none else g'.tv k) = some t := hk
        split at h1'
        · cases h1'
        · rename_i hne
          cases hx : (s.with W m').R k with
          | some d => exact ⟨d, rfl⟩
          | none => exact absurd hx ((with_R hf' k).2 hne)
      · have h1' : (if s.R k = none then none else g'.tv k) = some t := h1
        have h2' : (if s.R j = none then none else g'.tv j) = some u := h2
        split at h1'
        · cases h1'
        · split at h2'
          · cases h2'
          · exact h.mem.rdis k j t u b h1' h2' h3 h4
end Abs
namespace Abs
open Go
def markOf (b : Nat) : Deferred := { target := .collected b, args := #[] }
def Marks (B : Nat) (cx : Cx) : Prop := ∃ bs : List Nat, cx.D = bs.map markOf ∧ bs.Nodup ∧ (∀ I w, cx.Fr I w → ∀ b ∈ bs, B ≤ b ∧ w.heap[b]? = some (.deferred (some []))) ∧ ∀ b ∈ bs, ¬ cx.mine b
def noRF : Code → Bool
  | .seq a b => noRF a && noRF b
  | .cond _ a b => noRF a && noRF b
  | .block _ b => noRF b
  | .loop b => noRF b
  | .scope b => noRF b
  | .rangeFunc _ _ _ _ => false
  | _ => true
structure CxT (cx cx' : Cx) (y : YS) (rf : Bool) : Prop where
  n : cx'.n = cx.n
  I0 : y = .off → cx'.I0 = cx.I0
  mine : y = .off → ∀ b, cx'.mine b → cx.mine b
  fr : y = .off → ∀ I w, cx'.Fr I w → cx.Fr I w
  D : y = .off → ∀ B, (∀ I w, cx.Fr I w → B ≤ w.heap.size) → Marks B cx → Marks B cx'
  same : y = .off → rf = true → cx' = cx
theorem CxT.refl (cx : Cx) (y : YS) (rf : Bool) : CxT cx cx y rf := ⟨rfl, fun _ => rfl, fun _ _ h => h, fun _ _ _ h => h, fun _ _ _ h => h, fun _ _ => rfl⟩
theorem CxT.of {cx cx' : Cx} {y : YS} {rf : Bool} (h : CxTo cx cx' y) : CxT cx cx' y rf :=
  ⟨h.n, fun e => by rw [h.same e], fun e b k => by rw [h.same e] at k; exact k, fun e I w k => by rw [h.same e] at k; exact k, fun e B _ k => by rw [h.same e]; exact k, fun e _ => h.same e⟩
theorem CxT.trans {a b c : Cx} {y z : YS} {r s : Bool} (h : CxT a b y r) (k : CxT b c z s) (hy : y = .off → z = .off) : CxT a c y (r && s) :=
  ⟨k.n.trans h.n, fun e => (k.I0 (hy e)).trans (h.I0 e), fun e b x => h.mine e b (k.mine (hy e) b x), fun e I w x => h.fr e I w (k.fr (hy e) I w x),
   fun e B hB x => k.D (hy e) B (fun I w x => hB I w (h.fr e I w x)) (h.D e B hB x), fun e x => by rw [Bool.and_eq_true] at x; exact (k.same (hy e) x.2).trans (h.same e x.1)⟩
theorem CxT.weak {a b : Cx} {y : YS} {r s : Bool} (h : CxT a b y r) (hr : s = true → r = true) : CxT a b y s := ⟨h.n, h.I0, h.mine, h.fr, h.D, fun e x => h.same e (hr x)⟩
theorem params_env : ∀ (ps : List Nat) (ds : List Dat) (e : Nat → Option Dat) (tmps : Array Value) (vs : List Value) {g : Gh}, vs.length = ds.length → (∀ t ∈ ps, t < tmps.size) →
    (∀ (i : Nat) v d, vs[i]? = some v → nth ds i = some d → Rep g v d) → (∀ t d, e t = some d → Rep g (tmps.getD t undef) d) →
    ∀ t d, params ps ds e t = some d → Rep g (((ps.zip vs).foldl (fun tmps x => tmps.setIfInBounds x.1 x.2) tmps).getD t undef) d
  | [], ds, e, tmps, vs, g, _, _, _, he, t, d, h => by
    have : params [] ds e t = e t := by cases ds <;> rfl
    rw [this] at h
    simpa using he t d h
  | p :: ps, [], e, tmps, vs, g, hl, _, _, he, t, d, h => by
    cases vs with
    | nil => simpa using he t d h
    | cons v vs => simp at hl
  | p :: ps, x :: ds, e, tmps, [], g, hl, _, _, he, t, d, h => by simp at hl
  | p :: ps, x :: ds, e, tmps, v :: vs, g, hl, hp, hr, he, t, d, h => by
    simp only [List.zip_cons_cons, List.foldl_cons]
    refine params_env ps ds (upd e p (some x)) (tmps.setIfInBounds p v) vs (by simpa using hl) (fun t ht => by simpa using hp t (List.mem_cons_of_mem _ ht)) (fun i v' d' h1 h2 => hr (i + 1) v' d' (by simpa using h1) (by simpa [nth] using h2)) (fun u y hu => ?_) t d h
    by_cases e1 : u = p
    · subst e1
      rw [upd_eq] at hu; cases hu
      have hlt : u < tmps.size := hp u (by simp)
      have := hr 0 v x rfl rfl
      simpa [hlt] using this
    · rw [upd_ne _ _ _ _ e1] at hu
      have := he u y hu
      have e2 : ((tmps.setIfInBounds p v).getD u undef) = tmps.getD u undef := by
        simp [Array.getElem?_setIfInBounds_ne (Ne.symm e1)]
      rw [e2]; exact this
theorem params_keep : ∀ (ps : List Nat) (ds : List Dat) (e : Nat → Option Dat) (t : Nat), t ∉ ps → params ps ds e t = e t
  | [], ds, e, t, _ => by cases ds <;> rfl
  | p :: ps, [], e, t, _ => rfl
  | p :: ps, d :: ds, e, t, h => by
    rw [List.mem_cons, not_or] at h
    show params ps ds (upd e p (some d)) t = e t
    rw [params_keep ps ds _ t h.2, upd_ne _ _ _ _ h.1]
theorem Keep.params (s : St) (ps : List Nat) (ds : List Dat) : Keep ps s (s.params ps ds) :=
  ⟨fun t ht => params_keep ps ds s.env t ht, fun _ h => .inl h, fun _ h => .inl h, fun _ h => h, fun _ h => h, fun h => h, fun h => h⟩
def jumpOf : Out → Code
  | .exit id => .exit id
  | .ret => .ret
  | .normal => .skip
section
variable (cx : Cx) (l db : Nat) (N : Nat → Prop) (W1 : World) (I0 : Nat → Nat → Option Value)
def cxH : Cx where
  n := cx.n
  mine b := (cx.mine b ∧ N b ∧ b ≠ l ∧ b ≠ db) ∨ W1.heap.size ≤ b
  I0 := I0
  D := []
  Fr _ _ := True
  st _ _ _ _ _ _ _ _ _ := trivial
def cxR (rec : Obj) (hl : l < W1.heap.size) (hd : db < W1.heap.size) (hN : N l ∧ N db) (hm : ∀ b, W1.heap.size ≤ b → cx.mine b) : Cx where
  n := cx.n
  mine b := (cx.mine b ∧ N b ∧ b ≠ l ∧ b ≠ db) ∨ W1.heap.size ≤ b
  I0 := I0
  D := []
  Fr I w := cx.Fr I w ∧ w.heap[l]? = some rec ∧ w.heap[db]? = some (.deferred (some [])) ∧ W1.heap.size ≤ w.heap.size ∧ ∀ b, b < W1.heap.size → ¬ N b → w.heap[b]? = W1.heap[b]?
  st I I' w w' h hs fr hc hnew := by
    obtain ⟨h1, h2, h3, h4, h5⟩ := h
    refine ⟨cx.st I I' w w' h1 hs (fr.sub fun b _ e => ?_) hc (fun b hb => hm b (Nat.le_trans h4 hb)), ?_, ?_, Nat.le_trans h4 fr.size, fun b hb hn => ?_⟩
    · rcases e with e | e
      · exact e.1
      · exact hm b e
    · rw [fr.block l (Nat.lt_of_lt_of_le hl h4) (fun e => by rcases e with e | e; exact e.2.2.1 rfl; omega)]; exact h2
    · rw [fr.block db (Nat.lt_of_lt_of_le hd h4) (fun e => by rcases e with e | e; exact e.2.2.2 rfl; omega)]; exact h3
    · rw [fr.block b (Nat.lt_of_lt_of_le hb h4) (fun e => by rcases e with e | e; exact hn e.2.1; omega)]; exact h5 b hb hn
def cxE (hd : db < W1.heap.size) (hm : ∀ b, W1.heap.size ≤ b → cx.mine b) : Cx where
  n := cx.n
  mine b := cx.mine b ∧ b ≠ db
  I0 := cx.I0
  D := markOf db :: cx.D
  Fr I w := cx.Fr I w ∧ w.heap[db]? = some (.deferred (some [])) ∧ W1.heap.size ≤ w.heap.size
  st I I' w w' h hs fr hc hnew := by
    obtain ⟨h1, h2, h3⟩ := h
    refine ⟨cx.st I I' w w' h1 hs (fr.sub fun b _ e => e.1) hc (fun b hb => (hnew b hb).1), ?_, Nat.le_trans h3 fr.size⟩
    rw [fr.block db (Nat.lt_of_lt_of_le hd h3) (fun e => e.2 rfl)]; exact h2
end
theorem putObj_eq (w : World) (b : Nat) (o : Obj) : w.putObj b o = setB w b o := rfl
theorem alloc_eq (w : World) (o : Obj) : w.alloc o = pushB w o := rfl
theorem cell_obj {w : World} {b o : Nat} {v : Value} {x : Obj} (h : w.cell? ⟨b, o, none⟩ = some v) (hx : w.heap[b]? = some x) : ∃ c e fz, x = .cells c e fz := by
  simp only [World.cell?, hx] at h
  cases x <;> first | exact ⟨_, _, _, rfl⟩ | simp at h
structure HostJ (cx : Cx) (g : Gh) (w1 : World) (l db : Nat) (N : Nat → Prop) (Ih : Nat → Nat → Option Value) (W : World) (g' : Gh) (s' : St) (rec : Obj) : Prop where
  ext : Ext g g'
  sub : SubI Ih g'.I
  shown : ∀ b o v, g'.I b o = some v → N b ∨ Ih b o = some v
  newI : ∀ b o v, g'.I b o = some v → cx.I0 b o = some v ∨ cx.mine b
  old : ∀ b, b < w1.heap.size → N b
  lt : ∀ b, N b → b < W.heap.size
  fr : cx.Fr g'.I W
  def' : W.heap[db]? = some (.deferred (some []))
  rc : W.heap[l]? = some rec
  mem : Mem (cxH cx l db N W g'.I) g' s' W
section
variable {cx : Cx} {g : Gh} {w1 : World} {l db : Nat} {N : Nat → Prop} {Ih : Nat → Nat → Option Value} {W W' : World} {g' : Gh} {s' : St} {rec : Obj}
theorem HostJ.rely (h : HostJ cx g w1 l db N Ih W g' s' rec) (hm1 : ∀ b, w1.heap.size ≤ b → cx.mine b) (hl : l < w1.heap.size) (hd : db < w1.heap.size) (fr : Frame W W' (fun b => ¬ N b))
    (hc : ∀ b o v, Ih b o = some v → W'.cell? ⟨b, o, none⟩ = some v) : HostJ cx g w1 l db N Ih W' g' s' rec := by
  have same : ∀ b, N b → W'.heap[b]? = W.heap[b]? := fun b hb => fr.block b (h.lt b hb) (fun e => e hb)
  have cells : Cells g'.I W' := fun b o v e => by
    have h0 := h.mem.iw b o v e
    rcases h.shown b o v e with k | k
    · exact ⟨(cell_same (same b k)).trans h0.1, h0.2⟩
    · exact ⟨hc b o v k, h0.2⟩
  have nN : ∀ b, ¬ N b → cx.mine b := fun b hb => hm1 b (by rcases Nat.lt_or_ge b w1.heap.size with k | k; exact absurd (h.old b k) hb; exact k)
  have big : w1.heap.size ≤ W.heap.size := by
    rcases Nat.eq_zero_or_pos w1.heap.size with k | k
    · omega
    · have := h.lt _ (h.old (w1.heap.size - 1) (by omega)); omega
  refine ⟨h.ext, h.sub, h.shown, h.newI, h.old, fun b hb => Nat.lt_of_lt_of_le (h.lt b hb) fr.size, cx.st _ _ _ _ h.fr (fun _ _ _ e => e) (fr.sub fun b _ e => nN b e) cells (fun b hb => hm1 b (Nat.le_trans big hb)),
    (same db (h.old db hd)).trans h.def', (same l (h.old l hl)).trans h.rc, ?_⟩
  exact h.mem.after (I' := g'.I) (fun _ _ _ e => e) cells (fun b h1 h2 => by rcases h2 with h2 | h2; exact same b h2.2.1; omega) (fun b o v e _ _ => e) (fun b h1 h2 => by rcases h2 with h2 | h2; exact .inl h2; omega)
    (fun b o v e => .inl e) trivial (fun b hb => .inr hb)
theorem HostJ.big (h : HostJ cx g w1 l db N Ih W g' s' rec) : w1.heap.size ≤ W.heap.size := by
  rcases Nat.eq_zero_or_pos w1.heap.size with k | k
  · omega
  · have := h.lt _ (h.old (w1.heap.size - 1) (by omega)); omega
end
theorem host_after {cx : Cx} {g gR g2 : Gh} {w1 W1 W2 : World} {l db : Nat} {N : Nat → Prop} {I : Nat → Nat → Option Value} {s2 : St} {rec rec' : Obj}
    (hm1 : ∀ b, w1.heap.size ≤ b → cx.mine b) (hold : ∀ b, b < w1.heap.size → N b) (hlt : ∀ b, N b → b < W1.heap.size) (hbig : w1.heap.size ≤ W1.heap.size)
    (hl : l < w1.heap.size) (hd : db < w1.heap.size) (hld : l ≠ db) (hll : cx.mine l) {q1 q2 q3 q4}
    (hx : Ext g g2) (hI : SubI I gR.I) (hgR : SubI gR.I g2.I) (hsh : ∀ b o v, gR.I b o = some v → N b ∨ I b o = some v) (hnew : ∀ b o v, gR.I b o = some v → cx.I0 b o = some v ∨ cx.mine b)
    (m : Mem (cxR cx l db N W1 gR.I rec q1 q2 q3 q4) g2 s2 W2) (hnl : ∀ c e fz, rec ≠ .cells c e fz) :
    HostJ cx g w1 l db (fun b => N b ∨ (W1.heap.size ≤ b ∧ b < (W2.putObj l rec').heap.size)) I (W2.putObj l rec') g2 s2 rec' ∧ W1.heap.size ≤ (W2.putObj l rec').heap.size ∧
      (∀ b, b < W1.heap.size → ¬ N b → (W2.putObj l rec').heap[b]? = W1.heap[b]?) ∧ Cells I (W2.putObj l rec') := by
  obtain ⟨f1, f2, f3, f4, f5⟩ := m.frame
  have sz : (W2.putObj l rec').heap.size = W2.heap.size := by simp
  have lt2 : l < W2.heap.size := by omega
  have other : ∀ b, b ≠ l → (W2.putObj l rec').heap[b]? = W2.heap[b]? := fun b hb => World.putObj_heap_other hb
  have noI : ∀ b o v, g2.I b o = some v → b ≠ l := fun b o v e hb => by
    subst hb
    obtain ⟨c, t, fz, h⟩ := cell_obj (m.iw b o v e).1 f2
    exact hnl _ _ _ h
  have cells : Cells g2.I (W2.putObj l rec') := fun b o v e => ⟨(cell_same (other b (noI b o v e))).trans (m.iw b o v e).1, (m.iw b o v e).2⟩
  have fr : Frame W2 (W2.putObj l rec') (fun b => b = l) := ⟨rfl, rfl, rfl, by simp, fun b _ hb => other b hb⟩
  refine ⟨⟨hx, fun b o v e => hgR b o v (hI b o v e), fun b o v e => ?_, fun b o v e => ?_, fun b hb => .inl (hold b hb), fun b hb => ?_, cx.st _ _ _ _ f1 (fun _ _ _ e => e) (fr.sub fun b _ e => by rw [e]; exact hll) cells (fun b hb => hm1 b (by omega)),
    (other db (Ne.symm hld)).trans f3, World.putObj_heap_same lt2, ?_⟩, by omega, fun b hb hn => ?_, fun b o v e => cells b o v (hgR b o v (hI b o v e))⟩
  · rcases m.newI b o v e with k | k | k
    · rcases hsh b o v k with k | k
      · exact .inl (.inl k)
      · exact .inr k
    · exact .inl (.inl k.2.1)
    · exact .inl (.inr ⟨k, by rw [sz]; exact m.I_lt e⟩)
  · rcases m.newI b o v e with k | k | k
    · exact hnew b o v k
    · exact .inr k.1
    · exact .inr (hm1 b (by omega))
  · rcases hb with hb | hb
    · have := hlt b hb; omega
    · exact hb.2
  · refine m.after (I' := g2.I) (fun _ _ _ e => e) cells (fun b h1 h2 => other b ?_) (fun b o v e _ _ => e) (fun b h1 h2 => ?_) (fun b o v e => .inl e) trivial (fun b hb => .inr hb)
    · rcases h2 with h2 | h2
      · exact h2.2.2.1
      · omega
    · rcases h2 with h2 | h2
      · exact .inl ⟨h2.1, .inl h2.2.1, h2.2.2⟩
      · exact .inl ⟨hm1 b (by omega), .inr ⟨h2, by rw [sz]; exact h1⟩, by omega, by omega⟩
  · rw [other b (fun e => hn (by rw [e]; exact hold l hl))]; exact f5 b hb hn
def toExit : Out → Go.Exit
  | .normal => .normal
  | .exit id => .exit id
  | .ret => .ret
def afterJump (r : Loop) : Out → Obj
  | .normal => .loop r
  | e => .loop { r with state := .done, pending := some (jumpOf e) }
theorem roundPost_of {P : Program} {l : Nat} {R : Ending → World → Prop} {e : Out} {a : Act} {w : World} {r : Loop} (hr : w.heap[l]? = some (.loop { r with state := .busy })) (hr0 : r.state = .ready ∧ r.pending = none)
    (h : R (.returned (.bool (match e with | .normal => true | _ => false))) (w.putObj l (afterJump r e))) : roundPost P l R (toExit e) a w := by
  obtain ⟨st, pe, fn, tm, pa, asg, bd, df⟩ := r
  obtain ⟨e1, e2⟩ := hr0
  dsimp only at e1 e2
  subst e1; subst e2
  cases e with
  | normal => exact ⟨_, _, run_endRound none hr, h⟩
  | exit id => exact ⟨_, _, run_endRound (some (.exit id)) hr, h⟩
  | ret => exact ⟨_, _, run_endRound (some .ret) hr, h⟩
theorem range_sound {P : Program} {c : Cfg} (hok : CfgOk P c) {cx : Cx} {f : Operand} {ps : Array Tmp} {asg body : Code} {n : Nat} (hps : ∀ t ∈ ps.toList, t < cx.n)
    (ihA : ∀ (l : Nat) (cx1 : Cx), cx1.n = cx.n → ∀ (n : Nat) (s : St) (K : Out → St → Prop) (g : Gh) (a : Act) (w : World) (Q : Go.Exit → Act → World → Prop), ex P c asg s K → Rel cx1 g s a w → s.y = .off → Nm s →
      (∀ e s' g' a' w', K e s' → Keep (dsts c.hint asg) s s' → Ext g g' → Rel cx1 g' s' a' w' → Q (toExit e) a' w') → asg.wpIn (FW (some l)) n P Q a w)
    (ihB : ∀ (l : Nat) (cx1 : Cx), cx1.n = cx.n → ∀ (n : Nat) (s : St) (K : Out → St → Prop) (g : Gh) (a : Act) (w : World) (Q : Go.Exit → Act → World → Prop), ex P c body s K → Rel cx1 g s a w → s.y = .off → Nm s →
      (∀ e s' g' a' w', K e s' → Keep (dsts c.hint body) s s' → Ext g g' → Rel cx1 g' s' a' w' → Q (toExit e) a' w') → body.wpIn (FW (some l)) n P Q a w)
    {s : St} {g : Gh} {a : Act} {w : World} {d : Dat} {K : Out → St → Prop} {Q : Go.Exit → Act → World → Prop} (hs : s.y = .off) (hd : getT P s 0 f = some d) (h : Rel cx g s a w) (hn : Nm s)
    (hk : RoundS c.It (ps.toList ++ (dsts c.hint asg ++ dsts c.hint body)) ps.toList d (fun s K => ex P c asg s K) (fun s K => ex P c body s K) K s)
    (hq : ∀ e s' cx' g' a' w', K e s' → Keep (ps.toList ++ (dsts c.hint asg ++ dsts c.hint body)) s s' → CxT cx cx' .off false → Ext g g' → Rel cx' g' s' a' w' → Q (toExit e) a' w') :
    (Code.rangeFunc f ps asg body).wpIn (FW none) n P Q a w := by
  obtain ⟨Wd, hWd⟩ : ∃ W, W = ps.toList ++ (dsts c.hint asg ++ dsts c.hint body) := ⟨_, rfl⟩
  rw [← hWd] at hk hq
  obtain ⟨xs, ι, i0, m, pos, hIt, hlen, hp0, hh, hdH, hdR, hall⟩ := hk.out
  have fit : ∀ i, Fit Wd s (m i) := fun i => ⟨(hall i).1.1, (hall i).1.2.1, (hall i).1.2.2.1⟩
  have env0 : ∀ i t d, (s.with Wd (m i)).env t = some d → s.env t = some d := fun i t d ht => by
    have e0 := (hall i).1.2.2.2
    have : (s.with Wd (m i)).env t = Hide Wd s.env t := by show Over (m i).env _ t = _; rw [e0]; rfl
    rw [this] at ht
    rcases Hide_cases Wd s.env t with ⟨_, k⟩ | ⟨_, k⟩
    · rw [k] at ht; cases ht
    · rw [k] at ht; exact ht
  obtain ⟨fid, first, cap, rfl, hpure, hY⟩ := (hok.It _ _ hIt).out
  obtain ⟨vf, vc, ef, hvf, hvc, rf, rc⟩ := (h.get hd).clo_val
  rw [Bool.and_eq_true] at hpure
  refine wpIn_rangeFunc fun fn _ => ?_
  obtain ⟨r0, hr0⟩ : ∃ r : Loop, r = { state := .ready, pending := none, fn, tmps := a.tmps, params := ps, assign := asg, body, defers := w.heap.size } := ⟨_, rfl⟩
  have r0s : r0.state = .ready ∧ r0.pending = none := by rw [hr0]; exact ⟨rfl, rfl⟩
  obtain ⟨w1, hw1⟩ : ∃ w1, w1 = (w.alloc (.deferred (some []))).alloc (.loop r0) := ⟨_, rfl⟩
  have hsz1 : w1.heap.size = w.heap.size + 1 + 1 := by rw [hw1]; simp
  have hm1 : Mem cx g s w1 := by rw [hw1]; exact (h.mem.push _).push _
  have hdef : w1.heap[w.heap.size]? = some (.deferred (some [])) := by
    rw [hw1]
    show (pushB (pushB w _) _).heap[_]? = _
    rw [heap_push_old _ _ _ (by simp [pushB]), heap_push_new]
  have hrec : w1.heap[w.heap.size + 1]? = some (.loop r0) := by
    rw [hw1]
    have := heap_push_new (pushB w (.deferred (some []))) (.loop r0)
    have e : (pushB w (.deferred (some []))).heap.size = w.heap.size + 1 := by simp [pushB]
    rw [e] at this; exact this
  have hnewm : ∀ b, w.heap.size ≤ b → cx.mine b := h.mem.new
  have hm1' : ∀ b, w1.heap.size ≤ b → cx.mine b := fun b hb => hnewm b (by omega)
  obtain ⟨⟨fnc, hfn, hbody, hname⟩, hgo⟩ := hY (w.heap.size + 1)
  have hinv : (invoke (Target.fn (.func fid) vc) (vf ++ #[.func (.yield (w.heap.size + 1)) #[] #[]])).run P w1 = .ok (.enter fid (vf ++ #[.func (.yield (w.heap.size + 1)) #[] #[]] ++ vc)) w1 := by
    have hb' : fnc.body ≠ none := by intro e; rw [e] at hbody; cases hbody
    have hn' : fnc.name ≠ "runtime.NumGoroutine" := by intro e; rw [e] at hname; simp at hname
    simp [invoke, callFunc, hfn, hn', hb']
  have hres : (resolve a.eval (rangeCall f (w.heap.size + 1)) 0).run P w1 = .ok { target := .fn (.func fid) vc, args := vf ++ #[.func (.yield (w.heap.size + 1)) #[] #[]] } w1 := by
    simp [resolve, rangeCall, ef, Deferred.ofValue]
    rfl
  refine ⟨w.heap.size + 1, [markOf w.heap.size], w1, _, w1, fid, _, w1, ?_, hres, fun _ _ => trivial, hinv, fun e => by simp [FW] at e, FW_calls.2 ?_⟩
  · rw [hw1, hr0]
    exact run_enterLoop_outer fn a.tmps ps asg body
  obtain ⟨db, hdb⟩ : ∃ b, b = w.heap.size := ⟨_, rfl⟩
  obtain ⟨l, hl⟩ : ∃ b, b = w.heap.size + 1 := ⟨_, rfl⟩
  rw [← hdb] at hdef
  rw [← hl] at hrec
  rw [← hl] at hgo
  rw [← hl, ← hdb]
  have ll : l < w1.heap.size := by omega
  have ld : db < w1.heap.size := by omega
  have lne : l ≠ db := by omega
  have mll : cx.mine l := hnewm l (by omega)
  have nold : ∀ b o v, g.I b o = some v → b < w.heap.size := fun b o v e => h.mem.I_lt e
  let J : YS → (Nat → Prop) → (Nat → Nat → Option Value) → World → Prop := fun y N Ih W => match y with
    | .off => False
    | .run k => ∃ i g', pos i = k ∧ HostJ cx g w1 l db N Ih W g' (s.with Wd (m i)) (.loop r0)
    | .stop => ∃ e s' g', e ≠ .normal ∧ K e (s'.back (Hide Wd s.env)) ∧ Keep Wd s (s'.back (Hide Wd s.env)) ∧ HostJ cx g w1 l db N Ih W g' s' (afterJump r0 e)
  have hrely : ∀ y N I w w', J y N I w → Frame w w' (fun b => ¬ N b) → (∀ b o v, I b o = some v → w'.cell? ⟨b, o, none⟩ = some v) → J y N I w' := by
    intro y N I W W' hJ fr hc
    cases y with
    | off => exact hJ.elim
    | run k => obtain ⟨i, g', h1, h2⟩ := hJ; exact ⟨i, g', h1, h2.rely hm1' ll ld fr hc⟩
    | stop => obtain ⟨e, s', g', h1, h2, h3, h4⟩ := hJ; exact ⟨e, s', g', h1, h2, h3, h4.rely hm1' ll ld fr hc⟩
  have hround : ∀ k N Ih I W (vs : Array Value) ds, J (.run k) N Ih W → SubI Ih I → nth xs k = some ds → vs.size = ds.length → (∀ (i : Nat) v d, vs[i]? = some v → nth ds i = some d → RepI I v d) →
      Cells I W → (∀ b o v, I b o = some v → g.I b o = some v ∨ ¬ N b) → (∀ b, W.heap.size ≤ b → ¬ N b) →
      ∃ fn tmps assign body, (Instr.yield l vs).run P W = .ok (.round l fn tmps assign body) W ∧ ∀ n, RoundIn Fence.wide n P l fn tmps assign body W (RoundDone J k N I W) := by
    intro k N Ih I W vs ds hJ hsI hds hsz hrep hcells hI0 hnN
    obtain ⟨i, g', hpos, hJ⟩ := hJ
    have hx := mem_of_nth' hds
    have hvs : vs.size = ps.size := by rw [hsz, hlen ds hx]; simp
    refine ⟨r0.fn, (r0.params.zip vs).foldl (fun tmps (t, a) => tmps.setIfInBounds t a) r0.tmps, r0.assign, r0.body, run_yield hJ.rc (by rw [hr0]; exact hvs), fun n' => ?_⟩
    have e0 : r0.assign = asg ∧ r0.body = body ∧ r0.tmps = a.tmps ∧ r0.params = ps := by rw [hr0]; exact ⟨rfl, rfl, rfl, rfl⟩
    rw [e0.1, e0.2.1, e0.2.2.1, e0.2.2.2]
    obtain ⟨gR, hgR⟩ : ∃ gR : Gh, gR = { g' with I := fun b o => match g'.I b o with | some v => some v | none => I b o } := ⟨_, rfl⟩
    have sub1 : SubI g'.I gR.I := fun b o v e => by rw [hgR]; dsimp only; rw [e]
    have sub2 : SubI I gR.I := fun b o v e => by
      rw [hgR]; dsimp only
      cases hx : g'.I b o with
      | none => exact e
      | some u =>
        have h1 := (hJ.mem.iw b o u hx).1
        rw [(hcells b o v e).1] at h1
        exact h1.symm
    have back : ∀ b o v, gR.I b o = some v → g'.I b o = some v ∨ I b o = some v := fun b o v e => by
      rw [hgR] at e; dsimp only at e
      cases hx : g'.I b o with
      | none => rw [hx] at e; exact .inr e
      | some u => rw [hx] at e; exact .inl e
    have cellsR : Cells gR.I W := fun b o v e => by
      rcases back b o v e with k | k
      · exact hJ.mem.iw b o v k
      · exact hcells b o v k
    have q1 : l < W.heap.size := Nat.lt_of_lt_of_le ll hJ.big
    have q2 : db < W.heap.size := Nat.lt_of_lt_of_le ld hJ.big
    have q3 : N l ∧ N db := ⟨hJ.old l ll, hJ.old db ld⟩
    have q4 : ∀ b, W.heap.size ≤ b → cx.mine b := fun b hb => hm1' b (Nat.le_trans hJ.big hb)
    have extR : Ext g gR := hJ.ext.trans (by rw [hgR]; exact ext_I (by rw [hgR] at sub1; exact sub1))
    have memR : Mem (cxR cx l db N W gR.I (.loop r0) q1 q2 q3 q4) gR (s.with Wd (m i)) W := by
      have := hJ.mem.after (cx' := cxR cx l db N W gR.I (.loop r0) q1 q2 q3 q4) (I' := gR.I) sub1 cellsR (fun _ _ _ => rfl) (fun b o v e h1 h2 => by
        rcases back b o v e with k | k
        · exact k
        · rcases hI0 b o v k with k2 | k2
          · exact hJ.ext.I b o v k2
          · rcases h1 with h1 | h1
            · exact absurd h1.2.1 k2
            · omega) (fun b _ h2 => h2) (fun b o v e => .inl e) ⟨cx.st _ _ _ _ hJ.fr sub1 (Frame.refl W _) cellsR q4, hJ.rc, hJ.def', Nat.le_refl _, fun _ _ _ => rfl⟩ (fun b hb => .inr hb)
      rw [hgR] at this ⊢; exact this
    have relR : Rel (cxR cx l db N W gR.I (.loop r0) q1 q2 q3 q4) gR ((s.with Wd (m i)).params ps.toList ds) { tmps := (ps.zip vs).foldl (fun tmps (t, a) => tmps.setIfInBounds t a) a.tmps, defers := [] } W := by
      have e1 : (ps.zip vs).foldl (fun tmps (t, a) => tmps.setIfInBounds t a) a.tmps = (ps.toList.zip vs.toList).foldl (fun tmps x => tmps.setIfInBounds x.1 x.2) a.tmps := by
        rw [← Array.foldl_toList, Array.toList_zip]
      refine ⟨fun t d ht => ?_, ?_, rfl, memR.names rfl rfl⟩
      · rw [e1]
        refine params_env ps.toList ds _ a.tmps vs.toList (by simpa using hsz) (fun t ht => by rw [h.size]; exact hps t ht) (fun i v d hv hd => .pure ((hrep i v d (by rw [nth_eq] at *; simpa using hv) hd).mono sub2)) (fun t d ht => ?_) t d ht
        exact (h.env t d (env0 i t d ht)).mono extR
      · rw [e1]
        have : ∀ (l : List (Nat × Value)) (t : Array Value), (l.foldl (fun tmps x => tmps.setIfInBounds x.1 x.2) t).size = t.size := by
          intro l
          induction l with
          | nil => intro t; rfl
          | cons x l ih => intro t; rw [List.foldl_cons, ih]; simp
        rw [this]; exact h.size
    refine roundIn_of_wpIn (F := Fence.wide) trivial ?_
    have hrun := (hall i).2.1 ds (by rw [hpos]; exact hds)
    have kp0 : Keep Wd s (s.with Wd (m i)) := with_keep (fit i)
    have nm0 : Nm ((s.with Wd (m i)).params ps.toList ds) := kp0.nm hn
    have sP : ∀ t ∈ ps.toList, t ∈ Wd := fun t ht => by rw [hWd]; simp [ht]
    have sA : ∀ t ∈ dsts c.hint asg, t ∈ Wd := fun t ht => by rw [hWd]; simp [ht]
    have sB : ∀ t ∈ dsts c.hint body, t ∈ Wd := fun t ht => by rw [hWd]; simp [ht]
    refine ihA l (cxR cx l db N W gR.I (.loop r0) q1 q2 q3 q4) rfl n' _ _ gR _ W _ hrun relR hs nm0 fun e s1 g1 a1 w2 k1 k2 k3 k4 => ?_
    cases e with
    | exit id => exact k1.elim
    | ret => exact k1.elim
    | normal =>
      have kp1 : Keep Wd (s.with Wd (m i)) s1 := (Keep.params _ _ _).trans k2 sP sA
      have fr1 := k4.mem.frame
      obtain ⟨f1, f2, f3, f4, f5⟩ := fr1
      refine ⟨_, run_beginRound f2 r0s.1, ?_⟩
      have lt2 : l < w2.heap.size := by omega
      have other : ∀ b, b ≠ l → (w2.putObj l (.loop { r0 with state := .busy })).heap[b]? = w2.heap[b]? := fun b hb => World.putObj_heap_other hb
      have noI : ∀ b o v, g1.I b o = some v → b ≠ l := fun b o v e hb => by
        subst hb
        obtain ⟨_, _, _, h⟩ := cell_obj (k4.mem.iw b o v e).1 f2
        cases h
      have cells1 : Cells g1.I (w2.putObj l (.loop { r0 with state := .busy })) := fun b o v e => ⟨(cell_same (other b (noI b o v e))).trans (k4.mem.iw b o v e).1, (k4.mem.iw b o v e).2⟩
      have memB : Mem (cxR cx l db N W gR.I (.loop { r0 with state := .busy }) q1 q2 q3 q4) g1 s1 (w2.putObj l (.loop { r0 with state := .busy })) := by
        refine k4.mem.after (I' := g1.I) (fun _ _ _ e => e) cells1 (fun b h1 h2 => other b ?_) (fun b o v e _ _ => e) (fun b _ h2 => h2) (fun b o v e => k4.mem.newI b o v e)
          ⟨cx.st _ _ _ _ f1 (fun _ _ _ e => e) ⟨rfl, rfl, rfl, by simp, fun b _ hb => other b (fun e => hb (by rw [e]; exact mll))⟩ cells1 (fun b hb => q4 b (by omega)), World.putObj_heap_same lt2, (other db (Ne.symm lne)).trans f3, by simpa using f4, fun b hb hN => ?_⟩ (fun b hb => .inr (by simp at hb; omega))
        · rcases h2 with h2 | h2
          · exact h2.2.2.1
          · omega
        · rw [other b (fun e => hN (by rw [e]; exact q3.1))]; exact f5 b hb hN
      have relB : Rel (cxR cx l db N W gR.I (.loop { r0 with state := .busy }) q1 q2 q3 q4) g1 s1 a1 (w2.putObj l (.loop { r0 with state := .busy })) := ⟨k4.env, k4.size, k4.defers, memB⟩
      refine ihB l (cxR cx l db N W gR.I (.loop { r0 with state := .busy }) q1 q2 q3 q4) rfl n' _ _ g1 _ _ _ k1 relB (k2.y hs) (k2.nm nm0) fun e s2 g2 a2 w3 j1 j2 j3 j4 => ?_
      have kp2 : Keep Wd (s.with Wd (m i)) s2 := kp1.trans j2 (fun _ h => h) sB
      have hfin : ∀ (g3 : Gh) (s3 : St) (rec' : Obj), Ext g g3 → SubI gR.I g3.I → Mem (cxR cx l db N W gR.I (.loop { r0 with state := .busy }) q1 q2 q3 q4) g3 s3 w3 →
          HostJ cx g w1 l db (fun b => N b ∨ (W.heap.size ≤ b ∧ b < (w3.putObj l rec').heap.size)) I (w3.putObj l rec') g3 s3 rec' ∧ W.heap.size ≤ (w3.putObj l rec').heap.size ∧
            (∀ b, b < W.heap.size → ¬ N b → (w3.putObj l rec').heap[b]? = W.heap[b]?) ∧ Cells I (w3.putObj l rec') := fun g3 s3 rec' x1 x2 x3 =>
        host_after hm1' hJ.old hJ.lt hJ.big ll ld lne mll x1 sub2 x2 (fun b o v e => by
            rcases back b o v e with k | k
            · exact (hJ.shown b o v k).imp id (hsI b o v)
            · exact .inr k) (fun b o v e => by
            rcases back b o v e with k | k
            · exact hJ.newI b o v k
            · rcases hI0 b o v k with k2 | k2
              · exact h.mem.newI b o v k2
              · exact .inr (hm1' b (by rcases Nat.lt_or_ge b w1.heap.size with z | z; exact absurd (hJ.old b z) k2; exact z))) x3 (fun _ _ _ e => by cases e)
      have frB := j4.mem.frame
      refine roundPost_of (r := r0) frB.2.1 r0s ?_
      cases e with
      | normal =>
        obtain ⟨j, hj1, hj2⟩ := j1
        obtain ⟨g3, x1, x2, x3⟩ := loop_round h (extR.trans (k3.trans j3)) j4 hn (fit i) (fit j) kp2 hdH hdR hj2
        obtain ⟨z1, z2, z3, z4⟩ := hfin g3 (s.with Wd (m j)) (afterJump r0 .normal) x1 (fun b o v e => by rw [x3]; exact j3.I b o v (k3.I b o v e)) x2.mem
        exact ⟨z2, z3, z4, .run (k + 1), .inl ⟨rfl, rfl⟩, j, g3, by rw [hj1, hpos], z1⟩
      | exit id =>
        obtain ⟨z1, z2, z3, z4⟩ := hfin g2 s2 (afterJump r0 (.exit id)) (extR.trans (k3.trans j3)) (fun b o v e => j3.I b o v (k3.I b o v e)) j4.mem
        refine ⟨z2, z3, z4, .stop, .inr ⟨rfl, rfl⟩, .exit id, s2, g2, (fun e => by cases e), j1, ?_, z1⟩
        have kb := kp0.trans kp2 (fun _ h => h) (fun _ h => h)
        exact ⟨fun t ht => by show Hide Wd s.env t = _; rcases Hide_cases Wd s.env t with ⟨x, _⟩ | ⟨_, x⟩; exact absurd x ht; exact x, kb.H, kb.R, kb.liveH, kb.liveR, kb.nm, kb.y⟩
      | ret =>
        obtain ⟨z1, z2, z3, z4⟩ := hfin g2 s2 (afterJump r0 .ret) (extR.trans (k3.trans j3)) (fun b o v e => j3.I b o v (k3.I b o v e)) j4.mem
        refine ⟨z2, z3, z4, .stop, .inr ⟨rfl, rfl⟩, .ret, s2, g2, (fun e => by cases e), j1, ?_, z1⟩
        have kb := kp0.trans kp2 (fun _ h => h) (fun _ h => h)
        exact ⟨fun t ht => by show Hide Wd s.env t = _; rcases Hide_cases Wd s.env t with ⟨x, _⟩ | ⟨_, x⟩; exact absurd x ht; exact x, kb.H, kb.R, kb.liveH, kb.liveR, kb.nm, kb.y⟩
  let host : Host P l xs := { J := J, I0 := g.I, on := fun y N I w hJ e => by subst e; exact hJ, rely := hrely, round := hround }
  have mine1 : ∀ b, b < w.heap.size → cx.mine b → (cxH cx l db (fun b => b < w1.heap.size) w1 g.I).mine b := fun b h1 h2 => .inl ⟨h2, by omega, by omega, by omega⟩
  have big1 : Mem (cxH cx l db (fun b => b < w1.heap.size) w1 g.I) g s w1 :=
    h.mem.after (I' := g.I) (fun _ _ _ e => e) hm1.iw (fun b hb _ => by
      rw [hw1]
      show (pushB (pushB w _) _).heap[b]? = _
      rw [heap_push_old _ _ _ (by simp [pushB]; omega), heap_push_old _ _ _ hb]) (fun b o v e _ _ => e) mine1 (fun b o v e => .inl e) trivial (fun b hb => .inr hb)
  have hJ0 : J (.run 0) (fun b => b < w1.heap.size) g.I w1 := by
    refine ⟨i0, g, hp0, Ext.refl g, fun _ _ _ e => e, fun b o v e => .inr e, hm1.newI, fun b hb => hb, fun b hb => hb, hm1.frame, hdef, hrec, ?_⟩
    have e1 : Rel (cxH cx l db (fun b => b < w1.heap.size) w1 g.I) g s { tmps := a.tmps, defers := [] } w1 := ⟨h.env, h.size, rfl, big1⟩
    exact (loop_enter e1 hn (fit i0) hh).mem
  refine Calls.mono (hgo host (fun b => b < w1.heap.size) g.I w1 _ (by simp [hvf, hvc]; omega) (fun i v d hv hd' => ?_) hm1.iw (fun b o v e => .inl e) (fun b hb => by omega) ⟨g.I, hJ0, fun _ _ _ e => e⟩) fun e w3 he => ?_
  · have pf : ∀ (i : Nat) v d, vf[i]? = some v → nth first i = some d → RepI g.I v d := fun i v d h1 h2 => by
      obtain ⟨p1, p2, p3⟩ := pureGo_cell' _ hpure.1 i d h2; exact pure_flat p1 p2 p3 (rf i v d h1 h2)
    have pc : ∀ (i : Nat) v d, vc[i]? = some v → nth cap i = some d → RepI g.I v d := fun i v d h1 h2 => by
      obtain ⟨p1, p2, p3⟩ := pureGo_cell' _ hpure.2 i d h2; exact pure_flat p1 p2 p3 (rc i v d h1 h2)
    rw [nth_eq] at hd'
    by_cases h1 : i < first.length
    · rw [List.append_assoc, List.getElem?_append_left h1] at hd'
      rw [Array.append_assoc, Array.getElem?_append_left (by omega)] at hv
      exact pf i v d hv (by rw [nth_eq]; exact hd')
    · by_cases h2 : i < first.length + 1
      · have e1 : i = first.length := by omega
        subst e1
        rw [List.getElem?_append_left (by simp), List.getElem?_append_right (by omega)] at hd'
        rw [Array.getElem?_append_left (by simp; omega), Array.getElem?_append_right (by omega)] at hv
        simp at hd'
        simp [hvf] at hv
        subst hd'; subst hv
        exact .yld _
      · rw [List.getElem?_append_right (by simp; omega)] at hd'
        rw [Array.getElem?_append_right (by simp; omega)] at hv
        refine pc (i - (first ++ [Dat.yld l]).length) v d ?_ (by rw [nth_eq]; exact hd')
        have : (vf ++ #[Value.func (.yield l) #[] #[]]).size = (first ++ [Dat.yld l]).length := by simp [hvf]
        rw [this] at hv
        exact hv
  cases e with
  | panicked ch => exact he.elim
  | outgrown => exact he.elim
  | returned v =>
    obtain ⟨r, y, N', I', x1, x2, x3, x4, x5, x6, x7, ⟨Ih, x8, x9⟩, x10, x11⟩ := he
    have lend : ∀ {g' : Gh} {s' : St} {rec : Obj} {o : Obj} (_ : HostJ cx g w1 l db N' Ih w3 g' s' rec) (_ : ∀ c e fz, rec ≠ .cells c e fz),
        ∃ cx', CxT cx cx' .off false ∧ cx'.D = markOf db :: cx.D ∧ cx'.n = cx.n ∧ Mem cx' g' s' (w3.putObj l o) := fun {g' s' rec o} hJ hr => by
      have lt3 : l < w3.heap.size := Nat.lt_of_lt_of_le ll hJ.big
      have other : ∀ b, b ≠ l → (w3.putObj l o).heap[b]? = w3.heap[b]? := fun b hb => World.putObj_heap_other hb
      have noI : ∀ b o v, g'.I b o = some v → b ≠ l ∧ b ≠ db := fun b o v e => by
        refine ⟨fun hb => ?_, fun hb => ?_⟩
        · subst hb
          obtain ⟨c, t, fz, h⟩ := cell_obj (hJ.mem.iw b o v e).1 hJ.rc
          exact hr _ _ _ h
        · subst hb
          obtain ⟨c, t, fz, h⟩ := cell_obj (hJ.mem.iw b o v e).1 hJ.def'
          cases h
      have cells : Cells g'.I (w3.putObj l o) := fun b o v e => ⟨(cell_same (other b (noI b o v e).1)).trans (hJ.mem.iw b o v e).1, (hJ.mem.iw b o v e).2⟩
      have z1 : db < w1.heap.size := ld
      refine ⟨cxE cx db w1 z1 hm1', ⟨rfl, fun _ => rfl, fun _ b k => k.1, fun _ I w k => k.1, fun _ B hB ⟨bs, k1, k2, k3, k4⟩ => ?_, fun _ k => by cases k⟩, rfl, rfl, ?_⟩
      · refine ⟨db :: bs, by show markOf db :: cx.D = _; rw [k1]; rfl, List.nodup_cons.2 ⟨fun hm => ?_, k2⟩, fun I w k b hb => ?_, fun b hb => ?_⟩
        · have := lt_of_blk (k3 g.I w h.mem.frame db hm).2
          omega
        · rcases List.mem_cons.1 hb with hb | hb
          · subst hb; exact ⟨by rw [hdb]; exact hB _ _ h.mem.frame, k.2.1⟩
          · exact k3 I w k.1 b hb
        · rcases List.mem_cons.1 hb with hb | hb
          · subst hb; exact fun e => e.2 rfl
          · exact fun e => k4 b hb e.1
      · refine hJ.mem.after (I' := g'.I) (fun _ _ _ e => e) cells (fun b h1 h2 => other b ?_) (fun b o v e _ _ => e) (fun b h1 h2 => ?_) (fun b o v e => ?_)
          ⟨cx.st _ _ _ _ hJ.fr (fun _ _ _ e => e) ⟨rfl, rfl, rfl, by simp, fun b _ hb => other b (fun e => hb (by rw [e]; exact mll))⟩ cells (fun b hb => hm1' b (Nat.le_trans hJ.big hb)), (other db (Ne.symm lne)).trans hJ.def', by simpa using hJ.big⟩ (fun b hb => ?_)
        · rcases h2 with h2 | h2
          · exact h2.2.2.1
          · omega
        · rcases h2 with h2 | h2
          · exact ⟨h2.1, h2.2.2.2⟩
          · omega
        · exact (hJ.newI b o v e).imp id fun k => ⟨k, (noI b o v e).2⟩
        · have hb' : w3.heap.size ≤ b := by simpa using hb
          have := hJ.big
          exact ⟨hm1' b (by omega), by omega⟩
    rcases x1 with rfl | rfl
    · obtain ⟨i, g', p1, hJ⟩ := x8
      obtain ⟨cx', c1, c2, c3, c4⟩ := lend (o := .loop { r0 with state := .exhausted }) hJ (fun _ _ _ e => by cases e)
      refine ⟨none, w3.putObj l (.loop { r0 with state := .exhausted }), ?_, ?_⟩
      · exact (run_endLoop (P := P) hJ.rc (by rw [r0s.1]; intro e; cases e)).trans (by rw [r0s.2])
      · exact hq .normal _ cx' g' _ _ ((hall i).2.2 p1) (with_keep (fit i)) c1 hJ.ext ⟨fun t d ht => (h.env t d (env0 i t d ht)).mono hJ.ext, by rw [c3]; exact h.size, by rw [c2, ← h.defers]; rfl, c4⟩
    · obtain ⟨e, s', g', p1, p2, p3, hJ⟩ := x8
      have er : afterJump r0 e = .loop { r0 with state := .done, pending := some (jumpOf e) } := by cases e <;> first | rfl | exact absurd rfl p1
      have hJ' := hJ
      rw [er] at hJ
      obtain ⟨cx', c1, c2, c3, c4⟩ := lend (o := .loop { r0 with state := .exhausted, pending := some (jumpOf e) }) hJ (fun _ _ _ e => by cases e)
      have hrel : Rel cx' g' (s'.back (Hide Wd s.env)) { a with defers := [markOf db] ++ a.defers } (w3.putObj l (.loop { r0 with state := .exhausted, pending := some (jumpOf e) })) := by
        refine ⟨fun t d ht => (h.env t d ?_).mono hJ.ext, by rw [c3]; exact h.size, by rw [c2, ← h.defers]; rfl, c4.names rfl rfl⟩
        rcases Hide_cases Wd s.env t with ⟨_, k⟩ | ⟨_, k⟩
        · have : Hide Wd s.env t = some d := ht
          rw [k] at this; cases this
        · exact k ▸ ht
      have hQ := hq e _ cx' g' _ _ p2 p3 c1 hJ.ext hrel
      refine ⟨some (jumpOf e), w3.putObj l (.loop { r0 with state := .exhausted, pending := some (jumpOf e) }), ?_, ?_⟩
      · exact run_endLoop (P := P) hJ.rc (by intro e; cases e)
      · cases e with
        | normal => exact absurd rfl p1
        | exit id => exact wpIn_exit hQ
        | ret => exact wpIn_ret hQ
end Abs
namespace Abs
open Go
def codeB (P : Program) (n : Nat) : Code → Bool
  | .region _ ops _ => opsB P n ops
  | .seq a b => codeB P n a && codeB P n b
  | .cond _ a b => codeB P n a && codeB P n b
  | .block _ b => codeB P n b
  | .loop b => codeB P n b
  | .rangeFunc _ ps a b => ps.toList.all (fun t => Nat.blt t n) && (codeB P n a && (codeB P n b && (noRF a && noRF b)))
  | _ => true
theorem least {p : Nat → Prop} (h : ∃ j, p j) : ∃ j, p j ∧ ∀ i, i < j → ¬ p i := by
  obtain ⟨j, hj⟩ := h
  induction j using Nat.strongRecOn with
  | _ j ih =>
    by_cases hx : ∃ i, i < j ∧ p i
    · obtain ⟨i, hi, hp⟩ := hx
      exact ih i hi hp
    · exact ⟨j, hj, fun i hi hp => hx ⟨i, hi, hp⟩⟩
section
variable {P : Program} {c : Cfg}
theorem Rel.at' {cx : Cx} {g : Gh} {s : St} {a : Act} {w : World} (h : Rel cx g s a w) (y : YS) : Rel cx g (s.at y) a w := ⟨h.env, h.size, h.defers, h.mem.names rfl rfl⟩
theorem exLine_keep {all : List Oper} : ∀ {l : List Oper} {s : St} {K : St → Prop}, exLine P c all l s K → exLine P c all l s fun s' => Keep (l.flatMap fun o => tmpOf o.dst) s s' ∧ K s'
  | [], s, K, hk => ⟨Keep.refl _ _, hk⟩
  | o :: l, s, K, hk => by
    rw [exLine_cons] at hk ⊢
    have up : ∀ {a b : St}, Keep (tmpOf o.dst) s a → Keep (l.flatMap fun o => tmpOf o.dst) a b → Keep ((o :: l).flatMap fun o => tmpOf o.dst) s b := fun ha hb =>
      ha.trans hb (fun t ht => by simp [ht]) (fun t ht => by
        rw [List.flatMap_cons]; exact List.mem_append_right _ ht)
    refine guardOf_mono hk (fun h1 => ?_) (fun h1 => exLine_mono (exLine_keep h1) fun s' h3 => ⟨up (Keep.forget s o.dst) h3.1, h3.2⟩)
    have nx : ∀ s1, Keep (tmpOf o.dst) s s1 → (norm o.dst (plan P o (getT P s)) s1 fun s' => exLine P c all l s' K) →
        norm o.dst (plan P o (getT P s)) s1 fun s' => exLine P c all l s' fun s' => Keep ((o :: l).flatMap fun o => tmpOf o.dst) s s' ∧ K s' := fun s1 k h2 => by
      rw [norm_eq] at h2 ⊢
      exact exLine_mono (exLine_keep h2) fun s' h3 => ⟨up k h3.1, h3.2⟩
    have pl : exPlan P c o.dst s (fun s1 => norm o.dst (plan P o (getT P s)) s1 fun s' => exLine P c all l s' K) (plan P o (getT P s)) →
        exPlan P c o.dst s (fun s1 => norm o.dst (plan P o (getT P s)) s1 fun s' => exLine P c all l s' fun s' => Keep ((o :: l).flatMap fun o => tmpOf o.dst) s s' ∧ K s') (plan P o (getT P s)) := fun h1 =>
      plan_mono h1 fun s1 k _ h2 => nx s1 k h2
    have py : ∀ (s1 : St) (k1 : LKeep s s1) (y0 : s.y ≠ .off) (d : Dat) (y : YS), Keep (tmpOf o.dst) s (s1.putY o.dst d y) := fun s1 k1 y0 d y => by
      have h0 := (Keep.of_laid k1 (tmpOf o.dst)).trans (Keep.put s1 o.dst d) (U := tmpOf o.dst) (fun _ h => h) (fun _ h => h)
      cases hd : o.dst with
      | none => rw [hd] at h0; exact ⟨h0.env, h0.H, h0.R, h0.liveH, h0.liveR, h0.nm, fun e => absurd e y0⟩
      | some t => rw [hd] at h0; exact ⟨h0.env, h0.H, h0.R, h0.liveH, h0.liveR, h0.nm, fun e => absurd e y0⟩
    revert h1 nx pl
    generalize plan P o (getT P s) = p
    generalize callOf o = b
    intro h1 nx pl
    cases b with
    | false => exact pl h1
    | true =>
      cases p with
      | yield ly args =>
        simp only [exY] at h1 ⊢
        split at h1
        · rename_i k hk1
          have y0 : s.y ≠ .off := by rw [hk1]; intro e; cases e
          refine leakAll_mono (keep_leakAll h1) fun s1 ds ⟨k1, h2⟩ => ?_
          exact ⟨h2.h, nx _ (py s1 k1 y0 _ _) h2.k.a, nx _ (py s1 k1 y0 _ _) h2.k.b⟩
        · exact h1.elim
      | ycall f args =>
        simp only [exY] at h1 ⊢
        split at h1
        · rename_i k hk1
          have y0 : s.y ≠ .off := by rw [hk1]; intro e; cases e
          refine leakAll_mono (keep_leakAll h1) fun s1 ds ⟨k1, h2⟩ => ?_
          obtain ⟨Q, q1, q2⟩ := h2.out
          exact ⟨Q, q1, allK_mono (fun r y hQ => nx _ (py s1 k1 y0 _ _) hQ) q2⟩
        · exact h1.elim
      | _ => exact pl h1
 where exLine_mono : ∀ {l : List Oper} {s : St} {K K' : St → Prop}, exLine P c all l s K → (∀ s, K s → K' s) → exLine P c all l s K'
  | [], s, K, K', hk, h => h _ hk
  | o :: l, s, K, K', hk, h => by
    rw [exLine_cons] at hk ⊢
    refine guardOf_mono hk (fun h1 => ?_) (fun h1 => exLine_mono h1 h)
    have nx : ∀ s1, (norm o.dst (plan P o (getT P s)) s1 fun s' => exLine P c all l s' K) → norm o.dst (plan P o (getT P s)) s1 fun s' => exLine P c all l s' K' := fun s1 h2 => by
      rw [norm_eq] at h2 ⊢
      exact exLine_mono h2 h
    have pl : exPlan P c o.dst s (fun s1 => norm o.dst (plan P o (getT P s)) s1 fun s' => exLine P c all l s' K) (plan P o (getT P s)) →
        exPlan P c o.dst s (fun s1 => norm o.dst (plan P o (getT P s)) s1 fun s' => exLine P c all l s' K') (plan P o (getT P s)) := fun h1 =>
      plan_mono h1 fun s1 _ _ h2 => nx s1 h2
    revert h1 nx pl
    generalize plan P o (getT P s) = p
    generalize callOf o = b
    intro h1 nx pl
    cases b with
    | false => exact pl h1
    | true =>
      cases p with
      | yield ly args =>
        simp only [exY] at h1 ⊢
        split at h1
        · refine leakAll_mono h1 fun s1 ds h2 => ?_
          exact ⟨h2.h, nx _ h2.k.a, nx _ h2.k.b⟩
        · exact h1.elim
      | ycall f args =>
        simp only [exY] at h1 ⊢
        split at h1
        · refine leakAll_mono h1 fun s1 ds h2 => ?_
          obtain ⟨Q, q1, q2⟩ := h2.out
          exact ⟨Q, q1, allK_mono (fun r y hQ => nx _ hQ) q2⟩
        · exact h1.elim
      | _ => exact pl h1
theorem adopt_y {V W : List Nat} : ∀ {ad : List Ad} {s : St} {K : St → Prop}, adopt V W ad s K → adopt V W ad s fun s' => s'.y = s.y ∧ K s'
  | [], s, K, hk => ⟨rfl, hk⟩
  | .tmp t k :: ad, s, K, hk => by
    rw [adopt_tmp] at hk ⊢
    split at hk
    · split at hk
      · exact adopt_y (K := K) hk
      · exact hk.elim
    · exact hk.elim
  | .cell l j k :: ad, s, K, hk => by
    rw [adopt_cell] at hk ⊢
    split at hk
    · split at hk
      · split at hk
        · exact adopt_y (K := K) hk
        · exact hk.elim
      · exact hk.elim
    · exact hk.elim
  | .lay t :: ad, s, K, hk => by
    rw [adopt_lay] at hk ⊢
    split at hk
    · split at hk
      · refine leak_mono (keep_leak hk) fun s1 d1 ⟨k1, h1⟩ => ?_
        have := adopt_y (K := K) h1
        rw [← k1.y]; exact this
      · exact hk.elim
    · exact hk.elim
  | .layCell l j :: ad, s, K, hk => by
    rw [adopt_layCell] at hk ⊢
    split at hk
    · split at hk
      · refine leakCell_mono (keep_leakCell hk) fun s1 d1 ⟨k1, h1⟩ => ?_
        split at h1
        · exact h1.elim
        · have := adopt_y (K := K) h1
          rw [← k1.y]; exact this
      · exact hk.elim
    · exact hk.elim
open Classical in
theorem ex_sound (hm : P.follows .mixedOrders = true) (hok : CfgOk P c) {M : Option (Mode P c)} :
    ∀ (code : Code) {ro : Option Nat} {n : Nat} {cx : Cx}, codeB P cx.n code = true → (noRF code = true ∨ ro = none) → ∀ (s : St) (K : Out → St → Prop) (g : Gh) (a : Act) (w : World) (Q : Go.Exit → Act → World → Prop),
      ex P c code s K → Rel cx g s a w → YOk M cx s.y → Nm s →
      (∀ e s' cx' g' a' w', K e s' → Keep (dsts c.hint code) s s' → CxT cx cx' s.y (noRF code) → YOk M cx' s'.y → Ext g g' → Rel cx' g' s' a' w' → Q (toExit e) a' w') → code.wpIn (FW ro) n P Q a w
  | .skip, ro, n, cx, _, _, s, K, g, a, w, Q, hk, h, hy, hn, hq => wpIn_skip (hq .normal s cx g a w hk (Keep.refl _ _) (.refl _ _ _) hy (Ext.refl g) h)
  | .label l, ro, n, cx, _, _, s, K, g, a, w, Q, hk, h, hy, hn, hq => wpIn_label (hq .normal s cx g a w hk (Keep.refl _ _) (.refl _ _ _) hy (Ext.refl g) h)
  | .region id ops d, ro, n, cx, hB, _, s, K, g, a, w, Q, hk, h, hy, hn, hq => by
    rw [ex_region] at hk
    obtain ⟨s0, g0, ⟨ey, hk⟩, hg0, h, kp⟩ := adopt_sound (U := dsts c.hint (.region id ops d)) (fun _ h => h) (fun _ h => h) (adopt_y hk) h
    refine region_sound (K := fun s' => Keep (dsts c.hint (.region id ops d)) s s' ∧ K .normal s') hm hB hok ?_ h (by rw [ey]; exact hy) fun s' cx' g' a' w' k1 k2 k3 k4 k5 => hq .normal s' cx' g' a' w' k1.2 k1.1 (CxT.of (by rw [← ey]; exact k2)) k3 (hg0.trans k4) k5
    have sub : ∀ t ∈ (ops.toList.flatMap fun o => tmpOf o.dst), t ∈ dsts c.hint (.region id ops d) := fun t ht => List.mem_append_right _ ht
    cases d with
    | true =>
      dsimp only at hk ⊢
      rw [exOps_eq] at hk
      refine exOps_mono hk fun rs s' k1 h1 => ⟨h1.h, (eqP_det h1.k).2 _ ⟨kp.trans k1 (fun _ h => h) sub, (eqP_det h1.k).1⟩⟩
    | false =>
      dsimp only at hk ⊢
      exact exLine_keep.exLine_mono (exLine_keep hk) fun s' h1 => ⟨kp.trans h1.1 (fun _ h => h) sub, h1.2⟩
  | .seq x y, ro, n, cx, hB, hr, s, K, g, a, w, Q, hk, h, hy, hn, hq => by
    unfold codeB at hB
    rw [Bool.and_eq_true] at hB
    have hr1 : noRF x = true ∨ ro = none := hr.imp (fun e => by unfold noRF at e; rw [Bool.and_eq_true] at e; exact e.1) id
    have hr2 : noRF y = true ∨ ro = none := hr.imp (fun e => by unfold noRF at e; rw [Bool.and_eq_true] at e; exact e.2) id
    rw [ex_seq] at hk
    refine wpIn_seq (ex_sound hm hok x hB.1 hr1 s _ g a w _ hk h hy hn fun e s' cx' g' a' w' h1 h2 h3 hy' h4 h5 => ?_)
    have up : Keep (dsts c.hint (.seq x y)) s s' := h2.sub (fun t ht => by simp [dsts, ht])
    have weak : ∀ {s'' : Bool}, noRF (.seq x y) = true → noRF x = true := fun e => by unfold noRF at e; rw [Bool.and_eq_true] at e; exact e.1
    cases e with
    | normal =>
      refine ex_sound hm hok y (by rw [h3.n]; exact hB.2) hr2 s' _ g' a' w' _ h1 h5 hy' (h2.nm hn) fun e s'' cx'' g'' a'' w'' k1 k2 k3 ky k4 k5 => hq e s'' cx'' g'' a'' w'' k1 ?_ ?_ ky (h4.trans k4) k5
      · exact h2.trans k2 (fun t ht => by simp [dsts, ht]) (fun t ht => by simp [dsts, ht])
      · exact h3.trans k3 h2.y
    | exit id => exact hq (.exit id) s' cx' g' a' w' h1 up (h3.weak (fun e => by unfold noRF at e; rw [Bool.and_eq_true] at e; exact e.1)) hy' h4 h5
    | ret => exact hq .ret s' cx' g' a' w' h1 up (h3.weak (fun e => by unfold noRF at e; rw [Bool.and_eq_true] at e; exact e.1)) hy' h4 h5
  | .cond x y z, ro, n, cx, hB, hr, s, K, g, a, w, Q, hk, h, hy, hn, hq => by
    unfold codeB at hB
    rw [Bool.and_eq_true] at hB
    have hr1 : noRF y = true ∨ ro = none := hr.imp (fun e => by unfold noRF at e; rw [Bool.and_eq_true] at e; exact e.1) id
    have hr2 : noRF z = true ∨ ro = none := hr.imp (fun e => by unfold noRF at e; rw [Bool.and_eq_true] at e; exact e.2) id
    rw [ex_cond] at hk
    split at hk
    · rename_i t ht
      have hb : a.eval x = .bool t := by
        have key : ∀ {v : Value}, Rep g v (.bool t) → v = .bool t := fun {v} hr => by
          cases hr with
          | pure r => cases r; rfl
        exact key (h.get ht)
      refine wpIn_cond_split hb (fun e => ?_) (fun e => ?_)
      · exact ex_sound hm hok y hB.1 hr1 s K g a w Q (hk.t e) h hy hn fun e s' cx' g' a' w' h1 h2 h3 hy' h4 h5 => hq e s' cx' g' a' w' h1 (h2.sub (fun t ht => by simp [dsts, ht])) (h3.weak (fun e => by unfold noRF at e; rw [Bool.and_eq_true] at e; exact e.1)) hy' h4 h5
      · exact ex_sound hm hok z hB.2 hr2 s K g a w Q (hk.f e) h hy hn fun e s' cx' g' a' w' h1 h2 h3 hy' h4 h5 => hq e s' cx' g' a' w' h1 (h2.sub (fun t ht => by simp [dsts, ht])) (h3.weak (fun e => by unfold noRF at e; rw [Bool.and_eq_true] at e; exact e.2)) hy' h4 h5
    · exact hk.elim
  | .block id b, ro, n, cx, hB, hr, s, K, g, a, w, Q, hk, h, hy, hn, hq => by
    rw [ex_block] at hk
    refine wpIn_block (ex_sound hm hok b hB hr s _ g a w _ hk h hy hn fun e s' cx' g' a' w' h1 h2 h3 hy' h4 h5 => ?_)
    cases e with
    | normal => exact hq .normal s' cx' g' a' w' h1 h2 h3 hy' h4 h5
    | ret => exact hq .ret s' cx' g' a' w' h1 h2 h3 hy' h4 h5
    | exit i =>
      show if i = id then Q .normal a' w' else Q (.exit i) a' w'
      dsimp only at h1
      split at h1
      · rename_i hi
        rw [if_pos (Nat.eq_of_beq_eq_true hi)]
        exact hq .normal s' cx' g' a' w' h1 h2 h3 hy' h4 h5
      · rename_i hi
        rw [if_neg (fun e => by subst e; simp at hi)]
        exact hq (.exit i) s' cx' g' a' w' h1 h2 h3 hy' h4 h5
  | .exit id, ro, n, cx, _, _, s, K, g, a, w, Q, hk, h, hy, hn, hq => wpIn_exit (hq (.exit id) s cx g a w hk (Keep.refl _ _) (.refl _ _ _) hy (Ext.refl g) h)
  | .ret, ro, n, cx, _, _, s, K, g, a, w, Q, hk, h, hy, hn, hq => wpIn_ret (hq .ret s cx g a w hk (Keep.refl _ _) (.refl _ _ _) hy (Ext.refl g) h)
  | .loop b, ro, n, cx, hB, hr, s, K, g, a, w, Q, hk, h, hy, hn, hq => by
    rw [ex_loop] at hk
    obtain ⟨ad, hk⟩ := hk.out
    have sub : ∀ t ∈ dsts c.hint b, t ∈ dsts c.hint (.loop b) := fun t ht => by simp [dsts, ht]
    obtain ⟨s1, g0, ⟨ey, hk⟩, hg0, h, kp⟩ := adopt_sound (U := dsts c.hint (.loop b)) (rowDsts_mono (by intro t ht; simp at ht; subst ht; simp [dsts])) sub (adopt_y hk) h
    rw [← ey] at hy
    have hq : ∀ e s' cx' g' a' w', K e s' → Keep (dsts c.hint (.loop b)) s s' → CxT cx cx' s1.y (noRF b) → YOk M cx' s'.y → Ext g g' → Rel cx' g' s' a' w' → Q (toExit e) a' w' := by rw [ey]; exact hq
    have hn := kp.nm hn
    obtain ⟨ι, i0, m, ys, μ, ⟨hy0, hh⟩, hdH, hdR, hall⟩ := hk.out
    have fit : ∀ i, Fit (dsts c.hint b) s1 (m i) := fun i => ⟨(hall i).1.1, (hall i).1.2.1, (hall i).1.2.2⟩
    let J : Act → World → Nat → Prop := fun a w j => ∃ i g' cx', μ i = j ∧ Ext g0 g' ∧ CxT cx cx' s1.y (noRF b) ∧ (s1.y = .off → ys i = .off) ∧ YOk M cx' (ys i) ∧ Rel cx' g' (s1.with (dsts c.hint b) (m i)) a w
    let ν : Act → World → Nat := fun a w => if hx : ∃ j, J a w j then (least hx).choose else 0
    have ν_spec : ∀ a w, (∃ j, J a w j) → J a w (ν a w) ∧ ∀ i, i < ν a w → ¬ J a w i := fun a w hx => by
      show J a w (if hx : ∃ j, J a w j then (least hx).choose else 0) ∧ ∀ i, i < (if hx : ∃ j, J a w j then (least hx).choose else 0) → ¬ J a w i
      rw [dif_pos hx]
      exact (least hx).choose_spec
    refine wpIn_loop (fun a w => ∃ j, J a w j) ν ⟨_, i0, g0, cx, rfl, Ext.refl g0, .refl _ _ _, fun e => hy0.trans e, by rw [hy0]; exact hy, loop_enter h hn (fit i0) hh⟩ fun a1 w1 h1 => ?_
    obtain ⟨⟨i, g1, cx1, x2, x3, xc, xo, xy, x4⟩, _⟩ := ν_spec a1 w1 h1
    have hf := fit i
    have knm : Nm ((s1.with (dsts c.hint b) (m i)).at (ys i)) := (with_keep hf).nm hn
    refine ex_sound hm hok b (by rw [xc.n]; exact hB) hr _ _ g1 a1 w1 _ (hall i).2 (x4.at' _) xy knm fun e s' cx' g' a' w' k1 k2 k3 ky k4 k5 => ?_
    have k2' : Keep (dsts c.hint b) (s1.with (dsts c.hint b) (m i)) s' := ⟨k2.env, k2.H, k2.R, k2.liveH, k2.liveR, k2.nm, fun e => k2.y (xo e)⟩
    have up : Keep (dsts c.hint (.loop b)) _ s' := kp.trans ((with_keep hf).trans k2' (fun _ h => h) (fun _ h => h)) (fun _ h => h) sub
    have tc : CxT cx cx' s1.y (noRF b) := (xc.trans k3 xo).weak (fun e => by rw [e]; rfl)
    cases e with
    | normal =>
      dsimp only at k1
      obtain ⟨j, hlt, hyj, hh'⟩ := k1
      obtain ⟨g2, y1, y2, _⟩ := loop_round h (x3.trans k4) k5 hn hf (fit j) k2' hdH hdR hh'
      have hJ : J a' w' (μ j) := ⟨j, g2, cx', rfl, y1, tc, fun e => by rw [← hyj]; exact k2.y (xo e), by rw [← hyj]; exact ky, y2⟩
      refine ⟨⟨_, hJ⟩, ?_⟩
      obtain ⟨_, hmin⟩ := ν_spec a' w' ⟨_, hJ⟩
      have : ¬ (μ j < ν a' w') := fun hx => hmin _ hx hJ
      omega
    | exit id => exact hq (.exit id) s' cx' g' a' w' k1 up tc ky (hg0.trans (x3.trans k4)) k5
    | ret => exact hq .ret s' cx' g' a' w' k1 up tc ky (hg0.trans (x3.trans k4)) k5
  | .rangeFunc f ps x y, ro, n, cx, hB, hr, s, K, g, a, w, Q, hk, h, hy, hn, hq => by
    unfold codeB at hB
    simp only [Bool.and_eq_true, List.all_eq_true] at hB
    obtain ⟨hps, hBx, hBy, hRx, hRy⟩ := hB
    have hro : ro = none := hr.resolve_left (by simp [noRF])
    subst hro
    rw [ex_rangeFunc] at hk
    split at hk
    · rename_i ho
      have hoff : s.y = .off := by
        cases hx : s.y with
        | off => rfl
        | run k => rw [hx] at ho; cases ho
        | stop => rw [hx] at ho; cases ho
      obtain ⟨ad, hk⟩ := hk.out
      have sub : ∀ t ∈ ps.toList ++ (dsts c.hint x ++ dsts c.hint y), t ∈ dsts c.hint (.rangeFunc f ps x y) := fun t ht => List.mem_cons_of_mem _ ht
      obtain ⟨s1, g0, ⟨ey, d, hx, hk⟩, hg0, h, kp⟩ := adopt_sound (U := dsts c.hint (.rangeFunc f ps x y)) (rowDsts_mono (by intro t ht; simp at ht; subst ht; simp [dsts])) sub (adopt_y hk) h
      have hM : M = none := by rw [hoff] at hy; exact hy
      subst hM
      refine range_sound hok (fun t ht => by have := hps t ht; simpa [Nat.blt_eq] using this) (fun l cx1 e1 n1 s2 K2 g2 a2 w2 Q2 j1 j2 j3 j4 j5 => ?_) (fun l cx1 e1 n1 s2 K2 g2 a2 w2 Q2 j1 j2 j3 j4 j5 => ?_) (ey.trans hoff) hx h (kp.nm hn) hk
        (fun e s' cx' g' a' w' k1 k2 k3 k4 k5 => hq e s' cx' g' a' w' k1 (kp.trans k2 (fun _ h => h) sub) (by rw [hoff]; exact k3) ?_ (hg0.trans k4) k5)
      · refine ex_sound (M := none) hm hok x (by rw [e1]; exact hBx) (.inl hRx) s2 K2 g2 a2 w2 Q2 j1 j2 (by rw [j3]; rfl) j4 fun e s' cx' g' a' w' k1 k2 k3 k4 k5 k6 => ?_
        have := k3.same j3 hRx
        subst this
        exact j5 e s' g' a' w' k1 k2 k5 k6
      · refine ex_sound (M := none) hm hok y (by rw [e1]; exact hBy) (.inl hRy) s2 K2 g2 a2 w2 Q2 j1 j2 (by rw [j3]; rfl) j4 fun e s' cx' g' a' w' k1 k2 k3 k4 k5 k6 => ?_
        have := k3.same j3 hRy
        subst this
        exact j5 e s' g' a' w' k1 k2 k5 k6
      · rw [k2.y (ey.trans hoff)]; rfl
    · exact hk.elim
  | .scope _, ro, n, cx, _, _, s, K, g, a, w, Q, hk, h, hy, hn, hq => hk.elim
  | .goto _, ro, n, cx, _, _, s, K, g, a, w, Q, hk, h, hy, hn, hq => hk.elim
  | .refuse _, ro, n, cx, _, _, s, K, g, a, w, Q, hk, h, hy, hn, hq => hk.elim
end
end Abs
