/- A part of a proof: an abstract machine, proved sound, or contracts of functions. No condition. -/
import Derived.Tactics
import Derived.RangeFuncLeaves
import Derived.KernelRfl
import Derived.Test.YtcbpfnplkdijpaaGreatProg
import Derived.Shelf.Sort.Plain
import Derived.Shelf.Slices.CompactI
import Derived.Test.YtcbpfnplkdijpaaGreatT3
set_option linter.unusedVariables false
set_option linter.unusedSimpArgs false
namespace Abs
open Go
theorem RowAt.based {cx : Cx} {g : Gh} {w : World} {t : Tv} {r : Row} (k : RowAt cx g w t r) {b : Nat} (hb : t.base = some b) : cx.mine b ∧ ∀ l, g.mu l ≠ some b := by
  by_cases hz : r.sz = 0
  · obtain ⟨_, b', es, clock, k1, k2, k3, _⟩ := k.m hz
    rw [hb] at k1; cases k1
    exact ⟨k2, k3⟩
  · have k := k.o hz
    unfold RowO at k
    rw [hb] at k
    exact ⟨k.2.1, k.2.2.1⟩
inductive Nms (h r : Nat → Prop) : Dat → Prop where
  | any : Nms h r .any
  | bool (b : Bool) : Nms h r (.bool b)
  | int (k : IntKind) (n : Int) : Nms h r (.int k n)
  | str (l : List UInt8) : Nms h r (.str l)
  | sl (sz : Nat) (es : List Dat) (b : Bool) : Nms h r (.sl sz es b)
  | imm (d : Dat) (off : Nat) : Nms h r (.imm d off)
  | yld (l : Nat) : Nms h r (.yld l)
  | nilptr : Nms h r .nilptr
  | nilfn : Nms h r .nilfn
  | nilmap : Nms h r .nilmap
  | nilif : Nms h r .nilif
  | ref {k n : Nat} (hk : r k) : Nms h r (.ref k n)
  | ptr {l off : Nat} (hl : h l) : Nms h r (.ptr l off)
  | vptr {l off : Nat} (hl : h l) : Nms h r (.vptr l off)
  | eptr {k n off : Nat} {i : Int} (hk : r k) : Nms h r (.eptr k n i off)
  | mref {k : Nat} (hk : r k) : Nms h r (.mref k)
  | me (k v : Dat) : Nms h r (.me k v)
  | md : Nms h r .md
  | agg {ds : List Dat} (hr : ∀ (i : Nat) d, nth ds i = some d → Nms h r d) : Nms h r (.agg ds)
  | tup {ds : List Dat} (hr : ∀ (i : Nat) d, nth ds i = some d → Nms h r d) : Nms h r (.tup ds)
  | clo {fn : Fn} {df dc : List Dat} (rf : ∀ (i : Nat) d, nth df i = some d → Nms h r d) (rc : ∀ (i : Nat) d, nth dc i = some d → Nms h r d) : Nms h r (.clo fn df dc)
  | pin {d : Dat} (hd : Nms h r d) : Nms h r (.pin d)
theorem arr_at {vs : Array Value} {ds : List Dat} (hl : vs.size = ds.length) {i : Nat} {d : Dat} (hd : nth ds i = some d) : ∃ v, vs[i]? = some v := by
  have h1 := lt_of_nth hd
  exact ⟨vs[i]'(by omega), by simp [show i < vs.size by omega]⟩
theorem RepI.nms {I : Nat → Nat → Option Value} {v : Value} {d : Dat} (x : RepI I v d) (h r : Nat → Prop) : Nms h r d := by
  induction x with
  | any v hv => exact .any
  | bool b => exact .bool b
  | int k n => exact .int k n
  | str l => exact .str l
  | slnil sz b => exact .sl _ _ _
  | sl0 a cap sz => exact .sl _ _ _
  | sl b o cap sz es f hc hs hi _ ih => exact .sl _ _ _
  | agg vs ds hl h1 _ ih => exact .agg fun i d hd => let ⟨v, hv⟩ := arr_at hl hd; ih i v d hv hd
  | imm b o off d f hi h1 _ ih => exact .imm _ _
  | clo hf hc _ _ ihf ihc => exact .clo (fun i d hd => let ⟨v, hv⟩ := arr_at hf hd; ihf i v d hv hd) (fun i d hd => let ⟨v, hv⟩ := arr_at hc hd; ihc i v d hv hd)
  | yld l => exact .yld l
  | nilptr => exact .nilptr
  | nilfn => exact .nilfn
  | nilmap => exact .nilmap
  | nilif => exact .nilif
theorem Rep.nms {g : Gh} {v : Value} {d : Dat} (x : Rep g v d) : Nms (fun l => g.mu l ≠ none) (fun k => g.tv k ≠ none) d := by
  induction x with
  | pure r => exact r.nms _ _
  | ref t ht hn hv h1 => exact .ref (by rw [ht]; simp)
  | ptr hb => exact .ptr (by rw [hb]; simp)
  | vptr hb => exact .vptr (by rw [hb]; simp)
  | eptr t ht hn hi hb hp => exact .eptr (by rw [ht]; simp)
  | mref t ht hz hb => exact .mref (by rw [ht]; simp)
  | agg hl h1 _ ih => exact .agg fun i d hd => let ⟨v, hv⟩ := arr_at hl hd; ih i v d hv hd
  | tup hl _ ih => exact .tup fun i d hd => let ⟨v, hv⟩ := arr_at hl hd; ih i v d hv hd
  | clo hf hc _ _ ihf ihc => exact .clo (fun i d hd => let ⟨v, hv⟩ := arr_at hf hd; ihf i v d hv hd) (fun i d hd => let ⟨v, hv⟩ := arr_at hc hd; ihc i v d hv hd)
  | pin v hi h1 _ ih => exact .pin ih
theorem Rep.restrict {g g' : Gh} {h r : Nat → Prop} {v : Value} {d : Dat} (x : Rep g v d) (n : Nms h r d) (hI : g'.I = g.I)
    (hm : ∀ l b, h l → g.mu l = some b → g'.mu l = some b) (ht : ∀ k t, r k → g.tv k = some t → g'.tv k = some t) : Rep g' v d := by
  induction x with
  | pure x => exact .pure (by rw [hI]; exact x)
  | ref t e hn hv h1 => cases n with | ref hk => exact .ref t (ht _ _ hk e) hn hv h1
  | ptr hb => cases n with | ptr hl => exact .ptr (hm _ _ hl hb)
  | vptr hb => cases n with | vptr hl => exact .vptr (hm _ _ hl hb)
  | eptr t e hn hi hb hp => cases n with | eptr hk => exact .eptr t (ht _ _ hk e) hn hi hb hp
  | mref t e hz hb => cases n with | mref hk => exact .mref t (ht _ _ hk e) hz hb
  | agg hl h1 _ ih => cases n with | agg hr => exact .agg hl h1 fun i v d hv hd => ih i v d hv hd (hr i d hd)
  | tup hl _ ih => cases n with | tup hr => exact .tup hl fun i v d hv hd => ih i v d hv hd (hr i d hd)
  | clo hf hc _ _ ihf ihc => cases n with
    | clo rf rc => exact .clo hf hc (fun i v d hv hd => ihf i v d hv hd (rf i d hd)) (fun i v d hv hd => ihc i v d hv hd (rc i d hd))
  | pin v hi h1 _ ih => cases n with | pin hn => exact .pin v (by rw [hI]; exact hi) h1 (ih hn)
theorem memB_not {l : List Nat} {x : Nat} (h : (!memB l x) = true) : x ∉ l := by
  intro hx
  rw [memB_iff.2 hx] at h; cases h
theorem tidy_go {W V : List Nat} : ∀ {ds : List Dat}, tidyD.go W V ds = true → ∀ (i : Nat) d, nth ds i = some d → Nms (fun l => l ∉ W) (fun k => k ∉ V) d
  | [], _, i, d, hd => by simp [nth] at hd
  | x :: ds, h, i, d, hd => by
    have two : ∀ {b : Bool}, (b && tidyD.go W V ds) = true → b = true ∧ tidyD.go W V ds = true := fun h => by rwa [Bool.and_eq_true] at h
    cases i with
    | zero =>
      simp [nth] at hd; subst hd
      cases x with
      | ptr l off => exact .ptr (memB_not (two h).1)
      | vptr l off => exact .vptr (memB_not (two h).1)
      | ref k n => exact .ref (memB_not (two h).1)
      | eptr k n i off => exact .eptr (memB_not (two h).1)
      | mref k => exact .mref (memB_not (two h).1)
      | me k v => exact .me k v
      | md => exact .md
      | clo _ _ _ => cases h
      | pin _ => cases h
      | tup _ => cases h
      | agg _ => cases h
      | any => exact .any
      | bool b => exact .bool b
      | int k n => exact .int k n
      | str l => exact .str l
      | sl _ _ _ => exact .sl _ _ _
      | imm _ _ => exact .imm _ _
      | yld l => exact .yld l
      | nilptr => exact .nilptr
      | nilfn => exact .nilfn
      | nilmap => exact .nilmap
      | nilif => exact .nilif
    | succ i =>
      have hg : tidyD.go W V ds = true := by
        cases x with
        | ptr l off => exact (two h).2
        | vptr l off => exact (two h).2
        | ref k n => exact (two h).2
        | eptr k n i off => exact (two h).2
        | mref k => exact (two h).2
        | clo _ _ _ => cases h
        | pin _ => cases h
        | tup _ => cases h
        | agg _ => cases h
        | _ => exact h
      exact tidy_go hg i d (by simpa [nth] using hd)
theorem tidy_nms {W V : List Nat} {d : Dat} (h : tidyD W V d = true) : Nms (fun l => l ∉ W) (fun k => k ∉ V) d := by
  cases d with
  | ptr l off => exact .ptr (memB_not h)
  | vptr l off => exact .vptr (memB_not h)
  | ref k n => exact .ref (memB_not h)
  | eptr k n i off => exact .eptr (memB_not h)
  | mref k => exact .mref (memB_not h)
  | me k v => exact .me k v
  | md => exact .md
  | clo fn df dc =>
    have h2 : (tidyD.go W V df && tidyD.go W V dc) = true := h
    rw [Bool.and_eq_true] at h2
    exact .clo (tidy_go h2.1) (tidy_go h2.2)
  | pin _ => cases h
  | agg cs => exact .agg (tidy_go h)
  | tup cs => exact .tup (tidy_go h)
  | any => exact .any
  | bool b => exact .bool b
  | int k n => exact .int k n
  | str l => exact .str l
  | sl _ _ _ => exact .sl _ _ _
  | imm _ _ => exact .imm _ _
  | yld l => exact .yld l
  | nilptr => exact .nilptr
  | nilfn => exact .nilfn
  | nilmap => exact .nilmap
  | nilif => exact .nilif
theorem Nms.cells {h r : Nat → Prop} {d x : Dat} (n : Nms h r d) {j : Nat} (hj : nth (cells d) j = some x) : Nms h r x := by
  have one : ∀ {d : Dat}, Nms h r d → nth [d] j = some x → Nms h r x := fun {d} n hj => by
    cases j with
    | zero => simp [nth] at hj; subst hj; exact n
    | succ j => simp [nth] at hj
  cases d with
  | agg cs => cases n with | agg hr => exact hr j x hj
  | me k v => simp [Abs.cells, nth] at hj
  | md => simp [Abs.cells, nth] at hj
  | _ => exact one n hj
theorem tidyL_at {W V : List Nat} : ∀ {l : List (Nat × Dat)}, tidyL W V l = true → ∀ p ∈ l, tidyD W V p.2 = true
  | [], _, p, hp => by cases hp
  | (t, d) :: l, h, p, hp => by
    have h2 : (tidyD W V d && tidyL W V l) = true := h
    rw [Bool.and_eq_true] at h2
    rcases List.mem_cons.1 hp with e | e
    · subst e; exact h2.1
    · exact tidyL_at h2.2 p e
theorem keysIn_at {W : List Nat} : ∀ {l : List (Nat × Dat)}, keysIn W l = true → ∀ p ∈ l, p.1 ∈ W
  | [], _, p, hp => by cases hp
  | (t, d) :: l, h, p, hp => by
    have h2 : (memB W t && keysIn W l) = true := h
    rw [Bool.and_eq_true] at h2
    rcases List.mem_cons.1 hp with e | e
    · subst e; exact memB_iff.1 h2.1
    · exact keysIn_at h2.2 p e
theorem Over_cases {α : Type} {e : Nat → Option α} : ∀ (ms : List (Nat × α)) (t : Nat), (∃ d, (t, d) ∈ ms ∧ Over ms e t = some d) ∨ ((∀ p ∈ ms, p.1 ≠ t) ∧ Over ms e t = e t)
  | [], t => .inr ⟨by simp, rfl⟩
  | (u, d) :: ms, t => by
    simp only [Over]
    by_cases h : t = u
    · subst h
      exact .inl ⟨d, by simp, by rw [show Nat.beq t t = true by simp]; rfl⟩
    · have hb : Nat.beq t u = false := by
        cases hb : Nat.beq t u with
        | false => rfl
        | true => exact absurd (Nat.eq_of_beq_eq_true hb) h
      rw [hb]
      rcases Over_cases (e := e) ms t with ⟨d', h1, h2⟩ | ⟨h1, h2⟩
      · exact .inl ⟨d', by simp [h1], h2⟩
      · refine .inr ⟨fun p hp => ?_, h2⟩
        rcases List.mem_cons.1 hp with e | e
        · subst e; exact fun h' => h h'.symm
        · exact h1 p e
theorem Hide_cases {α : Type} (W : List Nat) (e : Nat → Option α) (t : Nat) : (t ∈ W ∧ Hide W e t = none) ∨ (t ∉ W ∧ Hide W e t = e t) := by
  unfold Hide
  cases h : memB W t with
  | true => exact .inl ⟨memB_iff.1 h, rfl⟩
  | false => exact .inr ⟨fun hm => (by rw [memB_iff.2 hm] at h; cases h), rfl⟩
theorem liveH_at {s : St} : ∀ {W : List (Nat × Dat)}, liveH s W = true → ∀ p ∈ W, s.H p.1 ≠ none
  | [], _, l, hl => by cases hl
  | (x, d) :: W, h, l, hl => by
    simp only [liveH] at h
    cases hx : s.H x with
    | none => rw [hx] at h; cases h
    | some d =>
      rw [hx] at h
      rcases List.mem_cons.1 hl with e | e
      · subst e; rw [hx]; simp
      · exact liveH_at h l e
theorem liveR_at {s : St} : ∀ {W : List (Nat × Row)}, liveR s W = true → ∀ p ∈ W, s.R p.1 ≠ none
  | [], _, l, hl => by cases hl
  | (x, d) :: W, h, l, hl => by
    simp only [liveR] at h
    cases hx : s.R x with
    | none => rw [hx] at h; cases h
    | some d =>
      rw [hx] at h
      rcases List.mem_cons.1 hl with e | e
      · subst e; rw [hx]; simp
      · exact liveR_at h l e
theorem sameH_at {s t : St} : ∀ {l : List Nat}, sameH s t l → ∀ x ∈ l, s.H x = t.H x
  | [], _, x, hx => by cases hx
  | y :: l, h, x, hx => by
    rcases List.mem_cons.1 hx with e | e
    · subst e; exact h.1
    · exact sameH_at h.2 x e
theorem sameR_at {s t : St} : ∀ {l : List Nat}, sameR s t l → ∀ x ∈ l, s.R x = t.R x
  | [], _, x, hx => by cases hx
  | y :: l, h, x, hx => by
    rcases List.mem_cons.1 hx with e | e
    · subst e; exact h.1
    · exact sameR_at h.2 x e
theorem holdsEnv_at {s : St} : ∀ {l : List (Nat × Dat)}, holdsEnv s l → ∀ p ∈ l, s.env p.1 = some p.2
  | [], _, x, hx => by cases hx
  | (t, d) :: l, h, x, hx => by
    rcases List.mem_cons.1 hx with e | e
    · subst e; exact h.1
    · exact holdsEnv_at h.2 x e
section
variable {cx : Cx} {g : Gh} {s : St} {a : Act} {w : World}
theorem Mem.reBox (m : Mem cx g s w) {l b : Nat} {d d' : Dat} (hl : s.H l = some d) (hb : g.mu l = some b) (hx : BoxAt g w b d') {s' : St} (hH : s'.H = upd s.H l (some d')) (hR : s'.R = s.R) : Mem cx g s' w where
  iw := m.iw
  box x y hy := by
    rw [hH] at hy
    by_cases e : x = l
    · subst e
      rw [upd_eq] at hy; cases hy
      obtain ⟨b', h1, _, h3⟩ := m.box x d hl
      rw [hb] at h1; cases h1
      exact ⟨b, hb, hx, h3⟩
    · rw [upd_ne _ _ _ _ e] at hy
      exact m.box x y hy
  nobox x y hy := by
    rw [hH]
    by_cases e : x = l
    · subst e; rw [upd_eq]; exact ⟨_, rfl⟩
    · rw [upd_ne _ _ _ _ e]; exact m.nobox x y hy
  inj := m.inj
  dis := m.dis
  row := by rw [hR]; exact m.row
  norow := by rw [hR]; exact m.norow
  rdis := m.rdis
  newI := m.newI
  frame := m.frame
  new := m.new
theorem adopt_row (m : Mem cx g s w) {k sz : Nat} (hz0 : sz ≠ 0) (hk : s.R k = none) {s' : St} (hH : s'.H = s.H) (hR : s'.R = upd s.R k (some ⟨sz, true, []⟩)) :
    ∃ g', Ext g g' ∧ Mem cx g' s' w ∧ g'.mu = g.mu ∧ g'.I = g.I ∧ ∀ v, Rep g v (.sl sz [] true) → Rep g' v (.ref k 0) := by
  have hg : g.tv k = none := by
    cases h : g.tv k with
    | none => rfl
    | some t => obtain ⟨r, hr⟩ := m.norow k t h; rw [hk] at hr; cases hr
  let g' : Gh := { I := g.I, mu := g.mu, tv := upd g.tv k (some ⟨sz, 0, none, 0⟩) }
  have he : Ext g g' := ⟨fun _ _ _ h => h, fun _ _ h => h, fun j t hj => ⟨t, by
    show upd g.tv k _ j = some t
    rw [upd_ne _ _ _ _ (by intro e; subst e; rw [hg] at hj; cases hj)]; exact hj, rfl, .inr rfl⟩⟩
  refine ⟨g', he, m.setRow (k := k) (r := ⟨sz, true, []⟩) (t := ⟨sz, 0, none, 0⟩) he rfl rfl (fun _ _ => rfl) (Frame.refl _ _) rfl rfl (fun e h => by cases h) ⟨fun _ => ⟨rfl, rfl⟩, fun e => absurd e hz0⟩ (fun b h => by cases h) hH hR, rfl, rfl, fun v hv => ?_⟩
  have hv' : v = .slice none 0 0 := by
    cases hv with
    | pure r =>
      cases r with
      | slnil => rfl
  subst hv'
  exact .ref ⟨sz, 0, none, 0⟩ (by show upd g.tv k _ k = _; rw [upd_eq]) (Nat.le_refl _) (fun _ => rfl) ⟨none, 0, rfl⟩
theorem setCell_spec {d x : Dat} {j : Nat} {y : Dat} (h : nth (cells d) j = some y) (hc : cells x = [x]) : (cells (setCell d j x)).length = (cells d).length ∧
    ∀ (i : Nat) z, nth (cells (setCell d j x)) i = some z → (i = j ∧ z = x) ∨ (i ≠ j ∧ nth (cells d) i = some z) := by
  have one : ∀ {d : Dat}, nth [d] j = some y → cells x = [x] → (cells x).length = [d].length ∧ ∀ (i : Nat) z, nth (cells x) i = some z → (i = j ∧ z = x) ∨ (i ≠ j ∧ nth [d] i = some z) := fun {d} h hc => by
    rw [hc]
    refine ⟨rfl, fun i z hz => ?_⟩
    cases j with
    | succ j => simp [nth] at h
    | zero =>
      cases i with
      | zero => simp [nth] at hz; exact .inl ⟨rfl, hz.symm⟩
      | succ i => simp [nth] at hz
  cases d with
  | agg cs =>
    have len : ∀ (cs : List Dat) (j : Nat), (setAt cs j x).length = cs.length := by
      intro cs
      induction cs with
      | nil => intro j; cases j <;> rfl
      | cons c cs ih => intro j; cases j with
        | zero => rfl
        | succ j => simp [setAt, ih]
    have at' : ∀ (cs : List Dat) (j i : Nat) z, nth (setAt cs j x) i = some z → (i = j ∧ z = x) ∨ (i ≠ j ∧ nth cs i = some z) := by
      intro cs
      induction cs with
      | nil => intro j i z hz; cases j <;> simp [setAt, nth] at hz
      | cons c cs ih =>
        intro j i z hz
        cases j with
        | zero =>
          cases i with
          | zero => simp [setAt, nth] at hz; exact .inl ⟨rfl, hz.symm⟩
          | succ i => exact .inr ⟨by omega, by simpa [setAt, nth] using hz⟩
        | succ j =>
          cases i with
          | zero => exact .inr ⟨by omega, by simpa [setAt, nth] using hz⟩
          | succ i =>
            rcases ih j i z (by simpa [setAt, nth] using hz) with ⟨e1, e2⟩ | ⟨e1, e2⟩
            · exact .inl ⟨by omega, e2⟩
            · exact .inr ⟨by omega, by simpa [nth] using e2⟩
    exact ⟨len cs j, at' cs j⟩
  | me k v => simp [cells, nth] at h
  | md => simp [cells, nth] at h
  | _ => exact one h hc
theorem adopt_sound {V W U : List Nat} (hV : ∀ k ∈ V, k ∈ rowDsts U) (hW : ∀ t ∈ W, t ∈ U) : ∀ {ad : List Ad} {g : Gh} {s : St} {K : St → Prop}, adopt V W ad s K → Rel cx g s a w →
    ∃ s' g', K s' ∧ Ext g g' ∧ Rel cx g' s' a w ∧ Keep U s s'
  | [], g, s, K, hk, h => ⟨s, g, hk, Ext.refl g, h, Keep.refl _ _⟩
  | .tmp t k :: ad, g, s, K, hk, h => by
    simp only [adopt_nil, adopt_tmp, adopt_cell, adopt_lay, adopt_layCell] at hk
    split at hk
    · rename_i sz ht
      split at hk
      · rename_i hm hR
        rw [Bool.and_eq_true, Bool.and_eq_true] at hm
        obtain ⟨hm, hzb⟩ := hm
        have hz0 : sz ≠ 0 := fun e => by subst e; cases hzb
        obtain ⟨g1, e1, m1, q1, q2, r1⟩ := adopt_row h.mem hz0 hR (sz := sz) (s' := { env := upd s.env t (some (.ref k 0)), H := s.H, hn := s.hn, R := upd s.R k (some ⟨sz, true, []⟩), rn := k :: s.rn, y := s.y }) rfl rfl
        have h1 : Rel cx g1 { env := upd s.env t (some (.ref k 0)), H := s.H, hn := s.hn, R := upd s.R k (some ⟨sz, true, []⟩), rn := k :: s.rn, y := s.y } a w :=
          ⟨fun u d hu => by
            by_cases e : u = t
            · subst e
              have hu' : upd s.env u (some (.ref k 0)) u = some d := hu
              rw [upd_eq] at hu'; cases hu'
              exact r1 _ (h.env u _ ht)
            · have hu' : upd s.env t (some (.ref k 0)) u = some d := hu
              rw [upd_ne _ _ _ _ e] at hu'
              exact (h.env u d hu').mono e1, h.size, h.defers, m1⟩
        obtain ⟨s2, g2, k2, e2, h2, kk⟩ := adopt_sound hV hW hk h1
        refine ⟨s2, g2, k2, e1.trans e2, h2, ?_⟩
        have k0 : Keep U s { env := upd s.env t (some (.ref k 0)), H := s.H, hn := s.hn, R := upd s.R k (some ⟨sz, true, []⟩), rn := k :: s.rn, y := s.y } :=
          Keep.of_upd (.inr ⟨t, _, hW t (memB_iff.1 hm.2), rfl⟩) (.inl ⟨rfl, rfl⟩) (.inr (.inr ⟨k, _, hV k (memB_iff.1 hm.1), rfl, rfl⟩))
        exact k0.trans kk (fun _ h => h) (fun _ h => h)
      · exact hk.elim
    · exact hk.elim
  | .cell l j k :: ad, g, s, K, hk, h => by
    simp only [adopt_nil, adopt_tmp, adopt_cell, adopt_lay, adopt_layCell] at hk
    split at hk
    · rename_i d hd
      split at hk
      · rename_i sz hc
        split at hk
        · rename_i hm hR
          rw [Bool.and_eq_true] at hm
          obtain ⟨hm, hzb⟩ := hm
          have hz0 : sz ≠ 0 := fun e => by subst e; cases hzb
          obtain ⟨g1, e1, m1, q1, q2, r1⟩ := adopt_row h.mem hz0 hR (sz := sz) (s' := { env := s.env, H := s.H, hn := s.hn, R := upd s.R k (some ⟨sz, true, []⟩), rn := k :: s.rn, y := s.y }) rfl rfl
          obtain ⟨b, b1, b2, b3⟩ := m1.box l d hd
          obtain ⟨z1, z2⟩ := setCell_spec (x := .ref k 0) hc rfl
          have hbox : BoxAt g1 w b (setCell d j (.ref k 0)) := by
            obtain ⟨c, e, fz, c1, c2, c3, c4⟩ := b2
            refine ⟨c, e, fz, c1, c2, by rw [z1]; exact c3, fun i v x hv hx => ?_⟩
            rcases z2 i x hx with ⟨rfl, rfl⟩ | ⟨_, hx'⟩
            · obtain ⟨p1, p2⟩ := c4 i v _ hv hc
              refine ⟨?_, p2⟩
              have : Rep g v (.sl sz [] true) := by
                cases p1 with
                | pure r => exact .pure (by rw [← q2]; exact r)
              exact r1 v this
            · exact c4 i v x hv hx'
          have m2 : Mem cx g1 { env := s.env, H := upd s.H l (some (setCell d j (.ref k 0))), hn := s.hn, R := upd s.R k (some ⟨sz, true, []⟩), rn := k :: s.rn, y := s.y } w := m1.reBox hd b1 hbox rfl rfl
          have h1 : Rel cx g1 { env := s.env, H := upd s.H l (some (setCell d j (.ref k 0))), hn := s.hn, R := upd s.R k (some ⟨sz, true, []⟩), rn := k :: s.rn, y := s.y } a w :=
            ⟨fun u d hu => (h.env u d hu).mono e1, h.size, h.defers, m2⟩
          obtain ⟨s2, g2, k2, e2, h2, kk⟩ := adopt_sound hV hW hk h1
          refine ⟨s2, g2, k2, e1.trans e2, h2, ?_⟩
          have k0 : Keep U s { env := s.env, H := upd s.H l (some (setCell d j (.ref k 0))), hn := s.hn, R := upd s.R k (some ⟨sz, true, []⟩), rn := k :: s.rn, y := s.y } :=
            Keep.of_upd (.inl rfl) (.inr (.inl ⟨l, _, by rw [hd]; simp, rfl, rfl⟩)) (.inr (.inr ⟨k, _, hV k (memB_iff.1 hm), rfl, rfl⟩))
          exact k0.trans kk (fun _ h => h) (fun _ h => h)
        · exact hk.elim
      · exact hk.elim
    · exact hk.elim
  | .lay t :: ad, g, s, K, hk, h => by
    simp only [adopt_nil, adopt_tmp, adopt_cell, adopt_lay, adopt_layCell] at hk
    split at hk
    · rename_i d hd
      split at hk
      · rename_i hm
        obtain ⟨s1, d1, g1, k1, l1, _, _, r1⟩ := leak_sound h (keep_leak hk)
        obtain ⟨lk, k1⟩ := k1
        have h1 : Rel cx g1 { env := upd s1.env t (some d1), H := s1.H, hn := s1.hn, R := s1.R, rn := s1.rn, y := s1.y } a w :=
          ⟨fun u x hu => by
            have hu' : upd s1.env t (some d1) u = some x := hu
            by_cases e : u = t
            · subst e
              rw [upd_eq] at hu'; cases hu'
              exact .pure (r1 _ (h.env u _ hd))
            · rw [upd_ne _ _ _ _ e] at hu'
              exact l1.rel.env u x hu', l1.rel.size, l1.rel.defers, l1.rel.mem.names rfl rfl⟩
        obtain ⟨s2, g2, k2, e2, h2, kk⟩ := adopt_sound hV hW k1 h1
        refine ⟨s2, g2, k2, l1.ext.trans e2, h2, ?_⟩
        have k0 : Keep U s1 { env := upd s1.env t (some d1), H := s1.H, hn := s1.hn, R := s1.R, rn := s1.rn, y := s1.y } :=
          Keep.of_upd (.inr ⟨t, _, hW t (memB_iff.1 hm), rfl⟩) (.inl ⟨rfl, rfl⟩) (.inl ⟨rfl, rfl⟩)
        exact ((Keep.of_laid lk U).trans k0 (fun _ h => h) (fun _ h => h)).trans kk (fun _ h => h) (fun _ h => h)
      · exact hk.elim
    · exact hk.elim
  | .layCell l j :: ad, g, s, K, hk, h => by
    simp only [adopt_nil, adopt_tmp, adopt_cell, adopt_lay, adopt_layCell] at hk
    split at hk
    · rename_i d hd
      split at hk
      · rename_i x hx
        obtain ⟨s1, x1, g1, k1, l1, _, _, r1⟩ := leakCell_sound h (keep_leakCell hk)
        obtain ⟨lk, k1⟩ := k1
        have hna : ∀ cs, x1 ≠ .agg cs := fun cs e => by subst e; exact k1
        have k1' : adopt V W ad { env := s1.env, H := upd s1.H l (some (setCell d j x1)), hn := s1.hn, R := s1.R, rn := s1.rn, y := s1.y } K := by
          cases x1 <;> first | exact k1 | exact k1.elim
        have hd1 : s1.H l = some d := by rw [l1.H]; exact hd
        obtain ⟨b, b1, b2, b3⟩ := l1.rel.mem.box l d hd1
        obtain ⟨b', b1', b2', _⟩ := h.mem.box l d hd
        have hc1 : cells x1 = [x1] := by
          obtain ⟨c, e, fz, c1, c2, c3, c4⟩ := b2'
          have hj : j < c.size := by rw [c3]; exact lt_of_nth hx
          have := (Rep.pure (g := g1) (r1 _ (c4 j c[j] x (by simp) hx).1)).notEntry
          cases x1 <;> first | rfl | exact absurd rfl (hna _) | exact absurd rfl (this.1 _ _) | exact absurd rfl this.2
        obtain ⟨z1, z2⟩ := setCell_spec (x := x1) hx hc1
        have hbox : BoxAt g1 w b (setCell d j x1) := by
          obtain ⟨c, e, fz, c1, c2, c3, c4⟩ := b2
          have e1 : b = b' := by rw [l1.mu, b1'] at b1; cases b1; rfl
          subst e1
          obtain ⟨c', e', fz', c1', _, _, c4'⟩ := b2'
          rw [c1] at c1'; cases c1'
          refine ⟨c, e, fz, c1, c2, by rw [z1]; exact c3, fun i v y hv hy => ?_⟩
          rcases z2 i y hy with ⟨rfl, rfl⟩ | ⟨_, hx'⟩
          · obtain ⟨p1, p2⟩ := c4' i v _ hv hx
            exact ⟨.pure (r1 v p1), p2⟩
          · exact c4 i v y hv hx'
        have m2 : Mem cx g1 { env := s1.env, H := upd s1.H l (some (setCell d j x1)), hn := s1.hn, R := s1.R, rn := s1.rn, y := s1.y } w := l1.rel.mem.reBox hd1 b1 hbox rfl rfl
        have h1 : Rel cx g1 { env := s1.env, H := upd s1.H l (some (setCell d j x1)), hn := s1.hn, R := s1.R, rn := s1.rn, y := s1.y } a w := ⟨l1.rel.env, l1.rel.size, l1.rel.defers, m2⟩
        obtain ⟨s2, g2, k2, e2, h2, kk⟩ := adopt_sound hV hW k1' h1
        refine ⟨s2, g2, k2, l1.ext.trans e2, h2, ?_⟩
        have k0 : Keep U s1 { env := s1.env, H := upd s1.H l (some (setCell d j x1)), hn := s1.hn, R := s1.R, rn := s1.rn, y := s1.y } :=
          Keep.of_upd (.inl rfl) (.inr (.inl ⟨l, _, by rw [hd1]; simp, rfl, rfl⟩)) (.inl ⟨rfl, rfl⟩)
        exact ((Keep.of_laid lk U).trans k0 (fun _ h => h) (fun _ h => h)).trans kk (fun _ h => h) (fun _ h => h)
      · exact hk.elim
    · exact hk.elim
end
structure Fit (W : List Nat) (s : St) (m : Mods) : Prop where
  td : tidy W (rowDsts W) m = true
  lh : liveH s m.H = true
  lr : liveR s m.R = true
theorem with_H {W : List Nat} {s : St} {m : Mods} (hf : Fit W s m) (l : Nat) : (s.with W m).H l ≠ none ↔ s.H l ≠ none := by
  show Over m.H s.H l ≠ none ↔ _
  rcases Over_cases (e := s.H) m.H l with ⟨d, h1, h2⟩ | ⟨_, h2⟩
  · rw [h2]
    have := liveH_at hf.lh _ h1
    exact ⟨fun _ => this, fun _ => by simp⟩
  · rw [h2]
theorem with_R {W : List Nat} {s : St} {m : Mods} (hf : Fit W s m) (l : Nat) : (s.with W m).R l ≠ none ↔ s.R l ≠ none := by
  show Over m.R s.R l ≠ none ↔ _
  rcases Over_cases (e := s.R) m.R l with ⟨d, h1, h2⟩ | ⟨_, h2⟩
  · rw [h2]
    have := liveR_at hf.lr _ h1
    exact ⟨fun _ => this, fun _ => by simp⟩
  · rw [h2]
theorem with_env {W : List Nat} {s : St} {m : Mods} (hf : Fit W s m) {t : Nat} (ht : t ∉ W) : (s.with W m).env t = s.env t := by
  show Over m.env (Hide W s.env) t = _
  have hk : keysIn W m.env = true := by have := hf.td; unfold tidy at this; rw [Bool.and_eq_true] at this; exact this.2
  rcases Over_cases (e := Hide W s.env) m.env t with ⟨d, h1, h2⟩ | ⟨_, h2⟩
  · exact absurd (keysIn_at hk _ h1) ht
  · rw [h2]
    rcases Hide_cases W s.env t with ⟨h3, _⟩ | ⟨_, h3⟩
    · exact absurd h3 ht
    · exact h3
theorem with_keep {W : List Nat} {s : St} {m : Mods} (hf : Fit W s m) : Keep W s (s.with W m) where
  env t ht := with_env hf ht
  H l hl := .inl ((with_H hf l).1 hl)
  R l hl := .inl ((with_R hf l).1 hl)
  liveH l hl := (with_H hf l).2 hl
  liveR l hl := (with_R hf l).2 hl
  nm hn := ⟨fun l hl => hn.1 l ((with_H hf l).1 hl), fun l hl => hn.2 l ((with_R hf l).1 hl)⟩
  y h := h
theorem loop_enter {cx : Cx} {g : Gh} {W : List Nat} {s : St} {m : Mods} {a : Act} {w : World} (h : Rel cx g s a w) (hn : Nm s) (hf : Fit W s m) (hh : Holds s (s.with W m) m) : Rel cx g (s.with W m) a w := by
  have eH : (s.with W m).H = s.H := by
    funext l
    cases hl : s.H l with
    | none =>
      cases hx : (s.with W m).H l with
      | none => rfl
      | some d => exact absurd hl ((with_H hf l).1 (by rw [hx]; simp))
    | some d => rw [← hl]; exact (sameH_at hh.H l (hn.1 l (by rw [hl]; simp))).symm
  have eR : (s.with W m).R = s.R := by
    funext l
    cases hl : s.R l with
    | none =>
      cases hx : (s.with W m).R l with
      | none => rfl
      | some d => exact absurd hl ((with_R hf l).1 (by rw [hx]; simp))
    | some d => rw [← hl]; exact (sameR_at hh.R l (hn.2 l (by rw [hl]; simp))).symm
  refine ⟨fun t d ht => ?_, h.size, h.defers, h.mem.names eH eR⟩
  rcases Over_cases (e := Hide W s.env) m.env t with ⟨d', h1, h2⟩ | ⟨_, h2⟩
  · have : (s.with W m).env t = some d' := h2
    rw [ht] at this; cases this
    exact h.env t d (holdsEnv_at hh.env _ h1)
  · rcases Hide_cases W s.env t with ⟨_, h3⟩ | ⟨_, h3⟩
    · have : (s.with W m).env t = none := h2.trans h3
      rw [ht] at this; cases this
    · have : (s.with W m).env t = s.env t := h2.trans h3
      exact h.env t d (by rw [← this]; exact ht)
open Classical in
theorem loop_round {cx0 cx : Cx} {g0 g' : Gh} {W : List Nat} {s s' : St} {m m' : Mods} {a0 a' : Act} {w0 w' : World} (h0 : Rel cx0 g0 s a0 w0) (he : Ext g0 g') (h : Rel cx g' s' a' w') (hn : Nm s)
    (hf : Fit W s m) (hf' : Fit W s m') (hk : Keep W (s.with W m) s') (hd : deadH s W = true) (hdr : deadR s (rowDsts W) = true) (hh : Holds s' (s.with W m') m') :
    ∃ g'', Ext g0 g'' ∧ Rel cx g'' (s.with W m') a' w' ∧ g''.I = g'.I := by
  refine ⟨{ I := g'.I, mu := fun l => if s.H l = none then none else g'.mu l, tv := fun k => if s.R k = none then none else g'.tv k }, ?_, ?_⟩
  · refine ⟨he.I, fun l b hl => ?_, fun k t hk => ?_⟩
    · obtain ⟨d, hd⟩ := h0.mem.nobox l b hl
      show (if s.H l = none then none else g'.mu l) = some b
      rw [if_neg (by rw [hd]; simp)]
      exact he.mu l b hl
    · obtain ⟨r, hr⟩ := h0.mem.norow k t hk
      obtain ⟨t', h1, h2⟩ := he.tv k t hk
      refine ⟨t', ?_, h2⟩
      show (if s.R k = none then none else g'.tv k) = some t'
      rw [if_neg (by rw [hr]; simp)]
      exact h1
  · have mu0 : ∀ l, s.H l ≠ none → (if s.H l = none then none else g'.mu l) = g'.mu l := fun l hl => if_neg hl
    have tv0 : ∀ l, s.R l ≠ none → (if s.R l = none then none else g'.tv l) = g'.tv l := fun l hl => if_neg hl
    have lH : ∀ l b, g'.mu l = some b → l ∉ W → s.H l ≠ none := fun l b hl hw => by
      obtain ⟨d, hd⟩ := h.mem.nobox l b hl
      rcases hk.H l (by rw [hd]; simp) with e | e
      · exact (with_H hf l).1 e
      · exact absurd e hw
    have lR : ∀ l b, g'.tv l = some b → l ∉ rowDsts W → s.R l ≠ none := fun l b hl hw => by
      obtain ⟨d, hd⟩ := h.mem.norow l b hl
      rcases hk.R l (by rw [hd]; simp) with e | e
      · exact (with_R hf l).1 e
      · exact absurd e hw
    let g'' : Gh := { I := g'.I, mu := fun l => if s.H l = none then none else g'.mu l, tv := fun k => if s.R k = none then none else g'.tv k }
    have toT : ∀ {v : Value} {d : Dat}, Rep g' v d → Nms (fun l => l ∉ W) (fun k => k ∉ rowDsts W) d → Rep g'' v d := fun {v d} x n =>
      x.restrict n rfl (fun l b hl hb => by show (if s.H l = none then none else g'.mu l) = some b; rw [mu0 l (lH l b hb hl)]; exact hb)
        (fun k t hl hb => by show (if s.R k = none then none else g'.tv k) = some t; rw [tv0 k (lR k t hb hl)]; exact hb)
    have toS : ∀ {v : Value} {d : Dat}, Rep g' v d → Nms (fun l => g0.mu l ≠ none) (fun k => g0.tv k ≠ none) d → Rep g'' v d := fun {v d} x n =>
      x.restrict n rfl (fun l b hl hb => by
          have : s.H l ≠ none := by
            cases h1 : g0.mu l with
            | none => exact absurd h1 hl
            | some b' => obtain ⟨d, hd⟩ := h0.mem.nobox l b' h1; rw [hd]; simp
          show (if s.H l = none then none else g'.mu l) = some b; rw [mu0 l this]; exact hb)
        (fun k t hl hb => by
          have : s.R k ≠ none := by
            cases h1 : g0.tv k with
            | none => exact absurd h1 hl
            | some b' => obtain ⟨d, hd⟩ := h0.mem.norow k b' h1; rw [hd]; simp
          show (if s.R k = none then none else g'.tv k) = some t; rw [tv0 k this]; exact hb)
    have td := hf'.td
    unfold tidy at td
    rw [Bool.and_eq_true, Bool.and_eq_true] at td
    have lvH : ∀ l d, (s.with W m').H l = some d → s.H l ≠ none ∧ s'.H l = some d := fun l d hl => by
      have h1 : s.H l ≠ none := (with_H hf' l).1 (by rw [hl]; simp)
      exact ⟨h1, by rw [sameH_at hh.H l (hn.1 l h1)]; exact hl⟩
    have lvR : ∀ l d, (s.with W m').R l = some d → s.R l ≠ none ∧ s'.R l = some d := fun l d hl => by
      have h1 : s.R l ≠ none := (with_R hf' l).1 (by rw [hl]; simp)
      exact ⟨h1, by rw [sameR_at hh.R l (hn.2 l h1)]; exact hl⟩
    refine ⟨⟨fun t d ht => ?_, h.size, h.defers, ?_⟩, rfl⟩
    · rcases Over_cases (e := Hide W s.env) m'.env t with ⟨d', h1, h2⟩ | ⟨_, h2⟩
      · have : (s.with W m').env t = some d' := h2
        rw [ht] at this; cases this
        exact toT (h.env t d (holdsEnv_at hh.env _ h1)) (tidy_nms (tidyL_at td.1.1 _ h1))
      · rcases Hide_cases W s.env t with ⟨_, h3⟩ | ⟨h4, h3⟩
        · have : (s.with W m').env t = none := h2.trans h3
          rw [ht] at this; cases this
        · have e1 : (s.with W m').env t = s.env t := h2.trans h3
          rw [ht] at e1
          have e2 : s'.env t = some d := by rw [hk.env t h4, with_env hf h4]; exact e1.symm
          exact toS (h.env t d e2) (h0.env t d e1.symm).nms
    · refine { iw := h.mem.iw, box := fun l d hl => ?_, nobox := fun l b hl => ?_, inj := fun l m b h1 h2 => ?_, dis := fun l b hl => ?_, row := fun k r hr => ?_, norow := fun k t hk => ?_, rdis := fun k j t u b h1 h2 h3 h4 => ?_, newI := h.mem.newI, frame := h.mem.frame, new := h.mem.new }
      · obtain ⟨h1, h2⟩ := lvH l d hl
        obtain ⟨b, hb, hx, hm⟩ := h.mem.box l d h2
        refine ⟨b, by show (if s.H l = none then none else g'.mu l) = some b; rw [mu0 l h1]; exact hb, ?_, hm⟩
        obtain ⟨c, e, fz, y1, y2, y3, y4⟩ := hx
        refine ⟨c, e, fz, y1, y2, y3, fun i v x hv hx => ⟨?_, (y4 i v x hv hx).2⟩⟩
        have hrep := (y4 i v x hv hx).1
        rcases Over_cases (e := s.H) m'.H l with ⟨d', z1, z2⟩ | ⟨_, z2⟩
        · have : (s.with W m').H l = some d' := z2
          rw [hl] at this; cases this
          exact toT hrep ((tidy_nms (tidyL_at td.1.2 _ z1)).cells hx)
        · have e1 : (s.with W m').H l = s.H l := z2
          rw [hl] at e1
          obtain ⟨b0, _, ⟨c0, _, _, x1, _, x3, x4⟩, _⟩ := h0.mem.box l d e1.symm
          obtain ⟨v0, hv0⟩ : ∃ v0, c0[i]? = some v0 := ⟨c0[i]'(by have := lt_of_nth hx; omega), by simp [show i < c0.size by have := lt_of_nth hx; omega]⟩
          exact toS hrep (x4 i v0 x hv0 hx).1.nms
      · have hl' : (if s.H l = none then none else g'.mu l) = some b := hl
        split at hl'
        · cases hl'
        · rename_i hne
          cases hx : (s.with W m').H l with
          | some d => exact ⟨d, rfl⟩
          | none => exact absurd hx ((with_H hf' l).2 hne)
      · have h1' : (if s.H l = none then none else g'.mu l) = some b := h1
        have h2' : (if s.H m = none then none else g'.mu m) = some b := h2
        split at h1'
        · cases h1'
        · split at h2'
          · cases h2'
          · exact h.mem.inj l m b h1' h2'
      · have h1' : (if s.H l = none then none else g'.mu l) = some b := hl
        split at h1'
        · cases h1'
        · exact h.mem.dis l b h1'
      · obtain ⟨h1, h2⟩ := lvR k r hr
        obtain ⟨t, x1, x2, x3, x4, x5⟩ := h.mem.row k r h2
        refine ⟨t, by show (if s.R k = none then none else g'.tv k) = some t; rw [tv0 k h1]; exact x1, x2, x3, x4, ?_⟩
        refine x5.names rfl fun b hb => ?_
        obtain ⟨y2, y3⟩ := x5.based hb
        refine ⟨y2, fun l hl => ?_⟩
        have h1' : (if s.H l = none then none else g'.mu l) = some b := hl
        split at h1'
        · cases h1'
        · exact y3 l h1'
      · have h1' : (if s.R k = none then none else g'.tv k) = some t := hk
        split at h1'
        · cases h1'
        · rename_i hne
          cases hx : (s.with W m').R k with
          | some d => exact ⟨d, rfl⟩
          | none => exact absurd hx ((with_R hf' k).2 hne)
      · have h1' : (if s.R k = none then none else g'.tv k) = some t := h1
        have h2' : (if s.R j = none then none else g'.tv j) = some u := h2
        split at h1'
        · cases h1'
        · split at h2'
          · cases h2'
          · exact h.mem.rdis k j t u b h1' h2' h3 h4
end Abs
namespace Abs
open Go
def markOf (b : Nat) : Deferred := { target := .collected b, args := #[] }
def Marks (B : Nat) (cx : Cx) : Prop := ∃ bs : List Nat, cx.D = bs.map markOf ∧ bs.Nodup ∧ (∀ I w, cx.Fr I w → ∀ b ∈ bs, B ≤ b ∧ w.heap[b]? = some (.deferred (some []))) ∧ ∀ b ∈ bs, ¬ cx.mine b
def noRF : Code → Bool
  | .seq a b => noRF a && noRF b
  | .cond _ a b => noRF a && noRF b
  | .block _ b => noRF b
  | .loop b => noRF b
  | .scope b => noRF b
  | .rangeFunc _ _ _ _ => false
  | _ => true
structure CxT (cx cx' : Cx) (y : YS) (rf : Bool) : Prop where
  n : cx'.n = cx.n
  I0 : y = .off → cx'.I0 = cx.I0
  mine : y = .off → ∀ b, cx'.mine b → cx.mine b
  fr : y = .off → ∀ I w, cx'.Fr I w → cx.Fr I w
  D : y = .off → ∀ B, (∀ I w, cx.Fr I w → B ≤ w.heap.size) → Marks B cx → Marks B cx'
  same : y = .off → rf = true → cx' = cx
theorem CxT.refl (cx : Cx) (y : YS) (rf : Bool) : CxT cx cx y rf := ⟨rfl, fun _ => rfl, fun _ _ h => h, fun _ _ _ h => h, fun _ _ _ h => h, fun _ _ => rfl⟩
theorem CxT.of {cx cx' : Cx} {y : YS} {rf : Bool} (h : CxTo cx cx' y) : CxT cx cx' y rf :=
  ⟨h.n, fun e => by rw [h.same e], fun e b k => by rw [h.same e] at k; exact k, fun e I w k => by rw [h.same e] at k; exact k, fun e B _ k => by rw [h.same e]; exact k, fun e _ => h.same e⟩
theorem CxT.trans {a b c : Cx} {y z : YS} {r s : Bool} (h : CxT a b y r) (k : CxT b c z s) (hy : y = .off → z = .off) : CxT a c y (r && s) :=
  ⟨k.n.trans h.n, fun e => (k.I0 (hy e)).trans (h.I0 e), fun e b x => h.mine e b (k.mine (hy e) b x), fun e I w x => h.fr e I w (k.fr (hy e) I w x),
   fun e B hB x => k.D (hy e) B (fun I w x => hB I w (h.fr e I w x)) (h.D e B hB x), fun e x => by rw [Bool.and_eq_true] at x; exact (k.same (hy e) x.2).trans (h.same e x.1)⟩
theorem CxT.weak {a b : Cx} {y : YS} {r s : Bool} (h : CxT a b y r) (hr : s = true → r = true) : CxT a b y s := ⟨h.n, h.I0, h.mine, h.fr, h.D, fun e x => h.same e (hr x)⟩
theorem params_env : ∀ (ps : List Nat) (ds : List Dat) (e : Nat → Option Dat) (tmps : Array Value) (vs : List Value) {g : Gh}, vs.length = ds.length → (∀ t ∈ ps, t < tmps.size) →
    (∀ (i : Nat) v d, vs[i]? = some v → nth ds i = some d → Rep g v d) → (∀ t d, e t = some d → Rep g (tmps.getD t undef) d) →
    ∀ t d, params ps ds e t = some d → Rep g (((ps.zip vs).foldl (fun tmps x => tmps.setIfInBounds x.1 x.2) tmps).getD t undef) d
  | [], ds, e, tmps, vs, g, _, _, _, he, t, d, h => by
    have : params [] ds e t = e t := by cases ds <;> rfl
    rw [this] at h
    simpa using he t d h
  | p :: ps, [], e, tmps, vs, g, hl, _, _, he, t, d, h => by
    cases vs with
    | nil => simpa using he t d h
    | cons v vs => simp at hl
  | p :: ps, x :: ds, e, tmps, [], g, hl, _, _, he, t, d, h => by simp at hl
  | p :: ps, x :: ds, e, tmps, v :: vs, g, hl, hp, hr, he, t, d, h => by
    simp only [List.zip_cons_cons, List.foldl_cons]
    refine params_env ps ds (upd e p (some x)) (tmps.setIfInBounds p v) vs (by simpa using hl) (fun t ht => by simpa using hp t (List.mem_cons_of_mem _ ht)) (fun i v' d' h1 h2 => hr (i + 1) v' d' (by simpa using h1) (by simpa [nth] using h2)) (fun u y hu => ?_) t d h
    by_cases e1 : u = p
    · subst e1
      rw [upd_eq] at hu; cases hu
      have hlt : u < tmps.size := hp u (by simp)
      have := hr 0 v x rfl rfl
      simpa [hlt] using this
    · rw [upd_ne _ _ _ _ e1] at hu
      have := he u y hu
      have e2 : ((tmps.setIfInBounds p v).getD u undef) = tmps.getD u undef := by
        simp [Array.getElem?_setIfInBounds_ne (Ne.symm e1)]
      rw [e2]; exact this
theorem params_keep : ∀ (ps : List Nat) (ds : List Dat) (e : Nat → Option Dat) (t : Nat), t ∉ ps → params ps ds e t = e t
  | [], ds, e, t, _ => by cases ds <;> rfl
  | p :: ps, [], e, t, _ => rfl
  | p :: ps, d :: ds, e, t, h => by
    rw [List.mem_cons, not_or] at h
    show params ps ds (upd e p (some d)) t = e t
    rw [params_keep ps ds _ t h.2, upd_ne _ _ _ _ h.1]
theorem Keep.params (s : St) (ps : List Nat) (ds : List Dat) : Keep ps s (s.params ps ds) :=
  ⟨fun t ht => params_keep ps ds s.env t ht, fun _ h => .inl h, fun _ h => .inl h, fun _ h => h, fun _ h => h, fun h => h, fun h => h⟩
def jumpOf : Out → Code
  | .exit id => .exit id
  | .ret => .ret
  | .normal => .skip
section
variable (cx : Cx) (l db : Nat) (N : Nat → Prop) (W1 : World) (I0 : Nat → Nat → Option Value)
def cxH : Cx where
  n := cx.n
  mine b := (cx.mine b ∧ N b ∧ b ≠ l ∧ b ≠ db) ∨ W1.heap.size ≤ b
  I0 := I0
  D := []
  Fr _ _ := True
  st _ _ _ _ _ _ _ _ _ := trivial
def cxR (rec : Obj) (hl : l < W1.heap.size) (hd : db < W1.heap.size) (hN : N l ∧ N db) (hm : ∀ b, W1.heap.size ≤ b → cx.mine b) : Cx where
  n := cx.n
  mine b := (cx.mine b ∧ N b ∧ b ≠ l ∧ b ≠ db) ∨ W1.heap.size ≤ b
  I0 := I0
  D := []
  Fr I w := cx.Fr I w ∧ w.heap[l]? = some rec ∧ w.heap[db]? = some (.deferred (some [])) ∧ W1.heap.size ≤ w.heap.size ∧ ∀ b, b < W1.heap.size → ¬ N b → w.heap[b]? = W1.heap[b]?
  st I I' w w' h hs fr hc hnew := by
    obtain ⟨h1, h2, h3, h4, h5⟩ := h
    refine ⟨cx.st I I' w w' h1 hs (fr.sub fun b _ e => ?_) hc (fun b hb => hm b (Nat.le_trans h4 hb)), ?_, ?_, Nat.le_trans h4 fr.size, fun b hb hn => ?_⟩
    · rcases e with e | e
      · exact e.1
      · exact hm b e
    · rw [fr.block l (Nat.lt_of_lt_of_le hl h4) (fun e => by rcases e with e | e; exact e.2.2.1 rfl; omega)]; exact h2
    · rw [fr.block db (Nat.lt_of_lt_of_le hd h4) (fun e => by rcases e with e | e; exact e.2.2.2 rfl; omega)]; exact h3
    · rw [fr.block b (Nat.lt_of_lt_of_le hb h4) (fun e => by rcases e with e | e; exact hn e.2.1; omega)]; exact h5 b hb hn
def cxE (hd : db < W1.heap.size) (hm : ∀ b, W1.heap.size ≤ b → cx.mine b) : Cx where
  n := cx.n
  mine b := cx.mine b ∧ b ≠ db
  I0 := cx.I0
  D := markOf db :: cx.D
  Fr I w := cx.Fr I w ∧ w.heap[db]? = some (.deferred (some [])) ∧ W1.heap.size ≤ w.heap.size
  st I I' w w' h hs fr hc hnew := by
    obtain ⟨h1, h2, h3⟩ := h
    refine ⟨cx.st I I' w w' h1 hs (fr.sub fun b _ e => e.1) hc (fun b hb => (hnew b hb).1), ?_, Nat.le_trans h3 fr.size⟩
    rw [fr.block db (Nat.lt_of_lt_of_le hd h3) (fun e => e.2 rfl)]; exact h2
end
theorem cell_obj {w : World} {b o : Nat} {v : Value} {x : Obj} (h : w.cell? ⟨b, o, none⟩ = some v) (hx : w.heap[b]? = some x) : ∃ c e fz, x = .cells c e fz := by
  simp only [World.cell?, hx] at h
  cases x <;> first | exact ⟨_, _, _, rfl⟩ | simp at h
structure HostJ (cx : Cx) (g : Gh) (w1 : World) (l db : Nat) (N : Nat → Prop) (Ih : Nat → Nat → Option Value) (W : World) (g' : Gh) (s' : St) (rec : Obj) : Prop where
  ext : Ext g g'
  sub : SubI Ih g'.I
  shown : ∀ b o v, g'.I b o = some v → N b ∨ Ih b o = some v
  newI : ∀ b o v, g'.I b o = some v → cx.I0 b o = some v ∨ cx.mine b
  old : ∀ b, b < w1.heap.size → N b
  lt : ∀ b, N b → b < W.heap.size
  fr : cx.Fr g'.I W
  def' : W.heap[db]? = some (.deferred (some []))
  rc : W.heap[l]? = some rec
  mem : Mem (cxH cx l db N W g'.I) g' s' W
section
variable {cx : Cx} {g : Gh} {w1 : World} {l db : Nat} {N : Nat → Prop} {Ih : Nat → Nat → Option Value} {W W' : World} {g' : Gh} {s' : St} {rec : Obj}
theorem HostJ.rely (h : HostJ cx g w1 l db N Ih W g' s' rec) (hm1 : ∀ b, w1.heap.size ≤ b → cx.mine b) (hl : l < w1.heap.size) (hd : db < w1.heap.size) (fr : Frame W W' (fun b => ¬ N b))
    (hc : ∀ b o v, Ih b o = some v → W'.cell? ⟨b, o, none⟩ = some v) : HostJ cx g w1 l db N Ih W' g' s' rec := by
  have same : ∀ b, N b → W'.heap[b]? = W.heap[b]? := fun b hb => fr.block b (h.lt b hb) (fun e => e hb)
  have cells : Cells g'.I W' := fun b o v e => by
    have h0 := h.mem.iw b o v e
    rcases h.shown b o v e with k | k
    · exact ⟨(cell_same (same b k)).trans h0.1, h0.2⟩
    · exact ⟨hc b o v k, h0.2⟩
  have nN : ∀ b, ¬ N b → cx.mine b := fun b hb => hm1 b (by rcases Nat.lt_or_ge b w1.heap.size with k | k; exact absurd (h.old b k) hb; exact k)
  have big : w1.heap.size ≤ W.heap.size := by
    rcases Nat.eq_zero_or_pos w1.heap.size with k | k
    · omega
    · have := h.lt _ (h.old (w1.heap.size - 1) (by omega)); omega
  refine ⟨h.ext, h.sub, h.shown, h.newI, h.old, fun b hb => Nat.lt_of_lt_of_le (h.lt b hb) fr.size, cx.st _ _ _ _ h.fr (fun _ _ _ e => e) (fr.sub fun b _ e => nN b e) cells (fun b hb => hm1 b (Nat.le_trans big hb)),
    (same db (h.old db hd)).trans h.def', (same l (h.old l hl)).trans h.rc, ?_⟩
  exact h.mem.after (I' := g'.I) (fun _ _ _ e => e) cells (fun b h1 h2 => by rcases h2 with h2 | h2; exact same b h2.2.1; omega) (fun b o v e _ _ => e) (fun b h1 h2 => by rcases h2 with h2 | h2; exact .inl h2; omega)
    (fun b o v e => .inl e) trivial (fun b hb => .inr hb)
theorem HostJ.big (h : HostJ cx g w1 l db N Ih W g' s' rec) : w1.heap.size ≤ W.heap.size := by
  rcases Nat.eq_zero_or_pos w1.heap.size with k | k
  · omega
  · have := h.lt _ (h.old (w1.heap.size - 1) (by omega)); omega
end
theorem host_after {cx : Cx} {g gR g2 : Gh} {w1 W1 W2 : World} {l db : Nat} {N : Nat → Prop} {I : Nat → Nat → Option Value} {s2 : St} {rec rec' : Obj}
    (hm1 : ∀ b, w1.heap.size ≤ b → cx.mine b) (hold : ∀ b, b < w1.heap.size → N b) (hlt : ∀ b, N b → b < W1.heap.size) (hbig : w1.heap.size ≤ W1.heap.size)
    (hl : l < w1.heap.size) (hd : db < w1.heap.size) (hld : l ≠ db) (hll : cx.mine l) {q1 q2 q3 q4}
    (hx : Ext g g2) (hI : SubI I gR.I) (hgR : SubI gR.I g2.I) (hsh : ∀ b o v, gR.I b o = some v → N b ∨ I b o = some v) (hnew : ∀ b o v, gR.I b o = some v → cx.I0 b o = some v ∨ cx.mine b)
    (m : Mem (cxR cx l db N W1 gR.I rec q1 q2 q3 q4) g2 s2 W2) (hnl : ∀ c e fz, rec ≠ .cells c e fz) :
    HostJ cx g w1 l db (fun b => N b ∨ (W1.heap.size ≤ b ∧ b < (W2.putObj l rec').heap.size)) I (W2.putObj l rec') g2 s2 rec' ∧ W1.heap.size ≤ (W2.putObj l rec').heap.size ∧
      (∀ b, b < W1.heap.size → ¬ N b → (W2.putObj l rec').heap[b]? = W1.heap[b]?) ∧ Cells I (W2.putObj l rec') := by
  obtain ⟨f1, f2, f3, f4, f5⟩ := m.frame
  have sz : (W2.putObj l rec').heap.size = W2.heap.size := by simp
  have lt2 : l < W2.heap.size := by omega
  have other : ∀ b, b ≠ l → (W2.putObj l rec').heap[b]? = W2.heap[b]? := fun b hb => World.putObj_heap_other hb
  have noI : ∀ b o v, g2.I b o = some v → b ≠ l := fun b o v e hb => by
    subst hb
    obtain ⟨c, t, fz, h⟩ := cell_obj (m.iw b o v e).1 f2
    exact hnl _ _ _ h
  have cells : Cells g2.I (W2.putObj l rec') := fun b o v e => ⟨(cell_same (other b (noI b o v e))).trans (m.iw b o v e).1, (m.iw b o v e).2⟩
  have fr : Frame W2 (W2.putObj l rec') (fun b => b = l) := ⟨rfl, rfl, rfl, by simp, fun b _ hb => other b hb⟩
  refine ⟨⟨hx, fun b o v e => hgR b o v (hI b o v e), fun b o v e => ?_, fun b o v e => ?_, fun b hb => .inl (hold b hb), fun b hb => ?_, cx.st _ _ _ _ f1 (fun _ _ _ e => e) (fr.sub fun b _ e => by rw [e]; exact hll) cells (fun b hb => hm1 b (by omega)),
    (other db (Ne.symm hld)).trans f3, World.putObj_heap_same lt2, ?_⟩, by omega, fun b hb hn => ?_, fun b o v e => cells b o v (hgR b o v (hI b o v e))⟩
  · rcases m.newI b o v e with k | k | k
    · rcases hsh b o v k with k | k
      · exact .inl (.inl k)
      · exact .inr k
    · exact .inl (.inl k.2.1)
    · exact .inl (.inr ⟨k, by rw [sz]; exact m.I_lt e⟩)
  · rcases m.newI b o v e with k | k | k
    · exact hnew b o v k
    · exact .inr k.1
    · exact .inr (hm1 b (by omega))
  · rcases hb with hb | hb
    · have := hlt b hb; omega
    · exact hb.2
  · refine m.after (I' := g2.I) (fun _ _ _ e => e) cells (fun b h1 h2 => other b ?_) (fun b o v e _ _ => e) (fun b h1 h2 => ?_) (fun b o v e => .inl e) trivial (fun b hb => .inr hb)
    · rcases h2 with h2 | h2
      · exact h2.2.2.1
      · omega
    · rcases h2 with h2 | h2
      · exact .inl ⟨h2.1, .inl h2.2.1, h2.2.2⟩
      · exact .inl ⟨hm1 b (by omega), .inr ⟨h2, by rw [sz]; exact h1⟩, by omega, by omega⟩
  · rw [other b (fun e => hn (by rw [e]; exact hold l hl))]; exact f5 b hb hn
def toExit : Out → Go.Exit
  | .normal => .normal
  | .exit id => .exit id
  | .ret => .ret
def afterJump (r : Loop) : Out → Obj
  | .normal => .loop r
  | e => .loop { r with state := .done, pending := some (jumpOf e) }
theorem roundPost_of {P : Program} {l : Nat} {R : Ending → World → Prop} {e : Out} {a : Act} {w : World} {r : Loop} (hr : w.heap[l]? = some (.loop { r with state := .busy })) (hr0 : r.state = .ready ∧ r.pending = none)
    (h : R (.returned (.bool (match e with | .normal => true | _ => false))) (w.putObj l (afterJump r e))) : roundPost P l R (toExit e) a w := by
  obtain ⟨st, pe, fn, tm, pa, asg, bd, df⟩ := r
  obtain ⟨e1, e2⟩ := hr0
  dsimp only at e1 e2
  subst e1; subst e2
  cases e with
  | normal => exact ⟨_, _, run_endRound none hr, h⟩
  | exit id => exact ⟨_, _, run_endRound (some (.exit id)) hr, h⟩
  | ret => exact ⟨_, _, run_endRound (some .ret) hr, h⟩
theorem range_sound {P : Program} {c : Cfg} (hok : CfgOk P c) {cx : Cx} {f : Operand} {ps : Array Tmp} {asg body : Code} {n : Nat} (hps : ∀ t ∈ ps.toList, t < cx.n)
    (ihA : ∀ (l : Nat) (cx1 : Cx), cx1.n = cx.n → ∀ (n : Nat) (s : St) (K : Out → St → Prop) (g : Gh) (a : Act) (w : World) (Q : Go.Exit → Act → World → Prop), ex P c asg s K → Rel cx1 g s a w → s.y = .off → Nm s →
      (∀ e s' g' a' w', K e s' → Keep (dsts c.hint asg) s s' → Ext g g' → Rel cx1 g' s' a' w' → Q (toExit e) a' w') → asg.wpIn (FW (some l)) n P Q a w)
    (ihB : ∀ (l : Nat) (cx1 : Cx), cx1.n = cx.n → ∀ (n : Nat) (s : St) (K : Out → St → Prop) (g : Gh) (a : Act) (w : World) (Q : Go.Exit → Act → World → Prop), ex P c body s K → Rel cx1 g s a w → s.y = .off → Nm s →
      (∀ e s' g' a' w', K e s' → Keep (dsts c.hint body) s s' → Ext g g' → Rel cx1 g' s' a' w' → Q (toExit e) a' w') → body.wpIn (FW (some l)) n P Q a w)
    {s : St} {g : Gh} {a : Act} {w : World} {d : Dat} {K : Out → St → Prop} {Q : Go.Exit → Act → World → Prop} (hs : s.y = .off) (hd : getT P s 0 f = some d) (h : Rel cx g s a w) (hn : Nm s)
    (hk : RoundS c.It (ps.toList ++ (dsts c.hint asg ++ dsts c.hint body)) ps.toList d (fun s K => ex P c asg s K) (fun s K => ex P c body s K) K s)
    (hq : ∀ e s' cx' g' a' w', K e s' → Keep (ps.toList ++ (dsts c.hint asg ++ dsts c.hint body)) s s' → CxT cx cx' .off false → Ext g g' → Rel cx' g' s' a' w' → Q (toExit e) a' w') :
    (Code.rangeFunc f ps asg body).wpIn (FW none) n P Q a w := by
  obtain ⟨Wd, hWd⟩ : ∃ W, W = ps.toList ++ (dsts c.hint asg ++ dsts c.hint body) := ⟨_, rfl⟩
  rw [← hWd] at hk hq
  obtain ⟨xs, ι, i0, m, pos, hIt, hlen, hp0, hh, hdH, hdR, hall⟩ := hk.out
  have fit : ∀ i, Fit Wd s (m i) := fun i => ⟨(hall i).1.1, (hall i).1.2.1, (hall i).1.2.2.1⟩
  have env0 : ∀ i t d, (s.with Wd (m i)).env t = some d → s.env t = some d := fun i t d ht => by
    have e0 := (hall i).1.2.2.2
    have : (s.with Wd (m i)).env t = Hide Wd s.env t := by show Over (m i).env _ t = _; rw [e0]; rfl
    rw [this] at ht
    rcases Hide_cases Wd s.env t with ⟨_, k⟩ | ⟨_, k⟩
    · rw [k] at ht; cases ht
    · rw [k] at ht; exact ht
  obtain ⟨fid, first, cap, rfl, hpure, hY⟩ := (hok.It _ _ hIt).out
  obtain ⟨vf, vc, ef, hvf, hvc, rf, rc⟩ := (h.get hd).clo_val
  rw [Bool.and_eq_true] at hpure
  refine wpIn_rangeFunc fun fn _ => ?_
  obtain ⟨r0, hr0⟩ : ∃ r : Loop, r = { state := .ready, pending := none, fn, tmps := a.tmps, params := ps, assign := asg, body, defers := w.heap.size } := ⟨_, rfl⟩
  have r0s : r0.state = .ready ∧ r0.pending = none := by rw [hr0]; exact ⟨rfl, rfl⟩
  obtain ⟨w1, hw1⟩ : ∃ w1, w1 = (w.alloc (.deferred (some []))).alloc (.loop r0) := ⟨_, rfl⟩
  have hsz1 : w1.heap.size = w.heap.size + 1 + 1 := by rw [hw1]; simp
  have hm1 : Mem cx g s w1 := by rw [hw1]; exact (h.mem.push _).push _
  have hdef : w1.heap[w.heap.size]? = some (.deferred (some [])) := by
    rw [hw1]
    show (pushB (pushB w _) _).heap[_]? = _
    rw [heap_push_old _ _ _ (by simp [pushB]), heap_push_new]
  have hrec : w1.heap[w.heap.size + 1]? = some (.loop r0) := by
    rw [hw1]
    have := heap_push_new (pushB w (.deferred (some []))) (.loop r0)
    have e : (pushB w (.deferred (some []))).heap.size = w.heap.size + 1 := by simp [pushB]
    rw [e] at this; exact this
  have hnewm : ∀ b, w.heap.size ≤ b → cx.mine b := h.mem.new
  have hm1' : ∀ b, w1.heap.size ≤ b → cx.mine b := fun b hb => hnewm b (by omega)
  obtain ⟨⟨fnc, hfn, hbody, hname⟩, hgo⟩ := hY (w.heap.size + 1)
  have hinv : (invoke (Target.fn (.func fid) vc) (vf ++ #[.func (.yield (w.heap.size + 1)) #[] #[]])).run P w1 = .ok (.enter fid (vf ++ #[.func (.yield (w.heap.size + 1)) #[] #[]] ++ vc)) w1 := by
    have hb' : fnc.body ≠ none := by intro e; rw [e] at hbody; cases hbody
    have hn' : fnc.name ≠ "runtime.NumGoroutine" := by intro e; rw [e] at hname; simp at hname
    simp [invoke, callFunc, hfn, hn', hb']
  have hres : (resolve a.eval (rangeCall f (w.heap.size + 1)) 0).run P w1 = .ok { target := .fn (.func fid) vc, args := vf ++ #[.func (.yield (w.heap.size + 1)) #[] #[]] } w1 := by
    simp [resolve, rangeCall, ef, Deferred.ofValue]
    rfl
  refine ⟨w.heap.size + 1, [markOf w.heap.size], w1, _, w1, fid, _, w1, ?_, hres, fun _ _ => trivial, hinv, fun e => by simp [FW] at e, FW_calls.2 ?_⟩
  · rw [hw1, hr0]
    exact run_enterLoop_outer fn a.tmps ps asg body
  obtain ⟨db, hdb⟩ : ∃ b, b = w.heap.size := ⟨_, rfl⟩
  obtain ⟨l, hl⟩ : ∃ b, b = w.heap.size + 1 := ⟨_, rfl⟩
  rw [← hdb] at hdef
  rw [← hl] at hrec
  rw [← hl] at hgo
  rw [← hl, ← hdb]
  have ll : l < w1.heap.size := by omega
  have ld : db < w1.heap.size := by omega
  have lne : l ≠ db := by omega
  have mll : cx.mine l := hnewm l (by omega)
  have nold : ∀ b o v, g.I b o = some v → b < w.heap.size := fun b o v e => h.mem.I_lt e
  let J : YS → (Nat → Prop) → (Nat → Nat → Option Value) → World → Prop := fun y N Ih W => match y with
    | .off => False
    | .run k => ∃ i g', pos i = k ∧ HostJ cx g w1 l db N Ih W g' (s.with Wd (m i)) (.loop r0)
    | .stop => ∃ e s' g', e ≠ .normal ∧ K e (s'.back (Hide Wd s.env)) ∧ Keep Wd s (s'.back (Hide Wd s.env)) ∧ HostJ cx g w1 l db N Ih W g' s' (afterJump r0 e)
  have hrely : ∀ y N I w w', J y N I w → Frame w w' (fun b => ¬ N b) → (∀ b o v, I b o = some v → w'.cell? ⟨b, o, none⟩ = some v) → J y N I w' := by
    intro y N I W W' hJ fr hc
    cases y with
    | off => exact hJ.elim
    | run k => obtain ⟨i, g', h1, h2⟩ := hJ; exact ⟨i, g', h1, h2.rely hm1' ll ld fr hc⟩
    | stop => obtain ⟨e, s', g', h1, h2, h3, h4⟩ := hJ; exact ⟨e, s', g', h1, h2, h3, h4.rely hm1' ll ld fr hc⟩
  have hround : ∀ k N Ih I W (vs : Array Value) ds, J (.run k) N Ih W → SubI Ih I → nth xs k = some ds → vs.size = ds.length → (∀ (i : Nat) v d, vs[i]? = some v → nth ds i = some d → RepI I v d) →
      Cells I W → (∀ b o v, I b o = some v → g.I b o = some v ∨ ¬ N b) → (∀ b, W.heap.size ≤ b → ¬ N b) →
      ∃ fn tmps assign body, (Instr.yield l vs).run P W = .ok (.round l fn tmps assign body) W ∧ ∀ n, RoundIn Fence.wide n P l fn tmps assign body W (RoundDone J k N I W) := by
    intro k N Ih I W vs ds hJ hsI hds hsz hrep hcells hI0 hnN
    obtain ⟨i, g', hpos, hJ⟩ := hJ
    have hx := mem_of_nth' hds
    have hvs : vs.size = ps.size := by rw [hsz, hlen ds hx]; simp
    refine ⟨r0.fn, (r0.params.zip vs).foldl (fun tmps (t, a) => tmps.setIfInBounds t a) r0.tmps, r0.assign, r0.body, run_yield hJ.rc (by rw [hr0]; exact hvs), fun n' => ?_⟩
    have e0 : r0.assign = asg ∧ r0.body = body ∧ r0.tmps = a.tmps ∧ r0.params = ps := by rw [hr0]; exact ⟨rfl, rfl, rfl, rfl⟩
    rw [e0.1, e0.2.1, e0.2.2.1, e0.2.2.2]
    obtain ⟨gR, hgR⟩ : ∃ gR : Gh, gR = { g' with I := fun b o => match g'.I b o with | some v => some v | none => I b o } := ⟨_, rfl⟩
    have sub1 : SubI g'.I gR.I := fun b o v e => by rw [hgR]; dsimp only; rw [e]
    have sub2 : SubI I gR.I := fun b o v e => by
      rw [hgR]; dsimp only
      cases hx : g'.I b o with
      | none => exact e
      | some u =>
        have h1 := (hJ.mem.iw b o u hx).1
        rw [(hcells b o v e).1] at h1
        exact h1.symm
    have back : ∀ b o v, gR.I b o = some v → g'.I b o = some v ∨ I b o = some v := fun b o v e => by
      rw [hgR] at e; dsimp only at e
      cases hx : g'.I b o with
      | none => rw [hx] at e; exact .inr e
      | some u => rw [hx] at e; exact .inl e
    have cellsR : Cells gR.I W := fun b o v e => by
      rcases back b o v e with k | k
      · exact hJ.mem.iw b o v k
      · exact hcells b o v k
    have q1 : l < W.heap.size := Nat.lt_of_lt_of_le ll hJ.big
    have q2 : db < W.heap.size := Nat.lt_of_lt_of_le ld hJ.big
    have q3 : N l ∧ N db := ⟨hJ.old l ll, hJ.old db ld⟩
    have q4 : ∀ b, W.heap.size ≤ b → cx.mine b := fun b hb => hm1' b (Nat.le_trans hJ.big hb)
    have extR : Ext g gR := hJ.ext.trans (by rw [hgR]; exact ext_I (by rw [hgR] at sub1; exact sub1))
    have memR : Mem (cxR cx l db N W gR.I (.loop r0) q1 q2 q3 q4) gR (s.with Wd (m i)) W := by
      have := hJ.mem.after (cx' := cxR cx l db N W gR.I (.loop r0) q1 q2 q3 q4) (I' := gR.I) sub1 cellsR (fun _ _ _ => rfl) (fun b o v e h1 h2 => by
        rcases back b o v e with k | k
        · exact k
        · rcases hI0 b o v k with k2 | k2
          · exact hJ.ext.I b o v k2
          · rcases h1 with h1 | h1
            · exact absurd h1.2.1 k2
            · omega) (fun b _ h2 => h2) (fun b o v e => .inl e) ⟨cx.st _ _ _ _ hJ.fr sub1 (Frame.refl W _) cellsR q4, hJ.rc, hJ.def', Nat.le_refl _, fun _ _ _ => rfl⟩ (fun b hb => .inr hb)
      rw [hgR] at this ⊢; exact this
    have relR : Rel (cxR cx l db N W gR.I (.loop r0) q1 q2 q3 q4) gR ((s.with Wd (m i)).params ps.toList ds) { tmps := (ps.zip vs).foldl (fun tmps (t, a) => tmps.setIfInBounds t a) a.tmps, defers := [] } W := by
      have e1 : (ps.zip vs).foldl (fun tmps (t, a) => tmps.setIfInBounds t a) a.tmps = (ps.toList.zip vs.toList).foldl (fun tmps x => tmps.setIfInBounds x.1 x.2) a.tmps := by
        rw [← Array.foldl_toList, Array.toList_zip]
      refine ⟨fun t d ht => ?_, ?_, rfl, memR.names rfl rfl⟩
      · rw [e1]
        refine params_env ps.toList ds _ a.tmps vs.toList (by simpa using hsz) (fun t ht => by rw [h.size]; exact hps t ht) (fun i v d hv hd => .pure ((hrep i v d (by rw [nth_eq] at *; simpa using hv) hd).mono sub2)) (fun t d ht => ?_) t d ht
        exact (h.env t d (env0 i t d ht)).mono extR
      · rw [e1]
        have : ∀ (l : List (Nat × Value)) (t : Array Value), (l.foldl (fun tmps x => tmps.setIfInBounds x.1 x.2) t).size = t.size := by
          intro l
          induction l with
          | nil => intro t; rfl
          | cons x l ih => intro t; rw [List.foldl_cons, ih]; simp
        rw [this]; exact h.size
    refine roundIn_of_wpIn (F := Fence.wide) trivial ?_
    have hrun := (hall i).2.1 ds (by rw [hpos]; exact hds)
    have kp0 : Keep Wd s (s.with Wd (m i)) := with_keep (fit i)
    have nm0 : Nm ((s.with Wd (m i)).params ps.toList ds) := kp0.nm hn
    have sP : ∀ t ∈ ps.toList, t ∈ Wd := fun t ht => by rw [hWd]; simp [ht]
    have sA : ∀ t ∈ dsts c.hint asg, t ∈ Wd := fun t ht => by rw [hWd]; simp [ht]
    have sB : ∀ t ∈ dsts c.hint body, t ∈ Wd := fun t ht => by rw [hWd]; simp [ht]
    refine ihA l (cxR cx l db N W gR.I (.loop r0) q1 q2 q3 q4) rfl n' _ _ gR _ W _ hrun relR hs nm0 fun e s1 g1 a1 w2 k1 k2 k3 k4 => ?_
    cases e with
    | exit id => exact k1.elim
    | ret => exact k1.elim
    | normal =>
      have kp1 : Keep Wd (s.with Wd (m i)) s1 := (Keep.params _ _ _).trans k2 sP sA
      have fr1 := k4.mem.frame
      obtain ⟨f1, f2, f3, f4, f5⟩ := fr1
      refine ⟨_, run_beginRound f2 r0s.1, ?_⟩
      have lt2 : l < w2.heap.size := by omega
      have other : ∀ b, b ≠ l → (w2.putObj l (.loop { r0 with state := .busy })).heap[b]? = w2.heap[b]? := fun b hb => World.putObj_heap_other hb
      have noI : ∀ b o v, g1.I b o = some v → b ≠ l := fun b o v e hb => by
        subst hb
        obtain ⟨_, _, _, h⟩ := cell_obj (k4.mem.iw b o v e).1 f2
        cases h
      have cells1 : Cells g1.I (w2.putObj l (.loop { r0 with state := .busy })) := fun b o v e => ⟨(cell_same (other b (noI b o v e))).trans (k4.mem.iw b o v e).1, (k4.mem.iw b o v e).2⟩
      have memB : Mem (cxR cx l db N W gR.I (.loop { r0 with state := .busy }) q1 q2 q3 q4) g1 s1 (w2.putObj l (.loop { r0 with state := .busy })) := by
        refine k4.mem.after (I' := g1.I) (fun _ _ _ e => e) cells1 (fun b h1 h2 => other b ?_) (fun b o v e _ _ => e) (fun b _ h2 => h2) (fun b o v e => k4.mem.newI b o v e)
          ⟨cx.st _ _ _ _ f1 (fun _ _ _ e => e) ⟨rfl, rfl, rfl, by simp, fun b _ hb => other b (fun e => hb (by rw [e]; exact mll))⟩ cells1 (fun b hb => q4 b (by omega)), World.putObj_heap_same lt2, (other db (Ne.symm lne)).trans f3, by simpa using f4, fun b hb hN => ?_⟩ (fun b hb => .inr (by simp at hb; omega))
        · rcases h2 with h2 | h2
          · exact h2.2.2.1
          · omega
        · rw [other b (fun e => hN (by rw [e]; exact q3.1))]; exact f5 b hb hN
      have relB : Rel (cxR cx l db N W gR.I (.loop { r0 with state := .busy }) q1 q2 q3 q4) g1 s1 a1 (w2.putObj l (.loop { r0 with state := .busy })) := ⟨k4.env, k4.size, k4.defers, memB⟩
      refine ihB l (cxR cx l db N W gR.I (.loop { r0 with state := .busy }) q1 q2 q3 q4) rfl n' _ _ g1 _ _ _ k1 relB (k2.y hs) (k2.nm nm0) fun e s2 g2 a2 w3 j1 j2 j3 j4 => ?_
      have kp2 : Keep Wd (s.with Wd (m i)) s2 := kp1.trans j2 (fun _ h => h) sB
      have hfin : ∀ (g3 : Gh) (s3 : St) (rec' : Obj), Ext g g3 → SubI gR.I g3.I → Mem (cxR cx l db N W gR.I (.loop { r0 with state := .busy }) q1 q2 q3 q4) g3 s3 w3 →
          HostJ cx g w1 l db (fun b => N b ∨ (W.heap.size ≤ b ∧ b < (w3.putObj l rec').heap.size)) I (w3.putObj l rec') g3 s3 rec' ∧ W.heap.size ≤ (w3.putObj l rec').heap.size ∧
            (∀ b, b < W.heap.size → ¬ N b → (w3.putObj l rec').heap[b]? = W.heap[b]?) ∧ Cells I (w3.putObj l rec') := fun g3 s3 rec' x1 x2 x3 =>
        host_after hm1' hJ.old hJ.lt hJ.big ll ld lne mll x1 sub2 x2 (fun b o v e => by
            rcases back b o v e with k | k
            · exact (hJ.shown b o v k).imp id (hsI b o v)
            · exact .inr k) (fun b o v e => by
            rcases back b o v e with k | k
            · exact hJ.newI b o v k
            · rcases hI0 b o v k with k2 | k2
              · exact h.mem.newI b o v k2
              · exact .inr (hm1' b (by rcases Nat.lt_or_ge b w1.heap.size with z | z; exact absurd (hJ.old b z) k2; exact z))) x3 (fun _ _ _ e => by cases e)
      have frB := j4.mem.frame
      refine roundPost_of (r := r0) frB.2.1 r0s ?_
      cases e with
      | normal =>
        obtain ⟨j, hj1, hj2⟩ := j1
        obtain ⟨g3, x1, x2, x3⟩ := loop_round h (extR.trans (k3.trans j3)) j4 hn (fit i) (fit j) kp2 hdH hdR hj2
        obtain ⟨z1, z2, z3, z4⟩ := hfin g3 (s.with Wd (m j)) (afterJump r0 .normal) x1 (fun b o v e => by rw [x3]; exact j3.I b o v (k3.I b o v e)) x2.mem
        exact ⟨z2, z3, z4, .run (k + 1), .inl ⟨rfl, rfl⟩, j, g3, by rw [hj1, hpos], z1⟩
      | exit id =>
        obtain ⟨z1, z2, z3, z4⟩ := hfin g2 s2 (afterJump r0 (.exit id)) (extR.trans (k3.trans j3)) (fun b o v e => j3.I b o v (k3.I b o v e)) j4.mem
        refine ⟨z2, z3, z4, .stop, .inr ⟨rfl, rfl⟩, .exit id, s2, g2, (fun e => by cases e), j1, ?_, z1⟩
        have kb := kp0.trans kp2 (fun _ h => h) (fun _ h => h)
        exact ⟨fun t ht => by show Hide Wd s.env t = _; rcases Hide_cases Wd s.env t with ⟨x, _⟩ | ⟨_, x⟩; exact absurd x ht; exact x, kb.H, kb.R, kb.liveH, kb.liveR, kb.nm, kb.y⟩
      | ret =>
        obtain ⟨z1, z2, z3, z4⟩ := hfin g2 s2 (afterJump r0 .ret) (extR.trans (k3.trans j3)) (fun b o v e => j3.I b o v (k3.I b o v e)) j4.mem
        refine ⟨z2, z3, z4, .stop, .inr ⟨rfl, rfl⟩, .ret, s2, g2, (fun e => by cases e), j1, ?_, z1⟩
        have kb := kp0.trans kp2 (fun _ h => h) (fun _ h => h)
        exact ⟨fun t ht => by show Hide Wd s.env t = _; rcases Hide_cases Wd s.env t with ⟨x, _⟩ | ⟨_, x⟩; exact absurd x ht; exact x, kb.H, kb.R, kb.liveH, kb.liveR, kb.nm, kb.y⟩
  let host : Host P l xs := { J := J, I0 := g.I, on := fun y N I w hJ e => by subst e; exact hJ, rely := hrely, round := hround }
  have mine1 : ∀ b, b < w.heap.size → cx.mine b → (cxH cx l db (fun b => b < w1.heap.size) w1 g.I).mine b := fun b h1 h2 => .inl ⟨h2, by omega, by omega, by omega⟩
  have big1 : Mem (cxH cx l db (fun b => b < w1.heap.size) w1 g.I) g s w1 :=
    h.mem.after (I' := g.I) (fun _ _ _ e => e) hm1.iw (fun b hb _ => by
      rw [hw1]
      show (pushB (pushB w _) _).heap[b]? = _
      rw [heap_push_old _ _ _ (by simp [pushB]; omega), heap_push_old _ _ _ hb]) (fun b o v e _ _ => e) mine1 (fun b o v e => .inl e) trivial (fun b hb => .inr hb)
  have hJ0 : J (.run 0) (fun b => b < w1.heap.size) g.I w1 := by
    refine ⟨i0, g, hp0, Ext.refl g, fun _ _ _ e => e, fun b o v e => .inr e, hm1.newI, fun b hb => hb, fun b hb => hb, hm1.frame, hdef, hrec, ?_⟩
    have e1 : Rel (cxH cx l db (fun b => b < w1.heap.size) w1 g.I) g s { tmps := a.tmps, defers := [] } w1 := ⟨h.env, h.size, rfl, big1⟩
    exact (loop_enter e1 hn (fit i0) hh).mem
  refine Calls.mono (hgo host (fun b => b < w1.heap.size) g.I w1 _ (by simp [hvf, hvc]; omega) (fun i v d hv hd' => ?_) hm1.iw (fun b o v e => .inl e) (fun b hb => by omega) ⟨g.I, hJ0, fun _ _ _ e => e⟩) fun e w3 he => ?_
  · have pf : ∀ (i : Nat) v d, vf[i]? = some v → nth first i = some d → RepI g.I v d := fun i v d h1 h2 => by
      obtain ⟨p1, p2, p3⟩ := pureGo_cell' _ hpure.1 i d h2; exact pure_flat p1 p2 p3 (rf i v d h1 h2)
    have pc : ∀ (i : Nat) v d, vc[i]? = some v → nth cap i = some d → RepI g.I v d := fun i v d h1 h2 => by
      obtain ⟨p1, p2, p3⟩ := pureGo_cell' _ hpure.2 i d h2; exact pure_flat p1 p2 p3 (rc i v d h1 h2)
    rw [nth_eq] at hd'
    by_cases h1 : i < first.length
    · rw [List.append_assoc, List.getElem?_append_left h1] at hd'
      rw [Array.append_assoc, Array.getElem?_append_left (by omega)] at hv
      exact pf i v d hv (by rw [nth_eq]; exact hd')
    · by_cases h2 : i < first.length + 1
      · have e1 : i = first.length := by omega
        subst e1
        rw [List.getElem?_append_left (by simp), List.getElem?_append_right (by omega)] at hd'
        rw [Array.getElem?_append_left (by simp; omega), Array.getElem?_append_right (by omega)] at hv
        simp at hd'
        simp [hvf] at hv
        subst hd'; subst hv
        exact .yld _
      · rw [List.getElem?_append_right (by simp; omega)] at hd'
        rw [Array.getElem?_append_right (by simp; omega)] at hv
        refine pc (i - (first ++ [Dat.yld l]).length) v d ?_ (by rw [nth_eq]; exact hd')
        have : (vf ++ #[Value.func (.yield l) #[] #[]]).size = (first ++ [Dat.yld l]).length := by simp [hvf]
        rw [this] at hv
        exact hv
  cases e with
  | panicked ch => exact he.elim
  | outgrown => exact he.elim
  | returned v =>
    obtain ⟨r, y, N', I', x1, x2, x3, x4, x5, x6, x7, ⟨Ih, x8, x9⟩, x10, x11⟩ := he
    have lend : ∀ {g' : Gh} {s' : St} {rec : Obj} {o : Obj} (_ : HostJ cx g w1 l db N' Ih w3 g' s' rec) (_ : ∀ c e fz, rec ≠ .cells c e fz),
        ∃ cx', CxT cx cx' .off false ∧ cx'.D = markOf db :: cx.D ∧ cx'.n = cx.n ∧ Mem cx' g' s' (w3.putObj l o) := fun {g' s' rec o} hJ hr => by
      have lt3 : l < w3.heap.size := Nat.lt_of_lt_of_le ll hJ.big
      have other : ∀ b, b ≠ l → (w3.putObj l o).heap[b]? = w3.heap[b]? := fun b hb => World.putObj_heap_other hb
      have noI : ∀ b o v, g'.I b o = some v → b ≠ l ∧ b ≠ db := fun b o v e => by
        refine ⟨fun hb => ?_, fun hb => ?_⟩
        · subst hb
          obtain ⟨c, t, fz, h⟩ := cell_obj (hJ.mem.iw b o v e).1 hJ.rc
          exact hr _ _ _ h
        · subst hb
          obtain ⟨c, t, fz, h⟩ := cell_obj (hJ.mem.iw b o v e).1 hJ.def'
          cases h
      have cells : Cells g'.I (w3.putObj l o) := fun b o v e => ⟨(cell_same (other b (noI b o v e).1)).trans (hJ.mem.iw b o v e).1, (hJ.mem.iw b o v e).2⟩
      have z1 : db < w1.heap.size := ld
      refine ⟨cxE cx db w1 z1 hm1', ⟨rfl, fun _ => rfl, fun _ b k => k.1, fun _ I w k => k.1, fun _ B hB ⟨bs, k1, k2, k3, k4⟩ => ?_, fun _ k => by cases k⟩, rfl, rfl, ?_⟩
      · refine ⟨db :: bs, by show markOf db :: cx.D = _; rw [k1]; rfl, List.nodup_cons.2 ⟨fun hm => ?_, k2⟩, fun I w k b hb => ?_, fun b hb => ?_⟩
        · have := lt_of_blk (k3 g.I w h.mem.frame db hm).2
          omega
        · rcases List.mem_cons.1 hb with hb | hb
          · subst hb; exact ⟨by rw [hdb]; exact hB _ _ h.mem.frame, k.2.1⟩
          · exact k3 I w k.1 b hb
        · rcases List.mem_cons.1 hb with hb | hb
          · subst hb; exact fun e => e.2 rfl
          · exact fun e => k4 b hb e.1
      · refine hJ.mem.after (I' := g'.I) (fun _ _ _ e => e) cells (fun b h1 h2 => other b ?_) (fun b o v e _ _ => e) (fun b h1 h2 => ?_) (fun b o v e => ?_)
          ⟨cx.st _ _ _ _ hJ.fr (fun _ _ _ e => e) ⟨rfl, rfl, rfl, by simp, fun b _ hb => other b (fun e => hb (by rw [e]; exact mll))⟩ cells (fun b hb => hm1' b (Nat.le_trans hJ.big hb)), (other db (Ne.symm lne)).trans hJ.def', by simpa using hJ.big⟩ (fun b hb => ?_)
        · rcases h2 with h2 | h2
          · exact h2.2.2.1
          · omega
        · rcases h2 with h2 | h2
          · exact ⟨h2.1, h2.2.2.2⟩
          · omega
        · exact (hJ.newI b o v e).imp id fun k => ⟨k, (noI b o v e).2⟩
        · have hb' : w3.heap.size ≤ b := by simpa using hb
          have := hJ.big
          exact ⟨hm1' b (by omega), by omega⟩
    rcases x1 with rfl | rfl
    · obtain ⟨i, g', p1, hJ⟩ := x8
      obtain ⟨cx', c1, c2, c3, c4⟩ := lend (o := .loop { r0 with state := .exhausted }) hJ (fun _ _ _ e => by cases e)
      refine ⟨none, w3.putObj l (.loop { r0 with state := .exhausted }), ?_, ?_⟩
      · exact (run_endLoop (P := P) hJ.rc (by rw [r0s.1]; intro e; cases e)).trans (by rw [r0s.2])
      · exact hq .normal _ cx' g' _ _ ((hall i).2.2 p1) (with_keep (fit i)) c1 hJ.ext ⟨fun t d ht => (h.env t d (env0 i t d ht)).mono hJ.ext, by rw [c3]; exact h.size, by rw [c2, ← h.defers]; rfl, c4⟩
    · obtain ⟨e, s', g', p1, p2, p3, hJ⟩ := x8
      have er : afterJump r0 e = .loop { r0 with state := .done, pending := some (jumpOf e) } := by cases e <;> first | rfl | exact absurd rfl p1
      have hJ' := hJ
      rw [er] at hJ
      obtain ⟨cx', c1, c2, c3, c4⟩ := lend (o := .loop { r0 with state := .exhausted, pending := some (jumpOf e) }) hJ (fun _ _ _ e => by cases e)
      have hrel : Rel cx' g' (s'.back (Hide Wd s.env)) { a with defers := [markOf db] ++ a.defers } (w3.putObj l (.loop { r0 with state := .exhausted, pending := some (jumpOf e) })) := by
        refine ⟨fun t d ht => (h.env t d ?_).mono hJ.ext, by rw [c3]; exact h.size, by rw [c2, ← h.defers]; rfl, c4.names rfl rfl⟩
        rcases Hide_cases Wd s.env t with ⟨_, k⟩ | ⟨_, k⟩
        · have : Hide Wd s.env t = some d := ht
          rw [k] at this; cases this
        · exact k ▸ ht
      have hQ := hq e _ cx' g' _ _ p2 p3 c1 hJ.ext hrel
      refine ⟨some (jumpOf e), w3.putObj l (.loop { r0 with state := .exhausted, pending := some (jumpOf e) }), ?_, ?_⟩
      · exact run_endLoop (P := P) hJ.rc (by intro e; cases e)
      · cases e with
        | normal => exact absurd rfl p1
        | exit id => exact wpIn_exit hQ
        | ret => exact wpIn_ret hQ
end Abs
namespace Abs
open Go
def codeB (P : Program) (n : Nat) : Code → Bool
  | .region _ ops _ => opsB P n ops
  | .seq a b => codeB P n a && codeB P n b
  | .cond _ a b => codeB P n a && codeB P n b
  | .block _ b => codeB P n b
  | .loop b => codeB P n b
  | .rangeFunc _ ps a b => ps.toList.all (fun t => Nat.blt t n) && (codeB P n a && (codeB P n b && (noRF a && noRF b)))
  | _ => true
theorem least {p : Nat → Prop} (h : ∃ j, p j) : ∃ j, p j ∧ ∀ i, i < j → ¬ p i := by
  obtain ⟨j, hj⟩ := h
  induction j using Nat.strongRecOn with
  | _ j ih =>
    by_cases hx : ∃ i, i < j ∧ p i
    · obtain ⟨i, hi, hp⟩ := hx
      exact ih i hi hp
    · exact ⟨j, hj, fun i hi hp => hx ⟨i, hi, hp⟩⟩
section
variable {P : Program} {c : Cfg}
theorem Rel.at' {cx : Cx} {g : Gh} {s : St} {a : Act} {w : World} (h : Rel cx g s a w) (y : YS) : Rel cx g (s.at y) a w := ⟨h.env, h.size, h.defers, h.mem.names rfl rfl⟩
theorem exLine_keep {all : List Oper} : ∀ {l : List Oper} {s : St} {K : St → Prop}, exLine P c all l s K → exLine P c all l s fun s' => Keep (l.flatMap fun o => tmpOf o.dst) s s' ∧ K s'
  | [], s, K, hk => ⟨Keep.refl _ _, hk⟩
  | o :: l, s, K, hk => by
    rw [exLine_cons] at hk ⊢
    have up : ∀ {a b : St}, Keep (tmpOf o.dst) s a → Keep (l.flatMap fun o => tmpOf o.dst) a b → Keep ((o :: l).flatMap fun o => tmpOf o.dst) s b := fun ha hb =>
      ha.trans hb (fun t ht => by simp [ht]) (fun t ht => by
        rw [List.flatMap_cons]; exact List.mem_append_right _ ht)
    refine guardOf_mono hk (fun h1 => ?_) (fun h1 => exLine_mono (exLine_keep h1) fun s' h3 => ⟨up (Keep.forget s o.dst) h3.1, h3.2⟩)
    have nx : ∀ s1, Keep (tmpOf o.dst) s s1 → (norm o.dst (plan P o (getT P s)) s1 fun s' => exLine P c all l s' K) →
        norm o.dst (plan P o (getT P s)) s1 fun s' => exLine P c all l s' fun s' => Keep ((o :: l).flatMap fun o => tmpOf o.dst) s s' ∧ K s' := fun s1 k h2 => by
      rw [norm_eq] at h2 ⊢
      exact exLine_mono (exLine_keep h2) fun s' h3 => ⟨up k h3.1, h3.2⟩
    have pl : exPlan P c o.dst s (fun s1 => norm o.dst (plan P o (getT P s)) s1 fun s' => exLine P c all l s' K) (plan P o (getT P s)) →
        exPlan P c o.dst s (fun s1 => norm o.dst (plan P o (getT P s)) s1 fun s' => exLine P c all l s' fun s' => Keep ((o :: l).flatMap fun o => tmpOf o.dst) s s' ∧ K s') (plan P o (getT P s)) := fun h1 =>
      plan_mono h1 fun s1 k _ h2 => nx s1 k h2
    have py : ∀ (s1 : St) (k1 : LKeep s s1) (y0 : s.y ≠ .off) (d : Dat) (y : YS), Keep (tmpOf o.dst) s (s1.putY o.dst d y) := fun s1 k1 y0 d y => by
      have h0 := (Keep.of_laid k1 (tmpOf o.dst)).trans (Keep.put s1 o.dst d) (U := tmpOf o.dst) (fun _ h => h) (fun _ h => h)
      cases hd : o.dst with
      | none => rw [hd] at h0; exact ⟨h0.env, h0.H, h0.R, h0.liveH, h0.liveR, h0.nm, fun e => absurd e y0⟩
      | some t => rw [hd] at h0; exact ⟨h0.env, h0.H, h0.R, h0.liveH, h0.liveR, h0.nm, fun e => absurd e y0⟩
    revert h1 nx pl
    generalize plan P o (getT P s) = p
    generalize callOf o = b
    intro h1 nx pl
    cases b with
    | false => exact pl h1
    | true =>
      cases p with
      | yield ly args =>
        simp only [exY] at h1 ⊢
        split at h1
        · rename_i k hk1
          have y0 : s.y ≠ .off := by rw [hk1]; intro e; cases e
          refine leakAll_mono (keep_leakAll h1) fun s1 ds ⟨k1, h2⟩ => ?_
          exact ⟨h2.h, nx _ (py s1 k1 y0 _ _) h2.k.a, nx _ (py s1 k1 y0 _ _) h2.k.b⟩
        · exact h1.elim
      | ycall f args =>
        simp only [exY] at h1 ⊢
        split at h1
        · rename_i k hk1
          have y0 : s.y ≠ .off := by rw [hk1]; intro e; cases e
          refine leakAll_mono (keep_leakAll h1) fun s1 ds ⟨k1, h2⟩ => ?_
          obtain ⟨Q, q1, q2⟩ := h2.out
          exact ⟨Q, q1, allK_mono (fun r y hQ => nx _ (py s1 k1 y0 _ _) hQ) q2⟩
        · exact h1.elim
      | _ => exact pl h1
 where exLine_mono : ∀ {l : List Oper} {s : St} {K K' : St → Prop}, exLine P c all l s K → (∀ s, K s → K' s) → exLine P c all l s K'
  | [], s, K, K', hk, h => h _ hk
  | o :: l, s, K, K', hk, h => by
    rw [exLine_cons] at hk ⊢
    refine guardOf_mono hk (fun h1 => ?_) (fun h1 => exLine_mono h1 h)
    have nx : ∀ s1, (norm o.dst (plan P o (getT P s)) s1 fun s' => exLine P c all l s' K) → norm o.dst (plan P o (getT P s)) s1 fun s' => exLine P c all l s' K' := fun s1 h2 => by
      rw [norm_eq] at h2 ⊢
      exact exLine_mono h2 h
    have pl : exPlan P c o.dst s (fun s1 => norm o.dst (plan P o (getT P s)) s1 fun s' => exLine P c all l s' K) (plan P o (getT P s)) →
        exPlan P c o.dst s (fun s1 => norm o.dst (plan P o (getT P s)) s1 fun s' => exLine P c all l s' K') (plan P o (getT P s)) := fun h1 =>
      plan_mono h1 fun s1 _ _ h2 => nx s1 h2
    revert h1 nx pl
    generalize plan P o (getT P s) = p
    generalize callOf o = b
    intro h1 nx pl
    cases b with
    | false => exact pl h1
    | true =>
      cases p with
      | yield ly args =>
        simp only [exY] at h1 ⊢
        split at h1
        · refine leakAll_mono h1 fun s1 ds h2 => ?_
          exact ⟨h2.h, nx _ h2.k.a, nx _ h2.k.b⟩
        · exact h1.elim
      | ycall f args =>
        simp only [exY] at h1 ⊢
        split at h1
        · refine leakAll_mono h1 fun s1 ds h2 => ?_
          obtain ⟨Q, q1, q2⟩ := h2.out
          exact ⟨Q, q1, allK_mono (fun r y hQ => nx _ hQ) q2⟩
        · exact h1.elim
      | _ => exact pl h1
theorem adopt_y {V W : List Nat} : ∀ {ad : List Ad} {s : St} {K : St → Prop}, adopt V W ad s K → adopt V W ad s fun s' => s'.y = s.y ∧ K s'
  | [], s, K, hk => ⟨rfl, hk⟩
  | .tmp t k :: ad, s, K, hk => by
    rw [adopt_tmp] at hk ⊢
    split at hk
    · split at hk
      · exact adopt_y (K := K) hk
      · exact hk.elim
    · exact hk.elim
  | .cell l j k :: ad, s, K, hk => by
    rw [adopt_cell] at hk ⊢
    split at hk
    · split at hk
      · split at hk
        · exact adopt_y (K := K) hk
        · exact hk.elim
      · exact hk.elim
    · exact hk.elim
  | .lay t :: ad, s, K, hk => by
    rw [adopt_lay] at hk ⊢
    split at hk
    · split at hk
      · refine leak_mono (keep_leak hk) fun s1 d1 ⟨k1, h1⟩ => ?_
        have := adopt_y (K := K) h1
        rw [← k1.y]; exact this
      · exact hk.elim
    · exact hk.elim
  | .layCell l j :: ad, s, K, hk => by
    rw [adopt_layCell] at hk ⊢
    split at hk
    · split at hk
      · refine leakCell_mono (keep_leakCell hk) fun s1 d1 ⟨k1, h1⟩ => ?_
        split at h1
        · exact h1.elim
        · have := adopt_y (K := K) h1
          rw [← k1.y]; exact this
      · exact hk.elim
    · exact hk.elim
open Classical in
theorem ex_sound (hm : P.follows .mixedOrders = true) (hok : CfgOk P c) {M : Option (Mode P c)} :
    ∀ (code : Code) {ro : Option Nat} {n : Nat} {cx : Cx}, codeB P cx.n code = true → (noRF code = true ∨ ro = none) → ∀ (s : St) (K : Out → St → Prop) (g : Gh) (a : Act) (w : World) (Q : Go.Exit → Act → World → Prop),
      ex P c code s K → Rel cx g s a w → YOk M cx s.y → Nm s →
      (∀ e s' cx' g' a' w', K e s' → Keep (dsts c.hint code) s s' → CxT cx cx' s.y (noRF code) → YOk M cx' s'.y → Ext g g' → Rel cx' g' s' a' w' → Q (toExit e) a' w') → code.wpIn (FW ro) n P Q a w
  | .skip, ro, n, cx, _, _, s, K, g, a, w, Q, hk, h, hy, hn, hq => wpIn_skip (hq .normal s cx g a w hk (Keep.refl _ _) (.refl _ _ _) hy (Ext.refl g) h)
  | .label l, ro, n, cx, _, _, s, K, g, a, w, Q, hk, h, hy, hn, hq => wpIn_label (hq .normal s cx g a w hk (Keep.refl _ _) (.refl _ _ _) hy (Ext.refl g) h)
  | .region id ops d, ro, n, cx, hB, _, s, K, g, a, w, Q, hk, h, hy, hn, hq => by
    rw [ex_region] at hk
    obtain ⟨s0, g0, ⟨ey, hk⟩, hg0, h, kp⟩ := adopt_sound (U := dsts c.hint (.region id ops d)) (fun _ h => h) (fun _ h => h) (adopt_y hk) h
    refine region_sound (K := fun s' => Keep (dsts c.hint (.region id ops d)) s s' ∧ K .normal s') hm hB hok ?_ h (by rw [ey]; exact hy) fun s' cx' g' a' w' k1 k2 k3 k4 k5 => hq .normal s' cx' g' a' w' k1.2 k1.1 (CxT.of (by rw [← ey]; exact k2)) k3 (hg0.trans k4) k5
    have sub : ∀ t ∈ (ops.toList.flatMap fun o => tmpOf o.dst), t ∈ dsts c.hint (.region id ops d) := fun t ht => List.mem_append_right _ ht
    cases d with
    | true =>
      dsimp only at hk ⊢
      rw [exOps_eq] at hk
      refine exOps_mono hk fun rs s' k1 h1 => ⟨h1.h, (eqP_det h1.k).2 _ ⟨kp.trans k1 (fun _ h => h) sub, (eqP_det h1.k).1⟩⟩
    | false =>
      dsimp only at hk ⊢
      exact exLine_keep.exLine_mono (exLine_keep hk) fun s' h1 => ⟨kp.trans h1.1 (fun _ h => h) sub, h1.2⟩
  | .seq x y, ro, n, cx, hB, hr, s, K, g, a, w, Q, hk, h, hy, hn, hq => by
    unfold codeB at hB
    rw [Bool.and_eq_true] at hB
    have hr1 : noRF x = true ∨ ro = none := hr.imp (fun e => by unfold noRF at e; rw [Bool.and_eq_true] at e; exact e.1) id
    have hr2 : noRF y = true ∨ ro = none := hr.imp (fun e => by unfold noRF at e; rw [Bool.and_eq_true] at e; exact e.2) id
    rw [ex_seq] at hk
    refine wpIn_seq (ex_sound hm hok x hB.1 hr1 s _ g a w _ hk h hy hn fun e s' cx' g' a' w' h1 h2 h3 hy' h4 h5 => ?_)
    have up : Keep (dsts c.hint (.seq x y)) s s' := h2.sub (fun t ht => by simp [dsts, ht])
    have weak : ∀ {s'' : Bool}, noRF (.seq x y) = true → noRF x = true := fun e => by unfold noRF at e; rw [Bool.and_eq_true] at e; exact e.1
    cases e with
    | normal =>
      refine ex_sound hm hok y (by rw [h3.n]; exact hB.2) hr2 s' _ g' a' w' _ h1 h5 hy' (h2.nm hn) fun e s'' cx'' g'' a'' w'' k1 k2 k3 ky k4 k5 => hq e s'' cx'' g'' a'' w'' k1 ?_ ?_ ky (h4.trans k4) k5
      · exact h2.trans k2 (fun t ht => by simp [dsts, ht]) (fun t ht => by simp [dsts, ht])
      · exact h3.trans k3 h2.y
    | exit id => exact hq (.exit id) s' cx' g' a' w' h1 up (h3.weak (fun e => by unfold noRF at e; rw [Bool.and_eq_true] at e; exact e.1)) hy' h4 h5
    | ret => exact hq .ret s' cx' g' a' w' h1 up (h3.weak (fun e => by unfold noRF at e; rw [Bool.and_eq_true] at e; exact e.1)) hy' h4 h5
  | .cond x y z, ro, n, cx, hB, hr, s, K, g, a, w, Q, hk, h, hy, hn, hq => by
    unfold codeB at hB
    rw [Bool.and_eq_true] at hB
    have hr1 : noRF y = true ∨ ro = none := hr.imp (fun e => by unfold noRF at e; rw [Bool.and_eq_true] at e; exact e.1) id
    have hr2 : noRF z = true ∨ ro = none := hr.imp (fun e => by unfold noRF at e; rw [Bool.and_eq_true] at e; exact e.2) id
    rw [ex_cond] at hk
    split at hk
    · rename_i t ht
      have hb : a.eval x = .bool t := by
        have key : ∀ {v : Value}, Rep g v (.bool t) → v = .bool t := fun {v} hr => by
          cases hr with
          | pure r => cases r; rfl
        exact key (h.get ht)
      refine wpIn_cond_split hb (fun e => ?_) (fun e => ?_)
      · exact ex_sound hm hok y hB.1 hr1 s K g a w Q (hk.t e) h hy hn fun e s' cx' g' a' w' h1 h2 h3 hy' h4 h5 => hq e s' cx' g' a' w' h1 (h2.sub (fun t ht => by simp [dsts, ht])) (h3.weak (fun e => by unfold noRF at e; rw [Bool.and_eq_true] at e; exact e.1)) hy' h4 h5
      · exact ex_sound hm hok z hB.2 hr2 s K g a w Q (hk.f e) h hy hn fun e s' cx' g' a' w' h1 h2 h3 hy' h4 h5 => hq e s' cx' g' a' w' h1 (h2.sub (fun t ht => by simp [dsts, ht])) (h3.weak (fun e => by unfold noRF at e; rw [Bool.and_eq_true] at e; exact e.2)) hy' h4 h5
    · exact hk.elim
  | .block id b, ro, n, cx, hB, hr, s, K, g, a, w, Q, hk, h, hy, hn, hq => by
    rw [ex_block] at hk
    refine wpIn_block (ex_sound hm hok b hB hr s _ g a w _ hk h hy hn fun e s' cx' g' a' w' h1 h2 h3 hy' h4 h5 => ?_)
    cases e with
    | normal => exact hq .normal s' cx' g' a' w' h1 h2 h3 hy' h4 h5
    | ret => exact hq .ret s' cx' g' a' w' h1 h2 h3 hy' h4 h5
    | exit i =>
      show if i = id then Q .normal a' w' else Q (.exit i) a' w'
      dsimp only at h1
      split at h1
      · rename_i hi
        rw [if_pos (Nat.eq_of_beq_eq_true hi)]
        exact hq .normal s' cx' g' a' w' h1 h2 h3 hy' h4 h5
      · rename_i hi
        rw [if_neg (fun e => by subst e; simp at hi)]
        exact hq (.exit i) s' cx' g' a' w' h1 h2 h3 hy' h4 h5
  | .exit id, ro, n, cx, _, _, s, K, g, a, w, Q, hk, h, hy, hn, hq => wpIn_exit (hq (.exit id) s cx g a w hk (Keep.refl _ _) (.refl _ _ _) hy (Ext.refl g) h)
  | .ret, ro, n, cx, _, _, s, K, g, a, w, Q, hk, h, hy, hn, hq => wpIn_ret (hq .ret s cx g a w hk (Keep.refl _ _) (.refl _ _ _) hy (Ext.refl g) h)
  | .loop b, ro, n, cx, hB, hr, s, K, g, a, w, Q, hk, h, hy, hn, hq => by
    rw [ex_loop] at hk
    obtain ⟨ad, hk⟩ := hk.out
    have sub : ∀ t ∈ dsts c.hint b, t ∈ dsts c.hint (.loop b) := fun t ht => by simp [dsts, ht]
    obtain ⟨s1, g0, ⟨ey, hk⟩, hg0, h, kp⟩ := adopt_sound (U := dsts c.hint (.loop b)) (rowDsts_mono (by intro t ht; simp at ht; subst ht; simp [dsts])) sub (adopt_y hk) h
    rw [← ey] at hy
    have hq : ∀ e s' cx' g' a' w', K e s' → Keep (dsts c.hint (.loop b)) s s' → CxT cx cx' s1.y (noRF b) → YOk M cx' s'.y → Ext g g' → Rel cx' g' s' a' w' → Q (toExit e) a' w' := by rw [ey]; exact hq
    have hn := kp.nm hn
    obtain ⟨ι, i0, m, ys, μ, ⟨hy0, hh⟩, hdH, hdR, hall⟩ := hk.out
    have fit : ∀ i, Fit (dsts c.hint b) s1 (m i) := fun i => ⟨(hall i).1.1, (hall i).1.2.1, (hall i).1.2.2⟩
    let J : Act → World → Nat → Prop := fun a w j => ∃ i g' cx', μ i = j ∧ Ext g0 g' ∧ CxT cx cx' s1.y (noRF b) ∧ (s1.y = .off → ys i = .off) ∧ YOk M cx' (ys i) ∧ Rel cx' g' (s1.with (dsts c.hint b) (m i)) a w
    let ν : Act → World → Nat := fun a w => if hx : ∃ j, J a w j then (least hx).choose else 0
    have ν_spec : ∀ a w, (∃ j, J a w j) → J a w (ν a w) ∧ ∀ i, i < ν a w → ¬ J a w i := fun a w hx => by
      show J a w (if hx : ∃ j, J a w j then (least hx).choose else 0) ∧ ∀ i, i < (if hx : ∃ j, J a w j then (least hx).choose else 0) → ¬ J a w i
      rw [dif_pos hx]
      exact (least hx).choose_spec
    refine wpIn_loop (fun a w => ∃ j, J a w j) ν ⟨_, i0, g0, cx, rfl, Ext.refl g0, .refl _ _ _, fun e => hy0.trans e, by rw [hy0]; exact hy, loop_enter h hn (fit i0) hh⟩ fun a1 w1 h1 => ?_
    obtain ⟨⟨i, g1, cx1, x2, x3, xc, xo, xy, x4⟩, _⟩ := ν_spec a1 w1 h1
    have hf := fit i
    have knm : Nm ((s1.with (dsts c.hint b) (m i)).at (ys i)) := (with_keep hf).nm hn
    refine ex_sound hm hok b (by rw [xc.n]; exact hB) hr _ _ g1 a1 w1 _ (hall i).2 (x4.at' _) xy knm fun e s' cx' g' a' w' k1 k2 k3 ky k4 k5 => ?_
    have k2' : Keep (dsts c.hint b) (s1.with (dsts c.hint b) (m i)) s' := ⟨k2.env, k2.H, k2.R, k2.liveH, k2.liveR, k2.nm, fun e => k2.y (xo e)⟩
    have up : Keep (dsts c.hint (.loop b)) _ s' := kp.trans ((with_keep hf).trans k2' (fun _ h => h) (fun _ h => h)) (fun _ h => h) sub
    have tc : CxT cx cx' s1.y (noRF b) := (xc.trans k3 xo).weak (fun e => by rw [e]; rfl)
    cases e with
    | normal =>
      dsimp only at k1
      obtain ⟨j, hlt, hyj, hh'⟩ := k1
      obtain ⟨g2, y1, y2, _⟩ := loop_round h (x3.trans k4) k5 hn hf (fit j) k2' hdH hdR hh'
      have hJ : J a' w' (μ j) := ⟨j, g2, cx', rfl, y1, tc, fun e => by rw [← hyj]; exact k2.y (xo e), by rw [← hyj]; exact ky, y2⟩
      refine ⟨⟨_, hJ⟩, ?_⟩
      obtain ⟨_, hmin⟩ := ν_spec a' w' ⟨_, hJ⟩
      have : ¬ (μ j < ν a' w') := fun hx => hmin _ hx hJ
      omega
    | exit id => exact hq (.exit id) s' cx' g' a' w' k1 up tc ky (hg0.trans (x3.trans k4)) k5
    | ret => exact hq .ret s' cx' g' a' w' k1 up tc ky (hg0.trans (x3.trans k4)) k5
  | .rangeFunc f ps x y, ro, n, cx, hB, hr, s, K, g, a, w, Q, hk, h, hy, hn, hq => by
    unfold codeB at hB
    simp only [Bool.and_eq_true, List.all_eq_true] at hB
    obtain ⟨hps, hBx, hBy, hRx, hRy⟩ := hB
    have hro : ro = none := hr.resolve_left (by simp [noRF])
    subst hro
    rw [ex_rangeFunc] at hk
    split at hk
    · rename_i ho
      have hoff : s.y = .off := by
        cases hx : s.y with
        | off => rfl
        | run k => rw [hx] at ho; cases ho
        | stop => rw [hx] at ho; cases ho
      obtain ⟨ad, hk⟩ := hk.out
      have sub : ∀ t ∈ ps.toList ++ (dsts c.hint x ++ dsts c.hint y), t ∈ dsts c.hint (.rangeFunc f ps x y) := fun t ht => List.mem_cons_of_mem _ ht
      obtain ⟨s1, g0, ⟨ey, d, hx, hk⟩, hg0, h, kp⟩ := adopt_sound (U := dsts c.hint (.rangeFunc f ps x y)) (rowDsts_mono (by intro t ht; simp at ht; subst ht; simp [dsts])) sub (adopt_y hk) h
      have hM : M = none := by rw [hoff] at hy; exact hy
      subst hM
      refine range_sound hok (fun t ht => by have := hps t ht; simpa [Nat.blt_eq] using this) (fun l cx1 e1 n1 s2 K2 g2 a2 w2 Q2 j1 j2 j3 j4 j5 => ?_) (fun l cx1 e1 n1 s2 K2 g2 a2 w2 Q2 j1 j2 j3 j4 j5 => ?_) (ey.trans hoff) hx h (kp.nm hn) hk
        (fun e s' cx' g' a' w' k1 k2 k3 k4 k5 => hq e s' cx' g' a' w' k1 (kp.trans k2 (fun _ h => h) sub) (by rw [hoff]; exact k3) ?_ (hg0.trans k4) k5)
      · refine ex_sound (M := none) hm hok x (by rw [e1]; exact hBx) (.inl hRx) s2 K2 g2 a2 w2 Q2 j1 j2 (by rw [j3]; rfl) j4 fun e s' cx' g' a' w' k1 k2 k3 k4 k5 k6 => ?_
        have := k3.same j3 hRx
        subst this
        exact j5 e s' g' a' w' k1 k2 k5 k6
      · refine ex_sound (M := none) hm hok y (by rw [e1]; exact hBy) (.inl hRy) s2 K2 g2 a2 w2 Q2 j1 j2 (by rw [j3]; rfl) j4 fun e s' cx' g' a' w' k1 k2 k3 k4 k5 k6 => ?_
        have := k3.same j3 hRy
        subst this
        exact j5 e s' g' a' w' k1 k2 k5 k6
      · rw [k2.y (ey.trans hoff)]; rfl
    · exact hk.elim
  | .scope _, ro, n, cx, _, _, s, K, g, a, w, Q, hk, h, hy, hn, hq => hk.elim
  | .goto _, ro, n, cx, _, _, s, K, g, a, w, Q, hk, h, hy, hn, hq => hk.elim
  | .refuse _, ro, n, cx, _, _, s, K, g, a, w, Q, hk, h, hy, hn, hq => hk.elim
end
end Abs
namespace Abs
open Go
section
variable {P : Program} {cx : Cx} {a : Act} {w : World}
theorem outVals_sound (ls : List Nat) : ∀ (ds : List Dat) {fs : List Bool} {g : Gh} {s : St} {ks : List Nat} (_ : Rel cx g s a w) {K : St → List Nat → List Dat → Prop}, outVals s ks fs ds K →
    ∃ s' ks' ds' g', K s' ks' ds' ∧ Laid cx g s a w s' g' ∧ More ks ks' ∧ ds'.length = ds.length ∧
      ∀ (i : Nat) d, nth ds i = some d → ∃ d', nth ds' i = some d' ∧ Handed g' ls ks' g d d'
  | [], fs, g, s, ks, h, K, hk => ⟨s, ks, [], g, hk, Laid.refl h, More.refl _, rfl, fun i d hd => by simp [nth] at hd⟩
  | d :: ds, fs, g, s, ks, h, K, hk => by
    have join : ∀ {s1 : St} {ks1 : List Nat} {d1 : Dat} {g1 : Gh}, Laid cx g s a w s1 g1 → More ks ks1 → Handed g1 ls ks1 g d d1 →
        outVals s1 ks1 fs.tail ds (fun s ks ds => K s ks (d1 :: ds)) →
        ∃ s' ks' ds' g', K s' ks' ds' ∧ Laid cx g s a w s' g' ∧ More ks ks' ∧ ds'.length = (d :: ds).length ∧
          ∀ (i : Nat) x, nth (d :: ds) i = some x → ∃ d', nth ds' i = some d' ∧ Handed g' ls ks' g x d' := by
      intro s1 ks1 d1 g1 l1 m1 hh hk
      obtain ⟨s2, ks2, ds2, g2, k2, l2, m2, n2, r2⟩ := outVals_sound ls ds l1.rel hk
      refine ⟨s2, ks2, d1 :: ds2, g2, k2, l1.trans l2, m1.trans m2, by simp [n2], fun i x hx => ?_⟩
      cases i with
      | zero => simp [nth] at hx; subst hx; exact ⟨d1, rfl, hh.mono l2.ext (List.prefix_refl _) m2.pre⟩
      | succ i =>
        obtain ⟨d', e1, e2⟩ := r2 i x (by simpa [nth] using hx)
        exact ⟨d', e1, e2.pre l1.ext⟩
    simp only [outVals_nil, outVals_cons] at hk
    split at hk
    · rename_i k n _
      obtain ⟨ks', d', h1, h2, h3⟩ := handRow_spec hk
      exact join (Laid.refl h) h2 (Handed.row h.mem.fz h3 (Ext.refl g)) h1
    · obtain ⟨ks', i, h1, h2, h3⟩ := handMap_spec hk
      exact join (Laid.refl h) h2 (Handed.mref h3 (Ext.refl g)) h1
    · obtain ⟨s1, d1, g1, k1, l1, _, _, r1⟩ := leak_sound h hk
      exact join l1 (More.refl _) (Handed.of_leak r1) k1
end
theorem nth_upTo (b : Nat) : ∀ (n i : Nat), nth (upTo b n) i = if i < n then some (b + i) else none
  | 0, i => by simp [upTo, nth]
  | n + 1, i => by
    have len : ∀ n, (upTo b n).length = n := by
      intro n
      induction n with
      | zero => rfl
      | succ n ih => simp [upTo, ih]
    simp only [upTo]
    rw [nth_eq]
    by_cases h : i < n
    · rw [List.getElem?_append_left (by rw [len]; exact h), ← nth_eq, nth_upTo b n i, if_pos h, if_pos (by omega)]
    · rw [List.getElem?_append_right (by rw [len]; omega), len]
      by_cases h2 : i = n
      · subst h2; rw [if_pos (by omega)]; simp
      · rw [if_neg (by omega)]
        rw [List.getElem?_eq_none (by simp; omega)]
theorem mem_upTo {b n x : Nat} : x ∈ upTo b n ↔ b ≤ x ∧ x < b + n := by
  induction n with
  | zero => simp [upTo]
  | succ n ih => simp only [upTo, List.mem_append, ih, List.mem_singleton]; omega
theorem nodup_upTo (b : Nat) : ∀ n, (upTo b n).Nodup
  | 0 => List.nodup_nil
  | n + 1 => by
    simp only [upTo]
    rw [List.nodup_append]
    refine ⟨nodup_upTo b n, by simp, fun x hx y hy e => ?_⟩
    rw [mem_upTo] at hx
    simp at hy
    omega
theorem argEnv_eq : ∀ (ds : List Dat) (n : Nat) (e : Nat → Option Dat) (l : Nat), argEnv ds n e l = if n ≤ l ∧ l < n + ds.length then nth ds (l - n) else e l
  | [], n, e, l => by
    simp only [argEnv, List.length_nil, Nat.add_zero]
    rw [if_neg (by omega)]
  | d :: ds, n, e, l => by
    simp only [argEnv, List.length_cons]
    rw [argEnv_eq ds (n + 1) _ l]
    by_cases h1 : n + 1 ≤ l ∧ l < n + 1 + ds.length
    · rw [if_pos h1, if_pos (by omega), show l - n = (l - (n + 1)) + 1 by omega]; rfl
    · rw [if_neg h1]
      by_cases h2 : l = n
      · subst h2; rw [upd_eq, if_pos (by omega)]; simp [nth]
      · rw [upd_ne _ _ _ _ h2, if_neg (by omega)]
def resB (P : Program) : List ResultVar → Bool
  | [] => true
  | .tmp _ :: r => resB P r
  | .cell _ t :: r => tyB P t && resB P r
def fnB (P : Program) (fn : Func) (n : Nat) : Bool :=
  (match fn.body with | some c => codeB P fn.ntmps c | none => false) && !(fn.name == "runtime.NumGoroutine") && Nat.ble n fn.ntmps && resB P fn.results.toList
def rd1 (tmps : Array Value) : ResultVar → Sem Value
  | .tmp t => pure (tmps.getD t undef)
  | .cell a t => do loadVar t (← asAddr (tmps.getD a undef))
theorem rd_sound {P : Program} {cx : Cx} {g : Gh} {s : St} {a : Act} {w : World} (h : Rel cx g s a w) : ∀ {L : List ResultVar} (_ : resB P L = true) {ds : List Dat} (_ : resVals P s L = some ds),
    ∃ vs : List Value, (L.mapM (rd1 a.tmps)).run P w = .ok vs w ∧ vs.length = ds.length ∧ ∀ (i : Nat) v d, nth vs i = some v → nth ds i = some d → Rep g v d
  | [], _, ds, hr => by
    simp [resVals] at hr; subst hr
    exact ⟨[], by simp, rfl, fun i v d hv => by simp [nth] at hv⟩
  | .tmp t :: L, hb, ds, hr => by
    simp only [resVals] at hr
    split at hr
    · rename_i d hd
      split at hr
      · rename_i l hl
        cases hr
        obtain ⟨vs, h1, h2, h3⟩ := rd_sound h (L := L) hb hl
        refine ⟨a.tmps.getD t undef :: vs, ?_, by simp [h2], fun i v x hv hx => ?_⟩
        · rw [List.mapM_cons]
          simp [rd1, h1]
        · cases i with
          | zero => cases hv; cases hx; exact h.env t _ hd
          | succ i => exact h3 i v x hv hx
      · cases hr
    · cases hr
  | .cell b t :: L, hb, ds, hr => by
    have hb' : (tyB P t && resB P L) = true := hb
    rw [Bool.and_eq_true] at hb'
    simp only [resVals] at hr
    split at hr
    · rename_i l off he
      split at hr
      · rename_i d hd
        split at hr
        · rename_i c hc
          split at hr
          · rename_i l' hl'
            cases hr
            obtain ⟨vs, h1, h2, h3⟩ := rd_sound h (L := L) hb'.2 hl'
            obtain ⟨blk, e1, e2⟩ := (h.env b _ he).ptr_val
            obtain ⟨blk', f1, f2, _⟩ := h.mem.box l d hd
            rw [e1] at f1; cases f1
            obtain ⟨v, hv1, hv2⟩ := load_part (P := P) hb'.1 f2.cellsAt hc
            rw [Nat.zero_add] at hv1
            refine ⟨v :: vs, ?_, by simp [h2], fun i y x hy hx => ?_⟩
            · rw [List.mapM_cons]
              have e3 : (rd1 a.tmps (.cell b t)).run P w = .ok v w := by
                show (asAddr (a.tmps.getD b undef) >>= fun y => loadVar t y).run P w = _
                rw [e2]
                simpa [asAddr] using hv1
              simp [e3, h1]
            · cases i with
              | zero => cases hy; cases hx; exact hv2
              | succ i => exact h3 i y x hy hx
          · cases hr
        · cases hr
      · cases hr
    · cases hr
theorem results_run {P : Program} {cx : Cx} {g : Gh} {s : St} {a : Act} {w : World} (h : Rel cx g s a w) {fn : Func} (hb : resB P fn.results.toList = true) {ds : List Dat} (hr : resVals P s fn.results.toList = some ds)
    {g' : Gh} {ls ks : List Nat} {ds' : List Dat} (hlen : ds'.length = ds.length) (hh : ∀ (i : Nat) d, nth ds i = some d → ∃ d', nth ds' i = some d' ∧ ∀ v, Rep g v d → Rep (g'.sub ls ks) v d') :
    ∃ v, (results fn a.tmps).run P w = .ok v w ∧ Rep (g'.sub ls ks) v (joinRes ds') := by
  obtain ⟨vs, h1, h2, h3⟩ := rd_sound (P := P) h hb hr
  have e : (results fn a.tmps) = (fn.results.mapM (rd1 a.tmps)) >>= fun vs => pure (if h : vs.size = 1 then vs[0] else .tuple vs) := by
    unfold results
    congr 1
  have e2 : (fn.results.mapM (rd1 a.tmps)).run P w = .ok vs.toArray w := by
    rw [Array.mapM_eq_mapM_toList]
    simp [h1]
  have all : ∀ (i : Nat) v d', nth vs i = some v → nth ds' i = some d' → Rep (g'.sub ls ks) v d' := fun i v d' hv hd => by
    have hi : i < ds.length := by have := lt_of_nth hd; omega
    obtain ⟨d, hd0⟩ := nth_lt hi
    obtain ⟨x, e1, e2⟩ := hh i d hd0
    rw [hd] at e1; cases e1
    exact e2 v (h3 i v d hv hd0)
  refine ⟨if h : vs.toArray.size = 1 then vs.toArray[0] else .tuple vs.toArray, by rw [e]; simp [e2], ?_⟩
  have hl0 := h2.trans hlen.symm
  clear e e2 h1 h2 h3
  match vs, ds', hl0, all with
  | [], [], _, _ => exact .tup rfl fun i v d hv hd => by simp [nth] at hd
  | [v], [d], _, all => exact all 0 v d rfl rfl
  | v1 :: v2 :: vs, d1 :: d2 :: ds, hl, all =>
    rw [dif_neg (by simp)]
    refine .tup (by simpa using hl) fun i v d hv hd => all i v d (by rw [nth_eq]; simpa using hv) hd
theorem init_nm (args : List Dat) (m : Ct) : Nm (init args m) := by
  refine ⟨fun l hl => ?_, fun k hk => ?_⟩
  · show l ∈ upTo 1000 m.H.length
    have : boxArgs m.H 1000 (fun _ => none) l ≠ none := hl
    rw [box_at] at this
    split at this
    · cases hx : nth m.H (l - 1000) with
      | none => exact absurd hx this
      | some d => rw [mem_upTo]; have := lt_of_nth hx; omega
    · exact absurd rfl this
  · show k ∈ upTo 1000 m.R.length
    have : rowArgs m.R 1000 (fun _ => none) k ≠ none := hk
    rw [row_at] at this
    split at this
    · cases hx : nth m.R (k - 1000) with
      | none => exact absurd hx this
      | some d => rw [mem_upTo]; have := lt_of_nth hx; omega
    · exact absurd rfl this
theorem fin_sound {P : Program} {n : Nat} {γ g : Gh} {w0 w : World} {s : St} {a : Act} (h : Rel (Cx.of n (γ.X) w0 (γ.I)) g s a w) (he : Ext γ g) {args : List Dat} {m : Ct} (h0 : Mem (Cx.of 0 (γ.X) w0 (γ.I)) γ (init args m) w0)
    {fn : Func} (hb : resB P fn.results.toList = true) {fs : List Bool} {r : Dat} {m' : Ct} (hf : fin P fs s fn.results.toList m.H.length m.R.length r m') :
    ∃ v, (results fn a.tmps).run P w = .ok v w ∧ ∃ γ', Ext γ γ' ∧ Rep γ' v r ∧ Mem (Cx.of 0 (γ.X) w0 (γ.I)) γ' (init [] m') w := by
  unfold fin at hf
  split at hf
  · exact hf.elim
  rename_i ds hds
  obtain ⟨s2, ks1, ds2, g2, k1, l2, m1, n2, r2⟩ := outVals_sound (upTo 1000 m.H.length) ds h hf
  obtain ⟨ks2, H, k2, m2, n1, r1⟩ := handBoxes_spec s2 _ k1
  split at k2
  rotate_left
  · exact k2.elim
  rename_i R hR
  obtain ⟨q1, q2⟩ := k2
  have hRs := rowsOf_spec s2 ks2 hR
  obtain ⟨v, v1, v2⟩ := results_run (P := P) h hb hds (g' := g2) (ls := upTo 1000 m.H.length) (ks := ks2) n2 fun i d hd => by
    obtain ⟨d', e1, e2⟩ := r2 i d hd
    exact ⟨d', e1, e2 g2 _ _ (Ext.refl _) (List.prefix_refl _) m2.pre⟩
  have pre : upTo 1000 m.R.length <+: ks2 := m1.pre.trans m2.pre
  have nd : ks2.Nodup := m2.nodup (m1.nodup (nodup_upTo _ _))
  have he2 := he.trans l2.ext
  have mu1 : ∀ l b, γ.mu l = some b → (g2.sub (upTo 1000 m.H.length) ks2).mu l = some b := fun l b hl => by
    obtain ⟨d, hd⟩ := h0.nobox l b hl
    have : boxArgs m.H 1000 (fun _ => none) l = some d := hd
    rw [box_at] at this
    split at this
    · rename_i hle
      have hlt := lt_of_nth this
      have hn : nth (upTo 1000 m.H.length) (l - 1000) = some l := by rw [nth_upTo, if_pos hlt, show 1000 + (l - 1000) = l by omega]
      have e := sub_mu g2 (ks := ks2) hn
      rw [show 1000 + (l - 1000) = l by omega] at e
      rw [e]; exact he2.mu l b hl
    · cases this
  have tv1 : ∀ k t, γ.tv k = some t → ∃ t', (g2.sub (upTo 1000 m.H.length) ks2).tv k = some t' ∧ t'.sz = t.sz ∧ ((t.n < t'.n ∧ (t.sz = 0 → t'.base = t.base)) ∨ t = t') := fun k t hk => by
    obtain ⟨d, hd⟩ := h0.norow k t hk
    have : rowArgs m.R 1000 (fun _ => none) k = some d := hd
    rw [row_at] at this
    split at this
    · rename_i hle
      have hlt := lt_of_nth this
      have hn : nth (upTo 1000 m.R.length) (k - 1000) = some k := by rw [nth_upTo, if_pos hlt, show 1000 + (k - 1000) = k by omega]
      have e := sub_tv g2 (ls := upTo 1000 m.H.length) (nth_prefix pre hn)
      rw [show 1000 + (k - 1000) = k by omega] at e
      rw [e]; exact he2.tv k t hk
    · cases this
  refine ⟨v, v1, g2.sub (upTo 1000 m.H.length) ks2, ⟨he2.I, mu1, tv1⟩, q1 ▸ v2, ?_⟩
  subst q2
  refine l2.rel.mem.sub (nodup_upTo _ _) nd ⟨n1, fun i l hl => ?_⟩ hRs (fun b hb => ?_) (fun b o x hx => ?_) ?_ ?_ rfl rfl
  · obtain ⟨d, d', e1, e2, e3⟩ := r1 i l hl
    exact ⟨d, d', e1, e2, e3⟩
  · rcases hb with ⟨l, hl⟩ | ⟨k, t, hk, ht⟩
    · obtain ⟨i, l', rfl, _, h4⟩ := sub_mu_inv hl
      obtain ⟨d, hd⟩ := l2.rel.mem.nobox l' b h4
      obtain ⟨b', e1, _, e3⟩ := l2.rel.mem.box l' d hd
      rw [h4] at e1; cases e1
      exact e3
    · obtain ⟨i, k', rfl, _, h4⟩ := sub_tv_inv hk
      obtain ⟨r0, hr0⟩ := l2.rel.mem.norow k' t h4
      obtain ⟨t', e1, _, _, _, e5⟩ := l2.rel.mem.row k' r0 hr0
      rw [h4] at e1; cases e1
      exact (e5.blk ht).2.1
  · exact l2.rel.mem.newI b o x hx
  · exact l2.rel.mem.frame
  · exact l2.rel.mem.new
def shut (w : World) (bs : List Nat) : World := bs.foldl (fun w b => w.putObj b (.deferred none)) w
theorem shut_size (bs : List Nat) : ∀ w, (shut w bs).heap.size = w.heap.size := by
  induction bs with
  | nil => intro w; rfl
  | cons b bs ih => intro w; show (shut (w.putObj b _) bs).heap.size = _; rw [ih]; simp
theorem shut_other (bs : List Nat) : ∀ (w : World) (b : Nat), b ∉ bs → (shut w bs).heap[b]? = w.heap[b]? := by
  induction bs with
  | nil => intro w b _; rfl
  | cons x bs ih =>
    intro w b hb
    rw [List.mem_cons, not_or] at hb
    show (shut (w.putObj x _) bs).heap[b]? = _
    rw [ih _ _ hb.2]
    exact World.putObj_heap_other hb.1
theorem shut_frame (bs : List Nat) : ∀ (w : World), Frame w (shut w bs) (fun b => b ∈ bs) := by
  induction bs with
  | nil => intro w; exact Frame.refl _ _
  | cons x bs ih =>
    intro w
    have h1 : Frame w (w.putObj x (.deferred none)) (fun b => b ∈ x :: bs) := ⟨rfl, rfl, rfl, by simp, fun b _ hb => World.putObj_heap_other (fun e => hb (by rw [e]; simp))⟩
    exact h1.trans ((ih _).sub fun b _ hb => List.mem_cons_of_mem _ hb)
theorem leave_marks {P : Program} {n : Nat} {fn : Func} {tmps : Array Value} {R : Ending → World → Prop} : ∀ (bs : List Nat) (w : World), bs.Nodup → (∀ b ∈ bs, w.heap[b]? = some (.deferred (some []))) →
    (∃ v, (results fn tmps).run P (shut w bs) = .ok v (shut w bs) ∧ R (.returned v) (shut w bs)) → LeavesInM (FW none) n P fn tmps R (bs.map markOf) .returning w
  | [], w, _, _, h => h
  | b :: bs, w, hn, hb, h => by
    rw [List.nodup_cons] at hn
    refine ⟨(fun e => by cases e), .inl ⟨b, w.putObj b (.deferred none), rfl, run_takeDeferred (hb b (by simp)), leave_marks bs _ hn.2 (fun x hx => ?_) h⟩⟩
    rw [World.putObj_heap_other (fun e => hn.1 (by rw [← e]; exact hx))]
    exact hb x (List.mem_cons_of_mem _ hx)
theorem fixH_cells {l : Nat} {d x : Dat} : cells (fixH l d x) = (cells x).map (fixC l d) := by
  by_cases h : ∃ cs, x = .agg cs
  · obtain ⟨cs, rfl⟩ := h; rfl
  · have h1 : ∀ cs, x ≠ .agg cs := fun cs e => h ⟨cs, e⟩
    by_cases hm : (∃ k v, x = .me k v) ∨ x = .md
    · rcases hm with ⟨k, v, rfl⟩ | rfl <;> rfl
    have e1 : fixH l d x = fixC l d x := by cases x <;> first | rfl | exact absurd rfl (h1 _)
    have e2 : cells x = [x] := by cases x <;> first | rfl | exact absurd rfl (h1 _) | exact absurd (.inl ⟨_, _, rfl⟩) hm | exact absurd (.inr rfl) hm
    have e3 : cells (fixC l d x) = [fixC l d x] := by
      cases x with
      | ptr k off => simp only [fixC]; cases Nat.beq k l <;> rfl
      | vptr k off => simp only [fixC]; cases Nat.beq k l <;> rfl
      | clo f a b => simp only [fixC]; split <;> rfl
      | agg cs => exact absurd rfl (h1 _)
      | me k v => exact absurd (.inl ⟨_, _, rfl⟩) hm
      | md => exact absurd (.inr rfl) hm
      | _ => rfl
    rw [e1, e2, e3]; rfl
theorem fixB_sound {cx : Cx} {g : Gh} {s : St} {a : Act} {w : World} (h : Rel cx g s a w) {l : Nat} {d : Dat} (hl : s.H l = some d) {K : St → Prop} (hk : fixB s l d K) :
    ∃ s' g', K s' ∧ Rel cx g' s' a w ∧ SubI g.I g'.I ∧ (∀ k, 1000 ≤ k → g'.mu k = g.mu k) ∧ g'.tv = g.tv := by
  unfold fixB at hk
  split at hk
  rotate_left
  · exact hk.elim
  rename_i hp
  rw [Bool.and_eq_true] at hp
  obtain ⟨hp, hlt⟩ := hp
  have hlt : l < 1000 := by simpa [Nat.blt_eq] using hlt
  obtain ⟨b, hb, hbox, hmine⟩ := h.mem.box l d hl
  obtain ⟨c, et, fz, c1, c2, c3, c4⟩ := hbox
  obtain ⟨g', hg'⟩ : ∃ g' : Gh, g' = { I := fun x o => if x = b then c[o]? else g.I x o, mu := upd g.mu l none, tv := g.tv } := ⟨_, rfl⟩
  have I1 : ∀ o, g'.I b o = c[o]? := fun o => by rw [hg']; simp
  have I2 : ∀ x o, x ≠ b → g'.I x o = g.I x o := fun x o e => by rw [hg']; simp [e]
  have hs : SubI g.I g'.I := fun x o v e => by
    by_cases hx : x = b
    · subst hx; rw [h.mem.dis l x hb o] at e; cases e
    · rw [I2 x o hx]; exact e
  have ml : ∀ k, k ≠ l → g'.mu k = g.mu k := fun k e => by rw [hg']; exact upd_ne _ _ _ _ e
  have mn : g'.mu l = none := by rw [hg']; exact upd_eq _ _ _
  have cl : ∀ o v, c[o]? = some v → w.cell? ⟨b, o, none⟩ = some v ∧ leaf v = true := fun o v e => by
    refine ⟨(cell_blk c1).trans e, ?_⟩
    have : o < (cells d).length := by rw [← c3]; exact (Array.getElem?_eq_some_iff.1 e).1
    obtain ⟨x, hx⟩ := nth_lt this
    exact (c4 o v x e hx).2
  have cells' : Cells g'.I w := fun x o v e => by
    by_cases hx : x = b
    · subst hx; rw [I1] at e; exact cl o v e
    · rw [I2 x o hx] at e; exact h.mem.iw x o v e
  have pc : ∀ j x, nth (cells d) j = some x → pureD x = true := fun j x hx => pure_cells hp hx
  have imm : ∀ off, RepI g'.I (.pointer (some ⟨b, off, none⟩)) (.imm d off) := fun off => by
    have := RepI.imm (I := g'.I) b 0 off d (fun j => (c[j]?).getD undef) (fun j x hx => by
        have : j < c.size := by rw [c3]; exact lt_of_nth hx
        rw [I1]; simp [this]) (fun j x hx => by
        have hj : j < c.size := by rw [c3]; exact lt_of_nth hx
        have e : c[j]? = some c[j] := by simp [hj]
        rw [e]; exact (c4 j _ x e hx).2) (fun j x hx => by
        have hj : j < c.size := by rw [c3]; exact lt_of_nth hx
        have e : c[j]? = some c[j] := by simp [hj]
        rw [e]; exact (pure_rep (pc j x hx) (c4 j _ x e hx).1).mono hs)
    rwa [Nat.zero_add] at this
  have fc : ∀ v x, leaf v = true ∨ (∀ cs, x ≠ .agg cs) → (∀ ds, x ≠ .tup ds) → Rep g v x → Rep g' v (fixC l d x) := fun v x hv ht r => by
    cases x with
    | ptr k off =>
      obtain ⟨b', e1, e2⟩ := r.ptr_val
      simp only [fixC]
      cases hkl : Nat.beq k l with
      | true =>
        have := Nat.eq_of_beq_eq_true hkl
        subst this
        rw [hb] at e1; cases e1
        subst e2
        exact .pure (imm off)
      | false =>
        have hne : k ≠ l := fun e => by subst e; simp at hkl
        subst e2
        exact .ptr (by rw [ml k hne]; exact e1)
    | vptr k off =>
      obtain ⟨b', e1, e2⟩ := r.vptr_val
      simp only [fixC]
      cases hkl : Nat.beq k l with
      | true => subst e2; exact .pure (.any _ rfl)
      | false =>
        have hne : k ≠ l := fun e => by subst e; simp at hkl
        subst e2
        exact .vptr (by rw [ml k hne]; exact e1)
    | clo f x y =>
      simp only [fixC]
      split
      · rename_i hpp
        exact .pure ((pure_rep hpp r).mono hs)
      · obtain ⟨vf, vc, e, _⟩ := r.clo_val
        subst e
        exact .pure (.any _ rfl)
    | pin y =>
      obtain ⟨b, x, e, _⟩ := r.pin_val
      subst e
      exact .pure (.any _ rfl)
    | ref k n =>
      obtain ⟨t, e1, e2, e3, e4⟩ := r.ref_val
      exact .ref t (by rw [hg']; exact e1) e2 e3 e4
    | mref k =>
      cases r with
      | pure r => cases r
      | mref t e1 e2 e3 => exact .mref t (by rw [hg']; exact e1) e2 e3
    | me k v => exact absurd rfl (r.notEntry.1 _ _)
    | md => exact absurd rfl r.notEntry.2
    | eptr k n i off =>
      cases r with
      | pure r => cases r
      | eptr t e1 e2 e3 e4 e5 => exact .eptr t (by rw [hg']; exact e1) e2 e3 e4 e5
    | tup ds => exact absurd rfl (ht _)
    | agg cs =>
      rcases hv with hv | hv
      · have : ∃ vs, v = .agg vs := by
          cases r with
          | pure r => cases r; exact ⟨_, rfl⟩
          | agg => exact ⟨_, rfl⟩
        obtain ⟨vs, rfl⟩ := this
        cases hv
      · exact absurd rfl (hv _)
    | sl z es bb =>
      cases r with
      | pure r => exact .pure (r.mono hs)
    | any => cases r with | pure r => exact .pure (r.mono hs)
    | _ => exact .pure ((pure_rep rfl r).mono hs)
  refine ⟨_, g', hk, ⟨fun t x ht => ?_, h.size, h.defers, ?_⟩, hs, fun k hk => ml k (by omega), by rw [hg']⟩
  · dsimp only at ht
    split at ht
    rotate_left
    · cases ht
    rename_i y hy
    have r := h.env t y hy
    have other : (∀ cs, y ≠ .agg cs) → (∀ ds, y ≠ .tup ds) → fixE l d y = some (fixC l d y) → Rep g' (a.tmps.getD t undef) x := fun h1 h2 h3 => by
      rw [h3] at ht; cases ht
      exact fc _ y (.inr h1) h2 r
    cases y with
    | clo f x1 y1 =>
      simp only [fixE] at ht
      split at ht
      · rename_i hok
        cases ht
        rw [Bool.and_eq_true, List.all_eq_true, List.all_eq_true] at hok
        obtain ⟨vf, vc, e, k1, k2, k3, k4⟩ := r.clo_val
        rw [e]
        have one : ∀ v z, okC z = true → Rep g v z → Rep g' v (fixC l d z) := fun v z hz rz => by
          refine fc v z (.inr fun cs e => ?_) (fun ds e => ?_) rz
          · subst e; simp [okC] at hz
          · subst e; simp [okC, pureD] at hz
        refine .clo (by rw [k1]; simp) (by rw [k2]; simp) (fun i v z hv hz => ?_) (fun i v z hv hz => ?_)
        · rw [nth_map] at hz
          cases hq : nth x1 i with
          | none => rw [hq] at hz; cases hz
          | some q => rw [hq] at hz; cases hz; exact one v q (hok.1 q (mem_of_nth' hq)) (k3 i v q hv hq)
        · rw [nth_map] at hz
          cases hq : nth y1 i with
          | none => rw [hq] at hz; cases hz
          | some q => rw [hq] at hz; cases hz; exact one v q (hok.2 q (mem_of_nth' hq)) (k4 i v q hv hq)
      · cases ht
    | agg cs =>
      simp only [fixE] at ht
      split at ht
      · rename_i hpp
        cases ht
        exact .pure ((pure_rep hpp r).mono hs)
      · cases ht
    | tup ds => cases ht
    | _ => exact other (by intro cs e; cases e) (by intro cs e; cases e) rfl
  · have ext_row : ∀ {v : Value} {x : Dat}, RepI g.I v x → RepI g'.I v x := fun r => r.mono hs
    refine ⟨cells', fun u x hx => ?_, fun u b' hu => ?_, fun u v b' h1 h2 => ?_, fun u b' hu o => ?_, fun k r hr => ?_, fun k t hk => ?_, fun k j t u b' h1 h2 h3 h4 => ?_, fun x o v e => ?_, ?_, h.mem.new⟩
    · dsimp only at hx
      cases hul : Nat.beq u l with
      | true => rw [hul] at hx; cases hx
      | false =>
        rw [hul] at hx
        dsimp only [cond] at hx
        have hne : u ≠ l := fun e => by subst e; simp at hul
        split at hx
        rotate_left
        · cases hx
        rename_i y hy
        cases hx
        obtain ⟨b2, p1, p2, p3⟩ := h.mem.box u y hy
        obtain ⟨cc, t2, fz2, q1, q2, q3, q4⟩ := p2
        refine ⟨b2, by rw [ml u hne]; exact p1, ⟨cc, t2, fz2, q1, q2, by rw [q3, fixH_cells]; simp, fun i v z hv hz => ?_⟩, p3⟩
        rw [fixH_cells, nth_map] at hz
        cases hq : nth (cells y) i with
        | none => rw [hq] at hz; cases hz
        | some q =>
          rw [hq] at hz; cases hz
          obtain ⟨r1, r2⟩ := q4 i v q hv hq
          refine ⟨fc v q (.inl r2) (fun ds e => ?_) r1, r2⟩
          subst e
          obtain ⟨vs, e, _⟩ := r1.tup_val
          subst e; cases r2
    · have hne : u ≠ l := fun e => by subst e; rw [mn] at hu; cases hu
      rw [ml u hne] at hu
      obtain ⟨x, hx⟩ := h.mem.nobox u b' hu
      have : Nat.beq u l = false := beq_ne hne
      exact ⟨fixH l d x, by dsimp only; rw [this]; dsimp only [cond]; rw [hx]⟩
    · have n1 : u ≠ l := fun e => by subst e; rw [mn] at h1; cases h1
      have n2 : v ≠ l := fun e => by subst e; rw [mn] at h2; cases h2
      rw [ml u n1] at h1; rw [ml v n2] at h2
      exact h.mem.inj u v b' h1 h2
    · have n1 : u ≠ l := fun e => by subst e; rw [mn] at hu; cases hu
      rw [ml u n1] at hu
      have hbb : b' ≠ b := fun e => by subst e; exact n1 (h.mem.inj u l b' hu hb)
      rw [I2 b' o hbb]; exact h.mem.dis u b' hu o
    · obtain ⟨t, t1, t2, t3, t4, t5⟩ := h.mem.row k r hr
      refine ⟨t, by rw [hg']; exact t1, t2, t3, t4, ?_⟩
      refine ⟨fun hz => ?_, fun hz => ?_⟩
      rotate_left
      · obtain ⟨o1, b2, es, clock, y1, y2, y3, y4, y5, y6⟩ := t5.m hz
        have hbb : b2 ≠ b := fun e => by subst e; exact y3 l hb
        refine ⟨o1, b2, es, clock, y1, y2, fun u hu => ?_, fun j => by rw [I2 b2 j hbb]; exact y4 j, y5, y6.mono hs⟩
        have n1 : u ≠ l := fun e => by subst e; rw [mn] at hu; cases hu
        rw [ml u n1] at hu; exact y3 u hu
      have t5 := t5.o hz
      unfold RowO at *
      cases hbase : t.base with
      | none => rw [hbase] at t5; exact t5
      | some b2 =>
        rw [hbase] at t5
        obtain ⟨y1, y2, y3, cc, e2, fz2, y4, y5, y6, y7, y8, y9⟩ := t5
        have hbb : b2 ≠ b := fun e => by subst e; exact y3 l hb
        refine ⟨y1, y2, fun u hu => ?_, cc, e2, fz2, y4, y5, y6, fun j hj => by rw [I2 b2 j hbb]; exact y7 j hj, fun ho j => by rw [I2 b2 j hbb]; exact y8 ho j, fun j z hz => ?_⟩
        · have n1 : u ≠ l := fun e => by subst e; rw [mn] at hu; cases hu
          rw [ml u n1] at hu; exact y3 u hu
        · obtain ⟨v, v1, v2, v3, v4⟩ := y9 j z hz
          exact ⟨v, v1, v2.mono hs, v3, fun ho => by rw [I2 b2 j hbb]; exact v4 ho⟩
    · rw [hg'] at hk; exact h.mem.norow k t hk
    · rw [hg'] at h1 h2; exact h.mem.rdis k j t u b' h1 h2 h3 h4
    · by_cases hx : x = b
      · subst hx; exact .inr hmine
      · rw [I2 x o hx] at e; exact h.mem.newI x o v e
    · exact cx.st _ _ _ _ h.mem.frame hs (Frame.refl w _) cells' h.mem.new
theorem fixes_sound {cx : Cx} {a : Act} {w : World} : ∀ {ls : List Nat} {g : Gh} {s : St} (_ : Rel cx g s a w) {K : St → Prop} (_ : fixes ls s K),
    ∃ s' g', K s' ∧ Rel cx g' s' a w ∧ SubI g.I g'.I ∧ (∀ k, 1000 ≤ k → g'.mu k = g.mu k) ∧ g'.tv = g.tv
  | [], g, s, h, K, hk => ⟨s, g, hk, h, fun _ _ _ e => e, fun _ _ => rfl, rfl⟩
  | l :: ls, g, s, h, K, hk => by
    rw [fixes_cons] at hk
    split at hk
    · rename_i d hd
      obtain ⟨s1, g1, k1, h1, e1, e2, e3⟩ := fixB_sound h hd hk
      obtain ⟨s2, g2, k2, h2, f1, f2, f3⟩ := fixes_sound h1 k1
      exact ⟨s2, g2, k2, h2, fun _ _ _ e => f1 _ _ _ (e1 _ _ _ e), fun k hk => (f2 k hk).trans (e2 k hk), f3.trans e3⟩
    · exact hk.elim
theorem fn_sound {P : Program} (hm : P.follows .mixedOrders = true) {cf : Cfg} (hok : CfgOk P cf) {f : FuncId} {fn : Func} (hf : P.funcs[f]? = some fn)
    {fs : List Bool} {args : List Dat} {m : Ct} {r : Dat} {m' : Ct} (hB : fnB P fn args.length = true) (hx : exF P cf fs fn args m r m') : CallsA P f args m r m' := by
  unfold fnB at hB
  simp only [Bool.and_eq_true] at hB
  obtain ⟨⟨⟨hB1, hB2⟩, hB3⟩, hB4⟩ := hB
  unfold exF at hx
  cases hbody : fn.body with
  | none => rw [hbody] at hx; exact hx.elim
  | some c =>
    rw [hbody] at hx hB1
    dsimp only at hx hB1
    refine ⟨⟨fn, hf, by rw [hbody]; rfl, by simpa using hB2⟩, fun γ w vs hsz hrep hmem => ?_⟩
    have hle : args.length ≤ fn.ntmps := Nat.le_of_ble_eq_true hB3
    have hrel : Rel (Cx.of fn.ntmps γ.X w γ.I) γ (init args m) { tmps := vs ++ Array.replicate (fn.ntmps - vs.size) undef, defers := [] } w := by
      refine ⟨fun t d ht => ?_, by simp [Cx.of]; omega, rfl, ⟨hmem.iw, hmem.box, hmem.nobox, hmem.inj, hmem.dis, (fun k r hr => let ⟨t, t1, t2, t3, t4, t5⟩ := hmem.row k r hr; ⟨t, t1, t2, t3, t4, RowAt.mine (cx := Cx.of 0 γ.X w γ.I) (fun _ _ h => h) t5⟩), hmem.norow, hmem.rdis, hmem.newI, hmem.frame, hmem.new⟩⟩
      have ht' : argEnv args 0 (fun _ => none) t = some d := ht
      rw [argEnv_eq] at ht'
      split at ht'
      · rename_i hlt
        have hlt' : t < vs.size := by omega
        have e : (vs ++ Array.replicate (fn.ntmps - vs.size) undef).getD t undef = vs[t] := by
          simp [Array.getD, show t < vs.size + (fn.ntmps - vs.size) by omega, hlt']
        show Rep γ ((vs ++ Array.replicate (fn.ntmps - vs.size) undef).getD t undef) d
        rw [e]
        exact hrep t _ d (by simp [hlt']) (by simpa using ht')
      · cases ht'
    refine (callsIn_wide (n := 0)).1 (callsIn_of_wp_marks (F := FW none) hf hbody trivial (ex_sound hm hok (M := none) (cx := Cx.of fn.ntmps γ.X w γ.I) c hB1 (.inr rfl) _ _ γ _ w _ hx hrel rfl (init_nm _ _) fun e s' cx' g' a' w' k1 k2 k3 k4 k5 k6 => ?_))
    have fin : ∀ {e : Go.Exit}, (e = .normal ∨ e = .ret) → (fixes cf.fix s' fun s => fin P fs s fn.results.toList m.H.length m.R.length r m') →
        bodyPostM (FW none) 0 P fn (fun e w' => match e with
          | .returned v => ∃ γ', Ext γ γ' ∧ Rep γ' v r ∧ Mem (Cx.of 0 γ.X w γ.I) γ' (init [] m') w'
          | _ => False) e a' w' := fun {e} he hk => by
      obtain ⟨bs, b1, b2, b3, b4⟩ := k3.D rfl w.heap.size (fun I w' (hw : Frame w w' γ.X) => hw.size) ⟨[], rfl, List.nodup_nil, (fun _ _ _ b hb => (by cases hb)), fun b hb => (by cases hb)⟩
      have hf0 : Frame w w' γ.X := k3.fr rfl _ _ k6.mem.frame
      have hb3 := b3 _ _ k6.mem.frame
      have hn0 : cx'.n = fn.ntmps := k3.n
      have nobs : ∀ b o v, g'.I b o = some v → b ∉ bs := fun b o v e hb => by
        obtain ⟨_, _, _, h⟩ := cell_obj (k6.mem.iw b o v e).1 (hb3 b hb).2
        cases h
      have cl : Cells g'.I (shut w' bs) := fun b o v e => ⟨(cell_same (shut_other bs w' b (nobs b o v e))).trans (k6.mem.iw b o v e).1, (k6.mem.iw b o v e).2⟩
      have fr1 : Frame w (shut w' bs) γ.X := by
        have h1 := shut_frame bs w'
        refine ⟨h1.os.trans hf0.os, h1.tape.trans hf0.tape, h1.output.trans hf0.output, by rw [shut_size]; exact hf0.size, fun b hb hX => ?_⟩
        rw [shut_other bs w' b (fun hm => by have := (hb3 b hm).1; omega)]
        exact hf0.block b hb hX
      have rel1 : Rel (Cx.of fn.ntmps γ.X w γ.I) g' s' { a' with defers := [] } (shut w' bs) := by
        refine ⟨k6.env, by rw [← hn0]; exact k6.size, rfl, ?_⟩
        exact k6.mem.after (I' := g'.I) (fun _ _ _ e => e) cl (fun b _ hb => shut_other bs w' b (fun hm => b4 b hm hb)) (fun b o v e _ _ => e) (fun b _ hb => k3.mine rfl b hb)
          (fun b o v e => (k6.mem.newI b o v e).imp (fun q => by rw [← k3.I0 rfl]; exact q) (k3.mine rfl b)) fr1 (fun b hb => by rw [shut_size] at hb; exact k3.mine rfl b (k6.mem.new b hb))
      obtain ⟨s2, g2, h1, h2, h3, h4, h5⟩ := fixes_sound rel1 hk
      have hmu : ∀ l b, γ.mu l = some b → g2.mu l = some b := fun l b e => by
        obtain ⟨d, hd⟩ := hmem.nobox l b e
        have : boxArgs m.H 1000 (fun _ => none) l = some d := hd
        rw [box_at] at this
        split at this
        · rename_i hle; rw [h4 l hle]; exact k5.mu l b e
        · cases this
      have hext : Ext γ g2 := ⟨fun b o v e => h3 _ _ _ (k5.I _ _ _ e), hmu, fun k t e => by rw [h5]; exact k5.tv k t e⟩
      obtain ⟨v, v1, v2⟩ := fin_sound (P := P) h2 hext hmem hB4 h1
      have hlv : LeavesInM (FW none) 0 P fn a'.tmps (fun e w' => match e with
          | .returned v => ∃ γ', Ext γ γ' ∧ Rep γ' v r ∧ Mem (Cx.of 0 γ.X w γ.I) γ' (init [] m') w'
          | _ => False) a'.defers .returning w' := by
        rw [k6.defers, b1]
        exact leave_marks bs w' b2 (fun b hb => (hb3 b hb).2) ⟨v, v1, v2⟩
      rcases he with rfl | rfl
      · exact hlv
      · exact hlv
    cases e with
    | exit id => exact k1.elim
    | normal => exact fin (.inl rfl) k1
    | ret => exact fin (.inr rfl) k1
theorem fnY_sound {P : Program} (hm : P.follows .mixedOrders = true) {cf : Cfg} (hok : CfgOk P cf) {f : FuncId} {fn : Func} (hf : P.funcs[f]? = some fn)
    {args : List Dat} {k : Nat} {Q : Dat → YS → Prop} (hB : fnB P fn args.length = true) (hR : noRF (fn.body.getD .skip) = true) (hx : exYF P cf fn args k Q) : CallsY P cf.l cf.xs f args k Q := by
  unfold fnB at hB
  simp only [Bool.and_eq_true] at hB
  obtain ⟨⟨⟨hB1, hB2⟩, hB3⟩, hB4⟩ := hB
  unfold exYF at hx
  cases hbody : fn.body with
  | none => rw [hbody] at hx; exact hx.elim
  | some c =>
    rw [hbody] at hx hB1 hR
    dsimp only at hx hB1
    refine ⟨⟨fn, hf, by rw [hbody]; rfl, by simpa using hB2⟩, fun h N I w vs hsz hrep hcells hI0 hnew hJ => ?_⟩
    have hle : args.length ≤ fn.ntmps := Nat.le_of_ble_eq_true hB3
    let M : Mode P cf := ⟨h, fn.ntmps, w, I, N⟩
    have hmem : Mem (h.cx fn.ntmps w I (.run k) N) ⟨I, fun _ => none, fun _ => none⟩ (init args ⟨[], []⟩) w :=
      ⟨hcells, fun l d hl => (by
        have : boxArgs [] 1000 (fun _ => none) l = some d := hl
        cases this), fun l b e => (by cases e), fun l m b e => (by cases e), fun l b e => (by cases e), fun l d hl => (by
        have : rowArgs [] 1000 (fun _ => none) l = some d := hl
        cases this), fun l b e => (by cases e), fun k j t u b e => (by cases e), fun b o v e => .inl e, ⟨hJ, Nat.le_refl _, fun _ _ _ => rfl⟩, fun b hb => ⟨hb, hnew b hb⟩⟩
    have hrel : Rel (h.cx fn.ntmps w I (.run k) N) ⟨I, fun _ => none, fun _ => none⟩ ((init args ⟨[], []⟩).at (.run k)) { tmps := vs ++ Array.replicate (fn.ntmps - vs.size) undef, defers := [] } w := by
      refine ⟨fun t d ht => ?_, by simp [Host.cx]; omega, rfl, hmem.names rfl rfl⟩
      have ht' : argEnv args 0 (fun _ => none) t = some d := ht
      rw [argEnv_eq] at ht'
      split at ht'
      · rename_i hlt
        have hlt' : t < vs.size := by omega
        have e : (vs ++ Array.replicate (fn.ntmps - vs.size) undef).getD t undef = vs[t] := by
          simp [Array.getD, show t < vs.size + (fn.ntmps - vs.size) by omega, hlt']
        show Rep _ ((vs ++ Array.replicate (fn.ntmps - vs.size) undef).getD t undef) d
        rw [e]
        exact .pure (hrep t _ d (by simp [hlt']) (by simpa using ht'))
      · cases ht'
    have hat : At M (h.cx fn.ntmps w I (.run k) N) (.run k) N := ⟨rfl, fun b o v e => ⟨cell_lt (hcells b o v e).1, hI0 b o v e⟩, fun b e => .inl e, fun b e => e⟩
    refine (callsIn_wide (n := 0)).1 (callsIn_of_wp_marks (F := FW none) hf hbody trivial (ex_sound hm hok (M := some M) (cx := h.cx fn.ntmps w I (.run k) N) c hB1 (.inl hR) ((init args ⟨[], []⟩).at (.run k)) _ ⟨I, fun _ => none, fun _ => none⟩ { tmps := vs ++ Array.replicate (fn.ntmps - vs.size) undef, defers := [] } w _ hx hrel ⟨M, N, rfl, hat⟩ (init_nm args ⟨[], []⟩) fun e s' cx' g' a' w' k1 k2 k3 k4 k5 k6 => ?_))
    have fin : ∀ {e : Go.Exit}, (e = .normal ∨ e = .ret) → finY P s' fn.results.toList Q →
        bodyPostM (FW none) 0 P fn (fun e w' => match e with
          | .returned v => ∃ r y N' I', Q r y ∧ (∀ b, N' b → N b ∨ (w.heap.size ≤ b ∧ b < w'.heap.size)) ∧ (∀ b, N b → N' b) ∧ SubI I I' ∧ Rep ⟨I', fun _ => none, fun _ => none⟩ v r ∧
            Cells I' w' ∧ (∀ b o v, I' b o = some v → I b o = some v ∨ (w.heap.size ≤ b ∧ ¬ N' b)) ∧ (∃ Ih, h.J y N' Ih w' ∧ SubI Ih I') ∧
            w.heap.size ≤ w'.heap.size ∧ ∀ b, b < w.heap.size → ¬ N' b → w'.heap[b]? = w.heap[b]?
          | _ => False) e a' w' := fun {e} he hk => by
      have hY : ∃ N', At M cx' s'.y N' := by
        have h0 := k4
        cases hy : s'.y with
        | off => rw [hy] at h0; cases h0
        | run k => rw [hy] at h0; obtain ⟨m, N', e, h1⟩ := h0; cases e; exact ⟨N', h1⟩
        | stop => rw [hy] at h0; obtain ⟨m, N', e, h1⟩ := h0; cases e; exact ⟨N', h1⟩
      obtain ⟨N', hA⟩ := hY
      have hcx := hA.cx
      unfold finY at hk
      split at hk
      · exact hk.elim
      rename_i ds hds
      obtain ⟨s2, ds2, g2, ⟨kl, hQ⟩, l2, n2, r2⟩ := leakAll_sound ds k6 (keep_leakAll hk)
      obtain ⟨v, v1, v2⟩ := results_run (P := P) k6 hB4 hds (g' := g2) (ls := []) (ks := []) n2 fun i d hd => by
        obtain ⟨d', e1, _, e2⟩ := r2 i d hd
        exact ⟨d', e1, fun v hv => .pure (e2 v hv)⟩
      have hfr := l2.rel.mem.frame
      have hnewm := l2.rel.mem.new
      have hnewI := l2.rel.mem.newI
      have hdef := l2.rel.defers
      rw [hcx] at hfr hnewm hnewI hdef
      obtain ⟨hJ', f2, f3⟩ := hfr
      have hx : Ext (g2.sub [] []) ⟨g2.I, fun _ => none, fun _ => none⟩ := by
        refine ⟨fun _ _ _ h => h, fun l b e => ?_, fun l t e => ?_⟩
        · have : (if 1000 ≤ l then (nth ([] : List Nat) (l - 1000)).bind g2.mu else none) = some b := e
          split at this <;> cases this
        · have : (if 1000 ≤ l then (nth ([] : List Nat) (l - 1000)).bind g2.tv else none) = some t := e
          split at this <;> cases this
      have res : ∃ v, (results fn a'.tmps).run P w' = .ok v w' ∧ ∃ r y N' I', Q r y ∧ (∀ b, N' b → N b ∨ (w.heap.size ≤ b ∧ b < w'.heap.size)) ∧ (∀ b, N b → N' b) ∧ SubI I I' ∧ Rep ⟨I', fun _ => none, fun _ => none⟩ v r ∧
            Cells I' w' ∧ (∀ b o v, I' b o = some v → I b o = some v ∨ (w.heap.size ≤ b ∧ ¬ N' b)) ∧ (∃ Ih, h.J y N' Ih w' ∧ SubI Ih I') ∧
            w.heap.size ≤ w'.heap.size ∧ ∀ b, b < w.heap.size → ¬ N' b → w'.heap[b]? = w.heap[b]? :=
        ⟨v, v1, _, s'.y, N', g2.I, by rw [← kl.y]; exact hQ, fun b e => (hA.up b e).imp id (fun q => ⟨q, by
            rcases Nat.lt_or_ge b w'.heap.size with z | z
            · exact z
            · exact absurd e (hnewm b z).2⟩), hA.lo, fun b o v e => l2.ext.I _ _ _ (k5.I _ _ _ e), v2.mono hx, l2.rel.mem.iw, fun b o v e => (hnewI b o v e).imp id id, hJ', f2, f3⟩
      have hlv : ∀ R : Ending → World → Prop, (∃ v, (results fn a'.tmps).run P w' = .ok v w' ∧ R (.returned v) w') → LeavesInM (FW none) 0 P fn a'.tmps R a'.defers .returning w' := fun R hR => by
        rw [hdef]
        exact hR
      rcases he with rfl | rfl
      · exact hlv _ res
      · exact hlv _ res
    cases e with
    | exit id => exact k1.elim
    | normal => exact fin (.inl rfl) k1
    | ret => exact fin (.inr rfl) k1
end Abs
namespace Abs
open Go
def cfA (P : Program) (byref : FuncId → Bool) (hint : Nat → List Ad := fun _ => []) (fix : List Nat := []) : Cfg := ⟨byref, CallsA P, hint, fix, 0, [], fun _ _ _ _ => False, IterA P⟩
def cfY (P : Program) (l : Nat) (xs : List (List Dat)) (byref : FuncId → Bool) (hint : Nat → List Ad := fun _ => []) : Cfg := ⟨byref, CallsA P, hint, [], l, xs, fun f args k outs => CallsY P l xs f args k fun r y => (r, y) ∈ outs, fun _ _ => False⟩
theorem fn_ok {P : Program} (hm : P.follows .mixedOrders = true) {f : FuncId} {fn : Func} (hf : P.funcs[f]? = some fn) (byref : FuncId → Bool) (fs : List Bool) (hint : Nat → List Ad)
    {args : List Dat} {m : Ct} {r : Dat} {m' : Ct} (hB : fnB P fn args.length = true) (hx : exF P (cfA P byref hint) fs fn args m r m') : CallsA P f args m r m' :=
  fn_sound hm ⟨fun _ _ _ _ _ h => h, fun _ _ _ _ h => False.elim h, fun _ _ h => h⟩ hf hB hx
theorem fn_fix {P : Program} (hm : P.follows .mixedOrders = true) {f : FuncId} {fn : Func} (hf : P.funcs[f]? = some fn) (byref : FuncId → Bool) (fs : List Bool) (hint : Nat → List Ad) (fix : List Nat)
    {args : List Dat} {m : Ct} {r : Dat} {m' : Ct} (hB : fnB P fn args.length = true) (hx : exF P (cfA P byref hint fix) fs fn args m r m') : CallsA P f args m r m' :=
  fn_sound hm ⟨fun _ _ _ _ _ h => h, fun _ _ _ _ h => False.elim h, fun _ _ h => h⟩ hf hB hx
theorem fn_y {P : Program} (hm : P.follows .mixedOrders = true) {l : Nat} {xs : List (List Dat)} {f : FuncId} {fn : Func} (hf : P.funcs[f]? = some fn) (byref : FuncId → Bool) (hint : Nat → List Ad)
    {args : List Dat} {k : Nat} {Q : Dat → YS → Prop} (hB : fnB P fn args.length = true) (hR : noRF (fn.body.getD .skip) = true) (hx : exYF P (cfY P l xs byref hint) fn args k Q) : CallsY P l xs f args k Q :=
  fnY_sound (cf := cfY P l xs byref hint) hm ⟨fun _ _ _ _ _ h => h, fun _ _ _ _ h => h, fun _ _ h => h.elim⟩ hf hB hR hx
theorem wrap_i64 {x : Int} (h1 : -(2^63) ≤ x) (h2 : x < 2^63) : IntKind.i64.wrap x = x := by
  simp [IntKind.wrap, IntKind.bits, IntKind.signed, Int.bmod_def]
  omega
theorem Arith.i64 {x : Int} {K : Int → Prop} (h1 : -(2^63) ≤ x) (h2 : x < 2^63) (h : K x) : Arith .i64 x K := ⟨by rw [wrap_i64 h1 h2]; exact h⟩
theorem Arith.to {x y : Int} {K : Int → Prop} (e : x = y) (h1 : -(2^63) ≤ y) (h2 : y < 2^63) (h : K y) : Arith .i64 x K := by subst e; exact .i64 h1 h2 h
theorem Idx.at {n : Nat} {es : List Dat} {i : Int} {K : Dat → Prop} {d : Dat} (h1 : n = es.length) (h2 : 0 ≤ i) (h3 : nth es i.toNat = some d) (h : K d) : Idx n es i K := ⟨d, h1, h2, h3, h⟩
theorem nth_get {α : Type} {l : List α} {i : Nat} (h : i < l.length) : nth l i = some l[i] := by rw [nth_eq]; simp [h]
theorem call_ok {P : Program} {f : FuncId} {args : List Dat} {m : Ct} {K : Dat → Ct → Prop} {r : Dat} {m' : Ct} (h : CallsA P f args m r m') (k : K r m') : CallS P (CallsA P) f args m K := ⟨r, m', h, k⟩
theorem Idx.map {α : Type} {xs : List α} {f : α → Dat} {k : Nat} {n : Nat} {K : Dat → Prop} (hk : k < xs.length) (hn : n = (xs.map f).length) (h : K (f xs[k])) : Idx n (xs.map f) (k : Int) K :=
  ⟨f xs[k], hn, by omega, by rw [nth_map, show ((k : Int).toNat) = k from rfl, nth_get hk]; rfl, h⟩
theorem HeadS.nat {W : List Nat} {body : St → (Out → St → Prop) → Prop} {K : Out → St → Prop} {s : St} (n : Nat) (J : Nat → Prop) (m : Nat → Mods) (h0 : J 0) (hh : Holds s (s.with W (m 0)) (m 0))
    (hd : deadH s W = true) (hr : deadR s (rowDsts W) = true) (ht : ∀ k, tidy W (rowDsts W) (m k) = true ∧ liveH s (m k).H = true ∧ liveR s (m k).R = true)
    (hb : ∀ k, k ≤ n → J k → body (s.with W (m k)) fun e s' => match e with
        | .normal => ∃ j : { k // k ≤ n ∧ J k }, n - j.1 < n - k ∧ s'.y = s.y ∧ Holds s' (s.with W (m j.1)) (m j.1)
        | e => K e s') : HeadS W body K s :=
  ⟨{ k // k ≤ n ∧ J k }, ⟨0, Nat.zero_le _, h0⟩, fun k => m k.1, fun _ => s.y, fun k => n - k.1, ⟨rfl, hh⟩, hd, hr, fun k => ⟨ht k.1, hb k.1 k.2.1 k.2.2⟩⟩
theorem HeadS.natY {W : List Nat} {body : St → (Out → St → Prop) → Prop} {K : Out → St → Prop} {s : St} (n : Nat) (J : Nat → Prop) (ys : Nat → YS) (m : Nat → Mods) (h0 : J 0) (hy : ys 0 = s.y) (hh : Holds s (s.with W (m 0)) (m 0))
    (hd : deadH s W = true) (hr : deadR s (rowDsts W) = true) (ht : ∀ k, tidy W (rowDsts W) (m k) = true ∧ liveH s (m k).H = true ∧ liveR s (m k).R = true)
    (hb : ∀ k, k ≤ n → J k → body ((s.with W (m k)).at (ys k)) fun e s' => match e with
        | .normal => ∃ j : { k // k ≤ n ∧ J k }, n - j.1 < n - k ∧ s'.y = ys j.1 ∧ Holds s' (s.with W (m j.1)) (m j.1)
        | e => K e s') : HeadS W body K s :=
  ⟨{ k // k ≤ n ∧ J k }, ⟨0, Nat.zero_le _, h0⟩, fun k => m k.1, fun k => ys k.1, fun k => n - k.1, ⟨hy, hh⟩, hd, hr, fun k => ⟨ht k.1, hb k.1 k.2.1 k.2.2⟩⟩
theorem RoundS.nat {It : Dat → List (List Dat) → Prop} {W ps : List Nat} {f : Dat} {asg body : St → (Out → St → Prop) → Prop} {K : Out → St → Prop} {s : St} (xs : List (List Dat)) (J : Nat → Prop) (m : Nat → Mods)
    (hI : It f xs) (hl : ∀ x ∈ xs, x.length = ps.length) (h0 : J 0) (hh : Holds s (s.with W (m 0)) (m 0)) (hd : deadH s W = true) (hr : deadR s (rowDsts W) = true)
    (ht : ∀ k, tidy W (rowDsts W) (m k) = true ∧ liveH s (m k).H = true ∧ liveR s (m k).R = true ∧ (m k).env = [])
    (hb : ∀ k x, nth xs k = some x → J k → asg ((s.with W (m k)).params ps x) fun e s1 => match e with
        | .normal => body s1 fun e s' => match e with
          | .normal => ∃ j : { k // J k }, j.1 = k + 1 ∧ Holds s' (s.with W (m j.1)) (m j.1)
          | e => K e (s'.back (Hide W s.env))
        | _ => False)
    (he : J xs.length → K .normal (s.with W (m xs.length))) : RoundS It W ps f asg body K s := by
  refine ⟨xs, { k // J k }, ⟨0, h0⟩, fun k => m k.1, fun k => k.1, hI, hl, rfl, hh, hd, hr, fun k => ⟨ht k.1, fun x hx => hb k.1 x hx k.2, fun e => ?_⟩⟩
  have e' : k.1 = xs.length := e
  have h1 := k.2
  rw [e'] at h1
  show K .normal (s.with W (m k.1))
  rw [e']; exact he h1
end Abs
namespace Abs
open Go
theorem yesBr {b : Bool} {X Y : Prop} (h : b = true) (x : X) : Br b X Y := ⟨fun _ => x, fun e => (by rw [h] at e; cases e)⟩
theorem noBr {b : Bool} {X Y : Prop} (h : b = false) (y : Y) : Br b X Y := ⟨fun e => (by rw [h] at e; cases e), fun _ => y⟩
theorem wrapU8 {y : Int} (h1 : 0 ≤ y) (h2 : y < 256) : IntKind.u8.wrap y = y := by simp [IntKind.wrap, IntKind.signed, IntKind.bits]; omega
theorem Arith.u8to {x y : Int} {K : Int → Prop} (e : x = y) (h1 : 0 ≤ y) (h2 : y < 256) (h : K y) : Arith .u8 x K := by
  subst e; exact ⟨by rw [wrapU8 h1 h2]; exact h⟩
structure ChkL (b : Bool) : Prop where
  h : b = true
theorem build_id {α : Type} : ∀ (l : List α) (K : List α → Prop), build l K → K l
  | [], _, h => h
  | x :: l, K, h => build_id l (fun ys => K (x :: ys)) h
def bare (r : Rec) : Rec := ⟨r.rh, r.wh, r.rr, r.wr, [], []⟩
theorem indepB_bare (ops : List Oper) (rs : List Rec) : indepB ops (rs.map bare) = indepB ops rs := by
  unfold indepB
  dsimp only
  congr 1
  funext j
  rw [nth_map]
  congr 1
  cases nth ops j with
  | none => rfl
  | some oj =>
    cases nth rs j with
    | none => rfl
    | some rj =>
      cases nth (befores ops []) j with
      | none => rfl
      | some bj =>
        dsimp only [Option.map]
        congr 1
        funext i
        rw [nth_map]
        cases nth ops i with
        | none => rfl
        | some oi => cases nth rs i <;> rfl
def layRec (r : Rec) (K : Rec → Prop) : Prop :=
  build r.rh fun a => build r.wh fun b => build r.rr fun c => build r.wr fun d => K ⟨a, b, c, d, [], []⟩
theorem layRec_id {r : Rec} {K : Rec → Prop} (h : layRec r K) : K (bare r) :=
  build_id r.wr _ (build_id r.rr _ (build_id r.wh _ (build_id r.rh _ h)))
def layAll (l : List Rec) : (List Rec → Prop) → Prop :=
  List.rec (motive := fun _ => (List Rec → Prop) → Prop) (fun K => K []) (fun r _ ih K => layRec r fun r' => ih fun rs => K (r' :: rs)) l
theorem layAll_id : ∀ (l : List Rec) (K : List Rec → Prop), layAll l K → K (l.map bare)
  | [], _, h => h
  | r :: l, K, h => layAll_id l (fun rs => K (bare r :: rs)) (layRec_id (r := r) (K := fun r' => layAll l fun rs => K (r' :: rs)) h)
theorem Chk.lay {ops : List Oper} {rs : List Rec} {K : Prop} (h : layAll rs fun rs' => ChkL (indepB ops rs')) (k : K) : Chk (indepB ops rs) K := ⟨by rw [← indepB_bare]; exact (layAll_id rs _ h).h, k⟩
structure Rest (R : Prop) : Prop where
  out : R
theorem run {G R : Prop} (r : R) (h : Rest R → G := by
    intro h
    (repeat ((conv => whnf); first
      | ((with_reducible refine Need.mk ?_ ?_); (first | exact rfl | assumption | omega | (refine ⟨rfl, ?_⟩; simp <;> omega) | (simp <;> omega)))
      | ((with_reducible refine Chk.lay ?_ ?_); (conv => whnf); (with_reducible refine ChkL.mk ?_); kernel_rfl)
      | ((with_reducible refine Chk.mk ?_ ?_); kernel_rfl)
      | ((with_reducible refine yesBr ?_ ?_); (first | assumption | exact rfl | decide))
      | ((with_reducible refine noBr ?_ ?_); (first | assumption | exact rfl | decide))
      | ((with_reducible refine Arith.to (by assumption) ?_ ?_ ?_); omega; omega)
      | ((with_reducible refine Arith.i64 ?_ ?_ ?_); omega; omega)
      | ((with_reducible refine Arith.u8to (by assumption) ?_ ?_ ?_); omega; omega)))
    exact h.out) : G := h ⟨r⟩
theorem HeadS.lp {W : List Nat} {body : St → (Out → St → Prop) → Prop} {K : Out → St → Prop} {s : St} {ι : Type} (J : ι → Prop) (m : ι → Mods) (μ : ι → Nat) (i0 : ι) (h0 : J i0)
    (hb : ∀ i, J i → body (s.with W (m i)) fun e s' => match e with
        | .normal => ∃ j : { i // J i }, μ j.1 < μ i ∧ s'.y = s.y ∧ Holds s' (s.with W (m j.1)) (m j.1)
        | e => K e s')
    (hh : Holds s (s.with W (m i0)) (m i0) := by repeat' (first | exact trivial | exact rfl | refine ⟨?_, ?_⟩ | refine ⟨?_, ?_, ?_⟩))
    (hd : deadH s W = true := by kernel_rfl) (hr : deadR s (rowDsts W) = true := by kernel_rfl)
    (ht : ∀ i, tidy W (rowDsts W) (m i) = true ∧ liveH s (m i).H = true ∧ liveR s (m i).R = true := by intro k; exact ⟨rfl, rfl, rfl⟩) : HeadS W body K s :=
  ⟨{ i // J i }, ⟨i0, h0⟩, fun i => m i.1, fun _ => s.y, fun i => μ i.1, ⟨rfl, hh⟩, hd, hr, fun i => ⟨ht i.1, hb i.1 i.2⟩⟩
end Abs
namespace Abs
open Go Go.Proofs
theorem hm : Tryz.prog.follows .mixedOrders = true := by kernel_rfl
def it (n : Int) : Dat := .int .i64 n
def u8 (n : Int) : Dat := .int .u8 n
def bo (b : Bool) : Dat := .bool b
def lst {α : Type} (sz : Nat) (f : α → Dat) (xs : List α) : Dat := .sl sz (xs.map f) false
def ints (xs : List Int) : Dat := .sl 1 (xs.map it) false
def byt (xs : List UInt8) : Dat := .sl 1 (xs.map fun b => .int .u8 b.toNat) false
abbrev ct0 : Ct := ⟨[], []⟩
structure Rng where
  lo : Int
  hi : Int
  mask : Int
 deriving DecidableEq
def encR (r : Rng) : Dat := .agg [it r.lo, it r.hi, it r.mask]
inductive Ex where
  | mk (op n v : Int) (a : List Ex)
inductive Co where
  | mk (op : Int) (a : List Ex) (c : List Co)
inductive Sm where
  | mk (site op n m v : Int) (x y : Ex) (c : Co) (args : List Ex) (ptrs : List Int) (body els : List Sm)
def Ex.op : Ex → Int | .mk x _ _ _ => x
def Ex.n : Ex → Int | .mk _ x _ _ => x
def Ex.v : Ex → Int | .mk _ _ x _ => x
def Ex.a : Ex → List Ex | .mk _ _ _ x => x
def Co.op : Co → Int | .mk x _ _ => x
def Co.a : Co → List Ex | .mk _ x _ => x
def Co.c : Co → List Co | .mk _ _ x => x
def Sm.site : Sm → Int | .mk x _ _ _ _ _ _ _ _ _ _ _ => x
def Sm.op : Sm → Int | .mk _ x _ _ _ _ _ _ _ _ _ _ => x
def Sm.n : Sm → Int | .mk _ _ x _ _ _ _ _ _ _ _ _ => x
def Sm.m : Sm → Int | .mk _ _ _ x _ _ _ _ _ _ _ _ => x
def Sm.v : Sm → Int | .mk _ _ _ _ x _ _ _ _ _ _ _ => x
def Sm.x : Sm → Ex | .mk _ _ _ _ _ x _ _ _ _ _ _ => x
def Sm.y : Sm → Ex | .mk _ _ _ _ _ _ x _ _ _ _ _ => x
def Sm.c : Sm → Co | .mk _ _ _ _ _ _ _ x _ _ _ _ => x
def Sm.args : Sm → List Ex | .mk _ _ _ _ _ _ _ _ x _ _ _ => x
def Sm.ptrs : Sm → List Int | .mk _ _ _ _ _ _ _ _ _ x _ _ => x
def Sm.body : Sm → List Sm | .mk _ _ _ _ _ _ _ _ _ _ x _ => x
def Sm.els : Sm → List Sm | .mk _ _ _ _ _ _ _ _ _ _ _ x => x
mutual
def rE : Ex → List Dat
  | .mk op n v a => [it op, it n, it v, .sl 4 (encEs a) false]
def encEs : List Ex → List Dat
  | [] => []
  | e :: es => .agg (rE e) :: encEs es
end
def cE (e : Ex) : List Dat := [it e.op, it e.n, it e.v, .sl 4 (encEs e.a) false]
def encE (e : Ex) : Dat := .agg (cE e)
theorem rE_eq (e : Ex) : rE e = cE e := by cases e; simp [rE, cE, Ex.op, Ex.n, Ex.v, Ex.a]
theorem encEs_map : ∀ l, encEs l = l.map encE
  | [] => by simp [encEs]
  | e :: l => by simp [encEs, encE, rE_eq, encEs_map l]
mutual
def rC : Co → List Dat
  | .mk op a c => [it op, .sl 4 (encEs a) false, .sl 3 (encCs c) false]
def encCs : List Co → List Dat
  | [] => []
  | e :: es => .agg (rC e) :: encCs es
end
def cC (c : Co) : List Dat := [it c.op, .sl 4 (encEs c.a) false, .sl 3 (encCs c.c) false]
def encC (c : Co) : Dat := .agg (cC c)
theorem rC_eq (e : Co) : rC e = cC e := by cases e; simp [rC, cC, Co.op, Co.a, Co.c]
theorem encCs_map : ∀ l, encCs l = l.map encC
  | [] => by simp [encCs]
  | e :: l => by simp [encCs, encC, rC_eq, encCs_map l]
mutual
def rS : Sm → List Dat
  | .mk site op n m v x y c args ptrs body els => it site :: it op :: it n :: it m :: it v :: (cE x ++ (cE y ++ (cC c ++ [.sl 4 (encEs args) false, ints ptrs, .sl 20 (encSs body) false, .sl 20 (encSs els) false])))
def encSs : List Sm → List Dat
  | [] => []
  | e :: es => .agg (rS e) :: encSs es
end
def cS (s : Sm) : List Dat := it s.site :: it s.op :: it s.n :: it s.m :: it s.v :: (cE s.x ++ (cE s.y ++ (cC s.c ++ [.sl 4 (encEs s.args) false, ints s.ptrs, .sl 20 (encSs s.body) false, .sl 20 (encSs s.els) false])))
def encS (s : Sm) : Dat := .agg (cS s)
theorem rS_eq (e : Sm) : rS e = cS e := by cases e; simp [rS, cS, Sm.site, Sm.op, Sm.n, Sm.m, Sm.v, Sm.x, Sm.y, Sm.c, Sm.args, Sm.ptrs, Sm.body, Sm.els]
theorem encSs_map : ∀ l, encSs l = l.map encS
  | [] => by simp [encSs]
  | e :: l => by simp [encSs, encS, rS_eq, encSs_map l]
structure Ar where
  len : Int
  of' : Int
 deriving DecidableEq
def encA (a : Ar) : Dat := .agg [it a.len, it a.of']
structure Df where
  id : Int
  site : Int
  name : List UInt8
  firm : Int
  part : Int
  params : List Rng
  given : List Rng
  vars : Int
  refs : Int
  arrays : List Ar
  budget : Int
  body : List Sm
def cD (d : Df) : List Dat := [it d.id, it d.site, .str d.name, it d.firm, it d.part, lst 3 encR d.params, lst 3 encR d.given, it d.vars, it d.refs, lst 2 encA d.arrays, it d.budget, lst 20 encS d.body]
def encD (d : Df) : Dat := .agg (cD d)
structure Hd where
  id : Int
  firm : Int
  part : Int
  params : List Rng
  given : List Rng
def encH (h : Hd) : Dat := .agg [it h.id, it h.firm, it h.part, lst 3 encR h.params, lst 3 encR h.given]
structure Qu where
  cap : Int
  r : Rng
def encQ (q : Qu) : Dat := .agg [it q.cap, it q.r.lo, it q.r.hi, it q.r.mask]
structure Dc where
  globals : List Rng
  classes : List Rng
  queues : List Qu
  sinks : List Int
  locks : Int
  parts : Int
  firms : Int
def cDc (d : Dc) : List Dat := [lst 3 encR d.globals, lst 3 encR d.classes, lst 4 encQ d.queues, ints d.sinks, it d.locks, it d.parts, it d.firms]
structure Pg where
  d : Dc
  heads : List Hd
  defs : List Df
  threads : List Int
def cP (p : Pg) : List Dat := cDc p.d ++ [lst 5 encH p.heads, lst 12 encD p.defs, ints p.threads]
def encP (p : Pg) : Dat := .agg (cP p)
structure Ru where
  id : Int
  ver : Int
  firm : Int
  op : Int
  alo : Int
  ahi : Int
  blo : Int
  bhi : Int
  lo : Int
  hi : Int
 deriving DecidableEq
def encRu (r : Ru) : Dat := .agg [it r.id, it r.ver, it r.firm, it r.op, it r.alo, it r.ahi, it r.blo, it r.bhi, it r.lo, it r.hi]
structure Su where
  level : Int
  rules : List Ru
def encSu (s : Su) : Dat := .agg [it s.level, lst 10 encRu s.rules]
structure Pa where
  a : Int
  b : Int
  site : Int
 deriving DecidableEq
def encPa (p : Pa) : Dat := .agg [it p.a, it p.b, it p.site]
structure Sy where
  id : Int
  rlo : Int
  rhi : Int
  rm : Int
  rr : Int
  rmask : Int
  throws : Int
  locks : Int
  loads : Int
  pairs : List Pa
  cost : Int
 deriving DecidableEq
def encSy (s : Sy) : Dat := .agg [it s.id, it s.rlo, it s.rhi, it s.rm, it s.rr, it s.rmask, it s.throws, it s.locks, it s.loads, lst 3 encPa s.pairs, it s.cost]
structure Ne where
  id : Int
  body : List UInt8
  decl : List Int
  sums : List Sy
  rules : List Ru
  level : Int
 deriving DecidableEq
def cN (n : Ne) : List Dat := [it n.id, byt n.body, ints n.decl, lst 11 encSy n.sums, lst 10 encRu n.rules, it n.level]
def encN (n : Ne) : Dat := .agg (cN n)
theorem Br.yes {b : Bool} {X Y : Prop} (h : b = true) (x : X) : Br b X Y := ⟨fun _ => x, fun e => (by rw [h] at e; cases e)⟩
theorem Br.no {b : Bool} {X Y : Prop} (h : b = false) (y : Y) : Br b X Y := ⟨fun e => (by rw [h] at e; cases e), fun _ => y⟩
theorem take_next {α : Type} {xs ys : List α} {k : Nat} (h1 : k < xs.length) (h2 : k < ys.length) (h : xs.take k = ys.take k) (e : xs[k] = ys[k]) : xs.take (k+1) = ys.take (k+1) := by
  rw [List.take_add_one, List.take_add_one, h]
  simp [h1, h2, e]
theorem take_all {α : Type} {xs ys : List α} {k : Nat} (h1 : ¬ k < xs.length) (h2 : xs.length = ys.length) (h : xs.take k = ys.take k) : xs = ys := by
  rwa [List.take_of_length_le (by omega), List.take_of_length_le (by omega)] at h
theorem sameInts_ok (xs ys : List Int) (h : xs.length < 2^62) : CallsA Tryz.prog 13 [ints xs, ints ys] ct0 (bo (xs == ys)) ct0 := by
  refine fn_ok hm Tryz.func13 (fun _ => false) [] (fun _ => []) (by kernel_rfl) ?_
  refine Br.mk (fun h1 => ?_) (fun h1 => ?_)
  · refine Done.mk (congrArg Dat.bool ?_) rfl
    simp at h1
    exact (beq_eq_false_iff_ne.2 fun e => h1 (by rw [e])).symm
  · simp at h1
    refine LoopS.mk ⟨[], HeadS.nat xs.length (fun k => xs.take k = ys.take k) (fun k => ⟨[(5, it k)], [], []⟩) rfl ⟨⟨rfl, trivial⟩, trivial, trivial⟩ rfl rfl (fun k => ⟨rfl, rfl, rfl⟩) fun k hk hJ => ?_⟩
    refine Br.mk (fun h2 => ?_) (fun h2 => ?_)
    · simp at h2
      refine Idx.map h2 rfl ?_
      refine Idx.map (by omega) rfl ?_
      refine Chk.mk rfl ?_
      refine Br.mk (fun h3 => ?_) (fun h3 => ?_)
      · simp at h3
        refine Done.mk (congrArg Dat.bool ?_) rfl
        refine (beq_eq_false_iff_ne.2 fun e => h3 ?_).symm
        subst e; rfl
      · refine Arith.i64 (by omega) (by omega) ?_
        simp at h3
        exact ⟨⟨k + 1, h2, take_next h2 (by omega) hJ h3⟩, Nat.sub_lt_sub_left h2 (Nat.lt_succ_self k), rfl, ⟨rfl, trivial⟩, trivial, trivial⟩
    · refine Done.mk (congrArg Dat.bool ?_) rfl
      simp at h2
      rw [take_all (by omega) (by omega) hJ]; simp
end Abs
namespace Abs
open Go Go.Proofs
set_option maxRecDepth 100000
set_option maxHeartbeats 4000000
abbrev Mp (β : Type) := List (Option (Int × β))
section
variable {β : Type} {enc : β → Dat}
def slotD (enc : β → Dat) : Option (Int × β) → Dat
  | some (k, v) => .me (.int .i64 k) (enc v)
  | none => .md
def mAt (n : Int) : Mp β → Nat → Option Nat
  | [], _ => none
  | some (k, _) :: r, i => match n == k with
    | true => some i
    | false => mAt n r (i + 1)
  | none :: r, i => mAt n r (i + 1)
def mLook (n : Int) : Mp β → Option β
  | [] => none
  | some (k, v) :: r => match n == k with
    | true => some v
    | false => mLook n r
  | none :: r => mLook n r
def mPut (n : Int) (v : β) (es : Mp β) : Mp β := match mAt n es 0 with
  | some i => es.set i (some (n, v))
  | none => es ++ [some (n, v)]
def mDel (n : Int) (es : Mp β) : Mp β := match mAt n es 0 with
  | some i => es.set i none
  | none => es
theorem mfind_mAt (enc : β → Dat) (n : Int) : ∀ (es : Mp β) (i : Nat), mfind .i64 n (es.map (slotD enc)) i = some (mAt n es i)
  | [], _ => rfl
  | some (k, v) :: r, i => by
    simp only [List.map_cons, slotD, mfind, mAt, kindB]
    cases n == k
    · exact mfind_mAt enc n r (i + 1)
    · rfl
  | none :: r, i => by
    simp only [List.map_cons, slotD, mfind, mAt]
    exact mfind_mAt enc n r (i + 1)
theorem mAt_none {n : Int} : ∀ {es : Mp β} {i : Nat}, mAt n es i = none → mLook n es = none
  | [], _, _ => rfl
  | some (k, v) :: r, i, h => by
    simp only [mAt] at h
    simp only [mLook]
    cases hb : n == k with
    | true => rw [hb] at h; cases h
    | false => rw [hb] at h; exact mAt_none h
  | none :: r, i, h => mAt_none (es := r) (i := i + 1) h
theorem mAt_some {n : Int} : ∀ {es : Mp β} {i j : Nat}, mAt n es i = some j → ∃ l v r, es = l ++ some (n, v) :: r ∧ j = i + l.length ∧ mLook n l = none ∧ mLook n es = some v
  | [], _, _, h => by cases h
  | some (k, v) :: r, i, j, h => by
    simp only [mAt] at h
    cases hb : n == k with
    | true =>
      rw [hb] at h; cases h
      have e : n = k := by simpa using hb
      subst e
      exact ⟨[], v, r, rfl, by simp, rfl, by simp only [mLook, hb]⟩
    | false =>
      rw [hb] at h
      obtain ⟨l, v', r', h1, h2, h3, h4⟩ := mAt_some (es := r) h
      exact ⟨some (k, v) :: l, v', r', by rw [h1]; rfl, by rw [h2, List.length_cons]; omega, by simp only [mLook, hb]; exact h3, by simp only [mLook, hb]; exact h4⟩
  | none :: r, i, j, h => by
    obtain ⟨l, v', r', h1, h2, h3, h4⟩ := mAt_some (es := r) (i := i + 1) h
    exact ⟨none :: l, v', r', by rw [h1]; rfl, by rw [h2, List.length_cons]; omega, h3, h4⟩
theorem mPut_map (enc : β → Dat) (n : Int) (v : β) (es : Mp β) : (mPut n v es).map (slotD enc) = match mAt n es 0 with
    | some i => (es.map (slotD enc)).set i (.me (.int .i64 n) (enc v))
    | none => es.map (slotD enc) ++ [.me (.int .i64 n) (enc v)] := by
  unfold mPut
  cases mAt n es 0 with
  | none => simp [slotD]
  | some i => simp [List.map_set, slotD]
theorem mDel_map (enc : β → Dat) (n : Int) (es : Mp β) : (mDel n es).map (slotD enc) = match mAt n es 0 with
    | some i => (es.map (slotD enc)).set i .md
    | none => es.map (slotD enc) := by
  unfold mDel
  cases mAt n es 0 with
  | none => rfl
  | some i => simp [List.map_set, slotD]
theorem MFind.at {n : Int} {es : Mp β} {K : Option Nat → Prop} (h : K (mAt n es 0)) : MFind .i64 n (es.map (slotD enc)) K := ⟨_, mfind_mAt enc n es 0, h⟩
theorem MFind.no {n : Int} {es : Mp β} {K : Option Nat → Prop} (h : mLook n es = none) (k : K none) : MFind .i64 n (es.map (slotD enc)) K := by
  refine ⟨none, ?_, k⟩
  rw [mfind_mAt]
  cases h2 : mAt n es 0 with
  | none => rfl
  | some i =>
    obtain ⟨_, _, _, _, _, _, h3⟩ := mAt_some h2
    rw [h] at h3; cases h3
theorem look_at (enc : β → Dat) {n : Int} {v : β} {es : Mp β} (h : mLook n es = some v) : ∃ i, mAt n es 0 = some i ∧ nth (es.map (slotD enc)) i = some (.me (.int .i64 n) (enc v)) := by
  cases h2 : mAt n es 0 with
  | none => rw [mAt_none h2] at h; cases h
  | some i =>
    obtain ⟨l, w, r, h3, h4, _, h5⟩ := mAt_some h2
    rw [h] at h5; cases h5
    refine ⟨i, rfl, ?_⟩
    rw [h3, h4, nth_eq]; simp [slotD]
theorem MFind.yes {n : Int} {es : Mp β} {i : Nat} {K : Option Nat → Prop} (h : mAt n es 0 = some i) (k : K (some i)) : MFind .i64 n (es.map (slotD enc)) K := ⟨_, (mfind_mAt enc n es 0).trans (congrArg some h), k⟩
theorem mapHas_ok (es : Mp Bool) (x : Int) : CallsA Tryz.prog 107 [it x, .ptr 1000 0] ⟨[.mref 1000], [⟨0, true, es.map (slotD bo)⟩]⟩ (bo ((mLook x es).getD false)) ⟨[.mref 1000], [⟨0, true, es.map (slotD bo)⟩]⟩ := by
  cases h : mLook x es with
  | none =>
    refine fn_ok hm Tryz.func107 (fun _ => false) [] (fun _ => []) (by kernel_rfl) ?_
    refine run ?_
    refine MFind.no h ?_
    refine run ?_
    exact Done.mk rfl rfl
  | some b =>
    obtain ⟨i, h1, h2⟩ := look_at bo h
    refine fn_ok hm Tryz.func107 (fun _ => false) [] (fun _ => []) (by kernel_rfl) ?_
    refine run ?_
    refine MFind.yes h1 ?_
    refine run ?_
    refine MVal.mk ⟨_, _, h2, ?_⟩
    refine run ?_
    exact Done.mk rfl rfl
end
end Abs
namespace Abs
open Go Go.Proofs
theorem encRu_eq_of {r s : Ru} (h : (!(r.id == s.id && (r.ver == s.ver && (r.firm == s.firm && (r.op == s.op && (r.alo == s.alo && (r.ahi == s.ahi && (r.blo == s.blo && (r.bhi == s.bhi && (r.lo == s.lo && (r.hi == s.hi && true))))))))))) = false) : r = s := by
  cases r; cases s; simp at h; simp [h]
theorem encRu_ne_of {r s : Ru} (h : (!(r.id == s.id && (r.ver == s.ver && (r.firm == s.firm && (r.op == s.op && (r.alo == s.alo && (r.ahi == s.ahi && (r.blo == s.blo && (r.bhi == s.bhi && (r.lo == s.lo && (r.hi == s.hi && true))))))))))) = true) : r ≠ s := by
  intro e; subst e; simp at h
theorem encPa_eq_of {r s : Pa} (h : (!(r.a == s.a && (r.b == s.b && (r.site == s.site && true)))) = false) : r = s := by
  cases r; cases s; simp at h; simp [h]
theorem encPa_ne_of {r s : Pa} (h : (!(r.a == s.a && (r.b == s.b && (r.site == s.site && true)))) = true) : r ≠ s := by
  intro e; subst e; simp at h
theorem equalInts_ok (xs ys : List Int) (h : xs.length < 2^62) : CallsA Tryz.prog 43 [ints xs, ints ys] ct0 (bo (xs == ys)) ct0 := by
  refine fn_ok hm Tryz.func43 (fun _ => false) [] (fun _ => []) (by kernel_rfl) ?_
  refine Br.mk (fun h1 => ?_) (fun h1 => ?_)
  · refine Done.mk (congrArg Dat.bool ?_) rfl
    simp at h1
    exact (beq_eq_false_iff_ne.2 fun e => h1 (by rw [e])).symm
  · simp at h1
    refine LoopS.mk ⟨[], HeadS.nat xs.length (fun k => xs.take k = ys.take k) (fun k => ⟨[(13, it k)], [], []⟩) rfl ⟨⟨rfl, trivial⟩, trivial, trivial⟩ rfl rfl (fun k => ⟨rfl, rfl, rfl⟩) fun k hk hJ => ?_⟩
    refine Br.mk (fun h2 => ?_) (fun h2 => ?_)
    · simp at h2
      refine Idx.map h2 rfl ?_
      refine Idx.map (by omega) rfl ?_
      refine Chk.mk rfl ?_
      refine Br.mk (fun h3 => ?_) (fun h3 => ?_)
      · refine Done.mk (congrArg Dat.bool ?_) rfl
        refine (beq_eq_false_iff_ne.2 fun e => ?_).symm
        subst e
        simp at h3
      · refine Arith.i64 (by omega) (by omega) ?_
        have h4 : xs[k] = ys[k] := by simp at h3; exact h3
        exact ⟨⟨k + 1, h2, take_next h2 (by omega) hJ h4⟩, Nat.sub_lt_sub_left h2 (Nat.lt_succ_self k), rfl, ⟨rfl, trivial⟩, trivial, trivial⟩
    · refine Done.mk (congrArg Dat.bool ?_) rfl
      simp at h2
      rw [take_all (by omega) (by omega) hJ]; simp
theorem equalRules_ok (xs ys : List Ru) (h : xs.length < 2^62) : CallsA Tryz.prog 46 [lst 10 encRu xs, lst 10 encRu ys] ct0 (bo (xs == ys)) ct0 := by
  refine fn_ok hm Tryz.func46 (fun _ => false) [] (fun _ => []) (by kernel_rfl) ?_
  refine Br.mk (fun h1 => ?_) (fun h1 => ?_)
  · refine Done.mk (congrArg Dat.bool ?_) rfl
    simp at h1
    exact (beq_eq_false_iff_ne.2 fun e => h1 (by rw [e])).symm
  · simp at h1
    refine LoopS.mk ⟨[], HeadS.nat xs.length (fun k => xs.take k = ys.take k) (fun k => ⟨[(13, it k)], [], []⟩) rfl ⟨⟨rfl, trivial⟩, trivial, trivial⟩ rfl rfl (fun k => ⟨rfl, rfl, rfl⟩) fun k hk hJ => ?_⟩
    refine Br.mk (fun h2 => ?_) (fun h2 => ?_)
    · simp at h2
      refine Idx.map h2 rfl ?_
      refine Idx.map (by omega) rfl ?_
      refine Chk.mk rfl ?_
      refine Br.mk (fun h3 => ?_) (fun h3 => ?_)
      · refine Done.mk (congrArg Dat.bool ?_) rfl
        refine (beq_eq_false_iff_ne.2 fun e => ?_).symm
        subst e
        exact encRu_ne_of h3 rfl
      · refine Arith.i64 (by omega) (by omega) ?_
        have h4 : xs[k] = ys[k] := by exact encRu_eq_of h3
        exact ⟨⟨k + 1, h2, take_next h2 (by omega) hJ h4⟩, Nat.sub_lt_sub_left h2 (Nat.lt_succ_self k), rfl, ⟨rfl, trivial⟩, trivial, trivial⟩
    · refine Done.mk (congrArg Dat.bool ?_) rfl
      simp at h2
      rw [take_all (by omega) (by omega) hJ]; simp
theorem equalPairs_ok (xs ys : List Pa) (h : xs.length < 2^62) : CallsA Tryz.prog 86 [lst 3 encPa xs, lst 3 encPa ys] ct0 (bo (xs == ys)) ct0 := by
  refine fn_ok hm Tryz.func86 (fun _ => false) [] (fun _ => []) (by kernel_rfl) ?_
  refine Br.mk (fun h1 => ?_) (fun h1 => ?_)
  · refine Done.mk (congrArg Dat.bool ?_) rfl
    simp at h1
    exact (beq_eq_false_iff_ne.2 fun e => h1 (by rw [e])).symm
  · simp at h1
    refine LoopS.mk ⟨[], HeadS.nat xs.length (fun k => xs.take k = ys.take k) (fun k => ⟨[(13, it k)], [], []⟩) rfl ⟨⟨rfl, trivial⟩, trivial, trivial⟩ rfl rfl (fun k => ⟨rfl, rfl, rfl⟩) fun k hk hJ => ?_⟩
    refine Br.mk (fun h2 => ?_) (fun h2 => ?_)
    · simp at h2
      refine Idx.map h2 rfl ?_
      refine Idx.map (by omega) rfl ?_
      refine Chk.mk rfl ?_
      refine Br.mk (fun h3 => ?_) (fun h3 => ?_)
      · refine Done.mk (congrArg Dat.bool ?_) rfl
        refine (beq_eq_false_iff_ne.2 fun e => ?_).symm
        subst e
        exact encPa_ne_of h3 rfl
      · refine Arith.i64 (by omega) (by omega) ?_
        have h4 : xs[k] = ys[k] := by exact encPa_eq_of h3
        exact ⟨⟨k + 1, h2, take_next h2 (by omega) hJ h4⟩, Nat.sub_lt_sub_left h2 (Nat.lt_succ_self k), rfl, ⟨rfl, trivial⟩, trivial, trivial⟩
    · refine Done.mk (congrArg Dat.bool ?_) rfl
      simp at h2
      rw [take_all (by omega) (by omega) hJ]; simp
theorem textOf_byt : ∀ (xs : List UInt8), textOf (xs.map fun b => .int .u8 b.toNat) = some xs
  | [] => rfl
  | x :: xs => by
    simp only [List.map_cons, textOf, textOf_byt xs]
    simp
theorem bytesEqual_ok (xs ys : List UInt8) : CallsA Tryz.prog 42 [byt xs, byt ys] ct0 (bo (xs == ys)) ct0 := by
  refine fn_ok hm Tryz.func42 (fun _ => false) [] (fun _ => []) (by kernel_rfl) ?_
  refine TextS.mk ⟨xs, textOf_byt xs, ?_⟩
  refine TextS.mk ⟨ys, textOf_byt ys, ?_⟩
  exact Done.mk rfl rfl
end Abs
namespace Abs
open Go Go.Proofs
theorem beq_no {α : Type} [BEq α] [LawfulBEq α] {a b : α} (h : a = b → False) : false = (a == b) := (beq_eq_false_iff_ne.2 h).symm
theorem depEqual_ok (a b : Sy) (h : a.pairs.length < 2^62) : CallsA Tryz.prog 45 [encSy a, encSy b] ct0 (bo (a == b)) ct0 := by
  by_cases e : a.pairs = b.pairs
  · have h1 : (a.pairs == b.pairs) = true := by simpa using e
    refine fn_ok hm Tryz.func45 (fun _ => false) [] (fun _ => []) (by kernel_rfl) ?_
    refine call_ok (equalPairs_ok a.pairs b.pairs h) ?_
    refine Br.no (by rw [h1]; rfl) ?_
    refine Done.mk (congrArg Dat.bool ?_) rfl
    cases a; cases b
    simp at e
    rw [Bool.eq_iff_iff]
    simp [e]
    intro _
    constructor <;> (intro h; simp [h])
  · have h1 : (a.pairs == b.pairs) = false := by simpa using e
    refine fn_ok hm Tryz.func45 (fun _ => false) [] (fun _ => []) (by kernel_rfl) ?_
    refine call_ok (equalPairs_ok a.pairs b.pairs h) ?_
    refine Br.yes (by rw [h1]; rfl) ?_
    refine Done.mk (congrArg Dat.bool (beq_no fun e => ?_)) rfl
    subst e; simp at h1
def fun0 (f : FuncId) : Dat := .clo (.func f) [] []
theorem equalSums_ok (xs ys : List Sy) (h : xs.length < 2^62) (hp : ∀ x ∈ xs, x.pairs.length < 2^62) : CallsA Tryz.prog 44 [lst 11 encSy xs, lst 11 encSy ys, fun0 45] ct0 (bo (xs == ys)) ct0 := by
  refine fn_ok hm Tryz.func44 (fun _ => false) [] (fun _ => []) (by kernel_rfl) ?_
  refine Br.mk (fun h1 => ?_) (fun h1 => ?_)
  · refine Done.mk (congrArg Dat.bool ?_) rfl
    simp at h1
    exact beq_no fun e => h1 (by rw [e])
  · simp at h1
    refine LoopS.mk ⟨[], HeadS.nat xs.length (fun k => xs.take k = ys.take k) (fun k => ⟨[(17, it k)], [], []⟩) rfl ⟨⟨rfl, trivial⟩, trivial, trivial⟩ rfl rfl (fun k => ⟨rfl, rfl, rfl⟩) fun k hk hJ => ?_⟩
    refine Br.mk (fun h2 => ?_) (fun h2 => ?_)
    · simp at h2
      have h5 : k < ys.length := by omega
      have hc := depEqual_ok xs[k] ys[k] (hp _ (by simp))
      refine Idx.map h2 rfl ?_
      refine Idx.map h5 rfl ?_
      refine call_ok hc ?_
      refine Br.mk (fun h3 => ?_) (fun h3 => ?_)
      · refine Done.mk (congrArg Dat.bool (beq_no fun e => ?_)) rfl
        subst e; simp at h3
      · refine Arith.i64 (by omega) (by omega) ?_
        exact ⟨⟨k + 1, h2, take_next h2 h5 hJ (by simpa using h3)⟩, Nat.sub_lt_sub_left h2 (Nat.lt_succ_self k), rfl, ⟨rfl, trivial⟩, trivial, trivial⟩
    · refine Done.mk (congrArg Dat.bool ?_) rfl
      simp at h2
      rw [take_all (by omega) (by omega) hJ]; simp
end Abs
namespace Abs
open Go Go.Proofs Go.Shelf Go.Sort Go.RowKit
def intD (n : Int) : Dat := .int .i64 n
theorem flat_intD (l : List Int) : (l.map intD).flatMap cells = l.map intD := by
  induction l with
  | nil => rfl
  | cons x l ih => rw [List.map_cons, List.flatMap_cons, ih]; rfl
theorem row_one {γ : Gh} {w : World} {zs : List Int} {cx : Cx} (hm : Mem cx γ (init [.ref 1000 (zs.map intD).length] ⟨[], [⟨1, true, zs.map intD⟩]⟩) w) {v : Value} (hv : Rep γ v (.ref 1000 (zs.map intD).length)) (hne : zs ≠ []) :
    ∃ (t : Tv) (b : Nat) (c : Array Value) (e : TypeId) (fz : Nat × Nat), γ.tv 1000 = some t ∧ t.sz = 1 ∧ t.n = zs.length ∧ t.base = some b ∧ v = .slice (some ⟨b, 0, none⟩) zs.length t.cap ∧ t.n ≤ t.cap ∧ w.heap[b]? = some (.cells c e fz) ∧ Free fz c.size ∧ t.cap ≤ c.size ∧ cx.mine b ∧
      (∀ l, γ.mu l ≠ some b) ∧ (∀ j, γ.I b j = none) ∧ ∀ (j : Nat) (x : Int), zs[j]? = some x → c[j]? = some (Value.int .i64 x) := by
  obtain ⟨t, h1, h2, h3, h4, h5⟩ := hm.row 1000 ⟨1, true, zs.map intD⟩ rfl
  obtain ⟨t', k1, k2, k3, k4⟩ := hv.ref_val
  rw [h1] at k1; cases k1
  have h3' : t.n = zs.length := by simpa using h3
  have hv' := k3 (by simp [h3'])
  have h5 := h5.o Nat.one_ne_zero
  unfold RowO at h5
  cases hb : t.base with
  | none =>
    rw [hb] at h5
    have := h5.1
    simp at this
    exact absurd this hne
  | some b =>
    rw [hb] at h5
    obtain ⟨p1, p2, p3, c, e, fz, p4, p5, p6, p7, p8, p9⟩ := h5
    refine ⟨t, b, c, e, fz, h1, h2, h3', hb, ?_, p1, p4, p5, by simpa using p6, p2, p3, p8 rfl, fun j x hx => ?_⟩
    · rw [hv']; unfold Tv.value; rw [hb]; simp [h3']
    · have hn : nth ((zs.map intD).flatMap cells) j = some (intD x) := by
        rw [flat_intD, nth_eq, List.getElem?_map, hx]; rfl
      obtain ⟨v, v1, v2, _⟩ := p9 j _ hn
      have : v = .int .i64 x := by cases v2; rfl
      rw [← this]; exact v1
theorem heap_putRow {w : World} {b : Nat} {d : Array Int} {c : Array Value} {e : TypeId} {fz : Nat × Nat} (h : w.heap[b]? = some (.cells c e fz)) :
    (putRow (Value.int .i64) w b 0 d).heap[b]? = some (.cells (putCells (Value.int .i64) 0 d c) e fz) := by
  have hlt := lt_of_blk h
  show (w.heap.modify b _)[b]? = _
  rw [Array.getElem?_eq_getElem (by rw [Array.size_modify]; exact hlt), Array.getElem_modify_self]
  have : w.heap[b] = .cells c e fz := by rw [Array.getElem?_eq_getElem hlt] at h; exact Option.some.inj h
  rw [this]; rfl
theorem heap_putRow_ne {w : World} {b k : Nat} {d : Array Int} (h : k ≠ b) : (putRow (Value.int .i64) w b 0 d).heap[k]? = w.heap[k]? := by
  show (w.heap.modify b _)[k]? = _
  by_cases hk : k < w.heap.size
  · rw [Array.getElem?_eq_getElem (by rw [Array.size_modify]; exact hk), Array.getElem_modify_of_ne (Ne.symm h), Array.getElem?_eq_getElem hk]
  · rw [Array.getElem?_eq_none (by rw [Array.size_modify]; omega), Array.getElem?_eq_none (by omega)]
theorem heap_grow {w : World} {os : Array Obj} {k : Nat} (h : k < w.heap.size) : (grow w os).heap[k]? = w.heap[k]? := by
  show (w.heap ++ os)[k]? = _
  rw [Array.getElem?_append_left h]
theorem row_back {γ : Gh} {w w' : World} {zs ys : List Int} {X : Nat → Prop} (hX : X = γ.X) (hm : Mem (Cx.of 0 X w γ.I) γ (init [.ref 1000 (zs.map intD).length] ⟨[], [⟨1, true, zs.map intD⟩]⟩) w) {t : Tv} {b : Nat} {c : Array Value} {e : TypeId} {fz : Nat × Nat}
    (h1 : γ.tv 1000 = some t) (hb : t.base = some b) (hn : t.n = zs.length) (hcap : t.n ≤ t.cap) (hc : w.heap[b]? = some (.cells c e fz)) (hfz : Free fz c.size) (hcs : t.cap ≤ c.size) (hmine : (Cx.of 0 X w γ.I).mine b) (hmu : ∀ l, γ.mu l ≠ some b) (hI : ∀ j, γ.I b j = none)
    (hlen : ys.length = zs.length) (q : Nat) (os : Array Obj) (hw : w' = grow (putRow (Value.int .i64) (Sort.ahead w q) b 0 ys.toArray) os) (own : Bool) :
    ∃ γ' : Gh, Ext γ γ' ∧ γ'.tv = γ.tv ∧ Mem (Cx.of 0 X w γ.I) γ' (init [] ⟨[], [⟨1, own, ys.map intD⟩]⟩) w' ∧ (own = false → ∀ j x, ys[j]? = some x → γ'.I b j = some (Value.int .i64 x)) := by
  have hb1 : w'.heap[b]? = some (.cells (putCells (Value.int .i64) 0 ys.toArray c) e fz) := by
    rw [hw, heap_grow (by have := lt_of_blk hc; simpa [putRow, mapBlock, Sort.ahead] using this)]
    exact heap_putRow (w := Sort.ahead w q) hc
  have hsz : w.heap.size ≤ w'.heap.size := by rw [hw]; simp [grow, putRow, mapBlock, Sort.ahead]
  have hoth : ∀ k, k < w.heap.size → k ≠ b → w'.heap[k]? = w.heap[k]? := fun k hk hne => by
    rw [hw, heap_grow (by simpa [putRow, mapBlock, Sort.ahead] using hk)]
    exact heap_putRow_ne (w := Sort.ahead w q) hne
  have hpc : ∀ j x, ys[j]? = some x → (putCells (Value.int .i64) 0 ys.toArray c)[j]? = some (Value.int .i64 x) := fun j x hx => by
    have hj : j < ys.length := (List.getElem?_eq_some_iff.1 hx).1
    have hjc : j < c.size := by omega
    have hx' : ys[j] = x := (List.getElem?_eq_some_iff.1 hx).2
    unfold putCells
    rw [Array.getElem?_eq_getElem (by simpa using hjc)]
    simp [hj, hx']
  have hpcs : (putCells (Value.int .i64) 0 ys.toArray c).size = c.size := by simp [putCells]
  obtain ⟨γ', hγ'⟩ : ∃ γ' : Gh, γ' = { γ with I := fun x o => if x = b ∧ own = false ∧ o < ys.length then (ys[o]?).map (Value.int .i64) else γ.I x o } := ⟨_, rfl⟩
  have hs : SubI γ.I γ'.I := fun x o v hv => by
    rw [hγ']; dsimp only
    split
    · rename_i hcond
      rw [hcond.1, hI o] at hv; cases hv
    · exact hv
  have I1 : ∀ x o, x ≠ b → γ'.I x o = γ.I x o := fun x o hx => by rw [hγ']; dsimp only; rw [if_neg (fun h => hx h.1)]
  have I2 : own = true → ∀ j, γ'.I b j = none := fun ho j => by rw [hγ']; dsimp only; rw [if_neg (fun h => by rw [ho] at h; cases h.2.1)]; exact hI j
  have I3 : own = false → ∀ j x, ys[j]? = some x → γ'.I b j = some (Value.int .i64 x) := fun ho j x hx => by
    have hj : j < ys.length := (List.getElem?_eq_some_iff.1 hx).1
    rw [hγ']; dsimp only; rw [if_pos ⟨rfl, ho, hj⟩, hx]; rfl
  have I4 : ∀ j, ys.length ≤ j → γ'.I b j = none := fun j hj => by rw [hγ']; dsimp only; rw [if_neg (fun h => by omega)]; exact hI j
  have hext : Ext γ γ' := ⟨hs, fun l x h => by rw [hγ']; exact h, fun k u h => ⟨u, by rw [hγ']; exact h, rfl, .inr rfl⟩⟩
  have hiw : Cells γ'.I w' := fun x o v hv => by
    by_cases hx : x = b
    · subst hx
      cases hown : own with
      | true => rw [I2 hown] at hv; cases hv
      | false =>
        rcases Nat.lt_or_ge o ys.length with h | h
        · have hx0 : ys[o]? = some ys[o] := List.getElem?_eq_getElem h
          rw [I3 hown o _ hx0] at hv; cases hv
          exact ⟨(cell_blk hb1).trans (hpc o _ hx0), rfl⟩
        · rw [I4 o h] at hv; cases hv
    · rw [I1 x o hx] at hv
      have := hm.iw x o v hv
      exact ⟨(cell_same (hoth x (cell_lt this.1) hx)).trans this.1, this.2⟩
  refine ⟨γ', hext, by rw [hγ'], ?_, I3⟩
  have only : ∀ k u, γ.tv k = some u → k = 1000 := fun k u hk => by
    obtain ⟨r, hr⟩ := hm.norow k u hk
    have : rowArgs [⟨1, true, zs.map intD⟩] 1000 (fun _ => none) k = some r := hr
    by_cases h : k = 1000
    · exact h
    · have : upd (fun _ => none) 1000 (some (⟨1, true, zs.map intD⟩ : Row)) k = some r := this
      rw [upd_ne _ _ _ _ h] at this; cases this
  have nobox : ∀ l x, γ.mu l ≠ some x := fun l x h => by
    obtain ⟨d, hd⟩ := hm.nobox l x h
    have : boxArgs [] 1000 (fun _ => none) l = some d := hd
    cases this
  refine ⟨hiw, fun l d h => ?_, fun l x h => ?_, fun l m x h1 h2 => ?_, fun l x h o => ?_, fun k r hr => ?_, fun k u hk => ?_, fun k j u v x h1 h2 h3 h4 => ?_, fun x o v hv => ?_, ?_, fun k hk => ?_⟩
  · have : boxArgs [] 1000 (fun _ => none) l = some d := h
    cases this
  · rw [hγ'] at h; exact absurd h (nobox l x)
  · rw [hγ'] at h1; exact absurd h1 (nobox l x)
  · rw [hγ'] at h; exact absurd h (nobox l x)
  · have hr' : upd (fun _ => none) 1000 (some (⟨1, own, ys.map intD⟩ : Row)) k = some r := hr
    by_cases h : k = 1000
    · subst h
      rw [upd_eq] at hr'; cases hr'
      obtain ⟨t', k1, k2, k3, k4, k5⟩ := hm.row 1000 ⟨1, true, zs.map intD⟩ rfl
      rw [h1] at k1; cases k1
      refine ⟨t, by rw [hγ']; exact h1, k2, by simp [hn, hlen], fun e he => by obtain ⟨x, _, rfl⟩ := List.mem_map.1 he; rfl, ?_⟩
      refine ⟨fun _ => ?_, fun e => absurd e Nat.one_ne_zero⟩
      unfold RowO
      rw [hb]
      refine ⟨hcap, hmine, fun l => by rw [hγ']; exact hmu l, _, e, fz, hb1, by rw [hpcs]; exact hfz, by rw [hpcs]; simpa using hcs, fun j hj => I4 j (by rw [hn] at hj; dsimp only at hj; omega), fun ho j => I2 ho j, fun j d hd => ?_⟩
      rw [flat_intD, nth_eq, List.getElem?_map] at hd
      cases hx : ys[j]? with
      | none => rw [hx] at hd; cases hd
      | some x =>
        rw [hx] at hd; cases hd
        exact ⟨_, hpc j x hx, .int _ _, rfl, fun ho => I3 ho j x hx⟩
    · rw [upd_ne _ _ _ _ h] at hr'; cases hr'
  · rw [hγ'] at hk
    have := only k u hk
    subst this
    exact ⟨_, rfl⟩
  · rw [hγ'] at h1 h2
    exact (only k u h1).trans (only j v h2).symm
  · by_cases hx : x = b
    · subst hx; exact .inr hmine
    · rw [I1 x o hx] at hv
      exact .inl hv
  · show Frame w w' X
    refine ⟨by rw [hw]; rfl, by rw [hw]; rfl, by rw [hw]; rfl, hsz, fun k hk hx => hoth k hk fun e => hx ?_⟩
    rw [e, hX]
    exact .inr ⟨1000, t, h1, hb⟩
  · exact .inl (Nat.le_trans hsz hk)
end Abs
