/- A part of a proof: an abstract machine, proved sound, or contracts of functions. No condition. -/
import Derived.Test.YtcbpfnplkdijpaaGreatT7
import Derived.Test.YtcbpfnplkdijpaaGreatT6
set_option linter.unusedVariables false
set_option linter.unusedSimpArgs false
namespace Abs
open Go Go.Proofs
set_option maxRecDepth 100000
set_option maxHeartbeats 4000000
def Mk.defR (m : Mk) (id : Int) (a s : Nat) (part : Int) (c : Nat) (gs : List Rng) (b2 : Nat) (ar : List Ar) : Df × Ms :=
  (m.dG id a part (m.params (a+1+1+1+1+1) c) gs ((((m.params (a+1+1+1+1+1) c).map encR).length : Nat) + 2 + m.nx ((a+1+1+1+1+1 + c)+1) 2) 2 ar
    ((m.with' (m.dG id a part (m.params (a+1+1+1+1+1) c) gs ((((m.params (a+1+1+1+1+1) c).map encR).length : Nat) + 2 + m.nx ((a+1+1+1+1+1 + c)+1) 2) 2 ar [] 0)).stmts 2 (1 + m.nx b2 5).toNat ⟨b2+1, s, 9, 0⟩).1
    (((m.with' (m.dG id a part (m.params (a+1+1+1+1+1) c) gs ((((m.params (a+1+1+1+1+1) c).map encR).length : Nat) + 2 + m.nx ((a+1+1+1+1+1 + c)+1) 2) 2 ar [] 0)).stmts 2 (1 + m.nx b2 5).toNat ⟨b2+1, s, 9, 0⟩).2.s+1 : Nat),
   ((m.with' (m.dG id a part (m.params (a+1+1+1+1+1) c) gs ((((m.params (a+1+1+1+1+1) c).map encR).length : Nat) + 2 + m.nx ((a+1+1+1+1+1 + c)+1) 2) 2 ar [] 0)).stmts 2 (1 + m.nx b2 5).toNat ⟨b2+1, s, 9, 0⟩).2)
def Mk.def' (m : Mk) (id : Int) (th : Bool) (a s : Nat) : Df × Ms :=
  m.defR id a s (if m.nx (a+1+1+1) 2 == 0 then 0 else m.partX a)
    (if th then 0 else (m.nx (a+1+1+1+1) 3).toNat)
    (if (m.nx ((a+1+1+1+1+1 + (if th then 0 else (m.nx (a+1+1+1+1) 3).toNat))) 4 == 0) && !th then [givenR] else [])
    (if (if th then 0 else (m.nx (a+1+1+1+1) 3).toNat) = 0 then ((a+1+1+1+1+1 + (if th then 0 else (m.nx (a+1+1+1+1) 3).toNat))+1+1) else ((a+1+1+1+1+1 + (if th then 0 else (m.nx (a+1+1+1+1) 3).toNat))+1+1+1))
    (if (if th then 0 else (m.nx (a+1+1+1+1) 3).toNat) = 0 then [⟨4, 0⟩] else if m.nx ((a+1+1+1+1+1 + (m.nx (a+1+1+1+1) 3).toNat)+1+1) 2 == 0 then [⟨4, 0⟩, ⟨8, 1⟩] else [⟨4, 0⟩])
theorem def_ok (m : Mk) (id : Int) (th : Bool) (a s l p d : Nat) (fine : m.Core) (hid : 0 ≤ id ∧ id < 100) (h : a + 5000 < 2^58) (h' : s + 300 < 2^58) (hp : p < 2^40) (hlen : m.heads.length < 2^20 ∧ m.defs.length < 2^20) :
    CallsA Tryz.prog 110 [mp, it id, bo th] (ctM m a s l p d) (.tup [])
      (ctEnd m (m.def' id th a s).1 (m.def' id th a s).2.a ((m.def' id th a s).2.s+1) (m.def' id th a s).2.l p (m.def' id th a s).2.d) := by
  have bX := m.nx_bd (a+1+1+1+1) (n := 3) (by omega)
  cases th
  · by_cases hX : m.nx (a+1+1+1+1) 3 = 0
    · have hX3 : (m.nx (a+1+1+1+1) 3).toNat = 0 := by omega
      cases t0 : (m.nx (a+1+1+1) 2 == 0) <;> cases t1 : (m.nx (a+1+1+1+1+1 + (m.nx (a+1+1+1+1) 3).toNat) 4 == 0)
      all_goals
        have e : m.def' id false a s = m.defR id a s (if m.nx (a+1+1+1) 2 == 0 then 0 else m.partX a) (m.nx (a+1+1+1+1) 3).toNat (if m.nx (a+1+1+1+1+1 + (m.nx (a+1+1+1+1) 3).toNat) 4 == 0 then [givenR] else []) ((a+1+1+1+1+1 + (m.nx (a+1+1+1+1) 3).toNat)+1+1) [⟨4, 0⟩] := by
          simp only [Mk.def', Bool.not_false, Bool.and_true, Bool.false_eq_true, if_false, if_pos hX3]
        rw [e, t0, t1]
      · exact def_f000 m id a s l p d fine hid h h' hp hlen t0 t1 hX
      · exact def_f010 m id a s l p d fine hid h h' hp hlen t0 t1 hX
      · exact def_f100 m id a s l p d fine hid h h' hp hlen t0 t1 hX
      · exact def_f110 m id a s l p d fine hid h h' hp hlen t0 t1 hX
    · have hX2 : 0 < m.nx (a+1+1+1+1) 3 := by omega
      have hX3 : ¬ (m.nx (a+1+1+1+1) 3).toNat = 0 := by omega
      cases t0 : (m.nx (a+1+1+1) 2 == 0) <;> cases t1 : (m.nx (a+1+1+1+1+1 + (m.nx (a+1+1+1+1) 3).toNat) 4 == 0) <;> cases t2 : (m.nx ((a+1+1+1+1+1 + (m.nx (a+1+1+1+1) 3).toNat)+1+1) 2 == 0)
      all_goals
        have e : m.def' id false a s = m.defR id a s (if m.nx (a+1+1+1) 2 == 0 then 0 else m.partX a) (m.nx (a+1+1+1+1) 3).toNat (if m.nx (a+1+1+1+1+1 + (m.nx (a+1+1+1+1) 3).toNat) 4 == 0 then [givenR] else []) ((a+1+1+1+1+1 + (m.nx (a+1+1+1+1) 3).toNat)+1+1+1) (if m.nx ((a+1+1+1+1+1 + (m.nx (a+1+1+1+1) 3).toNat)+1+1) 2 == 0 then [⟨4, 0⟩, ⟨8, 1⟩] else [⟨4, 0⟩]) := by
          simp only [Mk.def', Bool.not_false, Bool.and_true, Bool.false_eq_true, if_false, if_neg hX3]
        rw [e, t0, t1, t2]
      · exact def_f002 m id a s l p d fine hid h h' hp hlen t0 t1 hX2 t2
      · exact def_f001 m id a s l p d fine hid h h' hp hlen t0 t1 hX2 t2
      · exact def_f012 m id a s l p d fine hid h h' hp hlen t0 t1 hX2 t2
      · exact def_f011 m id a s l p d fine hid h h' hp hlen t0 t1 hX2 t2
      · exact def_f102 m id a s l p d fine hid h h' hp hlen t0 t1 hX2 t2
      · exact def_f101 m id a s l p d fine hid h h' hp hlen t0 t1 hX2 t2
      · exact def_f112 m id a s l p d fine hid h h' hp hlen t0 t1 hX2 t2
      · exact def_f111 m id a s l p d fine hid h h' hp hlen t0 t1 hX2 t2
  · cases t0 : (m.nx (a+1+1+1) 2 == 0) <;> cases t1 : (m.nx (a+1+1+1+1+1 + 0) 4 == 0)
    all_goals
      have e : m.def' id true a s = m.defR id a s (if m.nx (a+1+1+1) 2 == 0 then 0 else m.partX a) 0 [] (a+1+1+1+1+1 + 0+1+1) [⟨4, 0⟩] := by
        simp only [Mk.def', Bool.not_true, Bool.and_false, Bool.false_eq_true, if_false, if_true]
      rw [e, t0]
    · exact def_t00 m id a s l p d fine hid h h' hp hlen t0 t1
    · exact def_t01 m id a s l p d fine hid h h' hp hlen t0 t1
    · exact def_t10 m id a s l p d fine hid h h' hp hlen t0 t1
    · exact def_t11 m id a s l p d fine hid h h' hp hlen t0 t1
end Abs
namespace Abs
open Go Go.Proofs
set_option maxRecDepth 100000
set_option maxHeartbeats 4000000
theorem Mk.defR_use (m : Mk) (hh : ∀ h ∈ m.heads, h.params.length ≤ 12 ∧ h.given.length ≤ 12) (id : Int) (a s : Nat) (part : Int) (c : Nat) (gs : List Rng) (b2 : Nat) (ar : List Ar) :
    (m.defR id a s part c gs b2 ar).2.a ≤ b2 + 1801 ∧ (m.defR id a s part c gs b2 ar).2.s ≤ s + 90 ∧ (m.defR id a s part c gs b2 ar).2.l ≤ 9 ∧ (m.defR id a s part c gs b2 ar).2.d ≤ 2 ∧
    (m.defR id a s part c gs b2 ar).1.params.length = c ∧ (m.defR id a s part c gs b2 ar).1.given.length = gs.length := by
  have us := (m.with' (m.dG id a part (m.params (a+1+1+1+1+1) c) gs ((((m.params (a+1+1+1+1+1) c).map encR).length : Nat) + 2 + m.nx ((a+1+1+1+1+1 + c)+1) 2) 2 ar [] 0)).stmts_use hh 2 (1 + m.nx b2 5).toNat ⟨b2+1, s, 9, 0⟩
  simp only [Less] at us
  refine ⟨?_, ?_, ?_, ?_, m.params_len _ _, rfl⟩
  all_goals (simp only [Mk.defR]; omega)
theorem Mk.def_use (m : Mk) (hh : ∀ h ∈ m.heads, h.params.length ≤ 12 ∧ h.given.length ≤ 12) (id : Int) (th : Bool) (a s : Nat) :
    (m.def' id th a s).2.a ≤ a + 1850 ∧ (m.def' id th a s).2.s ≤ s + 90 ∧ (m.def' id th a s).2.l ≤ 9 ∧ (m.def' id th a s).2.d ≤ 2 ∧
    (m.def' id th a s).1.params.length ≤ 2 ∧ (m.def' id th a s).1.given.length ≤ 1 := by
  have bX := m.nx_bd (a+1+1+1+1) (n := 3) (by omega)
  obtain ⟨c, hc, hc2⟩ : ∃ c, (if th then 0 else (m.nx (a+1+1+1+1) 3).toNat) = c ∧ c ≤ 2 := ⟨_, rfl, by split <;> omega⟩
  unfold Mk.def'
  rw [hc]
  have hb : (if c = 0 then ((a+1+1+1+1+1 + c)+1+1) else ((a+1+1+1+1+1 + c)+1+1+1)) ≤ a + 10 := by split <;> omega
  have hg : (if (m.nx ((a+1+1+1+1+1 + c)) 4 == 0) && !th then [givenR] else []).length ≤ 1 := by split <;> simp
  have u := m.defR_use hh id a s (if m.nx (a+1+1+1) 2 == 0 then 0 else m.partX a) c (if (m.nx ((a+1+1+1+1+1 + c)) 4 == 0) && !th then [givenR] else []) (if c = 0 then ((a+1+1+1+1+1 + c)+1+1) else ((a+1+1+1+1+1 + c)+1+1+1))
    (if c = 0 then [⟨4, 0⟩] else if m.nx ((a+1+1+1+1+1 + (m.nx (a+1+1+1+1) 3).toNat)+1+1) 2 == 0 then [⟨4, 0⟩, ⟨8, 1⟩] else [⟨4, 0⟩])
  refine ⟨?_, ?_, ?_, ?_, ?_, ?_⟩
  all_goals omega
def zD : Df := ⟨0, 0, [], 0, 0, [], [], 0, 0, [], 0, []⟩
structure MdS where
  a : Nat
  s : Nat
  l : Nat
  d : Nat
  heads : List Hd
  defs : List Df
  D : Df
def MdS.mk' (L : List UInt8) (x : MdS) : Mk := ⟨L, declD, x.heads, x.defs, [], x.D, false⟩
def encMkN (m : Mk) (h k t : Nat) (a s l p d : Nat) : Dat := .agg ([byt m.L, it a] ++ (cDc m.d ++ ([.ref h (m.heads.map encH).length, .ref k (m.defs.map encD).length, .ref t (m.th.map it).length] ++ (cD m.D ++ [it s, it l, it p, it d, bo m.calm]))))
def lastT (L : List UInt8) (last : Bool) (x : MdS) : Bool := last || (x.mk' L).nx x.a 5 == 0
def lastA (last : Bool) (x : MdS) : Nat := if last then x.a else x.a + 1
def defOf (L : List UInt8) (last : Bool) (i : Nat) (x : MdS) : Df × Ms := (x.mk' L).def' (11 + i) (lastT L last x) (lastA last x) x.s
def MdS.after (x : MdS) (r : Df × Ms) : MdS := ⟨r.2.a, r.2.s + 1, r.2.l, r.2.d, x.heads ++ [headOf r.1], x.defs ++ [r.1], r.1⟩
def mdRun (L : List UInt8) (n : Nat) : Nat → MdS
  | 0 => ⟨1, 100, 0, 0, [], [], zD⟩
  | i + 1 => (mdRun L n i).after (defOf L (i + 1 == n) i (mdRun L n i))
structure MdOk (i : Nat) (x : MdS) : Prop where
  a : x.a ≤ 1 + 1851 * i
  s : x.s ≤ 100 + 91 * i
  l : x.l ≤ 9
  d : x.d ≤ 2
  heads : ∀ h ∈ x.heads, h.params.length ≤ 12 ∧ h.given.length ≤ 12
  nh : x.heads.length = i
  nd : x.defs.length = i
theorem mdRun_ok (L : List UInt8) (n : Nat) : ∀ i, MdOk i (mdRun L n i)
  | 0 => ⟨by simp [mdRun], by simp [mdRun], by simp [mdRun], by simp [mdRun], by simp [mdRun], rfl, rfl⟩
  | i + 1 => by
    have h := mdRun_ok L n i
    have u := ((mdRun L n i).mk' L).def_use h.heads (11 + i) (lastT L (i + 1 == n) (mdRun L n i)) (lastA (i + 1 == n) (mdRun L n i)) (mdRun L n i).s
    have ha : lastA (i + 1 == n) (mdRun L n i) ≤ (mdRun L n i).a + 1 := by unfold lastA; split <;> omega
    have h1 := h.a; have h2 := h.s
    refine ⟨?_, ?_, u.2.2.1, u.2.2.2.1, ?_, ?_, ?_⟩
    · show (defOf L (i + 1 == n) i (mdRun L n i)).2.a ≤ _; unfold defOf; omega
    · show (defOf L (i + 1 == n) i (mdRun L n i)).2.s + 1 ≤ _; unfold defOf; omega
    · intro x hx
      rcases List.mem_append.1 hx with hx | hx
      · exact h.heads x hx
      · have e := List.mem_singleton.1 hx
        subst e
        exact ⟨Nat.le_trans u.2.2.2.2.1 (by omega), Nat.le_trans u.2.2.2.2.2 (by omega)⟩
    · show (_ ++ [_]).length = _; rw [List.length_append, h.nh]; rfl
    · show (_ ++ [_]).length = _; rw [List.length_append, h.nd]; rfl
def hintMade : Nat → List Ad
  | 2 => [.cell 15 9 16, .cell 15 10 17, .cell 15 11 18, .layCell 15 17, .layCell 15 18, .layCell 15 21, .layCell 15 23]
  | 14 => [.layCell 15 9, .layCell 15 10, .layCell 15 11]
  | _ => []
def thRun (ds : List Df) : Nat → List Int → List Int
  | 0, acc => acc
  | k + 1, acc => if acc.length < 2 then thRun ds k (match ds[k]? with | some D => if D.params.length + D.given.length = 0 then acc ++ [D.id] else acc | none => acc) else acc
def madeP (L : List UInt8) : Pg :=
  let n := (1 + (zD, (⟨L, declD, [], [], [], zD, false⟩ : Mk).nx 0 4).2).toNat
  let x := mdRun L n n
  let t := thRun x.defs n []
  ⟨declD, x.heads, x.defs, if (x.mk' L).nx x.a 3 == 0 then t.take 1 else t⟩
end Abs
namespace Abs
open Go Go.Proofs
set_option maxRecDepth 100000
set_option maxHeartbeats 4000000
structure MdR where
  i : Nat
  x : MdS
theorem exN {x : Int} (h : 0 ≤ x ∧ x < 4) : ∃ n : Nat, 1 + x = (n : Int) ∧ n ≤ 4 ∧ 0 < n := ⟨(1 + x).toNat, by omega, by omega, by omega⟩
structure TR where
  k : Nat
  t : List Int
  acc : List Dat
def ctMA (m : Mk) (acc : List Dat) (a s l p d : Nat) : Ct := ⟨[.agg ([byt m.L, it a] ++ (cDc m.d ++ ([.ref 1000 (m.heads.map encH).length, .ref 1001 (m.defs.map encD).length, .ref 1002 acc.length] ++ (cD m.D ++ [it s, it l, it p, it d, bo m.calm]))))], [⟨5, true, m.heads.map encH⟩, ⟨12, true, m.defs.map encD⟩, ⟨1, true, acc⟩]⟩
def encMkT (m : Mk) (acc : List Dat) (h k t : Nat) (a s l p d : Nat) : Dat := .agg ([byt m.L, it a] ++ (cDc m.d ++ ([.ref h (m.heads.map encH).length, .ref k (m.defs.map encD).length, .ref t acc.length] ++ (cD m.D ++ [it s, it l, it p, it d, bo m.calm]))))
theorem nextT_ok (m : Mk) (acc : List Dat) (ha : acc = m.th.map it) (a s l p d : Nat) (n : Int) (h : a < 2^60) (hn : 0 < n) : CallsA Tryz.prog 109 [mp, it n] (ctMA m acc a s l p d) (it (m.nx a n)) (ctMA m acc (a + 1) s l p d) := by
  subst ha; exact next_ok m a s l p d n h hn
theorem th_zero {ds : List Df} {k : Nat} {t T : List Int} (h : ¬ 0 < k) (e : thRun ds k t = T) : t = T := by
  rw [show k = 0 by omega] at e; exact e
theorem th_end {ds : List Df} {k : Nat} {t T : List Int} (g : ¬ t.length < 2) (h : 0 < k) (e : thRun ds k t = T) : t = T := by
  obtain ⟨j, rfl⟩ : ∃ j, k = j + 1 := ⟨k - 1, by omega⟩
  rw [thRun, if_neg g] at e; exact e
theorem th_step {ds : List Df} {k : Nat} {t : List Int} (hj : k - 1 < ds.length) (g : t.length < 2) (h : 0 < k) : thRun ds k t = thRun ds (k - 1) (if ds[k - 1].params.length + ds[k - 1].given.length = 0 then t ++ [ds[k - 1].id] else t) := by
  obtain ⟨j, rfl⟩ : ∃ j, k = j + 1 := ⟨k - 1, by omega⟩
  have hj : j < ds.length := hj
  rw [thRun, if_pos g, List.getElem?_eq_getElem hj]; rfl
theorem thRun_ge : ∀ (ds : List Df) (k : Nat) (t : List Int), t.length ≤ (thRun ds k t).length
  | ds, 0, t => Nat.le_refl _
  | ds, k + 1, t => by
    rw [thRun]
    split
    · refine Nat.le_trans ?_ (thRun_ge ds k _)
      split
      · split
        · simp
        · exact Nat.le_refl _
      · exact Nat.le_refl _
    · exact Nat.le_refl _
theorem defOf_last (L : List UInt8) (i : Nat) (x : MdS) (h : ∀ y ∈ x.heads, y.params.length ≤ 12 ∧ y.given.length ≤ 12) : (defOf L true i x).1.params.length + (defOf L true i x).1.given.length = 0 := by
  have u := (x.mk' L).defR_use h
  have e1 : lastT L true x = true := rfl
  unfold defOf Mk.def'
  rw [e1]
  have := u (11 + i) (lastA true x) x.s
  simp only [Bool.not_true, Bool.and_false]
  rw [(this _ _ _ _ _).2.2.2.2.1, (this _ _ _ _ _).2.2.2.2.2]; simp
theorem mdRun_defs (L : List UInt8) (n : Nat) : ∀ i, ∀ y ∈ (mdRun L n i).defs, y.params.length ≤ 12 ∧ y.given.length ≤ 12
  | 0 => by simp [mdRun]
  | i + 1 => by
    have h := mdRun_ok L n i
    have u := ((mdRun L n i).mk' L).def_use h.heads (11 + i) (lastT L (i + 1 == n) (mdRun L n i)) (lastA (i + 1 == n) (mdRun L n i)) (mdRun L n i).s
    intro y hy
    rcases List.mem_append.1 hy with hy | hy
    · exact mdRun_defs L n i y hy
    · have e := List.mem_singleton.1 hy
      subst e
      exact ⟨Nat.le_trans u.2.2.2.2.1 (by omega), Nat.le_trans u.2.2.2.2.2 (by omega)⟩
theorem thRun_pos (L : List UInt8) (n : Nat) (h0 : 0 < n) (h4 : n ≤ 4) : 0 < (thRun (mdRun L n n).defs n []).length := by
  obtain ⟨j, rfl⟩ : ∃ j, n = j + 1 := ⟨n - 1, by omega⟩
  have ok := mdRun_ok L (j + 1) j
  have hd : (mdRun L (j + 1) (j + 1)).defs = (mdRun L (j + 1) j).defs ++ [(defOf L true j (mdRun L (j + 1) j)).1] := by
    rw [mdRun, show (j + 1 == j + 1) = true by simp]; rfl
  have h := defOf_last L j (mdRun L (j + 1) j) ok.heads
  have hl := ok.nd
  have hj : (mdRun L (j + 1) (j + 1)).defs[j]? = some (defOf L true j (mdRun L (j + 1) j)).1 := by
    rw [hd, List.getElem?_append_right (by omega), hl]; simp
  rw [thRun, if_pos (by simp), hj]
  refine Nat.lt_of_lt_of_le ?_ (thRun_ge _ _ _)
  simp only
  rw [if_pos h]; simp
theorem made_ok (L : List UInt8) : CallsA Tryz.prog 66 [.agg [byt L], bo false] ct0 (encP (madeP L)) ct0 := by
  have n0 := (⟨L, declD, [], [], [], zD, false⟩ : Mk).nx_bd 0 (n := 4) (by omega)
  have hex : ∃ n : Nat, 1 + (⟨L, declD, [], [], [], zD, false⟩ : Mk).nx 0 4 = (n : Int) ∧ n ≤ 4 ∧ 0 < n := exN n0
  refine hex.elim fun n hn => ?_
  have hn' := hn.1
  have hn1 := hn.2.1
  have hn0 := hn.2.2
  have c1 := next_ok (⟨L, declD, [], [], [], zD, false⟩ : Mk) 0 100 0 0 0 4 (by omega) (by omega)
  have tnz := thRun_pos L n hn0 hn1
  have hmP : madeP L = ⟨declD, (mdRun L n n).heads, (mdRun L n n).defs, if ((mdRun L n n).mk' L).nx (mdRun L n n).a 3 == 0 then (thRun (mdRun L n n).defs n []).take 1 else thRun (mdRun L n n).defs n []⟩ := by
    have e : (1 + (zD, (⟨L, declD, [], [], [], zD, false⟩ : Mk).nx 0 4).2).toNat = n := by
      show (1 + (⟨L, declD, [], [], [], zD, false⟩ : Mk).nx 0 4).toNat = n
      rw [hn']; exact Int.toNat_natCast n
    unfold madeP
    rw [e]
  have hT : ∃ T, T = thRun (mdRun L n n).defs n [] := ⟨_, rfl⟩
  refine hT.elim fun T hT => ?_
  rw [← hT] at tnz hmP
  have hR : ∃ R, R = madeP L := ⟨_, rfl⟩
  refine hR.elim fun R hR => ?_
  rw [← hR]
  rw [hmP] at hR
  refine fn_ok hm Tryz.func66 (fun _ => false) [false] hintMade (by kernel_rfl) ?_
  refine run ?_; repeat ((apply call_ok; first | exact (declared_ok) | exact (c1)); refine run ?_)
  refine LoopS.mk ⟨[], HeadS.of (fun r : MdR => r.i ≤ n ∧ r.x = mdRun L n r.i) (fun r => ⟨[(7, it r.i)], [(15, encMkN (r.x.mk' L) 16 17 18 r.x.a r.x.s r.x.l 0 r.x.d)], [(16, ⟨5, true, r.x.heads.map encH⟩), (17, ⟨12, true, r.x.defs.map encD⟩), (18, ⟨1, true, []⟩)]⟩)
    (fun r => n - r.i) ⟨0, ⟨1, 100, 0, 0, [], [], zD⟩⟩ ⟨Nat.zero_le _, rfl⟩ ?_ ?_ ?_ ?_ ?_⟩
  · repeat' (first | exact trivial | exact rfl | refine ⟨?_, ?_⟩ | refine ⟨?_, ?_, ?_⟩)
  · kernel_rfl
  · kernel_rfl
  · intro r; exact ⟨rfl, rfl, rfl⟩
  intro r hJ
  have j1 := hJ.1
  have j2 := hJ.2
  have ok := mdRun_ok L n r.i
  rw [← j2] at ok
  have oa := ok.a
  have os := ok.s
  have oh := ok.nh
  have od := ok.nd
  by_cases hk : r.i < n
  · have b1 : decide ((r.i : Int) < (n : Int)) = true := by simp; exact hk
    have hsu : r.x.after (defOf L (r.i + 1 == n) r.i r.x) = mdRun L n (r.i + 1) := by rw [j2]; rfl
    by_cases hl : r.i + 1 = n
    · have b2 : ((r.i : Int) == (n : Int) - 1) = true := by simp; omega
      have b3 : (r.i + 1 == n) = true := by simp; exact hl
      have c2 := def_ok (r.x.mk' L) (11 + r.i) true r.x.a r.x.s r.x.l 0 r.x.d ⟨rfl, ok.heads, by show r.x.heads.length < _; omega⟩ (by omega) (by omega) (by omega) (by omega) ⟨by show r.x.heads.length < _; omega, by show r.x.defs.length < _; omega⟩
      rw [b3] at hsu
      refine run ?_; repeat ((apply call_ok; first | exact (c2)); refine run ?_)
      refine ⟨⟨⟨r.i + 1, _⟩, ⟨hk, hsu⟩⟩, Nat.sub_lt_sub_left hk (Nat.lt_succ_self _), ?_⟩
      repeat' (first | exact trivial | exact rfl | refine ⟨?_, ?_⟩ | refine ⟨?_, ?_, ?_⟩)
    · have b2 : ((r.i : Int) == (n : Int) - 1) = false := by simp; omega
      have b3 : (r.i + 1 == n) = false := by simp; exact hl
      have c0 := next_ok (r.x.mk' L) r.x.a r.x.s r.x.l 0 r.x.d 5 (by omega) (by omega)
      have c2 := def_ok (r.x.mk' L) (11 + r.i) ((r.x.mk' L).nx r.x.a 5 == 0) (r.x.a + 1) r.x.s r.x.l 0 r.x.d ⟨rfl, ok.heads, by show r.x.heads.length < _; omega⟩ (by omega) (by omega) (by omega) (by omega) ⟨by show r.x.heads.length < _; omega, by show r.x.defs.length < _; omega⟩
      rw [b3] at hsu
      refine run ?_; repeat ((apply call_ok; first | exact (c0) | exact (c2)); refine run ?_)
      refine ⟨⟨⟨r.i + 1, _⟩, ⟨hk, hsu⟩⟩, Nat.sub_lt_sub_left hk (Nat.lt_succ_self _), ?_⟩
      repeat' (first | exact trivial | exact rfl | refine ⟨?_, ?_⟩ | refine ⟨?_, ?_, ?_⟩)
  have b1 : decide ((r.i : Int) < (n : Int)) = false := by simp; omega
  have hin : r.i = n := by omega
  rw [hin] at j2 od
  have hRx : R = ⟨declD, r.x.heads, r.x.defs, if (r.x.mk' L).nx r.x.a 3 == 0 then T.take 1 else T⟩ := by rw [j2]; exact hR
  have hTx : thRun r.x.defs n [] = T := by rw [j2]; exact hT.symm
  refine run ?_
  refine LoopS.mk ⟨[], HeadS.of (fun q : TR => q.k ≤ n ∧ q.t.length ≤ 2 ∧ thRun r.x.defs q.k q.t = T ∧ q.acc = q.t.map it) (fun q => ⟨[(8, it ((q.k : Int) - 1))], [(15, encMkT ⟨L, declD, r.x.heads, r.x.defs, q.t, r.x.D, false⟩ q.acc 16 17 18 r.x.a r.x.s r.x.l 0 r.x.d)], [(18, ⟨1, true, q.acc⟩)]⟩)
    (fun q => q.k) ⟨n, [], []⟩ ⟨Nat.le_refl _, by simp, hTx, rfl⟩ ?_ ?_ ?_ ?_ ?_⟩
  · repeat' (first | exact trivial | exact rfl | refine ⟨?_, ?_⟩ | refine ⟨?_, ?_, ?_⟩)
  · kernel_rfl
  · kernel_rfl
  · intro r; exact ⟨rfl, rfl, rfl⟩
  intro q hq
  have q1 := hq.1
  have q2 := hq.2.1
  have q3 := hq.2.2.1
  have q4 := hq.2.2.2
  have a1 : (q.k : Int) - 1 - 1 = ((q.k - 1 : Nat) : Int) - 1 ∨ q.k = 0 := by omega
  by_cases gk : 0 < q.k
  · have d1 : decide ((q.k : Int) - 1 ≥ 0) = true := by simp; omega
    have a2 : (q.k : Int) - 1 - 1 = ((q.k - 1 : Nat) : Int) - 1 := by omega
    by_cases g2 : q.t.length < 2
    · have d2 : decide ((q.acc.length : Int) < 2) = true := by rw [q4, List.length_map]; simp; omega
      have q5 : q.acc.length < 2 := by rw [q4, List.length_map]; exact g2
      have hj : q.k - 1 < r.x.defs.length := by omega
      have hi : nth (r.x.defs.map encD) (((q.k : Int) - 1).toNat) = some (encD r.x.defs[q.k - 1]) := by
        rw [show ((q.k : Int) - 1).toNat = q.k - 1 by omega, nth_map, nth_get hj]; rfl
      have hst := th_step hj g2 gk
      have hk1 : q.k - 1 ≤ n := by omega
      have hk2 : q.k - 1 < q.k := by omega
      have hk3 : (q.t ++ [r.x.defs[q.k - 1].id]).length ≤ 2 := by rw [List.length_append, List.length_singleton]; omega
      have hk4 : q.acc ++ [it r.x.defs[q.k - 1].id] = (q.t ++ [r.x.defs[q.k - 1].id]).map it := by rw [q4, List.map_append]; rfl
      have hpl := mdRun_defs L n n r.x.defs[q.k - 1] (by rw [← j2]; exact List.getElem_mem hj)
      have hp1 := hpl.1
      have hp2 := hpl.2
      have hp3 : (r.x.defs[q.k - 1].params.map encR).length ≤ 12 := by rw [List.length_map]; exact hp1
      have hp4 : (r.x.defs[q.k - 1].given.map encR).length ≤ 12 := by rw [List.length_map]; exact hp2
      refine (Bool.eq_false_or_eq_true ((((r.x.defs[q.k - 1].params.map encR).length : Int) + ((r.x.defs[q.k - 1].given.map encR).length : Int)) == 0)).elim (fun d3 => ?_) (fun d3 => ?_)
      · have hN : (if r.x.defs[q.k - 1].params.length + r.x.defs[q.k - 1].given.length = 0 then q.t ++ [r.x.defs[q.k - 1].id] else q.t) = q.t ++ [r.x.defs[q.k - 1].id] := if_pos (by simp at d3; omega)
        rw [hN] at hst
        refine run ?_
        refine Idx.at rfl (by omega) hi ?_
        refine run ?_
        refine Idx.at rfl (by omega) hi ?_
        refine run ?_
        refine Idx.at rfl (by omega) hi ?_
        refine run ?_
        refine Idx.at rfl (by omega) hi ?_
        refine run ?_
        refine Idx.at rfl (by omega) hi ?_
        refine run ?_
        refine Idx.at rfl (by omega) hi ?_
        refine run ?_
        refine ⟨⟨⟨q.k - 1, q.t ++ [r.x.defs[q.k - 1].id], q.acc ++ [it r.x.defs[q.k - 1].id]⟩, ⟨hk1, hk3, hst.symm.trans q3, hk4⟩⟩, hk2, ?_⟩
        repeat' (first | exact trivial | exact rfl | refine ⟨?_, ?_⟩ | refine ⟨?_, ?_, ?_⟩)
      · have hN : (if r.x.defs[q.k - 1].params.length + r.x.defs[q.k - 1].given.length = 0 then q.t ++ [r.x.defs[q.k - 1].id] else q.t) = q.t := if_neg (by simp at d3; omega)
        rw [hN] at hst
        refine run ?_
        refine Idx.at rfl (by omega) hi ?_
        refine run ?_
        refine Idx.at rfl (by omega) hi ?_
        refine run ?_
        refine Idx.at rfl (by omega) hi ?_
        refine run ?_
        refine Idx.at rfl (by omega) hi ?_
        refine run ?_
        refine ⟨⟨⟨q.k - 1, q.t, q.acc⟩, ⟨hk1, q2, hst.symm.trans q3, q4⟩⟩, hk2, ?_⟩
        repeat' (first | exact trivial | exact rfl | refine ⟨?_, ?_⟩ | refine ⟨?_, ?_, ?_⟩)
    · have d2 : decide ((q.acc.length : Int) < 2) = false := by rw [q4, List.length_map]; simp; omega
      have e := th_end g2 gk q3
      have c3 := nextT_ok ⟨L, declD, r.x.heads, r.x.defs, q.t, r.x.D, false⟩ q.acc q4 r.x.a r.x.s r.x.l 0 r.x.d 3 (by omega) (by omega)
      have hq0 : 1 ≤ q.t.length := by rw [e]; exact tnz
      have hq1 : 1 ≤ q.acc.length := by rw [q4, List.length_map]; exact hq0
      refine (Bool.eq_false_or_eq_true ((r.x.mk' L).nx r.x.a 3 == 0)).elim (fun dB => ?_) (fun dB => ?_)
      · have dB' : ((⟨L, declD, r.x.heads, r.x.defs, q.t, r.x.D, false⟩ : Mk).nx r.x.a 3 == 0) = true := dB
        have hRe : (⟨declD, r.x.heads, r.x.defs, q.t.take 1⟩ : Pg) = R := by rw [hRx, if_pos dB, e]
        have hA : q.acc.take 1 = (q.t.take 1).map it := by rw [q4, List.map_take]
        refine run ?_; repeat ((apply call_ok; first | exact (c3)); refine run ?_)
        exact Done.mk (Eq.trans (congrArg (fun x => Dat.agg (cDc declD ++ [lst 5 encH r.x.heads, lst 12 encD r.x.defs, .sl 1 x false])) hA) (congrArg encP hRe)) rfl
      · have dB' : ((⟨L, declD, r.x.heads, r.x.defs, q.t, r.x.D, false⟩ : Mk).nx r.x.a 3 == 0) = false := dB
        have hRe : (⟨declD, r.x.heads, r.x.defs, q.t⟩ : Pg) = R := by rw [hRx, if_neg (by rw [dB]; simp), e]
        refine run ?_; repeat ((apply call_ok; first | exact (c3)); refine run ?_)
        exact Done.mk (Eq.trans (congrArg (fun x => Dat.agg (cDc declD ++ [lst 5 encH r.x.heads, lst 12 encD r.x.defs, .sl 1 x false])) q4) (congrArg encP hRe)) rfl
  · have d1 : decide ((q.k : Int) - 1 ≥ 0) = false := by simp; omega
    have e := th_zero gk q3
    have c3 := nextT_ok ⟨L, declD, r.x.heads, r.x.defs, q.t, r.x.D, false⟩ q.acc q4 r.x.a r.x.s r.x.l 0 r.x.d 3 (by omega) (by omega)
    have hq0 : 1 ≤ q.t.length := by rw [e]; exact tnz
    have hq1 : 1 ≤ q.acc.length := by rw [q4, List.length_map]; exact hq0
    refine (Bool.eq_false_or_eq_true ((r.x.mk' L).nx r.x.a 3 == 0)).elim (fun dB => ?_) (fun dB => ?_)
    · have dB' : ((⟨L, declD, r.x.heads, r.x.defs, q.t, r.x.D, false⟩ : Mk).nx r.x.a 3 == 0) = true := dB
      have hRe : (⟨declD, r.x.heads, r.x.defs, q.t.take 1⟩ : Pg) = R := by rw [hRx, if_pos dB, e]
      have hA : q.acc.take 1 = (q.t.take 1).map it := by rw [q4, List.map_take]
      refine run ?_; repeat ((apply call_ok; first | exact (c3)); refine run ?_)
      exact Done.mk (Eq.trans (congrArg (fun x => Dat.agg (cDc declD ++ [lst 5 encH r.x.heads, lst 12 encD r.x.defs, .sl 1 x false])) hA) (congrArg encP hRe)) rfl
    · have dB' : ((⟨L, declD, r.x.heads, r.x.defs, q.t, r.x.D, false⟩ : Mk).nx r.x.a 3 == 0) = false := dB
      have hRe : (⟨declD, r.x.heads, r.x.defs, q.t⟩ : Pg) = R := by rw [hRx, if_neg (by rw [dB]; simp), e]
      refine run ?_; repeat ((apply call_ok; first | exact (c3)); refine run ?_)
      exact Done.mk (Eq.trans (congrArg (fun x => Dat.agg (cDc declD ++ [lst 5 encH r.x.heads, lst 12 encD r.x.defs, .sl 1 x false])) q4) (congrArg encP hRe)) rfl
theorem Made_ok (L : List UInt8) : CallsA Tryz.prog 26 [.agg [byt L]] ct0 (encP (madeP L)) ct0 := by
  have h := made_ok L
  have hR : ∃ R, R = madeP L := ⟨_, rfl⟩
  refine hR.elim fun R hR => ?_
  rw [← hR] at h ⊢
  refine fn_ok hm Tryz.func26 (fun _ => false) [] (fun _ => []) (by kernel_rfl) ?_
  refine run ?_; repeat ((apply call_ok; first | exact (h)); refine run ?_)
  exact Done.mk rfl rfl
end Abs
namespace Abs
open Go Go.Proofs
set_option maxRecDepth 100000
set_option maxHeartbeats 4000000
def addI (l : List Int) (n : Int) : List Int := (l.takeWhile fun x => decide (x < n)) ++ [n] ++ l.filter fun x => decide (x > n)
theorem flt_take {α : Type} {p : α → Bool} {l : List α} {k : Nat} (h : k < l.length) : (l.take (k+1)).filter p = (l.take k).filter p ++ (if p l[k] then [l[k]] else []) := by
  rw [List.take_add_one, List.filter_append]
  simp only [h, List.getElem?_eq_getElem, Option.toList]
  by_cases e : p l[k] <;> simp [e]
theorem flt_yes {α : Type} {p : α → Bool} {l : List α} {k : Nat} (h : k < l.length) (e : p l[k] = true) : (l.take (k+1)).filter p = (l.take k).filter p ++ [l[k]] := by
  rw [flt_take h, if_pos e]
theorem flt_no {α : Type} {p : α → Bool} {l : List α} {k : Nat} (h : k < l.length) (e : p l[k] = false) : (l.take (k+1)).filter p = (l.take k).filter p := by
  rw [flt_take h, if_neg (by rw [e]; simp), List.append_nil]
theorem take_one {α : Type} {l : List α} {k : Nat} (h : k < l.length) : l.take (k+1) = l.take k ++ [l[k]] := (List.take_append_getElem h).symm
theorem flt_le {α : Type} {p : α → Bool} {l : List α} (k : Nat) : ((l.take k).filter p).length ≤ l.length := by
  have := List.length_filter_le p (l.take k)
  rw [List.length_take] at this; omega
theorem tw_yes {α : Type} {p : α → Bool} {l : List α} {k : Nat} (h : k < l.length) (e : p l[k] = true) : (l.drop k).takeWhile p = l[k] :: (l.drop (k+1)).takeWhile p := by
  rw [List.drop_eq_getElem_cons h]; simp [List.takeWhile, e]
theorem tw_no {α : Type} {p : α → Bool} {l : List α} {k : Nat} (h : k < l.length) (e : p l[k] = false) : (l.drop k).takeWhile p = [] := by
  rw [List.drop_eq_getElem_cons h]; simp [List.takeWhile, e]
theorem tf_len {α : Type} {p q : α → Bool} (h : ∀ x, p x = true → q x = false) : ∀ l : List α, (l.takeWhile p).length + (l.filter q).length ≤ l.length
  | [] => by simp
  | x :: l => by
    have ih := tf_len h l
    cases e : p x with
    | true => simp [List.takeWhile, e, h x e]; omega
    | false => simp only [List.takeWhile, e, List.length_nil, Nat.zero_add]; exact List.length_filter_le _ _
theorem addI_len (l : List Int) (n : Int) : (addI l n).length ≤ l.length + 1 := by
  have := tf_len (p := fun x => decide (x < n)) (q := fun x : Int => decide (x > n)) (fun x h => by simp at h ⊢; omega) l
  simp only [addI, List.length_append, List.length_singleton]; omega
theorem added_ok (l : List Int) (n : Int) (hl : l.length < 2^30) : CallsA Tryz.prog 53 [ints l, it n] ct0 (ints (addI l n)) ct0 := by
  refine fn_ok hm Tryz.func53 (fun _ => false) [] (fun _ => []) (by kernel_rfl) ?_
  refine run ?_
  refine LoopS.mk ⟨[], HeadS.lp (fun r : CR => r.k ≤ l.length ∧ r.acc = (l.take r.k).map it ∧ (l.takeWhile fun x => decide (x < n)) = l.take r.k ++ (l.drop r.k).takeWhile fun x => decide (x < n)) (fun r => ⟨[(6, it r.k), (5, .ref 8 r.acc.length)], [], [(8, ⟨1, true, r.acc⟩)]⟩) (fun r => l.length - r.k) ⟨0, []⟩ ⟨Nat.zero_le _, by simp, by simp⟩ ?_⟩
  intro r hJ
  have h1 := hJ.1
  have h2 := hJ.2.1
  have h3 := hJ.2.2
  by_cases hk : r.k < l.length
  · have b1 : decide ((r.k : Int) < ((l.map it).length : Nat)) = true := by simp; exact hk
    refine (Bool.eq_false_or_eq_true (decide (l[r.k] < n))).elim (fun b2 => ?_) (fun b2 => ?_)
    · have hN : r.acc ++ [it l[r.k]] = (l.take (r.k + 1)).map it := by rw [h2, take_one hk, List.map_append]; rfl
      have hT : (l.takeWhile fun x => decide (x < n)) = l.take (r.k + 1) ++ (l.drop (r.k + 1)).takeWhile fun x => decide (x < n) := by
        rw [h3, tw_yes hk b2, take_one hk, List.append_assoc]; rfl
      have hlen : r.acc.length = r.k := by rw [h2, List.length_map, List.length_take]; omega
      refine run ?_
      refine Idx.map hk rfl ?_
      refine run ?_
      refine Idx.map hk rfl ?_
      refine run ?_
      refine ⟨⟨⟨r.k + 1, _⟩, ⟨hk, hN, hT⟩⟩, Nat.sub_lt_sub_left hk (Nat.lt_succ_self _), ?_⟩
      repeat' (first | exact trivial | exact rfl | refine ⟨?_, ?_⟩ | refine ⟨?_, ?_, ?_⟩)
    · have hA : r.acc = (l.takeWhile fun x => decide (x < n)).map it := by rw [h3, tw_no hk b2, h2]; simp
      refine run ?_
      refine Idx.map hk rfl ?_
      have hlen1 : r.acc.length ≤ l.length := by rw [hA, List.length_map]; exact (List.takeWhile_sublist _).length_le
      refine run ?_
      refine LoopS.mk ⟨[], HeadS.lp (fun q : CR => q.k ≤ l.length ∧ q.acc = (r.acc ++ [it n]) ++ ((l.take q.k).filter fun x => decide (x > n)).map it) (fun q => ⟨[(7, it q.k), (5, .ref 8 q.acc.length)], [], [(8, ⟨1, true, q.acc⟩)]⟩) (fun q => l.length - q.k) ⟨0, r.acc ++ [it n]⟩ ⟨Nat.zero_le _, by simp⟩ ?_⟩
      intro q hq
      have g1 := hq.1
      have g2 := hq.2
      have hle := flt_le (p := fun x => decide (x > n)) (l := l) q.k
      have glen : q.acc.length = r.acc.length + 1 + ((l.take q.k).filter fun x => decide (x > n)).length := by rw [g2]; simp; omega
      by_cases gk : q.k < l.length
      · have c1 : decide ((q.k : Int) < ((l.map it).length : Nat)) = true := by simp; exact gk
        refine (Bool.eq_false_or_eq_true (decide (l[q.k] > n))).elim (fun c2 => ?_) (fun c2 => ?_)
        · have gN : q.acc ++ [it l[q.k]] = (r.acc ++ [it n]) ++ ((l.take (q.k + 1)).filter fun x => decide (x > n)).map it := by rw [g2, flt_yes gk c2, List.map_append, ← List.append_assoc]; rfl
          refine run ?_
          refine Idx.map gk rfl ?_
          refine run ?_
          refine Idx.map gk rfl ?_
          refine run ?_
          refine ⟨⟨⟨q.k + 1, _⟩, ⟨gk, gN⟩⟩, Nat.sub_lt_sub_left gk (Nat.lt_succ_self _), ?_⟩
          repeat' (first | exact trivial | exact rfl | refine ⟨?_, ?_⟩ | refine ⟨?_, ?_, ?_⟩)
        · have gN : q.acc = (r.acc ++ [it n]) ++ ((l.take (q.k + 1)).filter fun x => decide (x > n)).map it := by rw [g2, flt_no gk c2]
          refine run ?_
          refine Idx.map gk rfl ?_
          refine run ?_
          refine ⟨⟨⟨q.k + 1, _⟩, ⟨gk, gN⟩⟩, Nat.sub_lt_sub_left gk (Nat.lt_succ_self _), ?_⟩
          repeat' (first | exact trivial | exact rfl | refine ⟨?_, ?_⟩ | refine ⟨?_, ?_, ?_⟩)
      · have c1 : decide ((q.k : Int) < ((l.map it).length : Nat)) = false := by simp; omega
        have e : q.acc = (addI l n).map it := by rw [g2, hA, List.take_of_length_le (by omega)]; simp [addI]
        refine run ?_
        exact Done.mk (congrArg (fun x => Dat.sl 1 x false) e) rfl
  have b1 : decide ((r.k : Int) < ((l.map it).length : Nat)) = false := by simp; omega
  have hA : r.acc = (l.takeWhile fun x => decide (x < n)).map it := by rw [h3, List.drop_eq_nil_of_le (by omega), h2]; simp
  have hlen1 : r.acc.length ≤ l.length := by rw [hA, List.length_map]; exact (List.takeWhile_sublist _).length_le
  refine run ?_
  refine LoopS.mk ⟨[], HeadS.lp (fun q : CR => q.k ≤ l.length ∧ q.acc = (r.acc ++ [it n]) ++ ((l.take q.k).filter fun x => decide (x > n)).map it) (fun q => ⟨[(7, it q.k), (5, .ref 8 q.acc.length)], [], [(8, ⟨1, true, q.acc⟩)]⟩) (fun q => l.length - q.k) ⟨0, r.acc ++ [it n]⟩ ⟨Nat.zero_le _, by simp⟩ ?_⟩
  intro q hq
  have g1 := hq.1
  have g2 := hq.2
  have hle := flt_le (p := fun x => decide (x > n)) (l := l) q.k
  have glen : q.acc.length = r.acc.length + 1 + ((l.take q.k).filter fun x => decide (x > n)).length := by rw [g2]; simp; omega
  by_cases gk : q.k < l.length
  · have c1 : decide ((q.k : Int) < ((l.map it).length : Nat)) = true := by simp; exact gk
    refine (Bool.eq_false_or_eq_true (decide (l[q.k] > n))).elim (fun c2 => ?_) (fun c2 => ?_)
    · have gN : q.acc ++ [it l[q.k]] = (r.acc ++ [it n]) ++ ((l.take (q.k + 1)).filter fun x => decide (x > n)).map it := by rw [g2, flt_yes gk c2, List.map_append, ← List.append_assoc]; rfl
      refine run ?_
      refine Idx.map gk rfl ?_
      refine run ?_
      refine Idx.map gk rfl ?_
      refine run ?_
      refine ⟨⟨⟨q.k + 1, _⟩, ⟨gk, gN⟩⟩, Nat.sub_lt_sub_left gk (Nat.lt_succ_self _), ?_⟩
      repeat' (first | exact trivial | exact rfl | refine ⟨?_, ?_⟩ | refine ⟨?_, ?_, ?_⟩)
    · have gN : q.acc = (r.acc ++ [it n]) ++ ((l.take (q.k + 1)).filter fun x => decide (x > n)).map it := by rw [g2, flt_no gk c2]
      refine run ?_
      refine Idx.map gk rfl ?_
      refine run ?_
      refine ⟨⟨⟨q.k + 1, _⟩, ⟨gk, gN⟩⟩, Nat.sub_lt_sub_left gk (Nat.lt_succ_self _), ?_⟩
      repeat' (first | exact trivial | exact rfl | refine ⟨?_, ?_⟩ | refine ⟨?_, ?_, ?_⟩)
  · have c1 : decide ((q.k : Int) < ((l.map it).length : Nat)) = false := by simp; omega
    have e : q.acc = (addI l n).map it := by rw [g2, hA, List.take_of_length_le (by omega)]; simp [addI]
    refine run ?_
    exact Done.mk (congrArg (fun x => Dat.sl 1 x false) e) rfl
end Abs
namespace Abs
open Go Go.Proofs
set_option maxRecDepth 100000
set_option maxHeartbeats 4000000
mutual
def wE : Ex → List Int
  | .mk op n v a => op :: n :: v :: (a.length : Int) :: wEs a
def wEs : List Ex → List Int
  | [] => []
  | e :: l => wE e ++ wEs l
end
theorem wEs_fm : ∀ l, wEs l = l.flatMap wE
  | [] => by simp [wEs]
  | e :: l => by simp [wEs, wEs_fm l]
theorem wE_eq (e : Ex) : wE e = [e.op, e.n, e.v] ++ wl wE e.a := by cases e; simp [wE, wl, wEs_fm, Ex.op, Ex.n, Ex.v, Ex.a]
mutual
def wC : Co → List Int
  | .mk op a c => op :: (wl wE a ++ ((c.length : Int) :: wCs c))
def wCs : List Co → List Int
  | [] => []
  | e :: l => wC e ++ wCs l
end
theorem wCs_fm : ∀ l, wCs l = l.flatMap wC
  | [] => by simp [wCs]
  | e :: l => by simp [wCs, wCs_fm l]
theorem wC_eq (c : Co) : wC c = ([c.op] ++ wl wE c.a) ++ wl wC c.c := by cases c; simp [wC, wl, wCs_fm, Co.op, Co.a, Co.c]
mutual
def wS : Sm → List Int
  | .mk site op n m v x y c args ptrs body els => [site, op, n, m, v] ++ (wE x ++ (wE y ++ (wC c ++ (wl wE args ++ (((ptrs.length : Int) :: ptrs) ++ (((body.length : Int) :: wSs body) ++ ((els.length : Int) :: wSs els)))))))
def wSs : List Sm → List Int
  | [] => []
  | e :: l => wS e ++ wSs l
end
theorem wSs_fm : ∀ l, wSs l = l.flatMap wS
  | [] => by simp [wSs]
  | e :: l => by simp [wSs, wSs_fm l]
def wI (n : Int) : List Int := [n]
theorem wl_one (l : List Int) : wl wI l = (l.length : Int) :: l := by
  have : l.flatMap wI = l := by
    induction l with
    | nil => rfl
    | cons x l ih => rw [List.flatMap_cons, ih]; rfl
  rw [wl, this]
theorem wS_eq (s : Sm) : wS s = [[s.site, s.op, s.n, s.m, s.v], wE s.x, wE s.y, wC s.c, wl wE s.args, wl wI s.ptrs, wl wS s.body, wl wS s.els].flatten := by
  cases s; simp [wS, wl_one, wSs_fm, Sm.site, Sm.op, Sm.n, Sm.m, Sm.v, Sm.x, Sm.y, Sm.c, Sm.args, Sm.ptrs, Sm.body, Sm.els]
  simp [wl]
def wD (d : Df) : List Int := [[1, d.id, d.site], wl (fun b : UInt8 => [(b.toNat : Int)]) d.name, [d.firm, d.part], wl wR d.params, wl wR d.given, [d.vars, d.refs], wl wA d.arrays, [d.budget], wl wS d.body].flatten
theorem wE_len (e : Ex) : (wE e).length = 4 + (e.a.flatMap wE).length := by rw [wE_eq]; simp [wl]; omega
theorem wC_len (c : Co) : (wC c).length = 3 + (c.a.flatMap wE).length + (c.c.flatMap wC).length := by rw [wC_eq]; simp [wl]; omega
theorem fm_len {α β : Type} {w : α → List β} {l : List α} (h : ∀ x, 0 < (w x).length) : l.length ≤ (l.flatMap w).length := by
  induction l with
  | nil => simp
  | cons x l ih => rw [List.flatMap_cons, List.length_append, List.length_cons]; have := h x; omega
theorem wE_pos (e : Ex) : 0 < (wE e).length := by rw [wE_len]; omega
theorem wC_pos (e : Co) : 0 < (wC e).length := by rw [wC_len]; omega
theorem wS_len (s : Sm) : (wS s).length = 5 + (wE s.x).length + (wE s.y).length + (wC s.c).length + (wl wE s.args).length + (wl wI s.ptrs).length + (wl wS s.body).length + (wl wS s.els).length := by
  rw [wS_eq]; simp; omega
theorem wS_pos (e : Sm) : 0 < (wS e).length := by rw [wS_len]; omega
theorem encExpr_ok : ∀ (n : Nat) (e : Ex), (wE e).length < n → (wE e).length < 2^30 → CallsA Tryz.prog 188 [encE e] ct0 (ints (wE e)) ct0 := by
  intro n
  induction n with
  | zero => intro e h; omega
  | succ n ih =>
    intro e h hb
    have hl := wE_len e
    have hp := fm_len (l := e.a) wE_pos
    have hL : CallsA Tryz.prog 190 [.sl 4 (encEs e.a) false, fun0 188] ct0 (ints (wl wE e.a)) ct0 := by
      rw [encEs_map]
      refine list190_ok wE 188 (fun x hx => ih x ?_ ?_) (by rw [wl_len]; omega) (by omega)
      · have := fm_mem (w := wE) hx; omega
      · have := fm_mem (w := wE) hx; omega
    have h2 : (wl wE e.a).length < 2^30 := by rw [wl_len]; omega
    rw [wE_eq]
    refine fn_ok hm Tryz.func188 (fun _ => false) [] (fun _ => []) (by kernel_rfl) ?_
    refine run ?_; repeat ((apply call_ok; first | exact (hL)); refine run ?_)
    exact Done.mk rfl rfl
theorem encCond_ok : ∀ (n : Nat) (c : Co), (wC c).length < n → (wC c).length < 2^30 → CallsA Tryz.prog 189 [encC c] ct0 (ints (wC c)) ct0 := by
  intro n
  induction n with
  | zero => intro e h; omega
  | succ n ih =>
    intro c h hb
    have hl := wC_len c
    have hp := fm_len (l := c.a) wE_pos
    have hq := fm_len (l := c.c) wC_pos
    have hL : CallsA Tryz.prog 190 [.sl 4 (encEs c.a) false, fun0 188] ct0 (ints (wl wE c.a)) ct0 := by
      rw [encEs_map]
      refine list190_ok wE 188 (fun x hx => encExpr_ok _ x (Nat.lt_succ_self _) ?_) (by rw [wl_len]; omega) (by omega)
      have := fm_mem (w := wE) hx; omega
    have hM : CallsA Tryz.prog 210 [.sl 3 (encCs c.c) false, fun0 189] ct0 (ints (wl wC c.c)) ct0 := by
      rw [encCs_map]
      refine list210_ok wC 189 (fun x hx => ih x ?_ ?_) (by rw [wl_len]; omega) (by omega)
      · have := fm_mem (w := wC) hx; omega
      · have := fm_mem (w := wC) hx; omega
    have h2 : (wl wE c.a).length < 2^30 := by rw [wl_len]; omega
    have h3 : (wl wC c.c).length < 2^30 := by rw [wl_len]; omega
    have e : ([it c.op] ++ (wl wE c.a).map it) ++ (wl wC c.c).map it = (([c.op] ++ wl wE c.a) ++ wl wC c.c).map it := by simp
    rw [wC_eq]
    refine fn_ok hm Tryz.func189 (fun _ => false) [] (fun _ => []) (by kernel_rfl) ?_
    refine run ?_; repeat ((apply call_ok; first | exact (hL) | exact (hM)); refine run ?_)
    exact Done.mk (congrArg (fun x => Dat.sl 1 x false) e) rfl
theorem encStmt_ok : ∀ (n : Nat) (s : Sm), (wS s).length < n → (wS s).length < 2^30 → CallsA Tryz.prog 164 [encS s] ct0 (ints (wS s)) ct0 := by
  intro n
  induction n with
  | zero => intro e h; omega
  | succ n ih =>
    intro s h hb
    have hl := wS_len s
    have l1 := wl_len wE s.args
    have l2 := wl_len wI s.ptrs
    have l3 := wl_len wS s.body
    have l4 := wl_len wS s.els
    have p1 := fm_len (l := s.args) wE_pos
    have p3 := fm_len (l := s.body) wS_pos
    have p4 := fm_len (l := s.els) wS_pos
    have p2 := fm_len (l := s.ptrs) (w := wI) (fun _ => Nat.one_pos)
    have hX := encExpr_ok _ s.x (Nat.lt_succ_self _) (by omega)
    have hY := encExpr_ok _ s.y (Nat.lt_succ_self _) (by omega)
    have hC := encCond_ok _ s.c (Nat.lt_succ_self _) (by omega)
    have hA : CallsA Tryz.prog 190 [.sl 4 (encEs s.args) false, fun0 188] ct0 (ints (wl wE s.args)) ct0 := by
      rw [encEs_map]
      refine list190_ok wE 188 (fun x hx => encExpr_ok _ x (Nat.lt_succ_self _) ?_) (by omega) (by omega)
      have := fm_mem (w := wE) hx; omega
    have hP : CallsA Tryz.prog 191 [ints s.ptrs, fun0 162] ct0 (ints (wl wI s.ptrs)) ct0 := list191_ok wI 162 (fun x _ => one_ok x) (by omega) (by omega)
    have hB : CallsA Tryz.prog 163 [.sl 20 (encSs s.body) false, fun0 164] ct0 (ints (wl wS s.body)) ct0 := by
      rw [encSs_map]
      refine list163_ok wS 164 (fun x hx => ih x ?_ ?_) (by omega) (by omega)
      · have := fm_mem (w := wS) hx; omega
      · have := fm_mem (w := wS) hx; omega
    have hE : CallsA Tryz.prog 163 [.sl 20 (encSs s.els) false, fun0 164] ct0 (ints (wl wS s.els)) ct0 := by
      rw [encSs_map]
      refine list163_ok wS 164 (fun x hx => ih x ?_ ?_) (by omega) (by omega)
      · have := fm_mem (w := wS) hx; omega
      · have := fm_mem (w := wS) hx; omega
    have hF := concat_ok [[s.site, s.op, s.n, s.m, s.v], wE s.x, wE s.y, wC s.c, wl wE s.args, wl wI s.ptrs, wl wS s.body, wl wS s.els] (by rw [← wS_eq]; omega) (by simp)
    rw [wS_eq]
    refine fn_ok hm Tryz.func164 (fun _ => false) [] (fun _ => []) (by kernel_rfl) ?_
    refine run ?_; repeat ((apply call_ok; first | exact (hX) | exact (hY) | exact (hC) | exact (hA) | exact (hP) | exact (hB) | exact (hE) | exact (hF)); refine run ?_)
    exact Done.mk rfl rfl
theorem wD_len (d : Df) : (wD d).length = 8 + (wl (fun b : UInt8 => [(b.toNat : Int)]) d.name).length + (wl wR d.params).length + (wl wR d.given).length + (wl wA d.arrays).length + (wl wS d.body).length := by
  unfold wD; simp; omega
theorem encDef_ok (d : Df) (hb : (wD d).length < 2^30) : CallsA Tryz.prog 116 [encD d] ct0 (ints (wD d)) ct0 := by
  have hl := wD_len d
  have l0 := wl_len (fun b : UInt8 => [(b.toNat : Int)]) d.name
  have l1 := wl_len wR d.params
  have l2 := wl_len wR d.given
  have l3 := wl_len wA d.arrays
  have l4 := wl_len wS d.body
  have p0 := fm_len (l := d.name) (w := fun b : UInt8 => [(b.toNat : Int)]) (fun _ => Nat.one_pos)
  have p1 := fm_len (l := d.params) (w := wR) (fun _ => by show 0 < 3; omega)
  have p2 := fm_len (l := d.given) (w := wR) (fun _ => by show 0 < 3; omega)
  have p3 := fm_len (l := d.arrays) (w := wA) (fun _ => by show 0 < 2; omega)
  have p4 := fm_len (l := d.body) wS_pos
  have hN := list155_ok (l := d.name) (fun b : UInt8 => [(b.toNat : Int)]) 156 (fun x _ => letter_ok x) (by omega) (by omega)
  have hP := list158_ok (l := d.params) wR 159 (fun x _ => span_ok x) (by omega) (by omega)
  have hG := list158_ok (l := d.given) wR 159 (fun x _ => span_ok x) (by omega) (by omega)
  have hA := list160_ok (l := d.arrays) wA 161 (fun x _ => array_ok x) (by omega) (by omega)
  have hB : CallsA Tryz.prog 163 [.sl 20 (d.body.map encS) false, fun0 164] ct0 (ints (wl wS d.body)) ct0 := by
    refine list163_ok wS 164 (fun x hx => encStmt_ok _ x (Nat.lt_succ_self _) ?_) (by omega) (by omega)
    have := fm_mem (w := wS) hx; omega
  have hF := concat_ok [[1, d.id, d.site], wl (fun b : UInt8 => [(b.toNat : Int)]) d.name, [d.firm, d.part], wl wR d.params, wl wR d.given, [d.vars, d.refs], wl wA d.arrays, [d.budget], wl wS d.body] (by show (wD d).length < _; omega) (by simp)
  refine fn_ok hm Tryz.func116 (fun _ => false) [] (fun _ => []) (by kernel_rfl) ?_
  refine run ?_; repeat ((apply call_ok; first | exact (hN) | exact (hP) | exact (hG) | exact (hA) | exact (one_ok _) | exact (hB) | exact (hF)); refine run ?_)
  exact Done.mk rfl rfl
end Abs
namespace Abs
open Go Go.Proofs
set_option maxRecDepth 100000
set_option maxHeartbeats 4000000
end Abs
namespace Abs
open Go Go.Proofs
set_option maxRecDepth 100000
set_option maxHeartbeats 4000000
def byteD (x : Int) (k : Nat) : Dat := .int .u8 (IntKind.u8.wrap (x.fdiv (2 ^ (min (8 * (k : Int)).toNat IntKind.i64.bits))))
def byteU (x : Int) (k : Nat) : UInt8 := UInt8.ofNat ((x.fdiv (2 ^ (8 * k))) % 256).toNat
def wB (x : Int) : List UInt8 := (List.range 8).map (byteU x)
theorem wrap_u8 (x : Int) : IntKind.u8.wrap x = x % 256 := by simp [IntKind.wrap, IntKind.bits, IntKind.signed]
theorem u8_back {y : Int} (h1 : 0 ≤ y) (h2 : y < 256) : (((UInt8.ofNat y.toNat).toNat : Nat) : Int) = y := by
  rw [UInt8.toNat_ofNat']
  have : y.toNat < 256 := by omega
  rw [Nat.mod_eq_of_lt this]; omega
theorem byteD_eq (x : Int) (k : Nat) (h : k < 8) : byteD x k = .int .u8 ((byteU x k).toNat : Int) := by
  have e : min (8 * (k : Int)).toNat IntKind.i64.bits = 8 * k := by simp [IntKind.bits]; omega
  unfold byteD byteU
  rw [e, wrap_u8, u8_back (Int.emod_nonneg _ (by omega)) (Int.emod_lt_of_pos _ (by omega))]
theorem wB_len (x : Int) : (wB x).length = 8 := by simp [wB]
def bytesD (l : List Int) : List Dat := (l.flatMap wB).map fun b => .int .u8 b.toNat
theorem wB_D (x : Int) : (List.range 8).map (byteD x) = (wB x).map fun b => .int .u8 b.toNat := by
  unfold wB
  rw [List.map_map]
  apply List.map_congr_left
  intro k hk
  rw [List.mem_range] at hk
  simp [byteD_eq x k hk]
theorem bytesD_len (l : List Int) : (bytesD l).length = 8 * l.length := by
  unfold bytesD
  rw [List.length_map]
  induction l with
  | nil => rfl
  | cons x l ih => rw [List.flatMap_cons, List.length_append, ih, wB_len, List.length_cons]; omega
theorem bytesD_take {l : List Int} {k : Nat} (h : k < l.length) : bytesD (l.take (k+1)) = bytesD (l.take k) ++ (List.range 8).map (byteD l[k]) := by
  unfold bytesD
  rw [fm_take h, List.map_append, wB_D]
structure BR where
  k : Nat
  acc : List Dat
  y : Int
theorem encBytes_ok (l : List Int) (hl : l.length ≤ 100000) : CallsA Tryz.prog 115 [ints l] ct0 (.tup [byt (l.flatMap wB), it 0]) ct0 := by
  have b0 : decide (((l.map it).length : Int) > 100000) = false := by simp; omega
  refine fn_ok hm Tryz.func115 (fun _ => false) [] (fun _ => []) (by kernel_rfl) ?_
  refine run ?_
  refine LoopS.mk ⟨[.tmp 4 20005], HeadS.lp (fun r : CR => r.k ≤ l.length ∧ r.acc = bytesD (l.take r.k)) (fun r => ⟨[(13, it r.k), (4, .ref 20005 r.acc.length)], [], [(20005, ⟨1, true, r.acc⟩)]⟩) (fun r => l.length - r.k) ⟨0, []⟩ ⟨Nat.zero_le _, by simp [bytesD]⟩ ?_⟩
  intro r hJ
  obtain ⟨h1, h2⟩ := hJ
  have hlen : r.acc.length ≤ 800000 := by rw [h2, bytesD_len, List.length_take]; omega
  by_cases hk : r.k < l.length
  · have b1 : decide ((r.k : Int) < ((l.map it).length : Nat)) = true := by simp; exact hk
    have hN := bytesD_take hk
    refine run ?_
    refine Idx.map hk rfl ?_
    refine run ?_
    refine LoopS.mk ⟨[], HeadS.lp (fun q : CR => q.k ≤ 8 ∧ q.acc = r.acc ++ (List.range q.k).map (byteD l[r.k])) (fun q => ⟨[(17, it q.k), (4, .ref 20005 q.acc.length)], [], [(20005, ⟨1, true, q.acc⟩)]⟩) (fun q => 8 - q.k) ⟨0, r.acc⟩ ⟨Nat.zero_le _, by simp⟩ ?_⟩
    intro q hq
    obtain ⟨g1, g2⟩ := hq
    have glen : q.acc.length = r.acc.length + q.k := by rw [g2]; simp
    by_cases gk : q.k < 8
    · have c1 : decide ((q.k : Int) < 8) = true := by simp; omega
      have gN : q.acc ++ [byteD l[r.k] q.k] = r.acc ++ (List.range (q.k + 1)).map (byteD l[r.k]) := by rw [g2, List.range_succ]; simp
      refine run ?_
      refine Arith.mk ?_
      refine run ?_
      refine ⟨⟨⟨q.k + 1, _⟩, ⟨gk, gN⟩⟩, Nat.sub_lt_sub_left gk (Nat.lt_succ_self _), ?_⟩
      repeat' (first | exact trivial | exact rfl | refine ⟨?_, ?_⟩ | refine ⟨?_, ?_, ?_⟩)
    · have c1 : decide ((q.k : Int) < 8) = false := by simp; omega
      have e8 : q.k = 8 := by omega
      have gN : q.acc = bytesD (l.take (r.k + 1)) := by rw [hN, g2, e8, h2]
      refine run ?_
      refine ⟨⟨⟨r.k + 1, _⟩, ⟨hk, gN⟩⟩, Nat.sub_lt_sub_left hk (Nat.lt_succ_self _), ?_⟩
      repeat' (first | exact trivial | exact rfl | refine ⟨?_, ?_⟩ | refine ⟨?_, ?_, ?_⟩)
  · have b1 : decide ((r.k : Int) < ((l.map it).length : Nat)) = false := by simp; omega
    have e : r.acc = bytesD l := by rw [h2, List.take_of_length_le (by omega)]
    refine run ?_
    exact Done.mk (congrArg (fun x => Dat.tup [Dat.sl 1 x false, it 0]) e) rfl
theorem encBytes_big (l : List Int) (hl : ¬ l.length ≤ 100000) : CallsA Tryz.prog 115 [ints l] ct0 (.tup [byt [], it 2]) ct0 := by
  have b0 : decide (((l.map it).length : Int) > 100000) = true := by simp; omega
  refine fn_ok hm Tryz.func115 (fun _ => false) [] (fun _ => []) (by kernel_rfl) ?_
  refine run ?_
  exact Done.mk rfl rfl
def eDef (d : Df) : Dat := if (wD d).length ≤ 100000 then .tup [byt ((wD d).flatMap wB), it 0] else .tup [byt [], it 2]
theorem encodeDef_ok (d : Df) (hb : (wD d).length < 2^30) : CallsA Tryz.prog 74 [encD d] ct0 (eDef d) ct0 := by
  have hd := encDef_ok d hb
  unfold eDef
  by_cases h : (wD d).length ≤ 100000
  · rw [if_pos h]
    refine fn_ok hm Tryz.func74 (fun _ => false) [] (fun _ => []) (by kernel_rfl) ?_
    refine run ?_; repeat ((apply call_ok; first | exact (hd) | exact (encBytes_ok _ h)); refine run ?_)
    exact Done.mk rfl rfl
  · rw [if_neg h]
    refine fn_ok hm Tryz.func74 (fun _ => false) [] (fun _ => []) (by kernel_rfl) ?_
    refine run ?_; repeat ((apply call_ok; first | exact (hd) | exact (encBytes_big _ h)); refine run ?_)
    exact Done.mk rfl rfl
structure BQ where
  k : Nat
  acc : List Dat
  y : Int
end Abs
namespace Abs
open Go Go.Proofs
set_option maxRecDepth 100000
set_option maxHeartbeats 4000000
end Abs
namespace Abs
open Go Go.Proofs
set_option maxRecDepth 100000
set_option maxHeartbeats 4000000
mutual
def fS : Sm → List Sm
  | .mk a b c d e f g h i j body els => .mk a b c d e f g h i j body els :: (fL body ++ fL els)
def fL : List Sm → List Sm
  | [] => []
  | s :: l => fS s ++ fL l
end
mutual
theorem flS_fst : ∀ (s : Sm) (k : Nat), (flS s k).map Prod.fst = fS s
  | .mk a b c d e f g h i j body els, k => by simp only [flS, fS, List.map_cons, List.map_append, flL_fst body, flL_fst els]
theorem flL_fst : ∀ (l : List Sm) (k : Nat), (flL l k).map Prod.fst = fL l
  | [], _ => rfl
  | s :: l, k => by simp only [flL, fL, List.map_append, flS_fst s, flL_fst l]
end
theorem fL_len (l : List Sm) : (fL l).length = szL l := by rw [← flL_fst l 0, List.length_map, flL_len]
theorem fmD_take {α β : Type} {w : α → List β} {l : List α} {k : Nat} (h : k < l.length) : (l.take (k+1)).flatMap w = (l.take k).flatMap w ++ w l[k] := by
  rw [take_one h]; simp [-List.take_append_getElem]
structure CI where
  k : Nat
  a : List Int
def adOp (l : List Int) (op : Int) : List Int := if decide (op ≥ 4) && decide (op ≤ 10) then addI l op else l
mutual
def opE : Ex → List Int → List Int
  | .mk op n v a, l => opEs a (adOp l op)
def opEs : List Ex → List Int → List Int
  | [], l => l
  | e :: es, l => opEs es (opE e l)
end
theorem adOp_len (l : List Int) (op : Int) : (adOp l op).length ≤ l.length + 1 := by
  unfold adOp
  split
  · exact addI_len l op
  · omega
mutual
theorem opE_len : ∀ (e : Ex) (l : List Int), (opE e l).length ≤ l.length + (wE e).length
  | .mk op n v a, l => by
    have h1 := opEs_len a (adOp l op)
    have h2 := adOp_len l op
    have h3 := wE_len (.mk op n v a)
    simp only [opE]; simp only [Ex.a] at h3; omega
theorem opEs_len : ∀ (es : List Ex) (l : List Int), (opEs es l).length ≤ l.length + (es.flatMap wE).length
  | [], l => by simp [opEs]
  | e :: es, l => by
    have h1 := opE_len e l
    have h2 := opEs_len es (opE e l)
    simp only [opEs, List.flatMap_cons, List.length_append]; omega
end
end Abs
namespace Abs
open Go Go.Proofs
set_option maxRecDepth 100000
set_option maxHeartbeats 4000000
inductive CJ where
  | raw (k : Nat)
  | got (k : Nat) (a : List Int)
theorem CJ.both {P : CJ → Prop} (a : ∀ k, P (.raw k)) (b : ∀ k a, P (.got k a)) : ∀ i, P i
  | .raw k => a k
  | .got k x => b k x
def CJ.k : CJ → Nat
  | .raw k => k
  | .got k _ => k
def rcS (a : List Int) (s : Sm) : List Int := if s.op == 13 then addI a s.m else a
def rcalls (body : List Sm) : List Int := (fL body).foldl rcS []
theorem fold_take {α β : Type} {f : β → α → β} {z : β} {l : List α} {k : Nat} (h : k < l.length) : (l.take (k+1)).foldl f z = f ((l.take k).foldl f z) l[k] := by
  rw [take_one h, List.foldl_append]; rfl
theorem rc_len : ∀ (l : List Sm) (a : List Int), (l.foldl rcS a).length ≤ a.length + l.length
  | [], a => by simp
  | s :: l, a => by
    have h1 := rc_len l (rcS a s)
    have h2 : (rcS a s).length ≤ a.length + 1 := by
      unfold rcS; split
      · exact addI_len _ _
      · omega
    simp only [List.foldl_cons, List.length_cons]; omega
end Abs
namespace Abs
open Go Go.Proofs
set_option maxRecDepth 100000
set_option maxHeartbeats 4000000
def ropS (a : List Int) (s : Sm) : List Int := opEs s.args (opE s.y (opE s.x a))
def rops (body : List Sm) : List Int := (fL body).foldl ropS []
def opW (s : Sm) : Nat := (wE s.x).length + (wE s.y).length + (s.args.flatMap wE).length
def opWs (l : List Sm) : Nat := (l.map opW).sum
theorem opWs_app (a b : List Sm) : opWs (a ++ b) = opWs a + opWs b := by simp [opWs]
mutual
theorem opW_S : ∀ s : Sm, opWs (fS s) ≤ (wS s).length
  | .mk a b c d e f g h i j body els => by
    have h1 := opW_L body
    have h2 := opW_L els
    have h3 := wS_len (.mk a b c d e f g h i j body els)
    simp only [Sm.x, Sm.y, Sm.args, Sm.body, Sm.els, wl_len, Sm.c, Sm.ptrs] at h3
    have h4 : opWs (fS (.mk a b c d e f g h i j body els)) = opW (.mk a b c d e f g h i j body els) + (opWs (fL body) + opWs (fL els)) := by
      rw [fS, ← opWs_app]; simp [opWs]
    rw [h4]; simp only [opW, Sm.x, Sm.y, Sm.args]; omega
theorem opW_L : ∀ l : List Sm, opWs (fL l) ≤ (l.flatMap wS).length
  | [] => by simp [fL, opWs]
  | s :: l => by
    have h1 := opW_S s
    have h2 := opW_L l
    rw [fL, opWs_app, List.flatMap_cons, List.length_append]; omega
end
theorem ropS_len (a : List Int) (s : Sm) : (ropS a s).length ≤ a.length + opW s := by
  have h1 := opE_len s.x a
  have h2 := opE_len s.y (opE s.x a)
  have h3 := opEs_len s.args (opE s.y (opE s.x a))
  unfold ropS opW; omega
theorem rop_len : ∀ (l : List Sm) (a : List Int), (l.foldl ropS a).length ≤ a.length + opWs l
  | [], a => by simp [opWs]
  | s :: l, a => by
    have h1 := rop_len l (ropS a s)
    have h2 := ropS_len a s
    have h3 : opWs (s :: l) = opW s + opWs l := by simp [opWs]
    simp only [List.foldl_cons]; omega
theorem szL_fm : ∀ l : List Sm, szL l ≤ (l.flatMap wS).length
  | [] => by simp [szL]
  | s :: l => by
    have h1 := szL_fm l
    have h2 : szS s ≤ (wS s).length := szS_w s
    simp only [szL, List.flatMap_cons, List.length_append]; omega
 where szS_w : ∀ s : Sm, szS s ≤ (wS s).length
  | .mk a b c d e f g h i j body els => by
    have h1 := szL_fm body
    have h2 := szL_fm els
    have h3 := wS_len (.mk a b c d e f g h i j body els)
    simp only [Sm.body, Sm.els, wl_len] at h3
    simp only [szS]; omega
end Abs
namespace Abs
open Go Go.Proofs
set_option maxRecDepth 100000
set_option maxHeartbeats 4000000
def wQ (q : Qu) : List Int := [q.r.lo, q.r.hi, q.r.mask]
def hdOf (p : Pg) (c : Int) : Hd := (fnd (fun x : Hd => x.id == c) zHd p.heads).1
def wHd (p : Pg) (c : Int) : List Int := [(hdOf p c).id, (hdOf p c).part] ++ (wl wR (hdOf p c).params ++ wl wR (hdOf p c).given)
def declA (p : Pg) : List Int := (wl wR p.d.globals ++ wl wR p.d.classes) ++ [(p.d.queues.length : Int)]
def declB (p : Pg) : List Int := declA p ++ p.d.queues.flatMap wQ
def declC (p : Pg) : List Int := (declB p ++ [(p.d.sinks.length : Int)]) ++ p.d.sinks
def declW (p : Pg) (calls : List Int) : List Int := declC p ++ calls.flatMap (wHd p)
theorem declW_len (p : Pg) (calls : List Int) : (declW p calls).length = (declC p).length + (calls.flatMap (wHd p)).length := by simp [declW]
theorem declC_len (p : Pg) : (declC p).length = (declB p).length + 1 + p.d.sinks.length := by simp [declC]; omega
theorem declB_len (p : Pg) : (declB p).length = (declA p).length + (p.d.queues.flatMap wQ).length := by simp [declB]
theorem declA_len (p : Pg) : (declA p).length = (wl wR p.d.globals).length + (wl wR p.d.classes).length + 1 := by simp [declA]; omega
theorem wR_pos (r : Rng) : 0 < (wR r).length := by show 0 < 3; omega
theorem wQ_pos (r : Qu) : 0 < (wQ r).length := by show 0 < 3; omega
theorem wHd_pos (p : Pg) (c : Int) : 0 < (wHd p c).length := by simp [wHd]
theorem wHd_len (p : Pg) (c : Int) : (wHd p c).length = 2 + (wl wR (hdOf p c).params).length + (wl wR (hdOf p c).given).length := by simp [wHd]; omega
end Abs
namespace Abs
open Go Go.Proofs
set_option maxRecDepth 100000
set_option maxHeartbeats 4000000
theorem dranges_ok {ls : List (List Rng)} (hb : (ls.flatMap (wl wR)).length < 2^31) :
    CallsA Tryz.prog 117 [.sl 1 (ls.map (lst 3 encR)) false] ct0 (ints (ls.flatMap (wl wR))) ct0 := by
  have hlp : ls.length ≤ (ls.flatMap (wl wR)).length := fm_len (fun x => by rw [wl_len]; omega)
  refine fn_ok hm Tryz.func117 (fun _ => false) [] (fun _ => []) (by kernel_rfl) ?_
  refine run ?_
  refine LoopS.mk ⟨[.tmp 3 20003], HeadS.lp (fun r : CR => r.k ≤ ls.length ∧ r.acc = ((ls.take r.k).flatMap (wl wR)).map it) (fun r => ⟨[(10, it r.k), (3, .ref 20003 r.acc.length)], [], [(20003, ⟨1, true, r.acc⟩)]⟩) (fun r => ls.length - r.k) ⟨0, []⟩ ⟨Nat.zero_le _, by simp⟩ ?_⟩
  intro r hJ
  have h1 := hJ.1
  have h2 := hJ.2
  by_cases hk : r.k < ls.length
  · have b1 : decide ((r.k : Int) < ((ls.map (lst 3 encR)).length : Nat)) = true := by simp; exact hk
    have hle := fm_le1 (w := wl wR) hk
    have hlen : r.acc.length = ((ls.take r.k).flatMap (wl wR)).length := by rw [h2]; simp
    have g1 := wl_len wR ls[r.k]
    have g3 := fm_len (l := ls[r.k]) wR_pos
    refine run ?_
    refine Idx.map hk rfl ?_
    refine run ?_
    refine LoopS.mk ⟨[], HeadS.lp (fun q : CR => q.k ≤ ls[r.k].length ∧ q.acc = (r.acc ++ [it ((ls[r.k].map encR).length : Nat)]) ++ ((ls[r.k].take q.k).flatMap wR).map it) (fun q => ⟨[(21, it q.k), (3, .ref 20003 q.acc.length)], [], [(20003, ⟨1, true, q.acc⟩)]⟩) (fun q => ls[r.k].length - q.k) ⟨0, r.acc ++ [it ((ls[r.k].map encR).length : Nat)]⟩ ⟨Nat.zero_le _, by simp⟩ ?_⟩
    intro q hq
    have q1 := hq.1
    have q2 := hq.2
    by_cases gk : q.k < ls[r.k].length
    · have c1 : decide ((q.k : Int) < ((ls[r.k].map encR).length : Nat)) = true := by simp; exact gk
      have hle2 := fm_le1 (w := wR) gk
      have hq3 : (wR ls[r.k][q.k]).length = 3 := rfl
      have glen : q.acc.length = r.acc.length + 1 + ((ls[r.k].take q.k).flatMap wR).length := by rw [q2]; simp; omega
      have gN : q.acc ++ (wR ls[r.k][q.k]).map it = (r.acc ++ [it ((ls[r.k].map encR).length : Nat)]) ++ ((ls[r.k].take (q.k + 1)).flatMap wR).map it := by rw [q2, fmD_take gk, List.map_append, ← List.append_assoc]
      refine run ?_
      refine Idx.map gk rfl ?_
      refine run ?_
      refine ⟨⟨⟨q.k + 1, _⟩, ⟨gk, gN⟩⟩, Nat.sub_lt_sub_left gk (Nat.lt_succ_self _), ?_⟩
      repeat' (first | exact trivial | exact rfl | refine ⟨?_, ?_⟩ | refine ⟨?_, ?_, ?_⟩)
    · have c1 : decide ((q.k : Int) < ((ls[r.k].map encR).length : Nat)) = false := by simp; omega
      have e : q.acc = ((ls.take (r.k + 1)).flatMap (wl wR)).map it := by
        rw [q2, List.take_of_length_le (by omega), fmD_take hk, h2]; simp [wl]
      refine run ?_
      refine ⟨⟨⟨r.k + 1, _⟩, ⟨hk, e⟩⟩, Nat.sub_lt_sub_left hk (Nat.lt_succ_self _), ?_⟩
      repeat' (first | exact trivial | exact rfl | refine ⟨?_, ?_⟩ | refine ⟨?_, ?_, ?_⟩)
  · have b1 : decide ((r.k : Int) < ((ls.map (lst 3 encR)).length : Nat)) = false := by simp; omega
    have e : r.acc = (ls.flatMap (wl wR)).map it := by rw [h2, List.take_of_length_le (by omega)]
    have e2 : r.acc.length = (ls.flatMap (wl wR)).length := by rw [e, List.length_map]
    refine run ?_
    exact Done.mk (congrArg (fun x => Dat.sl 1 x false) e) rfl
theorem drangesf_ok {ls : List (List Rng)} (hb : (ls.flatMap (wl wR)).length < 2^31) :
    CallsA Tryz.prog 117 [.sl 1 (ls.map (lst 3 encR)) false] ct0 (.ref 1000 (ls.flatMap (wl wR)).length) ⟨[], [⟨1, true, (ls.flatMap (wl wR)).map it⟩]⟩ := by
  have hlp : ls.length ≤ (ls.flatMap (wl wR)).length := fm_len (fun x => by rw [wl_len]; omega)
  refine fn_ok hm Tryz.func117 (fun _ => false) [true] (fun _ => []) (by kernel_rfl) ?_
  refine run ?_
  refine LoopS.mk ⟨[.tmp 3 20003], HeadS.lp (fun r : CR => r.k ≤ ls.length ∧ r.acc = ((ls.take r.k).flatMap (wl wR)).map it) (fun r => ⟨[(10, it r.k), (3, .ref 20003 r.acc.length)], [], [(20003, ⟨1, true, r.acc⟩)]⟩) (fun r => ls.length - r.k) ⟨0, []⟩ ⟨Nat.zero_le _, by simp⟩ ?_⟩
  intro r hJ
  have h1 := hJ.1
  have h2 := hJ.2
  by_cases hk : r.k < ls.length
  · have b1 : decide ((r.k : Int) < ((ls.map (lst 3 encR)).length : Nat)) = true := by simp; exact hk
    have hle := fm_le1 (w := wl wR) hk
    have hlen : r.acc.length = ((ls.take r.k).flatMap (wl wR)).length := by rw [h2]; simp
    have g1 := wl_len wR ls[r.k]
    have g3 := fm_len (l := ls[r.k]) wR_pos
    refine run ?_
    refine Idx.map hk rfl ?_
    refine run ?_
    refine LoopS.mk ⟨[], HeadS.lp (fun q : CR => q.k ≤ ls[r.k].length ∧ q.acc = (r.acc ++ [it ((ls[r.k].map encR).length : Nat)]) ++ ((ls[r.k].take q.k).flatMap wR).map it) (fun q => ⟨[(21, it q.k), (3, .ref 20003 q.acc.length)], [], [(20003, ⟨1, true, q.acc⟩)]⟩) (fun q => ls[r.k].length - q.k) ⟨0, r.acc ++ [it ((ls[r.k].map encR).length : Nat)]⟩ ⟨Nat.zero_le _, by simp⟩ ?_⟩
    intro q hq
    have q1 := hq.1
    have q2 := hq.2
    by_cases gk : q.k < ls[r.k].length
    · have c1 : decide ((q.k : Int) < ((ls[r.k].map encR).length : Nat)) = true := by simp; exact gk
      have hle2 := fm_le1 (w := wR) gk
      have hq3 : (wR ls[r.k][q.k]).length = 3 := rfl
      have glen : q.acc.length = r.acc.length + 1 + ((ls[r.k].take q.k).flatMap wR).length := by rw [q2]; simp; omega
      have gN : q.acc ++ (wR ls[r.k][q.k]).map it = (r.acc ++ [it ((ls[r.k].map encR).length : Nat)]) ++ ((ls[r.k].take (q.k + 1)).flatMap wR).map it := by rw [q2, fmD_take gk, List.map_append, ← List.append_assoc]
      refine run ?_
      refine Idx.map gk rfl ?_
      refine run ?_
      refine ⟨⟨⟨q.k + 1, _⟩, ⟨gk, gN⟩⟩, Nat.sub_lt_sub_left gk (Nat.lt_succ_self _), ?_⟩
      repeat' (first | exact trivial | exact rfl | refine ⟨?_, ?_⟩ | refine ⟨?_, ?_, ?_⟩)
    · have c1 : decide ((q.k : Int) < ((ls[r.k].map encR).length : Nat)) = false := by simp; omega
      have e : q.acc = ((ls.take (r.k + 1)).flatMap (wl wR)).map it := by
        rw [q2, List.take_of_length_le (by omega), fmD_take hk, h2]; simp [wl]
      refine run ?_
      refine ⟨⟨⟨r.k + 1, _⟩, ⟨hk, e⟩⟩, Nat.sub_lt_sub_left hk (Nat.lt_succ_self _), ?_⟩
      repeat' (first | exact trivial | exact rfl | refine ⟨?_, ?_⟩ | refine ⟨?_, ?_, ?_⟩)
  · have b1 : decide ((r.k : Int) < ((ls.map (lst 3 encR)).length : Nat)) = false := by simp; omega
    have e : r.acc = (ls.flatMap (wl wR)).map it := by rw [h2, List.take_of_length_le (by omega)]
    have e2 : r.acc.length = (ls.flatMap (wl wR)).length := by rw [e, List.length_map]
    refine run ?_
    exact Done.mk (congrArg (fun x => Dat.ref 1000 x) e2) (congrArg (fun x => (⟨[], [⟨1, true, x⟩]⟩ : Ct)) e)
theorem ddecl_ok (p : Pg) (cs : List Int) (hw : (declW p cs).length < 2^30) (hh : p.heads.length < 2^40) :
    CallsA Tryz.prog 75 [encP p, ints cs] ct0 (ints (declW p cs)) ct0 := by
  have l1 := declW_len p cs
  have l2 := declC_len p
  have l3 := declB_len p
  have l4 := declA_len p
  have g5 := fm_len (l := p.d.queues) wQ_pos
  have g6 := fm_len (l := cs) (wHd_pos p)
  have f2 : ([p.d.globals, p.d.classes].flatMap (wl wR)).length = (wl wR p.d.globals).length + (wl wR p.d.classes).length := by simp
  have c1 := drangesf_ok (ls := [p.d.globals, p.d.classes]) (by omega)
  refine fn_ok hm Tryz.func75 (fun _ => false) [] (fun _ => []) (by kernel_rfl) ?_
  refine run ?_; repeat ((apply call_ok; first | exact (c1)); refine run ?_)
  refine LoopS.mk ⟨[], HeadS.lp (fun r : CR => r.k ≤ p.d.queues.length ∧ r.acc = (declA p).map it ++ ((p.d.queues.take r.k).flatMap wQ).map it) (fun r => ⟨[(30, it r.k), (5, .ref 5190 r.acc.length)], [], [(5190, ⟨1, true, r.acc⟩)]⟩) (fun r => p.d.queues.length - r.k) ⟨0, ([p.d.globals, p.d.classes].flatMap (wl wR)).map it ++ [it ((p.d.queues.map encQ).length : Nat)]⟩ ⟨Nat.zero_le _, by simp [declA]⟩ ?_⟩
  intro r hJ
  have h1 := hJ.1
  have h2 := hJ.2
  by_cases hk : r.k < p.d.queues.length
  · have b1 : decide ((r.k : Int) < ((p.d.queues.map encQ).length : Nat)) = true := by simp; exact hk
    have hle := fm_le1 (w := wQ) hk
    have hq3 : (wQ p.d.queues[r.k]).length = 3 := rfl
    have hlen : r.acc.length = (declA p).length + ((p.d.queues.take r.k).flatMap wQ).length := by rw [h2]; simp
    have hN : r.acc ++ (wQ p.d.queues[r.k]).map it = (declA p).map it ++ ((p.d.queues.take (r.k + 1)).flatMap wQ).map it := by rw [h2, fmD_take hk, List.map_append, ← List.append_assoc]
    refine run ?_
    refine Idx.map hk rfl ?_
    refine run ?_
    refine ⟨⟨⟨r.k + 1, _⟩, ⟨hk, hN⟩⟩, Nat.sub_lt_sub_left hk (Nat.lt_succ_self _), ?_⟩
    repeat' (first | exact trivial | exact rfl | refine ⟨?_, ?_⟩ | refine ⟨?_, ?_, ?_⟩)
  have b1 : decide ((r.k : Int) < ((p.d.queues.map encQ).length : Nat)) = false := by simp; omega
  have e1 : r.acc = (declB p).map it := by rw [h2, List.take_of_length_le (by omega), declB, List.map_append]
  have hlen : r.acc.length = (declB p).length := by rw [e1, List.length_map]
  refine run ?_
  refine LoopS.mk ⟨[], HeadS.lp (fun q : CR => q.k ≤ cs.length ∧ q.acc = (declC p).map it ++ ((cs.take q.k).flatMap (wHd p)).map it) (fun q => ⟨[(60, it q.k), (5, .ref 5190 q.acc.length)], [], [(5190, ⟨1, true, q.acc⟩)]⟩) (fun q => cs.length - q.k) ⟨0, (r.acc ++ [it ((p.d.sinks.map it).length : Nat)]) ++ p.d.sinks.map it⟩ ⟨Nat.zero_le _, by rw [e1]; simp [declC]⟩ ?_⟩
  intro q hq
  have q1 := hq.1
  have q2 := hq.2
  by_cases gk : q.k < cs.length
  · have d1 : decide ((q.k : Int) < ((cs.map it).length : Nat)) = true := by simp; exact gk
    have hle := fm_le1 (w := wHd p) gk
    have hwl := wHd_len p cs[q.k]
    have glen : q.acc.length = (declC p).length + ((cs.take q.k).flatMap (wHd p)).length := by rw [q2]; simp
    have f3 : ([(hdOf p cs[q.k]).params, (hdOf p cs[q.k]).given].flatMap (wl wR)).length = (wl wR (hdOf p cs[q.k]).params).length + (wl wR (hdOf p cs[q.k]).given).length := by simp
    have k1 := dranges_ok (ls := [(hdOf p cs[q.k]).params, (hdOf p cs[q.k]).given]) (by omega)
    have k3 := shapeHeadOf_ok p cs[q.k] hh
    have gN : (q.acc ++ [it (hdOf p cs[q.k]).id, it (hdOf p cs[q.k]).part]) ++ ([(hdOf p cs[q.k]).params, (hdOf p cs[q.k]).given].flatMap (wl wR)).map it = (declC p).map it ++ ((cs.take (q.k + 1)).flatMap (wHd p)).map it := by rw [q2, fmD_take gk]; simp [wHd]
    refine run ?_; repeat ((apply call_ok; first | exact (k3)); refine run ?_)
    refine Idx.map gk rfl ?_
    refine run ?_; repeat ((apply call_ok; first | exact (k3) | exact (k1)); refine run ?_)
    refine ⟨⟨⟨q.k + 1, _⟩, ⟨gk, gN⟩⟩, Nat.sub_lt_sub_left gk (Nat.lt_succ_self _), ?_⟩
    repeat' (first | exact trivial | exact rfl | refine ⟨?_, ?_⟩ | refine ⟨?_, ?_, ?_⟩)
  have d1 : decide ((q.k : Int) < ((cs.map it).length : Nat)) = false := by simp; omega
  have e : q.acc = (declW p cs).map it := by rw [q2, List.take_of_length_le (by omega), declW, List.map_append]
  refine run ?_
  exact Done.mk (congrArg (fun x => Dat.sl 1 x false) e) rfl
end Abs
namespace Abs
open Go Go.Proofs
set_option maxRecDepth 100000
set_option maxHeartbeats 4000000
abbrev OB := Nat → Bool
def arrB (o : OB) : Dat := .agg [bo (o 0), bo (o 1), bo (o 2), bo (o 3), bo (o 4), bo (o 5), bo (o 6), bo (o 7), bo (o 8), bo (o 9), bo (o 10)]
def opIn (op : Int) : Bool := decide (4 ≤ op) && decide (op ≤ 10)
def setO (o : OB) (op : Int) : OB := bif opIn op then (fun i => Nat.beq i op.toNat || o i) else o
mutual
def xE : Ex → OB → OB
  | .mk op n v a, o => xEs a (setO o op)
def xEs : List Ex → OB → OB
  | [], o => o
  | e :: es, o => xEs es (xE e o)
end
mutual
def xS : Sm → OB → OB
  | .mk a b c d e x y h args j body els, o => xSs els (xSs body (xEs args (xE y (xE x o))))
def xSs : List Sm → OB → OB
  | [], o => o
  | s :: l, o => xSs l (xS s o)
end
theorem xE_eq (e : Ex) (o : OB) : xE e o = xEs e.a (setO o e.op) := by cases e; rfl
theorem xS_eq (s : Sm) (o : OB) : xS s o = xSs s.els (xSs s.body (xEs s.args (xE s.y (xE s.x o)))) := by cases s; rfl
theorem xEs_fold : ∀ (l : List Ex) (o : OB), xEs l o = l.foldl (fun o x => xE x o) o
  | [], o => by simp [xEs]
  | e :: l, o => by simp [xEs, xEs_fold l]
theorem xSs_fold : ∀ (l : List Sm) (o : OB), xSs l o = l.foldl (fun o x => xS x o) o
  | [], o => by simp [xSs]
  | e :: l, o => by simp [xSs, xSs_fold l]
structure CO where
  k : Nat
  o : OB
theorem each84_ok {l : List Ex} (g : Ex → OB → OB) (o : OB) (hl : l.length < 2^40)
    (hx : ∀ x ∈ l, ∀ o : OB, CallsA Tryz.prog 85 [.ptr 1000 0, encE x] ⟨[arrB o], []⟩ (.tup []) ⟨[arrB (g x o)], []⟩) :
    CallsA Tryz.prog 84 [.clo (.func 85) [.ptr 1000 0] [], .sl 4 (l.map encE) false] ⟨[arrB o], []⟩ (.tup []) ⟨[arrB (l.foldl (fun o x => g x o) o)], []⟩ := by
  refine fn_ok hm Tryz.func84 (fun _ => false) [] (fun _ => []) (by kernel_rfl) ?_
  refine run ?_
  refine LoopS.mk ⟨[], HeadS.lp (fun r : CO => r.k ≤ l.length ∧ r.o = (l.take r.k).foldl (fun o x => g x o) o) (fun r => ⟨[(8, it r.k)], [(1000, arrB r.o)], []⟩) (fun r => l.length - r.k) ⟨0, o⟩ ⟨Nat.zero_le _, rfl⟩ ?_⟩
  intro r hJ
  have h1 := hJ.1
  have h2 := hJ.2
  by_cases hk : r.k < l.length
  · have b1 : decide ((r.k : Int) < ((l.map encE).length : Nat)) = true := by simp; exact hk
    have hc := hx l[r.k] (List.getElem_mem hk) r.o
    have hN : g l[r.k] r.o = (l.take (r.k + 1)).foldl (fun o x => g x o) o := by rw [fold_take hk, h2]
    refine run ?_
    refine Idx.map hk rfl ?_
    refine run ?_; repeat ((apply call_ok; first | exact (hc)); refine run ?_)
    refine ⟨⟨⟨r.k + 1, _⟩, ⟨hk, hN⟩⟩, Nat.sub_lt_sub_left hk (Nat.lt_succ_self _), ?_⟩
    repeat' (first | exact trivial | exact rfl | refine ⟨?_, ?_⟩ | refine ⟨?_, ?_, ?_⟩)
  · have b1 : decide ((r.k : Int) < ((l.map encE).length : Nat)) = false := by simp; omega
    have e : r.o = l.foldl (fun o x => g x o) o := by rw [h2, List.take_of_length_le (by omega)]
    refine run ?_
    exact Done.mk rfl (congrArg (fun x => (⟨[arrB x], []⟩ : Ct)) e)
theorem each38_ok {l : List Sm} (g : Sm → OB → OB) (o : OB) (hl : l.length < 2^40)
    (hx : ∀ x ∈ l, ∀ o : OB, CallsA Tryz.prog 39 [.ptr 1000 0, encS x] ⟨[arrB o], []⟩ (.tup []) ⟨[arrB (g x o)], []⟩) :
    CallsA Tryz.prog 38 [.clo (.func 39) [.ptr 1000 0] [], .sl 20 (l.map encS) false] ⟨[arrB o], []⟩ (.tup []) ⟨[arrB (l.foldl (fun o x => g x o) o)], []⟩ := by
  refine fn_ok hm Tryz.func38 (fun _ => false) [] (fun _ => []) (by kernel_rfl) ?_
  refine run ?_
  refine LoopS.mk ⟨[], HeadS.lp (fun r : CO => r.k ≤ l.length ∧ r.o = (l.take r.k).foldl (fun o x => g x o) o) (fun r => ⟨[(8, it r.k)], [(1000, arrB r.o)], []⟩) (fun r => l.length - r.k) ⟨0, o⟩ ⟨Nat.zero_le _, rfl⟩ ?_⟩
  intro r hJ
  have h1 := hJ.1
  have h2 := hJ.2
  by_cases hk : r.k < l.length
  · have b1 : decide ((r.k : Int) < ((l.map encS).length : Nat)) = true := by simp; exact hk
    have hc := hx l[r.k] (List.getElem_mem hk) r.o
    have hN : g l[r.k] r.o = (l.take (r.k + 1)).foldl (fun o x => g x o) o := by rw [fold_take hk, h2]
    refine run ?_
    refine Idx.map hk rfl ?_
    refine run ?_; repeat ((apply call_ok; first | exact (hc)); refine run ?_)
    refine ⟨⟨⟨r.k + 1, _⟩, ⟨hk, hN⟩⟩, Nat.sub_lt_sub_left hk (Nat.lt_succ_self _), ?_⟩
    repeat' (first | exact trivial | exact rfl | refine ⟨?_, ?_⟩ | refine ⟨?_, ?_, ?_⟩)
  · have b1 : decide ((r.k : Int) < ((l.map encS).length : Nat)) = false := by simp; omega
    have e : r.o = l.foldl (fun o x => g x o) o := by rw [h2, List.take_of_length_le (by omega)]
    refine run ?_
    exact Done.mk rfl (congrArg (fun x => (⟨[arrB x], []⟩ : Ct)) e)
theorem dexpr_ok : ∀ (n : Nat) (e : Ex), (wE e).length < n → (wE e).length < 2^30 → ∀ o : OB, CallsA Tryz.prog 85 [.ptr 1000 0, encE e] ⟨[arrB o], []⟩ (.tup []) ⟨[arrB (xE e o)], []⟩ := by
  intro n
  induction n with
  | zero => intro e h; omega
  | succ n ih =>
    intro e h hb o
    have hl := wE_len e
    have hp := fm_len (l := e.a) wE_pos
    have hE : ∀ o : OB, CallsA Tryz.prog 84 [.clo (.func 85) [.ptr 1000 0] [], .sl 4 (encEs e.a) false] ⟨[arrB o], []⟩ (.tup []) ⟨[arrB (xEs e.a o)], []⟩ := fun o => by
      rw [encEs_map, xEs_fold]
      refine each84_ok xE o (by omega) (fun x hx o => ih x ?_ ?_ o)
      · have := fm_mem (w := wE) hx; omega
      · have := fm_mem (w := wE) hx; omega
    have hc := hE (setO o e.op)
    rw [xE_eq]
    refine (Bool.eq_false_or_eq_true (decide (4 ≤ e.op))).elim (fun b1 => ?_) (fun b1 => ?_)
    · refine (Bool.eq_false_or_eq_true (decide (e.op ≤ 10))).elim (fun b2 => ?_) (fun b2 => ?_)
      · have h1 : 4 ≤ e.op := of_decide_eq_true b1
        have h2 : e.op ≤ 10 := of_decide_eq_true b2
        clear ih hE hl hp hb h b1 b2
        cases e with
        | mk op n v a =>
          have hs : op = 4 ∨ op = 5 ∨ op = 6 ∨ op = 7 ∨ op = 8 ∨ op = 9 ∨ op = 10 := by
            have h1 : 4 ≤ op := h1
            have h2 : op ≤ 10 := h2
            omega
          clear h1 h2
          rcases hs with rfl | rfl | rfl | rfl | rfl | rfl | rfl
          · have hN : 0 ≤ (Ex.mk 4 n v a).op ∧ (Ex.mk 4 n v a).op < ((11:Nat) : Int) := (by decide : (0:Int) ≤ 4 ∧ (4:Int) < 11)
            refine fn_ok hm Tryz.func85 (fun _ => false) [] (fun _ => []) (by kernel_rfl) ?_
            refine run ?_
            refine Need.mk (by decide : 4 < 11) ?_
            refine run ?_; repeat ((apply call_ok; first | exact (hc)); refine run ?_)
            exact Done.mk rfl rfl
          · have hN : 0 ≤ (Ex.mk 5 n v a).op ∧ (Ex.mk 5 n v a).op < ((11:Nat) : Int) := (by decide : (0:Int) ≤ 5 ∧ (5:Int) < 11)
            refine fn_ok hm Tryz.func85 (fun _ => false) [] (fun _ => []) (by kernel_rfl) ?_
            refine run ?_
            refine Need.mk (by decide : 5 < 11) ?_
            refine run ?_; repeat ((apply call_ok; first | exact (hc)); refine run ?_)
            exact Done.mk rfl rfl
          · have hN : 0 ≤ (Ex.mk 6 n v a).op ∧ (Ex.mk 6 n v a).op < ((11:Nat) : Int) := (by decide : (0:Int) ≤ 6 ∧ (6:Int) < 11)
            refine fn_ok hm Tryz.func85 (fun _ => false) [] (fun _ => []) (by kernel_rfl) ?_
            refine run ?_
            refine Need.mk (by decide : 6 < 11) ?_
            refine run ?_; repeat ((apply call_ok; first | exact (hc)); refine run ?_)
            exact Done.mk rfl rfl
          · have hN : 0 ≤ (Ex.mk 7 n v a).op ∧ (Ex.mk 7 n v a).op < ((11:Nat) : Int) := (by decide : (0:Int) ≤ 7 ∧ (7:Int) < 11)
            refine fn_ok hm Tryz.func85 (fun _ => false) [] (fun _ => []) (by kernel_rfl) ?_
            refine run ?_
            refine Need.mk (by decide : 7 < 11) ?_
            refine run ?_; repeat ((apply call_ok; first | exact (hc)); refine run ?_)
            exact Done.mk rfl rfl
          · have hN : 0 ≤ (Ex.mk 8 n v a).op ∧ (Ex.mk 8 n v a).op < ((11:Nat) : Int) := (by decide : (0:Int) ≤ 8 ∧ (8:Int) < 11)
            refine fn_ok hm Tryz.func85 (fun _ => false) [] (fun _ => []) (by kernel_rfl) ?_
            refine run ?_
            refine Need.mk (by decide : 8 < 11) ?_
            refine run ?_; repeat ((apply call_ok; first | exact (hc)); refine run ?_)
            exact Done.mk rfl rfl
          · have hN : 0 ≤ (Ex.mk 9 n v a).op ∧ (Ex.mk 9 n v a).op < ((11:Nat) : Int) := (by decide : (0:Int) ≤ 9 ∧ (9:Int) < 11)
            refine fn_ok hm Tryz.func85 (fun _ => false) [] (fun _ => []) (by kernel_rfl) ?_
            refine run ?_
            refine Need.mk (by decide : 9 < 11) ?_
            refine run ?_; repeat ((apply call_ok; first | exact (hc)); refine run ?_)
            exact Done.mk rfl rfl
          · have hN : 0 ≤ (Ex.mk 10 n v a).op ∧ (Ex.mk 10 n v a).op < ((11:Nat) : Int) := (by decide : (0:Int) ≤ 10 ∧ (10:Int) < 11)
            refine fn_ok hm Tryz.func85 (fun _ => false) [] (fun _ => []) (by kernel_rfl) ?_
            refine run ?_
            refine Need.mk (by decide : 10 < 11) ?_
            refine run ?_; repeat ((apply call_ok; first | exact (hc)); refine run ?_)
            exact Done.mk rfl rfl
      · have hd : setO o e.op = o := by unfold setO opIn; rw [b1, b2]; rfl
        rw [hd] at hc ⊢
        refine fn_ok hm Tryz.func85 (fun _ => false) [] (fun _ => []) (by kernel_rfl) ?_
        refine run ?_; repeat ((apply call_ok; first | exact (hc)); refine run ?_)
        exact Done.mk rfl rfl
    · have hd : setO o e.op = o := by unfold setO opIn; rw [b1]; rfl
      rw [hd] at hc ⊢
      refine fn_ok hm Tryz.func85 (fun _ => false) [] (fun _ => []) (by kernel_rfl) ?_
      refine run ?_; repeat ((apply call_ok; first | exact (hc)); refine run ?_)
      exact Done.mk rfl rfl
theorem dstmt_ok : ∀ (n : Nat) (s : Sm), (wS s).length < n → (wS s).length < 2^30 → ∀ o : OB, CallsA Tryz.prog 39 [.ptr 1000 0, encS s] ⟨[arrB o], []⟩ (.tup []) ⟨[arrB (xS s o)], []⟩ := by
  intro n
  induction n with
  | zero => intro e h; omega
  | succ n ih =>
    intro s h hb o
    have hl := wS_len s
    have l1 := wl_len wE s.args
    have l3 := wl_len wS s.body
    have l4 := wl_len wS s.els
    have p1 := fm_len (l := s.args) wE_pos
    have p3 := fm_len (l := s.body) wS_pos
    have p4 := fm_len (l := s.els) wS_pos
    have e0 : [s.x, s.y].foldl (fun o x => xE x o) o = xE s.y (xE s.x o) := rfl
    have hA := each84_ok (l := [s.x, s.y]) xE o (by show 2 < _; omega) (fun x hx o => dexpr_ok _ x (Nat.lt_succ_self _) (by
      rcases List.mem_cons.1 hx with rfl | hx
      · omega
      · rw [List.mem_singleton.1 hx]; omega) o)
    rw [e0] at hA
    have hB : CallsA Tryz.prog 84 [.clo (.func 85) [.ptr 1000 0] [], .sl 4 (encEs s.args) false] ⟨[arrB (xE s.y (xE s.x o))], []⟩ (.tup []) ⟨[arrB (xEs s.args (xE s.y (xE s.x o)))], []⟩ := by
      rw [encEs_map, xEs_fold]
      refine each84_ok xE _ (by omega) (fun x hx o => dexpr_ok _ x (Nat.lt_succ_self _) ?_ o)
      have := fm_mem (w := wE) hx; omega
    have hC : ∀ (l : List Sm) (o : OB), (l.flatMap wS).length < (wS s).length → CallsA Tryz.prog 38 [.clo (.func 39) [.ptr 1000 0] [], .sl 20 (encSs l) false] ⟨[arrB o], []⟩ (.tup []) ⟨[arrB (xSs l o)], []⟩ := fun l o hw => by
      have pl := fm_len (l := l) wS_pos
      rw [encSs_map, xSs_fold]
      refine each38_ok xS _ (by omega) (fun x hx o => ih x ?_ ?_ o)
      · have := fm_mem (w := wS) hx; omega
      · have := fm_mem (w := wS) hx; omega
    have c1 := hC s.body (xEs s.args (xE s.y (xE s.x o))) (by omega)
    have c2 := hC s.els (xSs s.body (xEs s.args (xE s.y (xE s.x o)))) (by omega)
    rw [xS_eq]
    refine fn_ok hm Tryz.func39 (fun _ => false) [] (fun _ => []) (by kernel_rfl) ?_
    refine run ?_; repeat ((apply call_ok; first | exact (hA) | exact (hB) | exact (c1) | exact (c2)); refine run ?_)
    exact Done.mk rfl rfl
end Abs
namespace Abs
open Go Go.Proofs
set_option maxRecDepth 100000
set_option maxHeartbeats 4000000
def noO : OB := fun _ => false
def dops (body : List Sm) : List Int := ((List.range 11).filter (xSs body noO)).map fun n : Nat => (n : Int)
theorem nth_arr (o : OB) (k : Nat) (h : k < 11) : nth [bo (o 0), bo (o 1), bo (o 2), bo (o 3), bo (o 4), bo (o 5), bo (o 6), bo (o 7), bo (o 8), bo (o 9), bo (o 10)] k = some (bo (o k)) := by
  match k, h with
  | 0, _ => rfl
  | 1, _ => rfl
  | 2, _ => rfl
  | 3, _ => rfl
  | 4, _ => rfl
  | 5, _ => rfl
  | 6, _ => rfl
  | 7, _ => rfl
  | 8, _ => rfl
  | 9, _ => rfl
  | 10, _ => rfl
theorem range_yes {o : OB} {k : Nat} (h : o k = true) : ((List.range (k+1)).filter o) = (List.range k).filter o ++ [k] := by
  rw [List.range_succ, List.filter_append]; simp [h]
theorem range_no {o : OB} {k : Nat} (h : o k = false) : ((List.range (k+1)).filter o) = (List.range k).filter o := by
  rw [List.range_succ, List.filter_append]; simp [h]
theorem range_le (o : OB) (k : Nat) : ((List.range k).filter o).length ≤ k := by
  have := List.length_filter_le o (List.range k); rwa [List.length_range] at this
theorem dOps_ok (d : Df) (hw : (wD d).length < 2^30) : CallsA Tryz.prog 14 [encD d] ct0 (ints (dops d.body)) ct0 := by
  have hwd := wD_len d
  have hws := wl_len wS d.body
  have p3 := fm_len (l := d.body) wS_pos
  have hc := each38_ok (l := d.body) xS noO (by omega) (fun x hx o => dstmt_ok _ x (Nat.lt_succ_self _) (by have := fm_mem (w := wS) hx; omega) o)
  rw [← xSs_fold] at hc
  have ho : ∃ o, o = xSs d.body noO := ⟨_, rfl⟩
  refine ho.elim fun o ho => ?_
  have hd : dops d.body = ((List.range 11).filter o).map fun n : Nat => (n : Int) := by rw [ho]; rfl
  rw [← ho] at hc
  refine fn_ok hm Tryz.func14 (fun _ => false) [] (fun _ => []) (by kernel_rfl) ?_
  refine run ?_; repeat ((apply call_ok; first | exact (hc)); refine run ?_)
  refine LoopS.mk ⟨[.tmp 4 20005], HeadS.lp (fun r : CR => r.k ≤ 11 ∧ r.acc = ((List.range r.k).filter o).map fun n : Nat => it n) (fun r => ⟨[(12, it r.k), (4, .ref 20005 r.acc.length)], [], [(20005, ⟨1, true, r.acc⟩)]⟩) (fun r => 11 - r.k) ⟨0, []⟩ ⟨Nat.zero_le _, rfl⟩ ?_⟩
  intro r hJ
  have h1 := hJ.1
  have h2 := hJ.2
  by_cases hk : r.k < 11
  · have b1 : decide ((r.k : Int) < 11) = true := by simp; omega
    have hle := range_le o r.k
    have hlen : r.acc.length = ((List.range r.k).filter o).length := by rw [h2, List.length_map]
    have hi := nth_arr o r.k hk
    refine (Bool.eq_false_or_eq_true (o r.k)).elim (fun b2 => ?_) (fun b2 => ?_)
    · have hN : r.acc ++ [it r.k] = ((List.range (r.k + 1)).filter o).map fun n : Nat => it n := by rw [h2, range_yes b2, List.map_append]; rfl
      refine run ?_
      refine Idx.at rfl (by omega) hi ?_
      refine run ?_
      refine ⟨⟨⟨r.k + 1, _⟩, ⟨hk, hN⟩⟩, Nat.sub_lt_sub_left hk (Nat.lt_succ_self _), ?_⟩
      repeat' (first | exact trivial | exact rfl | refine ⟨?_, ?_⟩ | refine ⟨?_, ?_, ?_⟩)
    · have hN : r.acc = ((List.range (r.k + 1)).filter o).map fun n : Nat => it n := by rw [h2, range_no b2]
      refine run ?_
      refine Idx.at rfl (by omega) hi ?_
      refine run ?_
      refine ⟨⟨⟨r.k + 1, _⟩, ⟨hk, hN⟩⟩, Nat.sub_lt_sub_left hk (Nat.lt_succ_self _), ?_⟩
      repeat' (first | exact trivial | exact rfl | refine ⟨?_, ?_⟩ | refine ⟨?_, ?_, ?_⟩)
  · have b1 : decide ((r.k : Int) < 11) = false := by simp; omega
    have e : r.acc = (dops d.body).map it := by rw [h2, hd, show r.k = 11 by omega, List.map_map]; rfl
    refine run ?_
    exact Done.mk (congrArg (fun x => Dat.sl 1 x false) e) rfl
end Abs
namespace Abs
open Go Go.Proofs
set_option maxRecDepth 100000
set_option maxHeartbeats 4000000
def allAbs (mask : Int) : Dat := .agg [it (-2147483648), it 2147483647, it 1, it 0, it mask]
theorem spanMod_ok : CallsA Tryz.prog 192 [it (-2147483648), it 1] ct0 (it 0) ct0 := by
  have a1 : (-2147483648 : Int).tmod 1 + 1 = 1 := by decide
  refine fn_ok hm Tryz.func192 (fun _ => false) [] (fun _ => []) (by kernel_rfl) ?_
  refine run ?_
  exact Done.mk rfl rfl
theorem spanBy_ok : CallsA Tryz.prog 165 [it (-2147483648), it 2147483647, it 1, it 255] ct0 (allAbs 255) ct0 := by
  have h := spanMod_ok
  have a1 : (2147483647 : Int) - (2147483647 - -2147483648 : Int).tmod 1 = 2147483647 := by decide
  have a2 : IntKind.i64.wrap ((2147483647 - -2147483648 : Int).tdiv 1) * 1 = 4294967295 := by decide
  refine fn_ok hm Tryz.func165 (fun _ => false) [] (fun _ => []) (by kernel_rfl) ?_
  refine run ?_; repeat ((apply call_ok; first | exact (h)); refine run ?_)
  exact Done.mk rfl rfl
theorem spanAll_ok : CallsA Tryz.prog 120 [it 255] ct0 (allAbs 255) ct0 := by
  have h := spanBy_ok
  refine fn_ok hm Tryz.func120 (fun _ => false) [] (fun _ => []) (by kernel_rfl) ?_
  refine run ?_; repeat ((apply call_ok; first | exact (h)); refine run ?_)
  exact Done.mk rfl rfl
def rowT (a b : Nat) : List Pa := ((List.range b).filter fun j => !(Nat.beq a j)).map fun j : Nat => ⟨a, j, 0⟩
def pairsT (n : Nat) : List Pa := (List.range n).flatMap fun a => rowT a 3
def topSy (c : Int) : Sy := ⟨c, -2147483648, 2147483647, 1, 0, 255, 4294967294, 7, 0, pairsT 3, 1099511627776⟩
def topC (c : Int) (ps : Dat) : List Dat := [it c, it (-2147483648), it 2147483647, it 1, it 0, it 255, it 4294967294, it 7, it 0, ps, it 1099511627776]
theorem rowT_yes {a b : Nat} (h : (!(Nat.beq a b)) = true) : rowT a (b+1) = rowT a b ++ [⟨a, b, 0⟩] := by
  unfold rowT; rw [List.range_succ, List.filter_append]; simp [h]
theorem rowT_no {a b : Nat} (h : (!(Nat.beq a b)) = false) : rowT a (b+1) = rowT a b := by
  unfold rowT; rw [List.range_succ, List.filter_append]; simp [h]
theorem nbeq_no {a b : Nat} (h : (!(Nat.beq a b)) = false) : a = b := by
  cases hb : Nat.beq a b with
  | true => exact Nat.eq_of_beq_eq_true hb
  | false => rw [hb] at h; cases h
theorem nbeq_yes {a b : Nat} (h : (!(Nat.beq a b)) = true) : ¬ a = b := fun e => by
  rw [e, Nat.beq_refl] at h; cases h
theorem rowT_le (a b : Nat) : (rowT a b).length ≤ b := by
  unfold rowT; rw [List.length_map]
  have := List.length_filter_le (fun j => !(Nat.beq a j)) (List.range b); rwa [List.length_range] at this
theorem pairsT_succ (n : Nat) : pairsT (n+1) = pairsT n ++ rowT n 3 := by unfold pairsT; rw [List.range_succ]; simp
theorem pairsT_le : ∀ n, (pairsT n).length ≤ 3 * n
  | 0 => by simp [pairsT]
  | n+1 => by rw [pairsT_succ, List.length_append]; have := pairsT_le n; have := rowT_le n 3; omega
def topOf (p : Pg) (c : Int) : Sy := if (fnd (fun x : Hd => x.id == c) zHd p.heads).2 then topSy c else zSy
def topE (p : Pg) (c : Int) : Int := if (fnd (fun x : Hd => x.id == c) zHd p.heads).2 then 0 else 4
theorem sumTop_ok (p : Pg) (c : Int) (hL : p.d.locks = 3) (hh : p.heads.length < 2^40) : CallsA Tryz.prog 77 [encP p, it c] ct0 (.tup [encSy (topOf p c), it (topE p c)]) ct0 := by
  have hd := shapeHeadOf_ok p c hh
  have ha := spanAll_ok
  have s1 : IntKind.i64.wrap (1 * 2 ^ (min p.d.locks.toNat IntKind.i64.bits)) - 1 = 7 := by rw [hL]; decide
  have hn : 0 ≤ p.d.locks := by omega
  refine (Bool.eq_false_or_eq_true ((fnd (fun x : Hd => x.id == c) zHd p.heads).2)).elim (fun b0 => ?_) (fun b0 => ?_)
  · have e1 : topOf p c = topSy c := if_pos b0
    have c0 : (!(fnd (fun x : Hd => x.id == c) zHd p.heads).2) = false := by rw [b0]; rfl
    have e2 : topE p c = 0 := if_pos b0
    rw [e1, e2]
    refine fn_ok hm Tryz.func77 (fun _ => false) [] (fun _ => []) (by kernel_rfl) ?_
    refine run ?_; repeat ((apply call_ok; first | exact (hd) | exact (ha)); refine run ?_)
    refine LoopS.mk ⟨[.cell 8 9 20006], HeadS.lp (fun r : CR => r.k ≤ 3 ∧ r.acc = (pairsT r.k).map encPa) (fun r => ⟨[(31, it r.k)], [(8, .agg (topC c (.ref 20006 r.acc.length)))], [(20006, ⟨3, true, r.acc⟩)]⟩) (fun r => 3 - r.k) ⟨0, []⟩ ⟨Nat.zero_le _, rfl⟩ ?_⟩
    intro r hJ
    have h1 := hJ.1
    have h2 := hJ.2
    by_cases hk : r.k < 3
    · have b1 : decide ((r.k : Int) < p.d.locks) = true := by rw [hL]; simp; omega
      have hlen : r.acc.length = (pairsT r.k).length := by rw [h2, List.length_map]
      have hle := pairsT_le r.k
      refine run ?_
      refine LoopS.mk ⟨[], HeadS.lp (fun q : CR => q.k ≤ 3 ∧ q.acc = r.acc ++ (rowT r.k q.k).map encPa) (fun q => ⟨[(37, it q.k)], [(8, .agg (topC c (.ref 20006 q.acc.length)))], [(20006, ⟨3, true, q.acc⟩)]⟩) (fun q => 3 - q.k) ⟨0, r.acc⟩ ⟨Nat.zero_le _, by simp [rowT]⟩ ?_⟩
      intro q hq
      have q1 := hq.1
      have q2 := hq.2
      by_cases gk : q.k < 3
      · have d1 : decide ((q.k : Int) < p.d.locks) = true := by rw [hL]; simp; omega
        have glen : q.acc.length = r.acc.length + (rowT r.k q.k).length := by rw [q2]; simp
        have gle := rowT_le r.k q.k
        refine (Bool.eq_false_or_eq_true (!(Nat.beq r.k q.k))).elim (fun d2 => ?_) (fun d2 => ?_)
        · have d3 : ¬ r.k = q.k := nbeq_yes d2
          have ne : (!decide ((r.k : Int) = (q.k : Int))) = true := by simp; omega
          have gN : q.acc ++ [encPa ⟨r.k, q.k, 0⟩] = r.acc ++ (rowT r.k (q.k + 1)).map encPa := by rw [q2, rowT_yes d2, List.map_append, ← List.append_assoc]; rfl
          refine run ?_
          refine ⟨⟨⟨q.k + 1, _⟩, ⟨gk, gN⟩⟩, Nat.sub_lt_sub_left gk (Nat.lt_succ_self _), ?_⟩
          repeat' (first | exact trivial | exact rfl | refine ⟨?_, ?_⟩ | refine ⟨?_, ?_, ?_⟩)
        · have d3 : r.k = q.k := nbeq_no d2
          have ne : (!decide ((r.k : Int) = (q.k : Int))) = false := by rw [d3]; simp
          have gN : q.acc = r.acc ++ (rowT r.k (q.k + 1)).map encPa := by rw [q2, rowT_no d2]
          refine run ?_
          refine ⟨⟨⟨q.k + 1, _⟩, ⟨gk, gN⟩⟩, Nat.sub_lt_sub_left gk (Nat.lt_succ_self _), ?_⟩
          repeat' (first | exact trivial | exact rfl | refine ⟨?_, ?_⟩ | refine ⟨?_, ?_, ?_⟩)
      · have d1 : decide ((q.k : Int) < p.d.locks) = false := by rw [hL]; simp; omega
        have e : q.acc = (pairsT (r.k + 1)).map encPa := by rw [q2, h2, show q.k = 3 by omega, pairsT_succ, List.map_append]
        refine run ?_
        refine ⟨⟨⟨r.k + 1, _⟩, ⟨hk, e⟩⟩, Nat.sub_lt_sub_left hk (Nat.lt_succ_self _), ?_⟩
        repeat' (first | exact trivial | exact rfl | refine ⟨?_, ?_⟩ | refine ⟨?_, ?_, ?_⟩)
    · have b1 : decide ((r.k : Int) < p.d.locks) = false := by rw [hL]; simp; omega
      have e : r.acc = (pairsT 3).map encPa := by rw [h2, show r.k = 3 by omega]
      refine run ?_
      exact Done.mk (congrArg (fun x => Dat.tup [.agg (topC c (.sl 3 x false)), it 0]) e) rfl
  · have e1 : topOf p c = zSy := if_neg (by rw [b0]; simp)
    have c0 : (!(fnd (fun x : Hd => x.id == c) zHd p.heads).2) = true := by rw [b0]; rfl
    have e2 : topE p c = 4 := if_neg (by rw [b0]; simp)
    rw [e1, e2]
    refine fn_ok hm Tryz.func77 (fun _ => false) [] (fun _ => []) (by kernel_rfl) ?_
    refine run ?_; repeat ((apply call_ok; first | exact (hd)); refine run ?_)
    exact Done.mk rfl rfl
end Abs
namespace Abs
open Go Go.Proofs
set_option maxRecDepth 100000
set_option maxHeartbeats 4000000
def SI (l : List Int) : Prop := l.Pairwise (· < ·)
theorem SI.uniq : ∀ {a b : List Int}, SI a → SI b → (∀ x, x ∈ a ↔ x ∈ b) → a = b
  | [], [], _, _, _ => rfl
  | [], y :: b, _, _, h => absurd ((h y).2 (by simp)) (by simp)
  | x :: a, [], _, _, h => absurd ((h x).1 (by simp)) (by simp)
  | x :: a, y :: b, ha, hb, h => by
    have ha' := List.pairwise_cons.1 ha
    have hb' := List.pairwise_cons.1 hb
    have e : x = y := by
      rcases List.mem_cons.1 ((h x).1 (by simp)) with e | m1
      · exact e
      · rcases List.mem_cons.1 ((h y).2 (by simp)) with e | m2
        · exact e.symm
        · have := hb'.1 x m1; have := ha'.1 y m2; omega
    subst e
    have : a = b := SI.uniq ha'.2 hb'.2 (fun z => ⟨fun m => by
      rcases List.mem_cons.1 ((h z).1 (List.mem_cons_of_mem _ m)) with e | m'
      · have := ha'.1 z m; omega
      · exact m', fun m => by
      rcases List.mem_cons.1 ((h z).2 (List.mem_cons_of_mem _ m)) with e | m'
      · have := hb'.1 z m; omega
      · exact m'⟩)
    rw [this]
theorem tw_filter (n : Int) : ∀ {l : List Int}, SI l → (l.takeWhile fun x => decide (x < n)) = l.filter fun x => decide (x < n)
  | [], _ => rfl
  | x :: l, h => by
    have h' := List.pairwise_cons.1 h
    by_cases e : x < n
    · simp [List.takeWhile, e, tw_filter n h'.2]
    · have : (l.filter fun x => decide (x < n)) = [] := List.filter_eq_nil_iff.2 fun y hy => by have := h'.1 y hy; simp; omega
      simp [List.takeWhile, e, this]
theorem addI_SI {l : List Int} (h : SI l) (n : Int) : SI (addI l n) := by
  unfold addI SI
  rw [tw_filter n h]
  refine List.pairwise_append.2 ⟨List.pairwise_append.2 ⟨h.sublist List.filter_sublist, by simp, ?_⟩, h.sublist List.filter_sublist, ?_⟩
  · intro a ha b hb
    simp at ha hb; omega
  · intro a ha b hb
    simp at ha hb
    rcases ha with ⟨_, ha⟩ | ha <;> omega
theorem addI_mem {l : List Int} (h : SI l) (n x : Int) : x ∈ addI l n ↔ x = n ∨ x ∈ l := by
  unfold addI
  rw [tw_filter n h]
  simp only [List.mem_append, List.mem_filter, List.mem_singleton, decide_eq_true_eq]
  constructor
  · rintro ((⟨h, _⟩ | h) | ⟨h, _⟩)
    · exact .inr h
    · exact .inl h
    · exact .inr h
  · rintro (h | h)
    · exact .inl (.inr h)
    · rcases Int.lt_trichotomy x n with e | e | e
      · exact .inl (.inl ⟨h, e⟩)
      · exact .inl (.inr e)
      · exact .inr ⟨h, e⟩
theorem compactUpTo_SI (d : Array Int) (hs : ∀ i j, i < j → j < d.size → d[i]! ≤ d[j]!) : ∀ m, m ≤ d.size →
    SI (Lib.compactUpTo d m) ∧ ∀ x, x ∈ Lib.compactUpTo d m ↔ ∃ j, j < m ∧ d[j]! = x
  | 0, _ => ⟨by simp [Lib.compactUpTo, SI], fun x => by simp [Lib.compactUpTo]⟩
  | m+1, hm => by
    obtain ⟨h1, h2⟩ := compactUpTo_SI d hs m (by omega)
    rw [Lib.compactUpTo_succ]
    by_cases hk : Lib.keeps d m = true
    · rw [if_pos hk]
      refine ⟨List.pairwise_append.2 ⟨h1, by simp, fun a ha b hb => ?_⟩, fun x => ?_⟩
      · rw [List.mem_singleton.1 hb]
        obtain ⟨j, hj, rfl⟩ := (h2 a).1 ha
        simp [Lib.keeps] at hk
        have hm0 : d[m]! ≠ d[m-1]! := hk.elim (fun e => absurd e (by omega)) id
        have l1 := hs (m-1) m (by omega) (by omega)
        rcases Nat.lt_or_ge j (m-1) with e | e
        · have l2 := hs j (m-1) e (by omega); omega
        · rw [show j = m-1 by omega]; omega
      · rw [List.mem_append, h2, List.mem_singleton]
        constructor
        · rintro (⟨j, hj, e⟩ | e)
          · exact ⟨j, by omega, e⟩
          · exact ⟨m, by omega, e.symm⟩
        · rintro ⟨j, hj, e⟩
          rcases Nat.lt_or_ge j m with e' | e'
          · exact .inl ⟨j, e', e⟩
          · rw [show j = m by omega] at e; exact .inr e.symm
    · rw [if_neg hk, List.append_nil]
      simp [Lib.keeps] at hk
      refine ⟨h1, fun x => ?_⟩
      rw [h2]
      constructor
      · rintro ⟨j, hj, e⟩; exact ⟨j, by omega, e⟩
      · rintro ⟨j, hj, e⟩
        rcases Nat.lt_or_ge j m with e' | e'
        · exact ⟨j, e', e⟩
        · refine ⟨m - 1, by omega, ?_⟩
          rw [← hk.2, ← e, show j = m by omega]
theorem compact_SI (l : List Int) (hs : l.Pairwise (· ≤ ·)) : SI (Lib.compact l) ∧ ∀ x, x ∈ Lib.compact l ↔ x ∈ l := by
  have h := compactUpTo_SI l.toArray (fun i j hij hj => by
    have hj : j < l.length := by simpa using hj
    have hi : i < l.length := by omega
    have := (List.pairwise_iff_getElem.1 hs) i j hi hj hij
    simpa [hi, hj] using this) l.length (by simp)
  refine ⟨h.1, fun x => ?_⟩
  rw [Lib.compact, h.2]
  constructor
  · rintro ⟨j, hj, e⟩
    rw [← e]; simp [hj]
  · intro hx
    obtain ⟨j, hj, e⟩ := List.getElem_of_mem hx
    exact ⟨j, hj, by rw [← e]; simp [hj]⟩
def sortC (l : List Int) : List Int := Lib.compact (l.mergeSort fun x y => decide (x ≤ y))
theorem sortC_SI (l : List Int) : SI (sortC l) ∧ ∀ x, x ∈ sortC l ↔ x ∈ l := by
  have hp : (l.mergeSort fun x y => decide (x ≤ y)).Pairwise (· ≤ ·) := by
    have := List.pairwise_mergeSort (le := fun x y : Int => decide (x ≤ y)) (fun a b c h1 h2 => by simp at h1 h2 ⊢; omega) (fun a b => by simp; omega) l
    exact this.imp (fun h => by simpa using h)
  have h := compact_SI _ hp
  exact ⟨h.1, fun x => by rw [sortC, h.2, List.mem_mergeSort]⟩
theorem rcS_SI : ∀ (l : List Sm) {a : List Int}, SI a → SI (l.foldl rcS a) ∧ ∀ x, x ∈ l.foldl rcS a ↔ x ∈ a ∨ ∃ s ∈ l, (s.op == 13) = true ∧ s.m = x
  | [], a, h => ⟨h, fun x => by simp⟩
  | s :: l, a, h => by
    rw [List.foldl_cons]
    cases e : s.op == 13 with
    | true =>
      have e' : rcS a s = addI a s.m := if_pos e
      obtain ⟨h1, h2⟩ := rcS_SI l (addI_SI h s.m)
      rw [e']
      refine ⟨h1, fun x => ?_⟩
      rw [h2, addI_mem h]
      constructor
      · rintro ((e1 | e1) | ⟨t, ht, e1⟩)
        · exact .inr ⟨s, by simp, e, e1.symm⟩
        · exact .inl e1
        · exact .inr ⟨t, by simp [ht], e1⟩
      · rintro (e1 | ⟨t, ht, e1, e2⟩)
        · exact .inl (.inr e1)
        · rcases List.mem_cons.1 ht with rfl | ht
          · exact .inl (.inl e2.symm)
          · exact .inr ⟨t, ht, e1, e2⟩
    | false =>
      have e' : rcS a s = a := if_neg (by rw [e]; simp)
      obtain ⟨h1, h2⟩ := rcS_SI l h
      rw [e']
      refine ⟨h1, fun x => ?_⟩
      rw [h2]
      constructor
      · rintro (e1 | ⟨t, ht, e1⟩)
        · exact .inl e1
        · exact .inr ⟨t, by simp [ht], e1⟩
      · rintro (e1 | ⟨t, ht, e1, e2⟩)
        · exact .inl e1
        · rcases List.mem_cons.1 ht with rfl | ht
          · rw [e] at e1; cases e1
          · exact .inr ⟨t, ht, e1, e2⟩
theorem calls_eq (body : List Sm) : callsOf body = rcalls body := by
  have h1 := sortC_SI (callees (flL body 1))
  have h2 := rcS_SI (fL body) (a := []) List.Pairwise.nil
  refine SI.uniq h1.1 h2.1 fun x => ?_
  refine (h1.2 x).trans (Iff.trans ?_ (h2.2 x).symm)
  rw [← flL_fst body 1]
  simp only [callees, List.mem_map, List.mem_filter, List.not_mem_nil, false_or]
  constructor
  · rintro ⟨y, ⟨hy, e⟩, e2⟩; exact ⟨y.1, ⟨y, hy, rfl⟩, e, e2⟩
  · rintro ⟨s, ⟨y, hy, rfl⟩, e, e2⟩; exact ⟨y, ⟨hy, e⟩, e2⟩
def xT (o : OB) (s : Sm) : OB := xEs s.args (xE s.y (xE s.x o))
mutual
theorem xS_fl : ∀ (s : Sm) (o : OB), xS s o = (fS s).foldl xT o
  | .mk a b c d e x y h args j body els, o => by
    simp only [xS, fS, List.foldl_cons, List.foldl_append, xSs_fl body, xSs_fl els]; rfl
theorem xSs_fl : ∀ (l : List Sm) (o : OB), xSs l o = (fL l).foldl xT o
  | [], o => rfl
  | s :: l, o => by simp only [xSs, fL, List.foldl_append, xS_fl s, xSs_fl l]
end
structure OR (l : List Int) (o : OB) : Prop where
  si : SI l
  lo : ∀ x ∈ l, 0 ≤ x ∧ x < 11
  mem : ∀ n : Nat, (n : Int) ∈ l ↔ o n = true
theorem OR.ad {l : List Int} {o : OB} (h : OR l o) (op : Int) : OR (adOp l op) (setO o op) := by
  unfold adOp setO
  have e : opIn op = (decide (op ≥ 4) && decide (op ≤ 10)) := rfl
  rw [← e]
  cases hb : opIn op with
  | false => exact h
  | true =>
    rw [e] at hb
    simp at hb
    refine ⟨addI_SI h.si op, fun x hx => ?_, fun n => ?_⟩
    · rcases (addI_mem h.si op x).1 hx with rfl | hx
      · omega
      · exact h.lo x hx
    · rw [if_pos rfl, addI_mem h.si, h.mem]
      show _ ↔ (Nat.beq n op.toNat || o n) = true
      rw [Bool.or_eq_true]
      constructor
      · rintro (h | h)
        · exact .inl (by rw [show n = op.toNat by omega]; exact Nat.beq_refl _)
        · exact .inr h
      · rintro (h | h)
        · have := Nat.eq_of_beq_eq_true h; exact .inl (by omega)
        · exact .inr h
mutual
theorem OR.e : ∀ (e : Ex) {l : List Int} {o : OB}, OR l o → OR (opE e l) (xE e o)
  | .mk op n v a, l, o, h => OR.es a (h.ad op)
theorem OR.es : ∀ (es : List Ex) {l : List Int} {o : OB}, OR l o → OR (opEs es l) (xEs es o)
  | [], l, o, h => h
  | e :: es, l, o, h => OR.es es (OR.e e h)
end
theorem OR.fold : ∀ (ss : List Sm) {l : List Int} {o : OB}, OR l o → OR (ss.foldl ropS l) (ss.foldl xT o)
  | [], l, o, h => h
  | s :: ss, l, o, h => OR.fold ss (OR.es _ (OR.e _ (OR.e _ h)))
theorem ops_eq (body : List Sm) : dops body = rops body := by
  have h : OR (rops body) (xSs body noO) := by
    rw [xSs_fl]
    exact OR.fold _ ⟨List.Pairwise.nil, by simp, by simp [noO]⟩
  refine SI.uniq ?_ h.si fun x => ?_
  · unfold dops SI
    rw [List.pairwise_map]
    exact ((List.pairwise_lt_range (n := 11)).filter _).imp (fun h => by omega)
  · unfold dops
    simp only [List.mem_map, List.mem_filter, List.mem_range]
    constructor
    · rintro ⟨n, ⟨_, e⟩, rfl⟩; exact (h.mem n).2 e
    · intro hx
      have hb := h.lo x hx
      refine ⟨x.toNat, ⟨by omega, (h.mem _).1 ?_⟩, by omega⟩
      rwa [show ((x.toNat : Nat) : Int) = x by omega]
end Abs
namespace Abs
open Go Go.Proofs
set_option maxRecDepth 100000
set_option maxHeartbeats 4000000
def nmD (d : Df) : Df := ⟨d.id, d.site, [102], 0, d.part, d.params, d.given, d.vars, d.refs, d.arrays, d.budget, d.body⟩
def zNe : Ne := ⟨0, [], [], [], [], 0⟩
def cNe (id : Int) (b : List UInt8) (l : List Int) (s r : Dat) (v : Int) : List Dat := [it id, byt b, ints l, s, r, it v]
def sumOf (p : Pg) (sums : List Sy) (c : Int) : Sy := if (fnd (fun x : Sy => x.id == c) zSy sums).2 then (fnd (fun x : Sy => x.id == c) zSy sums).1 else topOf p c
def ruleIn (ops : List Int) (r : Ru) : Bool := (fnd (fun x : Int => x == r.op) 0 ops).2
def mkNe (p : Pg) (s : Su) (id : Int) (sums : List Sy) (d : Df) : Ne :=
  ⟨id, (wD (nmD d)).flatMap wB, declW p (rcalls d.body), (rcalls d.body).map (sumOf p sums), s.rules.filter (ruleIn (rops d.body)), s.level⟩
def needOf (p : Pg) (s : Su) (id : Int) (sums : List Sy) : Ne × Int :=
  if (fnd (fun x : Df => x.id == id) zDf p.defs).2 then
    (if (wD (nmD (fnd (fun x : Df => x.id == id) zDf p.defs).1)).length ≤ 100000 then (mkNe p s id sums (fnd (fun x : Df => x.id == id) zDf p.defs).1, 0) else (zNe, 2))
  else (zNe, 4)
structure Fits (p : Pg) : Prop where
  locks : p.d.locks = 3
  nheads : p.heads.length < 2^40
  ndefs : p.defs.length < 2^40
  words : ∀ d ∈ p.defs, (wD (nmD d)).length < 2^30
  decl : ∀ d ∈ p.defs, (declW p (rcalls d.body)).length < 2^30
theorem cg2 {α β γ : Type} (f : α → β → γ) {a a' : α} {b b' : β} (h1 : a = a') (h2 : b = b') : f a b = f a' b' := by subst h1 h2; rfl
theorem fnd_mem {α : Type} {p : α → Bool} {z : α} : ∀ {l : List α}, (fnd p z l).2 = true → (fnd p z l).1 ∈ l
  | [], h => by cases h
  | x :: l, h => by
    unfold fnd at h ⊢
    by_cases e : p x = true
    · rw [if_pos e]; exact List.mem_cons_self
    · rw [if_neg e] at h ⊢; exact List.mem_cons_of_mem _ (fnd_mem h)
theorem map_take {α β : Type} {f : α → β} {l : List α} {k : Nat} (h : k < l.length) : (l.take (k+1)).map f = (l.take k).map f ++ [f l[k]] := by
  rw [take_one h, List.map_append]; rfl
theorem szD (d : Df) (h : (wD (nmD d)).length < 2^30) : szL d.body < 2^30 := by
  have h1 := wD_len (nmD d)
  have h2 := wl_len wS (nmD d).body
  have h3 := szL_fm (nmD d).body
  have h4 : szL (nmD d).body = szL d.body := rfl
  omega
theorem rcalls_len (body : List Sm) : (rcalls body).length ≤ szL body := by
  have := rc_len (fL body) []; rw [fL_len] at this; simpa [rcalls] using this
theorem rops_len (d : Df) (h : (wD (nmD d)).length < 2^30) : (rops d.body).length < 2^30 := by
  have h1 := rop_len (fL d.body) []
  have h2 := opW_L d.body
  have h3 := wD_len (nmD d)
  have h4 := wl_len wS (nmD d).body
  have h5 : (nmD d).body = d.body := rfl
  rw [h5] at h4 h3
  have h6 : (rops d.body).length ≤ 0 + opWs (fL d.body) := h1
  omega
theorem dOf_ok (p : Pg) (s : Su) (id : Int) (sums : List Sy) (hf : Fits p) (hs : sums.length < 2^40) (hr : s.rules.length < 2^30) :
    CallsA Tryz.prog 31 [encP p, encSu s, it id, lst 11 encSy sums] ct0 ((fun x : Ne × Int => Dat.tup [encN x.1, it x.2]) (needOf p s id sums)) ct0 := by
  have hF := shapeFind_ok p id hf.ndefs
  unfold needOf
  refine (Bool.eq_false_or_eq_true ((fnd (fun x : Df => x.id == id) zDf p.defs).2)).elim (fun b0 => ?_) (fun b0 => ?_)
  · have hm0 := fnd_mem b0
    rw [if_pos b0]
    have hD : ∃ D, D = (fnd (fun x : Df => x.id == id) zDf p.defs).1 := ⟨_, rfl⟩
    refine hD.elim fun D hD => ?_
    have hfd : fnd (fun x : Df => x.id == id) zDf p.defs = (D, true) := Prod.ext hD.symm b0
    rw [hfd] at hF hm0 ⊢
    have hw := hf.words D hm0
    have hdl := hf.decl D hm0
    have hsz := szD D hw
    have hrl := rops_len D hw
    have hcl := rcalls_len D.body
    have hE := encodeDef_ok (nmD D) hw
    have hC := shapeCalls_ok (nmD D) hsz
    have hO := dOps_ok (nmD D) hw
    have eb : (nmD D).body = D.body := rfl
    rw [eb, calls_eq] at hC
    rw [eb, ops_eq] at hO
    have hDc := ddecl_ok p (rcalls D.body) hdl hf.nheads
    unfold eDef at hE
    by_cases hb : (wD (nmD D)).length ≤ 100000
    · rw [if_pos hb] at hE ⊢
      have hcs : ∃ cs, cs = rcalls D.body := ⟨_, rfl⟩
      refine hcs.elim fun cs hcs => ?_
      have hos : ∃ os, os = rops D.body := ⟨_, rfl⟩
      refine hos.elim fun os hos => ?_
      have hds : ∃ ds, ds = declW p cs := ⟨_, rfl⟩
      refine hds.elim fun ds hds => ?_
      have hbs : ∃ bs, bs = (wD (nmD D)).flatMap wB := ⟨_, rfl⟩
      refine hbs.elim fun bs hbs => ?_
      have hmk : mkNe p s id sums D = ⟨id, bs, ds, cs.map (sumOf p sums), s.rules.filter (ruleIn os), s.level⟩ := by rw [hbs, hds, hcs, hos]; rfl
      rw [hmk]
      rw [← hos] at hO hrl
      rw [← hcs] at hC hcl hdl hDc
      rw [← hds] at hdl hDc
      rw [← hbs] at hE
      refine fn_ok hm Tryz.func31 (fun _ => false) [] (fun _ => []) (by kernel_rfl) ?_
      refine run ?_; repeat ((apply call_ok; first | exact (hF) | exact (hE) | exact (hC) | exact (hO) | exact (hDc)); refine run ?_)
      refine LoopS.mk ⟨[.cell 16 3 20011], HeadS.lp (fun r : CR => r.k ≤ cs.length ∧ r.acc = ((cs.take r.k).map (sumOf p sums)).map encSy) (fun r => ⟨[(57, it r.k)], [(16, .agg (cNe id bs ds (.ref 20011 r.acc.length) (.sl 10 [] true) s.level))], [(20011, ⟨11, true, r.acc⟩)]⟩) (fun r => cs.length - r.k) ⟨0, []⟩ ⟨Nat.zero_le _, rfl⟩ ?_⟩
      intro r hJ
      have h1 := hJ.1
      have h2 := hJ.2
      by_cases hk : r.k < cs.length
      · have b1 : decide ((r.k : Int) < ((cs.map it).length : Nat)) = true := by simp; exact hk
        have hlen : r.acc.length = r.k := by rw [h2, List.length_map, List.length_map, List.length_take]; omega
        have hN : r.acc ++ [encSy (sumOf p sums cs[r.k])] = ((cs.take (r.k + 1)).map (sumOf p sums)).map encSy := by rw [h2, map_take hk, List.map_append]; rfl
        have c1 := sumFind_ok sums cs[r.k] hs
        have c2 := sumTop_ok p cs[r.k] hf.locks hf.nheads
        refine (Bool.eq_false_or_eq_true ((fnd (fun x : Sy => x.id == cs[r.k]) zSy sums).2)).elim (fun d0 => ?_) (fun d0 => ?_)
        · have n0 : (!(fnd (fun x : Sy => x.id == cs[r.k]) zSy sums).2) = false := by rw [d0]; rfl
          have e : sumOf p sums cs[r.k] = (fnd (fun x : Sy => x.id == cs[r.k]) zSy sums).1 := if_pos d0
          rw [e] at hN
          refine run ?_
          refine Idx.map hk rfl ?_
          refine run ?_; repeat ((apply call_ok; first | exact (c1) | exact (c2)); refine run ?_)
          refine ⟨⟨⟨r.k + 1, _⟩, ⟨hk, hN⟩⟩, Nat.sub_lt_sub_left hk (Nat.lt_succ_self _), ?_⟩
          repeat' (first | exact trivial | exact rfl | refine ⟨?_, ?_⟩ | refine ⟨?_, ?_, ?_⟩)
        · have n0 : (!(fnd (fun x : Sy => x.id == cs[r.k]) zSy sums).2) = true := by rw [d0]; rfl
          have e : sumOf p sums cs[r.k] = topOf p cs[r.k] := if_neg (by rw [d0]; simp)
          rw [e] at hN
          refine run ?_
          refine Idx.map hk rfl ?_
          refine run ?_; repeat ((apply call_ok; first | exact (c1) | exact (c2)); refine run ?_)
          refine ⟨⟨⟨r.k + 1, _⟩, ⟨hk, hN⟩⟩, Nat.sub_lt_sub_left hk (Nat.lt_succ_self _), ?_⟩
          repeat' (first | exact trivial | exact rfl | refine ⟨?_, ?_⟩ | refine ⟨?_, ?_, ?_⟩)
      have b1 : decide ((r.k : Int) < ((cs.map it).length : Nat)) = false := by simp; omega
      have e1 : r.acc = (cs.map (sumOf p sums)).map encSy := by rw [h2, List.take_of_length_le (by omega)]
      refine run ?_
      refine LoopS.mk ⟨[.cell 16 4 20019], HeadS.lp (fun q : CR => q.k ≤ s.rules.length ∧ q.acc = ((s.rules.take q.k).filter (ruleIn os)).map encRu) (fun q => ⟨[(85, it q.k)], [(16, .agg (cNe id bs ds (.ref 20011 r.acc.length) (.ref 20019 q.acc.length) s.level))], [(20019, ⟨10, true, q.acc⟩)]⟩) (fun q => s.rules.length - q.k) ⟨0, []⟩ ⟨Nat.zero_le _, rfl⟩ ?_⟩
      intro q hq
      have q1 := hq.1
      have q2 := hq.2
      by_cases gk : q.k < s.rules.length
      · have d1 : decide ((q.k : Int) < ((s.rules.map encRu).length : Nat)) = true := by simp; exact gk
        have gle := flt_le (p := ruleIn os) (l := s.rules) q.k
        have glen : q.acc.length = ((s.rules.take q.k).filter (ruleIn os)).length := by rw [q2, List.length_map]
        have c3 := libContains_ok os s.rules[q.k].op (by omega)
        refine (Bool.eq_false_or_eq_true ((fnd (fun x : Int => x == s.rules[q.k].op) 0 os).2)).elim (fun d2 => ?_) (fun d2 => ?_)
        · have gN : q.acc ++ [encRu s.rules[q.k]] = ((s.rules.take (q.k + 1)).filter (ruleIn os)).map encRu := by rw [q2, flt_yes gk d2, List.map_append]; rfl
          refine run ?_
          refine Idx.map gk rfl ?_
          refine run ?_; repeat ((apply call_ok; first | exact (c3)); refine run ?_)
          refine ⟨⟨⟨q.k + 1, _⟩, ⟨gk, gN⟩⟩, Nat.sub_lt_sub_left gk (Nat.lt_succ_self _), ?_⟩
          repeat' (first | exact trivial | exact rfl | refine ⟨?_, ?_⟩ | refine ⟨?_, ?_, ?_⟩)
        · have gN : q.acc = ((s.rules.take (q.k + 1)).filter (ruleIn os)).map encRu := by rw [q2, flt_no gk d2]
          refine run ?_
          refine Idx.map gk rfl ?_
          refine run ?_; repeat ((apply call_ok; first | exact (c3)); refine run ?_)
          refine ⟨⟨⟨q.k + 1, _⟩, ⟨gk, gN⟩⟩, Nat.sub_lt_sub_left gk (Nat.lt_succ_self _), ?_⟩
          repeat' (first | exact trivial | exact rfl | refine ⟨?_, ?_⟩ | refine ⟨?_, ?_, ?_⟩)
      have d1 : decide ((q.k : Int) < ((s.rules.map encRu).length : Nat)) = false := by simp; omega
      have e2 : q.acc = (s.rules.filter (ruleIn os)).map encRu := by rw [q2, List.take_of_length_le (by omega)]
      refine run ?_
      exact Done.mk (cg2 (fun x y => Dat.tup [.agg (cNe id bs ds (.sl 11 x false) (.sl 10 y false) s.level), it 0]) e1 e2) rfl
    · rw [if_neg hb] at hE ⊢
      refine fn_ok hm Tryz.func31 (fun _ => false) [] (fun _ => []) (by kernel_rfl) ?_
      refine run ?_; repeat ((apply call_ok; first | exact (hF) | exact (hE)); refine run ?_)
      exact Done.mk rfl rfl
  · have hfd : fnd (fun x : Df => x.id == id) zDf p.defs = ((fnd (fun x : Df => x.id == id) zDf p.defs).1, false) := Prod.ext rfl b0
    rw [if_neg (by rw [b0]; simp)]
    rw [hfd] at hF
    refine fn_ok hm Tryz.func31 (fun _ => false) [] (fun _ => []) (by kernel_rfl) ?_
    refine run ?_; repeat ((apply call_ok; first | exact (hF)); refine run ?_)
    exact Done.mk rfl rfl
end Abs
namespace Abs
open Go Go.Proofs
set_option maxRecDepth 100000
set_option maxHeartbeats 4000000
structure NeOk (a : Ne) : Prop where
  decl : a.decl.length < 2^62
  sums : a.sums.length < 2^30
  pairs : ∀ x ∈ a.sums, x.pairs.length < 2^28
  rules : a.rules.length < 2^30
theorem depSame_ok (a b : Ne) (h : NeOk a) : CallsA Tryz.prog 16 [encN a, encN b] ct0 (bo (a == b)) ct0 := by
  have c1 := bytesEqual_ok a.body b.body
  have c2 := equalInts_ok a.decl b.decl h.decl
  have c3 := equalSums_ok a.sums b.sums (by have := h.sums; omega) (fun x hx => by have := h.pairs x hx; omega)
  have c4 := equalRules_ok a.rules b.rules (by have := h.rules; omega)
  refine (Bool.eq_false_or_eq_true (a.id == b.id)).elim (fun f0 => ?_) (fun f0 => ?_)
  rotate_left
  · have e : (a == b) = false := beq_eq_false_iff_ne.2 fun e => by rw [e, beq_self_eq_true] at f0; cases f0
    rw [e]
    refine fn_ok hm Tryz.func16 (fun _ => false) [] (fun _ => []) (by kernel_rfl) ?_
    refine run ?_; repeat ((apply call_ok; first | exact (c1) | exact (c2) | exact (c3) | exact (c4)); refine run ?_)
    first | exact Done.mk rfl rfl | exact Done.mk (congrArg Dat.bool f0) rfl
  refine (Bool.eq_false_or_eq_true (a.level == b.level)).elim (fun f1 => ?_) (fun f1 => ?_)
  rotate_left
  · have e : (a == b) = false := beq_eq_false_iff_ne.2 fun e => by rw [e, beq_self_eq_true] at f1; cases f1
    rw [e]
    refine fn_ok hm Tryz.func16 (fun _ => false) [] (fun _ => []) (by kernel_rfl) ?_
    refine run ?_; repeat ((apply call_ok; first | exact (c1) | exact (c2) | exact (c3) | exact (c4)); refine run ?_)
    first | exact Done.mk rfl rfl | exact Done.mk (congrArg Dat.bool f1) rfl
  refine (Bool.eq_false_or_eq_true (a.body == b.body)).elim (fun f2 => ?_) (fun f2 => ?_)
  rotate_left
  · have e : (a == b) = false := beq_eq_false_iff_ne.2 fun e => by rw [e, beq_self_eq_true] at f2; cases f2
    rw [e]
    refine fn_ok hm Tryz.func16 (fun _ => false) [] (fun _ => []) (by kernel_rfl) ?_
    refine run ?_; repeat ((apply call_ok; first | exact (c1) | exact (c2) | exact (c3) | exact (c4)); refine run ?_)
    first | exact Done.mk rfl rfl | exact Done.mk (congrArg Dat.bool f2) rfl
  refine (Bool.eq_false_or_eq_true (a.decl == b.decl)).elim (fun f3 => ?_) (fun f3 => ?_)
  rotate_left
  · have e : (a == b) = false := beq_eq_false_iff_ne.2 fun e => by rw [e, beq_self_eq_true] at f3; cases f3
    rw [e]
    refine fn_ok hm Tryz.func16 (fun _ => false) [] (fun _ => []) (by kernel_rfl) ?_
    refine run ?_; repeat ((apply call_ok; first | exact (c1) | exact (c2) | exact (c3) | exact (c4)); refine run ?_)
    first | exact Done.mk rfl rfl | exact Done.mk (congrArg Dat.bool f3) rfl
  refine (Bool.eq_false_or_eq_true (a.sums == b.sums)).elim (fun f4 => ?_) (fun f4 => ?_)
  rotate_left
  · have e : (a == b) = false := beq_eq_false_iff_ne.2 fun e => by rw [e, beq_self_eq_true] at f4; cases f4
    rw [e]
    refine fn_ok hm Tryz.func16 (fun _ => false) [] (fun _ => []) (by kernel_rfl) ?_
    refine run ?_; repeat ((apply call_ok; first | exact (c1) | exact (c2) | exact (c3) | exact (c4)); refine run ?_)
    first | exact Done.mk rfl rfl | exact Done.mk (congrArg Dat.bool f4) rfl
  refine (Bool.eq_false_or_eq_true (a.rules == b.rules)).elim (fun f5 => ?_) (fun f5 => ?_)
  rotate_left
  · have e : (a == b) = false := beq_eq_false_iff_ne.2 fun e => by rw [e, beq_self_eq_true] at f5; cases f5
    rw [e]
    refine fn_ok hm Tryz.func16 (fun _ => false) [] (fun _ => []) (by kernel_rfl) ?_
    refine run ?_; repeat ((apply call_ok; first | exact (c1) | exact (c2) | exact (c3) | exact (c4)); refine run ?_)
    first | exact Done.mk rfl rfl | exact Done.mk (congrArg Dat.bool f5) rfl
  have e : a = b := by
    cases a; cases b
    simp at f0 f1 f2 f3 f4 f5
    simp [f0, f1, f2, f3, f4, f5]
  have e' : (a == b) = true := by rw [e]; exact beq_self_eq_true _
  rw [e']
  refine fn_ok hm Tryz.func16 (fun _ => false) [] (fun _ => []) (by kernel_rfl) ?_
  refine run ?_; repeat ((apply call_ok; first | exact (c1) | exact (c2) | exact (c3) | exact (c4)); refine run ?_)
  exact Done.mk (congrArg Dat.bool f5) rfl
end Abs
namespace Abs
open Go Go.Proofs
set_option maxRecDepth 100000
set_option maxHeartbeats 4000000
end Abs
namespace Abs
open Go Go.Proofs
set_option maxRecDepth 100000
set_option maxHeartbeats 4000000
theorem reop1_ok (x n : Ne) (h : NeOk x) : CallsA Tryz.prog 50 [encN x, .ptr 1000 0] ⟨[encN n], []⟩ (bo (x == n)) ⟨[encN n], []⟩ := by
  have c := depSame_ok x n h
  refine fn_ok hm Tryz.func50 (fun _ => false) [] (fun _ => []) (by kernel_rfl) ?_
  refine run ?_; repeat ((apply call_ok; first | exact (c)); refine run ?_)
  exact Done.mk rfl rfl
theorem neIndex_ok (l : List Ne) (n : Ne) (hok : ∀ x ∈ l, NeOk x) (hl : l.length < 2^40) : CallsA Tryz.prog 88 [lst 6 encN l, .clo (.func 50) [] [.ptr 1000 0]] ⟨[encN n], []⟩ (it (ix (fun x => x == n) l 0)) ⟨[encN n], []⟩ := by
  refine fn_ok hm Tryz.func88 (fun _ => false) [] (fun _ => []) (by kernel_rfl) ?_
  refine run ?_
  refine LoopS.mk ⟨[], HeadS.lp (fun k : Nat => k ≤ l.length ∧ ix (fun x => x == n) l 0 = ix (fun x => x == n) (l.drop k) k) (fun k => ⟨[(8, it k)], [], []⟩) (fun k => l.length - k) 0 ⟨Nat.zero_le _, by simp⟩ ?_⟩
  intro k hJ
  have h1 := hJ.1
  have h2 := hJ.2
  by_cases hk : k < l.length
  · have b1 : decide ((k : Int) < ((l.map encN).length : Nat)) = true := by simp; exact hk
    have hc := reop1_ok l[k] n (hok _ (List.getElem_mem hk))
    refine (Bool.eq_false_or_eq_true (l[k] == n)).elim (fun b2 => ?_) (fun b2 => ?_)
    · have e := h2.trans (ix_yes hk b2)
      refine run ?_
      refine Idx.map hk rfl ?_
      refine run ?_; repeat ((apply call_ok; first | exact (hc)); refine run ?_)
      exact Done.mk (congrArg it e.symm) rfl
    · have e := h2.trans (ix_no hk b2)
      refine run ?_
      refine Idx.map hk rfl ?_
      refine run ?_; repeat ((apply call_ok; first | exact (hc)); refine run ?_)
      refine ⟨⟨k + 1, ⟨hk, e⟩⟩, Nat.sub_lt_sub_left hk (Nat.lt_succ_self _), ?_⟩
      repeat' (first | exact trivial | exact rfl | refine ⟨?_, ?_⟩ | refine ⟨?_, ?_, ?_⟩)
  · have b1 : decide ((k : Int) < ((l.map encN).length : Nat)) = false := by simp; omega
    have e := h2.trans (ix_end hk)
    refine run ?_
    exact Done.mk (congrArg it e.symm) rfl
theorem ix_any {α : Type} {p : α → Bool} : ∀ (l : List α) (i : Nat), decide (ix p l i ≥ 0) = l.any p
  | [], i => by simp [ix]
  | x :: l, i => by
    unfold ix
    rw [List.any_cons]
    cases e : p x with
    | true => simp
    | false => simp only [Bool.false_or]; rw [← ix_any l (i+1)]; simp
theorem neContains_ok (l : List Ne) (n : Ne) (hok : ∀ x ∈ l, NeOk x) (hl : l.length < 2^40) : CallsA Tryz.prog 49 [lst 6 encN l, .clo (.func 50) [] [.ptr 1000 0]] ⟨[encN n], []⟩ (bo (l.any fun x => x == n)) ⟨[encN n], []⟩ := by
  have h := neIndex_ok l n hok hl
  rw [← ix_any l 0]
  refine fn_ok hm Tryz.func49 (fun _ => false) [] (fun _ => []) (by kernel_rfl) ?_
  refine run ?_; repeat ((apply call_ok; first | exact (h)); refine run ?_)
  exact Done.mk rfl rfl
def newN (old : List Ne) (n : Ne) : Bool := !(old.any fun x => x == n)
def newIds (old next : List Ne) : List Int := (next.filter (newN old)).map (·.id)
def dreop (old next : List Ne) : List Int := sortC (newIds old next)
theorem dReopens_ok (old next : List Ne) (ho : ∀ x ∈ old, NeOk x) (h1 : old.length < 2^30) (h2 : next.length < 2^30) : CallsA Tryz.prog 18 [lst 6 encN old, lst 6 encN next] ct0 (ints (dreop old next)) ct0 := by
  refine fn_ok hm Tryz.func18 (fun f => Nat.beq f 51 || Nat.beq f 52) [] (fun _ => []) (by kernel_rfl) ?_
  refine run ?_
  refine LoopS.mk ⟨[.tmp 5 20003], HeadS.lp (fun r : CR => r.k ≤ next.length ∧ r.acc = (newIds old (next.take r.k)).map it) (fun r => ⟨[(10, it r.k), (5, .ref 20003 r.acc.length)], [], [(20003, ⟨1, true, r.acc⟩)]⟩) (fun r => next.length - r.k) ⟨0, []⟩ ⟨Nat.zero_le _, rfl⟩ ?_⟩
  intro r hJ
  have j1 := hJ.1
  have j2 := hJ.2
  have hle := flt_le (p := newN old) (l := next) r.k
  have hlen : r.acc.length = ((next.take r.k).filter (newN old)).length := by rw [j2, List.length_map, newIds, List.length_map]
  by_cases hk : r.k < next.length
  · have b1 : decide ((r.k : Int) < ((next.map encN).length : Nat)) = true := by simp; exact hk
    have c := neContains_ok old next[r.k] ho (by omega)
    refine (Bool.eq_false_or_eq_true (newN old next[r.k])).elim (fun b2 => ?_) (fun b2 => ?_)
    · have b3 : (!(old.any fun x => x == next[r.k])) = true := b2
      have hN : r.acc ++ [it next[r.k].id] = (newIds old (next.take (r.k + 1))).map it := by rw [j2, newIds, newIds, flt_yes hk b2, List.map_append, List.map_append]; rfl
      refine run ?_
      refine Idx.map hk rfl ?_
      refine run ?_; repeat ((apply call_ok; first | exact (c)); refine run ?_)
      refine ⟨⟨⟨r.k + 1, _⟩, ⟨hk, hN⟩⟩, Nat.sub_lt_sub_left hk (Nat.lt_succ_self _), ?_⟩
      repeat' (first | exact trivial | exact rfl | refine ⟨?_, ?_⟩ | refine ⟨?_, ?_, ?_⟩)
    · have b3 : (!(old.any fun x => x == next[r.k])) = false := b2
      have hN : r.acc = (newIds old (next.take (r.k + 1))).map it := by rw [j2, newIds, newIds, flt_no hk b2]
      refine run ?_
      refine Idx.map hk rfl ?_
      refine run ?_; repeat ((apply call_ok; first | exact (c)); refine run ?_)
      refine ⟨⟨⟨r.k + 1, _⟩, ⟨hk, hN⟩⟩, Nat.sub_lt_sub_left hk (Nat.lt_succ_self _), ?_⟩
      repeat' (first | exact trivial | exact rfl | refine ⟨?_, ?_⟩ | refine ⟨?_, ?_, ?_⟩)
  have b1 : decide ((r.k : Int) < ((next.map encN).length : Nat)) = false := by simp; omega
  rw [List.take_of_length_le (by omega)] at j2
  have hn : (newIds old next).length ≤ next.length := by
    rw [newIds, List.length_map]; exact List.length_filter_le _ _
  have s1 : (newIds old next).length < 2^62 := by omega
  have s2 : ((newIds old next).mergeSort fun x y => decide (x ≤ y)).length < 2^62 := by rw [List.length_mergeSort]; exact s1
  rw [j2]
  refine run ?_; repeat ((apply call_ok; first | exact (sort_ok _ s1) | exact (compact_ok _ s2)); refine run ?_)
  exact Done.mk rfl rfl
def rpS (old : List Ne) (a : List Int) (n : Ne) : List Int := if newN old n then addI a n.id else a
def rreop (old next : List Ne) : List Int := next.foldl (rpS old) []
structure CB where
  k : Nat
  b : Bool
theorem rpS_SI (old : List Ne) : ∀ (l : List Ne) {a : List Int}, SI a → SI (l.foldl (rpS old) a) ∧ ∀ x, x ∈ l.foldl (rpS old) a ↔ x ∈ a ∨ ∃ s ∈ l, newN old s = true ∧ s.id = x
  | [], a, h => ⟨h, fun x => by simp⟩
  | s :: l, a, h => by
    rw [List.foldl_cons]
    cases e : newN old s with
    | true =>
      have e' : rpS old a s = addI a s.id := if_pos e
      obtain ⟨h1, h2⟩ := rpS_SI old l (addI_SI h s.id)
      rw [e']
      refine ⟨h1, fun x => ?_⟩
      rw [h2, addI_mem h]
      constructor
      · rintro ((e1 | e1) | ⟨t, ht, e1⟩)
        · exact .inr ⟨s, by simp, e, e1.symm⟩
        · exact .inl e1
        · exact .inr ⟨t, by simp [ht], e1⟩
      · rintro (e1 | ⟨t, ht, e1, e2⟩)
        · exact .inl (.inr e1)
        · rcases List.mem_cons.1 ht with rfl | ht
          · exact .inl (.inl e2.symm)
          · exact .inr ⟨t, ht, e1, e2⟩
    | false =>
      have e' : rpS old a s = a := if_neg (by rw [e]; simp)
      obtain ⟨h1, h2⟩ := rpS_SI old l h
      rw [e']
      refine ⟨h1, fun x => ?_⟩
      rw [h2]
      constructor
      · rintro (e1 | ⟨t, ht, e1⟩)
        · exact .inl e1
        · exact .inr ⟨t, by simp [ht], e1⟩
      · rintro (e1 | ⟨t, ht, e1, e2⟩)
        · exact .inl e1
        · rcases List.mem_cons.1 ht with rfl | ht
          · rw [e] at e1; cases e1
          · exact .inr ⟨t, ht, e1, e2⟩
theorem reop_eq (old next : List Ne) : dreop old next = rreop old next := by
  have h1 := sortC_SI (newIds old next)
  have h2 := rpS_SI old next (a := []) List.Pairwise.nil
  refine SI.uniq h1.1 h2.1 fun x => ?_
  refine (h1.2 x).trans (Iff.trans ?_ (h2.2 x).symm)
  simp only [newIds, List.mem_map, List.mem_filter, List.not_mem_nil, false_or]
  constructor
  · rintro ⟨y, ⟨hy, e⟩, e2⟩; exact ⟨y, hy, e, e2⟩
  · rintro ⟨y, hy, e, e2⟩; exact ⟨y, ⟨hy, e⟩, e2⟩
end Abs
namespace Abs
open Go Go.Proofs
set_option maxRecDepth 100000
set_option maxHeartbeats 4000000
def wHeads (p : Pg) : Pg := ⟨p.d, p.defs.map headOf, p.defs, p.threads⟩
theorem withHeads_ok (p : Pg) (h : p.defs.length < 2^30) : CallsA Tryz.prog 22 [encP p] ct0 (encP (wHeads p)) ct0 := by
  have h55 := fun d => head_ok d
  refine fn_ok hm Tryz.func22 (fun _ => false) [] (fun _ => []) (by kernel_rfl) ?_
  refine run ?_
  refine LoopS.mk ⟨[.cell 1 7 20003], HeadS.lp (fun r : CR => r.k ≤ p.defs.length ∧ r.acc = ((p.defs.take r.k).map headOf).map encH) (fun r => ⟨[(3, it r.k)], [(1, .agg (cDc p.d ++ [.ref 20003 r.acc.length, lst 12 encD p.defs, ints p.threads]))], [(20003, ⟨5, true, r.acc⟩)]⟩) (fun r => p.defs.length - r.k) ⟨0, []⟩ ⟨Nat.zero_le _, rfl⟩ ?_⟩
  intro r hJ
  have h1 := hJ.1
  have h2 := hJ.2
  have hlen : r.acc.length = r.k := by rw [h2, List.length_map, List.length_map, List.length_take]; omega
  by_cases hk : r.k < p.defs.length
  · have b1 : decide ((r.k : Int) < ((p.defs.map encD).length : Nat)) = true := by simp; exact hk
    have hc := head_ok p.defs[r.k]
    have hN : r.acc ++ [encH (headOf p.defs[r.k])] = ((p.defs.take (r.k + 1)).map headOf).map encH := by rw [h2, map_take hk, List.map_append]; rfl
    refine run ?_
    refine Idx.map hk rfl ?_
    refine run ?_; repeat ((apply call_ok; first | exact (hc)); refine run ?_)
    refine ⟨⟨⟨r.k + 1, _⟩, ⟨hk, hN⟩⟩, Nat.sub_lt_sub_left hk (Nat.lt_succ_self _), ?_⟩
    repeat' (first | exact trivial | exact rfl | refine ⟨?_, ?_⟩ | refine ⟨?_, ?_, ?_⟩)
  · have b1 : decide ((r.k : Int) < ((p.defs.map encD).length : Nat)) = false := by simp; omega
    have e : r.acc = (p.defs.map headOf).map encH := by rw [h2, List.take_of_length_le (by omega)]
    refine run ?_
    exact Done.mk (congrArg (fun x => Dat.agg (cDc p.d ++ [.sl 5 x false, lst 12 encD p.defs, ints p.threads])) e) rfl
def spareD (id n : Int) : Df := ⟨id, 5000 + 10 * id, [115, 112, 97, 114, 101], 0, 0, [], [], 0, 0, [], 5, [.mk (5001 + 10 * id) 24 0 0 0 (.mk 1 0 n []) (.mk 0 0 0 []) (.mk 0 [] []) [] [] [] []]⟩
theorem spare_ok (id n : Int) (h : 0 ≤ id ∧ id < 1000) : CallsA Tryz.prog 69 [it id, it n] ct0 (encD (spareD id n)) ct0 := by
  have hn := num_ok n
  refine fn_ok hm Tryz.func69 (fun _ => false) [] (fun _ => []) (by kernel_rfl) ?_
  refine run ?_; repeat ((apply call_ok; first | exact (hn)); refine run ?_)
  exact Done.mk rfl rfl
def insD (l : List Df) (x : Df) : List Df := (l.takeWhile fun d => decide (d.id < x.id)) ++ [x] ++ l.filter fun d => decide (d.id > x.id)
def sortP (p : Pg) (l : List Df) (x : Df) : Pg := wHeads ⟨p.d, p.heads, insD l x, p.threads⟩
theorem nth_ins {l : List Df} {k : Nat} (x : Df) (h : k < l.length) : nth ((l ++ [x]).map encD) ((k : Int)).toNat = some (encD l[k]) := by
  rw [show ((k : Int)).toNat = k from rfl, nth_map, nth_get (by rw [List.length_append]; omega), List.getElem_append_left h]; rfl
theorem nth_last (l : List Df) (x : Df) : nth ((l ++ [x]).map encD) ((((l ++ [x]).map encD).length : Int) - 1).toNat = some (encD x) := by
  rw [show ((((l ++ [x]).map encD).length : Int) - 1).toNat = l.length by simp, nth_map, nth_get (by simp)]; simp
theorem sorted_ok (p : Pg) (l : List Df) (x : Df) (hp : p.defs = l ++ [x]) (hl : l.length < 2^28) : CallsA Tryz.prog 73 [encP p] ct0 (encP (sortP p l x)) ct0 := by
  have hil : (insD l x).length < 2^30 := by
    have h1 := (List.takeWhile_sublist (l := l) fun d => decide (d.id < x.id)).length_le
    have h2 := List.length_filter_le (fun d => decide (d.id > x.id)) l
    simp only [insD, List.length_append, List.length_singleton]; omega
  have hw0 := withHeads_ok ⟨p.d, p.heads, insD l x, p.threads⟩ hil
  have hw : CallsA Tryz.prog 22 [.agg (cDc p.d ++ [lst 5 encH p.heads, .sl 12 ((insD l x).map encD) false, ints p.threads])] ct0 (encP (sortP p l x)) ct0 := hw0
  have hpe : encP p = .agg (cDc p.d ++ [lst 5 encH p.heads, .sl 12 ((l ++ [x]).map encD) false, ints p.threads]) := by rw [← hp]; rfl
  rw [hpe]
  have hll : ((l ++ [x]).map encD).length = l.length + 1 := by simp
  have hlast := nth_last l x
  refine fn_ok hm Tryz.func73 (fun _ => false) [] (fun _ => []) (by kernel_rfl) ?_
  refine run ?_
  refine Idx.at rfl (by omega) hlast ?_
  refine run ?_
  refine LoopS.mk ⟨[], HeadS.lp (fun r : CR => r.k ≤ l.length ∧ r.acc = (l.take r.k).map encD ∧ (l.takeWhile fun d => decide (d.id < x.id)) = l.take r.k ++ (l.drop r.k).takeWhile fun d => decide (d.id < x.id)) (fun r => ⟨[(6, it r.k), (5, .ref 17 r.acc.length)], [], [(17, ⟨12, true, r.acc⟩)]⟩) (fun r => l.length - r.k) ⟨0, []⟩ ⟨Nat.zero_le _, by simp, by simp⟩ ?_⟩
  intro r hJ
  have h1 := hJ.1
  have h2 := hJ.2.1
  have h3 := hJ.2.2
  by_cases hk : r.k < l.length
  · have b1 : decide ((r.k : Int) < ((l ++ [x]).map encD).length - 1) = true := by simp; exact hk
    have hi := nth_ins x hk
    refine (Bool.eq_false_or_eq_true (decide (l[r.k].id < x.id))).elim (fun b2 => ?_) (fun b2 => ?_)
    · have hN : r.acc ++ [encD l[r.k]] = (l.take (r.k + 1)).map encD := by rw [h2, take_one hk, List.map_append]; rfl
      have hT : (l.takeWhile fun d => decide (d.id < x.id)) = l.take (r.k + 1) ++ (l.drop (r.k + 1)).takeWhile fun d => decide (d.id < x.id) := by
        rw [h3, tw_yes hk b2, take_one hk, List.append_assoc]; rfl
      have hlen : r.acc.length = r.k := by rw [h2, List.length_map, List.length_take]; omega
      refine run ?_
      refine Idx.at rfl (by omega) hi ?_
      refine run ?_
      refine Idx.at rfl (by omega) hi ?_
      refine run ?_
      refine ⟨⟨⟨r.k + 1, _⟩, ⟨hk, hN, hT⟩⟩, Nat.sub_lt_sub_left hk (Nat.lt_succ_self _), ?_⟩
      repeat' (first | exact trivial | exact rfl | refine ⟨?_, ?_⟩ | refine ⟨?_, ?_, ?_⟩)
    · have hA : r.acc = (l.takeWhile fun d => decide (d.id < x.id)).map encD := by rw [h3, tw_no hk b2, h2]; simp
      refine run ?_
      refine Idx.at rfl (by omega) hi ?_
      have hlen1 : r.acc.length ≤ l.length := by rw [hA, List.length_map]; exact (List.takeWhile_sublist _).length_le
      refine run ?_
      refine LoopS.mk ⟨[], HeadS.lp (fun q : CR => q.k ≤ l.length ∧ q.acc = (r.acc ++ [encD x]) ++ ((l.take q.k).filter fun d => decide (d.id > x.id)).map encD) (fun q => ⟨[(7, it q.k), (5, .ref 17 q.acc.length)], [], [(17, ⟨12, true, q.acc⟩)]⟩) (fun q => l.length - q.k) ⟨0, r.acc ++ [encD x]⟩ ⟨Nat.zero_le _, by simp⟩ ?_⟩
      intro q hq
      have g1 := hq.1
      have g2 := hq.2
      have hle := flt_le (p := fun d => decide (d.id > x.id)) (l := l) q.k
      have glen : q.acc.length = r.acc.length + 1 + ((l.take q.k).filter fun d => decide (d.id > x.id)).length := by rw [g2]; simp; omega
      by_cases gk : q.k < l.length
      · have c1 : decide ((q.k : Int) < ((l ++ [x]).map encD).length - 1) = true := by simp; exact gk
        have hi := nth_ins x gk
        refine (Bool.eq_false_or_eq_true (decide (l[q.k].id > x.id))).elim (fun c2 => ?_) (fun c2 => ?_)
        · have gN : q.acc ++ [encD l[q.k]] = (r.acc ++ [encD x]) ++ ((l.take (q.k + 1)).filter fun d => decide (d.id > x.id)).map encD := by rw [g2, flt_yes gk c2, List.map_append, ← List.append_assoc]; rfl
          refine run ?_
          refine Idx.at rfl (by omega) hi ?_
          refine run ?_
          refine Idx.at rfl (by omega) hi ?_
          refine run ?_
          refine ⟨⟨⟨q.k + 1, _⟩, ⟨gk, gN⟩⟩, Nat.sub_lt_sub_left gk (Nat.lt_succ_self _), ?_⟩
          repeat' (first | exact trivial | exact rfl | refine ⟨?_, ?_⟩ | refine ⟨?_, ?_, ?_⟩)
        · have gN : q.acc = (r.acc ++ [encD x]) ++ ((l.take (q.k + 1)).filter fun d => decide (d.id > x.id)).map encD := by rw [g2, flt_no gk c2]
          refine run ?_
          refine Idx.at rfl (by omega) hi ?_
          refine run ?_
          refine ⟨⟨⟨q.k + 1, _⟩, ⟨gk, gN⟩⟩, Nat.sub_lt_sub_left gk (Nat.lt_succ_self _), ?_⟩
          repeat' (first | exact trivial | exact rfl | refine ⟨?_, ?_⟩ | refine ⟨?_, ?_, ?_⟩)
      have c1 : decide ((q.k : Int) < ((l ++ [x]).map encD).length - 1) = false := by simp; omega
      have e : q.acc = (insD l x).map encD := by rw [g2, hA, List.take_of_length_le (by omega)]; simp [insD]
      rw [← e] at hw
      refine run ?_; repeat ((apply call_ok; first | exact (hw)); refine run ?_)
      exact Done.mk rfl rfl
  have b1 : decide ((r.k : Int) < ((l ++ [x]).map encD).length - 1) = false := by simp; omega
  have hA : r.acc = (l.takeWhile fun d => decide (d.id < x.id)).map encD := by rw [h3, List.drop_eq_nil_of_le (by omega), h2]; simp
  have hlen1 : r.acc.length ≤ l.length := by rw [hA, List.length_map]; exact (List.takeWhile_sublist _).length_le
  refine run ?_
  refine LoopS.mk ⟨[], HeadS.lp (fun q : CR => q.k ≤ l.length ∧ q.acc = (r.acc ++ [encD x]) ++ ((l.take q.k).filter fun d => decide (d.id > x.id)).map encD) (fun q => ⟨[(7, it q.k), (5, .ref 17 q.acc.length)], [], [(17, ⟨12, true, q.acc⟩)]⟩) (fun q => l.length - q.k) ⟨0, r.acc ++ [encD x]⟩ ⟨Nat.zero_le _, by simp⟩ ?_⟩
  intro q hq
  have g1 := hq.1
  have g2 := hq.2
  have hle := flt_le (p := fun d => decide (d.id > x.id)) (l := l) q.k
  have glen : q.acc.length = r.acc.length + 1 + ((l.take q.k).filter fun d => decide (d.id > x.id)).length := by rw [g2]; simp; omega
  by_cases gk : q.k < l.length
  · have c1 : decide ((q.k : Int) < ((l ++ [x]).map encD).length - 1) = true := by simp; exact gk
    have hi := nth_ins x gk
    refine (Bool.eq_false_or_eq_true (decide (l[q.k].id > x.id))).elim (fun c2 => ?_) (fun c2 => ?_)
    · have gN : q.acc ++ [encD l[q.k]] = (r.acc ++ [encD x]) ++ ((l.take (q.k + 1)).filter fun d => decide (d.id > x.id)).map encD := by rw [g2, flt_yes gk c2, List.map_append, ← List.append_assoc]; rfl
      refine run ?_
      refine Idx.at rfl (by omega) hi ?_
      refine run ?_
      refine Idx.at rfl (by omega) hi ?_
      refine run ?_
      refine ⟨⟨⟨q.k + 1, _⟩, ⟨gk, gN⟩⟩, Nat.sub_lt_sub_left gk (Nat.lt_succ_self _), ?_⟩
      repeat' (first | exact trivial | exact rfl | refine ⟨?_, ?_⟩ | refine ⟨?_, ?_, ?_⟩)
    · have gN : q.acc = (r.acc ++ [encD x]) ++ ((l.take (q.k + 1)).filter fun d => decide (d.id > x.id)).map encD := by rw [g2, flt_no gk c2]
      refine run ?_
      refine Idx.at rfl (by omega) hi ?_
      refine run ?_
      refine ⟨⟨⟨q.k + 1, _⟩, ⟨gk, gN⟩⟩, Nat.sub_lt_sub_left gk (Nat.lt_succ_self _), ?_⟩
      repeat' (first | exact trivial | exact rfl | refine ⟨?_, ?_⟩ | refine ⟨?_, ?_, ?_⟩)
  have c1 : decide ((q.k : Int) < ((l ++ [x]).map encD).length - 1) = false := by simp; omega
  have e : q.acc = (insD l x).map encD := by rw [g2, hA, List.take_of_length_le (by omega)]; simp [insD]
  rw [← e] at hw
  refine run ?_; repeat ((apply call_ok; first | exact (hw)); refine run ?_)
  exact Done.mk rfl rfl
end Abs
namespace Abs
open Go Go.Proofs
set_option maxRecDepth 100000
set_option maxHeartbeats 4000000
def wrp (v : Int) : Int := if v.tmod 4294967296 < -2147483648 then v.tmod 4294967296 + 4294967296 else if v.tmod 4294967296 > 2147483647 then v.tmod 4294967296 - 4294967296 else v.tmod 4294967296
theorem tmod_bd (v : Int) : -4294967296 < v.tmod 4294967296 ∧ v.tmod 4294967296 < 4294967296 := by
  refine ⟨?_, Int.tmod_lt_of_pos _ (by omega)⟩
  exact Int.lt_tmod_of_pos _ (by omega)
theorem wrp_bd (v : Int) : -2147483648 ≤ wrp v ∧ wrp v ≤ 2147483647 := by
  have := tmod_bd v
  unfold wrp; split
  · omega
  · split <;> omega
theorem wrap_ok (v : Int) : CallsA Tryz.prog 111 [it v] ct0 (it (wrp v)) ct0 := by
  have hb := tmod_bd v
  have ht : ∃ t, t = v.tmod 4294967296 := ⟨_, rfl⟩
  refine ht.elim fun t ht => ?_
  unfold wrp
  rw [← ht] at hb ⊢
  refine (Bool.eq_false_or_eq_true (decide (v.tmod 4294967296 < -2147483648))).elim (fun b1 => ?_) (fun b1 => ?_)
  · rw [if_pos (by rw [ht]; exact of_decide_eq_true b1), ht]
    rw [ht] at hb
    refine fn_ok hm Tryz.func111 (fun _ => false) [] (fun _ => []) (by kernel_rfl) ?_
    refine run ?_
    exact Done.mk rfl rfl
  · rw [if_neg (by rw [ht]; exact of_decide_eq_false b1)]
    refine (Bool.eq_false_or_eq_true (decide (v.tmod 4294967296 > 2147483647))).elim (fun b2 => ?_) (fun b2 => ?_)
    · rw [if_pos (by rw [ht]; exact of_decide_eq_true b2), ht]
      rw [ht] at hb
      refine fn_ok hm Tryz.func111 (fun _ => false) [] (fun _ => []) (by kernel_rfl) ?_
      refine run ?_
      exact Done.mk rfl rfl
    · rw [if_neg (by rw [ht]; exact of_decide_eq_false b2), ht]
      refine fn_ok hm Tryz.func111 (fun _ => false) [] (fun _ => []) (by kernel_rfl) ?_
      refine run ?_
      exact Done.mk rfl rfl
def opA (op a b : Int) : Int :=
  if op == 4 then wrp (a + b) else if op == 5 then wrp (a - b) else if op == 6 then wrp (a * b) else
  if op == 7 then (if b == 0 then 0 else wrp (IntKind.i64.wrap (a.tdiv b))) else
  if op == 8 then (if b == 0 then a else a.tmod b) else
  if op == 9 then (if b < a then b else a) else if op == 10 then (if b > a then b else a) else 0
def opR (op a b : Int) : Int := opA op (wrp a) (wrp b)
theorem mul_bd {a b : Int} (ha : -2147483648 ≤ a ∧ a ≤ 2147483647) (hb : -2147483648 ≤ b ∧ b ≤ 2147483647) : -(2^63) ≤ a * b ∧ a * b < 2^63 := by
  have h1 : a.natAbs ≤ 2147483648 := by omega
  have h2 : b.natAbs ≤ 2147483648 := by omega
  have h3 : (a * b).natAbs ≤ 2147483648 * 2147483648 := by rw [Int.natAbs_mul]; exact Nat.mul_le_mul h1 h2
  omega
theorem op_ok (op x y : Int) : CallsA Tryz.prog 67 [it op, it x, it y] ct0 (it (opR op x y)) ct0 := by
  have w1 := wrap_ok x
  have w2 := wrap_ok y
  have ba := wrp_bd x
  have bb := wrp_bd y
  unfold opR
  have hA : ∃ a, a = wrp x := ⟨_, rfl⟩
  refine hA.elim fun a hA => ?_
  have hB : ∃ b, b = wrp y := ⟨_, rfl⟩
  refine hB.elim fun b hB => ?_
  rw [← hA] at w1 ba ⊢
  rw [← hB] at w2 bb ⊢
  have w3 := wrap_ok (a + b)
  have w4 := wrap_ok (a - b)
  have w5 := wrap_ok (a * b)
  have w6 := wrap_ok (IntKind.i64.wrap (a.tdiv b))
  have mb := mul_bd ba bb
  have mb1 := mb.1
  have mb2 := mb.2
  refine (Bool.eq_false_or_eq_true (op == 4)).elim (fun o4 => ?_) (fun o4 => ?_)
  · unfold opA
    rw [if_pos o4]
    refine fn_ok hm Tryz.func67 (fun _ => false) [] (fun _ => []) (by kernel_rfl) ?_
    refine run ?_; repeat ((apply call_ok; first | exact (w1) | exact (w2) | exact (w3) | exact (w4) | exact (w5) | exact (w6)); refine run ?_)
    exact Done.mk rfl rfl
  refine (Bool.eq_false_or_eq_true (op == 5)).elim (fun o5 => ?_) (fun o5 => ?_)
  · unfold opA
    rw [if_neg (by rw [o4]; simp)]; rw [if_pos o5]
    refine fn_ok hm Tryz.func67 (fun _ => false) [] (fun _ => []) (by kernel_rfl) ?_
    refine run ?_; repeat ((apply call_ok; first | exact (w1) | exact (w2) | exact (w3) | exact (w4) | exact (w5) | exact (w6)); refine run ?_)
    exact Done.mk rfl rfl
  refine (Bool.eq_false_or_eq_true (op == 6)).elim (fun o6 => ?_) (fun o6 => ?_)
  · unfold opA
    rw [if_neg (by rw [o4]; simp)]; rw [if_neg (by rw [o5]; simp)]; rw [if_pos o6]
    refine fn_ok hm Tryz.func67 (fun _ => false) [] (fun _ => []) (by kernel_rfl) ?_
    refine run ?_; repeat ((apply call_ok; first | exact (w1) | exact (w2) | exact (w3) | exact (w4) | exact (w5) | exact (w6)); refine run ?_)
    exact Done.mk rfl rfl
  refine (Bool.eq_false_or_eq_true (op == 7)).elim (fun o7 => ?_) (fun o7 => ?_)
  · unfold opA
    rw [if_neg (by rw [o4]; simp)]; rw [if_neg (by rw [o5]; simp)]; rw [if_neg (by rw [o6]; simp)]; rw [if_pos o7]
    refine (Bool.eq_false_or_eq_true (b == 0)).elim (fun z => ?_) (fun z => ?_)
    · have n0 : (!(b == 0)) = false := by rw [z]; rfl
      rw [if_pos z]
      refine fn_ok hm Tryz.func67 (fun _ => false) [] (fun _ => []) (by kernel_rfl) ?_
      refine run ?_; repeat ((apply call_ok; first | exact (w1) | exact (w2) | exact (w3) | exact (w4) | exact (w5) | exact (w6)); refine run ?_)
      exact Done.mk rfl rfl
    · have n0 : (!(b == 0)) = true := by rw [z]; rfl
      have n1 : b ≠ 0 := by simpa using z
      rw [if_neg (by rw [z]; simp)]
      refine fn_ok hm Tryz.func67 (fun _ => false) [] (fun _ => []) (by kernel_rfl) ?_
      refine run ?_; repeat ((apply call_ok; first | exact (w1) | exact (w2) | exact (w3) | exact (w4) | exact (w5) | exact (w6)); refine run ?_)
      exact Done.mk rfl rfl
  refine (Bool.eq_false_or_eq_true (op == 8)).elim (fun o8 => ?_) (fun o8 => ?_)
  · unfold opA
    rw [if_neg (by rw [o4]; simp)]; rw [if_neg (by rw [o5]; simp)]; rw [if_neg (by rw [o6]; simp)]; rw [if_neg (by rw [o7]; simp)]; rw [if_pos o8]
    refine (Bool.eq_false_or_eq_true (b == 0)).elim (fun z => ?_) (fun z => ?_)
    · have n0 : (!(b == 0)) = false := by rw [z]; rfl
      rw [if_pos z]
      refine fn_ok hm Tryz.func67 (fun _ => false) [] (fun _ => []) (by kernel_rfl) ?_
      refine run ?_; repeat ((apply call_ok; first | exact (w1) | exact (w2) | exact (w3) | exact (w4) | exact (w5) | exact (w6)); refine run ?_)
      exact Done.mk rfl rfl
    · have n0 : (!(b == 0)) = true := by rw [z]; rfl
      have n1 : b ≠ 0 := by simpa using z
      rw [if_neg (by rw [z]; simp)]
      refine fn_ok hm Tryz.func67 (fun _ => false) [] (fun _ => []) (by kernel_rfl) ?_
      refine run ?_; repeat ((apply call_ok; first | exact (w1) | exact (w2) | exact (w3) | exact (w4) | exact (w5) | exact (w6)); refine run ?_)
      exact Done.mk rfl rfl
  refine (Bool.eq_false_or_eq_true (op == 9)).elim (fun o9 => ?_) (fun o9 => ?_)
  · unfold opA
    rw [if_neg (by rw [o4]; simp)]; rw [if_neg (by rw [o5]; simp)]; rw [if_neg (by rw [o6]; simp)]; rw [if_neg (by rw [o7]; simp)]; rw [if_neg (by rw [o8]; simp)]; rw [if_pos o9]
    refine fn_ok hm Tryz.func67 (fun _ => false) [] (fun _ => []) (by kernel_rfl) ?_
    refine run ?_; repeat ((apply call_ok; first | exact (w1) | exact (w2) | exact (w3) | exact (w4) | exact (w5) | exact (w6)); refine run ?_)
    exact Done.mk rfl rfl
  refine (Bool.eq_false_or_eq_true (op == 10)).elim (fun o10 => ?_) (fun o10 => ?_)
  · unfold opA
    rw [if_neg (by rw [o4]; simp)]; rw [if_neg (by rw [o5]; simp)]; rw [if_neg (by rw [o6]; simp)]; rw [if_neg (by rw [o7]; simp)]; rw [if_neg (by rw [o8]; simp)]; rw [if_neg (by rw [o9]; simp)]; rw [if_pos o10]
    refine fn_ok hm Tryz.func67 (fun _ => false) [] (fun _ => []) (by kernel_rfl) ?_
    refine run ?_; repeat ((apply call_ok; first | exact (w1) | exact (w2) | exact (w3) | exact (w4) | exact (w5) | exact (w6)); refine run ?_)
    exact Done.mk rfl rfl
  unfold opA
  rw [if_neg (by rw [o4]; simp)]; rw [if_neg (by rw [o5]; simp)]; rw [if_neg (by rw [o6]; simp)]; rw [if_neg (by rw [o7]; simp)]; rw [if_neg (by rw [o8]; simp)]; rw [if_neg (by rw [o9]; simp)]; rw [if_neg (by rw [o10]; simp)]
  refine fn_ok hm Tryz.func67 (fun _ => false) [] (fun _ => []) (by kernel_rfl) ?_
  refine run ?_; repeat ((apply call_ok; first | exact (w1) | exact (w2) | exact (w3) | exact (w4) | exact (w5) | exact (w6)); refine run ?_)
  exact Done.mk rfl rfl
end Abs
namespace Abs
open Go Go.Proofs
set_option maxRecDepth 100000
set_option maxHeartbeats 4000000
structure Rw where
  op : Int
  a : Int
  b : Int
  n : Int
  m : Int
  lo : Int
  hi : Int
  id : Int
  sharp : Int
def i16 (n : Int) : Dat := .int .i16 n
def encRw (x : Rw) : Dat := .agg [u8 x.op, u8 x.a, u8 x.b, u8 x.n, u8 x.m, i16 x.lo, i16 x.hi, u8 x.id, u8 x.sharp]
structure RwOk (x : Rw) : Prop where
  op : 0 ≤ x.op ∧ x.op < 256
  a : 0 ≤ x.a ∧ x.a < 256
  b : 0 ≤ x.b ∧ x.b < 256
  n : 0 ≤ x.n ∧ x.n < 256
  m : 0 ≤ x.m ∧ x.m < 256
  lo : -32768 ≤ x.lo ∧ x.lo < 32768
  hi : -32768 ≤ x.hi ∧ x.hi < 32768
  id : 0 ≤ x.id ∧ x.id < 256
  sharp : 0 ≤ x.sharp ∧ x.sharp < 256
structure LH where
  lo : Int
  hi : Int
def stB (op a b0 : Int) (s : LH) (j : Nat) : LH := ⟨if opR op a (b0 + j) < s.lo then opR op a (b0 + j) else s.lo, if opR op a (b0 + j) > s.hi then opR op a (b0 + j) else s.hi⟩
def rowB (op b0 : Int) (nb : Nat) (a0 : Int) (s : LH) (i : Nat) : LH := (List.range nb).foldl (stB op (a0 + i) b0) s
def allB (op a0 b0 : Int) (na nb : Nat) (s : LH) : LH := (List.range na).foldl (rowB op b0 nb a0) s
theorem range_fold {β : Type} {f : β → Nat → β} {z : β} {k : Nat} : (List.range (k+1)).foldl f z = f ((List.range k).foldl f z) k := by
  rw [List.range_succ, List.foldl_append]; rfl
def ru0 (x : Rw) : Ru := ⟨1 + x.id.tmod 20, 1 + x.sharp.tmod 4, x.id.tmod 3, 4 + x.op.tmod 7, x.a - 20, x.a - 20 + x.n.tmod 40, x.b - 20, x.b - 20 + x.m.tmod 40, if x.hi < x.lo then x.hi else x.lo, if x.hi > x.lo then x.hi else x.lo⟩
def lhOf (x : Rw) : LH := allB (4 + x.op.tmod 7) (x.a - 20) (x.b - 20) (x.n.tmod 40 + 1).toNat (x.m.tmod 40 + 1).toNat ⟨opR (4 + x.op.tmod 7) (x.a - 20) (x.b - 20), opR (4 + x.op.tmod 7) (x.a - 20) (x.b - 20)⟩
def madeR (x : Rw) : Ru := if x.sharp.tmod 2 == 1 then ru0 x else { ru0 x with lo := (lhOf x).lo, hi := (lhOf x).hi }
theorem tm_bd {x : Int} (h : 0 ≤ x) (n : Int) (hn : 0 < n) : 0 ≤ x.tmod n ∧ x.tmod n < n := ⟨Int.tmod_nonneg _ h, Int.tmod_lt_of_pos _ hn⟩
structure AB where
  k : Nat
  v : Int
  s : LH
theorem madeR_ok (x : Rw) (h : RwOk x) : CallsA Tryz.prog 27 [encRw x] ct0 (encRu (madeR x)) ct0 := by
  have t1 := tm_bd h.id.1 20 (by omega)
  have t2 := tm_bd h.sharp.1 4 (by omega)
  have t3 := tm_bd h.id.1 3 (by omega)
  have t4 := tm_bd h.op.1 7 (by omega)
  have t5 := tm_bd h.n.1 40 (by omega)
  have t6 := tm_bd h.m.1 40 (by omega)
  have ba := h.a
  have bb := h.b
  have bl := h.lo
  have bh := h.hi
  refine (Bool.eq_false_or_eq_true (x.sharp.tmod 2 == 1)).elim (fun b1 => ?_) (fun b1 => ?_)
  · have e : madeR x = ru0 x := if_pos b1
    rw [e]
    refine fn_ok hm Tryz.func27 (fun _ => false) [] (fun _ => []) (by kernel_rfl) ?_
    refine run ?_
    exact Done.mk rfl rfl
  · have e : madeR x = { ru0 x with lo := (lhOf x).lo, hi := (lhOf x).hi } := if_neg (by rw [b1]; simp)
    have hN : ∃ na : Nat, (na : Int) = x.n.tmod 40 + 1 := ⟨(x.n.tmod 40 + 1).toNat, by omega⟩
    refine hN.elim fun na hna => ?_
    have hM : ∃ nb : Nat, (nb : Int) = x.m.tmod 40 + 1 := ⟨(x.m.tmod 40 + 1).toNat, by omega⟩
    refine hM.elim fun nb hnb => ?_
    have hZ : ∃ Z, Z = lhOf x := ⟨_, rfl⟩
    refine hZ.elim fun Z hZ => ?_
    rw [e, ← hZ]
    have hZ' : Z = allB (4 + x.op.tmod 7) (x.a - 20) (x.b - 20) na nb ⟨opR (4 + x.op.tmod 7) (x.a - 20) (x.b - 20), opR (4 + x.op.tmod 7) (x.a - 20) (x.b - 20)⟩ := by
      rw [hZ, lhOf, ← hna, ← hnb]; rfl
    have c0 := op_ok (4 + x.op.tmod 7) (x.a - 20) (x.b - 20)
    refine fn_ok hm Tryz.func27 (fun _ => false) [] (fun _ => []) (by kernel_rfl) ?_
    refine run ?_; repeat ((apply call_ok; first | exact (c0)); refine run ?_)
    refine LoopS.mk ⟨[], HeadS.lp (fun r : AB => r.k ≤ na ∧ r.v = x.a - 20 + (r.k : Int) ∧ r.s = allB (4 + x.op.tmod 7) (x.a - 20) (x.b - 20) r.k nb ⟨opR (4 + x.op.tmod 7) (x.a - 20) (x.b - 20), opR (4 + x.op.tmod 7) (x.a - 20) (x.b - 20)⟩) (fun r => ⟨[(4, it r.v)], [(3, encRu { ru0 x with lo := r.s.lo, hi := r.s.hi })], []⟩) (fun r => na - r.k) ⟨0, x.a - 20, ⟨opR (4 + x.op.tmod 7) (x.a - 20) (x.b - 20), opR (4 + x.op.tmod 7) (x.a - 20) (x.b - 20)⟩⟩ ⟨Nat.zero_le _, by simp, rfl⟩ ?_⟩
    intro r hJ
    have h1 := hJ.1
    have h0 := hJ.2.1
    have h2 := hJ.2.2
    by_cases hk : r.k < na
    · have d1 : decide (r.v ≤ x.a - 20 + x.n.tmod 40) = true := by simp; omega
      refine run ?_
      refine LoopS.mk ⟨[], HeadS.lp (fun q : AB => q.k ≤ nb ∧ q.v = x.b - 20 + (q.k : Int) ∧ q.s = rowB (4 + x.op.tmod 7) (x.b - 20) q.k (x.a - 20) r.s r.k) (fun q => ⟨[(5, it q.v)], [(3, encRu { ru0 x with lo := q.s.lo, hi := q.s.hi })], []⟩) (fun q => nb - q.k) ⟨0, x.b - 20, r.s⟩ ⟨Nat.zero_le _, by simp, rfl⟩ ?_⟩
      intro q hq
      have g1 := hq.1
      have g0 := hq.2.1
      have g2 := hq.2.2
      by_cases gk : q.k < nb
      · have e1 : decide (q.v ≤ x.b - 20 + x.m.tmod 40) = true := by simp; omega
        have c1 := op_ok (4 + x.op.tmod 7) r.v q.v
        have gN : (⟨if opR (4 + x.op.tmod 7) r.v q.v < q.s.lo then opR (4 + x.op.tmod 7) r.v q.v else q.s.lo, if opR (4 + x.op.tmod 7) r.v q.v > q.s.hi then opR (4 + x.op.tmod 7) r.v q.v else q.s.hi⟩ : LH) = rowB (4 + x.op.tmod 7) (x.b - 20) (q.k + 1) (x.a - 20) r.s r.k := by
          unfold rowB; rw [range_fold]; unfold rowB at g2; rw [← g2, h0, g0]; rfl
        have gV : q.v + 1 = x.b - 20 + ((q.k + 1 : Nat) : Int) := by rw [g0]; omega
        refine run ?_; repeat ((apply call_ok; first | exact (c1)); refine run ?_)
        refine ⟨⟨⟨q.k + 1, x.b - 20 + ((q.k + 1 : Nat) : Int), _⟩, ⟨gk, rfl, gN⟩⟩, Nat.sub_lt_sub_left gk (Nat.lt_succ_self _), ?_⟩
        repeat' (first | exact trivial | exact rfl | refine ⟨?_, ?_⟩ | refine ⟨?_, ?_, ?_⟩)
      · have e1 : decide (q.v ≤ x.b - 20 + x.m.tmod 40) = false := by simp; omega
        have hN : q.s = allB (4 + x.op.tmod 7) (x.a - 20) (x.b - 20) (r.k + 1) nb ⟨opR (4 + x.op.tmod 7) (x.a - 20) (x.b - 20), opR (4 + x.op.tmod 7) (x.a - 20) (x.b - 20)⟩ := by
          unfold allB; rw [range_fold]; unfold allB at h2; rw [← h2, g2, show q.k = nb by omega]
        have hV : r.v + 1 = x.a - 20 + ((r.k + 1 : Nat) : Int) := by rw [h0]; omega
        refine run ?_
        refine ⟨⟨⟨r.k + 1, x.a - 20 + ((r.k + 1 : Nat) : Int), q.s⟩, ⟨hk, rfl, hN⟩⟩, Nat.sub_lt_sub_left hk (Nat.lt_succ_self _), ?_⟩
        repeat' (first | exact trivial | exact rfl | refine ⟨?_, ?_⟩ | refine ⟨?_, ?_, ?_⟩)
    · have d1 : decide (r.v ≤ x.a - 20 + x.n.tmod 40) = false := by simp; omega
      have ez : Z = r.s := by rw [hZ', h2, show r.k = na by omega]
      refine run ?_
      exact Done.mk (congrArg (fun s : LH => encRu { ru0 x with lo := s.lo, hi := s.hi }) ez.symm) rfl
end Abs
namespace Abs
open Go Go.Proofs
set_option maxRecDepth 100000
set_option maxHeartbeats 4000000
def zRu : Ru := ⟨0, 0, 0, 0, 0, 0, 0, 0, 0, 0⟩
def adR (a : List Int) (r : Ru) : List Int := addI a r.id
def idsR (l : List Ru) : List Int := l.foldl adR []
def pickR (l : List Ru) (c : Int) : List Ru := if (fnd (fun x : Ru => x.id == c) zRu l).2 then [(fnd (fun x : Ru => x.id == c) zRu l).1] else []
def ordR (l : List Ru) : List Ru := (idsR l).flatMap (pickR l)
theorem ids_len : ∀ (l : List Ru) (a : List Int), (l.foldl adR a).length ≤ a.length + l.length
  | [], a => by simp
  | s :: l, a => by
    have h1 := ids_len l (adR a s)
    have h2 : (adR a s).length ≤ a.length + 1 := addI_len _ _
    simp only [List.foldl_cons, List.length_cons]; omega
theorem pick_le (l : List Ru) : ∀ cs : List Int, (cs.flatMap (pickR l)).length ≤ cs.length
  | [] => by simp
  | c :: cs => by
    have h := pick_le l cs
    have h2 : (pickR l c).length ≤ 1 := by unfold pickR; split <;> simp
    rw [List.flatMap_cons, List.length_append, List.length_cons]; omega
theorem nope {b : Bool} {X : Prop} (h : b = true) (g : b = false) : X := by rw [h] at g; cases g
structure QR where
  k : Nat
  b : Bool
  acc : List Dat
theorem ordered_ok (l : List Ru) (hl : l.length < 2^28) : CallsA Tryz.prog 28 [lst 10 encRu l] ct0 (lst 10 encRu (ordR l)) ct0 := by
  by_cases hl0 : l.length = 0
  · have e : l = [] := List.eq_nil_of_length_eq_zero hl0
    subst e
    refine fn_ok hm Tryz.func28 (fun _ => false) [] (fun _ => []) (by kernel_rfl) ?_
    refine run ?_
    refine LoopS.mk ⟨[], HeadS.lp (fun _ : Unit => True) (fun _ => ⟨[(5, it 0), (3, .ref 9 0)], [], [(9, ⟨1, true, []⟩)]⟩) (fun _ => 0) () trivial ?_⟩
    intro r hJ
    have b1 : decide ((0 : Int) < (([] : List Ru).map encRu).length) = false := by simp
    refine run ?_
    refine LoopS.mk ⟨[], HeadS.lp (fun _ : Unit => True) (fun _ => ⟨[(6, it 0), (4, .ref 10 0)], [], [(10, ⟨10, true, []⟩)]⟩) (fun _ => 0) () trivial ?_⟩
    intro r hJ
    refine run ?_
    exact Done.mk rfl rfl
  refine fn_ok hm Tryz.func28 (fun _ => false) [] (fun _ => []) (by kernel_rfl) ?_
  refine run ?_
  refine LoopS.mk ⟨[], HeadS.of (fun i : CJ => match i with | .raw k => k = 0 | .got k a => k ≤ l.length ∧ (l.take k).foldl adR [] = a) (fun i => match i with | .raw k => ⟨[(5, it k), (3, .ref 9 0)], [], [(9, ⟨1, true, []⟩)]⟩ | .got k a => ⟨[(5, it k), (3, ints a)], [], [(9, ⟨1, false, []⟩)]⟩) (fun i => l.length - i.k) (.raw 0) rfl ?_ ?_ ?_ ?_ ?_⟩
  · repeat' (first | exact trivial | exact rfl | refine ⟨?_, ?_⟩ | refine ⟨?_, ?_, ?_⟩)
  · kernel_rfl
  · kernel_rfl
  · exact CJ.both (fun k => ⟨rfl, rfl, rfl⟩) (fun k a => ⟨rfl, rfl, rfl⟩)
  refine CJ.both (fun k => ?_) (fun k a => ?_)
  · intro hJ
    have hJ : k = 0 := hJ
    have h2 : (l.take k).foldl adR [] = ([] : List Int) := by rw [hJ]; rfl
    by_cases hk : k < l.length
    · have b1 : decide ((k : Int) < ((l.map encRu).length : Nat)) = true := by simp; omega
      have ht := fold_take (f := adR) (z := []) hk
      have hal := ids_len (l.take k) []
      have htl : (l.take k).length ≤ l.length := by rw [List.length_take]; omega
      rw [h2] at hal ht
      have hal : ([] : List Int).length ≤ 0 + (l.take k).length := hal
      have ha := added_ok ([] : List Int) l[k].id (by omega)
      refine run ?_
      refine Idx.map hk rfl ?_
      refine run ?_; repeat ((apply call_ok; first | exact (ha)); refine run ?_)
      refine ⟨⟨.got (k + 1) (addI ([] : List Int) l[k].id), ⟨hk, ht⟩⟩, Nat.sub_lt_sub_left hk (Nat.lt_succ_self _), ?_⟩
      repeat' (first | exact trivial | exact rfl | refine ⟨?_, ?_⟩ | refine ⟨?_, ?_, ?_⟩)
    · exact absurd (by omega : l.length = 0) hl0
  · intro hJ
    have h1 : k ≤ l.length := hJ.1
    have h2 : (l.take k).foldl adR [] = a := hJ.2
    by_cases hk : k < l.length
    · have b1 : decide ((k : Int) < ((l.map encRu).length : Nat)) = true := by simp; omega
      have ht := fold_take (f := adR) (z := []) hk
      have hal := ids_len (l.take k) []
      have htl : (l.take k).length ≤ l.length := by rw [List.length_take]; omega
      rw [h2] at hal ht
      have hal : a.length ≤ 0 + (l.take k).length := hal
      have ha := added_ok a l[k].id (by omega)
      refine run ?_
      refine Idx.map hk rfl ?_
      refine run ?_; repeat ((apply call_ok; first | exact (ha)); refine run ?_)
      refine ⟨⟨.got (k + 1) (addI a l[k].id), ⟨hk, ht⟩⟩, Nat.sub_lt_sub_left hk (Nat.lt_succ_self _), ?_⟩
      repeat' (first | exact trivial | exact rfl | refine ⟨?_, ?_⟩ | refine ⟨?_, ?_, ?_⟩)
    · have b1 : decide ((k : Int) < ((l.map encRu).length : Nat)) = false := by simp; omega
      have ha : a = idsR l := by rw [← h2, List.take_of_length_le (by omega), idsR]
      have hal : a.length ≤ l.length := by rw [ha]; have := ids_len l []; simpa [idsR] using this
      refine run ?_
      refine LoopS.mk ⟨[], HeadS.lp (fun r : CR => r.k ≤ a.length ∧ r.acc = ((a.take r.k).flatMap (pickR l)).map encRu) (fun r => ⟨[(6, it r.k), (4, .ref 10 r.acc.length)], [], [(10, ⟨10, true, r.acc⟩)]⟩) (fun r => a.length - r.k) ⟨0, []⟩ ⟨Nat.zero_le _, rfl⟩ ?_⟩
      intro r hr
      have r1 := hr.1
      have r2 := hr.2
      have rle := pick_le l (a.take r.k)
      rw [List.length_take] at rle
      have rlen : r.acc.length = ((a.take r.k).flatMap (pickR l)).length := by rw [r2, List.length_map]
      by_cases gk : r.k < a.length
      · have c1 : decide ((r.k : Int) < ((a.map it).length : Nat)) = true := by simp; exact gk
        refine run ?_
        refine LoopS.mk ⟨[], HeadS.lp (fun q : QR => q.k ≤ l.length ∧ (q.b = false → q.acc = r.acc ∧ fnd (fun x : Ru => x.id == a[r.k]) zRu l = fnd (fun x : Ru => x.id == a[r.k]) zRu (l.drop q.k)) ∧ (q.b = true → q.acc = r.acc ++ (pickR l a[r.k]).map encRu)) (fun q => ⟨[(8, it q.k), (7, bo q.b), (4, .ref 10 q.acc.length)], [], [(10, ⟨10, true, q.acc⟩)]⟩) (fun q => l.length - q.k) ⟨0, false, r.acc⟩ ⟨Nat.zero_le _, fun _ => ⟨rfl, rfl⟩, fun h => by cases h⟩ ?_⟩
        intro q hq
        have q1 := hq.1
        have q2 := hq.2.1
        have q3 := hq.2.2
        by_cases jk : q.k < l.length
        · have d1 : decide ((q.k : Int) < ((l.map encRu).length : Nat)) = true := by simp; exact jk
          refine (Bool.eq_false_or_eq_true (q.b)).elim (fun d2 => ?_) (fun d2 => ?_)
          · have d3 : (!q.b) = false := by rw [d2]; rfl
            have e : q.acc = ((a.take (r.k + 1)).flatMap (pickR l)).map encRu := by rw [q3 d2, r2, fmD_take gk, List.map_append]
            refine run ?_
            refine ⟨⟨⟨r.k + 1, q.acc⟩, ⟨gk, e⟩⟩, Nat.sub_lt_sub_left gk (Nat.lt_succ_self _), ?_⟩
            repeat' (first | exact trivial | exact rfl | refine ⟨?_, ?_⟩ | refine ⟨?_, ?_, ?_⟩)
          · have d3 : (!q.b) = true := by rw [d2]; rfl
            have qa := (q2 d2).1
            have qb := (q2 d2).2
            have qlen : q.acc.length = r.acc.length := by rw [qa]
            refine (Bool.eq_false_or_eq_true (l[q.k].id == a[r.k])).elim (fun d4 => ?_) (fun d4 => ?_)
            · have e : fnd (fun x : Ru => x.id == a[r.k]) zRu l = (l[q.k], true) := qb.trans (fnd_yes jk d4)
              have e2 : q.acc ++ [encRu l[q.k]] = r.acc ++ (pickR l a[r.k]).map encRu := by rw [qa, pickR, e]; rfl
              refine run ?_
              refine Idx.map jk rfl ?_
              refine run ?_
              refine Idx.map gk rfl ?_
              refine run ?_
              refine Idx.map jk rfl ?_
              refine run ?_
              refine ⟨⟨⟨q.k + 1, l[q.k].id == a[r.k], _⟩, ⟨jk, (fun h => nope d4 h), fun _ => e2⟩⟩, Nat.sub_lt_sub_left jk (Nat.lt_succ_self _), ?_⟩
              repeat' (first | exact trivial | exact rfl | refine ⟨?_, ?_⟩ | refine ⟨?_, ?_, ?_⟩)
            · have e := qb.trans (fnd_no jk d4)
              refine run ?_
              refine Idx.map jk rfl ?_
              refine run ?_
              refine Idx.map gk rfl ?_
              refine run ?_
              refine ⟨⟨⟨q.k + 1, l[q.k].id == a[r.k], q.acc⟩, ⟨jk, (fun _ => ⟨qa, e⟩), fun h => nope h d4⟩⟩, Nat.sub_lt_sub_left jk (Nat.lt_succ_self _), ?_⟩
              repeat' (first | exact trivial | exact rfl | refine ⟨?_, ?_⟩ | refine ⟨?_, ?_, ?_⟩)
        · have d1 : decide ((q.k : Int) < ((l.map encRu).length : Nat)) = false := by simp; omega
          have e : q.acc = ((a.take (r.k + 1)).flatMap (pickR l)).map encRu := by
            rw [fmD_take gk, List.map_append, ← r2]
            cases hb : q.b with
            | true => exact q3 hb
            | false =>
              have e := (q2 hb).2.trans (fnd_end jk)
              rw [(q2 hb).1, pickR, e]; simp
          refine run ?_
          refine ⟨⟨⟨r.k + 1, q.acc⟩, ⟨gk, e⟩⟩, Nat.sub_lt_sub_left gk (Nat.lt_succ_self _), ?_⟩
          repeat' (first | exact trivial | exact rfl | refine ⟨?_, ?_⟩ | refine ⟨?_, ?_, ?_⟩)
      have c1 : decide ((r.k : Int) < ((a.map it).length : Nat)) = false := by simp; omega
      have e : r.acc = (ordR l).map encRu := by rw [r2, List.take_of_length_le (by omega), ha, ordR]
      refine run ?_
      exact Done.mk (congrArg (fun x => Dat.sl 10 x false) e) rfl
end Abs
namespace Abs
open Go Go.Proofs
set_option maxRecDepth 100000
set_option maxHeartbeats 4000000
def lessP (x y : Pa) : Bool := decide (x.a < y.a) || (x.a == y.a && decide (x.b < y.b))
theorem less_ok (x y : Pa) : CallsA Tryz.prog 154 [encPa x, encPa y] ct0 (bo (lessP x y)) ct0 := by
  refine (Bool.eq_false_or_eq_true (decide (x.a < y.a))).elim (fun c1 => ?_) (fun c1 => ?_)
  · have e : lessP x y = true := by unfold lessP; rw [c1]; rfl
    rw [e]
    refine fn_ok hm Tryz.func154 (fun _ => false) [] (fun _ => []) (by kernel_rfl) ?_
    refine run ?_
    exact Done.mk rfl rfl
  · refine (Bool.eq_false_or_eq_true (x.a == y.a)).elim (fun c2 => ?_) (fun c2 => ?_)
    · have e : lessP x y = decide (x.b < y.b) := by unfold lessP; rw [c1, c2]; rfl
      rw [e]
      refine fn_ok hm Tryz.func154 (fun _ => false) [] (fun _ => []) (by kernel_rfl) ?_
      refine run ?_
      exact Done.mk rfl rfl
    · have e : lessP x y = false := by unfold lessP; rw [c1, c2]; rfl
      rw [e]
      refine fn_ok hm Tryz.func154 (fun _ => false) [] (fun _ => []) (by kernel_rfl) ?_
      refine run ?_
      exact Done.mk rfl rfl
def wpL (l : List Pa) (X : Pa) : List Pa := (l.takeWhile fun x => lessP x X) ++ [X] ++ l.filter fun x => lessP X x
theorem withPair_ok (l : List Pa) (a b : Int) (X : Pa) (hX : X = ⟨a, b, 0⟩) (hl : l.length < 2^28) : CallsA Tryz.prog 114 [lst 3 encPa l, it a, it b] ct0 (lst 3 encPa (wpL l X)) ct0 := by
  refine fn_ok hm Tryz.func114 (fun _ => false) [] (fun _ => []) (by kernel_rfl) ?_
  refine run ?_
  refine LoopS.mk ⟨[], HeadS.lp (fun r : CR => r.k ≤ l.length ∧ r.acc = (l.take r.k).map encPa ∧ (l.takeWhile fun x => lessP x X) = l.take r.k ++ (l.drop r.k).takeWhile fun x => lessP x X) (fun r => ⟨[(9, it r.k), (8, .ref 14 r.acc.length)], [], [(14, ⟨3, true, r.acc⟩)]⟩) (fun r => l.length - r.k) ⟨0, []⟩ ⟨Nat.zero_le _, by simp, by simp⟩ ?_⟩
  intro r hJ
  have h1 := hJ.1
  have h2 := hJ.2.1
  have h3 := hJ.2.2
  by_cases hk : r.k < l.length
  · have b1 : decide ((r.k : Int) < ((l.map encPa).length : Nat)) = true := by simp; exact hk
    have ch : CallsA Tryz.prog 154 [encPa l[r.k], encPa ⟨a, b, 0⟩] ct0 (bo (lessP l[r.k] X)) ct0 := by rw [← hX]; exact less_ok l[r.k] X
    refine (Bool.eq_false_or_eq_true (lessP l[r.k] X)).elim (fun b2 => ?_) (fun b2 => ?_)
    · have hN : r.acc ++ [encPa l[r.k]] = (l.take (r.k + 1)).map encPa := by rw [h2, take_one hk, List.map_append]; rfl
      have hT : (l.takeWhile fun x => lessP x X) = l.take (r.k + 1) ++ (l.drop (r.k + 1)).takeWhile fun x => lessP x X := by
        rw [h3, tw_yes hk b2, take_one hk, List.append_assoc]; rfl
      have hlen : r.acc.length = r.k := by rw [h2, List.length_map, List.length_take]; omega
      refine run ?_
      refine Idx.map hk rfl ?_
      refine run ?_; repeat ((apply call_ok; first | exact (ch)); refine run ?_)
      refine Idx.map hk rfl ?_
      refine run ?_
      refine ⟨⟨⟨r.k + 1, _⟩, ⟨hk, hN, hT⟩⟩, Nat.sub_lt_sub_left hk (Nat.lt_succ_self _), ?_⟩
      repeat' (first | exact trivial | exact rfl | refine ⟨?_, ?_⟩ | refine ⟨?_, ?_, ?_⟩)
    · have hA : r.acc = (l.takeWhile fun x => lessP x X).map encPa := by rw [h3, tw_no hk b2, h2]; simp
      have hlen1 : r.acc.length ≤ l.length := by rw [hA, List.length_map]; exact (List.takeWhile_sublist _).length_le
      refine run ?_
      refine Idx.map hk rfl ?_
      refine run ?_; repeat ((apply call_ok; first | exact (ch)); refine run ?_)
      refine run ?_
      refine LoopS.mk ⟨[], HeadS.lp (fun q : CR => q.k ≤ l.length ∧ q.acc = (r.acc ++ [encPa ⟨a, b, 0⟩]) ++ ((l.take q.k).filter fun x => lessP X x).map encPa) (fun q => ⟨[(10, it q.k), (8, .ref 14 q.acc.length)], [], [(14, ⟨3, true, q.acc⟩)]⟩) (fun q => l.length - q.k) ⟨0, r.acc ++ [encPa ⟨a, b, 0⟩]⟩ ⟨Nat.zero_le _, by simp⟩ ?_⟩
      intro q hq
      have g1 := hq.1
      have g2 := hq.2
      have hle := flt_le (p := fun x => lessP X x) (l := l) q.k
      have glen : q.acc.length = r.acc.length + 1 + ((l.take q.k).filter fun x => lessP X x).length := by rw [g2]; simp; omega
      by_cases gk : q.k < l.length
      · have c1 : decide ((q.k : Int) < ((l.map encPa).length : Nat)) = true := by simp; exact gk
        have cg : CallsA Tryz.prog 154 [encPa ⟨a, b, 0⟩, encPa l[q.k]] ct0 (bo (lessP X l[q.k])) ct0 := by rw [← hX]; exact less_ok X l[q.k]
        refine (Bool.eq_false_or_eq_true (lessP X l[q.k])).elim (fun c2 => ?_) (fun c2 => ?_)
        · have gN : q.acc ++ [encPa l[q.k]] = (r.acc ++ [encPa ⟨a, b, 0⟩]) ++ ((l.take (q.k + 1)).filter fun x => lessP X x).map encPa := by rw [g2, flt_yes gk c2, List.map_append, ← List.append_assoc]; rfl
          refine run ?_
          refine Idx.map gk rfl ?_
          refine run ?_; repeat ((apply call_ok; first | exact (cg)); refine run ?_)
          refine Idx.map gk rfl ?_
          refine run ?_
          refine ⟨⟨⟨q.k + 1, _⟩, ⟨gk, gN⟩⟩, Nat.sub_lt_sub_left gk (Nat.lt_succ_self _), ?_⟩
          repeat' (first | exact trivial | exact rfl | refine ⟨?_, ?_⟩ | refine ⟨?_, ?_, ?_⟩)
        · have gN : q.acc = (r.acc ++ [encPa ⟨a, b, 0⟩]) ++ ((l.take (q.k + 1)).filter fun x => lessP X x).map encPa := by rw [g2, flt_no gk c2]
          refine run ?_
          refine Idx.map gk rfl ?_
          refine run ?_; repeat ((apply call_ok; first | exact (cg)); refine run ?_)
          refine ⟨⟨⟨q.k + 1, _⟩, ⟨gk, gN⟩⟩, Nat.sub_lt_sub_left gk (Nat.lt_succ_self _), ?_⟩
          repeat' (first | exact trivial | exact rfl | refine ⟨?_, ?_⟩ | refine ⟨?_, ?_, ?_⟩)
      · have c1 : decide ((q.k : Int) < ((l.map encPa).length : Nat)) = false := by simp; omega
        have e : q.acc = (wpL l X).map encPa := by rw [g2, hA, List.take_of_length_le (by omega), ← hX]; simp [wpL]
        refine run ?_
        exact Done.mk (congrArg (fun x => Dat.sl 3 x false) e) rfl
  have b1 : decide ((r.k : Int) < ((l.map encPa).length : Nat)) = false := by simp; omega
  have hA : r.acc = (l.takeWhile fun x => lessP x X).map encPa := by rw [h3, List.drop_eq_nil_of_le (by omega), h2]; simp
  have hlen1 : r.acc.length ≤ l.length := by rw [hA, List.length_map]; exact (List.takeWhile_sublist _).length_le
  refine run ?_
  refine LoopS.mk ⟨[], HeadS.lp (fun q : CR => q.k ≤ l.length ∧ q.acc = (r.acc ++ [encPa ⟨a, b, 0⟩]) ++ ((l.take q.k).filter fun x => lessP X x).map encPa) (fun q => ⟨[(10, it q.k), (8, .ref 14 q.acc.length)], [], [(14, ⟨3, true, q.acc⟩)]⟩) (fun q => l.length - q.k) ⟨0, r.acc ++ [encPa ⟨a, b, 0⟩]⟩ ⟨Nat.zero_le _, by simp⟩ ?_⟩
  intro q hq
  have g1 := hq.1
  have g2 := hq.2
  have hle := flt_le (p := fun x => lessP X x) (l := l) q.k
  have glen : q.acc.length = r.acc.length + 1 + ((l.take q.k).filter fun x => lessP X x).length := by rw [g2]; simp; omega
  by_cases gk : q.k < l.length
  · have c1 : decide ((q.k : Int) < ((l.map encPa).length : Nat)) = true := by simp; exact gk
    have cg : CallsA Tryz.prog 154 [encPa ⟨a, b, 0⟩, encPa l[q.k]] ct0 (bo (lessP X l[q.k])) ct0 := by rw [← hX]; exact less_ok X l[q.k]
    refine (Bool.eq_false_or_eq_true (lessP X l[q.k])).elim (fun c2 => ?_) (fun c2 => ?_)
    · have gN : q.acc ++ [encPa l[q.k]] = (r.acc ++ [encPa ⟨a, b, 0⟩]) ++ ((l.take (q.k + 1)).filter fun x => lessP X x).map encPa := by rw [g2, flt_yes gk c2, List.map_append, ← List.append_assoc]; rfl
      refine run ?_
      refine Idx.map gk rfl ?_
      refine run ?_; repeat ((apply call_ok; first | exact (cg)); refine run ?_)
      refine Idx.map gk rfl ?_
      refine run ?_
      refine ⟨⟨⟨q.k + 1, _⟩, ⟨gk, gN⟩⟩, Nat.sub_lt_sub_left gk (Nat.lt_succ_self _), ?_⟩
      repeat' (first | exact trivial | exact rfl | refine ⟨?_, ?_⟩ | refine ⟨?_, ?_, ?_⟩)
    · have gN : q.acc = (r.acc ++ [encPa ⟨a, b, 0⟩]) ++ ((l.take (q.k + 1)).filter fun x => lessP X x).map encPa := by rw [g2, flt_no gk c2]
      refine run ?_
      refine Idx.map gk rfl ?_
      refine run ?_; repeat ((apply call_ok; first | exact (cg)); refine run ?_)
      refine ⟨⟨⟨q.k + 1, _⟩, ⟨gk, gN⟩⟩, Nat.sub_lt_sub_left gk (Nat.lt_succ_self _), ?_⟩
      repeat' (first | exact trivial | exact rfl | refine ⟨?_, ?_⟩ | refine ⟨?_, ?_, ?_⟩)
  · have c1 : decide ((q.k : Int) < ((l.map encPa).length : Nat)) = false := by simp; omega
    have e : q.acc = (wpL l X).map encPa := by rw [g2, hA, List.take_of_length_le (by omega), ← hX]; simp [wpL]
    refine run ?_
    exact Done.mk (congrArg (fun x => Dat.sl 3 x false) e) rfl
end Abs
namespace Abs
open Go Go.Proofs
set_option maxRecDepth 100000
set_option maxHeartbeats 4000000
def absI (a : Int) : Int := if 0 - a > a then 0 - a else a
theorem abs_ok (a : Int) (h : -(2^40) < a ∧ a < 2^40) : CallsA Tryz.prog 153 [it a] ct0 (it (absI a)) ct0 := by
  have h1 := h.1
  have h2 := h.2
  refine fn_ok hm Tryz.func153 (fun _ => false) [] (fun _ => []) (by kernel_rfl) ?_
  refine run ?_
  exact Done.mk rfl rfl
def encAb (lo hi m r mask : Int) : Dat := .agg [it lo, it hi, it m, it r, it mask]
def stepI (lo hi m : Int) : Int := if lo == hi then 0 else m
theorem step_ok (lo hi m r mask : Int) : CallsA Tryz.prog 152 [encAb lo hi m r mask] ct0 (it (stepI lo hi m)) ct0 := by
  unfold stepI
  refine (Bool.eq_false_or_eq_true (lo == hi)).elim (fun b => ?_) (fun b => ?_)
  · rw [if_pos b]
    refine fn_ok hm Tryz.func152 (fun _ => false) [] (fun _ => []) (by kernel_rfl) ?_
    refine run ?_
    exact Done.mk rfl rfl
  · rw [if_neg (by rw [b]; simp)]
    refine fn_ok hm Tryz.func152 (fun _ => false) [] (fun _ => []) (by kernel_rfl) ?_
    refine run ?_
    exact Done.mk rfl rfl
def modI (a m : Int) : Int := (a.tmod m + m).tmod m
theorem mod_ok (a m : Int) (h : 0 < m ∧ m < 2^40) : CallsA Tryz.prog 167 [it a, it m] ct0 (it (modI a m)) ct0 := by
  have h1 := h.1
  have h2 := h.2
  have t1 : a.tmod m < m := Int.tmod_lt_of_pos _ h1
  have t2 : -m < a.tmod m := Int.lt_tmod_of_pos _ h1
  have hz : m ≠ 0 := by omega
  refine fn_ok hm Tryz.func167 (fun _ => false) [] (fun _ => []) (by kernel_rfl) ?_
  refine run ?_
  exact Done.mk rfl rfl
def gcdI (a b : Int) : Int := (Nat.gcd a.toNat b.toNat : Nat)
structure GI where
  x : Int
  y : Int
theorem gcd_step {x y : Int} (hx : 0 ≤ x) (hy : 0 < y) : Nat.gcd y.toNat (x.tmod y).toNat = Nat.gcd x.toNat y.toNat := by
  obtain ⟨a, rfl⟩ := Int.eq_ofNat_of_zero_le hx
  obtain ⟨b, rfl⟩ := Int.eq_ofNat_of_zero_le (Int.le_of_lt hy)
  have e : ((a : Int).tmod (b : Int)).toNat = a % b := rfl
  rw [e]
  show Nat.gcd b (a % b) = Nat.gcd a b
  rw [Nat.gcd_comm b, ← Nat.gcd_rec, Nat.gcd_comm]
theorem gcd_ok (a b : Int) (ha : 0 ≤ a) (hb : 0 ≤ b) : CallsA Tryz.prog 151 [it a, it b] ct0 (it (gcdI a b)) ct0 := by
  refine fn_ok hm Tryz.func151 (fun _ => false) [] (fun _ => []) (by kernel_rfl) ?_
  refine run ?_
  refine LoopS.mk ⟨[], HeadS.lp (fun r : GI => 0 ≤ r.x ∧ 0 ≤ r.y ∧ Nat.gcd r.x.toNat r.y.toNat = Nat.gcd a.toNat b.toNat) (fun r => ⟨[(0, it r.x), (1, it r.y)], [], []⟩) (fun r => r.y.toNat) ⟨a, b⟩ ⟨ha, hb, rfl⟩ ?_⟩
  intro r hJ
  have h1 := hJ.1
  have h2 := hJ.2.1
  have h3 := hJ.2.2
  by_cases hk : r.y = 0
  · have b1 : (!(r.y == 0)) = false := by rw [hk]; rfl
    have e : r.x = gcdI a b := by rw [gcdI, ← h3, hk]; simp; omega
    refine run ?_
    exact Done.mk (congrArg it e) rfl
  · have b1 : (!(r.y == 0)) = true := by simp; exact hk
    have hp : 0 < r.y := by omega
    have g := gcd_step h1 hp
    have t1 : r.x.tmod r.y < r.y := Int.tmod_lt_of_pos _ hp
    have t2 : 0 ≤ r.x.tmod r.y := Int.tmod_nonneg _ h1
    have hm' : (r.x.tmod r.y).toNat < r.y.toNat := by omega
    refine run ?_
    refine ⟨⟨⟨r.y, r.x.tmod r.y⟩, ⟨h2, t2, g.trans h3⟩⟩, hm', ?_⟩
    repeat' (first | exact trivial | exact rfl | refine ⟨?_, ?_⟩ | refine ⟨?_, ?_, ?_⟩)
end Abs
namespace Abs
open Go Go.Proofs
set_option maxRecDepth 100000
set_option maxHeartbeats 4000000
theorem quo_bd {d m : Int} (hd : 0 ≤ d) (h2 : d < 2^30) (hm : 0 < m) : IntKind.i64.wrap (d.tdiv m) * m ≤ d ∧ 0 ≤ IntKind.i64.wrap (d.tdiv m) * m := by
  have e : d.tdiv m = d / m := Int.tdiv_eq_ediv_of_nonneg hd
  have h0 : 0 ≤ d / m := Int.ediv_nonneg hd (by omega)
  have h1 : d / m * m ≤ d := Int.ediv_mul_le d (by omega)
  have h3 : d / m ≤ d := Int.ediv_le_self m hd
  rw [e, wrap_i64 (by omega) (by omega)]
  exact ⟨h1, Int.mul_nonneg h0 (by omega)⟩
def hiR (lo hi m : Int) : Int := lo + IntKind.i64.wrap ((hi - lo).tdiv m) * m
def byD (lo hi m mask : Int) : Dat :=
  if decide (m > 0) then (if lo == hiR lo hi m then encAb lo lo 1 0 mask else encAb lo (hiR lo hi m) m (modI lo m) mask)
  else encAb lo lo 1 0 mask
theorem by_ok (lo hi m mask : Int) (h1 : -(2^20) < lo) (h2 : lo ≤ hi) (h3 : hi < 2^20) (h4 : 0 ≤ m ∧ m < 2^40) (h5 : m = 0 → lo = hi) : CallsA Tryz.prog 125 [it lo, it hi, it m, it mask] ct0 (byD lo hi m mask) ct0 := by
  unfold byD
  refine (Bool.eq_false_or_eq_true (decide (m > 0))).elim (fun b1 => ?_) (fun b1 => ?_)
  · have hm0 : 0 < m := of_decide_eq_true b1
    have q := quo_bd (d := hi - lo) (m := m) (by omega) (by omega) hm0
    have q1 := q.1
    have q2 := q.2
    have hz : m ≠ 0 := by omega
    have c := mod_ok lo m ⟨hm0, h4.2⟩
    rw [if_pos b1]
    refine (Bool.eq_false_or_eq_true (lo == hiR lo hi m)).elim (fun b2 => ?_) (fun b2 => ?_)
    · have b3 : (lo == lo + IntKind.i64.wrap ((hi - lo).tdiv m) * m) = true := b2
      rw [if_pos b2]
      refine fn_ok hm Tryz.func125 (fun _ => false) [] (fun _ => []) (by kernel_rfl) ?_
      refine run ?_; repeat ((apply call_ok; first | exact (c)); refine run ?_)
      exact Done.mk rfl rfl
    · have b3 : (lo == lo + IntKind.i64.wrap ((hi - lo).tdiv m) * m) = false := b2
      rw [if_neg (by rw [b2]; simp)]
      refine fn_ok hm Tryz.func125 (fun _ => false) [] (fun _ => []) (by kernel_rfl) ?_
      refine run ?_; repeat ((apply call_ok; first | exact (c)); refine run ?_)
      exact Done.mk rfl rfl
  · have e : lo = hi := h5 (by have := of_decide_eq_false b1; omega)
    have b2 : (lo == hi) = true := by rw [e]; simp
    rw [if_neg (by rw [b1]; simp)]
    refine fn_ok hm Tryz.func125 (fun _ => false) [] (fun _ => []) (by kernel_rfl) ?_
    refine run ?_
    exact Done.mk rfl rfl
theorem of_ok (v mask : Int) (h : -(2^20) < v ∧ v < 2^20) : CallsA Tryz.prog 113 [.agg [it v, it mask]] ct0 (encAb v v 1 0 mask) ct0 := by
  have c : CallsA Tryz.prog 125 [it v, it v, it 0, it mask] ct0 (encAb v v 1 0 mask) ct0 := by_ok v v 0 mask h.1 (Int.le_refl _) h.2 ⟨Int.le_refl _, by omega⟩ (fun _ => rfl)
  refine fn_ok hm Tryz.func113 (fun _ => false) [] (fun _ => []) (by kernel_rfl) ?_
  refine run ?_; repeat ((apply call_ok; first | exact (c)); refine run ?_)
  exact Done.mk rfl rfl
theorem or_zero {k : Int} (h : 0 ≤ k ∧ k < 4) : (((BitVec.ofInt IntKind.i64.bits k ||| BitVec.ofInt IntKind.i64.bits 0).toNat : Nat) : Int) = k := by
  have : k = 0 ∨ k = 1 ∨ k = 2 ∨ k = 3 := by omega
  rcases this with rfl | rfl | rfl | rfl <;> decide
theorem join_ok (v w k : Int) (h1 : -(2^19) < v) (h2 : v ≤ w) (h3 : w < 2^19) (hk : 0 ≤ k ∧ k < 4) : CallsA Tryz.prog 112 [encAb v v 1 0 k, encAb w w 1 0 0] ct0 (byD v w (w - v) k) ct0 := by
  have s1 : CallsA Tryz.prog 152 [encAb v v 1 0 k] ct0 (it 0) ct0 := by
    have := step_ok v v 1 0 k
    rwa [show stepI v v 1 = 0 by simp [stepI]] at this
  have s2 : CallsA Tryz.prog 152 [encAb w w 1 0 0] ct0 (it 0) ct0 := by
    have := step_ok w w 1 0 0
    rwa [show stepI w w 1 = 0 by simp [stepI]] at this
  have g1 : CallsA Tryz.prog 151 [it 0, it 0] ct0 (it 0) ct0 := gcd_ok 0 0 (by omega) (by omega)
  have a1 : CallsA Tryz.prog 153 [it (v - w)] ct0 (it (w - v)) ct0 := by
    have := abs_ok (v - w) ⟨by omega, by omega⟩
    rwa [show absI (v - w) = w - v by unfold absI; split <;> omega] at this
  have g2 : CallsA Tryz.prog 151 [it 0, it (w - v)] ct0 (it (w - v)) ct0 := by
    have := gcd_ok 0 (w - v) (by omega) (by omega)
    rwa [show gcdI 0 (w - v) = w - v by simp [gcdI]; omega] at this
  have o := or_zero hk
  have b := by_ok v w (w - v) k (by omega) h2 (by omega) ⟨by omega, by omega⟩ (fun _ => by omega)
  have m1 : (if w < v then w else v) = v := if_neg (by omega)
  have m2 : (if w > v then w else v) = w := by split <;> omega
  have b' : CallsA Tryz.prog 125 [it (if w < v then w else v), it (if w > v then w else v), it (w - v), it k] ct0 (byD v w (w - v) k) ct0 := by rw [m1, m2]; exact b
  have hR : ∃ R, R = byD v w (w - v) k := ⟨_, rfl⟩
  refine hR.elim fun R hR => ?_
  have hRs : ∃ x1 x2 x3 x4, R = encAb x1 x2 x3 x4 k := by
    rw [hR]; unfold byD; split
    · split <;> exact ⟨_, _, _, _, rfl⟩
    · exact ⟨_, _, _, _, rfl⟩
  refine hRs.elim fun x1 h => h.elim fun x2 h => h.elim fun x3 h => h.elim fun x4 h => ?_
  rw [← hR, h] at b' ⊢
  refine fn_ok hm Tryz.func112 (fun _ => false) [] (fun _ => []) (by kernel_rfl) ?_
  refine run ?_; repeat ((apply call_ok; first | exact (s1) | exact (s2) | exact (g1) | exact (a1) | exact (g2) | exact (b')); refine run ?_)
  exact Done.mk rfl rfl
end Abs
