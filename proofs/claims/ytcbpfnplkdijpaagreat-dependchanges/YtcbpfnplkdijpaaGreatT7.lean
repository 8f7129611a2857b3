/- A part of a proof: an abstract machine, proved sound, or contracts of functions. No condition. -/
import Derived.Test.YtcbpfnplkdijpaaGreatT4
import Derived.Test.YtcbpfnplkdijpaaGreatT5
import Derived.Test.YtcbpfnplkdijpaaGreatShelf
set_option linter.unusedVariables false
set_option linter.unusedSimpArgs false
namespace Abs
open Go Go.Proofs Go.Sort
theorem empty_row {cx : Cx} {γ : Gh} {w : World} {l0 : List Dat} {own : Bool} (hm : Mem cx γ (init l0 ⟨[], [⟨1, true, []⟩]⟩) w) : Mem cx γ (init [] ⟨[], [⟨1, own, []⟩]⟩) w where
  iw := hm.iw
  box := hm.box
  nobox := hm.nobox
  inj := hm.inj
  dis := hm.dis
  row k r hr := by
    have hr' : upd (fun _ => none) 1000 (some (⟨1, own, []⟩ : Row)) k = some r := hr
    by_cases h : k = 1000
    · subst h
      rw [upd_eq] at hr'; cases hr'
      obtain ⟨t, h1, h2, h3, h4, h5⟩ := hm.row 1000 ⟨1, true, []⟩ rfl
      refine ⟨t, h1, h2, h3, h4, ?_⟩
      unfold RowAt at *
      cases hb : t.base with
      | none => rw [hb] at h5; exact h5
      | some b =>
        rw [hb] at h5
        obtain ⟨p1, p2, p3, c, e, fz, p4, p5, p6, p7, p8, p9⟩ := h5
        exact ⟨p1, p2, p3, c, e, fz, p4, p5, p6, p7, fun _ => p8 rfl, fun j d hd => by simp [nth] at hd⟩
    · rw [upd_ne _ _ _ _ h] at hr'; cases hr'
  norow k t hk := by
    obtain ⟨r, hr⟩ := hm.norow k t hk
    have hr' : upd (fun _ => none) 1000 (some (⟨1, true, []⟩ : Row)) k = some r := hr
    by_cases h : k = 1000
    · subst h; exact ⟨_, rfl⟩
    · rw [upd_ne _ _ _ _ h] at hr'; cases hr'
  rdis := hm.rdis
  newI := hm.newI
  frame := hm.frame
  new := hm.new
theorem holds_row {w : World} {b : Nat} {c : Array Value} {e : TypeId} {fz : Nat × Nat} {zs : List Int} (hc : w.heap[b]? = some (.cells c e fz)) (hfz : Free fz c.size) (h : ∀ (j : Nat) (x : Int), zs[j]? = some x → c[j]? = some (Value.int .i64 x)) :
    Go.Sort.Holds (Value.int .i64) w b 0 zs.toArray := by
  intro j hj
  have hj' : j < zs.length := by simpa using hj
  have hx := h j zs[j] (List.getElem?_eq_getElem hj')
  have hlt : j < c.size := (Array.getElem?_eq_some_iff.1 hx).1
  rw [Nat.zero_add]
  refine ⟨(cell_blk hc).trans ?_, frozen_free hc hfz hlt⟩
  rw [hx]; simp [hj']
theorem one_val {vs : Array Value} (h : vs.size = 1) : ∃ v, vs = #[v] :=
  ⟨vs[0], by
    apply Array.ext
    · simp [h]
    · intro i h2 h3
      have : i = 0 := by omega
      subst this; rfl⟩
theorem compact_le (zs : List Int) : (Lib.compact zs).length ≤ zs.length := by
  unfold Lib.compact Lib.compactUpTo
  rw [List.length_map]
  exact Nat.le_trans (List.length_filter_le _ _) (by simp)
theorem sort_ok (zs : List Int) (hsz : zs.length < 2^62) : CallsA Tryz.prog 51 [.ref 1000 (zs.map it).length] ⟨[], [⟨1, true, zs.map it⟩]⟩ (.tup []) ⟨[], [⟨1, true, (zs.mergeSort fun x y => decide (x ≤ y)).map it⟩]⟩ := by
  refine ⟨⟨_, Tryz.func51, by kernel_rfl, by kernel_rfl⟩, fun γ w vs hs hrep hmem => ?_⟩
  obtain ⟨v, rfl⟩ := one_val (hs : vs.size = 1)
  have hr : Rep γ v (.ref 1000 (zs.map intD).length) := hrep 0 v _ rfl rfl
  by_cases hne : zs = []
  · subst hne
    obtain ⟨t, _, _, _, a, cp, rfl⟩ := hr.ref_val
    refine Calls.mono (Tryz.slices_Sort_int_none a cp w) fun e w' he => ?_
    obtain ⟨rfl, rfl⟩ := he
    exact ⟨γ, Ext.refl γ, .tup rfl (fun i v d hv => by simp at hv), by rw [List.mergeSort_nil]; exact hmem.names rfl rfl⟩
  · obtain ⟨t, b, c, e, fz, h1, h2, h3, h4, rfl, h6, h7, h8, h9, h10, h11, h12, h13⟩ := row_one hmem hr hne
    refine Calls.mono (Tryz.slices_Sort_int b 0 t.cap zs w (holds_row h7 h8 h13) (lt_of_blk h7) (by omega)) fun e w' he => ?_
    obtain ⟨rfl, n, os, hw⟩ := he
    obtain ⟨γ', k1, k2, k3, _⟩ := row_back rfl hmem h1 h4 h3 h6 h7 h8 h9 h10 h11 h12 (ys := zs.mergeSort fun x y => decide (x ≤ y)) (by simp) n os hw true
    exact ⟨γ', k1, .tup rfl (fun i v d hv => by simp at hv), k3⟩
theorem compact_ok (zs : List Int) (hsz : zs.length < 2^62) : CallsA Tryz.prog 52 [.ref 1000 (zs.map it).length] ⟨[], [⟨1, true, zs.map it⟩]⟩ (ints (Lib.compact zs))
    ⟨[], [⟨1, false, (Lib.compact zs ++ List.replicate (zs.length - (Lib.compact zs).length) 0).map it⟩]⟩ := by
  refine ⟨⟨_, Tryz.func52, by kernel_rfl, by kernel_rfl⟩, fun γ w vs hs hrep hmem => ?_⟩
  obtain ⟨v, rfl⟩ := one_val (hs : vs.size = 1)
  have hr : Rep γ v (.ref 1000 (zs.map intD).length) := hrep 0 v _ rfl rfl
  have hle : (Lib.compact zs).length ≤ zs.length := compact_le zs
  by_cases hne : zs = []
  · subst hne
    obtain ⟨t, _, _, _, a, cp, rfl⟩ := hr.ref_val
    refine Calls.mono (Tryz.slices_Compact_int_empty a cp w) fun e w' he => ?_
    obtain ⟨rfl, rfl⟩ := he
    have e0 : Lib.compact [] = [] := List.eq_nil_of_length_eq_zero (by have := hle; simpa using this)
    refine ⟨γ, Ext.refl γ, ?_, ?_⟩
    · rw [e0]; exact .pure (.sl0 _ _ _)
    · rw [e0]; exact empty_row hmem
  · obtain ⟨t, b, c, e, fz, h1, h2, h3, h4, rfl, h6, h7, h8, h9, h10, h11, h12, h13⟩ := row_one hmem hr hne
    refine Calls.mono (Tryz.slices_Compact_int b 0 t.cap zs w (holds_row h7 h8 h13) (by omega) (by omega)) fun e w' he => ?_
    obtain ⟨rfl, q, hw⟩ := he
    obtain ⟨γ', k1, k2, k3, k4⟩ := row_back rfl hmem h1 h4 h3 h6 h7 h8 h9 h10 h11 h12 (ys := Lib.compact zs ++ List.replicate (zs.length - (Lib.compact zs).length) 0) (by simp; omega) q #[] (hw.trans (grow_empty _).symm) false
    refine ⟨γ', k1, .pure ?_, k3⟩
    have hlen : ((Lib.compact zs).map it).length = (Lib.compact zs).length := by simp
    have := RepI.sl (I := γ'.I) b 0 t.cap 1 ((Lib.compact zs).map it) (fun j => .int .i64 ((Lib.compact zs)[j]?.getD 0)) (by rw [hlen]; omega) (fun e he => by obtain ⟨x, _, rfl⟩ := List.mem_map.1 he; rfl) (fun j d hd => ?_) (fun j d hd => ?_)
    · rw [hlen] at this; exact this
    · have hd' : nth (((Lib.compact zs).map intD).flatMap cells) j = some d := hd
      rw [flat_intD, nth_eq, List.getElem?_map] at hd'
      cases hx : (Lib.compact zs)[j]? with
      | none => rw [hx] at hd'; cases hd'
      | some x =>
        rw [Nat.zero_add]
        exact k4 rfl j x (by rw [List.getElem?_append_left (List.getElem?_eq_some_iff.1 hx).1]; exact hx)
    · have hd' : nth (((Lib.compact zs).map intD).flatMap cells) j = some d := hd
      rw [flat_intD, nth_eq, List.getElem?_map] at hd'
      cases hx : (Lib.compact zs)[j]? with
      | none => rw [hx] at hd'; cases hd'
      | some x => rw [hx] at hd'; cases hd'; exact .int _ _
end Abs
namespace Abs
open Go Go.Proofs
set_option maxRecDepth 100000
set_option maxHeartbeats 4000000
mutual
def flS : Sm → Nat → List (Sm × Nat)
  | .mk a b c d e f g h i j body els, k => (.mk a b c d e f g h i j body els, k) :: (flL body (k+1) ++ flL els (k+1))
def flL : List Sm → Nat → List (Sm × Nat)
  | [], _ => []
  | s :: l, k => flS s k ++ flL l k
end
theorem flS_eq (s : Sm) (k : Nat) : flS s k = (s, k) :: (flL s.body (k+1) ++ flL s.els (k+1)) := by
  cases s; simp [flS, Sm.body, Sm.els]
mutual
def szS : Sm → Nat
  | .mk a b c d e f g h i j body els => 1 + (szL body + szL els)
def szL : List Sm → Nat
  | [] => 0
  | s :: l => szS s + szL l
end
theorem szS_eq (s : Sm) : szS s = 1 + (szL s.body + szL s.els) := by
  cases s; simp [szS, Sm.body, Sm.els]
mutual
theorem flS_len : ∀ (s : Sm) (k : Nat), (flS s k).length = szS s
  | .mk a b c d e f g h i j body els, k => by
    simp only [flS, szS, List.length_cons, List.length_append, flL_len body, flL_len els]; omega
theorem flL_len : ∀ (l : List Sm) (k : Nat), (flL l k).length = szL l
  | [], _ => rfl
  | s :: l, k => by simp only [flL, szL, List.length_append, flS_len s, flL_len l]
end
theorem szL_append : ∀ (a b : List Sm), szL (a ++ b) = szL a + szL b
  | [], b => by simp [szL]
  | s :: a, b => by simp only [List.cons_append, szL, szL_append a b]; omega
theorem flL_append (k : Nat) : ∀ (a b : List Sm), flL (a ++ b) k = flL a k ++ flL b k
  | [], b => by simp [flL]
  | s :: a, b => by simp only [List.cons_append, flL, flL_append k a b, List.append_assoc]
def encPl (x : Sm × Nat) : List Dat := [.agg (cS x.1 ++ [it x.2])]
def Seg (xs : List (List Dat)) (k : Nat) (l : List (Sm × Nat)) : Prop := ∀ i x, l[i]? = some x → nth xs (k + i) = some (encPl x)
theorem Seg.left {xs : List (List Dat)} {k : Nat} {a b : List (Sm × Nat)} (h : Seg xs k (a ++ b)) : Seg xs k a := fun i x hx =>
  h i x (by rw [List.getElem?_append_left (List.getElem?_eq_some_iff.1 hx).1]; exact hx)
theorem Seg.right {xs : List (List Dat)} {k : Nat} {a b : List (Sm × Nat)} (h : Seg xs k (a ++ b)) : Seg xs (k + a.length) b := fun i x hx => by
  have := h (a.length + i) x (by rw [List.getElem?_append_right (by omega), Nat.add_sub_cancel_left]; exact hx)
  rw [Nat.add_assoc]; exact this
theorem szL_take {ss : List Sm} {i : Nat} (h : i < ss.length) : szL (ss.take (i+1)) = szL (ss.take i) + szS ss[i] := by
  rw [List.take_add_one, szL_append]
  simp [h, szL]
theorem szL_le {ss : List Sm} (i : Nat) : szL (ss.take i) ≤ szL ss := by
  have := szL_append (ss.take i) (ss.drop i)
  rw [List.take_append_drop] at this; omega
theorem szS_le {ss : List Sm} {i : Nat} (h : i < ss.length) : szL (ss.take i) + szS ss[i] ≤ szL ss := by
  rw [← szL_take h]; exact szL_le _
theorem Seg.at {xs : List (List Dat)} {k d : Nat} {ss : List Sm} (hs : Seg xs k (flL ss d)) {i : Nat} (h : i < ss.length) : Seg xs (k + szL (ss.take i)) (flS ss[i] d) := by
  have e : ss = ss.take i ++ (ss[i] :: ss.drop (i+1)) := by
    rw [List.getElem_cons_drop, List.take_append_drop]
  rw [e, flL_append, flL] at hs
  have := hs.right.left
  rw [flL_len] at this; exact this
theorem sz_pos (s : Sm) : 1 ≤ szS s := by rw [szS_eq]; omega
theorem len_le_sz : ∀ ss : List Sm, ss.length ≤ szL ss
  | [] => by simp
  | s :: l => by have := len_le_sz l; have := sz_pos s; simp only [List.length_cons, szL]; omega
theorem ycall_ok {P : Program} {l : Nat} {xs : List (List Dat)} {byref : FuncId → Bool} {hint : Nat → List Ad} {f : FuncId} {args : List Dat} {k : Nat} {K : Dat → YS → Prop} {outs : List (Dat × YS)}
    (h : CallsY P l xs f args k fun r y => (r, y) ∈ outs) (hk : allK K outs) : YCall (cfY P l xs byref hint).CY f args k K := ⟨outs, h, hk⟩
theorem walk_ok (lp : Nat) (xs : List (List Dat)) : ∀ (n : Nat) (ss : List Sm) (d k : Nat), szL ss < n → d + szL ss < 2^60 → Seg xs k (flL ss d) →
    CallsY Tryz.prog lp xs 92 [lst 20 encS ss, it d, .yld lp] k fun r y => (r, y) ∈ [(bo true, YS.run (k + szL ss)), (bo false, YS.stop)] := by
  intro n
  induction n with
  | zero => intro ss d k hn; omega
  | succ n ih =>
    intro ss d k hn hd hs
    refine fn_y hm Tryz.func92 (fun _ => false) (fun _ => []) (by kernel_rfl) (by kernel_rfl) ?_
    refine run ?_
    refine LoopS.mk ⟨[], HeadS.natY ss.length (fun _ => True) (fun i => .run (k + szL (ss.take i))) (fun i => ⟨[(11, it i)], [], []⟩) trivial ?_ ?_ ?_ ?_ ?_ ?_⟩
    · show YS.run (k + szL (ss.take 0)) = _; simp [szL]; rfl
    · repeat' (first | exact trivial | exact rfl | refine ⟨?_, ?_⟩ | refine ⟨?_, ?_, ?_⟩)
    · kernel_rfl
    · kernel_rfl
    · intro k; exact ⟨rfl, rfl, rfl⟩
    intro i hi _
    by_cases hlt : i < ss.length
    · have b1 : decide ((i : Int) < ((ss.map encS).length : Nat)) = true := by simp; exact hlt
      have hl := len_le_sz ss
      have hseg := hs.at hlt
      have hsz := szS_le hlt
      have e1 := flS_eq ss[i] d
      have e2 := szS_eq ss[i]
      have e3 := szL_take hlt
      rw [e1] at hseg
      have hx : nth xs (k + szL (ss.take i)) = some (encPl (ss[i], d)) := hseg 0 _ rfl
      have hseg2 : Seg xs (k + szL (ss.take i) + 1) (flL ss[i].body (d+1) ++ flL ss[i].els (d+1)) := fun j x hj => by
        have := hseg (j + 1) x (by simpa using hj)
        rw [show k + szL (ss.take i) + 1 + j = k + szL (ss.take i) + (j + 1) by omega]; exact this
      have hc1 := ih ss[i].body (d + 1) (k + szL (ss.take i) + 1) (by omega) (by omega) hseg2.left
      have hc2 := ih ss[i].els (d + 1) (k + szL (ss.take i) + 1 + szL ss[i].body) (by omega) (by omega) (by have := hseg2.right; rw [flL_len] at this; exact this)
      have hc1' : CallsY Tryz.prog lp xs 92 [.sl 20 (encSs ss[i].body) false, it ((d : Int) + 1), .yld lp] (k + szL (ss.take i) + 1) fun r y => (r, y) ∈ [(bo true, YS.run (k + szL (ss.take i) + 1 + szL ss[i].body)), (bo false, YS.stop)] := by
        rw [encSs_map]; exact hc1
      have hc2' : CallsY Tryz.prog lp xs 92 [.sl 20 (encSs ss[i].els) false, it ((d : Int) + 1), .yld lp] (k + szL (ss.take i) + 1 + szL ss[i].body) fun r y => (r, y) ∈ [(bo true, YS.run (k + szL (ss.take i) + 1 + szL ss[i].body + szL ss[i].els)), (bo false, YS.stop)] := by
        rw [encSs_map]; exact hc2
      refine run ?_
      refine Idx.map hlt rfl ?_
      (conv => whnf)
      refine Need.mk ⟨rfl, hx⟩ ?_
      (conv => whnf)
      refine Both.mk ?_ ?_
      · refine run ?_
        refine ycall_ok hc1' ?_
        refine Both.mk ?_ (Both.mk ?_ trivial)
        · refine run ?_
          refine ycall_ok hc2' ?_
          refine Both.mk ?_ (Both.mk ?_ trivial)
          · refine run ?_
            refine ⟨⟨i + 1, hlt, trivial⟩, Nat.sub_lt_sub_left hlt (Nat.lt_succ_self i), ?_, ?_⟩
            · refine (congrArg YS.run ?_ : YS.run (k + szL (ss.take i) + 1 + szL ss[i].body + szL ss[i].els) = YS.run (k + szL (ss.take (i+1))))
              omega
            · repeat' (first | exact trivial | exact rfl | refine ⟨?_, ?_⟩ | refine ⟨?_, ?_, ?_⟩)
          · refine run ?_
            exact List.Mem.tail _ (List.Mem.head _)
        · refine run ?_
          exact List.Mem.tail _ (List.Mem.head _)
      · refine run ?_
        exact List.Mem.tail _ (List.Mem.head _)
    · have b1 : decide ((i : Int) < ((ss.map encS).length : Nat)) = false := by simp; omega
      have e : ss.take i = ss := List.take_of_length_le (by omega)
      refine run ?_
      rw [e]
      exact List.Mem.head _
def allClo (ss : List Sm) : Dat := .clo (.func 91) [] [.imm (lst 20 encS ss) 0, .imm (it 1) 0]
theorem all_ok (ss : List Sm) : CallsA Tryz.prog 54 [lst 20 encS ss, it 1] ct0 (allClo ss) ct0 := by
  refine fn_fix hm Tryz.func54 (fun _ => false) [] (fun _ => []) [2, 3] (by kernel_rfl) ?_
  refine run ?_
  exact Done.mk rfl rfl
theorem all_iter (ss : List Sm) (h : 1 + szL ss < 2^60) : IterA Tryz.prog (allClo ss) ((flL ss 1).map encPl) := by
  refine ⟨91, [], [.imm (lst 20 encS ss) 0, .imm (it 1) 0], rfl, rfl, fun l => ?_⟩
  have hs : Seg ((flL ss 1).map encPl) 0 (flL ss 1) := fun i x hx => by rw [nth_eq, Nat.zero_add, List.getElem?_map, hx]; rfl
  have hw := walk_ok l ((flL ss 1).map encPl) (szL ss + 1) ss 1 0 (by omega) (by omega) hs
  have e : YS.run ((flL ss 1).map encPl).length = YS.run (0 + szL ss) := by rw [List.length_map, flL_len, Nat.zero_add]
  rw [e]
  refine fn_y hm Tryz.func91 (fun _ => false) (fun _ => []) (by kernel_rfl) (by kernel_rfl) ?_
  refine run ?_
  refine ycall_ok hw ?_
  refine Both.mk ?_ (Both.mk ?_ trivial)
  · refine run ?_
    exact .inl rfl
  · refine run ?_
    exact .inr rfl
def callees (l : List (Sm × Nat)) : List Int := (l.filter fun x => x.1.op == 13).map fun x => x.1.m
def callsOf (body : List Sm) : List Int := Lib.compact ((callees (flL body 1)).mergeSort fun x y => decide (x ≤ y))
theorem callees_take {l : List (Sm × Nat)} {i : Nat} (h : i < l.length) : callees (l.take (i+1)) = callees (l.take i) ++ (if l[i].1.op == 13 then [l[i].1.m] else []) := by
  rw [List.take_add_one]
  simp only [h, List.getElem?_eq_getElem, Option.toList, callees, List.filter_append, List.map_append]
  congr 1
  by_cases e : l[i].1.op == 13 <;> simp [e]
theorem callees_len (l : List (Sm × Nat)) : (callees l).length ≤ l.length := by
  unfold callees; rw [List.length_map]; exact List.length_filter_le _ _
theorem RoundS.map {It : Dat → List (List Dat) → Prop} {W ps : List Nat} {f : Dat} {asg body : St → (Out → St → Prop) → Prop} {K : Out → St → Prop} {s : St} {α ι : Type} (l : List α) (g : α → List Dat) (J : ι → Prop) (m : ι → Mods) (pos : ι → Nat) (i0 : ι)
    (hI : It f (l.map g)) (hl : ∀ x, (g x).length = ps.length) (hp : pos i0 = 0) (h0 : J i0) (hh : Holds s (s.with W (m i0)) (m i0)) (hd : deadH s W = true) (hr : deadR s (rowDsts W) = true)
    (ht : ∀ k, tidy W (rowDsts W) (m k) = true ∧ liveH s (m k).H = true ∧ liveR s (m k).R = true ∧ (m k).env = [])
    (hb : ∀ i, J i → ∀ h : pos i < l.length, asg ((s.with W (m i)).params ps (g l[pos i])) fun e s1 => match e with
        | .normal => body s1 fun e s' => match e with
          | .normal => ∃ j : { i // J i }, pos j.1 = pos i + 1 ∧ Holds s' (s.with W (m j.1)) (m j.1)
          | e => K e (s'.back (Hide W s.env))
        | _ => False)
    (he : ∀ i, J i → pos i = l.length → K .normal (s.with W (m i))) : RoundS It W ps f asg body K s := by
  refine ⟨l.map g, { i // J i }, ⟨i0, h0⟩, fun i => m i.1, fun i => pos i.1, hI, fun x hx => ?_, hp, hh, hd, hr, fun i => ⟨ht i.1, fun x hx => ?_, fun e => ?_⟩⟩
  · obtain ⟨y, _, rfl⟩ := List.mem_map.1 hx; exact hl y
  · rw [nth_eq, List.getElem?_map] at hx
    have hk : pos i.1 < l.length := by
      rcases Nat.lt_or_ge (pos i.1) l.length with h | h
      · exact h
      · rw [List.getElem?_eq_none h] at hx; cases hx
    rw [List.getElem?_eq_getElem hk] at hx
    have e : x = g l[pos i.1] := (Option.some.inj hx).symm
    rw [e]; exact hb i.1 i.2 hk
  · exact he i.1 i.2 (by simpa using e)
structure CR where
  k : Nat
  acc : List Dat
theorem shapeCalls_ok (d : Df) (h : szL d.body < 2^30) : CallsA Tryz.prog 20 [encD d] ct0 (ints (callsOf d.body)) ct0 := by
  have hI := all_iter d.body (by omega)
  have hlen := flL_len d.body 1
  refine fn_ok hm Tryz.func20 (fun f => Nat.beq f 51 || Nat.beq f 52) [] (fun _ => []) (by kernel_rfl) ?_
  refine run ?_; repeat ((apply call_ok; first | exact (all_ok d.body)); refine run ?_)
  refine RangeS.mk ⟨[.cell 3 0 20004], ?_⟩
  (conv => whnf)
  refine ⟨_, rfl, RoundS.map (flL d.body 1) encPl (fun r : CR => r.acc = (callees ((flL d.body 1).take r.k)).map it) (fun r => ⟨[], [(3, .ref 20004 r.acc.length)], [(20004, ⟨1, true, r.acc⟩)]⟩) (·.k) ⟨0, []⟩ hI (fun x => rfl) rfl rfl ?_ ?_ ?_ ?_ ?_ ?_⟩
  · repeat' (first | exact trivial | exact rfl | refine ⟨?_, ?_⟩ | refine ⟨?_, ?_, ?_⟩)
  · kernel_rfl
  · kernel_rfl
  · intro k; exact ⟨rfl, rfl, rfl, rfl⟩
  · intro r hJ hk
    have ht := callees_take hk
    have hc := callees_len ((flL d.body 1).take r.k)
    rw [List.length_take] at hc
    have hl : r.acc.length < 2^30 := by rw [hJ, List.length_map]; omega
    refine (Bool.eq_false_or_eq_true ((flL d.body 1)[r.k].1.op == 13)).elim (fun b1 => ?_) (fun b1 => ?_)
    · have hJ2 : r.acc ++ [it (flL d.body 1)[r.k].1.m] = (callees ((flL d.body 1).take (r.k + 1))).map it := by rw [ht, if_pos b1, hJ]; simp
      refine run ?_
      refine ⟨⟨⟨r.k + 1, _⟩, hJ2⟩, rfl, ?_⟩
      repeat' (first | exact trivial | exact rfl | refine ⟨?_, ?_⟩ | refine ⟨?_, ?_, ?_⟩)
    · have hJ2 : r.acc = (callees ((flL d.body 1).take (r.k + 1))).map it := by rw [ht, if_neg (by rw [b1]; simp), hJ]; simp
      refine run ?_
      refine ⟨⟨⟨r.k + 1, _⟩, hJ2⟩, rfl, ?_⟩
      repeat' (first | exact trivial | exact rfl | refine ⟨?_, ?_⟩ | refine ⟨?_, ?_, ?_⟩)
  · intro r hJ hk
    have hk : r.k = (flL d.body 1).length := hk
    rw [hk, List.take_of_length_le (Nat.le_refl _)] at hJ
    have hc := callees_len (flL d.body 1)
    have s1 : (callees (flL d.body 1)).length < 2^62 := by omega
    have s2 : ((callees (flL d.body 1)).mergeSort fun x y => decide (x ≤ y)).length < 2^62 := by rw [List.length_mergeSort]; exact s1
    rw [hJ]
    refine run ?_; repeat ((apply call_ok; first | exact (sort_ok _ s1) | exact (compact_ok _ s2)); refine run ?_)
    exact Done.mk rfl rfl
end Abs
namespace Abs
open Go Go.Proofs
set_option maxRecDepth 100000
set_option maxHeartbeats 4000000
theorem HeadS.of {W : List Nat} {body : St → (Out → St → Prop) → Prop} {K : Out → St → Prop} {s : St} {ι : Type} (J : ι → Prop) (m : ι → Mods) (μ : ι → Nat) (i0 : ι) (h0 : J i0) (hh : Holds s (s.with W (m i0)) (m i0))
    (hd : deadH s W = true) (hr : deadR s (rowDsts W) = true) (ht : ∀ i, tidy W (rowDsts W) (m i) = true ∧ liveH s (m i).H = true ∧ liveR s (m i).R = true)
    (hb : ∀ i, J i → body (s.with W (m i)) fun e s' => match e with
        | .normal => ∃ j : { i // J i }, μ j.1 < μ i ∧ s'.y = s.y ∧ Holds s' (s.with W (m j.1)) (m j.1)
        | e => K e s') : HeadS W body K s :=
  ⟨{ i // J i }, ⟨i0, h0⟩, fun i => m i.1, fun _ => s.y, fun i => μ i.1, ⟨rfl, hh⟩, hd, hr, fun i => ⟨ht i.1, hb i.1 i.2⟩⟩
theorem fm_take {α β : Type} {w : α → List β} {l : List α} {k : Nat} (h : k < l.length) : (l.take (k+1)).flatMap w = (l.take k).flatMap w ++ w l[k] := by
  rw [List.take_add_one, List.flatMap_append]; simp [h]
theorem fm_le1 {α β : Type} {w : α → List β} {l : List α} {k : Nat} (h : k < l.length) : ((l.take k).flatMap w).length + (w l[k]).length ≤ (l.flatMap w).length := by
  have e : l.flatMap w = (l.take (k+1)).flatMap w ++ (l.drop (k+1)).flatMap w := by rw [← List.flatMap_append, List.take_append_drop]
  rw [e, fm_take h]; simp
theorem fm_mem {α β : Type} {w : α → List β} {l : List α} {x : α} (h : x ∈ l) : (w x).length ≤ (l.flatMap w).length := by
  obtain ⟨k, hk, rfl⟩ := List.getElem_of_mem h
  have := fm_le1 (w := w) hk; omega
def wl {α : Type} (w : α → List Int) (l : List α) : List Int := (l.length : Int) :: l.flatMap w
theorem wl_len {α : Type} (w : α → List Int) (l : List α) : (wl w l).length = 1 + (l.flatMap w).length := by simp [wl]; omega
theorem wl_mem {α : Type} {w : α → List Int} {l : List α} {x : α} (h : x ∈ l) : (w x).length ≤ (wl w l).length := by rw [wl_len]; have := fm_mem (w := w) h; omega
theorem one_ok (n : Int) : CallsA Tryz.prog 162 [it n] ct0 (ints [n]) ct0 := by
  refine fn_ok hm Tryz.func162 (fun _ => false) [] (fun _ => []) (by kernel_rfl) ?_
  refine run ?_
  exact Done.mk rfl rfl
def wR (r : Rng) : List Int := [r.lo, r.hi, r.mask]
def wA (r : Ar) : List Int := [r.len, r.of']
theorem span_ok (r : Rng) : CallsA Tryz.prog 159 [encR r] ct0 (ints (wR r)) ct0 := by
  refine fn_ok hm Tryz.func159 (fun _ => false) [] (fun _ => []) (by kernel_rfl) ?_
  refine run ?_
  exact Done.mk rfl rfl
theorem array_ok (r : Ar) : CallsA Tryz.prog 161 [encA r] ct0 (ints (wA r)) ct0 := by
  refine fn_ok hm Tryz.func161 (fun _ => false) [] (fun _ => []) (by kernel_rfl) ?_
  refine run ?_
  exact Done.mk rfl rfl
theorem letter_ok (b : UInt8) : CallsA Tryz.prog 156 [.int .u8 b.toNat] ct0 (ints [(b.toNat : Int)]) ct0 := by
  have hb := UInt8.toNat_lt b
  refine fn_ok hm Tryz.func156 (fun _ => false) [] (fun _ => []) (by kernel_rfl) ?_
  refine run ?_
  exact Done.mk rfl rfl
theorem list155_ok {l : List UInt8} (w : UInt8 → List Int) (f : FuncId) (hx : ∀ x ∈ l, CallsA Tryz.prog f [(fun b : UInt8 => Dat.int .u8 b.toNat) x] ct0 (ints (w x)) ct0) (hb : (wl w l).length < 2^31) (hl : l.length < 2^31) :
    CallsA Tryz.prog 155 [.sl 1 (l.map (fun b : UInt8 => Dat.int .u8 b.toNat)) false, fun0 f] ct0 (ints (wl w l)) ct0 := by
  rw [wl_len] at hb
  refine fn_ok hm Tryz.func155 (fun _ => false) [] (fun _ => []) (by kernel_rfl) ?_
  refine run ?_
  refine LoopS.mk ⟨[], HeadS.lp (fun r : CR => r.k ≤ l.length ∧ r.acc = it ((l.map (fun b : UInt8 => Dat.int .u8 b.toNat)).length : Nat) :: ((l.take r.k).flatMap w).map it) (fun r => ⟨[(13, it r.k), (5, .ref 10 r.acc.length)], [], [(10, ⟨1, true, r.acc⟩)]⟩) (fun r => l.length - r.k) ⟨0, [it ((l.map (fun b : UInt8 => Dat.int .u8 b.toNat)).length : Nat)]⟩ ⟨Nat.zero_le _, by simp⟩ ?_⟩
  intro r hJ
  obtain ⟨h1, h2⟩ := hJ
  by_cases hk : r.k < l.length
  · have b1 : decide ((r.k : Int) < ((l.map (fun b : UInt8 => Dat.int .u8 b.toNat)).length : Nat)) = true := by simp; exact hk
    have hc := hx l[r.k] (List.getElem_mem hk)
    have hle := fm_le1 (w := w) hk
    have hlen : r.acc.length = 1 + ((l.take r.k).flatMap w).length := by rw [h2]; simp; omega
    have hN : r.acc ++ (w l[r.k]).map it = it ((l.map (fun b : UInt8 => Dat.int .u8 b.toNat)).length : Nat) :: ((l.take (r.k + 1)).flatMap w).map it := by rw [h2, fm_take hk]; simp
    refine run ?_
    refine Idx.map hk rfl ?_
    refine run ?_; repeat ((apply call_ok; first | exact (hc)); refine run ?_)
    refine ⟨⟨⟨r.k + 1, _⟩, ⟨hk, hN⟩⟩, Nat.sub_lt_sub_left hk (Nat.lt_succ_self _), ?_⟩
    repeat' (first | exact trivial | exact rfl | refine ⟨?_, ?_⟩ | refine ⟨?_, ?_, ?_⟩)
  · have b1 : decide ((r.k : Int) < ((l.map (fun b : UInt8 => Dat.int .u8 b.toNat)).length : Nat)) = false := by simp; omega
    have e : r.acc = (wl w l).map it := by rw [h2, List.take_of_length_le (by omega)]; simp [wl]
    refine run ?_
    exact Done.mk (congrArg (fun x => Dat.sl 1 x false) e) rfl
theorem list158_ok {l : List Rng} (w : Rng → List Int) (f : FuncId) (hx : ∀ x ∈ l, CallsA Tryz.prog f [encR x] ct0 (ints (w x)) ct0) (hb : (wl w l).length < 2^31) (hl : l.length < 2^31) :
    CallsA Tryz.prog 158 [.sl 3 (l.map encR) false, fun0 f] ct0 (ints (wl w l)) ct0 := by
  rw [wl_len] at hb
  refine fn_ok hm Tryz.func158 (fun _ => false) [] (fun _ => []) (by kernel_rfl) ?_
  refine run ?_
  refine LoopS.mk ⟨[], HeadS.lp (fun r : CR => r.k ≤ l.length ∧ r.acc = it ((l.map encR).length : Nat) :: ((l.take r.k).flatMap w).map it) (fun r => ⟨[(13, it r.k), (5, .ref 10 r.acc.length)], [], [(10, ⟨1, true, r.acc⟩)]⟩) (fun r => l.length - r.k) ⟨0, [it ((l.map encR).length : Nat)]⟩ ⟨Nat.zero_le _, by simp⟩ ?_⟩
  intro r hJ
  obtain ⟨h1, h2⟩ := hJ
  by_cases hk : r.k < l.length
  · have b1 : decide ((r.k : Int) < ((l.map encR).length : Nat)) = true := by simp; exact hk
    have hc := hx l[r.k] (List.getElem_mem hk)
    have hle := fm_le1 (w := w) hk
    have hlen : r.acc.length = 1 + ((l.take r.k).flatMap w).length := by rw [h2]; simp; omega
    have hN : r.acc ++ (w l[r.k]).map it = it ((l.map encR).length : Nat) :: ((l.take (r.k + 1)).flatMap w).map it := by rw [h2, fm_take hk]; simp
    refine run ?_
    refine Idx.map hk rfl ?_
    refine run ?_; repeat ((apply call_ok; first | exact (hc)); refine run ?_)
    refine ⟨⟨⟨r.k + 1, _⟩, ⟨hk, hN⟩⟩, Nat.sub_lt_sub_left hk (Nat.lt_succ_self _), ?_⟩
    repeat' (first | exact trivial | exact rfl | refine ⟨?_, ?_⟩ | refine ⟨?_, ?_, ?_⟩)
  · have b1 : decide ((r.k : Int) < ((l.map encR).length : Nat)) = false := by simp; omega
    have e : r.acc = (wl w l).map it := by rw [h2, List.take_of_length_le (by omega)]; simp [wl]
    refine run ?_
    exact Done.mk (congrArg (fun x => Dat.sl 1 x false) e) rfl
theorem list160_ok {l : List Ar} (w : Ar → List Int) (f : FuncId) (hx : ∀ x ∈ l, CallsA Tryz.prog f [encA x] ct0 (ints (w x)) ct0) (hb : (wl w l).length < 2^31) (hl : l.length < 2^31) :
    CallsA Tryz.prog 160 [.sl 2 (l.map encA) false, fun0 f] ct0 (ints (wl w l)) ct0 := by
  rw [wl_len] at hb
  refine fn_ok hm Tryz.func160 (fun _ => false) [] (fun _ => []) (by kernel_rfl) ?_
  refine run ?_
  refine LoopS.mk ⟨[], HeadS.lp (fun r : CR => r.k ≤ l.length ∧ r.acc = it ((l.map encA).length : Nat) :: ((l.take r.k).flatMap w).map it) (fun r => ⟨[(13, it r.k), (5, .ref 10 r.acc.length)], [], [(10, ⟨1, true, r.acc⟩)]⟩) (fun r => l.length - r.k) ⟨0, [it ((l.map encA).length : Nat)]⟩ ⟨Nat.zero_le _, by simp⟩ ?_⟩
  intro r hJ
  obtain ⟨h1, h2⟩ := hJ
  by_cases hk : r.k < l.length
  · have b1 : decide ((r.k : Int) < ((l.map encA).length : Nat)) = true := by simp; exact hk
    have hc := hx l[r.k] (List.getElem_mem hk)
    have hle := fm_le1 (w := w) hk
    have hlen : r.acc.length = 1 + ((l.take r.k).flatMap w).length := by rw [h2]; simp; omega
    have hN : r.acc ++ (w l[r.k]).map it = it ((l.map encA).length : Nat) :: ((l.take (r.k + 1)).flatMap w).map it := by rw [h2, fm_take hk]; simp
    refine run ?_
    refine Idx.map hk rfl ?_
    refine run ?_; repeat ((apply call_ok; first | exact (hc)); refine run ?_)
    refine ⟨⟨⟨r.k + 1, _⟩, ⟨hk, hN⟩⟩, Nat.sub_lt_sub_left hk (Nat.lt_succ_self _), ?_⟩
    repeat' (first | exact trivial | exact rfl | refine ⟨?_, ?_⟩ | refine ⟨?_, ?_, ?_⟩)
  · have b1 : decide ((r.k : Int) < ((l.map encA).length : Nat)) = false := by simp; omega
    have e : r.acc = (wl w l).map it := by rw [h2, List.take_of_length_le (by omega)]; simp [wl]
    refine run ?_
    exact Done.mk (congrArg (fun x => Dat.sl 1 x false) e) rfl
theorem list191_ok {l : List Int} (w : Int → List Int) (f : FuncId) (hx : ∀ x ∈ l, CallsA Tryz.prog f [it x] ct0 (ints (w x)) ct0) (hb : (wl w l).length < 2^31) (hl : l.length < 2^31) :
    CallsA Tryz.prog 191 [.sl 1 (l.map it) false, fun0 f] ct0 (ints (wl w l)) ct0 := by
  rw [wl_len] at hb
  refine fn_ok hm Tryz.func191 (fun _ => false) [] (fun _ => []) (by kernel_rfl) ?_
  refine run ?_
  refine LoopS.mk ⟨[], HeadS.lp (fun r : CR => r.k ≤ l.length ∧ r.acc = it ((l.map it).length : Nat) :: ((l.take r.k).flatMap w).map it) (fun r => ⟨[(13, it r.k), (5, .ref 10 r.acc.length)], [], [(10, ⟨1, true, r.acc⟩)]⟩) (fun r => l.length - r.k) ⟨0, [it ((l.map it).length : Nat)]⟩ ⟨Nat.zero_le _, by simp⟩ ?_⟩
  intro r hJ
  obtain ⟨h1, h2⟩ := hJ
  by_cases hk : r.k < l.length
  · have b1 : decide ((r.k : Int) < ((l.map it).length : Nat)) = true := by simp; exact hk
    have hc := hx l[r.k] (List.getElem_mem hk)
    have hle := fm_le1 (w := w) hk
    have hlen : r.acc.length = 1 + ((l.take r.k).flatMap w).length := by rw [h2]; simp; omega
    have hN : r.acc ++ (w l[r.k]).map it = it ((l.map it).length : Nat) :: ((l.take (r.k + 1)).flatMap w).map it := by rw [h2, fm_take hk]; simp
    refine run ?_
    refine Idx.map hk rfl ?_
    refine run ?_; repeat ((apply call_ok; first | exact (hc)); refine run ?_)
    refine ⟨⟨⟨r.k + 1, _⟩, ⟨hk, hN⟩⟩, Nat.sub_lt_sub_left hk (Nat.lt_succ_self _), ?_⟩
    repeat' (first | exact trivial | exact rfl | refine ⟨?_, ?_⟩ | refine ⟨?_, ?_, ?_⟩)
  · have b1 : decide ((r.k : Int) < ((l.map it).length : Nat)) = false := by simp; omega
    have e : r.acc = (wl w l).map it := by rw [h2, List.take_of_length_le (by omega)]; simp [wl]
    refine run ?_
    exact Done.mk (congrArg (fun x => Dat.sl 1 x false) e) rfl
theorem list190_ok {l : List Ex} (w : Ex → List Int) (f : FuncId) (hx : ∀ x ∈ l, CallsA Tryz.prog f [encE x] ct0 (ints (w x)) ct0) (hb : (wl w l).length < 2^31) (hl : l.length < 2^31) :
    CallsA Tryz.prog 190 [.sl 4 (l.map encE) false, fun0 f] ct0 (ints (wl w l)) ct0 := by
  rw [wl_len] at hb
  refine fn_ok hm Tryz.func190 (fun _ => false) [] (fun _ => []) (by kernel_rfl) ?_
  refine run ?_
  refine LoopS.mk ⟨[], HeadS.lp (fun r : CR => r.k ≤ l.length ∧ r.acc = it ((l.map encE).length : Nat) :: ((l.take r.k).flatMap w).map it) (fun r => ⟨[(13, it r.k), (5, .ref 10 r.acc.length)], [], [(10, ⟨1, true, r.acc⟩)]⟩) (fun r => l.length - r.k) ⟨0, [it ((l.map encE).length : Nat)]⟩ ⟨Nat.zero_le _, by simp⟩ ?_⟩
  intro r hJ
  obtain ⟨h1, h2⟩ := hJ
  by_cases hk : r.k < l.length
  · have b1 : decide ((r.k : Int) < ((l.map encE).length : Nat)) = true := by simp; exact hk
    have hc := hx l[r.k] (List.getElem_mem hk)
    have hle := fm_le1 (w := w) hk
    have hlen : r.acc.length = 1 + ((l.take r.k).flatMap w).length := by rw [h2]; simp; omega
    have hN : r.acc ++ (w l[r.k]).map it = it ((l.map encE).length : Nat) :: ((l.take (r.k + 1)).flatMap w).map it := by rw [h2, fm_take hk]; simp
    refine run ?_
    refine Idx.map hk rfl ?_
    refine run ?_; repeat ((apply call_ok; first | exact (hc)); refine run ?_)
    refine ⟨⟨⟨r.k + 1, _⟩, ⟨hk, hN⟩⟩, Nat.sub_lt_sub_left hk (Nat.lt_succ_self _), ?_⟩
    repeat' (first | exact trivial | exact rfl | refine ⟨?_, ?_⟩ | refine ⟨?_, ?_, ?_⟩)
  · have b1 : decide ((r.k : Int) < ((l.map encE).length : Nat)) = false := by simp; omega
    have e : r.acc = (wl w l).map it := by rw [h2, List.take_of_length_le (by omega)]; simp [wl]
    refine run ?_
    exact Done.mk (congrArg (fun x => Dat.sl 1 x false) e) rfl
theorem list210_ok {l : List Co} (w : Co → List Int) (f : FuncId) (hx : ∀ x ∈ l, CallsA Tryz.prog f [encC x] ct0 (ints (w x)) ct0) (hb : (wl w l).length < 2^31) (hl : l.length < 2^31) :
    CallsA Tryz.prog 210 [.sl 3 (l.map encC) false, fun0 f] ct0 (ints (wl w l)) ct0 := by
  rw [wl_len] at hb
  refine fn_ok hm Tryz.func210 (fun _ => false) [] (fun _ => []) (by kernel_rfl) ?_
  refine run ?_
  refine LoopS.mk ⟨[], HeadS.lp (fun r : CR => r.k ≤ l.length ∧ r.acc = it ((l.map encC).length : Nat) :: ((l.take r.k).flatMap w).map it) (fun r => ⟨[(13, it r.k), (5, .ref 10 r.acc.length)], [], [(10, ⟨1, true, r.acc⟩)]⟩) (fun r => l.length - r.k) ⟨0, [it ((l.map encC).length : Nat)]⟩ ⟨Nat.zero_le _, by simp⟩ ?_⟩
  intro r hJ
  obtain ⟨h1, h2⟩ := hJ
  by_cases hk : r.k < l.length
  · have b1 : decide ((r.k : Int) < ((l.map encC).length : Nat)) = true := by simp; exact hk
    have hc := hx l[r.k] (List.getElem_mem hk)
    have hle := fm_le1 (w := w) hk
    have hlen : r.acc.length = 1 + ((l.take r.k).flatMap w).length := by rw [h2]; simp; omega
    have hN : r.acc ++ (w l[r.k]).map it = it ((l.map encC).length : Nat) :: ((l.take (r.k + 1)).flatMap w).map it := by rw [h2, fm_take hk]; simp
    refine run ?_
    refine Idx.map hk rfl ?_
    refine run ?_; repeat ((apply call_ok; first | exact (hc)); refine run ?_)
    refine ⟨⟨⟨r.k + 1, _⟩, ⟨hk, hN⟩⟩, Nat.sub_lt_sub_left hk (Nat.lt_succ_self _), ?_⟩
    repeat' (first | exact trivial | exact rfl | refine ⟨?_, ?_⟩ | refine ⟨?_, ?_, ?_⟩)
  · have b1 : decide ((r.k : Int) < ((l.map encC).length : Nat)) = false := by simp; omega
    have e : r.acc = (wl w l).map it := by rw [h2, List.take_of_length_le (by omega)]; simp [wl]
    refine run ?_
    exact Done.mk (congrArg (fun x => Dat.sl 1 x false) e) rfl
theorem list163_ok {l : List Sm} (w : Sm → List Int) (f : FuncId) (hx : ∀ x ∈ l, CallsA Tryz.prog f [encS x] ct0 (ints (w x)) ct0) (hb : (wl w l).length < 2^31) (hl : l.length < 2^31) :
    CallsA Tryz.prog 163 [.sl 20 (l.map encS) false, fun0 f] ct0 (ints (wl w l)) ct0 := by
  rw [wl_len] at hb
  refine fn_ok hm Tryz.func163 (fun _ => false) [] (fun _ => []) (by kernel_rfl) ?_
  refine run ?_
  refine LoopS.mk ⟨[], HeadS.lp (fun r : CR => r.k ≤ l.length ∧ r.acc = it ((l.map encS).length : Nat) :: ((l.take r.k).flatMap w).map it) (fun r => ⟨[(13, it r.k), (5, .ref 10 r.acc.length)], [], [(10, ⟨1, true, r.acc⟩)]⟩) (fun r => l.length - r.k) ⟨0, [it ((l.map encS).length : Nat)]⟩ ⟨Nat.zero_le _, by simp⟩ ?_⟩
  intro r hJ
  obtain ⟨h1, h2⟩ := hJ
  by_cases hk : r.k < l.length
  · have b1 : decide ((r.k : Int) < ((l.map encS).length : Nat)) = true := by simp; exact hk
    have hc := hx l[r.k] (List.getElem_mem hk)
    have hle := fm_le1 (w := w) hk
    have hlen : r.acc.length = 1 + ((l.take r.k).flatMap w).length := by rw [h2]; simp; omega
    have hN : r.acc ++ (w l[r.k]).map it = it ((l.map encS).length : Nat) :: ((l.take (r.k + 1)).flatMap w).map it := by rw [h2, fm_take hk]; simp
    refine run ?_
    refine Idx.map hk rfl ?_
    refine run ?_; repeat ((apply call_ok; first | exact (hc)); refine run ?_)
    refine ⟨⟨⟨r.k + 1, _⟩, ⟨hk, hN⟩⟩, Nat.sub_lt_sub_left hk (Nat.lt_succ_self _), ?_⟩
    repeat' (first | exact trivial | exact rfl | refine ⟨?_, ?_⟩ | refine ⟨?_, ?_, ?_⟩)
  · have b1 : decide ((r.k : Int) < ((l.map encS).length : Nat)) = false := by simp; omega
    have e : r.acc = (wl w l).map it := by rw [h2, List.take_of_length_le (by omega)]; simp [wl]
    refine run ?_
    exact Done.mk (congrArg (fun x => Dat.sl 1 x false) e) rfl
theorem concat_ok (ls : List (List Int)) (hb : ls.flatten.length < 2^31) (hl : ls.length < 2^31) : CallsA Tryz.prog 157 [.sl 1 (ls.map ints) false] ct0 (ints ls.flatten) ct0 := by
  refine fn_ok hm Tryz.func157 (fun _ => false) [] (fun _ => []) (by kernel_rfl) ?_
  refine run ?_
  refine LoopS.mk ⟨[.tmp 3 20003], HeadS.lp (fun r : CR => r.k ≤ ls.length ∧ r.acc = ((ls.take r.k).flatMap id).map it) (fun r => ⟨[(8, it r.k), (3, .ref 20003 r.acc.length)], [], [(20003, ⟨1, true, r.acc⟩)]⟩) (fun r => ls.length - r.k) ⟨0, []⟩ ⟨Nat.zero_le _, by simp⟩ ?_⟩
  intro r hJ
  obtain ⟨h1, h2⟩ := hJ
  have hf : ls.flatMap id = ls.flatten := by simp [List.flatMap]
  by_cases hk : r.k < ls.length
  · have b1 : decide ((r.k : Int) < ((ls.map ints).length : Nat)) = true := by simp; exact hk
    have hle := fm_le1 (w := id) hk
    rw [hf, id] at hle
    have hlen : r.acc.length = ((ls.take r.k).flatMap id).length := by rw [h2, List.length_map]
    have hN : r.acc ++ (ls[r.k]).map it = ((ls.take (r.k + 1)).flatMap id).map it := by rw [h2, fm_take hk]; simp
    refine run ?_
    refine Idx.map hk rfl ?_
    refine run ?_
    refine ⟨⟨⟨r.k + 1, _⟩, ⟨hk, hN⟩⟩, Nat.sub_lt_sub_left hk (Nat.lt_succ_self _), ?_⟩
    repeat' (first | exact trivial | exact rfl | refine ⟨?_, ?_⟩ | refine ⟨?_, ?_, ?_⟩)
  · have b1 : decide ((r.k : Int) < ((ls.map ints).length : Nat)) = false := by simp; omega
    have e : r.acc = ls.flatten.map it := by rw [h2, List.take_of_length_le (by omega), hf]
    refine run ?_
    exact Done.mk (congrArg (fun x => Dat.sl 1 x false) e) rfl
end Abs
namespace Abs
open Go Go.Proofs
set_option maxRecDepth 100000
set_option maxHeartbeats 4000000
structure MdR where
  i : Nat
  x : MdS
theorem exN {x : Int} (h : 0 ≤ x ∧ x < 4) : ∃ n : Nat, 1 + x = (n : Int) ∧ n ≤ 4 ∧ 0 < n := ⟨(1 + x).toNat, by omega, by omega, by omega⟩
structure TR where
  k : Nat
  t : List Int
  acc : List Dat
def ctMA (m : Mk) (acc : List Dat) (a s l p d : Nat) : Ct := ⟨[.agg ([byt m.L, it a] ++ (cDc m.d ++ ([.ref 1000 (m.heads.map encH).length, .ref 1001 (m.defs.map encD).length, .ref 1002 acc.length] ++ (cD m.D ++ [it s, it l, it p, it d, bo m.calm]))))], [⟨5, true, m.heads.map encH⟩, ⟨12, true, m.defs.map encD⟩, ⟨1, true, acc⟩]⟩
def encMkT (m : Mk) (acc : List Dat) (h k t : Nat) (a s l p d : Nat) : Dat := .agg ([byt m.L, it a] ++ (cDc m.d ++ ([.ref h (m.heads.map encH).length, .ref k (m.defs.map encD).length, .ref t acc.length] ++ (cD m.D ++ [it s, it l, it p, it d, bo m.calm]))))
theorem nextT_ok (m : Mk) (acc : List Dat) (ha : acc = m.th.map it) (a s l p d : Nat) (n : Int) (h : a < 2^60) (hn : 0 < n) : CallsA Tryz.prog 109 [mp, it n] (ctMA m acc a s l p d) (it (m.nx a n)) (ctMA m acc (a + 1) s l p d) := by
  subst ha; exact next_ok m a s l p d n h hn
theorem th_zero {ds : List Df} {k : Nat} {t T : List Int} (h : ¬ 0 < k) (e : thRun ds k t = T) : t = T := by
  rw [show k = 0 by omega] at e; exact e
theorem th_end {ds : List Df} {k : Nat} {t T : List Int} (g : ¬ t.length < 2) (h : 0 < k) (e : thRun ds k t = T) : t = T := by
  obtain ⟨j, rfl⟩ : ∃ j, k = j + 1 := ⟨k - 1, by omega⟩
  rw [thRun, if_neg g] at e; exact e
theorem th_step {ds : List Df} {k : Nat} {t : List Int} (hj : k - 1 < ds.length) (g : t.length < 2) (h : 0 < k) : thRun ds k t = thRun ds (k - 1) (if ds[k - 1].params.length + ds[k - 1].given.length = 0 then t ++ [ds[k - 1].id] else t) := by
  obtain ⟨j, rfl⟩ : ∃ j, k = j + 1 := ⟨k - 1, by omega⟩
  have hj : j < ds.length := hj
  rw [thRun, if_pos g, List.getElem?_eq_getElem hj]; rfl
theorem thRun_ge : ∀ (ds : List Df) (k : Nat) (t : List Int), t.length ≤ (thRun ds k t).length
  | ds, 0, t => Nat.le_refl _
  | ds, k + 1, t => by
    rw [thRun]
    split
    · refine Nat.le_trans ?_ (thRun_ge ds k _)
      split
      · split
        · simp
        · exact Nat.le_refl _
      · exact Nat.le_refl _
    · exact Nat.le_refl _
theorem defOf_last (L : List UInt8) (i : Nat) (x : MdS) (h : ∀ y ∈ x.heads, y.params.length ≤ 12 ∧ y.given.length ≤ 12) : (defOf L true i x).1.params.length + (defOf L true i x).1.given.length = 0 := by
  have u := (x.mk' L).defR_use h
  have e1 : lastT L true x = true := rfl
  unfold defOf Mk.def'
  rw [e1]
  have := u (11 + i) (lastA true x) x.s
  simp only [Bool.not_true, Bool.and_false]
  rw [(this _ _ _ _ _).2.2.2.2.1, (this _ _ _ _ _).2.2.2.2.2]; simp
theorem mdRun_defs (L : List UInt8) (n : Nat) : ∀ i, ∀ y ∈ (mdRun L n i).defs, y.params.length ≤ 12 ∧ y.given.length ≤ 12
  | 0 => by simp [mdRun]
  | i + 1 => by
    have h := mdRun_ok L n i
    have u := ((mdRun L n i).mk' L).def_use h.heads (11 + i) (lastT L (i + 1 == n) (mdRun L n i)) (lastA (i + 1 == n) (mdRun L n i)) (mdRun L n i).s
    intro y hy
    rcases List.mem_append.1 hy with hy | hy
    · exact mdRun_defs L n i y hy
    · have e := List.mem_singleton.1 hy
      subst e
      exact ⟨Nat.le_trans u.2.2.2.2.1 (by omega), Nat.le_trans u.2.2.2.2.2 (by omega)⟩
theorem thRun_pos (L : List UInt8) (n : Nat) (h0 : 0 < n) (h4 : n ≤ 4) : 0 < (thRun (mdRun L n n).defs n []).length := by
  obtain ⟨j, rfl⟩ : ∃ j, n = j + 1 := ⟨n - 1, by omega⟩
  have ok := mdRun_ok L (j + 1) j
  have hd : (mdRun L (j + 1) (j + 1)).defs = (mdRun L (j + 1) j).defs ++ [(defOf L true j (mdRun L (j + 1) j)).1] := by
    rw [mdRun, show (j + 1 == j + 1) = true by simp]; rfl
  have h := defOf_last L j (mdRun L (j + 1) j) ok.heads
  have hl := ok.nd
  have hj : (mdRun L (j + 1) (j + 1)).defs[j]? = some (defOf L true j (mdRun L (j + 1) j)).1 := by
    rw [hd, List.getElem?_append_right (by omega), hl]; simp
  rw [thRun, if_pos (by simp), hj]
  refine Nat.lt_of_lt_of_le ?_ (thRun_ge _ _ _)
  simp only
  rw [if_pos h]; simp
theorem lst_app {α : Type} (f : α → Dat) (a : List α) (b : α) : (a ++ [b]).map f = a.map f ++ [f b] := by simp
theorem made_ok (L : List UInt8) : CallsA Tryz.prog 66 [.agg [byt L], bo false] ct0 (encP (madeP L)) ct0 := by
  have n0 := (⟨L, declD, [], [], [], zD, false⟩ : Mk).nx_bd 0 (n := 4) (by omega)
  have hex : ∃ n : Nat, 1 + (⟨L, declD, [], [], [], zD, false⟩ : Mk).nx 0 4 = (n : Int) ∧ n ≤ 4 ∧ 0 < n := exN n0
  refine hex.elim fun n hn => ?_
  have hn' := hn.1
  have hn1 := hn.2.1
  have hn0 := hn.2.2
  have c1 := next_ok (⟨L, declD, [], [], [], zD, false⟩ : Mk) 0 100 0 0 0 4 (by omega) (by omega)
  have tnz := thRun_pos L n hn0 hn1
  have hmP : madeP L = ⟨declD, (mdRun L n n).heads, (mdRun L n n).defs, if ((mdRun L n n).mk' L).nx (mdRun L n n).a 3 == 0 then (thRun (mdRun L n n).defs n []).take 1 else thRun (mdRun L n n).defs n []⟩ := by
    have e : (1 + (zD, (⟨L, declD, [], [], [], zD, false⟩ : Mk).nx 0 4).2).toNat = n := by
      show (1 + (⟨L, declD, [], [], [], zD, false⟩ : Mk).nx 0 4).toNat = n
      rw [hn']; exact Int.toNat_natCast n
    unfold madeP
    rw [e]
  have hT : ∃ T, T = thRun (mdRun L n n).defs n [] := ⟨_, rfl⟩
  refine hT.elim fun T hT => ?_
  rw [← hT] at tnz hmP
  have hR : ∃ R, R = madeP L := ⟨_, rfl⟩
  refine hR.elim fun R hR => ?_
  rw [← hR]
  rw [hmP] at hR
  refine fn_ok hm Tryz.func66 (fun _ => false) [false] hintMade (by kernel_rfl) ?_
  refine run ?_; repeat ((apply call_ok; first | exact (declared_ok) | exact (c1)); refine run ?_)
  refine LoopS.mk ⟨[], HeadS.of (fun r : MdR => r.i ≤ n ∧ r.x = mdRun L n r.i) (fun r => ⟨[(7, it r.i)], [(15, encMkN (r.x.mk' L) 16 17 18 r.x.a r.x.s r.x.l 0 r.x.d)], [(16, ⟨5, true, r.x.heads.map encH⟩), (17, ⟨12, true, r.x.defs.map encD⟩), (18, ⟨1, true, []⟩)]⟩)
    (fun r => n - r.i) ⟨0, ⟨1, 100, 0, 0, [], [], zD⟩⟩ ⟨Nat.zero_le _, rfl⟩ ?_ ?_ ?_ ?_ ?_⟩
  · repeat' (first | exact trivial | exact rfl | refine ⟨?_, ?_⟩ | refine ⟨?_, ?_, ?_⟩)
  · kernel_rfl
  · kernel_rfl
  · intro r; exact ⟨rfl, rfl, rfl⟩
  intro r hJ
  have j1 := hJ.1
  have j2 := hJ.2
  have ok := mdRun_ok L n r.i
  rw [← j2] at ok
  have oa := ok.a
  have os := ok.s
  have oh := ok.nh
  have od := ok.nd
  by_cases hk : r.i < n
  · have b1 : decide ((r.i : Int) < (n : Int)) = true := by simp; exact hk
    have hsu : r.x.after (defOf L (r.i + 1 == n) r.i r.x) = mdRun L n (r.i + 1) := by rw [j2]; rfl
    by_cases hl : r.i + 1 = n
    · have b2 : ((r.i : Int) == (n : Int) - 1) = true := by simp; omega
      have b3 : (r.i + 1 == n) = true := by simp; exact hl
      have c2 := def_ok (r.x.mk' L) (11 + r.i) true r.x.a r.x.s r.x.l 0 r.x.d ⟨rfl, ok.heads, by show r.x.heads.length < _; omega⟩ (by omega) (by omega) (by omega) (by omega) ⟨by show r.x.heads.length < _; omega, by show r.x.defs.length < _; omega⟩
      rw [b3] at hsu
      refine run ?_; repeat ((apply call_ok; first | exact (c2)); refine run ?_)
      refine ⟨⟨⟨r.i + 1, _⟩, ⟨hk, hsu⟩⟩, Nat.sub_lt_sub_left hk (Nat.lt_succ_self _), ?_⟩
      repeat' (first | exact trivial | exact rfl | refine ⟨?_, ?_⟩ | refine ⟨?_, ?_, ?_⟩)
    · have b2 : ((r.i : Int) == (n : Int) - 1) = false := by simp; omega
      have b3 : (r.i + 1 == n) = false := by simp; exact hl
      have c0 := next_ok (r.x.mk' L) r.x.a r.x.s r.x.l 0 r.x.d 5 (by omega) (by omega)
      have c2 := def_ok (r.x.mk' L) (11 + r.i) ((r.x.mk' L).nx r.x.a 5 == 0) (r.x.a + 1) r.x.s r.x.l 0 r.x.d ⟨rfl, ok.heads, by show r.x.heads.length < _; omega⟩ (by omega) (by omega) (by omega) (by omega) ⟨by show r.x.heads.length < _; omega, by show r.x.defs.length < _; omega⟩
      rw [b3] at hsu
      refine run ?_; repeat ((apply call_ok; first | exact (c0) | exact (c2)); refine run ?_)
      refine ⟨⟨⟨r.i + 1, _⟩, ⟨hk, hsu⟩⟩, Nat.sub_lt_sub_left hk (Nat.lt_succ_self _), ?_⟩
      repeat' (first | exact trivial | exact rfl | refine ⟨?_, ?_⟩ | refine ⟨?_, ?_, ?_⟩)
  have b1 : decide ((r.i : Int) < (n : Int)) = false := by simp; omega
  have hin : r.i = n := by omega
  rw [hin] at j2 od
  have hRx : R = ⟨declD, r.x.heads, r.x.defs, if (r.x.mk' L).nx r.x.a 3 == 0 then T.take 1 else T⟩ := by rw [j2]; exact hR
  have hTx : thRun r.x.defs n [] = T := by rw [j2]; exact hT.symm
  refine run ?_
  refine LoopS.mk ⟨[], HeadS.of (fun q : TR => q.k ≤ n ∧ q.t.length ≤ 2 ∧ thRun r.x.defs q.k q.t = T ∧ q.acc = q.t.map it) (fun q => ⟨[(8, it ((q.k : Int) - 1))], [(15, encMkT ⟨L, declD, r.x.heads, r.x.defs, q.t, r.x.D, false⟩ q.acc 16 17 18 r.x.a r.x.s r.x.l 0 r.x.d)], [(18, ⟨1, true, q.acc⟩)]⟩)
    (fun q => q.k) ⟨n, [], []⟩ ⟨Nat.le_refl _, by simp, hTx, rfl⟩ ?_ ?_ ?_ ?_ ?_⟩
  · repeat' (first | exact trivial | exact rfl | refine ⟨?_, ?_⟩ | refine ⟨?_, ?_, ?_⟩)
  · kernel_rfl
  · kernel_rfl
  · intro r; exact ⟨rfl, rfl, rfl⟩
  intro q hq
  have q1 := hq.1
  have q2 := hq.2.1
  have q3 := hq.2.2.1
  have q4 := hq.2.2.2
  have a1 : (q.k : Int) - 1 - 1 = ((q.k - 1 : Nat) : Int) - 1 ∨ q.k = 0 := by omega
  by_cases gk : 0 < q.k
  · have d1 : decide ((q.k : Int) - 1 ≥ 0) = true := by simp; omega
    have a2 : (q.k : Int) - 1 - 1 = ((q.k - 1 : Nat) : Int) - 1 := by omega
    by_cases g2 : q.t.length < 2
    · have d2 : decide ((q.acc.length : Int) < 2) = true := by rw [q4, List.length_map]; simp; omega
      have q5 : q.acc.length < 2 := by rw [q4, List.length_map]; exact g2
      have hj : q.k - 1 < r.x.defs.length := by omega
      have hi : nth (r.x.defs.map encD) (((q.k : Int) - 1).toNat) = some (encD r.x.defs[q.k - 1]) := by
        rw [show ((q.k : Int) - 1).toNat = q.k - 1 by omega, nth_map, nth_get hj]; rfl
      have hst := th_step hj g2 gk
      have hk1 : q.k - 1 ≤ n := by omega
      have hk2 : q.k - 1 < q.k := by omega
      have hk3 : (q.t ++ [r.x.defs[q.k - 1].id]).length ≤ 2 := by rw [List.length_append, List.length_singleton]; omega
      have hk4 : q.acc ++ [it r.x.defs[q.k - 1].id] = (q.t ++ [r.x.defs[q.k - 1].id]).map it := by rw [q4, List.map_append]; rfl
      have hpl := mdRun_defs L n n r.x.defs[q.k - 1] (by rw [← j2]; exact List.getElem_mem hj)
      have hp1 := hpl.1
      have hp2 := hpl.2
      have hp3 : (r.x.defs[q.k - 1].params.map encR).length ≤ 12 := by rw [List.length_map]; exact hp1
      have hp4 : (r.x.defs[q.k - 1].given.map encR).length ≤ 12 := by rw [List.length_map]; exact hp2
      refine (Bool.eq_false_or_eq_true ((((r.x.defs[q.k - 1].params.map encR).length : Int) + ((r.x.defs[q.k - 1].given.map encR).length : Int)) == 0)).elim (fun d3 => ?_) (fun d3 => ?_)
      · have hN : (if r.x.defs[q.k - 1].params.length + r.x.defs[q.k - 1].given.length = 0 then q.t ++ [r.x.defs[q.k - 1].id] else q.t) = q.t ++ [r.x.defs[q.k - 1].id] := if_pos (by simp at d3; omega)
        rw [hN] at hst
        refine run ?_
        refine Idx.at rfl (by omega) hi ?_
        refine run ?_
        refine Idx.at rfl (by omega) hi ?_
        refine run ?_
        refine Idx.at rfl (by omega) hi ?_
        refine run ?_
        refine Idx.at rfl (by omega) hi ?_
        refine run ?_
        refine Idx.at rfl (by omega) hi ?_
        refine run ?_
        refine Idx.at rfl (by omega) hi ?_
        refine run ?_
        refine ⟨⟨⟨q.k - 1, q.t ++ [r.x.defs[q.k - 1].id], q.acc ++ [it r.x.defs[q.k - 1].id]⟩, ⟨hk1, hk3, hst.symm.trans q3, hk4⟩⟩, hk2, ?_⟩
        repeat' (first | exact trivial | exact rfl | refine ⟨?_, ?_⟩ | refine ⟨?_, ?_, ?_⟩)
      · have hN : (if r.x.defs[q.k - 1].params.length + r.x.defs[q.k - 1].given.length = 0 then q.t ++ [r.x.defs[q.k - 1].id] else q.t) = q.t := if_neg (by simp at d3; omega)
        rw [hN] at hst
        refine run ?_
        refine Idx.at rfl (by omega) hi ?_
        refine run ?_
        refine Idx.at rfl (by omega) hi ?_
        refine run ?_
        refine Idx.at rfl (by omega) hi ?_
        refine run ?_
        refine Idx.at rfl (by omega) hi ?_
        refine run ?_
        refine ⟨⟨⟨q.k - 1, q.t, q.acc⟩, ⟨hk1, q2, hst.symm.trans q3, q4⟩⟩, hk2, ?_⟩
        repeat' (first | exact trivial | exact rfl | refine ⟨?_, ?_⟩ | refine ⟨?_, ?_, ?_⟩)
    · have d2 : decide ((q.acc.length : Int) < 2) = false := by rw [q4, List.length_map]; simp; omega
      have e := th_end g2 gk q3
      have c3 := nextT_ok ⟨L, declD, r.x.heads, r.x.defs, q.t, r.x.D, false⟩ q.acc q4 r.x.a r.x.s r.x.l 0 r.x.d 3 (by omega) (by omega)
      have hq0 : 1 ≤ q.t.length := by rw [e]; exact tnz
      have hq1 : 1 ≤ q.acc.length := by rw [q4, List.length_map]; exact hq0
      refine (Bool.eq_false_or_eq_true ((r.x.mk' L).nx r.x.a 3 == 0)).elim (fun dB => ?_) (fun dB => ?_)
      · have dB' : ((⟨L, declD, r.x.heads, r.x.defs, q.t, r.x.D, false⟩ : Mk).nx r.x.a 3 == 0) = true := dB
        have hRe : (⟨declD, r.x.heads, r.x.defs, q.t.take 1⟩ : Pg) = R := by rw [hRx, if_pos dB, e]
        have hA : q.acc.take 1 = (q.t.take 1).map it := by rw [q4, List.map_take]
        refine run ?_; repeat ((apply call_ok; first | exact (c3)); refine run ?_)
        exact Done.mk (Eq.trans (congrArg (fun x => Dat.agg (cDc declD ++ [lst 5 encH r.x.heads, lst 12 encD r.x.defs, .sl 1 x false])) hA) (congrArg encP hRe)) rfl
      · have dB' : ((⟨L, declD, r.x.heads, r.x.defs, q.t, r.x.D, false⟩ : Mk).nx r.x.a 3 == 0) = false := dB
        have hRe : (⟨declD, r.x.heads, r.x.defs, q.t⟩ : Pg) = R := by rw [hRx, if_neg (by rw [dB]; simp), e]
        refine run ?_; repeat ((apply call_ok; first | exact (c3)); refine run ?_)
        exact Done.mk (Eq.trans (congrArg (fun x => Dat.agg (cDc declD ++ [lst 5 encH r.x.heads, lst 12 encD r.x.defs, .sl 1 x false])) q4) (congrArg encP hRe)) rfl
  · have d1 : decide ((q.k : Int) - 1 ≥ 0) = false := by simp; omega
    have e := th_zero gk q3
    have c3 := nextT_ok ⟨L, declD, r.x.heads, r.x.defs, q.t, r.x.D, false⟩ q.acc q4 r.x.a r.x.s r.x.l 0 r.x.d 3 (by omega) (by omega)
    have hq0 : 1 ≤ q.t.length := by rw [e]; exact tnz
    have hq1 : 1 ≤ q.acc.length := by rw [q4, List.length_map]; exact hq0
    refine (Bool.eq_false_or_eq_true ((r.x.mk' L).nx r.x.a 3 == 0)).elim (fun dB => ?_) (fun dB => ?_)
    · have dB' : ((⟨L, declD, r.x.heads, r.x.defs, q.t, r.x.D, false⟩ : Mk).nx r.x.a 3 == 0) = true := dB
      have hRe : (⟨declD, r.x.heads, r.x.defs, q.t.take 1⟩ : Pg) = R := by rw [hRx, if_pos dB, e]
      have hA : q.acc.take 1 = (q.t.take 1).map it := by rw [q4, List.map_take]
      refine run ?_; repeat ((apply call_ok; first | exact (c3)); refine run ?_)
      exact Done.mk (Eq.trans (congrArg (fun x => Dat.agg (cDc declD ++ [lst 5 encH r.x.heads, lst 12 encD r.x.defs, .sl 1 x false])) hA) (congrArg encP hRe)) rfl
    · have dB' : ((⟨L, declD, r.x.heads, r.x.defs, q.t, r.x.D, false⟩ : Mk).nx r.x.a 3 == 0) = false := dB
      have hRe : (⟨declD, r.x.heads, r.x.defs, q.t⟩ : Pg) = R := by rw [hRx, if_neg (by rw [dB]; simp), e]
      refine run ?_; repeat ((apply call_ok; first | exact (c3)); refine run ?_)
      exact Done.mk (Eq.trans (congrArg (fun x => Dat.agg (cDc declD ++ [lst 5 encH r.x.heads, lst 12 encD r.x.defs, .sl 1 x false])) q4) (congrArg encP hRe)) rfl
theorem Made_ok (L : List UInt8) : CallsA Tryz.prog 26 [.agg [byt L]] ct0 (encP (madeP L)) ct0 := by
  have h := made_ok L
  have hR : ∃ R, R = madeP L := ⟨_, rfl⟩
  refine hR.elim fun R hR => ?_
  rw [← hR] at h ⊢
  refine fn_ok hm Tryz.func26 (fun _ => false) [] (fun _ => []) (by kernel_rfl) ?_
  refine run ?_; repeat ((apply call_ok; first | exact (h)); refine run ?_)
  exact Done.mk rfl rfl
end Abs
namespace Abs
open Go Go.Proofs
set_option maxRecDepth 100000
set_option maxHeartbeats 4000000
def fnd {α : Type} (p : α → Bool) (z : α) : List α → α × Bool
  | [] => (z, false)
  | x :: l => if p x then (x, true) else fnd p z l
def ix {α : Type} (p : α → Bool) : List α → Nat → Int
  | [], _ => -1
  | x :: l, i => if p x then i else ix p l (i + 1)
theorem fnd_yes {α : Type} {p : α → Bool} {z : α} {l : List α} {k : Nat} (hk : k < l.length) (h : p l[k] = true) : fnd p z (l.drop k) = (l[k], true) := by
  rw [List.drop_eq_getElem_cons hk]; simp [fnd, h]
theorem fnd_no {α : Type} {p : α → Bool} {z : α} {l : List α} {k : Nat} (hk : k < l.length) (h : p l[k] = false) : fnd p z (l.drop k) = fnd p z (l.drop (k+1)) := by
  rw [List.drop_eq_getElem_cons hk]; simp [fnd, h]
theorem fnd_end {α : Type} {p : α → Bool} {z : α} {l : List α} {k : Nat} (hk : ¬ k < l.length) : fnd p z (l.drop k) = (z, false) := by
  rw [List.drop_eq_nil_of_le (by omega)]; rfl
theorem ix_yes {α : Type} {p : α → Bool} {l : List α} {k i : Nat} (hk : k < l.length) (h : p l[k] = true) : ix p (l.drop k) i = i := by
  rw [List.drop_eq_getElem_cons hk]; simp [ix, h]
theorem ix_no {α : Type} {p : α → Bool} {l : List α} {k i : Nat} (hk : k < l.length) (h : p l[k] = false) : ix p (l.drop k) i = ix p (l.drop (k+1)) (i+1) := by
  rw [List.drop_eq_getElem_cons hk]; simp [ix, h]
theorem ix_end {α : Type} {p : α → Bool} {l : List α} {k i : Nat} (hk : ¬ k < l.length) : ix p (l.drop k) i = -1 := by
  rw [List.drop_eq_nil_of_le (by omega)]; rfl
theorem ix_fnd {α : Type} {p : α → Bool} (z : α) : ∀ (l : List α) (i : Nat), (ix p l i = -1 ∧ fnd p z l = (z, false)) ∨ ∃ j, ∃ h : j < l.length, ix p l i = ((i + j : Nat) : Int) ∧ fnd p z l = (l[j], true)
  | [], i => .inl ⟨rfl, rfl⟩
  | x :: l, i => by
    simp only [ix, fnd]
    cases hx : p x with
    | true => exact .inr ⟨0, by simp, by simp, by simp⟩
    | false =>
      rcases ix_fnd z l (i + 1) with ⟨h1, h2⟩ | ⟨j, hj, h1, h2⟩
      · exact .inl ⟨by simpa using h1, by simpa using h2⟩
      · exact .inr ⟨j + 1, by simp; exact hj, by simp [h1]; omega, by simpa using h2⟩
def zDf : Df := ⟨0, 0, [], 0, 0, [], [], 0, 0, [], 0, []⟩
def zHd : Hd := ⟨0, 0, 0, [], []⟩
def zSy : Sy := ⟨0, 0, 0, 0, 0, 0, 0, 0, 0, [], 0⟩
theorem shapeFind_ok (p : Pg) (n : Int) (hl : p.defs.length < 2^40) : CallsA Tryz.prog 60 [encP p, it n] ct0 ((fun x : Df × Bool => Dat.tup [encD x.1, bo x.2]) (fnd (fun x => x.id == n) zDf p.defs)) ct0 := by
  refine fn_ok hm Tryz.func60 (fun _ => false) [] (fun _ => []) (by kernel_rfl) ?_
  refine run ?_
  refine LoopS.mk ⟨[], HeadS.lp (fun k : Nat => k ≤ p.defs.length ∧ fnd (fun x => x.id == n) zDf p.defs = fnd (fun x => x.id == n) zDf (p.defs.drop k)) (fun k => ⟨[(11, it k)], [], []⟩) (fun k => p.defs.length - k) 0 ⟨Nat.zero_le _, by simp⟩ ?_⟩
  intro k hJ
  have h1 := hJ.1
  have h2 := hJ.2
  by_cases hk : k < p.defs.length
  · have b1 : decide ((k : Int) < ((p.defs.map encD).length : Nat)) = true := by simp; exact hk
    refine (Bool.eq_false_or_eq_true (p.defs[k].id == n)).elim (fun b2 => ?_) (fun b2 => ?_)
    · have e := h2.trans (fnd_yes hk b2)
      refine run ?_
      refine Idx.map hk rfl ?_
      refine run ?_
      exact Done.mk (congrArg (fun x : Df × Bool => Dat.tup [encD x.1, bo x.2]) e.symm) rfl
    · have e := h2.trans (fnd_no hk b2)
      refine run ?_
      refine Idx.map hk rfl ?_
      refine run ?_
      refine ⟨⟨k + 1, ⟨hk, e⟩⟩, Nat.sub_lt_sub_left hk (Nat.lt_succ_self _), ?_⟩
      repeat' (first | exact trivial | exact rfl | refine ⟨?_, ?_⟩ | refine ⟨?_, ?_, ?_⟩)
  · have b1 : decide ((k : Int) < ((p.defs.map encD).length : Nat)) = false := by simp; omega
    have e := h2.trans (fnd_end hk)
    refine run ?_
    exact Done.mk (congrArg (fun x : Df × Bool => Dat.tup [encD x.1, bo x.2]) e.symm) rfl
theorem shapeHeadOf_ok (p : Pg) (n : Int) (hl : p.heads.length < 2^40) : CallsA Tryz.prog 103 [encP p, it n] ct0 ((fun x : Hd × Bool => Dat.tup [encH x.1, bo x.2]) (fnd (fun x => x.id == n) zHd p.heads)) ct0 := by
  refine fn_ok hm Tryz.func103 (fun _ => false) [] (fun _ => []) (by kernel_rfl) ?_
  refine run ?_
  refine LoopS.mk ⟨[], HeadS.lp (fun k : Nat => k ≤ p.heads.length ∧ fnd (fun x => x.id == n) zHd p.heads = fnd (fun x => x.id == n) zHd (p.heads.drop k)) (fun k => ⟨[(11, it k)], [], []⟩) (fun k => p.heads.length - k) 0 ⟨Nat.zero_le _, by simp⟩ ?_⟩
  intro k hJ
  have h1 := hJ.1
  have h2 := hJ.2
  by_cases hk : k < p.heads.length
  · have b1 : decide ((k : Int) < ((p.heads.map encH).length : Nat)) = true := by simp; exact hk
    refine (Bool.eq_false_or_eq_true (p.heads[k].id == n)).elim (fun b2 => ?_) (fun b2 => ?_)
    · have e := h2.trans (fnd_yes hk b2)
      refine run ?_
      refine Idx.map hk rfl ?_
      refine run ?_
      exact Done.mk (congrArg (fun x : Hd × Bool => Dat.tup [encH x.1, bo x.2]) e.symm) rfl
    · have e := h2.trans (fnd_no hk b2)
      refine run ?_
      refine Idx.map hk rfl ?_
      refine run ?_
      refine ⟨⟨k + 1, ⟨hk, e⟩⟩, Nat.sub_lt_sub_left hk (Nat.lt_succ_self _), ?_⟩
      repeat' (first | exact trivial | exact rfl | refine ⟨?_, ?_⟩ | refine ⟨?_, ?_, ?_⟩)
  · have b1 : decide ((k : Int) < ((p.heads.map encH).length : Nat)) = false := by simp; omega
    have e := h2.trans (fnd_end hk)
    refine run ?_
    exact Done.mk (congrArg (fun x : Hd × Bool => Dat.tup [encH x.1, bo x.2]) e.symm) rfl
theorem refFindIn_ok (p : Pg) (n : Int) (hl : p.defs.length < 2^40) : CallsA Tryz.prog 32 [encP p, it n] ct0 ((fun x : Df × Bool => Dat.agg (cD x.1 ++ [bo x.2])) (fnd (fun x => x.id == n) zDf p.defs)) ct0 := by
  refine fn_ok hm Tryz.func32 (fun _ => false) [] (fun _ => []) (by kernel_rfl) ?_
  refine run ?_
  refine LoopS.mk ⟨[], HeadS.lp (fun k : Nat => k ≤ p.defs.length ∧ fnd (fun x => x.id == n) zDf p.defs = fnd (fun x => x.id == n) zDf (p.defs.drop k)) (fun k => ⟨[(5, it k)], [], []⟩) (fun k => p.defs.length - k) 0 ⟨Nat.zero_le _, by simp⟩ ?_⟩
  intro k hJ
  have h1 := hJ.1
  have h2 := hJ.2
  by_cases hk : k < p.defs.length
  · have b1 : decide ((k : Int) < ((p.defs.map encD).length : Nat)) = true := by simp; exact hk
    refine (Bool.eq_false_or_eq_true (p.defs[k].id == n)).elim (fun b2 => ?_) (fun b2 => ?_)
    · have e := h2.trans (fnd_yes hk b2)
      refine run ?_
      refine Idx.map hk rfl ?_
      refine run ?_
      refine Idx.map hk rfl ?_
      refine run ?_
      exact Done.mk (congrArg (fun x : Df × Bool => Dat.agg (cD x.1 ++ [bo x.2])) e.symm) rfl
    · have e := h2.trans (fnd_no hk b2)
      refine run ?_
      refine Idx.map hk rfl ?_
      refine run ?_
      refine ⟨⟨k + 1, ⟨hk, e⟩⟩, Nat.sub_lt_sub_left hk (Nat.lt_succ_self _), ?_⟩
      repeat' (first | exact trivial | exact rfl | refine ⟨?_, ?_⟩ | refine ⟨?_, ?_, ?_⟩)
  · have b1 : decide ((k : Int) < ((p.defs.map encD).length : Nat)) = false := by simp; omega
    have e := h2.trans (fnd_end hk)
    refine run ?_
    exact Done.mk (congrArg (fun x : Df × Bool => Dat.agg (cD x.1 ++ [bo x.2])) e.symm) rfl
theorem refHeadIn_ok (p : Pg) (n : Int) (hl : p.heads.length < 2^40) : CallsA Tryz.prog 82 [encP p, it n] ct0 ((fun x : Hd × Bool => Dat.agg ([it x.1.id, it x.1.firm, it x.1.part, lst 3 encR x.1.params, lst 3 encR x.1.given] ++ [bo x.2])) (fnd (fun x => x.id == n) zHd p.heads)) ct0 := by
  refine fn_ok hm Tryz.func82 (fun _ => false) [] (fun _ => []) (by kernel_rfl) ?_
  refine run ?_
  refine LoopS.mk ⟨[], HeadS.lp (fun k : Nat => k ≤ p.heads.length ∧ fnd (fun x => x.id == n) zHd p.heads = fnd (fun x => x.id == n) zHd (p.heads.drop k)) (fun k => ⟨[(5, it k)], [], []⟩) (fun k => p.heads.length - k) 0 ⟨Nat.zero_le _, by simp⟩ ?_⟩
  intro k hJ
  have h1 := hJ.1
  have h2 := hJ.2
  by_cases hk : k < p.heads.length
  · have b1 : decide ((k : Int) < ((p.heads.map encH).length : Nat)) = true := by simp; exact hk
    refine (Bool.eq_false_or_eq_true (p.heads[k].id == n)).elim (fun b2 => ?_) (fun b2 => ?_)
    · have e := h2.trans (fnd_yes hk b2)
      refine run ?_
      refine Idx.map hk rfl ?_
      refine run ?_
      refine Idx.map hk rfl ?_
      refine run ?_
      exact Done.mk (congrArg (fun x : Hd × Bool => Dat.agg ([it x.1.id, it x.1.firm, it x.1.part, lst 3 encR x.1.params, lst 3 encR x.1.given] ++ [bo x.2])) e.symm) rfl
    · have e := h2.trans (fnd_no hk b2)
      refine run ?_
      refine Idx.map hk rfl ?_
      refine run ?_
      refine ⟨⟨k + 1, ⟨hk, e⟩⟩, Nat.sub_lt_sub_left hk (Nat.lt_succ_self _), ?_⟩
      repeat' (first | exact trivial | exact rfl | refine ⟨?_, ?_⟩ | refine ⟨?_, ?_, ?_⟩)
  · have b1 : decide ((k : Int) < ((p.heads.map encH).length : Nat)) = false := by simp; omega
    have e := h2.trans (fnd_end hk)
    refine run ?_
    exact Done.mk (congrArg (fun x : Hd × Bool => Dat.agg ([it x.1.id, it x.1.firm, it x.1.part, lst 3 encR x.1.params, lst 3 encR x.1.given] ++ [bo x.2])) e.symm) rfl
theorem refSumIn_ok (l : List Sy) (n : Int) (hl : l.length < 2^40) : CallsA Tryz.prog 37 [lst 11 encSy l, it n] ct0 ((fun x : Sy × Bool => Dat.agg ([it x.1.id, it x.1.rlo, it x.1.rhi, it x.1.rm, it x.1.rr, it x.1.rmask, it x.1.throws, it x.1.locks, it x.1.loads, lst 3 encPa x.1.pairs, it x.1.cost] ++ [bo x.2])) (fnd (fun x => x.id == n) zSy l)) ct0 := by
  refine fn_ok hm Tryz.func37 (fun _ => false) [] (fun _ => []) (by kernel_rfl) ?_
  refine run ?_
  refine LoopS.mk ⟨[], HeadS.lp (fun k : Nat => k ≤ l.length ∧ fnd (fun x => x.id == n) zSy l = fnd (fun x => x.id == n) zSy (l.drop k)) (fun k => ⟨[(5, it k)], [], []⟩) (fun k => l.length - k) 0 ⟨Nat.zero_le _, by simp⟩ ?_⟩
  intro k hJ
  have h1 := hJ.1
  have h2 := hJ.2
  by_cases hk : k < l.length
  · have b1 : decide ((k : Int) < ((l.map encSy).length : Nat)) = true := by simp; exact hk
    refine (Bool.eq_false_or_eq_true (l[k].id == n)).elim (fun b2 => ?_) (fun b2 => ?_)
    · have e := h2.trans (fnd_yes hk b2)
      refine run ?_
      refine Idx.map hk rfl ?_
      refine run ?_
      refine Idx.map hk rfl ?_
      refine run ?_
      exact Done.mk (congrArg (fun x : Sy × Bool => Dat.agg ([it x.1.id, it x.1.rlo, it x.1.rhi, it x.1.rm, it x.1.rr, it x.1.rmask, it x.1.throws, it x.1.locks, it x.1.loads, lst 3 encPa x.1.pairs, it x.1.cost] ++ [bo x.2])) e.symm) rfl
    · have e := h2.trans (fnd_no hk b2)
      refine run ?_
      refine Idx.map hk rfl ?_
      refine run ?_
      refine ⟨⟨k + 1, ⟨hk, e⟩⟩, Nat.sub_lt_sub_left hk (Nat.lt_succ_self _), ?_⟩
      repeat' (first | exact trivial | exact rfl | refine ⟨?_, ?_⟩ | refine ⟨?_, ?_, ?_⟩)
  · have b1 : decide ((k : Int) < ((l.map encSy).length : Nat)) = false := by simp; omega
    have e := h2.trans (fnd_end hk)
    refine run ?_
    exact Done.mk (congrArg (fun x : Sy × Bool => Dat.agg ([it x.1.id, it x.1.rlo, it x.1.rhi, it x.1.rm, it x.1.rr, it x.1.rmask, it x.1.throws, it x.1.locks, it x.1.loads, lst 3 encPa x.1.pairs, it x.1.cost] ++ [bo x.2])) e.symm) rfl
theorem refHas_ok (l : List Int) (n : Int) (hl : l.length < 2^40) : CallsA Tryz.prog 21 [ints l, it n] ct0 ((fun x : Int × Bool => bo x.2) (fnd (fun x => x == n) 0 l)) ct0 := by
  refine fn_ok hm Tryz.func21 (fun _ => false) [] (fun _ => []) (by kernel_rfl) ?_
  refine run ?_
  refine LoopS.mk ⟨[], HeadS.lp (fun k : Nat => k ≤ l.length ∧ fnd (fun x => x == n) 0 l = fnd (fun x => x == n) 0 (l.drop k)) (fun k => ⟨[(5, it k)], [], []⟩) (fun k => l.length - k) 0 ⟨Nat.zero_le _, by simp⟩ ?_⟩
  intro k hJ
  have h1 := hJ.1
  have h2 := hJ.2
  by_cases hk : k < l.length
  · have b1 : decide ((k : Int) < ((l.map it).length : Nat)) = true := by simp; exact hk
    refine (Bool.eq_false_or_eq_true (l[k] == n)).elim (fun b2 => ?_) (fun b2 => ?_)
    · have e := h2.trans (fnd_yes hk b2)
      refine run ?_
      refine Idx.map hk rfl ?_
      refine run ?_
      exact Done.mk (congrArg (fun x : Int × Bool => bo x.2) e.symm) rfl
    · have e := h2.trans (fnd_no hk b2)
      refine run ?_
      refine Idx.map hk rfl ?_
      refine run ?_
      refine ⟨⟨k + 1, ⟨hk, e⟩⟩, Nat.sub_lt_sub_left hk (Nat.lt_succ_self _), ?_⟩
      repeat' (first | exact trivial | exact rfl | refine ⟨?_, ?_⟩ | refine ⟨?_, ?_, ?_⟩)
  · have b1 : decide ((k : Int) < ((l.map it).length : Nat)) = false := by simp; omega
    have e := h2.trans (fnd_end hk)
    refine run ?_
    exact Done.mk (congrArg (fun x : Int × Bool => bo x.2) e.symm) rfl
theorem libIndex_ok (l : List Int) (n : Int) (hl : l.length < 2^40) : CallsA Tryz.prog 121 [ints l, it n] ct0 (it (ix (fun x => n == x) l 0)) ct0 := by
  refine fn_ok hm Tryz.func121 (fun _ => false) [] (fun _ => []) (by kernel_rfl) ?_
  refine run ?_
  refine LoopS.mk ⟨[], HeadS.lp (fun k : Nat => k ≤ l.length ∧ ix (fun x => n == x) l 0 = ix (fun x => n == x) (l.drop k) k) (fun k => ⟨[(8, it k)], [], []⟩) (fun k => l.length - k) 0 ⟨Nat.zero_le _, by simp⟩ ?_⟩
  intro k hJ
  have h1 := hJ.1
  have h2 := hJ.2
  by_cases hk : k < l.length
  · have b1 : decide ((k : Int) < ((l.map it).length : Nat)) = true := by simp; exact hk
    refine (Bool.eq_false_or_eq_true (n == l[k])).elim (fun b2 => ?_) (fun b2 => ?_)
    · have e := h2.trans (ix_yes hk b2)
      refine run ?_
      refine Idx.map hk rfl ?_
      refine run ?_
      exact Done.mk (congrArg it e.symm) rfl
    · have e := h2.trans (ix_no hk b2)
      refine run ?_
      refine Idx.map hk rfl ?_
      refine run ?_
      refine ⟨⟨k + 1, ⟨hk, e⟩⟩, Nat.sub_lt_sub_left hk (Nat.lt_succ_self _), ?_⟩
      repeat' (first | exact trivial | exact rfl | refine ⟨?_, ?_⟩ | refine ⟨?_, ?_, ?_⟩)
  · have b1 : decide ((k : Int) < ((l.map it).length : Nat)) = false := by simp; omega
    have e := h2.trans (ix_end hk)
    refine run ?_
    exact Done.mk (congrArg it e.symm) rfl
theorem libContains_ok (l : List Int) (n : Int) (hl : l.length < 2^40) : CallsA Tryz.prog 78 [ints l, it n] ct0 (bo (fnd (fun x => x == n) 0 l).2) ct0 := by
  have hi := libIndex_ok l n hl
  have e : decide (ix (fun x => n == x) l 0 ≥ 0) = (fnd (fun x => x == n) 0 l).2 := by
    have hp : (fun x : Int => n == x) = fun x => x == n := by funext x; exact Bool.beq_comm
    rw [hp]
    rcases ix_fnd (p := fun x => x == n) 0 l 0 with ⟨a, b⟩ | ⟨j, hj, a, b⟩
    · rw [a, b]; rfl
    · rw [a, b]; simp
  rw [← e]
  refine fn_ok hm Tryz.func78 (fun _ => false) [] (fun _ => []) (by kernel_rfl) ?_
  refine run ?_; repeat ((apply call_ok; first | exact (hi)); refine run ?_)
  exact Done.mk rfl rfl
theorem sumFind1_ok (s : Sy) (n : Int) : CallsA Tryz.prog 119 [encSy s, .ptr 1000 0] ⟨[it n], []⟩ (bo (s.id == n)) ⟨[it n], []⟩ := by
  refine fn_ok hm Tryz.func119 (fun _ => false) [] (fun _ => []) (by kernel_rfl) ?_
  refine run ?_
  exact Done.mk rfl rfl
theorem sumIndex_ok (l : List Sy) (n : Int) (hl : l.length < 2^40) : CallsA Tryz.prog 118 [lst 11 encSy l, .clo (.func 119) [] [.ptr 1000 0]] ⟨[it n], []⟩ (it (ix (fun x => x.id == n) l 0)) ⟨[it n], []⟩ := by
  refine fn_ok hm Tryz.func118 (fun _ => false) [] (fun _ => []) (by kernel_rfl) ?_
  refine run ?_
  refine LoopS.mk ⟨[], HeadS.lp (fun k : Nat => k ≤ l.length ∧ ix (fun x => x.id == n) l 0 = ix (fun x => x.id == n) (l.drop k) k) (fun k => ⟨[(8, it k)], [], []⟩) (fun k => l.length - k) 0 ⟨Nat.zero_le _, by simp⟩ ?_⟩
  intro k hJ
  have h1 := hJ.1
  have h2 := hJ.2
  by_cases hk : k < l.length
  · have b1 : decide ((k : Int) < ((l.map encSy).length : Nat)) = true := by simp; exact hk
    have hc := sumFind1_ok l[k] n
    refine (Bool.eq_false_or_eq_true (l[k].id == n)).elim (fun b2 => ?_) (fun b2 => ?_)
    · have e := h2.trans (ix_yes hk b2)
      refine run ?_
      refine Idx.map hk rfl ?_
      refine run ?_; repeat ((apply call_ok; first | exact (hc)); refine run ?_)
      exact Done.mk (congrArg it e.symm) rfl
    · have e := h2.trans (ix_no hk b2)
      refine run ?_
      refine Idx.map hk rfl ?_
      refine run ?_; repeat ((apply call_ok; first | exact (hc)); refine run ?_)
      refine ⟨⟨k + 1, ⟨hk, e⟩⟩, Nat.sub_lt_sub_left hk (Nat.lt_succ_self _), ?_⟩
      repeat' (first | exact trivial | exact rfl | refine ⟨?_, ?_⟩ | refine ⟨?_, ?_, ?_⟩)
  · have b1 : decide ((k : Int) < ((l.map encSy).length : Nat)) = false := by simp; omega
    have e := h2.trans (ix_end hk)
    refine run ?_
    exact Done.mk (congrArg it e.symm) rfl
theorem sumFind_ok (l : List Sy) (n : Int) (hl : l.length < 2^40) : CallsA Tryz.prog 76 [lst 11 encSy l, it n] ct0 ((fun x : Sy × Bool => Dat.tup [encSy x.1, bo x.2]) (fnd (fun x => x.id == n) zSy l)) ct0 := by
  have hi := sumIndex_ok l n hl
  rcases ix_fnd (p := fun x : Sy => x.id == n) zSy l 0 with ⟨a, b⟩ | ⟨j, hj, a, b⟩
  · rw [a] at hi
    rw [b]
    refine fn_ok hm Tryz.func76 (fun _ => false) [] (fun _ => []) (by kernel_rfl) ?_
    refine run ?_; repeat ((apply call_ok; first | exact (hi)); refine run ?_)
    exact Done.mk rfl rfl
  · rw [a, Nat.zero_add] at hi
    rw [b]
    have b1 : decide ((j : Int) < 0) = false := by simp
    refine fn_ok hm Tryz.func76 (fun _ => false) [] (fun _ => []) (by kernel_rfl) ?_
    refine run ?_; repeat ((apply call_ok; first | exact (hi)); refine run ?_)
    refine Idx.map hj rfl ?_
    refine run ?_
    exact Done.mk rfl rfl
end Abs
namespace Abs
open Go Go.Proofs
set_option maxRecDepth 100000
set_option maxHeartbeats 4000000
def addI (l : List Int) (n : Int) : List Int := (l.takeWhile fun x => decide (x < n)) ++ [n] ++ l.filter fun x => decide (x > n)
theorem flt_take {α : Type} {p : α → Bool} {l : List α} {k : Nat} (h : k < l.length) : (l.take (k+1)).filter p = (l.take k).filter p ++ (if p l[k] then [l[k]] else []) := by
  rw [List.take_add_one, List.filter_append]
  simp only [h, List.getElem?_eq_getElem, Option.toList]
  by_cases e : p l[k] <;> simp [e]
theorem flt_yes {α : Type} {p : α → Bool} {l : List α} {k : Nat} (h : k < l.length) (e : p l[k] = true) : (l.take (k+1)).filter p = (l.take k).filter p ++ [l[k]] := by
  rw [flt_take h, if_pos e]
theorem flt_no {α : Type} {p : α → Bool} {l : List α} {k : Nat} (h : k < l.length) (e : p l[k] = false) : (l.take (k+1)).filter p = (l.take k).filter p := by
  rw [flt_take h, if_neg (by rw [e]; simp), List.append_nil]
theorem take_one {α : Type} {l : List α} {k : Nat} (h : k < l.length) : l.take (k+1) = l.take k ++ [l[k]] := (List.take_append_getElem h).symm
theorem flt_le {α : Type} {p : α → Bool} {l : List α} (k : Nat) : ((l.take k).filter p).length ≤ l.length := by
  have := List.length_filter_le p (l.take k)
  rw [List.length_take] at this; omega
theorem tw_yes {α : Type} {p : α → Bool} {l : List α} {k : Nat} (h : k < l.length) (e : p l[k] = true) : (l.drop k).takeWhile p = l[k] :: (l.drop (k+1)).takeWhile p := by
  rw [List.drop_eq_getElem_cons h]; simp [List.takeWhile, e]
theorem tw_no {α : Type} {p : α → Bool} {l : List α} {k : Nat} (h : k < l.length) (e : p l[k] = false) : (l.drop k).takeWhile p = [] := by
  rw [List.drop_eq_getElem_cons h]; simp [List.takeWhile, e]
theorem tf_len {α : Type} {p q : α → Bool} (h : ∀ x, p x = true → q x = false) : ∀ l : List α, (l.takeWhile p).length + (l.filter q).length ≤ l.length
  | [] => by simp
  | x :: l => by
    have ih := tf_len h l
    cases e : p x with
    | true => simp [List.takeWhile, e, h x e]; omega
    | false => simp only [List.takeWhile, e, List.length_nil, Nat.zero_add]; exact List.length_filter_le _ _
theorem addI_len (l : List Int) (n : Int) : (addI l n).length ≤ l.length + 1 := by
  have := tf_len (p := fun x => decide (x < n)) (q := fun x : Int => decide (x > n)) (fun x h => by simp at h ⊢; omega) l
  simp only [addI, List.length_append, List.length_singleton]; omega
theorem added_ok (l : List Int) (n : Int) (hl : l.length < 2^30) : CallsA Tryz.prog 53 [ints l, it n] ct0 (ints (addI l n)) ct0 := by
  refine fn_ok hm Tryz.func53 (fun _ => false) [] (fun _ => []) (by kernel_rfl) ?_
  refine run ?_
  refine LoopS.mk ⟨[], HeadS.lp (fun r : CR => r.k ≤ l.length ∧ r.acc = (l.take r.k).map it ∧ (l.takeWhile fun x => decide (x < n)) = l.take r.k ++ (l.drop r.k).takeWhile fun x => decide (x < n)) (fun r => ⟨[(6, it r.k), (5, .ref 8 r.acc.length)], [], [(8, ⟨1, true, r.acc⟩)]⟩) (fun r => l.length - r.k) ⟨0, []⟩ ⟨Nat.zero_le _, by simp, by simp⟩ ?_⟩
  intro r hJ
  have h1 := hJ.1
  have h2 := hJ.2.1
  have h3 := hJ.2.2
  by_cases hk : r.k < l.length
  · have b1 : decide ((r.k : Int) < ((l.map it).length : Nat)) = true := by simp; exact hk
    refine (Bool.eq_false_or_eq_true (decide (l[r.k] < n))).elim (fun b2 => ?_) (fun b2 => ?_)
    · have hN : r.acc ++ [it l[r.k]] = (l.take (r.k + 1)).map it := by rw [h2, take_one hk, List.map_append]; rfl
      have hT : (l.takeWhile fun x => decide (x < n)) = l.take (r.k + 1) ++ (l.drop (r.k + 1)).takeWhile fun x => decide (x < n) := by
        rw [h3, tw_yes hk b2, take_one hk, List.append_assoc]; rfl
      have hlen : r.acc.length = r.k := by rw [h2, List.length_map, List.length_take]; omega
      refine run ?_
      refine Idx.map hk rfl ?_
      refine run ?_
      refine Idx.map hk rfl ?_
      refine run ?_
      refine ⟨⟨⟨r.k + 1, _⟩, ⟨hk, hN, hT⟩⟩, Nat.sub_lt_sub_left hk (Nat.lt_succ_self _), ?_⟩
      repeat' (first | exact trivial | exact rfl | refine ⟨?_, ?_⟩ | refine ⟨?_, ?_, ?_⟩)
    · have hA : r.acc = (l.takeWhile fun x => decide (x < n)).map it := by rw [h3, tw_no hk b2, h2]; simp
      refine run ?_
      refine Idx.map hk rfl ?_
      have hlen1 : r.acc.length ≤ l.length := by rw [hA, List.length_map]; exact (List.takeWhile_sublist _).length_le
      refine run ?_
      refine LoopS.mk ⟨[], HeadS.lp (fun q : CR => q.k ≤ l.length ∧ q.acc = (r.acc ++ [it n]) ++ ((l.take q.k).filter fun x => decide (x > n)).map it) (fun q => ⟨[(7, it q.k), (5, .ref 8 q.acc.length)], [], [(8, ⟨1, true, q.acc⟩)]⟩) (fun q => l.length - q.k) ⟨0, r.acc ++ [it n]⟩ ⟨Nat.zero_le _, by simp⟩ ?_⟩
      intro q hq
      have g1 := hq.1
      have g2 := hq.2
      have hle := flt_le (p := fun x => decide (x > n)) (l := l) q.k
      have glen : q.acc.length = r.acc.length + 1 + ((l.take q.k).filter fun x => decide (x > n)).length := by rw [g2]; simp; omega
      by_cases gk : q.k < l.length
      · have c1 : decide ((q.k : Int) < ((l.map it).length : Nat)) = true := by simp; exact gk
        refine (Bool.eq_false_or_eq_true (decide (l[q.k] > n))).elim (fun c2 => ?_) (fun c2 => ?_)
        · have gN : q.acc ++ [it l[q.k]] = (r.acc ++ [it n]) ++ ((l.take (q.k + 1)).filter fun x => decide (x > n)).map it := by rw [g2, flt_yes gk c2, List.map_append, ← List.append_assoc]; rfl
          refine run ?_
          refine Idx.map gk rfl ?_
          refine run ?_
          refine Idx.map gk rfl ?_
          refine run ?_
          refine ⟨⟨⟨q.k + 1, _⟩, ⟨gk, gN⟩⟩, Nat.sub_lt_sub_left gk (Nat.lt_succ_self _), ?_⟩
          repeat' (first | exact trivial | exact rfl | refine ⟨?_, ?_⟩ | refine ⟨?_, ?_, ?_⟩)
        · have gN : q.acc = (r.acc ++ [it n]) ++ ((l.take (q.k + 1)).filter fun x => decide (x > n)).map it := by rw [g2, flt_no gk c2]
          refine run ?_
          refine Idx.map gk rfl ?_
          refine run ?_
          refine ⟨⟨⟨q.k + 1, _⟩, ⟨gk, gN⟩⟩, Nat.sub_lt_sub_left gk (Nat.lt_succ_self _), ?_⟩
          repeat' (first | exact trivial | exact rfl | refine ⟨?_, ?_⟩ | refine ⟨?_, ?_, ?_⟩)
      · have c1 : decide ((q.k : Int) < ((l.map it).length : Nat)) = false := by simp; omega
        have e : q.acc = (addI l n).map it := by rw [g2, hA, List.take_of_length_le (by omega)]; simp [addI]
        refine run ?_
        exact Done.mk (congrArg (fun x => Dat.sl 1 x false) e) rfl
  have b1 : decide ((r.k : Int) < ((l.map it).length : Nat)) = false := by simp; omega
  have hA : r.acc = (l.takeWhile fun x => decide (x < n)).map it := by rw [h3, List.drop_eq_nil_of_le (by omega), h2]; simp
  have hlen1 : r.acc.length ≤ l.length := by rw [hA, List.length_map]; exact (List.takeWhile_sublist _).length_le
  refine run ?_
  refine LoopS.mk ⟨[], HeadS.lp (fun q : CR => q.k ≤ l.length ∧ q.acc = (r.acc ++ [it n]) ++ ((l.take q.k).filter fun x => decide (x > n)).map it) (fun q => ⟨[(7, it q.k), (5, .ref 8 q.acc.length)], [], [(8, ⟨1, true, q.acc⟩)]⟩) (fun q => l.length - q.k) ⟨0, r.acc ++ [it n]⟩ ⟨Nat.zero_le _, by simp⟩ ?_⟩
  intro q hq
  have g1 := hq.1
  have g2 := hq.2
  have hle := flt_le (p := fun x => decide (x > n)) (l := l) q.k
  have glen : q.acc.length = r.acc.length + 1 + ((l.take q.k).filter fun x => decide (x > n)).length := by rw [g2]; simp; omega
  by_cases gk : q.k < l.length
  · have c1 : decide ((q.k : Int) < ((l.map it).length : Nat)) = true := by simp; exact gk
    refine (Bool.eq_false_or_eq_true (decide (l[q.k] > n))).elim (fun c2 => ?_) (fun c2 => ?_)
    · have gN : q.acc ++ [it l[q.k]] = (r.acc ++ [it n]) ++ ((l.take (q.k + 1)).filter fun x => decide (x > n)).map it := by rw [g2, flt_yes gk c2, List.map_append, ← List.append_assoc]; rfl
      refine run ?_
      refine Idx.map gk rfl ?_
      refine run ?_
      refine Idx.map gk rfl ?_
      refine run ?_
      refine ⟨⟨⟨q.k + 1, _⟩, ⟨gk, gN⟩⟩, Nat.sub_lt_sub_left gk (Nat.lt_succ_self _), ?_⟩
      repeat' (first | exact trivial | exact rfl | refine ⟨?_, ?_⟩ | refine ⟨?_, ?_, ?_⟩)
    · have gN : q.acc = (r.acc ++ [it n]) ++ ((l.take (q.k + 1)).filter fun x => decide (x > n)).map it := by rw [g2, flt_no gk c2]
      refine run ?_
      refine Idx.map gk rfl ?_
      refine run ?_
      refine ⟨⟨⟨q.k + 1, _⟩, ⟨gk, gN⟩⟩, Nat.sub_lt_sub_left gk (Nat.lt_succ_self _), ?_⟩
      repeat' (first | exact trivial | exact rfl | refine ⟨?_, ?_⟩ | refine ⟨?_, ?_, ?_⟩)
  · have c1 : decide ((q.k : Int) < ((l.map it).length : Nat)) = false := by simp; omega
    have e : q.acc = (addI l n).map it := by rw [g2, hA, List.take_of_length_le (by omega)]; simp [addI]
    refine run ?_
    exact Done.mk (congrArg (fun x => Dat.sl 1 x false) e) rfl
end Abs
namespace Abs
open Go Go.Proofs
set_option maxRecDepth 100000
set_option maxHeartbeats 4000000
mutual
def wE : Ex → List Int
  | .mk op n v a => op :: n :: v :: (a.length : Int) :: wEs a
def wEs : List Ex → List Int
  | [] => []
  | e :: l => wE e ++ wEs l
end
theorem wEs_fm : ∀ l, wEs l = l.flatMap wE
  | [] => by simp [wEs]
  | e :: l => by simp [wEs, wEs_fm l]
theorem wE_eq (e : Ex) : wE e = [e.op, e.n, e.v] ++ wl wE e.a := by cases e; simp [wE, wl, wEs_fm, Ex.op, Ex.n, Ex.v, Ex.a]
mutual
def wC : Co → List Int
  | .mk op a c => op :: (wl wE a ++ ((c.length : Int) :: wCs c))
def wCs : List Co → List Int
  | [] => []
  | e :: l => wC e ++ wCs l
end
theorem wCs_fm : ∀ l, wCs l = l.flatMap wC
  | [] => by simp [wCs]
  | e :: l => by simp [wCs, wCs_fm l]
theorem wC_eq (c : Co) : wC c = ([c.op] ++ wl wE c.a) ++ wl wC c.c := by cases c; simp [wC, wl, wCs_fm, Co.op, Co.a, Co.c]
mutual
def wS : Sm → List Int
  | .mk site op n m v x y c args ptrs body els => [site, op, n, m, v] ++ (wE x ++ (wE y ++ (wC c ++ (wl wE args ++ (((ptrs.length : Int) :: ptrs) ++ (((body.length : Int) :: wSs body) ++ ((els.length : Int) :: wSs els)))))))
def wSs : List Sm → List Int
  | [] => []
  | e :: l => wS e ++ wSs l
end
theorem wSs_fm : ∀ l, wSs l = l.flatMap wS
  | [] => by simp [wSs]
  | e :: l => by simp [wSs, wSs_fm l]
def wI (n : Int) : List Int := [n]
theorem wl_one (l : List Int) : wl wI l = (l.length : Int) :: l := by
  have : l.flatMap wI = l := by
    induction l with
    | nil => rfl
    | cons x l ih => rw [List.flatMap_cons, ih]; rfl
  rw [wl, this]
theorem wS_eq (s : Sm) : wS s = [[s.site, s.op, s.n, s.m, s.v], wE s.x, wE s.y, wC s.c, wl wE s.args, wl wI s.ptrs, wl wS s.body, wl wS s.els].flatten := by
  cases s; simp [wS, wl_one, wSs_fm, Sm.site, Sm.op, Sm.n, Sm.m, Sm.v, Sm.x, Sm.y, Sm.c, Sm.args, Sm.ptrs, Sm.body, Sm.els]
  simp [wl]
def wD (d : Df) : List Int := [[1, d.id, d.site], wl (fun b : UInt8 => [(b.toNat : Int)]) d.name, [d.firm, d.part], wl wR d.params, wl wR d.given, [d.vars, d.refs], wl wA d.arrays, [d.budget], wl wS d.body].flatten
theorem wE_len (e : Ex) : (wE e).length = 4 + (e.a.flatMap wE).length := by rw [wE_eq]; simp [wl]; omega
theorem wC_len (c : Co) : (wC c).length = 3 + (c.a.flatMap wE).length + (c.c.flatMap wC).length := by rw [wC_eq]; simp [wl]; omega
theorem fm_len {α β : Type} {w : α → List β} {l : List α} (h : ∀ x, 0 < (w x).length) : l.length ≤ (l.flatMap w).length := by
  induction l with
  | nil => simp
  | cons x l ih => rw [List.flatMap_cons, List.length_append, List.length_cons]; have := h x; omega
theorem wE_pos (e : Ex) : 0 < (wE e).length := by rw [wE_len]; omega
theorem wC_pos (e : Co) : 0 < (wC e).length := by rw [wC_len]; omega
theorem wS_len (s : Sm) : (wS s).length = 5 + (wE s.x).length + (wE s.y).length + (wC s.c).length + (wl wE s.args).length + (wl wI s.ptrs).length + (wl wS s.body).length + (wl wS s.els).length := by
  rw [wS_eq]; simp; omega
theorem wS_pos (e : Sm) : 0 < (wS e).length := by rw [wS_len]; omega
theorem encExpr_ok : ∀ (n : Nat) (e : Ex), (wE e).length < n → (wE e).length < 2^30 → CallsA Tryz.prog 188 [encE e] ct0 (ints (wE e)) ct0 := by
  intro n
  induction n with
  | zero => intro e h; omega
  | succ n ih =>
    intro e h hb
    have hl := wE_len e
    have hp := fm_len (l := e.a) wE_pos
    have hL : CallsA Tryz.prog 190 [.sl 4 (encEs e.a) false, fun0 188] ct0 (ints (wl wE e.a)) ct0 := by
      rw [encEs_map]
      refine list190_ok wE 188 (fun x hx => ih x ?_ ?_) (by rw [wl_len]; omega) (by omega)
      · have := fm_mem (w := wE) hx; omega
      · have := fm_mem (w := wE) hx; omega
    have h2 : (wl wE e.a).length < 2^30 := by rw [wl_len]; omega
    rw [wE_eq]
    refine fn_ok hm Tryz.func188 (fun _ => false) [] (fun _ => []) (by kernel_rfl) ?_
    refine run ?_; repeat ((apply call_ok; first | exact (hL)); refine run ?_)
    exact Done.mk rfl rfl
theorem encCond_ok : ∀ (n : Nat) (c : Co), (wC c).length < n → (wC c).length < 2^30 → CallsA Tryz.prog 189 [encC c] ct0 (ints (wC c)) ct0 := by
  intro n
  induction n with
  | zero => intro e h; omega
  | succ n ih =>
    intro c h hb
    have hl := wC_len c
    have hp := fm_len (l := c.a) wE_pos
    have hq := fm_len (l := c.c) wC_pos
    have hL : CallsA Tryz.prog 190 [.sl 4 (encEs c.a) false, fun0 188] ct0 (ints (wl wE c.a)) ct0 := by
      rw [encEs_map]
      refine list190_ok wE 188 (fun x hx => encExpr_ok _ x (Nat.lt_succ_self _) ?_) (by rw [wl_len]; omega) (by omega)
      have := fm_mem (w := wE) hx; omega
    have hM : CallsA Tryz.prog 210 [.sl 3 (encCs c.c) false, fun0 189] ct0 (ints (wl wC c.c)) ct0 := by
      rw [encCs_map]
      refine list210_ok wC 189 (fun x hx => ih x ?_ ?_) (by rw [wl_len]; omega) (by omega)
      · have := fm_mem (w := wC) hx; omega
      · have := fm_mem (w := wC) hx; omega
    have h2 : (wl wE c.a).length < 2^30 := by rw [wl_len]; omega
    have h3 : (wl wC c.c).length < 2^30 := by rw [wl_len]; omega
    have e : ([it c.op] ++ (wl wE c.a).map it) ++ (wl wC c.c).map it = (([c.op] ++ wl wE c.a) ++ wl wC c.c).map it := by simp
    rw [wC_eq]
    refine fn_ok hm Tryz.func189 (fun _ => false) [] (fun _ => []) (by kernel_rfl) ?_
    refine run ?_; repeat ((apply call_ok; first | exact (hL) | exact (hM)); refine run ?_)
    exact Done.mk (congrArg (fun x => Dat.sl 1 x false) e) rfl
theorem fl8 {α : Type} (a b c d e f g h : List α) : [a, b, c, d, e, f, g, h].flatten.length = a.length + b.length + c.length + d.length + e.length + f.length + g.length + h.length := by simp; omega
theorem encStmt_ok : ∀ (n : Nat) (s : Sm), (wS s).length < n → (wS s).length < 2^30 → CallsA Tryz.prog 164 [encS s] ct0 (ints (wS s)) ct0 := by
  intro n
  induction n with
  | zero => intro e h; omega
  | succ n ih =>
    intro s h hb
    have hl := wS_len s
    have l1 := wl_len wE s.args
    have l2 := wl_len wI s.ptrs
    have l3 := wl_len wS s.body
    have l4 := wl_len wS s.els
    have p1 := fm_len (l := s.args) wE_pos
    have p3 := fm_len (l := s.body) wS_pos
    have p4 := fm_len (l := s.els) wS_pos
    have p2 := fm_len (l := s.ptrs) (w := wI) (fun _ => Nat.one_pos)
    have hX := encExpr_ok _ s.x (Nat.lt_succ_self _) (by omega)
    have hY := encExpr_ok _ s.y (Nat.lt_succ_self _) (by omega)
    have hC := encCond_ok _ s.c (Nat.lt_succ_self _) (by omega)
    have hA : CallsA Tryz.prog 190 [.sl 4 (encEs s.args) false, fun0 188] ct0 (ints (wl wE s.args)) ct0 := by
      rw [encEs_map]
      refine list190_ok wE 188 (fun x hx => encExpr_ok _ x (Nat.lt_succ_self _) ?_) (by omega) (by omega)
      have := fm_mem (w := wE) hx; omega
    have hP : CallsA Tryz.prog 191 [ints s.ptrs, fun0 162] ct0 (ints (wl wI s.ptrs)) ct0 := list191_ok wI 162 (fun x _ => one_ok x) (by omega) (by omega)
    have hB : CallsA Tryz.prog 163 [.sl 20 (encSs s.body) false, fun0 164] ct0 (ints (wl wS s.body)) ct0 := by
      rw [encSs_map]
      refine list163_ok wS 164 (fun x hx => ih x ?_ ?_) (by omega) (by omega)
      · have := fm_mem (w := wS) hx; omega
      · have := fm_mem (w := wS) hx; omega
    have hE : CallsA Tryz.prog 163 [.sl 20 (encSs s.els) false, fun0 164] ct0 (ints (wl wS s.els)) ct0 := by
      rw [encSs_map]
      refine list163_ok wS 164 (fun x hx => ih x ?_ ?_) (by omega) (by omega)
      · have := fm_mem (w := wS) hx; omega
      · have := fm_mem (w := wS) hx; omega
    have hF := concat_ok [[s.site, s.op, s.n, s.m, s.v], wE s.x, wE s.y, wC s.c, wl wE s.args, wl wI s.ptrs, wl wS s.body, wl wS s.els] (by rw [← wS_eq]; omega) (by simp)
    rw [wS_eq]
    refine fn_ok hm Tryz.func164 (fun _ => false) [] (fun _ => []) (by kernel_rfl) ?_
    refine run ?_; repeat ((apply call_ok; first | exact (hX) | exact (hY) | exact (hC) | exact (hA) | exact (hP) | exact (hB) | exact (hE) | exact (hF)); refine run ?_)
    exact Done.mk rfl rfl
theorem wD_len (d : Df) : (wD d).length = 8 + (wl (fun b : UInt8 => [(b.toNat : Int)]) d.name).length + (wl wR d.params).length + (wl wR d.given).length + (wl wA d.arrays).length + (wl wS d.body).length := by
  unfold wD; simp; omega
theorem textOf_byt' (xs : List UInt8) : textOf (xs.map fun b => .int .u8 b.toNat) = some xs := textOf_byt xs
theorem encDef_ok (d : Df) (hb : (wD d).length < 2^30) : CallsA Tryz.prog 116 [encD d] ct0 (ints (wD d)) ct0 := by
  have hl := wD_len d
  have l0 := wl_len (fun b : UInt8 => [(b.toNat : Int)]) d.name
  have l1 := wl_len wR d.params
  have l2 := wl_len wR d.given
  have l3 := wl_len wA d.arrays
  have l4 := wl_len wS d.body
  have p0 := fm_len (l := d.name) (w := fun b : UInt8 => [(b.toNat : Int)]) (fun _ => Nat.one_pos)
  have p1 := fm_len (l := d.params) (w := wR) (fun _ => by show 0 < 3; omega)
  have p2 := fm_len (l := d.given) (w := wR) (fun _ => by show 0 < 3; omega)
  have p3 := fm_len (l := d.arrays) (w := wA) (fun _ => by show 0 < 2; omega)
  have p4 := fm_len (l := d.body) wS_pos
  have hN := list155_ok (l := d.name) (fun b : UInt8 => [(b.toNat : Int)]) 156 (fun x _ => letter_ok x) (by omega) (by omega)
  have hP := list158_ok (l := d.params) wR 159 (fun x _ => span_ok x) (by omega) (by omega)
  have hG := list158_ok (l := d.given) wR 159 (fun x _ => span_ok x) (by omega) (by omega)
  have hA := list160_ok (l := d.arrays) wA 161 (fun x _ => array_ok x) (by omega) (by omega)
  have hB : CallsA Tryz.prog 163 [.sl 20 (d.body.map encS) false, fun0 164] ct0 (ints (wl wS d.body)) ct0 := by
    refine list163_ok wS 164 (fun x hx => encStmt_ok _ x (Nat.lt_succ_self _) ?_) (by omega) (by omega)
    have := fm_mem (w := wS) hx; omega
  have hF := concat_ok [[1, d.id, d.site], wl (fun b : UInt8 => [(b.toNat : Int)]) d.name, [d.firm, d.part], wl wR d.params, wl wR d.given, [d.vars, d.refs], wl wA d.arrays, [d.budget], wl wS d.body] (by show (wD d).length < _; omega) (by simp)
  refine fn_ok hm Tryz.func116 (fun _ => false) [] (fun _ => []) (by kernel_rfl) ?_
  refine run ?_; repeat ((apply call_ok; first | exact (hN) | exact (hP) | exact (hG) | exact (hA) | exact (one_ok _) | exact (hB) | exact (hF)); refine run ?_)
  exact Done.mk rfl rfl
end Abs
namespace Abs
open Go Go.Proofs
set_option maxRecDepth 100000
set_option maxHeartbeats 4000000
theorem refInts_ok (l : List Int) (hl : l.length < 2^30) : CallsA Tryz.prog 196 [ints l] ct0 (ints (wl wI l)) ct0 := by
  have e : [it ((l.map it).length : Nat)] ++ l.map it = (wl wI l).map it := by rw [wl_one]; simp
  refine fn_ok hm Tryz.func196 (fun _ => false) [] (fun _ => []) (by kernel_rfl) ?_
  refine run ?_
  exact Done.mk (congrArg (fun x => Dat.sl 1 x false) e) rfl
theorem refL195_ok {l : List Ex} (w : Ex → List Int) (hx : ∀ x ∈ l, CallsA Tryz.prog 193 [encE x] ct0 (ints (w x)) ct0) (hb : (wl w l).length < 2^31) (hl : l.length < 2^31) :
    CallsA Tryz.prog 195 [.sl 4 (l.map encE) false] ct0 (ints (wl w l)) ct0 := by
  rw [wl_len] at hb
  refine fn_ok hm Tryz.func195 (fun _ => false) [] (fun _ => []) (by kernel_rfl) ?_
  refine run ?_
  refine LoopS.mk ⟨[], HeadS.lp (fun r : CR => r.k ≤ l.length ∧ r.acc = it ((l.map encE).length : Nat) :: ((l.take r.k).flatMap w).map it) (fun r => ⟨[(4, it r.k), (3, .ref 7 r.acc.length)], [], [(7, ⟨1, true, r.acc⟩)]⟩) (fun r => l.length - r.k) ⟨0, [it ((l.map encE).length : Nat)]⟩ ⟨Nat.zero_le _, by simp⟩ ?_⟩
  intro r hJ
  obtain ⟨h1, h2⟩ := hJ
  by_cases hk : r.k < l.length
  · have b1 : decide ((r.k : Int) < ((l.map encE).length : Nat)) = true := by simp; exact hk
    have hc := hx l[r.k] (List.getElem_mem hk)
    have hle := fm_le1 (w := w) hk
    have hlen : r.acc.length = 1 + ((l.take r.k).flatMap w).length := by rw [h2]; simp; omega
    have hN : r.acc ++ (w l[r.k]).map it = it ((l.map encE).length : Nat) :: ((l.take (r.k + 1)).flatMap w).map it := by rw [h2, fm_take hk]; simp
    refine run ?_
    refine Idx.map hk rfl ?_
    refine run ?_; repeat ((apply call_ok; first | exact (hc)); refine run ?_)
    refine ⟨⟨⟨r.k + 1, _⟩, ⟨hk, hN⟩⟩, Nat.sub_lt_sub_left hk (Nat.lt_succ_self _), ?_⟩
    repeat' (first | exact trivial | exact rfl | refine ⟨?_, ?_⟩ | refine ⟨?_, ?_, ?_⟩)
  · have b1 : decide ((r.k : Int) < ((l.map encE).length : Nat)) = false := by simp; omega
    have e : r.acc = (wl w l).map it := by rw [h2, List.take_of_length_le (by omega)]; simp [wl]
    refine run ?_
    exact Done.mk (congrArg (fun x => Dat.sl 1 x false) e) rfl
theorem refL124_ok {l : List Sm} (w : Sm → List Int) (hx : ∀ x ∈ l, CallsA Tryz.prog 166 [encS x] ct0 (ints (w x)) ct0) (hb : (wl w l).length < 2^31) (hl : l.length < 2^31) :
    CallsA Tryz.prog 124 [.sl 20 (l.map encS) false] ct0 (ints (wl w l)) ct0 := by
  rw [wl_len] at hb
  refine fn_ok hm Tryz.func124 (fun _ => false) [] (fun _ => []) (by kernel_rfl) ?_
  refine run ?_
  refine LoopS.mk ⟨[], HeadS.lp (fun r : CR => r.k ≤ l.length ∧ r.acc = it ((l.map encS).length : Nat) :: ((l.take r.k).flatMap w).map it) (fun r => ⟨[(4, it r.k), (3, .ref 7 r.acc.length)], [], [(7, ⟨1, true, r.acc⟩)]⟩) (fun r => l.length - r.k) ⟨0, [it ((l.map encS).length : Nat)]⟩ ⟨Nat.zero_le _, by simp⟩ ?_⟩
  intro r hJ
  obtain ⟨h1, h2⟩ := hJ
  by_cases hk : r.k < l.length
  · have b1 : decide ((r.k : Int) < ((l.map encS).length : Nat)) = true := by simp; exact hk
    have hc := hx l[r.k] (List.getElem_mem hk)
    have hle := fm_le1 (w := w) hk
    have hlen : r.acc.length = 1 + ((l.take r.k).flatMap w).length := by rw [h2]; simp; omega
    have hN : r.acc ++ (w l[r.k]).map it = it ((l.map encS).length : Nat) :: ((l.take (r.k + 1)).flatMap w).map it := by rw [h2, fm_take hk]; simp
    refine run ?_
    refine Idx.map hk rfl ?_
    refine run ?_; repeat ((apply call_ok; first | exact (hc)); refine run ?_)
    refine ⟨⟨⟨r.k + 1, _⟩, ⟨hk, hN⟩⟩, Nat.sub_lt_sub_left hk (Nat.lt_succ_self _), ?_⟩
    repeat' (first | exact trivial | exact rfl | refine ⟨?_, ?_⟩ | refine ⟨?_, ?_, ?_⟩)
  · have b1 : decide ((r.k : Int) < ((l.map encS).length : Nat)) = false := by simp; omega
    have e : r.acc = (wl w l).map it := by rw [h2, List.take_of_length_le (by omega)]; simp [wl]
    refine run ?_
    exact Done.mk (congrArg (fun x => Dat.sl 1 x false) e) rfl
theorem refL123_ok {l : List Rng} (hb : (wl wR l).length < 2^31) (hl : l.length < 2^31) :
    CallsA Tryz.prog 123 [.sl 3 (l.map encR) false] ct0 (ints (wl wR l)) ct0 := by
  rw [wl_len] at hb
  refine fn_ok hm Tryz.func123 (fun _ => false) [] (fun _ => []) (by kernel_rfl) ?_
  refine run ?_
  refine LoopS.mk ⟨[], HeadS.lp (fun r : CR => r.k ≤ l.length ∧ r.acc = it ((l.map encR).length : Nat) :: ((l.take r.k).flatMap wR).map it) (fun r => ⟨[(4, it r.k), (3, .ref 7 r.acc.length)], [], [(7, ⟨1, true, r.acc⟩)]⟩) (fun r => l.length - r.k) ⟨0, [it ((l.map encR).length : Nat)]⟩ ⟨Nat.zero_le _, by simp⟩ ?_⟩
  intro r hJ
  obtain ⟨h1, h2⟩ := hJ
  by_cases hk : r.k < l.length
  · have b1 : decide ((r.k : Int) < ((l.map encR).length : Nat)) = true := by simp; exact hk
    have h3 : (wR l[r.k]).length = 3 := rfl
    have hle := fm_le1 (w := wR) hk
    have hlen : r.acc.length = 1 + ((l.take r.k).flatMap wR).length := by rw [h2]; simp; omega
    have hN : r.acc ++ (wR l[r.k]).map it = it ((l.map encR).length : Nat) :: ((l.take (r.k + 1)).flatMap wR).map it := by rw [h2, fm_take hk]; simp
    refine run ?_
    refine Idx.map hk rfl ?_
    refine run ?_
    refine Idx.map hk rfl ?_
    refine run ?_
    refine Idx.map hk rfl ?_
    refine run ?_
    refine ⟨⟨⟨r.k + 1, _⟩, ⟨hk, hN⟩⟩, Nat.sub_lt_sub_left hk (Nat.lt_succ_self _), ?_⟩
    repeat' (first | exact trivial | exact rfl | refine ⟨?_, ?_⟩ | refine ⟨?_, ?_, ?_⟩)
  · have b1 : decide ((r.k : Int) < ((l.map encR).length : Nat)) = false := by simp; omega
    have e : r.acc = (wl wR l).map it := by rw [h2, List.take_of_length_le (by omega)]; simp [wl]
    refine run ?_
    exact Done.mk (congrArg (fun x => Dat.sl 1 x false) e) rfl
theorem refExpr_ok : ∀ (n : Nat) (e : Ex), (wE e).length < n → (wE e).length < 2^30 → CallsA Tryz.prog 193 [encE e] ct0 (ints (wE e)) ct0 := by
  intro n
  induction n with
  | zero => intro e h; omega
  | succ n ih =>
    intro e h hb
    have hl := wE_len e
    have hp := fm_len (l := e.a) wE_pos
    have hL : CallsA Tryz.prog 195 [.sl 4 (encEs e.a) false] ct0 (ints (wl wE e.a)) ct0 := by
      rw [encEs_map]
      refine refL195_ok wE (fun x hx => ih x ?_ ?_) (by rw [wl_len]; omega) (by omega)
      · have := fm_mem (w := wE) hx; omega
      · have := fm_mem (w := wE) hx; omega
    have h2 : (wl wE e.a).length < 2^30 := by rw [wl_len]; omega
    rw [wE_eq]
    refine fn_ok hm Tryz.func193 (fun _ => false) [] (fun _ => []) (by kernel_rfl) ?_
    refine run ?_; repeat ((apply call_ok; first | exact (hL)); refine run ?_)
    exact Done.mk rfl rfl
theorem refCond_ok : ∀ (n : Nat) (c : Co), (wC c).length < n → (wC c).length < 2^30 → CallsA Tryz.prog 194 [encC c] ct0 (ints (wC c)) ct0 := by
  intro n
  induction n with
  | zero => intro e h; omega
  | succ n ih =>
    intro c h hb
    have hl := wC_len c
    have hp := fm_len (l := c.a) wE_pos
    have hq := fm_len (l := c.c) wC_pos
    have hL : CallsA Tryz.prog 195 [.sl 4 (encEs c.a) false] ct0 (ints (wl wE c.a)) ct0 := by
      rw [encEs_map]
      refine refL195_ok wE (fun x hx => refExpr_ok _ x (Nat.lt_succ_self _) ?_) (by rw [wl_len]; omega) (by omega)
      have := fm_mem (w := wE) hx; omega
    have l1 := wl_len wE c.a
    have hec : (encCs c.c).length = c.c.length := by rw [encCs_map]; simp
    have hx : ∀ x ∈ c.c, CallsA Tryz.prog 194 [encC x] ct0 (ints (wC x)) ct0 := fun x hx => by
      have := fm_mem (w := wC) hx
      exact ih x (by omega) (by omega)
    have hfin : ∀ acc : List Dat, acc = (([it c.op] ++ (wl wE c.a).map it) ++ [it ((encCs c.c).length : Nat)]) ++ ((c.c.take c.c.length).flatMap wC).map it → acc = (([c.op] ++ wl wE c.a) ++ wl wC c.c).map it := fun acc e => by
      rw [e, List.take_of_length_le (Nat.le_refl _), hec]; simp [wl]
    rw [wC_eq]
    refine fn_ok hm Tryz.func194 (fun _ => false) [] (fun _ => []) (by kernel_rfl) ?_
    refine run ?_; repeat ((apply call_ok; first | exact (hL)); refine run ?_)
    refine LoopS.mk ⟨[], HeadS.lp (fun r : CR => r.k ≤ c.c.length ∧ r.acc = (([it c.op] ++ (wl wE c.a).map it) ++ [it ((encCs c.c).length : Nat)]) ++ ((c.c.take r.k).flatMap wC).map it) (fun r => ⟨[(4, it r.k), (3, .ref 7 r.acc.length)], [], [(7, ⟨1, true, r.acc⟩)]⟩) (fun r => c.c.length - r.k) ⟨0, ([it c.op] ++ (wl wE c.a).map it) ++ [it ((encCs c.c).length : Nat)]⟩ ⟨Nat.zero_le _, by simp⟩ ?_⟩
    intro r hJ
    obtain ⟨h1, h2⟩ := hJ
    by_cases hk : r.k < c.c.length
    · have b1 : decide ((r.k : Int) < ((encCs c.c).length : Nat)) = true := by rw [hec]; simp; exact hk
      have hc := hx c.c[r.k] (List.getElem_mem hk)
      have hle := fm_le1 (w := wC) hk
      have hlen : r.acc.length = 1 + (wl wE c.a).length + 1 + ((c.c.take r.k).flatMap wC).length := by rw [h2]; simp; omega
      have hN : r.acc ++ (wC c.c[r.k]).map it = (([it c.op] ++ (wl wE c.a).map it) ++ [it ((encCs c.c).length : Nat)]) ++ ((c.c.take (r.k + 1)).flatMap wC).map it := by rw [h2, fm_take hk]; simp
      have hi : nth (encCs c.c) r.k = some (encC c.c[r.k]) := by rw [encCs_map, nth_map, nth_get hk]; rfl
      refine run ?_
      refine Idx.at rfl (by omega) hi ?_
      refine run ?_; repeat ((apply call_ok; first | exact (hc)); refine run ?_)
      refine ⟨⟨⟨r.k + 1, _⟩, ⟨hk, hN⟩⟩, Nat.sub_lt_sub_left hk (Nat.lt_succ_self _), ?_⟩
      repeat' (first | exact trivial | exact rfl | refine ⟨?_, ?_⟩ | refine ⟨?_, ?_, ?_⟩)
    · have b1 : decide ((r.k : Int) < ((encCs c.c).length : Nat)) = false := by rw [hec]; simp; omega
      have e := hfin r.acc (by rw [h2, show r.k = c.c.length by omega])
      refine run ?_
      exact Done.mk (congrArg (fun x => Dat.sl 1 x false) e) rfl
theorem refStmt_ok : ∀ (n : Nat) (s : Sm), (wS s).length < n → (wS s).length < 2^30 → CallsA Tryz.prog 166 [encS s] ct0 (ints (wS s)) ct0 := by
  intro n
  induction n with
  | zero => intro e h; omega
  | succ n ih =>
    intro s h hb
    have hl := wS_len s
    have l1 := wl_len wE s.args
    have l2 := wl_len wI s.ptrs
    have l3 := wl_len wS s.body
    have l4 := wl_len wS s.els
    have p1 := fm_len (l := s.args) wE_pos
    have p3 := fm_len (l := s.body) wS_pos
    have p4 := fm_len (l := s.els) wS_pos
    have p2 := fm_len (l := s.ptrs) (w := wI) (fun _ => Nat.one_pos)
    have hX := refExpr_ok _ s.x (Nat.lt_succ_self _) (by omega)
    have hY := refExpr_ok _ s.y (Nat.lt_succ_self _) (by omega)
    have hC := refCond_ok _ s.c (Nat.lt_succ_self _) (by omega)
    have hA : CallsA Tryz.prog 195 [.sl 4 (encEs s.args) false] ct0 (ints (wl wE s.args)) ct0 := by
      rw [encEs_map]
      refine refL195_ok wE (fun x hx => refExpr_ok _ x (Nat.lt_succ_self _) ?_) (by omega) (by omega)
      have := fm_mem (w := wE) hx; omega
    have hP := refInts_ok s.ptrs (by omega)
    have hB : CallsA Tryz.prog 124 [.sl 20 (encSs s.body) false] ct0 (ints (wl wS s.body)) ct0 := by
      rw [encSs_map]
      refine refL124_ok wS (fun x hx => ih x ?_ ?_) (by omega) (by omega)
      · have := fm_mem (w := wS) hx; omega
      · have := fm_mem (w := wS) hx; omega
    have hE : CallsA Tryz.prog 124 [.sl 20 (encSs s.els) false] ct0 (ints (wl wS s.els)) ct0 := by
      rw [encSs_map]
      refine refL124_ok wS (fun x hx => ih x ?_ ?_) (by omega) (by omega)
      · have := fm_mem (w := wS) hx; omega
      · have := fm_mem (w := wS) hx; omega
    have e : (((((([it s.site, it s.op, it s.n, it s.m, it s.v] ++ (wE s.x).map it) ++ (wE s.y).map it) ++ (wC s.c).map it) ++ (wl wE s.args).map it) ++ (wl wI s.ptrs).map it) ++ (wl wS s.body).map it) ++ (wl wS s.els).map it =
        ([[s.site, s.op, s.n, s.m, s.v], wE s.x, wE s.y, wC s.c, wl wE s.args, wl wI s.ptrs, wl wS s.body, wl wS s.els].flatten).map it := by simp
    rw [wS_eq]
    refine fn_ok hm Tryz.func166 (fun _ => false) [] (fun _ => []) (by kernel_rfl) ?_
    refine run ?_; repeat ((apply call_ok; first | exact (hX) | exact (hY) | exact (hC) | exact (hA) | exact (hP) | exact (hB) | exact (hE)); refine run ?_)
    exact Done.mk (congrArg (fun x => Dat.sl 1 x false) e) rfl
end Abs
namespace Abs
open Go Go.Proofs
set_option maxRecDepth 100000
set_option maxHeartbeats 4000000
def byteD (x : Int) (k : Nat) : Dat := .int .u8 (IntKind.u8.wrap (x.fdiv (2 ^ (min (8 * (k : Int)).toNat IntKind.i64.bits))))
def byteU (x : Int) (k : Nat) : UInt8 := UInt8.ofNat ((x.fdiv (2 ^ (8 * k))) % 256).toNat
def wB (x : Int) : List UInt8 := (List.range 8).map (byteU x)
theorem wrap_u8 (x : Int) : IntKind.u8.wrap x = x % 256 := by simp [IntKind.wrap, IntKind.bits, IntKind.signed]
theorem wrap_u64 (x : Int) : IntKind.u64.wrap x = x % 18446744073709551616 := by simp [IntKind.wrap, IntKind.bits, IntKind.signed]
theorem u8_back {y : Int} (h1 : 0 ≤ y) (h2 : y < 256) : (((UInt8.ofNat y.toNat).toNat : Nat) : Int) = y := by
  rw [UInt8.toNat_ofNat']
  have : y.toNat < 256 := by omega
  rw [Nat.mod_eq_of_lt this]; omega
theorem byteD_eq (x : Int) (k : Nat) (h : k < 8) : byteD x k = .int .u8 ((byteU x k).toNat : Int) := by
  have e : min (8 * (k : Int)).toNat IntKind.i64.bits = 8 * k := by simp [IntKind.bits]; omega
  unfold byteD byteU
  rw [e, wrap_u8, u8_back (Int.emod_nonneg _ (by omega)) (Int.emod_lt_of_pos _ (by omega))]
theorem wB_len (x : Int) : (wB x).length = 8 := by simp [wB]
def bytesD (l : List Int) : List Dat := (l.flatMap wB).map fun b => .int .u8 b.toNat
theorem wB_D (x : Int) : (List.range 8).map (byteD x) = (wB x).map fun b => .int .u8 b.toNat := by
  unfold wB
  rw [List.map_map]
  apply List.map_congr_left
  intro k hk
  rw [List.mem_range] at hk
  simp [byteD_eq x k hk]
theorem bytesD_len (l : List Int) : (bytesD l).length = 8 * l.length := by
  unfold bytesD
  rw [List.length_map]
  induction l with
  | nil => rfl
  | cons x l ih => rw [List.flatMap_cons, List.length_append, ih, wB_len, List.length_cons]; omega
theorem bytesD_take {l : List Int} {k : Nat} (h : k < l.length) : bytesD (l.take (k+1)) = bytesD (l.take k) ++ (List.range 8).map (byteD l[k]) := by
  unfold bytesD
  rw [fm_take h, List.map_append, wB_D]
structure BR where
  k : Nat
  acc : List Dat
  y : Int
theorem encBytes_ok (l : List Int) (hl : l.length ≤ 100000) : CallsA Tryz.prog 115 [ints l] ct0 (.tup [byt (l.flatMap wB), it 0]) ct0 := by
  have b0 : decide (((l.map it).length : Int) > 100000) = false := by simp; omega
  refine fn_ok hm Tryz.func115 (fun _ => false) [] (fun _ => []) (by kernel_rfl) ?_
  refine run ?_
  refine LoopS.mk ⟨[.tmp 4 20005], HeadS.lp (fun r : CR => r.k ≤ l.length ∧ r.acc = bytesD (l.take r.k)) (fun r => ⟨[(13, it r.k), (4, .ref 20005 r.acc.length)], [], [(20005, ⟨1, true, r.acc⟩)]⟩) (fun r => l.length - r.k) ⟨0, []⟩ ⟨Nat.zero_le _, by simp [bytesD]⟩ ?_⟩
  intro r hJ
  obtain ⟨h1, h2⟩ := hJ
  have hlen : r.acc.length ≤ 800000 := by rw [h2, bytesD_len, List.length_take]; omega
  by_cases hk : r.k < l.length
  · have b1 : decide ((r.k : Int) < ((l.map it).length : Nat)) = true := by simp; exact hk
    have hN := bytesD_take hk
    refine run ?_
    refine Idx.map hk rfl ?_
    refine run ?_
    refine LoopS.mk ⟨[], HeadS.lp (fun q : CR => q.k ≤ 8 ∧ q.acc = r.acc ++ (List.range q.k).map (byteD l[r.k])) (fun q => ⟨[(17, it q.k), (4, .ref 20005 q.acc.length)], [], [(20005, ⟨1, true, q.acc⟩)]⟩) (fun q => 8 - q.k) ⟨0, r.acc⟩ ⟨Nat.zero_le _, by simp⟩ ?_⟩
    intro q hq
    obtain ⟨g1, g2⟩ := hq
    have glen : q.acc.length = r.acc.length + q.k := by rw [g2]; simp
    by_cases gk : q.k < 8
    · have c1 : decide ((q.k : Int) < 8) = true := by simp; omega
      have gN : q.acc ++ [byteD l[r.k] q.k] = r.acc ++ (List.range (q.k + 1)).map (byteD l[r.k]) := by rw [g2, List.range_succ]; simp
      refine run ?_
      refine Arith.mk ?_
      refine run ?_
      refine ⟨⟨⟨q.k + 1, _⟩, ⟨gk, gN⟩⟩, Nat.sub_lt_sub_left gk (Nat.lt_succ_self _), ?_⟩
      repeat' (first | exact trivial | exact rfl | refine ⟨?_, ?_⟩ | refine ⟨?_, ?_, ?_⟩)
    · have c1 : decide ((q.k : Int) < 8) = false := by simp; omega
      have e8 : q.k = 8 := by omega
      have gN : q.acc = bytesD (l.take (r.k + 1)) := by rw [hN, g2, e8, h2]
      refine run ?_
      refine ⟨⟨⟨r.k + 1, _⟩, ⟨hk, gN⟩⟩, Nat.sub_lt_sub_left hk (Nat.lt_succ_self _), ?_⟩
      repeat' (first | exact trivial | exact rfl | refine ⟨?_, ?_⟩ | refine ⟨?_, ?_, ?_⟩)
  · have b1 : decide ((r.k : Int) < ((l.map it).length : Nat)) = false := by simp; omega
    have e : r.acc = bytesD l := by rw [h2, List.take_of_length_le (by omega)]
    refine run ?_
    exact Done.mk (congrArg (fun x => Dat.tup [Dat.sl 1 x false, it 0]) e) rfl
theorem encBytes_big (l : List Int) (hl : ¬ l.length ≤ 100000) : CallsA Tryz.prog 115 [ints l] ct0 (.tup [byt [], it 2]) ct0 := by
  have b0 : decide (((l.map it).length : Int) > 100000) = true := by simp; omega
  refine fn_ok hm Tryz.func115 (fun _ => false) [] (fun _ => []) (by kernel_rfl) ?_
  refine run ?_
  exact Done.mk rfl rfl
def eDef (d : Df) : Dat := if (wD d).length ≤ 100000 then .tup [byt ((wD d).flatMap wB), it 0] else .tup [byt [], it 2]
theorem encodeDef_ok (d : Df) (hb : (wD d).length < 2^30) : CallsA Tryz.prog 74 [encD d] ct0 (eDef d) ct0 := by
  have hd := encDef_ok d hb
  unfold eDef
  by_cases h : (wD d).length ≤ 100000
  · rw [if_pos h]
    refine fn_ok hm Tryz.func74 (fun _ => false) [] (fun _ => []) (by kernel_rfl) ?_
    refine run ?_; repeat ((apply call_ok; first | exact (hd) | exact (encBytes_ok _ h)); refine run ?_)
    exact Done.mk rfl rfl
  · rw [if_neg h]
    refine fn_ok hm Tryz.func74 (fun _ => false) [] (fun _ => []) (by kernel_rfl) ?_
    refine run ?_; repeat ((apply call_ok; first | exact (hd) | exact (encBytes_big _ h)); refine run ?_)
    exact Done.mk rfl rfl
def yv (x : Int) : Nat → Int
  | 0 => IntKind.u64.wrap x
  | k + 1 => IntKind.u64.wrap ((yv x k).tdiv 256)
theorem yv_eq (x : Int) : ∀ k, yv x k = (x % 18446744073709551616) / 256 ^ k
  | 0 => by simp [yv, wrap_u64]
  | k + 1 => by
    have h := yv_eq x k
    have h0 : 0 ≤ x % 18446744073709551616 := Int.emod_nonneg _ (by omega)
    have h1 : x % 18446744073709551616 < 18446744073709551616 := Int.emod_lt_of_pos _ (by omega)
    have hp : (0 : Int) < 256 ^ k := Int.pow_pos (by omega)
    have h2 : 0 ≤ yv x k := by rw [h]; exact Int.ediv_nonneg h0 (by omega)
    have h3 : yv x k < 18446744073709551616 := by
      rw [h]; exact Int.lt_of_le_of_lt (Int.ediv_le_self _ h0) h1
    simp only [yv]
    rw [wrap_u64, Int.tdiv_eq_ediv_of_nonneg h2, Int.emod_eq_of_lt (by omega) (by omega), h, Int.pow_succ, ← Int.ediv_ediv_of_nonneg (by omega)]
theorem yv_byte (x : Int) (k : Nat) (h : k < 8) : Dat.int .u8 (IntKind.u8.wrap ((yv x k).tmod 256)) = byteD x k := by
  have h0 : 0 ≤ x % 18446744073709551616 := Int.emod_nonneg _ (by omega)
  have h2 : 0 ≤ yv x k := by rw [yv_eq]; exact Int.ediv_nonneg h0 (Int.le_of_lt (Int.pow_pos (by omega)))
  have e : min (8 * (k : Int)).toNat IntKind.i64.bits = 8 * k := by simp [IntKind.bits]; omega
  unfold byteD
  rw [e, wrap_u8, wrap_u8, Int.tmod_eq_emod_of_nonneg h2, Int.emod_emod_of_dvd _ (by omega), yv_eq, Int.fdiv_eq_ediv_of_nonneg _ (Int.le_of_lt (Int.pow_pos (by omega)))]
  have hk : k = 0 ∨ k = 1 ∨ k = 2 ∨ k = 3 ∨ k = 4 ∨ k = 5 ∨ k = 6 ∨ k = 7 := by omega
  congr 1
  rcases hk with h | h | h | h | h | h | h | h <;> subst h <;> simp only [Int.reducePow, Nat.reduceMul, Nat.reducePow] <;> omega
theorem yv_D (x : Int) : (List.range 8).map (fun k => Dat.int .u8 (IntKind.u8.wrap ((yv x k).tmod 256))) = (List.range 8).map (byteD x) :=
  List.map_congr_left fun k hk => yv_byte x k (List.mem_range.1 hk)
structure BQ where
  k : Nat
  acc : List Dat
  y : Int
theorem refBytes_ok (l : List Int) (hl : l.length ≤ 100000) : CallsA Tryz.prog 122 [ints l] ct0 (byt (l.flatMap wB)) ct0 := by
  refine fn_ok hm Tryz.func122 (fun _ => false) [] (fun _ => []) (by kernel_rfl) ?_
  refine run ?_
  refine LoopS.mk ⟨[], HeadS.lp (fun r : CR => r.k ≤ l.length ∧ r.acc = bytesD (l.take r.k)) (fun r => ⟨[(4, it r.k), (3, .ref 7 r.acc.length)], [], [(7, ⟨1, true, r.acc⟩)]⟩) (fun r => l.length - r.k) ⟨0, []⟩ ⟨Nat.zero_le _, by simp [bytesD]⟩ ?_⟩
  intro r hJ
  obtain ⟨h1, h2⟩ := hJ
  have hlen : r.acc.length ≤ 800000 := by rw [h2, bytesD_len, List.length_take]; omega
  by_cases hk : r.k < l.length
  · have b1 : decide ((r.k : Int) < ((l.map it).length : Nat)) = true := by simp; exact hk
    have hN := bytesD_take hk
    refine run ?_
    refine Idx.map hk rfl ?_
    refine run ?_
    refine Arith.mk ?_
    refine run ?_
    refine LoopS.mk ⟨[], HeadS.lp (fun q : BQ => (q.k ≤ 8 ∧ q.y = yv l[r.k] q.k) ∧ q.acc = r.acc ++ (List.range q.k).map (fun k => Dat.int .u8 (IntKind.u8.wrap ((yv l[r.k] k).tmod 256)))) (fun q => ⟨[(6, it q.k), (5, .int .u64 q.y), (3, .ref 7 q.acc.length)], [], [(7, ⟨1, true, q.acc⟩)]⟩) (fun q => 8 - q.k) ⟨0, r.acc, yv l[r.k] 0⟩ ⟨⟨Nat.zero_le _, rfl⟩, by simp⟩ ?_⟩
    intro q hq
    obtain ⟨⟨g1, gy⟩, g2⟩ := hq
    have glen : q.acc.length = r.acc.length + q.k := by rw [g2]; simp
    by_cases gk : q.k < 8
    · have c1 : decide ((q.k : Int) < 8) = true := by simp; omega
      have gN : q.acc ++ [Dat.int .u8 (IntKind.u8.wrap (q.y.tmod 256))] = r.acc ++ (List.range (q.k + 1)).map (fun k => Dat.int .u8 (IntKind.u8.wrap ((yv l[r.k] k).tmod 256))) := by rw [g2, gy, List.range_succ]; simp
      have gY : IntKind.u64.wrap (q.y.tdiv 256) = yv l[r.k] (q.k + 1) := by rw [gy]; rfl
      refine run ?_
      refine Arith.mk ?_
      refine run ?_
      refine ⟨⟨⟨q.k + 1, _, _⟩, ⟨⟨gk, gY⟩, gN⟩⟩, Nat.sub_lt_sub_left gk (Nat.lt_succ_self _), ?_⟩
      repeat' (first | exact trivial | exact rfl | refine ⟨?_, ?_⟩ | refine ⟨?_, ?_, ?_⟩)
    · have c1 : decide ((q.k : Int) < 8) = false := by simp; omega
      have e8 : q.k = 8 := by omega
      have gN : q.acc = bytesD (l.take (r.k + 1)) := by rw [hN, g2, e8, h2, yv_D]
      refine run ?_
      refine ⟨⟨⟨r.k + 1, _⟩, ⟨hk, gN⟩⟩, Nat.sub_lt_sub_left hk (Nat.lt_succ_self _), ?_⟩
      repeat' (first | exact trivial | exact rfl | refine ⟨?_, ?_⟩ | refine ⟨?_, ?_, ?_⟩)
  · have b1 : decide ((r.k : Int) < ((l.map it).length : Nat)) = false := by simp; omega
    have e : r.acc = bytesD l := by rw [h2, List.take_of_length_le (by omega)]
    refine run ?_
    exact Done.mk (congrArg (fun x => Dat.sl 1 x false) e) rfl
def encWr (b : List UInt8) (e : Int) : Dat := .agg [byt b, it e]
def wrOf (l : List Int) : Dat := if l.length ≤ 100000 then encWr (l.flatMap wB) 0 else encWr [] 2
theorem written_ok (l : List Int) : CallsA Tryz.prog 79 [ints l] ct0 (wrOf l) ct0 := by
  unfold wrOf
  by_cases h : l.length ≤ 100000
  · have b0 : decide (((l.map it).length : Int) > 100000) = false := by simp; omega
    rw [if_pos h]
    refine fn_ok hm Tryz.func79 (fun _ => false) [] (fun _ => []) (by kernel_rfl) ?_
    refine run ?_; repeat ((apply call_ok; first | exact (refBytes_ok _ h)); refine run ?_)
    exact Done.mk rfl rfl
  · have b0 : decide (((l.map it).length : Int) > 100000) = true := by simp; omega
    rw [if_neg h]
    refine fn_ok hm Tryz.func79 (fun _ => false) [] (fun _ => []) (by kernel_rfl) ?_
    refine run ?_
    exact Done.mk rfl rfl
end Abs
namespace Abs
open Go Go.Proofs
set_option maxRecDepth 100000
set_option maxHeartbeats 4000000
def midD (acc : List Dat) (d : Df) : List Dat := (((acc ++ [it d.firm, it d.part]) ++ (wl wR d.params).map it) ++ (wl wR d.given).map it) ++ [it d.vars, it d.refs, it ((d.arrays.map encA).length : Nat)]
theorem midD_len (acc : List Dat) (d : Df) : (midD acc d).length = acc.length + 2 + (wl wR d.params).length + (wl wR d.given).length + 3 := by simp [midD]; omega
def w8 (b : UInt8) : List Int := [(b.toNat : Int)]
theorem refDef_ok (d : Df) (hb : (wD d).length < 2^30) : CallsA Tryz.prog 80 [encD d] ct0 (ints (wD d)) ct0 := by
  have hl := wD_len d
  have l0 := wl_len w8 d.name
  have l0' : wl (fun b : UInt8 => [(b.toNat : Int)]) d.name = wl w8 d.name := rfl
  rw [l0'] at hl
  have l1 := wl_len wR d.params
  have l2 := wl_len wR d.given
  have l3 := wl_len wA d.arrays
  have l4 := wl_len wS d.body
  have p0 := fm_len (l := d.name) (w := w8) (fun _ => Nat.one_pos)
  have p1 := fm_len (l := d.params) (w := wR) (fun _ => by show 0 < 3; omega)
  have p2 := fm_len (l := d.given) (w := wR) (fun _ => by show 0 < 3; omega)
  have p3 := fm_len (l := d.arrays) (w := wA) (fun _ => by show 0 < 2; omega)
  have p4 := fm_len (l := d.body) wS_pos
  have hP := refL123_ok (l := d.params) (by omega) (by omega)
  have hG := refL123_ok (l := d.given) (by omega) (by omega)
  have hB : CallsA Tryz.prog 124 [.sl 20 (d.body.map encS) false] ct0 (ints (wl wS d.body)) ct0 := by
    refine refL124_ok wS (fun x hx => refStmt_ok _ x (Nat.lt_succ_self _) ?_) (by omega) (by omega)
    have := fm_mem (w := wS) hx; omega
  refine fn_ok hm Tryz.func80 (fun _ => false) [] (fun _ => []) (by kernel_rfl) ?_
  refine run ?_
  refine LoopS.mk ⟨[], HeadS.lp (fun r : CR => r.k ≤ d.name.length ∧ r.acc = [it 1, it d.id, it d.site, it (d.name.length : Nat)] ++ ((d.name.take r.k).flatMap w8).map it) (fun r => ⟨[(4, it r.k), (3, .ref 13 r.acc.length)], [], [(13, ⟨1, true, r.acc⟩)]⟩) (fun r => d.name.length - r.k) ⟨0, [it 1, it d.id, it d.site, it (d.name.length : Nat)]⟩ ⟨Nat.zero_le _, by simp⟩ ?_⟩
  intro r hJ
  obtain ⟨h1, h2⟩ := hJ
  by_cases hk : r.k < d.name.length
  · have b1 : decide ((r.k : Int) < ((d.name.length : Nat) : Int)) = true := by simp; exact hk
    have hle := fm_le1 (w := w8) hk
    have hlen : r.acc.length = 4 + ((d.name.take r.k).flatMap w8).length := by rw [h2]; simp; omega
    have hu := UInt8.toNat_lt d.name[r.k]
    have hN : r.acc ++ [it (d.name[r.k].toNat : Int)] = [it 1, it d.id, it d.site, it (d.name.length : Nat)] ++ ((d.name.take (r.k + 1)).flatMap w8).map it := by rw [h2, fm_take hk]; simp [w8]
    have hs : nth d.name ((r.k : Int)).toNat = some d.name[r.k] := nth_get hk
    refine run ?_
    refine SIdx.mk ⟨_, by omega, hs, ?_⟩
    refine run ?_
    refine ⟨⟨⟨r.k + 1, _⟩, ⟨hk, hN⟩⟩, Nat.sub_lt_sub_left hk (Nat.lt_succ_self _), ?_⟩
    repeat' (first | exact trivial | exact rfl | refine ⟨?_, ?_⟩ | refine ⟨?_, ?_, ?_⟩)
  have b1 : decide ((r.k : Int) < ((d.name.length : Nat) : Int)) = false := by simp; omega
  have e1 : r.acc = [it 1, it d.id, it d.site, it (d.name.length : Nat)] ++ (d.name.flatMap w8).map it := by rw [h2, List.take_of_length_le (by omega)]
  have hlen : r.acc.length = 4 + (d.name.flatMap w8).length := by rw [e1]; simp; omega
  have hlen2 := midD_len r.acc d
  refine run ?_; repeat ((apply call_ok; first | exact (hP) | exact (hG)); refine run ?_)
  refine LoopS.mk ⟨[], HeadS.lp (fun q : CR => q.k ≤ d.arrays.length ∧ q.acc = midD r.acc d ++ ((d.arrays.take q.k).flatMap wA).map it) (fun q => ⟨[(5, it q.k), (3, .ref 13 q.acc.length)], [], [(13, ⟨1, true, q.acc⟩)]⟩) (fun q => d.arrays.length - q.k) ⟨0, (((r.acc ++ [it d.firm, it d.part]) ++ (wl wR d.params).map it) ++ (wl wR d.given).map it) ++ [it d.vars, it d.refs, it ((d.arrays.map encA).length : Nat)]⟩ ⟨Nat.zero_le _, by simp [midD]⟩ ?_⟩
  intro q hq
  have g1 := hq.1
  have g2 := hq.2
  by_cases gk : q.k < d.arrays.length
  · have c1 : decide ((q.k : Int) < ((d.arrays.map encA).length : Nat)) = true := by simp; exact gk
    have hle := fm_le1 (w := wA) gk
    have h22 : (wA d.arrays[q.k]).length = 2 := rfl
    have glen : q.acc.length = (midD r.acc d).length + ((d.arrays.take q.k).flatMap wA).length := by rw [g2]; simp
    have gN : q.acc ++ (wA d.arrays[q.k]).map it = midD r.acc d ++ ((d.arrays.take (q.k + 1)).flatMap wA).map it := by rw [g2, fm_take gk]; simp
    refine run ?_
    refine Idx.map gk rfl ?_
    refine run ?_
    refine Idx.map gk rfl ?_
    refine run ?_
    refine ⟨⟨⟨q.k + 1, _⟩, ⟨gk, gN⟩⟩, Nat.sub_lt_sub_left gk (Nat.lt_succ_self _), ?_⟩
    repeat' (first | exact trivial | exact rfl | refine ⟨?_, ?_⟩ | refine ⟨?_, ?_, ?_⟩)
  have c1 : decide ((q.k : Int) < ((d.arrays.map encA).length : Nat)) = false := by simp; omega
  have e2 : q.acc = midD r.acc d ++ (d.arrays.flatMap wA).map it := by rw [g2, List.take_of_length_le (by omega)]
  have glen : q.acc.length = (midD r.acc d).length + (d.arrays.flatMap wA).length := by rw [e2]; simp
  have e : (q.acc ++ [it d.budget]) ++ (wl wS d.body).map it = (wD d).map it := by
    rw [e2, midD, e1]; simp [wD, wl]; rfl
  refine run ?_; repeat ((apply call_ok; first | exact (hB)); refine run ?_)
  exact Done.mk (congrArg (fun x => Dat.sl 1 x false) e) rfl
theorem defIn_ok (d : Df) (hb : (wD d).length < 2^30) : CallsA Tryz.prog 33 [encD d] ct0 (wrOf (wD d)) ct0 := by
  have hw := written_ok (wD d)
  unfold wrOf at hw ⊢
  by_cases h : (wD d).length ≤ 100000
  · rw [if_pos h] at hw ⊢
    refine fn_ok hm Tryz.func33 (fun _ => false) [] (fun _ => []) (by kernel_rfl) ?_
    refine run ?_; repeat ((apply call_ok; first | exact (refDef_ok d hb) | exact (hw)); refine run ?_)
    exact Done.mk rfl rfl
  · rw [if_neg h] at hw ⊢
    refine fn_ok hm Tryz.func33 (fun _ => false) [] (fun _ => []) (by kernel_rfl) ?_
    refine run ?_; repeat ((apply call_ok; first | exact (refDef_ok d hb) | exact (hw)); refine run ?_)
    exact Done.mk rfl rfl
end Abs
namespace Abs
open Go Go.Proofs
set_option maxRecDepth 100000
set_option maxHeartbeats 4000000
theorem refL81_ok {l : List Rng} (hb : (wl wR l).length < 2^31) (hl : l.length < 2^31) :
    CallsA Tryz.prog 81 [.sl 3 (l.map encR) false] ct0 (ints (wl wR l)) ct0 := by
  rw [wl_len] at hb
  refine fn_ok hm Tryz.func81 (fun _ => false) [] (fun _ => []) (by kernel_rfl) ?_
  refine run ?_
  refine LoopS.mk ⟨[], HeadS.lp (fun r : CR => r.k ≤ l.length ∧ r.acc = it ((l.map encR).length : Nat) :: ((l.take r.k).flatMap wR).map it) (fun r => ⟨[(4, it r.k), (3, .ref 7 r.acc.length)], [], [(7, ⟨1, true, r.acc⟩)]⟩) (fun r => l.length - r.k) ⟨0, [it ((l.map encR).length : Nat)]⟩ ⟨Nat.zero_le _, by simp⟩ ?_⟩
  intro r hJ
  obtain ⟨h1, h2⟩ := hJ
  by_cases hk : r.k < l.length
  · have b1 : decide ((r.k : Int) < ((l.map encR).length : Nat)) = true := by simp; exact hk
    have h3 : (wR l[r.k]).length = 3 := rfl
    have hle := fm_le1 (w := wR) hk
    have hlen : r.acc.length = 1 + ((l.take r.k).flatMap wR).length := by rw [h2]; simp; omega
    have hN : r.acc ++ (wR l[r.k]).map it = it ((l.map encR).length : Nat) :: ((l.take (r.k + 1)).flatMap wR).map it := by rw [h2, fm_take hk]; simp
    refine run ?_
    refine Idx.map hk rfl ?_
    refine run ?_
    refine Idx.map hk rfl ?_
    refine run ?_
    refine Idx.map hk rfl ?_
    refine run ?_
    refine ⟨⟨⟨r.k + 1, _⟩, ⟨hk, hN⟩⟩, Nat.sub_lt_sub_left hk (Nat.lt_succ_self _), ?_⟩
    repeat' (first | exact trivial | exact rfl | refine ⟨?_, ?_⟩ | refine ⟨?_, ?_, ?_⟩)
  · have b1 : decide ((r.k : Int) < ((l.map encR).length : Nat)) = false := by simp; omega
    have e : r.acc = (wl wR l).map it := by rw [h2, List.take_of_length_le (by omega)]; simp [wl]
    refine run ?_
    exact Done.mk (congrArg (fun x => Dat.sl 1 x false) e) rfl
mutual
def fS : Sm → List Sm
  | .mk a b c d e f g h i j body els => .mk a b c d e f g h i j body els :: (fL body ++ fL els)
def fL : List Sm → List Sm
  | [] => []
  | s :: l => fS s ++ fL l
end
theorem fS_eq (s : Sm) : fS s = s :: (fL s.body ++ fL s.els) := by cases s; simp [fS, Sm.body, Sm.els]
theorem fL_fm : ∀ l, fL l = l.flatMap fS
  | [] => by simp [fL]
  | s :: l => by simp [fL, fL_fm l]
mutual
theorem flS_fst : ∀ (s : Sm) (k : Nat), (flS s k).map Prod.fst = fS s
  | .mk a b c d e f g h i j body els, k => by simp only [flS, fS, List.map_cons, List.map_append, flL_fst body, flL_fst els]
theorem flL_fst : ∀ (l : List Sm) (k : Nat), (flL l k).map Prod.fst = fL l
  | [], _ => rfl
  | s :: l, k => by simp only [flL, fL, List.map_append, flS_fst s, flL_fst l]
end
theorem fL_len (l : List Sm) : (fL l).length = szL l := by rw [← flL_fst l 0, List.length_map, flL_len]
theorem fmD_take {α β : Type} {w : α → List β} {l : List α} {k : Nat} (h : k < l.length) : (l.take (k+1)).flatMap w = (l.take k).flatMap w ++ w l[k] := by
  rw [take_one h]; simp [-List.take_append_getElem]
theorem fm_szL (l : List Sm) (k : Nat) : ((l.take k).flatMap fS).length = szL (l.take k) := by rw [← fL_fm, fL_len]
theorem flat_ok : ∀ (n : Nat) (l : List Sm), szL l < n → szL l < 2^30 → CallsA Tryz.prog 40 [.sl 20 (l.map encS) false] ct0 (lst 20 encS (fL l)) ct0 := by
  intro n
  induction n with
  | zero => intro l h; omega
  | succ n ih =>
    intro l h hb
    have hl := len_le_sz l
    refine fn_ok hm Tryz.func40 (fun _ => false) [] (fun _ => []) (by kernel_rfl) ?_
    refine run ?_
    refine LoopS.mk ⟨[], HeadS.lp (fun r : CR => r.k ≤ l.length ∧ r.acc = ((l.take r.k).flatMap fS).map encS) (fun r => ⟨[(4, it r.k), (3, .ref 5 r.acc.length)], [], [(5, ⟨20, true, r.acc⟩)]⟩) (fun r => l.length - r.k) ⟨0, []⟩ ⟨Nat.zero_le _, by simp⟩ ?_⟩
    intro r hJ
    have h1 := hJ.1
    have h2 := hJ.2
    by_cases hk : r.k < l.length
    · have b1 : decide ((r.k : Int) < ((l.map encS).length : Nat)) = true := by simp; exact hk
      have hz := szS_le hk
      have e2 := szS_eq l[r.k]
      have hA : CallsA Tryz.prog 40 [.sl 20 (encSs l[r.k].body) false] ct0 (lst 20 encS (fL l[r.k].body)) ct0 := by
        rw [encSs_map]; exact ih _ (by omega) (by omega)
      have hB : CallsA Tryz.prog 40 [.sl 20 (encSs l[r.k].els) false] ct0 (lst 20 encS (fL l[r.k].els)) ct0 := by
        rw [encSs_map]; exact ih _ (by omega) (by omega)
      have la := fL_len l[r.k].body
      have lb := fL_len l[r.k].els
      have hlen : r.acc.length = szL (l.take r.k) := by rw [h2, List.length_map, fm_szL]
      have hN : ((r.acc ++ [encS l[r.k]]) ++ (fL l[r.k].body).map encS) ++ (fL l[r.k].els).map encS = ((l.take (r.k + 1)).flatMap fS).map encS := by rw [h2, fmD_take hk, fS_eq]; simp
      refine run ?_; repeat ((apply call_ok; first | exact (hA) | exact (hB)); refine run ?_)
      refine Idx.map hk rfl ?_
      refine run ?_; repeat ((apply call_ok; first | exact (hA) | exact (hB)); refine run ?_)
      refine Idx.map hk rfl ?_
      refine run ?_; repeat ((apply call_ok; first | exact (hA) | exact (hB)); refine run ?_)
      refine Idx.map hk rfl ?_
      refine run ?_; repeat ((apply call_ok; first | exact (hA) | exact (hB)); refine run ?_)
      refine ⟨⟨⟨r.k + 1, _⟩, ⟨hk, hN⟩⟩, Nat.sub_lt_sub_left hk (Nat.lt_succ_self _), ?_⟩
      repeat' (first | exact trivial | exact rfl | refine ⟨?_, ?_⟩ | refine ⟨?_, ?_, ?_⟩)
    · have b1 : decide ((r.k : Int) < ((l.map encS).length : Nat)) = false := by simp; omega
      have e : r.acc = (fL l).map encS := by rw [h2, List.take_of_length_le (by omega), fL_fm]
      refine run ?_
      exact Done.mk (congrArg (fun x => Dat.sl 20 x false) e) rfl
structure CI where
  k : Nat
  a : List Int
def adOp (l : List Int) (op : Int) : List Int := if decide (op ≥ 4) && decide (op ≤ 10) then addI l op else l
mutual
def opE : Ex → List Int → List Int
  | .mk op n v a, l => opEs a (adOp l op)
def opEs : List Ex → List Int → List Int
  | [], l => l
  | e :: es, l => opEs es (opE e l)
end
theorem opE_eq (e : Ex) (l : List Int) : opE e l = opEs e.a (adOp l e.op) := by cases e; rfl
theorem opEs_take {es : List Ex} {l : List Int} {k : Nat} (h : k < es.length) : opEs (es.take (k+1)) l = opE es[k] (opEs (es.take k) l) := by
  have app : ∀ (a : List Ex) (x : Ex) (l : List Int), opEs (a ++ [x]) l = opE x (opEs a l) := by
    intro a
    induction a with
    | nil => intro x l; simp [opEs]
    | cons y a ih => intro x l; simp only [List.cons_append, opEs, ih]
  rw [take_one h, app]
theorem adOp_len (l : List Int) (op : Int) : (adOp l op).length ≤ l.length + 1 := by
  unfold adOp
  split
  · exact addI_len l op
  · omega
mutual
theorem opE_len : ∀ (e : Ex) (l : List Int), (opE e l).length ≤ l.length + (wE e).length
  | .mk op n v a, l => by
    have h1 := opEs_len a (adOp l op)
    have h2 := adOp_len l op
    have h3 := wE_len (.mk op n v a)
    simp only [opE]; simp only [Ex.a] at h3; omega
theorem opEs_len : ∀ (es : List Ex) (l : List Int), (opEs es l).length ≤ l.length + (es.flatMap wE).length
  | [], l => by simp [opEs]
  | e :: es, l => by
    have h1 := opE_len e l
    have h2 := opEs_len es (opE e l)
    simp only [opEs, List.flatMap_cons, List.length_append]; omega
end
theorem fm_le0 {α β : Type} {w : α → List β} {l : List α} (k : Nat) : ((l.take k).flatMap w).length ≤ (l.flatMap w).length := by
  have : l.flatMap w = (l.take k).flatMap w ++ (l.drop k).flatMap w := by rw [← List.flatMap_append, List.take_append_drop]
  rw [this, List.length_append]; omega
theorem refOps_ok : ∀ (n : Nat) (e : Ex), (wE e).length < n → ∀ (l : List Int), l.length + (wE e).length < 2^30 → CallsA Tryz.prog 41 [ints l, encE e] ct0 (ints (opE e l)) ct0 := by
  intro n
  induction n with
  | zero => intro e h; omega
  | succ n ih =>
    intro e h l hb
    have hl := wE_len e
    have hp := fm_len (l := e.a) wE_pos
    have hec : (encEs e.a).length = e.a.length := by rw [encEs_map]; simp
    have hao := adOp_len l e.op
    have ha := added_ok l e.op (by omega)
    refine (Bool.eq_false_or_eq_true (decide (e.op ≥ 4))).elim (fun b1 => ?_) (fun b1 => ?_)
    · refine (Bool.eq_false_or_eq_true (decide (e.op ≤ 10))).elim (fun b2 => ?_) (fun b2 => ?_)
      · have he : addI l e.op = opEs (e.a.take 0) (adOp l e.op) := by simp [opEs, adOp, b1, b2]
        refine fn_ok hm Tryz.func41 (fun _ => false) [] (fun _ => []) (by kernel_rfl) ?_
        refine run ?_; repeat ((apply call_ok; first | exact (ha)); refine run ?_)
        refine LoopS.mk ⟨[], HeadS.lp (fun r : CI => r.k ≤ e.a.length ∧ r.a = opEs (e.a.take r.k) (adOp l e.op)) (fun r => ⟨[(5, it r.k), (0, ints r.a)], [], []⟩) (fun r => e.a.length - r.k) ⟨0, addI l e.op⟩ ⟨Nat.zero_le _, he⟩ ?_⟩
        intro r hJ
        have h1 := hJ.1
        have h2 := hJ.2
        by_cases hk : r.k < e.a.length
        · have d1 : decide ((r.k : Int) < ((encEs e.a).length : Nat)) = true := by rw [hec]; simp; exact hk
          have hm' := fm_mem (w := wE) (List.getElem_mem hk)
          have hle := fm_le1 (w := wE) hk
          have hal := opEs_len (e.a.take r.k) (adOp l e.op)
          rw [← h2] at hal
          have hc := ih e.a[r.k] (by omega) r.a (by omega)
          have hN : opE e.a[r.k] r.a = opEs (e.a.take (r.k + 1)) (adOp l e.op) := by rw [h2, opEs_take hk]
          have hi : nth (encEs e.a) r.k = some (encE e.a[r.k]) := by rw [encEs_map, nth_map, nth_get hk]; rfl
          refine run ?_
          refine Idx.at rfl (by omega) hi ?_
          refine run ?_; repeat ((apply call_ok; first | exact (hc)); refine run ?_)
          refine ⟨⟨⟨r.k + 1, _⟩, ⟨hk, hN⟩⟩, Nat.sub_lt_sub_left hk (Nat.lt_succ_self _), ?_⟩
          repeat' (first | exact trivial | exact rfl | refine ⟨?_, ?_⟩ | refine ⟨?_, ?_, ?_⟩)
        · have d1 : decide ((r.k : Int) < ((encEs e.a).length : Nat)) = false := by rw [hec]; simp; omega
          have e1 : r.a = opE e l := by rw [h2, opE_eq, List.take_of_length_le (by omega)]
          refine run ?_
          exact Done.mk (congrArg ints e1) rfl
      · have he : l = opEs (e.a.take 0) (adOp l e.op) := by simp only [opEs, adOp, b1, b2, List.take_zero]; rfl
        refine fn_ok hm Tryz.func41 (fun _ => false) [] (fun _ => []) (by kernel_rfl) ?_
        refine run ?_; repeat ((apply call_ok; first | exact (ha)); refine run ?_)
        refine LoopS.mk ⟨[], HeadS.lp (fun r : CI => r.k ≤ e.a.length ∧ r.a = opEs (e.a.take r.k) (adOp l e.op)) (fun r => ⟨[(5, it r.k), (0, ints r.a)], [], []⟩) (fun r => e.a.length - r.k) ⟨0, l⟩ ⟨Nat.zero_le _, he⟩ ?_⟩
        intro r hJ
        have h1 := hJ.1
        have h2 := hJ.2
        by_cases hk : r.k < e.a.length
        · have d1 : decide ((r.k : Int) < ((encEs e.a).length : Nat)) = true := by rw [hec]; simp; exact hk
          have hm' := fm_mem (w := wE) (List.getElem_mem hk)
          have hle := fm_le1 (w := wE) hk
          have hal := opEs_len (e.a.take r.k) (adOp l e.op)
          rw [← h2] at hal
          have hc := ih e.a[r.k] (by omega) r.a (by omega)
          have hN : opE e.a[r.k] r.a = opEs (e.a.take (r.k + 1)) (adOp l e.op) := by rw [h2, opEs_take hk]
          have hi : nth (encEs e.a) r.k = some (encE e.a[r.k]) := by rw [encEs_map, nth_map, nth_get hk]; rfl
          refine run ?_
          refine Idx.at rfl (by omega) hi ?_
          refine run ?_; repeat ((apply call_ok; first | exact (hc)); refine run ?_)
          refine ⟨⟨⟨r.k + 1, _⟩, ⟨hk, hN⟩⟩, Nat.sub_lt_sub_left hk (Nat.lt_succ_self _), ?_⟩
          repeat' (first | exact trivial | exact rfl | refine ⟨?_, ?_⟩ | refine ⟨?_, ?_, ?_⟩)
        · have d1 : decide ((r.k : Int) < ((encEs e.a).length : Nat)) = false := by rw [hec]; simp; omega
          have e1 : r.a = opE e l := by rw [h2, opE_eq, List.take_of_length_le (by omega)]
          refine run ?_
          exact Done.mk (congrArg ints e1) rfl
    · have he : l = opEs (e.a.take 0) (adOp l e.op) := by simp only [opEs, adOp, b1, List.take_zero]; rfl
      refine fn_ok hm Tryz.func41 (fun _ => false) [] (fun _ => []) (by kernel_rfl) ?_
      refine run ?_; repeat ((apply call_ok; first | exact (ha)); refine run ?_)
      refine LoopS.mk ⟨[], HeadS.lp (fun r : CI => r.k ≤ e.a.length ∧ r.a = opEs (e.a.take r.k) (adOp l e.op)) (fun r => ⟨[(5, it r.k), (0, ints r.a)], [], []⟩) (fun r => e.a.length - r.k) ⟨0, l⟩ ⟨Nat.zero_le _, he⟩ ?_⟩
      intro r hJ
      have h1 := hJ.1
      have h2 := hJ.2
      by_cases hk : r.k < e.a.length
      · have d1 : decide ((r.k : Int) < ((encEs e.a).length : Nat)) = true := by rw [hec]; simp; exact hk
        have hm' := fm_mem (w := wE) (List.getElem_mem hk)
        have hle := fm_le1 (w := wE) hk
        have hal := opEs_len (e.a.take r.k) (adOp l e.op)
        rw [← h2] at hal
        have hc := ih e.a[r.k] (by omega) r.a (by omega)
        have hN : opE e.a[r.k] r.a = opEs (e.a.take (r.k + 1)) (adOp l e.op) := by rw [h2, opEs_take hk]
        have hi : nth (encEs e.a) r.k = some (encE e.a[r.k]) := by rw [encEs_map, nth_map, nth_get hk]; rfl
        refine run ?_
        refine Idx.at rfl (by omega) hi ?_
        refine run ?_; repeat ((apply call_ok; first | exact (hc)); refine run ?_)
        refine ⟨⟨⟨r.k + 1, _⟩, ⟨hk, hN⟩⟩, Nat.sub_lt_sub_left hk (Nat.lt_succ_self _), ?_⟩
        repeat' (first | exact trivial | exact rfl | refine ⟨?_, ?_⟩ | refine ⟨?_, ?_, ?_⟩)
      · have d1 : decide ((r.k : Int) < ((encEs e.a).length : Nat)) = false := by rw [hec]; simp; omega
        have e1 : r.a = opE e l := by rw [h2, opE_eq, List.take_of_length_le (by omega)]
        refine run ?_
        exact Done.mk (congrArg ints e1) rfl
end Abs
namespace Abs
open Go Go.Proofs
set_option maxRecDepth 100000
set_option maxHeartbeats 4000000
inductive CJ where
  | raw (k : Nat)
  | got (k : Nat) (a : List Int)
theorem CJ.both {P : CJ → Prop} (a : ∀ k, P (.raw k)) (b : ∀ k a, P (.got k a)) : ∀ i, P i
  | .raw k => a k
  | .got k x => b k x
def CJ.k : CJ → Nat
  | .raw k => k
  | .got k _ => k
def rcS (a : List Int) (s : Sm) : List Int := if s.op == 13 then addI a s.m else a
def rcalls (body : List Sm) : List Int := (fL body).foldl rcS []
theorem fold_take {α β : Type} {f : β → α → β} {z : β} {l : List α} {k : Nat} (h : k < l.length) : (l.take (k+1)).foldl f z = f ((l.take k).foldl f z) l[k] := by
  rw [take_one h, List.foldl_append]; rfl
theorem rc_len : ∀ (l : List Sm) (a : List Int), (l.foldl rcS a).length ≤ a.length + l.length
  | [], a => by simp
  | s :: l, a => by
    have h1 := rc_len l (rcS a s)
    have h2 : (rcS a s).length ≤ a.length + 1 := by
      unfold rcS; split
      · exact addI_len _ _
      · omega
    simp only [List.foldl_cons, List.length_cons]; omega
theorem refCalls_ok (d : Df) (h : szL d.body < 2^30) : CallsA Tryz.prog 35 [encD d] ct0 (ints (rcalls d.body)) ct0 := by
  have hf := flat_ok _ d.body (Nat.lt_succ_self _) h
  have hfl := fL_len d.body
  have hL : ∃ L, L = fL d.body := ⟨_, rfl⟩
  refine hL.elim fun L hL => ?_
  rw [← hL] at hf hfl
  have hrc : rcalls d.body = L.foldl rcS [] := by rw [hL]; rfl
  refine fn_ok hm Tryz.func35 (fun _ => false) [] (fun _ => []) (by kernel_rfl) ?_
  refine run ?_; repeat ((apply call_ok; first | exact (hf)); refine run ?_)
  refine LoopS.mk ⟨[], HeadS.of (fun i : CJ => match i with | .raw k => k ≤ L.length ∧ (L.take k).foldl rcS [] = [] | .got k a => k ≤ L.length ∧ (L.take k).foldl rcS [] = a) (fun i => match i with | .raw k => ⟨[(5, it k), (4, .ref 9 0)], [], [(9, ⟨1, true, []⟩)]⟩ | .got k a => ⟨[(5, it k), (4, ints a)], [], [(9, ⟨1, false, []⟩)]⟩) (fun i => L.length - i.k) (.raw 0) ⟨Nat.zero_le _, rfl⟩ ?_ ?_ ?_ ?_ ?_⟩
  · repeat' (first | exact trivial | exact rfl | refine ⟨?_, ?_⟩ | refine ⟨?_, ?_, ?_⟩)
  · kernel_rfl
  · kernel_rfl
  · exact CJ.both (fun k => ⟨rfl, rfl, rfl⟩) (fun k a => ⟨rfl, rfl, rfl⟩)
  refine CJ.both (fun k => ?_) (fun k a => ?_)
  · intro hJ
    have h1 : k ≤ L.length := hJ.1
    have h2 : (L.take k).foldl rcS [] = ([] : List Int) := hJ.2
    by_cases hk : k < L.length
    · have b1 : decide ((k : Int) < ((L.map encS).length : Nat)) = true := by simp; exact hk
      have ht := fold_take (f := rcS) (z := []) hk
      have hal := rc_len (L.take k) []
      have htl : (L.take k).length ≤ L.length := by rw [List.length_take]; omega
      rw [h2] at hal ht
      have ha := added_ok ([] : List Int) L[k].m (by simp only [List.length_nil] at hal ⊢; omega)
      refine (Bool.eq_false_or_eq_true (L[k].op == 13)).elim (fun b2 => ?_) (fun b2 => ?_)
      · have e : rcS ([] : List Int) L[k] = addI ([] : List Int) L[k].m := if_pos b2
        refine run ?_
        refine Idx.map hk rfl ?_
        refine run ?_
        refine Idx.map hk rfl ?_
        refine run ?_; repeat ((apply call_ok; first | exact (ha)); refine run ?_)
        refine ⟨⟨.got (k + 1) (addI ([] : List Int) L[k].m), ⟨hk, ht.trans e⟩⟩, Nat.sub_lt_sub_left hk (Nat.lt_succ_self _), ?_⟩
        repeat' (first | exact trivial | exact rfl | refine ⟨?_, ?_⟩ | refine ⟨?_, ?_, ?_⟩)
      · have e : rcS ([] : List Int) L[k] = ([] : List Int) := if_neg (by rw [b2]; simp)
        refine run ?_
        refine Idx.map hk rfl ?_
        refine run ?_
        refine ⟨⟨.raw (k + 1), ⟨hk, ht.trans e⟩⟩, Nat.sub_lt_sub_left hk (Nat.lt_succ_self _), ?_⟩
        repeat' (first | exact trivial | exact rfl | refine ⟨?_, ?_⟩ | refine ⟨?_, ?_, ?_⟩)
    · have b1 : decide ((k : Int) < ((L.map encS).length : Nat)) = false := by simp; omega
      have e : ([] : List Int) = rcalls d.body := by rw [← h2, List.take_of_length_le (by omega), hrc]
      refine run ?_
      exact Done.mk (congrArg ints e) rfl
  · intro hJ
    have h1 : k ≤ L.length := hJ.1
    have h2 : (L.take k).foldl rcS [] = a := hJ.2
    by_cases hk : k < L.length
    · have b1 : decide ((k : Int) < ((L.map encS).length : Nat)) = true := by simp; exact hk
      have ht := fold_take (f := rcS) (z := []) hk
      have hal := rc_len (L.take k) []
      have htl : (L.take k).length ≤ L.length := by rw [List.length_take]; omega
      rw [h2] at hal ht
      have ha := added_ok a L[k].m (by simp only [List.length_nil] at hal ⊢; omega)
      refine (Bool.eq_false_or_eq_true (L[k].op == 13)).elim (fun b2 => ?_) (fun b2 => ?_)
      · have e : rcS a L[k] = addI a L[k].m := if_pos b2
        refine run ?_
        refine Idx.map hk rfl ?_
        refine run ?_
        refine Idx.map hk rfl ?_
        refine run ?_; repeat ((apply call_ok; first | exact (ha)); refine run ?_)
        refine ⟨⟨.got (k + 1) (addI a L[k].m), ⟨hk, ht.trans e⟩⟩, Nat.sub_lt_sub_left hk (Nat.lt_succ_self _), ?_⟩
        repeat' (first | exact trivial | exact rfl | refine ⟨?_, ?_⟩ | refine ⟨?_, ?_, ?_⟩)
      · have e : rcS a L[k] = a := if_neg (by rw [b2]; simp)
        refine run ?_
        refine Idx.map hk rfl ?_
        refine run ?_
        refine ⟨⟨.got (k + 1) a, ⟨hk, ht.trans e⟩⟩, Nat.sub_lt_sub_left hk (Nat.lt_succ_self _), ?_⟩
        repeat' (first | exact trivial | exact rfl | refine ⟨?_, ?_⟩ | refine ⟨?_, ?_, ?_⟩)
    · have b1 : decide ((k : Int) < ((L.map encS).length : Nat)) = false := by simp; omega
      have e : a = rcalls d.body := by rw [← h2, List.take_of_length_le (by omega), hrc]
      refine run ?_
      exact Done.mk (congrArg ints e) rfl
end Abs
namespace Abs
open Go Go.Proofs
set_option maxRecDepth 100000
set_option maxHeartbeats 4000000
def ropS (a : List Int) (s : Sm) : List Int := opEs s.args (opE s.y (opE s.x a))
def rops (body : List Sm) : List Int := (fL body).foldl ropS []
def opW (s : Sm) : Nat := (wE s.x).length + (wE s.y).length + (s.args.flatMap wE).length
def opWs (l : List Sm) : Nat := (l.map opW).sum
theorem opWs_app (a b : List Sm) : opWs (a ++ b) = opWs a + opWs b := by simp [opWs]
mutual
theorem opW_S : ∀ s : Sm, opWs (fS s) ≤ (wS s).length
  | .mk a b c d e f g h i j body els => by
    have h1 := opW_L body
    have h2 := opW_L els
    have h3 := wS_len (.mk a b c d e f g h i j body els)
    simp only [Sm.x, Sm.y, Sm.args, Sm.body, Sm.els, wl_len, Sm.c, Sm.ptrs] at h3
    have h4 : opWs (fS (.mk a b c d e f g h i j body els)) = opW (.mk a b c d e f g h i j body els) + (opWs (fL body) + opWs (fL els)) := by
      rw [fS, ← opWs_app]; simp [opWs]
    rw [h4]; simp only [opW, Sm.x, Sm.y, Sm.args]; omega
theorem opW_L : ∀ l : List Sm, opWs (fL l) ≤ (l.flatMap wS).length
  | [] => by simp [fL, opWs]
  | s :: l => by
    have h1 := opW_S s
    have h2 := opW_L l
    rw [fL, opWs_app, List.flatMap_cons, List.length_append]; omega
end
theorem ropS_len (a : List Int) (s : Sm) : (ropS a s).length ≤ a.length + opW s := by
  have h1 := opE_len s.x a
  have h2 := opE_len s.y (opE s.x a)
  have h3 := opEs_len s.args (opE s.y (opE s.x a))
  unfold ropS opW; omega
theorem rop_len : ∀ (l : List Sm) (a : List Int), (l.foldl ropS a).length ≤ a.length + opWs l
  | [], a => by simp [opWs]
  | s :: l, a => by
    have h1 := rop_len l (ropS a s)
    have h2 := ropS_len a s
    have h3 : opWs (s :: l) = opW s + opWs l := by simp [opWs]
    simp only [List.foldl_cons]; omega
theorem opWs_take {l : List Sm} {k : Nat} (h : k < l.length) : opWs (l.take k) + opW l[k] ≤ opWs l := by
  have e : l = l.take (k+1) ++ l.drop (k+1) := (List.take_append_drop _ _).symm
  have e1 : opWs l = opWs (l.take (k+1)) + opWs (l.drop (k+1)) := by rw [← opWs_app, List.take_append_drop]
  rw [e1, take_one h, opWs_app]; simp [opWs]
theorem szL_fm : ∀ l : List Sm, szL l ≤ (l.flatMap wS).length
  | [] => by simp [szL]
  | s :: l => by
    have h1 := szL_fm l
    have h2 : szS s ≤ (wS s).length := szS_w s
    simp only [szL, List.flatMap_cons, List.length_append]; omega
 where szS_w : ∀ s : Sm, szS s ≤ (wS s).length
  | .mk a b c d e f g h i j body els => by
    have h1 := szL_fm body
    have h2 := szL_fm els
    have h3 := wS_len (.mk a b c d e f g h i j body els)
    simp only [Sm.body, Sm.els, wl_len] at h3
    simp only [szS]; omega
theorem refOpsAll_ok (d : Df) (h : (wD d).length < 2^30) : CallsA Tryz.prog 15 [encD d] ct0 (ints (rops d.body)) ct0 := by
  have hwd := wD_len d
  have hws := wl_len wS d.body
  have hz := szL_fm d.body
  have hf := flat_ok _ d.body (Nat.lt_succ_self _) (by omega)
  have hfl := fL_len d.body
  have hop := opW_L d.body
  have hL : ∃ L, L = fL d.body := ⟨_, rfl⟩
  refine hL.elim fun L hL => ?_
  rw [← hL] at hf hfl hop
  have hrc : rops d.body = L.foldl ropS [] := by rw [hL]; rfl
  refine fn_ok hm Tryz.func15 (fun _ => false) [] (fun _ => []) (by kernel_rfl) ?_
  refine run ?_; repeat ((apply call_ok; first | exact (hf)); refine run ?_)
  refine LoopS.mk ⟨[], HeadS.of (fun i : CJ => match i with | .raw k => k = 0 | .got k a => k ≤ L.length ∧ (L.take k).foldl ropS [] = a) (fun i => match i with | .raw k => ⟨[(5, it k), (4, .ref 10 0)], [], [(10, ⟨1, true, []⟩)]⟩ | .got k a => ⟨[(5, it k), (4, ints a)], [], [(10, ⟨1, false, []⟩)]⟩) (fun i => L.length - i.k) (.raw 0) rfl ?_ ?_ ?_ ?_ ?_⟩
  · repeat' (first | exact trivial | exact rfl | refine ⟨?_, ?_⟩ | refine ⟨?_, ?_, ?_⟩)
  · kernel_rfl
  · kernel_rfl
  · exact CJ.both (fun k => ⟨rfl, rfl, rfl⟩) (fun k a => ⟨rfl, rfl, rfl⟩)
  refine CJ.both (fun k => ?_) (fun k a => ?_)
  · intro hJ
    have hJ : k = 0 := hJ
    have h2 : (L.take k).foldl ropS [] = ([] : List Int) := by rw [hJ]; rfl
    by_cases hk : k < L.length
    · have b1 : decide ((k : Int) < ((L.map encS).length : Nat)) = true := by simp; exact hk
      have ht := fold_take (f := ropS) (z := []) hk
      have hal := rop_len (L.take k) []
      have htl := opWs_take hk
      rw [h2] at hal ht
      have hal : ([] : List Int).length ≤ 0 + opWs (L.take k) := hal
      have hw : opW L[k] = (wE L[k].x).length + (wE L[k].y).length + (L[k].args.flatMap wE).length := rfl
      have n1 := opE_len L[k].x ([] : List Int)
      have n2 := opE_len L[k].y (opE L[k].x ([] : List Int))
      have c1 := refOps_ok _ L[k].x (Nat.lt_succ_self _) ([] : List Int) (by omega)
      have c2 := refOps_ok _ L[k].y (Nat.lt_succ_self _) (opE L[k].x ([] : List Int)) (by omega)
      have hec : (encEs L[k].args).length = L[k].args.length := by rw [encEs_map]; simp
      have hq0 := fm_len (l := L[k].args) wE_pos
      refine run ?_
      refine Idx.map hk rfl ?_
      refine run ?_; repeat ((apply call_ok; first | exact (c1)); refine run ?_)
      refine Idx.map hk rfl ?_
      refine run ?_; repeat ((apply call_ok; first | exact (c1) | exact (c2)); refine run ?_)
      refine LoopS.mk ⟨[], HeadS.lp (fun r : CI => r.k ≤ L[k].args.length ∧ r.a = opEs (L[k].args.take r.k) (opE L[k].y (opE L[k].x ([] : List Int)))) (fun r => ⟨[(6, it r.k), (4, ints r.a)], [], []⟩) (fun r => L[k].args.length - r.k) ⟨0, opE L[k].y (opE L[k].x ([] : List Int))⟩ ⟨Nat.zero_le _, rfl⟩ ?_⟩
      intro r hJ
      have g1 := hJ.1
      have g2 := hJ.2
      by_cases gk : r.k < L[k].args.length
      · have d1 : decide ((r.k : Int) < ((encEs L[k].args).length : Nat)) = true := by rw [hec]; simp; exact gk
        have hle := fm_le1 (w := wE) gk
        have n3 := opEs_len (L[k].args.take r.k) (opE L[k].y (opE L[k].x ([] : List Int)))
        rw [← g2] at n3
        have c3 := refOps_ok _ L[k].args[r.k] (Nat.lt_succ_self _) r.a (by omega)
        have hN : opE L[k].args[r.k] r.a = opEs (L[k].args.take (r.k + 1)) (opE L[k].y (opE L[k].x ([] : List Int))) := by rw [g2, opEs_take gk]
        have hi : nth (encEs L[k].args) r.k = some (encE L[k].args[r.k]) := by rw [encEs_map, nth_map, nth_get gk]; rfl
        refine run ?_
        refine Idx.map hk rfl ?_
        refine run ?_
        refine Idx.map hk rfl ?_
        refine run ?_
        refine Idx.at rfl (by omega) hi ?_
        refine run ?_; repeat ((apply call_ok; first | exact (c3)); refine run ?_)
        refine ⟨⟨⟨r.k + 1, _⟩, ⟨gk, hN⟩⟩, Nat.sub_lt_sub_left gk (Nat.lt_succ_self _), ?_⟩
        repeat' (first | exact trivial | exact rfl | refine ⟨?_, ?_⟩ | refine ⟨?_, ?_, ?_⟩)
      · have d1 : decide ((r.k : Int) < ((encEs L[k].args).length : Nat)) = false := by rw [hec]; simp; omega
        have e : ropS ([] : List Int) L[k] = r.a := by rw [g2, List.take_of_length_le (by omega)]; rfl
        refine run ?_
        refine Idx.map hk rfl ?_
        refine run ?_
        refine ⟨⟨.got (k + 1) r.a, ⟨hk, ht.trans e⟩⟩, Nat.sub_lt_sub_left hk (Nat.lt_succ_self _), ?_⟩
        repeat' (first | exact trivial | exact rfl | refine ⟨?_, ?_⟩ | refine ⟨?_, ?_, ?_⟩)
    · have b1 : decide ((k : Int) < ((L.map encS).length : Nat)) = false := by simp; omega
      have e : ([] : List Int) = rops d.body := by rw [← h2, List.take_of_length_le (by omega), hrc]
      refine run ?_
      exact Done.mk (congrArg ints e) rfl
  · intro hJ
    have h1 : k ≤ L.length := hJ.1
    have h2 : (L.take k).foldl ropS [] = a := hJ.2
    by_cases hk : k < L.length
    · have b1 : decide ((k : Int) < ((L.map encS).length : Nat)) = true := by simp; exact hk
      have ht := fold_take (f := ropS) (z := []) hk
      have hal := rop_len (L.take k) []
      have htl := opWs_take hk
      rw [h2] at hal ht
      have hal : a.length ≤ 0 + opWs (L.take k) := hal
      have hw : opW L[k] = (wE L[k].x).length + (wE L[k].y).length + (L[k].args.flatMap wE).length := rfl
      have n1 := opE_len L[k].x a
      have n2 := opE_len L[k].y (opE L[k].x a)
      have c1 := refOps_ok _ L[k].x (Nat.lt_succ_self _) a (by omega)
      have c2 := refOps_ok _ L[k].y (Nat.lt_succ_self _) (opE L[k].x a) (by omega)
      have hec : (encEs L[k].args).length = L[k].args.length := by rw [encEs_map]; simp
      have hq0 := fm_len (l := L[k].args) wE_pos
      refine run ?_
      refine Idx.map hk rfl ?_
      refine run ?_; repeat ((apply call_ok; first | exact (c1)); refine run ?_)
      refine Idx.map hk rfl ?_
      refine run ?_; repeat ((apply call_ok; first | exact (c1) | exact (c2)); refine run ?_)
      refine LoopS.mk ⟨[], HeadS.lp (fun r : CI => r.k ≤ L[k].args.length ∧ r.a = opEs (L[k].args.take r.k) (opE L[k].y (opE L[k].x a))) (fun r => ⟨[(6, it r.k), (4, ints r.a)], [], []⟩) (fun r => L[k].args.length - r.k) ⟨0, opE L[k].y (opE L[k].x a)⟩ ⟨Nat.zero_le _, rfl⟩ ?_⟩
      intro r hJ
      have g1 := hJ.1
      have g2 := hJ.2
      by_cases gk : r.k < L[k].args.length
      · have d1 : decide ((r.k : Int) < ((encEs L[k].args).length : Nat)) = true := by rw [hec]; simp; exact gk
        have hle := fm_le1 (w := wE) gk
        have n3 := opEs_len (L[k].args.take r.k) (opE L[k].y (opE L[k].x a))
        rw [← g2] at n3
        have c3 := refOps_ok _ L[k].args[r.k] (Nat.lt_succ_self _) r.a (by omega)
        have hN : opE L[k].args[r.k] r.a = opEs (L[k].args.take (r.k + 1)) (opE L[k].y (opE L[k].x a)) := by rw [g2, opEs_take gk]
        have hi : nth (encEs L[k].args) r.k = some (encE L[k].args[r.k]) := by rw [encEs_map, nth_map, nth_get gk]; rfl
        refine run ?_
        refine Idx.map hk rfl ?_
        refine run ?_
        refine Idx.map hk rfl ?_
        refine run ?_
        refine Idx.at rfl (by omega) hi ?_
        refine run ?_; repeat ((apply call_ok; first | exact (c3)); refine run ?_)
        refine ⟨⟨⟨r.k + 1, _⟩, ⟨gk, hN⟩⟩, Nat.sub_lt_sub_left gk (Nat.lt_succ_self _), ?_⟩
        repeat' (first | exact trivial | exact rfl | refine ⟨?_, ?_⟩ | refine ⟨?_, ?_, ?_⟩)
      · have d1 : decide ((r.k : Int) < ((encEs L[k].args).length : Nat)) = false := by rw [hec]; simp; omega
        have e : ropS a L[k] = r.a := by rw [g2, List.take_of_length_le (by omega)]; rfl
        refine run ?_
        refine Idx.map hk rfl ?_
        refine run ?_
        refine ⟨⟨.got (k + 1) r.a, ⟨hk, ht.trans e⟩⟩, Nat.sub_lt_sub_left hk (Nat.lt_succ_self _), ?_⟩
        repeat' (first | exact trivial | exact rfl | refine ⟨?_, ?_⟩ | refine ⟨?_, ?_, ?_⟩)
    · have b1 : decide ((k : Int) < ((L.map encS).length : Nat)) = false := by simp; omega
      have e : a = rops d.body := by rw [← h2, List.take_of_length_le (by omega), hrc]
      refine run ?_
      exact Done.mk (congrArg ints e) rfl
end Abs
namespace Abs
open Go Go.Proofs
set_option maxRecDepth 100000
set_option maxHeartbeats 4000000
def wQ (q : Qu) : List Int := [q.r.lo, q.r.hi, q.r.mask]
def hdOf (p : Pg) (c : Int) : Hd := (fnd (fun x : Hd => x.id == c) zHd p.heads).1
def wHd (p : Pg) (c : Int) : List Int := [(hdOf p c).id, (hdOf p c).part] ++ (wl wR (hdOf p c).params ++ wl wR (hdOf p c).given)
def declA (p : Pg) : List Int := (wl wR p.d.globals ++ wl wR p.d.classes) ++ [(p.d.queues.length : Int)]
def declB (p : Pg) : List Int := declA p ++ p.d.queues.flatMap wQ
def declC (p : Pg) : List Int := (declB p ++ [(p.d.sinks.length : Int)]) ++ p.d.sinks
def declW (p : Pg) (calls : List Int) : List Int := declC p ++ calls.flatMap (wHd p)
theorem declW_len (p : Pg) (calls : List Int) : (declW p calls).length = (declC p).length + (calls.flatMap (wHd p)).length := by simp [declW]
theorem declC_len (p : Pg) : (declC p).length = (declB p).length + 1 + p.d.sinks.length := by simp [declC]; omega
theorem declB_len (p : Pg) : (declB p).length = (declA p).length + (p.d.queues.flatMap wQ).length := by simp [declB]
theorem declA_len (p : Pg) : (declA p).length = (wl wR p.d.globals).length + (wl wR p.d.classes).length + 1 := by simp [declA]; omega
theorem wR_pos (r : Rng) : 0 < (wR r).length := by show 0 < 3; omega
theorem wQ_pos (r : Qu) : 0 < (wQ r).length := by show 0 < 3; omega
theorem wHd_pos (p : Pg) (c : Int) : 0 < (wHd p c).length := by simp [wHd]
theorem wHd_len (p : Pg) (c : Int) : (wHd p c).length = 2 + (wl wR (hdOf p c).params).length + (wl wR (hdOf p c).given).length := by simp [wHd]; omega
theorem refL81f_ok {l : List Rng} (hb : (wl wR l).length < 2^31) (hl : l.length < 2^31) :
    CallsA Tryz.prog 81 [.sl 3 (l.map encR) false] ct0 (.ref 1000 (wl wR l).length) ⟨[], [⟨1, true, (wl wR l).map it⟩]⟩ := by
  rw [wl_len] at hb
  refine fn_ok hm Tryz.func81 (fun _ => false) [true] (fun _ => []) (by kernel_rfl) ?_
  refine run ?_
  refine LoopS.mk ⟨[], HeadS.lp (fun r : CR => r.k ≤ l.length ∧ r.acc = it ((l.map encR).length : Nat) :: ((l.take r.k).flatMap wR).map it) (fun r => ⟨[(4, it r.k), (3, .ref 7 r.acc.length)], [], [(7, ⟨1, true, r.acc⟩)]⟩) (fun r => l.length - r.k) ⟨0, [it ((l.map encR).length : Nat)]⟩ ⟨Nat.zero_le _, by simp⟩ ?_⟩
  intro r hJ
  obtain ⟨h1, h2⟩ := hJ
  by_cases hk : r.k < l.length
  · have b1 : decide ((r.k : Int) < ((l.map encR).length : Nat)) = true := by simp; exact hk
    have h3 : (wR l[r.k]).length = 3 := rfl
    have hle := fm_le1 (w := wR) hk
    have hlen : r.acc.length = 1 + ((l.take r.k).flatMap wR).length := by rw [h2]; simp; omega
    have hN : r.acc ++ (wR l[r.k]).map it = it ((l.map encR).length : Nat) :: ((l.take (r.k + 1)).flatMap wR).map it := by rw [h2, fm_take hk]; simp
    refine run ?_
    refine Idx.map hk rfl ?_
    refine run ?_
    refine Idx.map hk rfl ?_
    refine run ?_
    refine Idx.map hk rfl ?_
    refine run ?_
    refine ⟨⟨⟨r.k + 1, _⟩, ⟨hk, hN⟩⟩, Nat.sub_lt_sub_left hk (Nat.lt_succ_self _), ?_⟩
    repeat' (first | exact trivial | exact rfl | refine ⟨?_, ?_⟩ | refine ⟨?_, ?_, ?_⟩)
  · have b1 : decide ((r.k : Int) < ((l.map encR).length : Nat)) = false := by simp; omega
    have e : r.acc = (wl wR l).map it := by rw [h2, List.take_of_length_le (by omega)]; simp [wl]
    refine run ?_
    have e2 : r.acc.length = (wl wR l).length := by rw [e, List.length_map]
    exact Done.mk (congrArg (fun x => Dat.ref 1000 x) e2) (congrArg (fun x => (⟨[], [⟨1, true, x⟩]⟩ : Ct)) e)
theorem refDecl_ok (p : Pg) (d : Df) (hb : szL d.body < 2^30) (hw : (declW p (rcalls d.body)).length < 2^30) (hh : p.heads.length < 2^40) :
    CallsA Tryz.prog 34 [encP p, encD d] ct0 (ints (declW p (rcalls d.body))) ct0 := by
  have l1 := declW_len p (rcalls d.body)
  have l2 := declC_len p
  have l3 := declB_len p
  have l4 := declA_len p
  have g1 := wl_len wR p.d.globals
  have g2 := wl_len wR p.d.classes
  have g3 := fm_len (l := p.d.globals) wR_pos
  have g4 := fm_len (l := p.d.classes) wR_pos
  have g5 := fm_len (l := p.d.queues) wQ_pos
  have g6 := fm_len (l := rcalls d.body) (wHd_pos p)
  have c1 := refL81f_ok (l := p.d.globals) (by omega) (by omega)
  have c2 := refL81_ok (l := p.d.classes) (by omega) (by omega)
  have c3 := refCalls_ok d hb
  refine fn_ok hm Tryz.func34 (fun _ => false) [] (fun _ => []) (by kernel_rfl) ?_
  refine run ?_; repeat ((apply call_ok; first | exact (c1) | exact (c2) | exact (c3)); refine run ?_)
  refine LoopS.mk ⟨[], HeadS.lp (fun r : CR => r.k ≤ p.d.queues.length ∧ r.acc = (declA p).map it ++ ((p.d.queues.take r.k).flatMap wQ).map it) (fun r => ⟨[(6, it r.k), (5, .ref 5140 r.acc.length)], [], [(5140, ⟨1, true, r.acc⟩)]⟩) (fun r => p.d.queues.length - r.k) ⟨0, ((wl wR p.d.globals).map it ++ (wl wR p.d.classes).map it) ++ [it ((p.d.queues.map encQ).length : Nat)]⟩ ⟨Nat.zero_le _, by simp [declA]⟩ ?_⟩
  intro r hJ
  have h1 := hJ.1
  have h2 := hJ.2
  by_cases hk : r.k < p.d.queues.length
  · have b1 : decide ((r.k : Int) < ((p.d.queues.map encQ).length : Nat)) = true := by simp; exact hk
    have hle := fm_le1 (w := wQ) hk
    have hq3 : (wQ p.d.queues[r.k]).length = 3 := rfl
    have hlen : r.acc.length = (declA p).length + ((p.d.queues.take r.k).flatMap wQ).length := by rw [h2]; simp
    have hN : r.acc ++ (wQ p.d.queues[r.k]).map it = (declA p).map it ++ ((p.d.queues.take (r.k + 1)).flatMap wQ).map it := by rw [h2, fmD_take hk, List.map_append, ← List.append_assoc]
    refine run ?_
    refine Idx.map hk rfl ?_
    refine run ?_
    refine ⟨⟨⟨r.k + 1, _⟩, ⟨hk, hN⟩⟩, Nat.sub_lt_sub_left hk (Nat.lt_succ_self _), ?_⟩
    repeat' (first | exact trivial | exact rfl | refine ⟨?_, ?_⟩ | refine ⟨?_, ?_, ?_⟩)
  have b1 : decide ((r.k : Int) < ((p.d.queues.map encQ).length : Nat)) = false := by simp; omega
  have e1 : r.acc = (declB p).map it := by rw [h2, List.take_of_length_le (by omega), declB, List.map_append]
  have hlen : r.acc.length = (declB p).length := by rw [e1, List.length_map]
  refine run ?_; repeat ((apply call_ok; first | exact (c3)); refine run ?_)
  refine LoopS.mk ⟨[], HeadS.lp (fun q : CR => q.k ≤ (rcalls d.body).length ∧ q.acc = (declC p).map it ++ (((rcalls d.body).take q.k).flatMap (wHd p)).map it) (fun q => ⟨[(9, it q.k), (5, .ref 5140 q.acc.length)], [], [(5140, ⟨1, true, q.acc⟩)]⟩) (fun q => (rcalls d.body).length - q.k) ⟨0, (r.acc ++ [it ((p.d.sinks.map it).length : Nat)]) ++ p.d.sinks.map it⟩ ⟨Nat.zero_le _, by rw [e1]; simp [declC]⟩ ?_⟩
  intro q hq
  have q1 := hq.1
  have q2 := hq.2
  by_cases gk : q.k < (rcalls d.body).length
  · have d1 : decide ((q.k : Int) < (((rcalls d.body).map it).length : Nat)) = true := by simp; exact gk
    have hle := fm_le1 (w := wHd p) gk
    have hwl := wHd_len p (rcalls d.body)[q.k]
    have m1 := wl_len wR (hdOf p (rcalls d.body)[q.k]).params
    have m2 := wl_len wR (hdOf p (rcalls d.body)[q.k]).given
    have m3 := fm_len (l := (hdOf p (rcalls d.body)[q.k]).params) wR_pos
    have m4 := fm_len (l := (hdOf p (rcalls d.body)[q.k]).given) wR_pos
    have glen : q.acc.length = (declC p).length + (((rcalls d.body).take q.k).flatMap (wHd p)).length := by rw [q2]; simp
    have k1 := refL81_ok (l := (hdOf p (rcalls d.body)[q.k]).params) (by omega) (by omega)
    have k2 := refL81_ok (l := (hdOf p (rcalls d.body)[q.k]).given) (by omega) (by omega)
    have k3 := refHeadIn_ok p (rcalls d.body)[q.k] hh
    have gN : ((q.acc ++ [it (hdOf p (rcalls d.body)[q.k]).id, it (hdOf p (rcalls d.body)[q.k]).part]) ++ (wl wR (hdOf p (rcalls d.body)[q.k]).params).map it) ++ (wl wR (hdOf p (rcalls d.body)[q.k]).given).map it = (declC p).map it ++ (((rcalls d.body).take (q.k + 1)).flatMap (wHd p)).map it := by rw [q2, fmD_take gk]; simp [wHd]
    refine run ?_; repeat ((apply call_ok; first | exact (k3)); refine run ?_)
    refine Idx.map gk rfl ?_
    refine run ?_; repeat ((apply call_ok; first | exact (k3) | exact (k1) | exact (k2)); refine run ?_)
    refine ⟨⟨⟨q.k + 1, _⟩, ⟨gk, gN⟩⟩, Nat.sub_lt_sub_left gk (Nat.lt_succ_self _), ?_⟩
    repeat' (first | exact trivial | exact rfl | refine ⟨?_, ?_⟩ | refine ⟨?_, ?_, ?_⟩)
  have d1 : decide ((q.k : Int) < (((rcalls d.body).map it).length : Nat)) = false := by simp; omega
  have e : q.acc = (declW p (rcalls d.body)).map it := by rw [q2, List.take_of_length_le (by omega), declW, List.map_append]
  refine run ?_
  exact Done.mk (congrArg (fun x => Dat.sl 1 x false) e) rfl
end Abs
namespace Abs
open Go Go.Proofs
set_option maxRecDepth 100000
set_option maxHeartbeats 4000000
theorem dranges_ok {ls : List (List Rng)} (hb : (ls.flatMap (wl wR)).length < 2^31) :
    CallsA Tryz.prog 117 [.sl 1 (ls.map (lst 3 encR)) false] ct0 (ints (ls.flatMap (wl wR))) ct0 := by
  have hlp : ls.length ≤ (ls.flatMap (wl wR)).length := fm_len (fun x => by rw [wl_len]; omega)
  refine fn_ok hm Tryz.func117 (fun _ => false) [] (fun _ => []) (by kernel_rfl) ?_
  refine run ?_
  refine LoopS.mk ⟨[.tmp 3 20003], HeadS.lp (fun r : CR => r.k ≤ ls.length ∧ r.acc = ((ls.take r.k).flatMap (wl wR)).map it) (fun r => ⟨[(10, it r.k), (3, .ref 20003 r.acc.length)], [], [(20003, ⟨1, true, r.acc⟩)]⟩) (fun r => ls.length - r.k) ⟨0, []⟩ ⟨Nat.zero_le _, by simp⟩ ?_⟩
  intro r hJ
  have h1 := hJ.1
  have h2 := hJ.2
  by_cases hk : r.k < ls.length
  · have b1 : decide ((r.k : Int) < ((ls.map (lst 3 encR)).length : Nat)) = true := by simp; exact hk
    have hle := fm_le1 (w := wl wR) hk
    have hlen : r.acc.length = ((ls.take r.k).flatMap (wl wR)).length := by rw [h2]; simp
    have g1 := wl_len wR ls[r.k]
    have g3 := fm_len (l := ls[r.k]) wR_pos
    refine run ?_
    refine Idx.map hk rfl ?_
    refine run ?_
    refine LoopS.mk ⟨[], HeadS.lp (fun q : CR => q.k ≤ ls[r.k].length ∧ q.acc = (r.acc ++ [it ((ls[r.k].map encR).length : Nat)]) ++ ((ls[r.k].take q.k).flatMap wR).map it) (fun q => ⟨[(21, it q.k), (3, .ref 20003 q.acc.length)], [], [(20003, ⟨1, true, q.acc⟩)]⟩) (fun q => ls[r.k].length - q.k) ⟨0, r.acc ++ [it ((ls[r.k].map encR).length : Nat)]⟩ ⟨Nat.zero_le _, by simp⟩ ?_⟩
    intro q hq
    have q1 := hq.1
    have q2 := hq.2
    by_cases gk : q.k < ls[r.k].length
    · have c1 : decide ((q.k : Int) < ((ls[r.k].map encR).length : Nat)) = true := by simp; exact gk
      have hle2 := fm_le1 (w := wR) gk
      have hq3 : (wR ls[r.k][q.k]).length = 3 := rfl
      have glen : q.acc.length = r.acc.length + 1 + ((ls[r.k].take q.k).flatMap wR).length := by rw [q2]; simp; omega
      have gN : q.acc ++ (wR ls[r.k][q.k]).map it = (r.acc ++ [it ((ls[r.k].map encR).length : Nat)]) ++ ((ls[r.k].take (q.k + 1)).flatMap wR).map it := by rw [q2, fmD_take gk, List.map_append, ← List.append_assoc]
      refine run ?_
      refine Idx.map gk rfl ?_
      refine run ?_
      refine ⟨⟨⟨q.k + 1, _⟩, ⟨gk, gN⟩⟩, Nat.sub_lt_sub_left gk (Nat.lt_succ_self _), ?_⟩
      repeat' (first | exact trivial | exact rfl | refine ⟨?_, ?_⟩ | refine ⟨?_, ?_, ?_⟩)
    · have c1 : decide ((q.k : Int) < ((ls[r.k].map encR).length : Nat)) = false := by simp; omega
      have e : q.acc = ((ls.take (r.k + 1)).flatMap (wl wR)).map it := by
        rw [q2, List.take_of_length_le (by omega), fmD_take hk, h2]; simp [wl]
      refine run ?_
      refine ⟨⟨⟨r.k + 1, _⟩, ⟨hk, e⟩⟩, Nat.sub_lt_sub_left hk (Nat.lt_succ_self _), ?_⟩
      repeat' (first | exact trivial | exact rfl | refine ⟨?_, ?_⟩ | refine ⟨?_, ?_, ?_⟩)
  · have b1 : decide ((r.k : Int) < ((ls.map (lst 3 encR)).length : Nat)) = false := by simp; omega
    have e : r.acc = (ls.flatMap (wl wR)).map it := by rw [h2, List.take_of_length_le (by omega)]
    have e2 : r.acc.length = (ls.flatMap (wl wR)).length := by rw [e, List.length_map]
    refine run ?_
    exact Done.mk (congrArg (fun x => Dat.sl 1 x false) e) rfl
theorem drangesf_ok {ls : List (List Rng)} (hb : (ls.flatMap (wl wR)).length < 2^31) :
    CallsA Tryz.prog 117 [.sl 1 (ls.map (lst 3 encR)) false] ct0 (.ref 1000 (ls.flatMap (wl wR)).length) ⟨[], [⟨1, true, (ls.flatMap (wl wR)).map it⟩]⟩ := by
  have hlp : ls.length ≤ (ls.flatMap (wl wR)).length := fm_len (fun x => by rw [wl_len]; omega)
  refine fn_ok hm Tryz.func117 (fun _ => false) [true] (fun _ => []) (by kernel_rfl) ?_
  refine run ?_
  refine LoopS.mk ⟨[.tmp 3 20003], HeadS.lp (fun r : CR => r.k ≤ ls.length ∧ r.acc = ((ls.take r.k).flatMap (wl wR)).map it) (fun r => ⟨[(10, it r.k), (3, .ref 20003 r.acc.length)], [], [(20003, ⟨1, true, r.acc⟩)]⟩) (fun r => ls.length - r.k) ⟨0, []⟩ ⟨Nat.zero_le _, by simp⟩ ?_⟩
  intro r hJ
  have h1 := hJ.1
  have h2 := hJ.2
  by_cases hk : r.k < ls.length
  · have b1 : decide ((r.k : Int) < ((ls.map (lst 3 encR)).length : Nat)) = true := by simp; exact hk
    have hle := fm_le1 (w := wl wR) hk
    have hlen : r.acc.length = ((ls.take r.k).flatMap (wl wR)).length := by rw [h2]; simp
    have g1 := wl_len wR ls[r.k]
    have g3 := fm_len (l := ls[r.k]) wR_pos
    refine run ?_
    refine Idx.map hk rfl ?_
    refine run ?_
    refine LoopS.mk ⟨[], HeadS.lp (fun q : CR => q.k ≤ ls[r.k].length ∧ q.acc = (r.acc ++ [it ((ls[r.k].map encR).length : Nat)]) ++ ((ls[r.k].take q.k).flatMap wR).map it) (fun q => ⟨[(21, it q.k), (3, .ref 20003 q.acc.length)], [], [(20003, ⟨1, true, q.acc⟩)]⟩) (fun q => ls[r.k].length - q.k) ⟨0, r.acc ++ [it ((ls[r.k].map encR).length : Nat)]⟩ ⟨Nat.zero_le _, by simp⟩ ?_⟩
    intro q hq
    have q1 := hq.1
    have q2 := hq.2
    by_cases gk : q.k < ls[r.k].length
    · have c1 : decide ((q.k : Int) < ((ls[r.k].map encR).length : Nat)) = true := by simp; exact gk
      have hle2 := fm_le1 (w := wR) gk
      have hq3 : (wR ls[r.k][q.k]).length = 3 := rfl
      have glen : q.acc.length = r.acc.length + 1 + ((ls[r.k].take q.k).flatMap wR).length := by rw [q2]; simp; omega
      have gN : q.acc ++ (wR ls[r.k][q.k]).map it = (r.acc ++ [it ((ls[r.k].map encR).length : Nat)]) ++ ((ls[r.k].take (q.k + 1)).flatMap wR).map it := by rw [q2, fmD_take gk, List.map_append, ← List.append_assoc]
      refine run ?_
      refine Idx.map gk rfl ?_
      refine run ?_
      refine ⟨⟨⟨q.k + 1, _⟩, ⟨gk, gN⟩⟩, Nat.sub_lt_sub_left gk (Nat.lt_succ_self _), ?_⟩
      repeat' (first | exact trivial | exact rfl | refine ⟨?_, ?_⟩ | refine ⟨?_, ?_, ?_⟩)
    · have c1 : decide ((q.k : Int) < ((ls[r.k].map encR).length : Nat)) = false := by simp; omega
      have e : q.acc = ((ls.take (r.k + 1)).flatMap (wl wR)).map it := by
        rw [q2, List.take_of_length_le (by omega), fmD_take hk, h2]; simp [wl]
      refine run ?_
      refine ⟨⟨⟨r.k + 1, _⟩, ⟨hk, e⟩⟩, Nat.sub_lt_sub_left hk (Nat.lt_succ_self _), ?_⟩
      repeat' (first | exact trivial | exact rfl | refine ⟨?_, ?_⟩ | refine ⟨?_, ?_, ?_⟩)
  · have b1 : decide ((r.k : Int) < ((ls.map (lst 3 encR)).length : Nat)) = false := by simp; omega
    have e : r.acc = (ls.flatMap (wl wR)).map it := by rw [h2, List.take_of_length_le (by omega)]
    have e2 : r.acc.length = (ls.flatMap (wl wR)).length := by rw [e, List.length_map]
    refine run ?_
    exact Done.mk (congrArg (fun x => Dat.ref 1000 x) e2) (congrArg (fun x => (⟨[], [⟨1, true, x⟩]⟩ : Ct)) e)
theorem ddecl_ok (p : Pg) (cs : List Int) (hw : (declW p cs).length < 2^30) (hh : p.heads.length < 2^40) :
    CallsA Tryz.prog 75 [encP p, ints cs] ct0 (ints (declW p cs)) ct0 := by
  have l1 := declW_len p cs
  have l2 := declC_len p
  have l3 := declB_len p
  have l4 := declA_len p
  have g5 := fm_len (l := p.d.queues) wQ_pos
  have g6 := fm_len (l := cs) (wHd_pos p)
  have f2 : ([p.d.globals, p.d.classes].flatMap (wl wR)).length = (wl wR p.d.globals).length + (wl wR p.d.classes).length := by simp
  have c1 := drangesf_ok (ls := [p.d.globals, p.d.classes]) (by omega)
  refine fn_ok hm Tryz.func75 (fun _ => false) [] (fun _ => []) (by kernel_rfl) ?_
  refine run ?_; repeat ((apply call_ok; first | exact (c1)); refine run ?_)
  refine LoopS.mk ⟨[], HeadS.lp (fun r : CR => r.k ≤ p.d.queues.length ∧ r.acc = (declA p).map it ++ ((p.d.queues.take r.k).flatMap wQ).map it) (fun r => ⟨[(30, it r.k), (5, .ref 5190 r.acc.length)], [], [(5190, ⟨1, true, r.acc⟩)]⟩) (fun r => p.d.queues.length - r.k) ⟨0, ([p.d.globals, p.d.classes].flatMap (wl wR)).map it ++ [it ((p.d.queues.map encQ).length : Nat)]⟩ ⟨Nat.zero_le _, by simp [declA]⟩ ?_⟩
  intro r hJ
  have h1 := hJ.1
  have h2 := hJ.2
  by_cases hk : r.k < p.d.queues.length
  · have b1 : decide ((r.k : Int) < ((p.d.queues.map encQ).length : Nat)) = true := by simp; exact hk
    have hle := fm_le1 (w := wQ) hk
    have hq3 : (wQ p.d.queues[r.k]).length = 3 := rfl
    have hlen : r.acc.length = (declA p).length + ((p.d.queues.take r.k).flatMap wQ).length := by rw [h2]; simp
    have hN : r.acc ++ (wQ p.d.queues[r.k]).map it = (declA p).map it ++ ((p.d.queues.take (r.k + 1)).flatMap wQ).map it := by rw [h2, fmD_take hk, List.map_append, ← List.append_assoc]
    refine run ?_
    refine Idx.map hk rfl ?_
    refine run ?_
    refine ⟨⟨⟨r.k + 1, _⟩, ⟨hk, hN⟩⟩, Nat.sub_lt_sub_left hk (Nat.lt_succ_self _), ?_⟩
    repeat' (first | exact trivial | exact rfl | refine ⟨?_, ?_⟩ | refine ⟨?_, ?_, ?_⟩)
  have b1 : decide ((r.k : Int) < ((p.d.queues.map encQ).length : Nat)) = false := by simp; omega
  have e1 : r.acc = (declB p).map it := by rw [h2, List.take_of_length_le (by omega), declB, List.map_append]
  have hlen : r.acc.length = (declB p).length := by rw [e1, List.length_map]
  refine run ?_
  refine LoopS.mk ⟨[], HeadS.lp (fun q : CR => q.k ≤ cs.length ∧ q.acc = (declC p).map it ++ ((cs.take q.k).flatMap (wHd p)).map it) (fun q => ⟨[(60, it q.k), (5, .ref 5190 q.acc.length)], [], [(5190, ⟨1, true, q.acc⟩)]⟩) (fun q => cs.length - q.k) ⟨0, (r.acc ++ [it ((p.d.sinks.map it).length : Nat)]) ++ p.d.sinks.map it⟩ ⟨Nat.zero_le _, by rw [e1]; simp [declC]⟩ ?_⟩
  intro q hq
  have q1 := hq.1
  have q2 := hq.2
  by_cases gk : q.k < cs.length
  · have d1 : decide ((q.k : Int) < ((cs.map it).length : Nat)) = true := by simp; exact gk
    have hle := fm_le1 (w := wHd p) gk
    have hwl := wHd_len p cs[q.k]
    have glen : q.acc.length = (declC p).length + ((cs.take q.k).flatMap (wHd p)).length := by rw [q2]; simp
    have f3 : ([(hdOf p cs[q.k]).params, (hdOf p cs[q.k]).given].flatMap (wl wR)).length = (wl wR (hdOf p cs[q.k]).params).length + (wl wR (hdOf p cs[q.k]).given).length := by simp
    have k1 := dranges_ok (ls := [(hdOf p cs[q.k]).params, (hdOf p cs[q.k]).given]) (by omega)
    have k3 := shapeHeadOf_ok p cs[q.k] hh
    have gN : (q.acc ++ [it (hdOf p cs[q.k]).id, it (hdOf p cs[q.k]).part]) ++ ([(hdOf p cs[q.k]).params, (hdOf p cs[q.k]).given].flatMap (wl wR)).map it = (declC p).map it ++ ((cs.take (q.k + 1)).flatMap (wHd p)).map it := by rw [q2, fmD_take gk]; simp [wHd]
    refine run ?_; repeat ((apply call_ok; first | exact (k3)); refine run ?_)
    refine Idx.map gk rfl ?_
    refine run ?_; repeat ((apply call_ok; first | exact (k3) | exact (k1)); refine run ?_)
    refine ⟨⟨⟨q.k + 1, _⟩, ⟨gk, gN⟩⟩, Nat.sub_lt_sub_left gk (Nat.lt_succ_self _), ?_⟩
    repeat' (first | exact trivial | exact rfl | refine ⟨?_, ?_⟩ | refine ⟨?_, ?_, ?_⟩)
  have d1 : decide ((q.k : Int) < ((cs.map it).length : Nat)) = false := by simp; omega
  have e : q.acc = (declW p cs).map it := by rw [q2, List.take_of_length_le (by omega), declW, List.map_append]
  refine run ?_
  exact Done.mk (congrArg (fun x => Dat.sl 1 x false) e) rfl
end Abs
namespace Abs
open Go Go.Proofs
set_option maxRecDepth 100000
set_option maxHeartbeats 4000000
abbrev OB := Nat → Bool
def arrB (o : OB) : Dat := .agg [bo (o 0), bo (o 1), bo (o 2), bo (o 3), bo (o 4), bo (o 5), bo (o 6), bo (o 7), bo (o 8), bo (o 9), bo (o 10)]
def opIn (op : Int) : Bool := decide (4 ≤ op) && decide (op ≤ 10)
def setO (o : OB) (op : Int) : OB := bif opIn op then (fun i => Nat.beq i op.toNat || o i) else o
mutual
def xE : Ex → OB → OB
  | .mk op n v a, o => xEs a (setO o op)
def xEs : List Ex → OB → OB
  | [], o => o
  | e :: es, o => xEs es (xE e o)
end
mutual
def xS : Sm → OB → OB
  | .mk a b c d e x y h args j body els, o => xSs els (xSs body (xEs args (xE y (xE x o))))
def xSs : List Sm → OB → OB
  | [], o => o
  | s :: l, o => xSs l (xS s o)
end
theorem xE_eq (e : Ex) (o : OB) : xE e o = xEs e.a (setO o e.op) := by cases e; rfl
theorem xS_eq (s : Sm) (o : OB) : xS s o = xSs s.els (xSs s.body (xEs s.args (xE s.y (xE s.x o)))) := by cases s; rfl
theorem xEs_fold : ∀ (l : List Ex) (o : OB), xEs l o = l.foldl (fun o x => xE x o) o
  | [], o => by simp [xEs]
  | e :: l, o => by simp [xEs, xEs_fold l]
theorem xSs_fold : ∀ (l : List Sm) (o : OB), xSs l o = l.foldl (fun o x => xS x o) o
  | [], o => by simp [xSs]
  | e :: l, o => by simp [xSs, xSs_fold l]
structure CO where
  k : Nat
  o : OB
theorem each84_ok {l : List Ex} (g : Ex → OB → OB) (o : OB) (hl : l.length < 2^40)
    (hx : ∀ x ∈ l, ∀ o : OB, CallsA Tryz.prog 85 [.ptr 1000 0, encE x] ⟨[arrB o], []⟩ (.tup []) ⟨[arrB (g x o)], []⟩) :
    CallsA Tryz.prog 84 [.clo (.func 85) [.ptr 1000 0] [], .sl 4 (l.map encE) false] ⟨[arrB o], []⟩ (.tup []) ⟨[arrB (l.foldl (fun o x => g x o) o)], []⟩ := by
  refine fn_ok hm Tryz.func84 (fun _ => false) [] (fun _ => []) (by kernel_rfl) ?_
  refine run ?_
  refine LoopS.mk ⟨[], HeadS.lp (fun r : CO => r.k ≤ l.length ∧ r.o = (l.take r.k).foldl (fun o x => g x o) o) (fun r => ⟨[(8, it r.k)], [(1000, arrB r.o)], []⟩) (fun r => l.length - r.k) ⟨0, o⟩ ⟨Nat.zero_le _, rfl⟩ ?_⟩
  intro r hJ
  have h1 := hJ.1
  have h2 := hJ.2
  by_cases hk : r.k < l.length
  · have b1 : decide ((r.k : Int) < ((l.map encE).length : Nat)) = true := by simp; exact hk
    have hc := hx l[r.k] (List.getElem_mem hk) r.o
    have hN : g l[r.k] r.o = (l.take (r.k + 1)).foldl (fun o x => g x o) o := by rw [fold_take hk, h2]
    refine run ?_
    refine Idx.map hk rfl ?_
    refine run ?_; repeat ((apply call_ok; first | exact (hc)); refine run ?_)
    refine ⟨⟨⟨r.k + 1, _⟩, ⟨hk, hN⟩⟩, Nat.sub_lt_sub_left hk (Nat.lt_succ_self _), ?_⟩
    repeat' (first | exact trivial | exact rfl | refine ⟨?_, ?_⟩ | refine ⟨?_, ?_, ?_⟩)
  · have b1 : decide ((r.k : Int) < ((l.map encE).length : Nat)) = false := by simp; omega
    have e : r.o = l.foldl (fun o x => g x o) o := by rw [h2, List.take_of_length_le (by omega)]
    refine run ?_
    exact Done.mk rfl (congrArg (fun x => (⟨[arrB x], []⟩ : Ct)) e)
theorem each38_ok {l : List Sm} (g : Sm → OB → OB) (o : OB) (hl : l.length < 2^40)
    (hx : ∀ x ∈ l, ∀ o : OB, CallsA Tryz.prog 39 [.ptr 1000 0, encS x] ⟨[arrB o], []⟩ (.tup []) ⟨[arrB (g x o)], []⟩) :
    CallsA Tryz.prog 38 [.clo (.func 39) [.ptr 1000 0] [], .sl 20 (l.map encS) false] ⟨[arrB o], []⟩ (.tup []) ⟨[arrB (l.foldl (fun o x => g x o) o)], []⟩ := by
  refine fn_ok hm Tryz.func38 (fun _ => false) [] (fun _ => []) (by kernel_rfl) ?_
  refine run ?_
  refine LoopS.mk ⟨[], HeadS.lp (fun r : CO => r.k ≤ l.length ∧ r.o = (l.take r.k).foldl (fun o x => g x o) o) (fun r => ⟨[(8, it r.k)], [(1000, arrB r.o)], []⟩) (fun r => l.length - r.k) ⟨0, o⟩ ⟨Nat.zero_le _, rfl⟩ ?_⟩
  intro r hJ
  have h1 := hJ.1
  have h2 := hJ.2
  by_cases hk : r.k < l.length
  · have b1 : decide ((r.k : Int) < ((l.map encS).length : Nat)) = true := by simp; exact hk
    have hc := hx l[r.k] (List.getElem_mem hk) r.o
    have hN : g l[r.k] r.o = (l.take (r.k + 1)).foldl (fun o x => g x o) o := by rw [fold_take hk, h2]
    refine run ?_
    refine Idx.map hk rfl ?_
    refine run ?_; repeat ((apply call_ok; first | exact (hc)); refine run ?_)
    refine ⟨⟨⟨r.k + 1, _⟩, ⟨hk, hN⟩⟩, Nat.sub_lt_sub_left hk (Nat.lt_succ_self _), ?_⟩
    repeat' (first | exact trivial | exact rfl | refine ⟨?_, ?_⟩ | refine ⟨?_, ?_, ?_⟩)
  · have b1 : decide ((r.k : Int) < ((l.map encS).length : Nat)) = false := by simp; omega
    have e : r.o = l.foldl (fun o x => g x o) o := by rw [h2, List.take_of_length_le (by omega)]
    refine run ?_
    exact Done.mk rfl (congrArg (fun x => (⟨[arrB x], []⟩ : Ct)) e)
theorem dexpr_ok : ∀ (n : Nat) (e : Ex), (wE e).length < n → (wE e).length < 2^30 → ∀ o : OB, CallsA Tryz.prog 85 [.ptr 1000 0, encE e] ⟨[arrB o], []⟩ (.tup []) ⟨[arrB (xE e o)], []⟩ := by
  intro n
  induction n with
  | zero => intro e h; omega
  | succ n ih =>
    intro e h hb o
    have hl := wE_len e
    have hp := fm_len (l := e.a) wE_pos
    have hE : ∀ o : OB, CallsA Tryz.prog 84 [.clo (.func 85) [.ptr 1000 0] [], .sl 4 (encEs e.a) false] ⟨[arrB o], []⟩ (.tup []) ⟨[arrB (xEs e.a o)], []⟩ := fun o => by
      rw [encEs_map, xEs_fold]
      refine each84_ok xE o (by omega) (fun x hx o => ih x ?_ ?_ o)
      · have := fm_mem (w := wE) hx; omega
      · have := fm_mem (w := wE) hx; omega
    have hc := hE (setO o e.op)
    rw [xE_eq]
    refine (Bool.eq_false_or_eq_true (decide (4 ≤ e.op))).elim (fun b1 => ?_) (fun b1 => ?_)
    · refine (Bool.eq_false_or_eq_true (decide (e.op ≤ 10))).elim (fun b2 => ?_) (fun b2 => ?_)
      · have h1 : 4 ≤ e.op := of_decide_eq_true b1
        have h2 : e.op ≤ 10 := of_decide_eq_true b2
        clear ih hE hl hp hb h b1 b2
        cases e with
        | mk op n v a =>
          have hs : op = 4 ∨ op = 5 ∨ op = 6 ∨ op = 7 ∨ op = 8 ∨ op = 9 ∨ op = 10 := by
            have h1 : 4 ≤ op := h1
            have h2 : op ≤ 10 := h2
            omega
          clear h1 h2
          rcases hs with rfl | rfl | rfl | rfl | rfl | rfl | rfl
          · have hN : 0 ≤ (Ex.mk 4 n v a).op ∧ (Ex.mk 4 n v a).op < ((11:Nat) : Int) := (by decide : (0:Int) ≤ 4 ∧ (4:Int) < 11)
            refine fn_ok hm Tryz.func85 (fun _ => false) [] (fun _ => []) (by kernel_rfl) ?_
            refine run ?_
            refine Need.mk (by decide : 4 < 11) ?_
            refine run ?_; repeat ((apply call_ok; first | exact (hc)); refine run ?_)
            exact Done.mk rfl rfl
          · have hN : 0 ≤ (Ex.mk 5 n v a).op ∧ (Ex.mk 5 n v a).op < ((11:Nat) : Int) := (by decide : (0:Int) ≤ 5 ∧ (5:Int) < 11)
            refine fn_ok hm Tryz.func85 (fun _ => false) [] (fun _ => []) (by kernel_rfl) ?_
            refine run ?_
            refine Need.mk (by decide : 5 < 11) ?_
            refine run ?_; repeat ((apply call_ok; first | exact (hc)); refine run ?_)
            exact Done.mk rfl rfl
          · have hN : 0 ≤ (Ex.mk 6 n v a).op ∧ (Ex.mk 6 n v a).op < ((11:Nat) : Int) := (by decide : (0:Int) ≤ 6 ∧ (6:Int) < 11)
            refine fn_ok hm Tryz.func85 (fun _ => false) [] (fun _ => []) (by kernel_rfl) ?_
            refine run ?_
            refine Need.mk (by decide : 6 < 11) ?_
            refine run ?_; repeat ((apply call_ok; first | exact (hc)); refine run ?_)
            exact Done.mk rfl rfl
          · have hN : 0 ≤ (Ex.mk 7 n v a).op ∧ (Ex.mk 7 n v a).op < ((11:Nat) : Int) := (by decide : (0:Int) ≤ 7 ∧ (7:Int) < 11)
            refine fn_ok hm Tryz.func85 (fun _ => false) [] (fun _ => []) (by kernel_rfl) ?_
            refine run ?_
            refine Need.mk (by decide : 7 < 11) ?_
            refine run ?_; repeat ((apply call_ok; first | exact (hc)); refine run ?_)
            exact Done.mk rfl rfl
          · have hN : 0 ≤ (Ex.mk 8 n v a).op ∧ (Ex.mk 8 n v a).op < ((11:Nat) : Int) := (by decide : (0:Int) ≤ 8 ∧ (8:Int) < 11)
            refine fn_ok hm Tryz.func85 (fun _ => false) [] (fun _ => []) (by kernel_rfl) ?_
            refine run ?_
            refine Need.mk (by decide : 8 < 11) ?_
            refine run ?_; repeat ((apply call_ok; first | exact (hc)); refine run ?_)
            exact Done.mk rfl rfl
          · have hN : 0 ≤ (Ex.mk 9 n v a).op ∧ (Ex.mk 9 n v a).op < ((11:Nat) : Int) := (by decide : (0:Int) ≤ 9 ∧ (9:Int) < 11)
            refine fn_ok hm Tryz.func85 (fun _ => false) [] (fun _ => []) (by kernel_rfl) ?_
            refine run ?_
            refine Need.mk (by decide : 9 < 11) ?_
            refine run ?_; repeat ((apply call_ok; first | exact (hc)); refine run ?_)
            exact Done.mk rfl rfl
          · have hN : 0 ≤ (Ex.mk 10 n v a).op ∧ (Ex.mk 10 n v a).op < ((11:Nat) : Int) := (by decide : (0:Int) ≤ 10 ∧ (10:Int) < 11)
            refine fn_ok hm Tryz.func85 (fun _ => false) [] (fun _ => []) (by kernel_rfl) ?_
            refine run ?_
            refine Need.mk (by decide : 10 < 11) ?_
            refine run ?_; repeat ((apply call_ok; first | exact (hc)); refine run ?_)
            exact Done.mk rfl rfl
      · have hd : setO o e.op = o := by unfold setO opIn; rw [b1, b2]; rfl
        rw [hd] at hc ⊢
        refine fn_ok hm Tryz.func85 (fun _ => false) [] (fun _ => []) (by kernel_rfl) ?_
        refine run ?_; repeat ((apply call_ok; first | exact (hc)); refine run ?_)
        exact Done.mk rfl rfl
    · have hd : setO o e.op = o := by unfold setO opIn; rw [b1]; rfl
      rw [hd] at hc ⊢
      refine fn_ok hm Tryz.func85 (fun _ => false) [] (fun _ => []) (by kernel_rfl) ?_
      refine run ?_; repeat ((apply call_ok; first | exact (hc)); refine run ?_)
      exact Done.mk rfl rfl
theorem dstmt_ok : ∀ (n : Nat) (s : Sm), (wS s).length < n → (wS s).length < 2^30 → ∀ o : OB, CallsA Tryz.prog 39 [.ptr 1000 0, encS s] ⟨[arrB o], []⟩ (.tup []) ⟨[arrB (xS s o)], []⟩ := by
  intro n
  induction n with
  | zero => intro e h; omega
  | succ n ih =>
    intro s h hb o
    have hl := wS_len s
    have l1 := wl_len wE s.args
    have l3 := wl_len wS s.body
    have l4 := wl_len wS s.els
    have p1 := fm_len (l := s.args) wE_pos
    have p3 := fm_len (l := s.body) wS_pos
    have p4 := fm_len (l := s.els) wS_pos
    have e0 : [s.x, s.y].foldl (fun o x => xE x o) o = xE s.y (xE s.x o) := rfl
    have hA := each84_ok (l := [s.x, s.y]) xE o (by show 2 < _; omega) (fun x hx o => dexpr_ok _ x (Nat.lt_succ_self _) (by
      rcases List.mem_cons.1 hx with rfl | hx
      · omega
      · rw [List.mem_singleton.1 hx]; omega) o)
    rw [e0] at hA
    have hB : CallsA Tryz.prog 84 [.clo (.func 85) [.ptr 1000 0] [], .sl 4 (encEs s.args) false] ⟨[arrB (xE s.y (xE s.x o))], []⟩ (.tup []) ⟨[arrB (xEs s.args (xE s.y (xE s.x o)))], []⟩ := by
      rw [encEs_map, xEs_fold]
      refine each84_ok xE _ (by omega) (fun x hx o => dexpr_ok _ x (Nat.lt_succ_self _) ?_ o)
      have := fm_mem (w := wE) hx; omega
    have hC : ∀ (l : List Sm) (o : OB), (l.flatMap wS).length < (wS s).length → CallsA Tryz.prog 38 [.clo (.func 39) [.ptr 1000 0] [], .sl 20 (encSs l) false] ⟨[arrB o], []⟩ (.tup []) ⟨[arrB (xSs l o)], []⟩ := fun l o hw => by
      have pl := fm_len (l := l) wS_pos
      rw [encSs_map, xSs_fold]
      refine each38_ok xS _ (by omega) (fun x hx o => ih x ?_ ?_ o)
      · have := fm_mem (w := wS) hx; omega
      · have := fm_mem (w := wS) hx; omega
    have c1 := hC s.body (xEs s.args (xE s.y (xE s.x o))) (by omega)
    have c2 := hC s.els (xSs s.body (xEs s.args (xE s.y (xE s.x o)))) (by omega)
    rw [xS_eq]
    refine fn_ok hm Tryz.func39 (fun _ => false) [] (fun _ => []) (by kernel_rfl) ?_
    refine run ?_; repeat ((apply call_ok; first | exact (hA) | exact (hB) | exact (c1) | exact (c2)); refine run ?_)
    exact Done.mk rfl rfl
end Abs
namespace Abs
open Go Go.Proofs
set_option maxRecDepth 100000
set_option maxHeartbeats 4000000
def noO : OB := fun _ => false
def dops (body : List Sm) : List Int := ((List.range 11).filter (xSs body noO)).map fun n : Nat => (n : Int)
theorem nth_arr (o : OB) (k : Nat) (h : k < 11) : nth [bo (o 0), bo (o 1), bo (o 2), bo (o 3), bo (o 4), bo (o 5), bo (o 6), bo (o 7), bo (o 8), bo (o 9), bo (o 10)] k = some (bo (o k)) := by
  match k, h with
  | 0, _ => rfl
  | 1, _ => rfl
  | 2, _ => rfl
  | 3, _ => rfl
  | 4, _ => rfl
  | 5, _ => rfl
  | 6, _ => rfl
  | 7, _ => rfl
  | 8, _ => rfl
  | 9, _ => rfl
  | 10, _ => rfl
theorem range_yes {o : OB} {k : Nat} (h : o k = true) : ((List.range (k+1)).filter o) = (List.range k).filter o ++ [k] := by
  rw [List.range_succ, List.filter_append]; simp [h]
theorem range_no {o : OB} {k : Nat} (h : o k = false) : ((List.range (k+1)).filter o) = (List.range k).filter o := by
  rw [List.range_succ, List.filter_append]; simp [h]
theorem range_le (o : OB) (k : Nat) : ((List.range k).filter o).length ≤ k := by
  have := List.length_filter_le o (List.range k); rwa [List.length_range] at this
theorem dOps_ok (d : Df) (hw : (wD d).length < 2^30) : CallsA Tryz.prog 14 [encD d] ct0 (ints (dops d.body)) ct0 := by
  have hwd := wD_len d
  have hws := wl_len wS d.body
  have p3 := fm_len (l := d.body) wS_pos
  have hc := each38_ok (l := d.body) xS noO (by omega) (fun x hx o => dstmt_ok _ x (Nat.lt_succ_self _) (by have := fm_mem (w := wS) hx; omega) o)
  rw [← xSs_fold] at hc
  have ho : ∃ o, o = xSs d.body noO := ⟨_, rfl⟩
  refine ho.elim fun o ho => ?_
  have hd : dops d.body = ((List.range 11).filter o).map fun n : Nat => (n : Int) := by rw [ho]; rfl
  rw [← ho] at hc
  refine fn_ok hm Tryz.func14 (fun _ => false) [] (fun _ => []) (by kernel_rfl) ?_
  refine run ?_; repeat ((apply call_ok; first | exact (hc)); refine run ?_)
  refine LoopS.mk ⟨[.tmp 4 20005], HeadS.lp (fun r : CR => r.k ≤ 11 ∧ r.acc = ((List.range r.k).filter o).map fun n : Nat => it n) (fun r => ⟨[(12, it r.k), (4, .ref 20005 r.acc.length)], [], [(20005, ⟨1, true, r.acc⟩)]⟩) (fun r => 11 - r.k) ⟨0, []⟩ ⟨Nat.zero_le _, rfl⟩ ?_⟩
  intro r hJ
  have h1 := hJ.1
  have h2 := hJ.2
  by_cases hk : r.k < 11
  · have b1 : decide ((r.k : Int) < 11) = true := by simp; omega
    have hle := range_le o r.k
    have hlen : r.acc.length = ((List.range r.k).filter o).length := by rw [h2, List.length_map]
    have hi := nth_arr o r.k hk
    refine (Bool.eq_false_or_eq_true (o r.k)).elim (fun b2 => ?_) (fun b2 => ?_)
    · have hN : r.acc ++ [it r.k] = ((List.range (r.k + 1)).filter o).map fun n : Nat => it n := by rw [h2, range_yes b2, List.map_append]; rfl
      refine run ?_
      refine Idx.at rfl (by omega) hi ?_
      refine run ?_
      refine ⟨⟨⟨r.k + 1, _⟩, ⟨hk, hN⟩⟩, Nat.sub_lt_sub_left hk (Nat.lt_succ_self _), ?_⟩
      repeat' (first | exact trivial | exact rfl | refine ⟨?_, ?_⟩ | refine ⟨?_, ?_, ?_⟩)
    · have hN : r.acc = ((List.range (r.k + 1)).filter o).map fun n : Nat => it n := by rw [h2, range_no b2]
      refine run ?_
      refine Idx.at rfl (by omega) hi ?_
      refine run ?_
      refine ⟨⟨⟨r.k + 1, _⟩, ⟨hk, hN⟩⟩, Nat.sub_lt_sub_left hk (Nat.lt_succ_self _), ?_⟩
      repeat' (first | exact trivial | exact rfl | refine ⟨?_, ?_⟩ | refine ⟨?_, ?_, ?_⟩)
  · have b1 : decide ((r.k : Int) < 11) = false := by simp; omega
    have e : r.acc = (dops d.body).map it := by rw [h2, hd, show r.k = 11 by omega, List.map_map]; rfl
    refine run ?_
    exact Done.mk (congrArg (fun x => Dat.sl 1 x false) e) rfl
end Abs
namespace Abs
open Go Go.Proofs
set_option maxRecDepth 100000
set_option maxHeartbeats 4000000
def allAbs (mask : Int) : Dat := .agg [it (-2147483648), it 2147483647, it 1, it 0, it mask]
theorem spanMod_ok : CallsA Tryz.prog 192 [it (-2147483648), it 1] ct0 (it 0) ct0 := by
  have a1 : (-2147483648 : Int).tmod 1 + 1 = 1 := by decide
  refine fn_ok hm Tryz.func192 (fun _ => false) [] (fun _ => []) (by kernel_rfl) ?_
  refine run ?_
  exact Done.mk rfl rfl
theorem spanBy_ok : CallsA Tryz.prog 165 [it (-2147483648), it 2147483647, it 1, it 255] ct0 (allAbs 255) ct0 := by
  have h := spanMod_ok
  have a1 : (2147483647 : Int) - (2147483647 - -2147483648 : Int).tmod 1 = 2147483647 := by decide
  have a2 : IntKind.i64.wrap ((2147483647 - -2147483648 : Int).tdiv 1) * 1 = 4294967295 := by decide
  refine fn_ok hm Tryz.func165 (fun _ => false) [] (fun _ => []) (by kernel_rfl) ?_
  refine run ?_; repeat ((apply call_ok; first | exact (h)); refine run ?_)
  exact Done.mk rfl rfl
theorem spanAll_ok : CallsA Tryz.prog 120 [it 255] ct0 (allAbs 255) ct0 := by
  have h := spanBy_ok
  refine fn_ok hm Tryz.func120 (fun _ => false) [] (fun _ => []) (by kernel_rfl) ?_
  refine run ?_; repeat ((apply call_ok; first | exact (h)); refine run ?_)
  exact Done.mk rfl rfl
theorem ref10Mod_ok : CallsA Tryz.prog 167 [it (-2147483648), it 1] ct0 (it 0) ct0 := by
  have a1 : (-2147483648 : Int).tmod 1 + 1 = 1 := by decide
  refine fn_ok hm Tryz.func167 (fun _ => false) [] (fun _ => []) (by kernel_rfl) ?_
  refine run ?_
  exact Done.mk rfl rfl
theorem ref10By_ok : CallsA Tryz.prog 125 [it (-2147483648), it 2147483647, it 1, it 255] ct0 (allAbs 255) ct0 := by
  have h := ref10Mod_ok
  have a1 : (2147483647 : Int) - (2147483647 - -2147483648 : Int).tmod 1 = 2147483647 := by decide
  have a2 : IntKind.i64.wrap ((2147483647 - -2147483648 : Int).tdiv 1) * 1 = 4294967295 := by decide
  refine fn_ok hm Tryz.func125 (fun _ => false) [] (fun _ => []) (by kernel_rfl) ?_
  refine run ?_; repeat ((apply call_ok; first | exact (h)); refine run ?_)
  exact Done.mk rfl rfl
theorem ref10All_ok : CallsA Tryz.prog 83 [it 255] ct0 (allAbs 255) ct0 := by
  have h := ref10By_ok
  refine fn_ok hm Tryz.func83 (fun _ => false) [] (fun _ => []) (by kernel_rfl) ?_
  refine run ?_; repeat ((apply call_ok; first | exact (h)); refine run ?_)
  exact Done.mk rfl rfl
def rowT (a b : Nat) : List Pa := ((List.range b).filter fun j => !(Nat.beq a j)).map fun j : Nat => ⟨a, j, 0⟩
def pairsT (n : Nat) : List Pa := (List.range n).flatMap fun a => rowT a 3
def topSy (c : Int) : Sy := ⟨c, -2147483648, 2147483647, 1, 0, 255, 4294967294, 7, 0, pairsT 3, 1099511627776⟩
def topC (c : Int) (ps : Dat) : List Dat := [it c, it (-2147483648), it 2147483647, it 1, it 0, it 255, it 4294967294, it 7, it 0, ps, it 1099511627776]
theorem rowT_yes {a b : Nat} (h : (!(Nat.beq a b)) = true) : rowT a (b+1) = rowT a b ++ [⟨a, b, 0⟩] := by
  unfold rowT; rw [List.range_succ, List.filter_append]; simp [h]
theorem rowT_no {a b : Nat} (h : (!(Nat.beq a b)) = false) : rowT a (b+1) = rowT a b := by
  unfold rowT; rw [List.range_succ, List.filter_append]; simp [h]
theorem nbeq_no {a b : Nat} (h : (!(Nat.beq a b)) = false) : a = b := by
  cases hb : Nat.beq a b with
  | true => exact Nat.eq_of_beq_eq_true hb
  | false => rw [hb] at h; cases h
theorem nbeq_yes {a b : Nat} (h : (!(Nat.beq a b)) = true) : ¬ a = b := fun e => by
  rw [e, Nat.beq_refl] at h; cases h
theorem rowT_le (a b : Nat) : (rowT a b).length ≤ b := by
  unfold rowT; rw [List.length_map]
  have := List.length_filter_le (fun j => !(Nat.beq a j)) (List.range b); rwa [List.length_range] at this
theorem pairsT_succ (n : Nat) : pairsT (n+1) = pairsT n ++ rowT n 3 := by unfold pairsT; rw [List.range_succ]; simp
theorem pairsT_le : ∀ n, (pairsT n).length ≤ 3 * n
  | 0 => by simp [pairsT]
  | n+1 => by rw [pairsT_succ, List.length_append]; have := pairsT_le n; have := rowT_le n 3; omega
def cSy (s : Sy) : List Dat := [it s.id, it s.rlo, it s.rhi, it s.rm, it s.rr, it s.rmask, it s.throws, it s.locks, it s.loads, lst 3 encPa s.pairs, it s.cost]
def topOf (p : Pg) (c : Int) : Sy := if (fnd (fun x : Hd => x.id == c) zHd p.heads).2 then topSy c else zSy
def topE (p : Pg) (c : Int) : Int := if (fnd (fun x : Hd => x.id == c) zHd p.heads).2 then 0 else 4
theorem sumTop_ok (p : Pg) (c : Int) (hL : p.d.locks = 3) (hh : p.heads.length < 2^40) : CallsA Tryz.prog 77 [encP p, it c] ct0 (.tup [encSy (topOf p c), it (topE p c)]) ct0 := by
  have hd := shapeHeadOf_ok p c hh
  have ha := spanAll_ok
  have s1 : IntKind.i64.wrap (1 * 2 ^ (min p.d.locks.toNat IntKind.i64.bits)) - 1 = 7 := by rw [hL]; decide
  have hn : 0 ≤ p.d.locks := by omega
  refine (Bool.eq_false_or_eq_true ((fnd (fun x : Hd => x.id == c) zHd p.heads).2)).elim (fun b0 => ?_) (fun b0 => ?_)
  · have e1 : topOf p c = topSy c := if_pos b0
    have c0 : (!(fnd (fun x : Hd => x.id == c) zHd p.heads).2) = false := by rw [b0]; rfl
    have e2 : topE p c = 0 := if_pos b0
    rw [e1, e2]
    refine fn_ok hm Tryz.func77 (fun _ => false) [] (fun _ => []) (by kernel_rfl) ?_
    refine run ?_; repeat ((apply call_ok; first | exact (hd) | exact (ha)); refine run ?_)
    refine LoopS.mk ⟨[.cell 8 9 20006], HeadS.lp (fun r : CR => r.k ≤ 3 ∧ r.acc = (pairsT r.k).map encPa) (fun r => ⟨[(31, it r.k)], [(8, .agg (topC c (.ref 20006 r.acc.length)))], [(20006, ⟨3, true, r.acc⟩)]⟩) (fun r => 3 - r.k) ⟨0, []⟩ ⟨Nat.zero_le _, rfl⟩ ?_⟩
    intro r hJ
    have h1 := hJ.1
    have h2 := hJ.2
    by_cases hk : r.k < 3
    · have b1 : decide ((r.k : Int) < p.d.locks) = true := by rw [hL]; simp; omega
      have hlen : r.acc.length = (pairsT r.k).length := by rw [h2, List.length_map]
      have hle := pairsT_le r.k
      refine run ?_
      refine LoopS.mk ⟨[], HeadS.lp (fun q : CR => q.k ≤ 3 ∧ q.acc = r.acc ++ (rowT r.k q.k).map encPa) (fun q => ⟨[(37, it q.k)], [(8, .agg (topC c (.ref 20006 q.acc.length)))], [(20006, ⟨3, true, q.acc⟩)]⟩) (fun q => 3 - q.k) ⟨0, r.acc⟩ ⟨Nat.zero_le _, by simp [rowT]⟩ ?_⟩
      intro q hq
      have q1 := hq.1
      have q2 := hq.2
      by_cases gk : q.k < 3
      · have d1 : decide ((q.k : Int) < p.d.locks) = true := by rw [hL]; simp; omega
        have glen : q.acc.length = r.acc.length + (rowT r.k q.k).length := by rw [q2]; simp
        have gle := rowT_le r.k q.k
        refine (Bool.eq_false_or_eq_true (!(Nat.beq r.k q.k))).elim (fun d2 => ?_) (fun d2 => ?_)
        · have d3 : ¬ r.k = q.k := nbeq_yes d2
          have ne : (!decide ((r.k : Int) = (q.k : Int))) = true := by simp; omega
          have gN : q.acc ++ [encPa ⟨r.k, q.k, 0⟩] = r.acc ++ (rowT r.k (q.k + 1)).map encPa := by rw [q2, rowT_yes d2, List.map_append, ← List.append_assoc]; rfl
          refine run ?_
          refine ⟨⟨⟨q.k + 1, _⟩, ⟨gk, gN⟩⟩, Nat.sub_lt_sub_left gk (Nat.lt_succ_self _), ?_⟩
          repeat' (first | exact trivial | exact rfl | refine ⟨?_, ?_⟩ | refine ⟨?_, ?_, ?_⟩)
        · have d3 : r.k = q.k := nbeq_no d2
          have ne : (!decide ((r.k : Int) = (q.k : Int))) = false := by rw [d3]; simp
          have gN : q.acc = r.acc ++ (rowT r.k (q.k + 1)).map encPa := by rw [q2, rowT_no d2]
          refine run ?_
          refine ⟨⟨⟨q.k + 1, _⟩, ⟨gk, gN⟩⟩, Nat.sub_lt_sub_left gk (Nat.lt_succ_self _), ?_⟩
          repeat' (first | exact trivial | exact rfl | refine ⟨?_, ?_⟩ | refine ⟨?_, ?_, ?_⟩)
      · have d1 : decide ((q.k : Int) < p.d.locks) = false := by rw [hL]; simp; omega
        have e : q.acc = (pairsT (r.k + 1)).map encPa := by rw [q2, h2, show q.k = 3 by omega, pairsT_succ, List.map_append]
        refine run ?_
        refine ⟨⟨⟨r.k + 1, _⟩, ⟨hk, e⟩⟩, Nat.sub_lt_sub_left hk (Nat.lt_succ_self _), ?_⟩
        repeat' (first | exact trivial | exact rfl | refine ⟨?_, ?_⟩ | refine ⟨?_, ?_, ?_⟩)
    · have b1 : decide ((r.k : Int) < p.d.locks) = false := by rw [hL]; simp; omega
      have e : r.acc = (pairsT 3).map encPa := by rw [h2, show r.k = 3 by omega]
      refine run ?_
      exact Done.mk (congrArg (fun x => Dat.tup [.agg (topC c (.sl 3 x false)), it 0]) e) rfl
  · have e1 : topOf p c = zSy := if_neg (by rw [b0]; simp)
    have c0 : (!(fnd (fun x : Hd => x.id == c) zHd p.heads).2) = true := by rw [b0]; rfl
    have e2 : topE p c = 4 := if_neg (by rw [b0]; simp)
    rw [e1, e2]
    refine fn_ok hm Tryz.func77 (fun _ => false) [] (fun _ => []) (by kernel_rfl) ?_
    refine run ?_; repeat ((apply call_ok; first | exact (hd)); refine run ?_)
    exact Done.mk rfl rfl
theorem refTop_ok (p : Pg) (c : Int) (hL : p.d.locks = 3) (hh : p.heads.length < 2^40) : CallsA Tryz.prog 36 [encP p, it c] ct0 (.agg (cSy (topOf p c) ++ [it (topE p c)])) ct0 := by
  have hd := refHeadIn_ok p c hh
  have ha := ref10All_ok
  have s0 : IntKind.u64.wrap p.d.locks = 3 := by rw [hL]; decide
  have hn : 0 ≤ IntKind.u64.wrap p.d.locks := by omega
  have s1 : IntKind.i64.wrap (1 * 2 ^ (min (IntKind.u64.wrap p.d.locks).toNat IntKind.i64.bits)) - 1 = 7 := by rw [s0]; decide
  refine (Bool.eq_false_or_eq_true ((fnd (fun x : Hd => x.id == c) zHd p.heads).2)).elim (fun b0 => ?_) (fun b0 => ?_)
  · have e1 : topOf p c = topSy c := if_pos b0
    have c0 : (!(fnd (fun x : Hd => x.id == c) zHd p.heads).2) = false := by rw [b0]; rfl
    have e2 : topE p c = 0 := if_pos b0
    rw [e1, e2]
    refine fn_ok hm Tryz.func36 (fun _ => false) [] (fun _ => []) (by kernel_rfl) ?_
    refine run ?_; repeat ((apply call_ok; first | exact (hd) | exact (ha)); refine run ?_)
    refine Arith.mk ?_
    refine run ?_
    refine LoopS.mk ⟨[.cell 5 9 20005], HeadS.lp (fun r : CR => r.k ≤ 3 ∧ r.acc = (pairsT r.k).map encPa) (fun r => ⟨[(6, it r.k)], [(5, .agg (topC c (.ref 20005 r.acc.length)))], [(20005, ⟨3, true, r.acc⟩)]⟩) (fun r => 3 - r.k) ⟨0, []⟩ ⟨Nat.zero_le _, rfl⟩ ?_⟩
    intro r hJ
    have h1 := hJ.1
    have h2 := hJ.2
    by_cases hk : r.k < 3
    · have b1 : decide ((r.k : Int) < p.d.locks) = true := by rw [hL]; simp; omega
      have hlen : r.acc.length = (pairsT r.k).length := by rw [h2, List.length_map]
      have hle := pairsT_le r.k
      refine run ?_
      refine LoopS.mk ⟨[], HeadS.lp (fun q : CR => q.k ≤ 3 ∧ q.acc = r.acc ++ (rowT r.k q.k).map encPa) (fun q => ⟨[(7, it q.k)], [(5, .agg (topC c (.ref 20005 q.acc.length)))], [(20005, ⟨3, true, q.acc⟩)]⟩) (fun q => 3 - q.k) ⟨0, r.acc⟩ ⟨Nat.zero_le _, by simp [rowT]⟩ ?_⟩
      intro q hq
      have q1 := hq.1
      have q2 := hq.2
      by_cases gk : q.k < 3
      · have d1 : decide ((q.k : Int) < p.d.locks) = true := by rw [hL]; simp; omega
        have glen : q.acc.length = r.acc.length + (rowT r.k q.k).length := by rw [q2]; simp
        have gle := rowT_le r.k q.k
        refine (Bool.eq_false_or_eq_true (!(Nat.beq r.k q.k))).elim (fun d2 => ?_) (fun d2 => ?_)
        · have d3 : ¬ r.k = q.k := nbeq_yes d2
          have ne : (!decide ((r.k : Int) = (q.k : Int))) = true := by simp; omega
          have gN : q.acc ++ [encPa ⟨r.k, q.k, 0⟩] = r.acc ++ (rowT r.k (q.k + 1)).map encPa := by rw [q2, rowT_yes d2, List.map_append, ← List.append_assoc]; rfl
          refine run ?_
          refine ⟨⟨⟨q.k + 1, _⟩, ⟨gk, gN⟩⟩, Nat.sub_lt_sub_left gk (Nat.lt_succ_self _), ?_⟩
          repeat' (first | exact trivial | exact rfl | refine ⟨?_, ?_⟩ | refine ⟨?_, ?_, ?_⟩)
        · have d3 : r.k = q.k := nbeq_no d2
          have ne : (!decide ((r.k : Int) = (q.k : Int))) = false := by rw [d3]; simp
          have gN : q.acc = r.acc ++ (rowT r.k (q.k + 1)).map encPa := by rw [q2, rowT_no d2]
          refine run ?_
          refine ⟨⟨⟨q.k + 1, _⟩, ⟨gk, gN⟩⟩, Nat.sub_lt_sub_left gk (Nat.lt_succ_self _), ?_⟩
          repeat' (first | exact trivial | exact rfl | refine ⟨?_, ?_⟩ | refine ⟨?_, ?_, ?_⟩)
      · have d1 : decide ((q.k : Int) < p.d.locks) = false := by rw [hL]; simp; omega
        have e : q.acc = (pairsT (r.k + 1)).map encPa := by rw [q2, h2, show q.k = 3 by omega, pairsT_succ, List.map_append]
        refine run ?_
        refine ⟨⟨⟨r.k + 1, _⟩, ⟨hk, e⟩⟩, Nat.sub_lt_sub_left hk (Nat.lt_succ_self _), ?_⟩
        repeat' (first | exact trivial | exact rfl | refine ⟨?_, ?_⟩ | refine ⟨?_, ?_, ?_⟩)
    · have b1 : decide ((r.k : Int) < p.d.locks) = false := by rw [hL]; simp; omega
      have e : r.acc = (pairsT 3).map encPa := by rw [h2, show r.k = 3 by omega]
      refine run ?_
      exact Done.mk (congrArg (fun x => Dat.agg (topC c (.sl 3 x false) ++ [it 0])) e) rfl
  · have e1 : topOf p c = zSy := if_neg (by rw [b0]; simp)
    have c0 : (!(fnd (fun x : Hd => x.id == c) zHd p.heads).2) = true := by rw [b0]; rfl
    have e2 : topE p c = 4 := if_neg (by rw [b0]; simp)
    rw [e1, e2]
    refine fn_ok hm Tryz.func36 (fun _ => false) [] (fun _ => []) (by kernel_rfl) ?_
    refine run ?_; repeat ((apply call_ok; first | exact (hd)); refine run ?_)
    exact Done.mk rfl rfl
end Abs
