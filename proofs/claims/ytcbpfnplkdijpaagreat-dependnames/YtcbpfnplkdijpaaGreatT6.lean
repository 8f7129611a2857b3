/- A part of a proof: an abstract machine, proved sound, or contracts of functions. No condition. -/
import Derived.Test.YtcbpfnplkdijpaaGreatT4
import Derived.Test.YtcbpfnplkdijpaaGreatShelf
set_option linter.unusedVariables false
set_option linter.unusedSimpArgs false
namespace Abs
open Go Go.Proofs Go.Sort
theorem empty_row {cx : Cx} {γ : Gh} {w : World} {l0 : List Dat} {own : Bool} (hm : Mem cx γ (init l0 ⟨[], [⟨1, true, []⟩]⟩) w) : Mem cx γ (init [] ⟨[], [⟨1, own, []⟩]⟩) w where
  iw := hm.iw
  box := hm.box
  nobox := hm.nobox
  inj := hm.inj
  dis := hm.dis
  row k r hr := by
    have hr' : upd (fun _ => none) 1000 (some (⟨1, own, []⟩ : Row)) k = some r := hr
    by_cases h : k = 1000
    · subst h
      rw [upd_eq] at hr'; cases hr'
      obtain ⟨t, h1, h2, h3, h4, h5⟩ := hm.row 1000 ⟨1, true, []⟩ rfl
      refine ⟨t, h1, h2, h3, h4, ?_⟩
      first | unfold RowAt at * | (refine ⟨fun _ => ?_, fun e => absurd e Nat.one_ne_zero⟩; have h5 := h5.o Nat.one_ne_zero; unfold RowO at *)
      cases hb : t.base with
      | none => rw [hb] at h5; exact h5
      | some b =>
        rw [hb] at h5
        obtain ⟨p1, p2, p3, c, e, fz, p4, p5, p6, p7, p8, p9⟩ := h5
        exact ⟨p1, p2, p3, c, e, fz, p4, p5, p6, p7, fun _ => p8 rfl, fun j d hd => by simp [nth] at hd⟩
    · rw [upd_ne _ _ _ _ h] at hr'; cases hr'
  norow k t hk := by
    obtain ⟨r, hr⟩ := hm.norow k t hk
    have hr' : upd (fun _ => none) 1000 (some (⟨1, true, []⟩ : Row)) k = some r := hr
    by_cases h : k = 1000
    · subst h; exact ⟨_, rfl⟩
    · rw [upd_ne _ _ _ _ h] at hr'; cases hr'
  rdis := hm.rdis
  newI := hm.newI
  frame := hm.frame
  new := hm.new
theorem holds_row {w : World} {b : Nat} {c : Array Value} {e : TypeId} {fz : Nat × Nat} {zs : List Int} (hc : w.heap[b]? = some (.cells c e fz)) (hfz : Free fz c.size) (h : ∀ (j : Nat) (x : Int), zs[j]? = some x → c[j]? = some (Value.int .i64 x)) :
    Go.Sort.Holds (Value.int .i64) w b 0 zs.toArray := by
  intro j hj
  have hj' : j < zs.length := by simpa using hj
  have hx := h j zs[j] (List.getElem?_eq_getElem hj')
  have hlt : j < c.size := (Array.getElem?_eq_some_iff.1 hx).1
  rw [Nat.zero_add]
  refine ⟨(cell_blk hc).trans ?_, frozen_free hc hfz hlt⟩
  rw [hx]; simp [hj']
theorem one_val {vs : Array Value} (h : vs.size = 1) : ∃ v, vs = #[v] :=
  ⟨vs[0], by
    apply Array.ext
    · simp [h]
    · intro i h2 h3
      have : i = 0 := by omega
      subst this; rfl⟩
theorem compact_le (zs : List Int) : (Lib.compact zs).length ≤ zs.length := by
  unfold Lib.compact Lib.compactUpTo
  rw [List.length_map]
  exact Nat.le_trans (List.length_filter_le _ _) (by simp)
theorem sort_ok (zs : List Int) (hsz : zs.length < 2^62) : CallsA Tryz.prog 51 [.ref 1000 (zs.map it).length] ⟨[], [⟨1, true, zs.map it⟩]⟩ (.tup []) ⟨[], [⟨1, true, (zs.mergeSort fun x y => decide (x ≤ y)).map it⟩]⟩ := by
  refine ⟨⟨_, Tryz.func51, by kernel_rfl, by kernel_rfl⟩, fun γ w vs hs hrep hmem => ?_⟩
  obtain ⟨v, rfl⟩ := one_val (hs : vs.size = 1)
  have hr : Rep γ v (.ref 1000 (zs.map intD).length) := hrep 0 v _ rfl rfl
  by_cases hne : zs = []
  · subst hne
    obtain ⟨t, _, _, _, a, cp, rfl⟩ := hr.ref_val
    refine Calls.mono (Tryz.slices_Sort_int_none a cp w) fun e w' he => ?_
    obtain ⟨rfl, rfl⟩ := he
    exact ⟨γ, Ext.refl γ, .tup rfl (fun i v d hv => by simp at hv), by rw [List.mergeSort_nil]; exact hmem.names rfl rfl⟩
  · obtain ⟨t, b, c, e, fz, h1, h2, h3, h4, rfl, h6, h7, h8, h9, h10, h11, h12, h13⟩ := row_one hmem hr hne
    refine Calls.mono (Tryz.slices_Sort_int b 0 t.cap zs w (holds_row h7 h8 h13) (lt_of_blk h7) (by omega)) fun e w' he => ?_
    obtain ⟨rfl, n, os, hw⟩ := he
    obtain ⟨γ', k1, k2, k3, _⟩ := row_back rfl hmem h1 h4 h3 h6 h7 h8 h9 h10 h11 h12 (ys := zs.mergeSort fun x y => decide (x ≤ y)) (by simp) n os hw true
    exact ⟨γ', k1, .tup rfl (fun i v d hv => by simp at hv), k3⟩
theorem compact_ok (zs : List Int) (hsz : zs.length < 2^62) : CallsA Tryz.prog 52 [.ref 1000 (zs.map it).length] ⟨[], [⟨1, true, zs.map it⟩]⟩ (ints (Lib.compact zs))
    ⟨[], [⟨1, false, (Lib.compact zs ++ List.replicate (zs.length - (Lib.compact zs).length) 0).map it⟩]⟩ := by
  refine ⟨⟨_, Tryz.func52, by kernel_rfl, by kernel_rfl⟩, fun γ w vs hs hrep hmem => ?_⟩
  obtain ⟨v, rfl⟩ := one_val (hs : vs.size = 1)
  have hr : Rep γ v (.ref 1000 (zs.map intD).length) := hrep 0 v _ rfl rfl
  have hle : (Lib.compact zs).length ≤ zs.length := compact_le zs
  by_cases hne : zs = []
  · subst hne
    obtain ⟨t, _, _, _, a, cp, rfl⟩ := hr.ref_val
    refine Calls.mono (Tryz.slices_Compact_int_empty a cp w) fun e w' he => ?_
    obtain ⟨rfl, rfl⟩ := he
    have e0 : Lib.compact [] = [] := List.eq_nil_of_length_eq_zero (by have := hle; simpa using this)
    refine ⟨γ, Ext.refl γ, ?_, ?_⟩
    · rw [e0]; exact .pure (.sl0 _ _ _)
    · rw [e0]; exact empty_row hmem
  · obtain ⟨t, b, c, e, fz, h1, h2, h3, h4, rfl, h6, h7, h8, h9, h10, h11, h12, h13⟩ := row_one hmem hr hne
    refine Calls.mono (Tryz.slices_Compact_int b 0 t.cap zs w (holds_row h7 h8 h13) (by omega) (by omega)) fun e w' he => ?_
    obtain ⟨rfl, q, hw⟩ := he
    obtain ⟨γ', k1, k2, k3, k4⟩ := row_back rfl hmem h1 h4 h3 h6 h7 h8 h9 h10 h11 h12 (ys := Lib.compact zs ++ List.replicate (zs.length - (Lib.compact zs).length) 0) (by simp; omega) q #[] (hw.trans (grow_empty _).symm) false
    refine ⟨γ', k1, .pure ?_, k3⟩
    have hlen : ((Lib.compact zs).map it).length = (Lib.compact zs).length := by simp
    have := RepI.sl (I := γ'.I) b 0 t.cap 1 ((Lib.compact zs).map it) (fun j => .int .i64 ((Lib.compact zs)[j]?.getD 0)) (by rw [hlen]; omega) (fun e he => by obtain ⟨x, _, rfl⟩ := List.mem_map.1 he; rfl) (fun j d hd => ?_) (fun j d hd => ?_)
    · rw [hlen] at this; exact this
    · have hd' : nth (((Lib.compact zs).map intD).flatMap cells) j = some d := hd
      rw [flat_intD, nth_eq, List.getElem?_map] at hd'
      cases hx : (Lib.compact zs)[j]? with
      | none => rw [hx] at hd'; cases hd'
      | some x =>
        rw [Nat.zero_add]
        exact k4 rfl j x (by rw [List.getElem?_append_left (List.getElem?_eq_some_iff.1 hx).1]; exact hx)
    · have hd' : nth (((Lib.compact zs).map intD).flatMap cells) j = some d := hd
      rw [flat_intD, nth_eq, List.getElem?_map] at hd'
      cases hx : (Lib.compact zs)[j]? with
      | none => rw [hx] at hd'; cases hd'
      | some x => rw [hx] at hd'; cases hd'; exact .int _ _
end Abs
namespace Abs
open Go Go.Proofs
set_option maxRecDepth 100000
set_option maxHeartbeats 4000000
mutual
def flS : Sm → Nat → List (Sm × Nat)
  | .mk a b c d e f g h i j body els, k => (.mk a b c d e f g h i j body els, k) :: (flL body (k+1) ++ flL els (k+1))
def flL : List Sm → Nat → List (Sm × Nat)
  | [], _ => []
  | s :: l, k => flS s k ++ flL l k
end
theorem flS_eq (s : Sm) (k : Nat) : flS s k = (s, k) :: (flL s.body (k+1) ++ flL s.els (k+1)) := by
  cases s; simp [flS, Sm.body, Sm.els]
mutual
def szS : Sm → Nat
  | .mk a b c d e f g h i j body els => 1 + (szL body + szL els)
def szL : List Sm → Nat
  | [] => 0
  | s :: l => szS s + szL l
end
theorem szS_eq (s : Sm) : szS s = 1 + (szL s.body + szL s.els) := by
  cases s; simp [szS, Sm.body, Sm.els]
mutual
theorem flS_len : ∀ (s : Sm) (k : Nat), (flS s k).length = szS s
  | .mk a b c d e f g h i j body els, k => by
    simp only [flS, szS, List.length_cons, List.length_append, flL_len body, flL_len els]; omega
theorem flL_len : ∀ (l : List Sm) (k : Nat), (flL l k).length = szL l
  | [], _ => rfl
  | s :: l, k => by simp only [flL, szL, List.length_append, flS_len s, flL_len l]
end
theorem szL_append : ∀ (a b : List Sm), szL (a ++ b) = szL a + szL b
  | [], b => by simp [szL]
  | s :: a, b => by simp only [List.cons_append, szL, szL_append a b]; omega
theorem flL_append (k : Nat) : ∀ (a b : List Sm), flL (a ++ b) k = flL a k ++ flL b k
  | [], b => by simp [flL]
  | s :: a, b => by simp only [List.cons_append, flL, flL_append k a b, List.append_assoc]
def encPl (x : Sm × Nat) : List Dat := [.agg (cS x.1 ++ [it x.2])]
def Seg (xs : List (List Dat)) (k : Nat) (l : List (Sm × Nat)) : Prop := ∀ i x, l[i]? = some x → nth xs (k + i) = some (encPl x)
theorem Seg.left {xs : List (List Dat)} {k : Nat} {a b : List (Sm × Nat)} (h : Seg xs k (a ++ b)) : Seg xs k a := fun i x hx =>
  h i x (by rw [List.getElem?_append_left (List.getElem?_eq_some_iff.1 hx).1]; exact hx)
theorem Seg.right {xs : List (List Dat)} {k : Nat} {a b : List (Sm × Nat)} (h : Seg xs k (a ++ b)) : Seg xs (k + a.length) b := fun i x hx => by
  have := h (a.length + i) x (by rw [List.getElem?_append_right (by omega), Nat.add_sub_cancel_left]; exact hx)
  rw [Nat.add_assoc]; exact this
theorem szL_take {ss : List Sm} {i : Nat} (h : i < ss.length) : szL (ss.take (i+1)) = szL (ss.take i) + szS ss[i] := by
  rw [List.take_add_one, szL_append]
  simp [h, szL]
theorem szL_le {ss : List Sm} (i : Nat) : szL (ss.take i) ≤ szL ss := by
  have := szL_append (ss.take i) (ss.drop i)
  rw [List.take_append_drop] at this; omega
theorem szS_le {ss : List Sm} {i : Nat} (h : i < ss.length) : szL (ss.take i) + szS ss[i] ≤ szL ss := by
  rw [← szL_take h]; exact szL_le _
theorem Seg.at {xs : List (List Dat)} {k d : Nat} {ss : List Sm} (hs : Seg xs k (flL ss d)) {i : Nat} (h : i < ss.length) : Seg xs (k + szL (ss.take i)) (flS ss[i] d) := by
  have e : ss = ss.take i ++ (ss[i] :: ss.drop (i+1)) := by
    rw [List.getElem_cons_drop, List.take_append_drop]
  rw [e, flL_append, flL] at hs
  have := hs.right.left
  rw [flL_len] at this; exact this
theorem sz_pos (s : Sm) : 1 ≤ szS s := by rw [szS_eq]; omega
theorem len_le_sz : ∀ ss : List Sm, ss.length ≤ szL ss
  | [] => by simp
  | s :: l => by have := len_le_sz l; have := sz_pos s; simp only [List.length_cons, szL]; omega
theorem ycall_ok {P : Program} {l : Nat} {xs : List (List Dat)} {byref : FuncId → Bool} {hint : Nat → List Ad} {f : FuncId} {args : List Dat} {k : Nat} {K : Dat → YS → Prop} {outs : List (Dat × YS)}
    (h : CallsY P l xs f args k fun r y => (r, y) ∈ outs) (hk : allK K outs) : YCall (cfY P l xs byref hint).CY f args k K := ⟨outs, h, hk⟩
theorem walk_ok (lp : Nat) (xs : List (List Dat)) : ∀ (n : Nat) (ss : List Sm) (d k : Nat), szL ss < n → d + szL ss < 2^60 → Seg xs k (flL ss d) →
    CallsY Tryz.prog lp xs 92 [lst 20 encS ss, it d, .yld lp] k fun r y => (r, y) ∈ [(bo true, YS.run (k + szL ss)), (bo false, YS.stop)] := by
  intro n
  induction n with
  | zero => intro ss d k hn; omega
  | succ n ih =>
    intro ss d k hn hd hs
    refine fn_y hm Tryz.func92 (fun _ => false) (fun _ => []) (by kernel_rfl) (by kernel_rfl) ?_
    refine run ?_
    refine LoopS.mk ⟨[], HeadS.natY ss.length (fun _ => True) (fun i => .run (k + szL (ss.take i))) (fun i => ⟨[(11, it i)], [], []⟩) trivial ?_ ?_ ?_ ?_ ?_ ?_⟩
    · show YS.run (k + szL (ss.take 0)) = _; simp [szL]; rfl
    · repeat' (first | exact trivial | exact rfl | refine ⟨?_, ?_⟩ | refine ⟨?_, ?_, ?_⟩)
    · kernel_rfl
    · kernel_rfl
    · intro k; exact ⟨rfl, rfl, rfl⟩
    intro i hi _
    by_cases hlt : i < ss.length
    · have b1 : decide ((i : Int) < ((ss.map encS).length : Nat)) = true := by simp; exact hlt
      have hl := len_le_sz ss
      have hseg := hs.at hlt
      have hsz := szS_le hlt
      have e1 := flS_eq ss[i] d
      have e2 := szS_eq ss[i]
      have e3 := szL_take hlt
      rw [e1] at hseg
      have hx : nth xs (k + szL (ss.take i)) = some (encPl (ss[i], d)) := hseg 0 _ rfl
      have hseg2 : Seg xs (k + szL (ss.take i) + 1) (flL ss[i].body (d+1) ++ flL ss[i].els (d+1)) := fun j x hj => by
        have := hseg (j + 1) x (by simpa using hj)
        rw [show k + szL (ss.take i) + 1 + j = k + szL (ss.take i) + (j + 1) by omega]; exact this
      have hc1 := ih ss[i].body (d + 1) (k + szL (ss.take i) + 1) (by omega) (by omega) hseg2.left
      have hc2 := ih ss[i].els (d + 1) (k + szL (ss.take i) + 1 + szL ss[i].body) (by omega) (by omega) (by have := hseg2.right; rw [flL_len] at this; exact this)
      have hc1' : CallsY Tryz.prog lp xs 92 [.sl 20 (encSs ss[i].body) false, it ((d : Int) + 1), .yld lp] (k + szL (ss.take i) + 1) fun r y => (r, y) ∈ [(bo true, YS.run (k + szL (ss.take i) + 1 + szL ss[i].body)), (bo false, YS.stop)] := by
        rw [encSs_map]; exact hc1
      have hc2' : CallsY Tryz.prog lp xs 92 [.sl 20 (encSs ss[i].els) false, it ((d : Int) + 1), .yld lp] (k + szL (ss.take i) + 1 + szL ss[i].body) fun r y => (r, y) ∈ [(bo true, YS.run (k + szL (ss.take i) + 1 + szL ss[i].body + szL ss[i].els)), (bo false, YS.stop)] := by
        rw [encSs_map]; exact hc2
      refine run ?_
      refine Idx.map hlt rfl ?_
      (conv => whnf)
      refine Need.mk ⟨rfl, hx⟩ ?_
      (conv => whnf)
      refine Both.mk ?_ ?_
      · refine run ?_
        refine ycall_ok hc1' ?_
        refine Both.mk ?_ (Both.mk ?_ trivial)
        · refine run ?_
          refine ycall_ok hc2' ?_
          refine Both.mk ?_ (Both.mk ?_ trivial)
          · refine run ?_
            refine ⟨⟨i + 1, hlt, trivial⟩, Nat.sub_lt_sub_left hlt (Nat.lt_succ_self i), ?_, ?_⟩
            · refine (congrArg YS.run ?_ : YS.run (k + szL (ss.take i) + 1 + szL ss[i].body + szL ss[i].els) = YS.run (k + szL (ss.take (i+1))))
              omega
            · repeat' (first | exact trivial | exact rfl | refine ⟨?_, ?_⟩ | refine ⟨?_, ?_, ?_⟩)
          · refine run ?_
            exact List.Mem.tail _ (List.Mem.head _)
        · refine run ?_
          exact List.Mem.tail _ (List.Mem.head _)
      · refine run ?_
        exact List.Mem.tail _ (List.Mem.head _)
    · have b1 : decide ((i : Int) < ((ss.map encS).length : Nat)) = false := by simp; omega
      have e : ss.take i = ss := List.take_of_length_le (by omega)
      refine run ?_
      rw [e]
      exact List.Mem.head _
def allClo (ss : List Sm) : Dat := .clo (.func 91) [] [.imm (lst 20 encS ss) 0, .imm (it 1) 0]
theorem all_ok (ss : List Sm) : CallsA Tryz.prog 54 [lst 20 encS ss, it 1] ct0 (allClo ss) ct0 := by
  refine fn_fix hm Tryz.func54 (fun _ => false) [] (fun _ => []) [2, 3] (by kernel_rfl) ?_
  refine run ?_
  exact Done.mk rfl rfl
theorem all_iter (ss : List Sm) (h : 1 + szL ss < 2^60) : IterA Tryz.prog (allClo ss) ((flL ss 1).map encPl) := by
  refine ⟨91, [], [.imm (lst 20 encS ss) 0, .imm (it 1) 0], rfl, rfl, fun l => ?_⟩
  have hs : Seg ((flL ss 1).map encPl) 0 (flL ss 1) := fun i x hx => by rw [nth_eq, Nat.zero_add, List.getElem?_map, hx]; rfl
  have hw := walk_ok l ((flL ss 1).map encPl) (szL ss + 1) ss 1 0 (by omega) (by omega) hs
  have e : YS.run ((flL ss 1).map encPl).length = YS.run (0 + szL ss) := by rw [List.length_map, flL_len, Nat.zero_add]
  rw [e]
  refine fn_y hm Tryz.func91 (fun _ => false) (fun _ => []) (by kernel_rfl) (by kernel_rfl) ?_
  refine run ?_
  refine ycall_ok hw ?_
  refine Both.mk ?_ (Both.mk ?_ trivial)
  · refine run ?_
    exact .inl rfl
  · refine run ?_
    exact .inr rfl
def callees (l : List (Sm × Nat)) : List Int := (l.filter fun x => x.1.op == 13).map fun x => x.1.m
def callsOf (body : List Sm) : List Int := Lib.compact ((callees (flL body 1)).mergeSort fun x y => decide (x ≤ y))
theorem callees_take {l : List (Sm × Nat)} {i : Nat} (h : i < l.length) : callees (l.take (i+1)) = callees (l.take i) ++ (if l[i].1.op == 13 then [l[i].1.m] else []) := by
  rw [List.take_add_one]
  simp only [h, List.getElem?_eq_getElem, Option.toList, callees, List.filter_append, List.map_append]
  congr 1
  by_cases e : l[i].1.op == 13 <;> simp [e]
theorem callees_len (l : List (Sm × Nat)) : (callees l).length ≤ l.length := by
  unfold callees; rw [List.length_map]; exact List.length_filter_le _ _
theorem RoundS.map {It : Dat → List (List Dat) → Prop} {W ps : List Nat} {f : Dat} {asg body : St → (Out → St → Prop) → Prop} {K : Out → St → Prop} {s : St} {α ι : Type} (l : List α) (g : α → List Dat) (J : ι → Prop) (m : ι → Mods) (pos : ι → Nat) (i0 : ι)
    (hI : It f (l.map g)) (hl : ∀ x, (g x).length = ps.length) (hp : pos i0 = 0) (h0 : J i0) (hh : Holds s (s.with W (m i0)) (m i0)) (hd : deadH s W = true) (hr : deadR s (rowDsts W) = true)
    (ht : ∀ k, tidy W (rowDsts W) (m k) = true ∧ liveH s (m k).H = true ∧ liveR s (m k).R = true ∧ (m k).env = [])
    (hb : ∀ i, J i → ∀ h : pos i < l.length, asg ((s.with W (m i)).params ps (g l[pos i])) fun e s1 => match e with
        | .normal => body s1 fun e s' => match e with
          | .normal => ∃ j : { i // J i }, pos j.1 = pos i + 1 ∧ Holds s' (s.with W (m j.1)) (m j.1)
          | e => K e (s'.back (Hide W s.env))
        | _ => False)
    (he : ∀ i, J i → pos i = l.length → K .normal (s.with W (m i))) : RoundS It W ps f asg body K s := by
  refine ⟨l.map g, { i // J i }, ⟨i0, h0⟩, fun i => m i.1, fun i => pos i.1, hI, fun x hx => ?_, hp, hh, hd, hr, fun i => ⟨ht i.1, fun x hx => ?_, fun e => ?_⟩⟩
  · obtain ⟨y, _, rfl⟩ := List.mem_map.1 hx; exact hl y
  · rw [nth_eq, List.getElem?_map] at hx
    have hk : pos i.1 < l.length := by
      rcases Nat.lt_or_ge (pos i.1) l.length with h | h
      · exact h
      · rw [List.getElem?_eq_none h] at hx; cases hx
    rw [List.getElem?_eq_getElem hk] at hx
    have e : x = g l[pos i.1] := (Option.some.inj hx).symm
    rw [e]; exact hb i.1 i.2 hk
  · exact he i.1 i.2 (by simpa using e)
structure CR where
  k : Nat
  acc : List Dat
theorem shapeCalls_ok (d : Df) (h : szL d.body < 2^30) : CallsA Tryz.prog 20 [encD d] ct0 (ints (callsOf d.body)) ct0 := by
  have hI := all_iter d.body (by omega)
  have hlen := flL_len d.body 1
  refine fn_ok hm Tryz.func20 (fun f => Nat.beq f 51 || Nat.beq f 52) [] (fun _ => []) (by kernel_rfl) ?_
  refine run ?_; repeat ((apply call_ok; first | exact (all_ok d.body)); refine run ?_)
  refine RangeS.mk ⟨[.cell 3 0 20004], ?_⟩
  (conv => whnf)
  refine ⟨_, rfl, RoundS.map (flL d.body 1) encPl (fun r : CR => r.acc = (callees ((flL d.body 1).take r.k)).map it) (fun r => ⟨[], [(3, .ref 20004 r.acc.length)], [(20004, ⟨1, true, r.acc⟩)]⟩) (·.k) ⟨0, []⟩ hI (fun x => rfl) rfl rfl ?_ ?_ ?_ ?_ ?_ ?_⟩
  · repeat' (first | exact trivial | exact rfl | refine ⟨?_, ?_⟩ | refine ⟨?_, ?_, ?_⟩)
  · kernel_rfl
  · kernel_rfl
  · intro k; exact ⟨rfl, rfl, rfl, rfl⟩
  · intro r hJ hk
    have ht := callees_take hk
    have hc := callees_len ((flL d.body 1).take r.k)
    rw [List.length_take] at hc
    have hl : r.acc.length < 2^30 := by rw [hJ, List.length_map]; omega
    refine (Bool.eq_false_or_eq_true ((flL d.body 1)[r.k].1.op == 13)).elim (fun b1 => ?_) (fun b1 => ?_)
    · have hJ2 : r.acc ++ [it (flL d.body 1)[r.k].1.m] = (callees ((flL d.body 1).take (r.k + 1))).map it := by rw [ht, if_pos b1, hJ]; simp
      refine run ?_
      refine ⟨⟨⟨r.k + 1, _⟩, hJ2⟩, rfl, ?_⟩
      repeat' (first | exact trivial | exact rfl | refine ⟨?_, ?_⟩ | refine ⟨?_, ?_, ?_⟩)
    · have hJ2 : r.acc = (callees ((flL d.body 1).take (r.k + 1))).map it := by rw [ht, if_neg (by rw [b1]; simp), hJ]; simp
      refine run ?_
      refine ⟨⟨⟨r.k + 1, _⟩, hJ2⟩, rfl, ?_⟩
      repeat' (first | exact trivial | exact rfl | refine ⟨?_, ?_⟩ | refine ⟨?_, ?_, ?_⟩)
  · intro r hJ hk
    have hk : r.k = (flL d.body 1).length := hk
    rw [hk, List.take_of_length_le (Nat.le_refl _)] at hJ
    have hc := callees_len (flL d.body 1)
    have s1 : (callees (flL d.body 1)).length < 2^62 := by omega
    have s2 : ((callees (flL d.body 1)).mergeSort fun x y => decide (x ≤ y)).length < 2^62 := by rw [List.length_mergeSort]; exact s1
    rw [hJ]
    refine run ?_; repeat ((apply call_ok; first | exact (sort_ok _ s1) | exact (compact_ok _ s2)); refine run ?_)
    exact Done.mk rfl rfl
end Abs
namespace Abs
open Go Go.Proofs
set_option maxRecDepth 100000
set_option maxHeartbeats 4000000
theorem HeadS.of {W : List Nat} {body : St → (Out → St → Prop) → Prop} {K : Out → St → Prop} {s : St} {ι : Type} (J : ι → Prop) (m : ι → Mods) (μ : ι → Nat) (i0 : ι) (h0 : J i0) (hh : Holds s (s.with W (m i0)) (m i0))
    (hd : deadH s W = true) (hr : deadR s (rowDsts W) = true) (ht : ∀ i, tidy W (rowDsts W) (m i) = true ∧ liveH s (m i).H = true ∧ liveR s (m i).R = true)
    (hb : ∀ i, J i → body (s.with W (m i)) fun e s' => match e with
        | .normal => ∃ j : { i // J i }, μ j.1 < μ i ∧ s'.y = s.y ∧ Holds s' (s.with W (m j.1)) (m j.1)
        | e => K e s') : HeadS W body K s :=
  ⟨{ i // J i }, ⟨i0, h0⟩, fun i => m i.1, fun _ => s.y, fun i => μ i.1, ⟨rfl, hh⟩, hd, hr, fun i => ⟨ht i.1, hb i.1 i.2⟩⟩
theorem fm_take {α β : Type} {w : α → List β} {l : List α} {k : Nat} (h : k < l.length) : (l.take (k+1)).flatMap w = (l.take k).flatMap w ++ w l[k] := by
  rw [List.take_add_one, List.flatMap_append]; simp [h]
theorem fm_le1 {α β : Type} {w : α → List β} {l : List α} {k : Nat} (h : k < l.length) : ((l.take k).flatMap w).length + (w l[k]).length ≤ (l.flatMap w).length := by
  have e : l.flatMap w = (l.take (k+1)).flatMap w ++ (l.drop (k+1)).flatMap w := by rw [← List.flatMap_append, List.take_append_drop]
  rw [e, fm_take h]; simp
theorem fm_mem {α β : Type} {w : α → List β} {l : List α} {x : α} (h : x ∈ l) : (w x).length ≤ (l.flatMap w).length := by
  obtain ⟨k, hk, rfl⟩ := List.getElem_of_mem h
  have := fm_le1 (w := w) hk; omega
def wl {α : Type} (w : α → List Int) (l : List α) : List Int := (l.length : Int) :: l.flatMap w
theorem wl_len {α : Type} (w : α → List Int) (l : List α) : (wl w l).length = 1 + (l.flatMap w).length := by simp [wl]; omega
theorem one_ok (n : Int) : CallsA Tryz.prog 162 [it n] ct0 (ints [n]) ct0 := by
  refine fn_ok hm Tryz.func162 (fun _ => false) [] (fun _ => []) (by kernel_rfl) ?_
  refine run ?_
  exact Done.mk rfl rfl
def wR (r : Rng) : List Int := [r.lo, r.hi, r.mask]
def wA (r : Ar) : List Int := [r.len, r.of']
theorem span_ok (r : Rng) : CallsA Tryz.prog 159 [encR r] ct0 (ints (wR r)) ct0 := by
  refine fn_ok hm Tryz.func159 (fun _ => false) [] (fun _ => []) (by kernel_rfl) ?_
  refine run ?_
  exact Done.mk rfl rfl
theorem array_ok (r : Ar) : CallsA Tryz.prog 161 [encA r] ct0 (ints (wA r)) ct0 := by
  refine fn_ok hm Tryz.func161 (fun _ => false) [] (fun _ => []) (by kernel_rfl) ?_
  refine run ?_
  exact Done.mk rfl rfl
theorem letter_ok (b : UInt8) : CallsA Tryz.prog 156 [.int .u8 b.toNat] ct0 (ints [(b.toNat : Int)]) ct0 := by
  have hb := UInt8.toNat_lt b
  refine fn_ok hm Tryz.func156 (fun _ => false) [] (fun _ => []) (by kernel_rfl) ?_
  refine run ?_
  exact Done.mk rfl rfl
theorem list155_ok {l : List UInt8} (w : UInt8 → List Int) (f : FuncId) (hx : ∀ x ∈ l, CallsA Tryz.prog f [(fun b : UInt8 => Dat.int .u8 b.toNat) x] ct0 (ints (w x)) ct0) (hb : (wl w l).length < 2^31) (hl : l.length < 2^31) :
    CallsA Tryz.prog 155 [.sl 1 (l.map (fun b : UInt8 => Dat.int .u8 b.toNat)) false, fun0 f] ct0 (ints (wl w l)) ct0 := by
  rw [wl_len] at hb
  refine fn_ok hm Tryz.func155 (fun _ => false) [] (fun _ => []) (by kernel_rfl) ?_
  refine run ?_
  refine LoopS.mk ⟨[], HeadS.lp (fun r : CR => r.k ≤ l.length ∧ r.acc = it ((l.map (fun b : UInt8 => Dat.int .u8 b.toNat)).length : Nat) :: ((l.take r.k).flatMap w).map it) (fun r => ⟨[(13, it r.k), (5, .ref 10 r.acc.length)], [], [(10, ⟨1, true, r.acc⟩)]⟩) (fun r => l.length - r.k) ⟨0, [it ((l.map (fun b : UInt8 => Dat.int .u8 b.toNat)).length : Nat)]⟩ ⟨Nat.zero_le _, by simp⟩ ?_⟩
  intro r hJ
  obtain ⟨h1, h2⟩ := hJ
  by_cases hk : r.k < l.length
  · have b1 : decide ((r.k : Int) < ((l.map (fun b : UInt8 => Dat.int .u8 b.toNat)).length : Nat)) = true := by simp; exact hk
    have hc := hx l[r.k] (List.getElem_mem hk)
    have hle := fm_le1 (w := w) hk
    have hlen : r.acc.length = 1 + ((l.take r.k).flatMap w).length := by rw [h2]; simp; omega
    have hN : r.acc ++ (w l[r.k]).map it = it ((l.map (fun b : UInt8 => Dat.int .u8 b.toNat)).length : Nat) :: ((l.take (r.k + 1)).flatMap w).map it := by rw [h2, fm_take hk]; simp
    refine run ?_
    refine Idx.map hk rfl ?_
    refine run ?_; repeat ((apply call_ok; first | exact (hc)); refine run ?_)
    refine ⟨⟨⟨r.k + 1, _⟩, ⟨hk, hN⟩⟩, Nat.sub_lt_sub_left hk (Nat.lt_succ_self _), ?_⟩
    repeat' (first | exact trivial | exact rfl | refine ⟨?_, ?_⟩ | refine ⟨?_, ?_, ?_⟩)
  · have b1 : decide ((r.k : Int) < ((l.map (fun b : UInt8 => Dat.int .u8 b.toNat)).length : Nat)) = false := by simp; omega
    have e : r.acc = (wl w l).map it := by rw [h2, List.take_of_length_le (by omega)]; simp [wl]
    refine run ?_
    exact Done.mk (congrArg (fun x => Dat.sl 1 x false) e) rfl
theorem list158_ok {l : List Rng} (w : Rng → List Int) (f : FuncId) (hx : ∀ x ∈ l, CallsA Tryz.prog f [encR x] ct0 (ints (w x)) ct0) (hb : (wl w l).length < 2^31) (hl : l.length < 2^31) :
    CallsA Tryz.prog 158 [.sl 3 (l.map encR) false, fun0 f] ct0 (ints (wl w l)) ct0 := by
  rw [wl_len] at hb
  refine fn_ok hm Tryz.func158 (fun _ => false) [] (fun _ => []) (by kernel_rfl) ?_
  refine run ?_
  refine LoopS.mk ⟨[], HeadS.lp (fun r : CR => r.k ≤ l.length ∧ r.acc = it ((l.map encR).length : Nat) :: ((l.take r.k).flatMap w).map it) (fun r => ⟨[(13, it r.k), (5, .ref 10 r.acc.length)], [], [(10, ⟨1, true, r.acc⟩)]⟩) (fun r => l.length - r.k) ⟨0, [it ((l.map encR).length : Nat)]⟩ ⟨Nat.zero_le _, by simp⟩ ?_⟩
  intro r hJ
  obtain ⟨h1, h2⟩ := hJ
  by_cases hk : r.k < l.length
  · have b1 : decide ((r.k : Int) < ((l.map encR).length : Nat)) = true := by simp; exact hk
    have hc := hx l[r.k] (List.getElem_mem hk)
    have hle := fm_le1 (w := w) hk
    have hlen : r.acc.length = 1 + ((l.take r.k).flatMap w).length := by rw [h2]; simp; omega
    have hN : r.acc ++ (w l[r.k]).map it = it ((l.map encR).length : Nat) :: ((l.take (r.k + 1)).flatMap w).map it := by rw [h2, fm_take hk]; simp
    refine run ?_
    refine Idx.map hk rfl ?_
    refine run ?_; repeat ((apply call_ok; first | exact (hc)); refine run ?_)
    refine ⟨⟨⟨r.k + 1, _⟩, ⟨hk, hN⟩⟩, Nat.sub_lt_sub_left hk (Nat.lt_succ_self _), ?_⟩
    repeat' (first | exact trivial | exact rfl | refine ⟨?_, ?_⟩ | refine ⟨?_, ?_, ?_⟩)
  · have b1 : decide ((r.k : Int) < ((l.map encR).length : Nat)) = false := by simp; omega
    have e : r.acc = (wl w l).map it := by rw [h2, List.take_of_length_le (by omega)]; simp [wl]
    refine run ?_
    exact Done.mk (congrArg (fun x => Dat.sl 1 x false) e) rfl
theorem list160_ok {l : List Ar} (w : Ar → List Int) (f : FuncId) (hx : ∀ x ∈ l, CallsA Tryz.prog f [encA x] ct0 (ints (w x)) ct0) (hb : (wl w l).length < 2^31) (hl : l.length < 2^31) :
    CallsA Tryz.prog 160 [.sl 2 (l.map encA) false, fun0 f] ct0 (ints (wl w l)) ct0 := by
  rw [wl_len] at hb
  refine fn_ok hm Tryz.func160 (fun _ => false) [] (fun _ => []) (by kernel_rfl) ?_
  refine run ?_
  refine LoopS.mk ⟨[], HeadS.lp (fun r : CR => r.k ≤ l.length ∧ r.acc = it ((l.map encA).length : Nat) :: ((l.take r.k).flatMap w).map it) (fun r => ⟨[(13, it r.k), (5, .ref 10 r.acc.length)], [], [(10, ⟨1, true, r.acc⟩)]⟩) (fun r => l.length - r.k) ⟨0, [it ((l.map encA).length : Nat)]⟩ ⟨Nat.zero_le _, by simp⟩ ?_⟩
  intro r hJ
  obtain ⟨h1, h2⟩ := hJ
  by_cases hk : r.k < l.length
  · have b1 : decide ((r.k : Int) < ((l.map encA).length : Nat)) = true := by simp; exact hk
    have hc := hx l[r.k] (List.getElem_mem hk)
    have hle := fm_le1 (w := w) hk
    have hlen : r.acc.length = 1 + ((l.take r.k).flatMap w).length := by rw [h2]; simp; omega
    have hN : r.acc ++ (w l[r.k]).map it = it ((l.map encA).length : Nat) :: ((l.take (r.k + 1)).flatMap w).map it := by rw [h2, fm_take hk]; simp
    refine run ?_
    refine Idx.map hk rfl ?_
    refine run ?_; repeat ((apply call_ok; first | exact (hc)); refine run ?_)
    refine ⟨⟨⟨r.k + 1, _⟩, ⟨hk, hN⟩⟩, Nat.sub_lt_sub_left hk (Nat.lt_succ_self _), ?_⟩
    repeat' (first | exact trivial | exact rfl | refine ⟨?_, ?_⟩ | refine ⟨?_, ?_, ?_⟩)
  · have b1 : decide ((r.k : Int) < ((l.map encA).length : Nat)) = false := by simp; omega
    have e : r.acc = (wl w l).map it := by rw [h2, List.take_of_length_le (by omega)]; simp [wl]
    refine run ?_
    exact Done.mk (congrArg (fun x => Dat.sl 1 x false) e) rfl
theorem list191_ok {l : List Int} (w : Int → List Int) (f : FuncId) (hx : ∀ x ∈ l, CallsA Tryz.prog f [it x] ct0 (ints (w x)) ct0) (hb : (wl w l).length < 2^31) (hl : l.length < 2^31) :
    CallsA Tryz.prog 191 [.sl 1 (l.map it) false, fun0 f] ct0 (ints (wl w l)) ct0 := by
  rw [wl_len] at hb
  refine fn_ok hm Tryz.func191 (fun _ => false) [] (fun _ => []) (by kernel_rfl) ?_
  refine run ?_
  refine LoopS.mk ⟨[], HeadS.lp (fun r : CR => r.k ≤ l.length ∧ r.acc = it ((l.map it).length : Nat) :: ((l.take r.k).flatMap w).map it) (fun r => ⟨[(13, it r.k), (5, .ref 10 r.acc.length)], [], [(10, ⟨1, true, r.acc⟩)]⟩) (fun r => l.length - r.k) ⟨0, [it ((l.map it).length : Nat)]⟩ ⟨Nat.zero_le _, by simp⟩ ?_⟩
  intro r hJ
  obtain ⟨h1, h2⟩ := hJ
  by_cases hk : r.k < l.length
  · have b1 : decide ((r.k : Int) < ((l.map it).length : Nat)) = true := by simp; exact hk
    have hc := hx l[r.k] (List.getElem_mem hk)
    have hle := fm_le1 (w := w) hk
    have hlen : r.acc.length = 1 + ((l.take r.k).flatMap w).length := by rw [h2]; simp; omega
    have hN : r.acc ++ (w l[r.k]).map it = it ((l.map it).length : Nat) :: ((l.take (r.k + 1)).flatMap w).map it := by rw [h2, fm_take hk]; simp
    refine run ?_
    refine Idx.map hk rfl ?_
    refine run ?_; repeat ((apply call_ok; first | exact (hc)); refine run ?_)
    refine ⟨⟨⟨r.k + 1, _⟩, ⟨hk, hN⟩⟩, Nat.sub_lt_sub_left hk (Nat.lt_succ_self _), ?_⟩
    repeat' (first | exact trivial | exact rfl | refine ⟨?_, ?_⟩ | refine ⟨?_, ?_, ?_⟩)
  · have b1 : decide ((r.k : Int) < ((l.map it).length : Nat)) = false := by simp; omega
    have e : r.acc = (wl w l).map it := by rw [h2, List.take_of_length_le (by omega)]; simp [wl]
    refine run ?_
    exact Done.mk (congrArg (fun x => Dat.sl 1 x false) e) rfl
theorem list190_ok {l : List Ex} (w : Ex → List Int) (f : FuncId) (hx : ∀ x ∈ l, CallsA Tryz.prog f [encE x] ct0 (ints (w x)) ct0) (hb : (wl w l).length < 2^31) (hl : l.length < 2^31) :
    CallsA Tryz.prog 190 [.sl 4 (l.map encE) false, fun0 f] ct0 (ints (wl w l)) ct0 := by
  rw [wl_len] at hb
  refine fn_ok hm Tryz.func190 (fun _ => false) [] (fun _ => []) (by kernel_rfl) ?_
  refine run ?_
  refine LoopS.mk ⟨[], HeadS.lp (fun r : CR => r.k ≤ l.length ∧ r.acc = it ((l.map encE).length : Nat) :: ((l.take r.k).flatMap w).map it) (fun r => ⟨[(13, it r.k), (5, .ref 10 r.acc.length)], [], [(10, ⟨1, true, r.acc⟩)]⟩) (fun r => l.length - r.k) ⟨0, [it ((l.map encE).length : Nat)]⟩ ⟨Nat.zero_le _, by simp⟩ ?_⟩
  intro r hJ
  obtain ⟨h1, h2⟩ := hJ
  by_cases hk : r.k < l.length
  · have b1 : decide ((r.k : Int) < ((l.map encE).length : Nat)) = true := by simp; exact hk
    have hc := hx l[r.k] (List.getElem_mem hk)
    have hle := fm_le1 (w := w) hk
    have hlen : r.acc.length = 1 + ((l.take r.k).flatMap w).length := by rw [h2]; simp; omega
    have hN : r.acc ++ (w l[r.k]).map it = it ((l.map encE).length : Nat) :: ((l.take (r.k + 1)).flatMap w).map it := by rw [h2, fm_take hk]; simp
    refine run ?_
    refine Idx.map hk rfl ?_
    refine run ?_; repeat ((apply call_ok; first | exact (hc)); refine run ?_)
    refine ⟨⟨⟨r.k + 1, _⟩, ⟨hk, hN⟩⟩, Nat.sub_lt_sub_left hk (Nat.lt_succ_self _), ?_⟩
    repeat' (first | exact trivial | exact rfl | refine ⟨?_, ?_⟩ | refine ⟨?_, ?_, ?_⟩)
  · have b1 : decide ((r.k : Int) < ((l.map encE).length : Nat)) = false := by simp; omega
    have e : r.acc = (wl w l).map it := by rw [h2, List.take_of_length_le (by omega)]; simp [wl]
    refine run ?_
    exact Done.mk (congrArg (fun x => Dat.sl 1 x false) e) rfl
theorem list210_ok {l : List Co} (w : Co → List Int) (f : FuncId) (hx : ∀ x ∈ l, CallsA Tryz.prog f [encC x] ct0 (ints (w x)) ct0) (hb : (wl w l).length < 2^31) (hl : l.length < 2^31) :
    CallsA Tryz.prog 210 [.sl 3 (l.map encC) false, fun0 f] ct0 (ints (wl w l)) ct0 := by
  rw [wl_len] at hb
  refine fn_ok hm Tryz.func210 (fun _ => false) [] (fun _ => []) (by kernel_rfl) ?_
  refine run ?_
  refine LoopS.mk ⟨[], HeadS.lp (fun r : CR => r.k ≤ l.length ∧ r.acc = it ((l.map encC).length : Nat) :: ((l.take r.k).flatMap w).map it) (fun r => ⟨[(13, it r.k), (5, .ref 10 r.acc.length)], [], [(10, ⟨1, true, r.acc⟩)]⟩) (fun r => l.length - r.k) ⟨0, [it ((l.map encC).length : Nat)]⟩ ⟨Nat.zero_le _, by simp⟩ ?_⟩
  intro r hJ
  obtain ⟨h1, h2⟩ := hJ
  by_cases hk : r.k < l.length
  · have b1 : decide ((r.k : Int) < ((l.map encC).length : Nat)) = true := by simp; exact hk
    have hc := hx l[r.k] (List.getElem_mem hk)
    have hle := fm_le1 (w := w) hk
    have hlen : r.acc.length = 1 + ((l.take r.k).flatMap w).length := by rw [h2]; simp; omega
    have hN : r.acc ++ (w l[r.k]).map it = it ((l.map encC).length : Nat) :: ((l.take (r.k + 1)).flatMap w).map it := by rw [h2, fm_take hk]; simp
    refine run ?_
    refine Idx.map hk rfl ?_
    refine run ?_; repeat ((apply call_ok; first | exact (hc)); refine run ?_)
    refine ⟨⟨⟨r.k + 1, _⟩, ⟨hk, hN⟩⟩, Nat.sub_lt_sub_left hk (Nat.lt_succ_self _), ?_⟩
    repeat' (first | exact trivial | exact rfl | refine ⟨?_, ?_⟩ | refine ⟨?_, ?_, ?_⟩)
  · have b1 : decide ((r.k : Int) < ((l.map encC).length : Nat)) = false := by simp; omega
    have e : r.acc = (wl w l).map it := by rw [h2, List.take_of_length_le (by omega)]; simp [wl]
    refine run ?_
    exact Done.mk (congrArg (fun x => Dat.sl 1 x false) e) rfl
theorem list163_ok {l : List Sm} (w : Sm → List Int) (f : FuncId) (hx : ∀ x ∈ l, CallsA Tryz.prog f [encS x] ct0 (ints (w x)) ct0) (hb : (wl w l).length < 2^31) (hl : l.length < 2^31) :
    CallsA Tryz.prog 163 [.sl 20 (l.map encS) false, fun0 f] ct0 (ints (wl w l)) ct0 := by
  rw [wl_len] at hb
  refine fn_ok hm Tryz.func163 (fun _ => false) [] (fun _ => []) (by kernel_rfl) ?_
  refine run ?_
  refine LoopS.mk ⟨[], HeadS.lp (fun r : CR => r.k ≤ l.length ∧ r.acc = it ((l.map encS).length : Nat) :: ((l.take r.k).flatMap w).map it) (fun r => ⟨[(13, it r.k), (5, .ref 10 r.acc.length)], [], [(10, ⟨1, true, r.acc⟩)]⟩) (fun r => l.length - r.k) ⟨0, [it ((l.map encS).length : Nat)]⟩ ⟨Nat.zero_le _, by simp⟩ ?_⟩
  intro r hJ
  obtain ⟨h1, h2⟩ := hJ
  by_cases hk : r.k < l.length
  · have b1 : decide ((r.k : Int) < ((l.map encS).length : Nat)) = true := by simp; exact hk
    have hc := hx l[r.k] (List.getElem_mem hk)
    have hle := fm_le1 (w := w) hk
    have hlen : r.acc.length = 1 + ((l.take r.k).flatMap w).length := by rw [h2]; simp; omega
    have hN : r.acc ++ (w l[r.k]).map it = it ((l.map encS).length : Nat) :: ((l.take (r.k + 1)).flatMap w).map it := by rw [h2, fm_take hk]; simp
    refine run ?_
    refine Idx.map hk rfl ?_
    refine run ?_; repeat ((apply call_ok; first | exact (hc)); refine run ?_)
    refine ⟨⟨⟨r.k + 1, _⟩, ⟨hk, hN⟩⟩, Nat.sub_lt_sub_left hk (Nat.lt_succ_self _), ?_⟩
    repeat' (first | exact trivial | exact rfl | refine ⟨?_, ?_⟩ | refine ⟨?_, ?_, ?_⟩)
  · have b1 : decide ((r.k : Int) < ((l.map encS).length : Nat)) = false := by simp; omega
    have e : r.acc = (wl w l).map it := by rw [h2, List.take_of_length_le (by omega)]; simp [wl]
    refine run ?_
    exact Done.mk (congrArg (fun x => Dat.sl 1 x false) e) rfl
theorem concat_ok (ls : List (List Int)) (hb : ls.flatten.length < 2^31) (hl : ls.length < 2^31) : CallsA Tryz.prog 157 [.sl 1 (ls.map ints) false] ct0 (ints ls.flatten) ct0 := by
  refine fn_ok hm Tryz.func157 (fun _ => false) [] (fun _ => []) (by kernel_rfl) ?_
  refine run ?_
  refine LoopS.mk ⟨[.tmp 3 20003], HeadS.lp (fun r : CR => r.k ≤ ls.length ∧ r.acc = ((ls.take r.k).flatMap id).map it) (fun r => ⟨[(8, it r.k), (3, .ref 20003 r.acc.length)], [], [(20003, ⟨1, true, r.acc⟩)]⟩) (fun r => ls.length - r.k) ⟨0, []⟩ ⟨Nat.zero_le _, by simp⟩ ?_⟩
  intro r hJ
  obtain ⟨h1, h2⟩ := hJ
  have hf : ls.flatMap id = ls.flatten := by simp [List.flatMap]
  by_cases hk : r.k < ls.length
  · have b1 : decide ((r.k : Int) < ((ls.map ints).length : Nat)) = true := by simp; exact hk
    have hle := fm_le1 (w := id) hk
    rw [hf, id] at hle
    have hlen : r.acc.length = ((ls.take r.k).flatMap id).length := by rw [h2, List.length_map]
    have hN : r.acc ++ (ls[r.k]).map it = ((ls.take (r.k + 1)).flatMap id).map it := by rw [h2, fm_take hk]; simp
    refine run ?_
    refine Idx.map hk rfl ?_
    refine run ?_
    refine ⟨⟨⟨r.k + 1, _⟩, ⟨hk, hN⟩⟩, Nat.sub_lt_sub_left hk (Nat.lt_succ_self _), ?_⟩
    repeat' (first | exact trivial | exact rfl | refine ⟨?_, ?_⟩ | refine ⟨?_, ?_, ?_⟩)
  · have b1 : decide ((r.k : Int) < ((ls.map ints).length : Nat)) = false := by simp; omega
    have e : r.acc = ls.flatten.map it := by rw [h2, List.take_of_length_le (by omega), hf]
    refine run ?_
    exact Done.mk (congrArg (fun x => Dat.sl 1 x false) e) rfl
end Abs
namespace Abs
open Go Go.Proofs
set_option maxRecDepth 100000
set_option maxHeartbeats 4000000
def fnd {α : Type} (p : α → Bool) (z : α) : List α → α × Bool
  | [] => (z, false)
  | x :: l => if p x then (x, true) else fnd p z l
def ix {α : Type} (p : α → Bool) : List α → Nat → Int
  | [], _ => -1
  | x :: l, i => if p x then i else ix p l (i + 1)
theorem fnd_yes {α : Type} {p : α → Bool} {z : α} {l : List α} {k : Nat} (hk : k < l.length) (h : p l[k] = true) : fnd p z (l.drop k) = (l[k], true) := by
  rw [List.drop_eq_getElem_cons hk]; simp [fnd, h]
theorem fnd_no {α : Type} {p : α → Bool} {z : α} {l : List α} {k : Nat} (hk : k < l.length) (h : p l[k] = false) : fnd p z (l.drop k) = fnd p z (l.drop (k+1)) := by
  rw [List.drop_eq_getElem_cons hk]; simp [fnd, h]
theorem fnd_end {α : Type} {p : α → Bool} {z : α} {l : List α} {k : Nat} (hk : ¬ k < l.length) : fnd p z (l.drop k) = (z, false) := by
  rw [List.drop_eq_nil_of_le (by omega)]; rfl
theorem ix_yes {α : Type} {p : α → Bool} {l : List α} {k i : Nat} (hk : k < l.length) (h : p l[k] = true) : ix p (l.drop k) i = i := by
  rw [List.drop_eq_getElem_cons hk]; simp [ix, h]
theorem ix_no {α : Type} {p : α → Bool} {l : List α} {k i : Nat} (hk : k < l.length) (h : p l[k] = false) : ix p (l.drop k) i = ix p (l.drop (k+1)) (i+1) := by
  rw [List.drop_eq_getElem_cons hk]; simp [ix, h]
theorem ix_end {α : Type} {p : α → Bool} {l : List α} {k i : Nat} (hk : ¬ k < l.length) : ix p (l.drop k) i = -1 := by
  rw [List.drop_eq_nil_of_le (by omega)]; rfl
theorem ix_fnd {α : Type} {p : α → Bool} (z : α) : ∀ (l : List α) (i : Nat), (ix p l i = -1 ∧ fnd p z l = (z, false)) ∨ ∃ j, ∃ h : j < l.length, ix p l i = ((i + j : Nat) : Int) ∧ fnd p z l = (l[j], true)
  | [], i => .inl ⟨rfl, rfl⟩
  | x :: l, i => by
    simp only [ix, fnd]
    cases hx : p x with
    | true => exact .inr ⟨0, by simp, by simp, by simp⟩
    | false =>
      rcases ix_fnd z l (i + 1) with ⟨h1, h2⟩ | ⟨j, hj, h1, h2⟩
      · exact .inl ⟨by simpa using h1, by simpa using h2⟩
      · exact .inr ⟨j + 1, by simp; exact hj, by simp [h1]; omega, by simpa using h2⟩
def zDf : Df := ⟨0, 0, [], 0, 0, [], [], 0, 0, [], 0, []⟩
def zHd : Hd := ⟨0, 0, 0, [], []⟩
def zSy : Sy := ⟨0, 0, 0, 0, 0, 0, 0, 0, 0, [], 0⟩
theorem shapeFind_ok (p : Pg) (n : Int) (hl : p.defs.length < 2^40) : CallsA Tryz.prog 60 [encP p, it n] ct0 ((fun x : Df × Bool => Dat.tup [encD x.1, bo x.2]) (fnd (fun x => x.id == n) zDf p.defs)) ct0 := by
  refine fn_ok hm Tryz.func60 (fun _ => false) [] (fun _ => []) (by kernel_rfl) ?_
  refine run ?_
  refine LoopS.mk ⟨[], HeadS.lp (fun k : Nat => k ≤ p.defs.length ∧ fnd (fun x => x.id == n) zDf p.defs = fnd (fun x => x.id == n) zDf (p.defs.drop k)) (fun k => ⟨[(11, it k)], [], []⟩) (fun k => p.defs.length - k) 0 ⟨Nat.zero_le _, by simp⟩ ?_⟩
  intro k hJ
  have h1 := hJ.1
  have h2 := hJ.2
  by_cases hk : k < p.defs.length
  · have b1 : decide ((k : Int) < ((p.defs.map encD).length : Nat)) = true := by simp; exact hk
    refine (Bool.eq_false_or_eq_true (p.defs[k].id == n)).elim (fun b2 => ?_) (fun b2 => ?_)
    · have e := h2.trans (fnd_yes hk b2)
      refine run ?_
      refine Idx.map hk rfl ?_
      refine run ?_
      exact Done.mk (congrArg (fun x : Df × Bool => Dat.tup [encD x.1, bo x.2]) e.symm) rfl
    · have e := h2.trans (fnd_no hk b2)
      refine run ?_
      refine Idx.map hk rfl ?_
      refine run ?_
      refine ⟨⟨k + 1, ⟨hk, e⟩⟩, Nat.sub_lt_sub_left hk (Nat.lt_succ_self _), ?_⟩
      repeat' (first | exact trivial | exact rfl | refine ⟨?_, ?_⟩ | refine ⟨?_, ?_, ?_⟩)
  · have b1 : decide ((k : Int) < ((p.defs.map encD).length : Nat)) = false := by simp; omega
    have e := h2.trans (fnd_end hk)
    refine run ?_
    exact Done.mk (congrArg (fun x : Df × Bool => Dat.tup [encD x.1, bo x.2]) e.symm) rfl
theorem shapeHeadOf_ok (p : Pg) (n : Int) (hl : p.heads.length < 2^40) : CallsA Tryz.prog 103 [encP p, it n] ct0 ((fun x : Hd × Bool => Dat.tup [encH x.1, bo x.2]) (fnd (fun x => x.id == n) zHd p.heads)) ct0 := by
  refine fn_ok hm Tryz.func103 (fun _ => false) [] (fun _ => []) (by kernel_rfl) ?_
  refine run ?_
  refine LoopS.mk ⟨[], HeadS.lp (fun k : Nat => k ≤ p.heads.length ∧ fnd (fun x => x.id == n) zHd p.heads = fnd (fun x => x.id == n) zHd (p.heads.drop k)) (fun k => ⟨[(11, it k)], [], []⟩) (fun k => p.heads.length - k) 0 ⟨Nat.zero_le _, by simp⟩ ?_⟩
  intro k hJ
  have h1 := hJ.1
  have h2 := hJ.2
  by_cases hk : k < p.heads.length
  · have b1 : decide ((k : Int) < ((p.heads.map encH).length : Nat)) = true := by simp; exact hk
    refine (Bool.eq_false_or_eq_true (p.heads[k].id == n)).elim (fun b2 => ?_) (fun b2 => ?_)
    · have e := h2.trans (fnd_yes hk b2)
      refine run ?_
      refine Idx.map hk rfl ?_
      refine run ?_
      exact Done.mk (congrArg (fun x : Hd × Bool => Dat.tup [encH x.1, bo x.2]) e.symm) rfl
    · have e := h2.trans (fnd_no hk b2)
      refine run ?_
      refine Idx.map hk rfl ?_
      refine run ?_
      refine ⟨⟨k + 1, ⟨hk, e⟩⟩, Nat.sub_lt_sub_left hk (Nat.lt_succ_self _), ?_⟩
      repeat' (first | exact trivial | exact rfl | refine ⟨?_, ?_⟩ | refine ⟨?_, ?_, ?_⟩)
  · have b1 : decide ((k : Int) < ((p.heads.map encH).length : Nat)) = false := by simp; omega
    have e := h2.trans (fnd_end hk)
    refine run ?_
    exact Done.mk (congrArg (fun x : Hd × Bool => Dat.tup [encH x.1, bo x.2]) e.symm) rfl
theorem refFindIn_ok (p : Pg) (n : Int) (hl : p.defs.length < 2^40) : CallsA Tryz.prog 32 [encP p, it n] ct0 ((fun x : Df × Bool => Dat.agg (cD x.1 ++ [bo x.2])) (fnd (fun x => x.id == n) zDf p.defs)) ct0 := by
  refine fn_ok hm Tryz.func32 (fun _ => false) [] (fun _ => []) (by kernel_rfl) ?_
  refine run ?_
  refine LoopS.mk ⟨[], HeadS.lp (fun k : Nat => k ≤ p.defs.length ∧ fnd (fun x => x.id == n) zDf p.defs = fnd (fun x => x.id == n) zDf (p.defs.drop k)) (fun k => ⟨[(5, it k)], [], []⟩) (fun k => p.defs.length - k) 0 ⟨Nat.zero_le _, by simp⟩ ?_⟩
  intro k hJ
  have h1 := hJ.1
  have h2 := hJ.2
  by_cases hk : k < p.defs.length
  · have b1 : decide ((k : Int) < ((p.defs.map encD).length : Nat)) = true := by simp; exact hk
    refine (Bool.eq_false_or_eq_true (p.defs[k].id == n)).elim (fun b2 => ?_) (fun b2 => ?_)
    · have e := h2.trans (fnd_yes hk b2)
      refine run ?_
      refine Idx.map hk rfl ?_
      refine run ?_
      refine Idx.map hk rfl ?_
      refine run ?_
      exact Done.mk (congrArg (fun x : Df × Bool => Dat.agg (cD x.1 ++ [bo x.2])) e.symm) rfl
    · have e := h2.trans (fnd_no hk b2)
      refine run ?_
      refine Idx.map hk rfl ?_
      refine run ?_
      refine ⟨⟨k + 1, ⟨hk, e⟩⟩, Nat.sub_lt_sub_left hk (Nat.lt_succ_self _), ?_⟩
      repeat' (first | exact trivial | exact rfl | refine ⟨?_, ?_⟩ | refine ⟨?_, ?_, ?_⟩)
  · have b1 : decide ((k : Int) < ((p.defs.map encD).length : Nat)) = false := by simp; omega
    have e := h2.trans (fnd_end hk)
    refine run ?_
    exact Done.mk (congrArg (fun x : Df × Bool => Dat.agg (cD x.1 ++ [bo x.2])) e.symm) rfl
theorem refHas_ok (l : List Int) (n : Int) (hl : l.length < 2^40) : CallsA Tryz.prog 21 [ints l, it n] ct0 ((fun x : Int × Bool => bo x.2) (fnd (fun x => x == n) 0 l)) ct0 := by
  refine fn_ok hm Tryz.func21 (fun _ => false) [] (fun _ => []) (by kernel_rfl) ?_
  refine run ?_
  refine LoopS.mk ⟨[], HeadS.lp (fun k : Nat => k ≤ l.length ∧ fnd (fun x => x == n) 0 l = fnd (fun x => x == n) 0 (l.drop k)) (fun k => ⟨[(5, it k)], [], []⟩) (fun k => l.length - k) 0 ⟨Nat.zero_le _, by simp⟩ ?_⟩
  intro k hJ
  have h1 := hJ.1
  have h2 := hJ.2
  by_cases hk : k < l.length
  · have b1 : decide ((k : Int) < ((l.map it).length : Nat)) = true := by simp; exact hk
    refine (Bool.eq_false_or_eq_true (l[k] == n)).elim (fun b2 => ?_) (fun b2 => ?_)
    · have e := h2.trans (fnd_yes hk b2)
      refine run ?_
      refine Idx.map hk rfl ?_
      refine run ?_
      exact Done.mk (congrArg (fun x : Int × Bool => bo x.2) e.symm) rfl
    · have e := h2.trans (fnd_no hk b2)
      refine run ?_
      refine Idx.map hk rfl ?_
      refine run ?_
      refine ⟨⟨k + 1, ⟨hk, e⟩⟩, Nat.sub_lt_sub_left hk (Nat.lt_succ_self _), ?_⟩
      repeat' (first | exact trivial | exact rfl | refine ⟨?_, ?_⟩ | refine ⟨?_, ?_, ?_⟩)
  · have b1 : decide ((k : Int) < ((l.map it).length : Nat)) = false := by simp; omega
    have e := h2.trans (fnd_end hk)
    refine run ?_
    exact Done.mk (congrArg (fun x : Int × Bool => bo x.2) e.symm) rfl
theorem libIndex_ok (l : List Int) (n : Int) (hl : l.length < 2^40) : CallsA Tryz.prog 121 [ints l, it n] ct0 (it (ix (fun x => n == x) l 0)) ct0 := by
  refine fn_ok hm Tryz.func121 (fun _ => false) [] (fun _ => []) (by kernel_rfl) ?_
  refine run ?_
  refine LoopS.mk ⟨[], HeadS.lp (fun k : Nat => k ≤ l.length ∧ ix (fun x => n == x) l 0 = ix (fun x => n == x) (l.drop k) k) (fun k => ⟨[(8, it k)], [], []⟩) (fun k => l.length - k) 0 ⟨Nat.zero_le _, by simp⟩ ?_⟩
  intro k hJ
  have h1 := hJ.1
  have h2 := hJ.2
  by_cases hk : k < l.length
  · have b1 : decide ((k : Int) < ((l.map it).length : Nat)) = true := by simp; exact hk
    refine (Bool.eq_false_or_eq_true (n == l[k])).elim (fun b2 => ?_) (fun b2 => ?_)
    · have e := h2.trans (ix_yes hk b2)
      refine run ?_
      refine Idx.map hk rfl ?_
      refine run ?_
      exact Done.mk (congrArg it e.symm) rfl
    · have e := h2.trans (ix_no hk b2)
      refine run ?_
      refine Idx.map hk rfl ?_
      refine run ?_
      refine ⟨⟨k + 1, ⟨hk, e⟩⟩, Nat.sub_lt_sub_left hk (Nat.lt_succ_self _), ?_⟩
      repeat' (first | exact trivial | exact rfl | refine ⟨?_, ?_⟩ | refine ⟨?_, ?_, ?_⟩)
  · have b1 : decide ((k : Int) < ((l.map it).length : Nat)) = false := by simp; omega
    have e := h2.trans (ix_end hk)
    refine run ?_
    exact Done.mk (congrArg it e.symm) rfl
theorem libContains_ok (l : List Int) (n : Int) (hl : l.length < 2^40) : CallsA Tryz.prog 78 [ints l, it n] ct0 (bo (fnd (fun x => x == n) 0 l).2) ct0 := by
  have hi := libIndex_ok l n hl
  have e : decide (ix (fun x => n == x) l 0 ≥ 0) = (fnd (fun x => x == n) 0 l).2 := by
    have hp : (fun x : Int => n == x) = fun x => x == n := by funext x; exact Bool.beq_comm
    rw [hp]
    rcases ix_fnd (p := fun x => x == n) 0 l 0 with ⟨a, b⟩ | ⟨j, hj, a, b⟩
    · rw [a, b]; rfl
    · rw [a, b]; simp
  rw [← e]
  refine fn_ok hm Tryz.func78 (fun _ => false) [] (fun _ => []) (by kernel_rfl) ?_
  refine run ?_; repeat ((apply call_ok; first | exact (hi)); refine run ?_)
  exact Done.mk rfl rfl
theorem sumFind1_ok (s : Sy) (n : Int) : CallsA Tryz.prog 119 [encSy s, .ptr 1000 0] ⟨[it n], []⟩ (bo (s.id == n)) ⟨[it n], []⟩ := by
  refine fn_ok hm Tryz.func119 (fun _ => false) [] (fun _ => []) (by kernel_rfl) ?_
  refine run ?_
  exact Done.mk rfl rfl
theorem sumIndex_ok (l : List Sy) (n : Int) (hl : l.length < 2^40) : CallsA Tryz.prog 118 [lst 11 encSy l, .clo (.func 119) [] [.ptr 1000 0]] ⟨[it n], []⟩ (it (ix (fun x => x.id == n) l 0)) ⟨[it n], []⟩ := by
  refine fn_ok hm Tryz.func118 (fun _ => false) [] (fun _ => []) (by kernel_rfl) ?_
  refine run ?_
  refine LoopS.mk ⟨[], HeadS.lp (fun k : Nat => k ≤ l.length ∧ ix (fun x => x.id == n) l 0 = ix (fun x => x.id == n) (l.drop k) k) (fun k => ⟨[(8, it k)], [], []⟩) (fun k => l.length - k) 0 ⟨Nat.zero_le _, by simp⟩ ?_⟩
  intro k hJ
  have h1 := hJ.1
  have h2 := hJ.2
  by_cases hk : k < l.length
  · have b1 : decide ((k : Int) < ((l.map encSy).length : Nat)) = true := by simp; exact hk
    have hc := sumFind1_ok l[k] n
    refine (Bool.eq_false_or_eq_true (l[k].id == n)).elim (fun b2 => ?_) (fun b2 => ?_)
    · have e := h2.trans (ix_yes hk b2)
      refine run ?_
      refine Idx.map hk rfl ?_
      refine run ?_; repeat ((apply call_ok; first | exact (hc)); refine run ?_)
      exact Done.mk (congrArg it e.symm) rfl
    · have e := h2.trans (ix_no hk b2)
      refine run ?_
      refine Idx.map hk rfl ?_
      refine run ?_; repeat ((apply call_ok; first | exact (hc)); refine run ?_)
      refine ⟨⟨k + 1, ⟨hk, e⟩⟩, Nat.sub_lt_sub_left hk (Nat.lt_succ_self _), ?_⟩
      repeat' (first | exact trivial | exact rfl | refine ⟨?_, ?_⟩ | refine ⟨?_, ?_, ?_⟩)
  · have b1 : decide ((k : Int) < ((l.map encSy).length : Nat)) = false := by simp; omega
    have e := h2.trans (ix_end hk)
    refine run ?_
    exact Done.mk (congrArg it e.symm) rfl
theorem sumFind_ok (l : List Sy) (n : Int) (hl : l.length < 2^40) : CallsA Tryz.prog 76 [lst 11 encSy l, it n] ct0 ((fun x : Sy × Bool => Dat.tup [encSy x.1, bo x.2]) (fnd (fun x => x.id == n) zSy l)) ct0 := by
  have hi := sumIndex_ok l n hl
  rcases ix_fnd (p := fun x : Sy => x.id == n) zSy l 0 with ⟨a, b⟩ | ⟨j, hj, a, b⟩
  · rw [a] at hi
    rw [b]
    refine fn_ok hm Tryz.func76 (fun _ => false) [] (fun _ => []) (by kernel_rfl) ?_
    refine run ?_; repeat ((apply call_ok; first | exact (hi)); refine run ?_)
    exact Done.mk rfl rfl
  · rw [a, Nat.zero_add] at hi
    rw [b]
    have b1 : decide ((j : Int) < 0) = false := by simp
    refine fn_ok hm Tryz.func76 (fun _ => false) [] (fun _ => []) (by kernel_rfl) ?_
    refine run ?_; repeat ((apply call_ok; first | exact (hi)); refine run ?_)
    refine Idx.map hj rfl ?_
    refine run ?_
    exact Done.mk rfl rfl
end Abs
namespace Abs
open Go Go.Proofs
set_option maxRecDepth 100000
set_option maxHeartbeats 4000000
def mHas (es : Mp Bool) (x : Int) : Bool := (mLook x es).getD false
abbrev mapR (es : Mp Bool) : Row := ⟨0, true, es.map (slotD bo)⟩
theorem mapIndex_ok (l : List Int) (es : Mp Bool) (hl : l.length < 2^40) : CallsA Tryz.prog 148 [ints l, .clo (.func 107) [] [.ptr 1000 0]] ⟨[.mref 1000], [mapR es]⟩ (it (ix (mHas es) l 0)) ⟨[.mref 1000], [mapR es]⟩ := by
  refine fn_ok hm Tryz.func148 (fun _ => false) [] (fun _ => []) (by kernel_rfl) ?_
  refine run ?_
  refine LoopS.mk ⟨[], HeadS.lp (fun k : Nat => k ≤ l.length ∧ ix (mHas es) l 0 = ix (mHas es) (l.drop k) k) (fun k => ⟨[(8, it k)], [], []⟩) (fun k => l.length - k) 0 ⟨Nat.zero_le _, by simp⟩ ?_⟩
  intro k hJ
  have h1 := hJ.1
  have h2 := hJ.2
  by_cases hk : k < l.length
  · have b1 : decide ((k : Int) < ((l.map it).length : Nat)) = true := by simp; exact hk
    have hc := mapHas_ok es l[k]
    refine (Bool.eq_false_or_eq_true (mHas es l[k])).elim (fun b2 => ?_) (fun b2 => ?_)
    · have e := h2.trans (ix_yes hk b2)
      have b3 : (mLook l[k] es).getD false = true := b2
      refine run ?_
      refine Idx.map hk rfl ?_
      refine run ?_; repeat ((apply call_ok; first | exact (hc)); refine run ?_)
      exact Done.mk (congrArg it e.symm) rfl
    · have e := h2.trans (ix_no hk b2)
      have b3 : (mLook l[k] es).getD false = false := b2
      refine run ?_
      refine Idx.map hk rfl ?_
      refine run ?_; repeat ((apply call_ok; first | exact (hc)); refine run ?_)
      refine ⟨⟨k + 1, ⟨hk, e⟩⟩, Nat.sub_lt_sub_left hk (Nat.lt_succ_self _), ?_⟩
      repeat' (first | exact trivial | exact rfl | refine ⟨?_, ?_⟩ | refine ⟨?_, ?_, ?_⟩)
  · have b1 : decide ((k : Int) < ((l.map it).length : Nat)) = false := by simp; omega
    have e : ix (mHas es) l 0 = -1 := by rw [h2, List.drop_eq_nil_of_le (by omega)]; rfl
    refine run ?_
    exact Done.mk (congrArg it e.symm) rfl
theorem mapAny_ok (l : List Int) (es : Mp Bool) (hl : l.length < 2^40) : CallsA Tryz.prog 106 [ints l, .clo (.func 107) [] [.ptr 1000 0]] ⟨[.mref 1000], [mapR es]⟩ (bo (decide (ix (mHas es) l 0 ≥ 0))) ⟨[.mref 1000], [mapR es]⟩ := by
  have hc := mapIndex_ok l es hl
  refine fn_ok hm Tryz.func106 (fun _ => false) [] (fun _ => []) (by kernel_rfl) ?_
  refine run ?_; repeat ((apply call_ok; first | exact (hc)); refine run ?_)
  exact Done.mk rfl rfl
theorem ready_ok (d : Df) (es : Mp Bool) (h : szL d.body < 2^30) (hl : (callsOf d.body).length < 2^40) : CallsA Tryz.prog 105 [encD d, .ptr 1000 0] ⟨[.mref 1000], [mapR es]⟩ (bo (mHas es d.id && !decide (ix (mHas es) (callsOf d.body) 0 ≥ 0))) ⟨[.mref 1000], [mapR es]⟩ := by
  have c1 := shapeCalls_ok d h
  have c2 := mapAny_ok (callsOf d.body) es hl
  cases hq : mLook d.id es with
  | none =>
    have e : mHas es d.id = false := by unfold mHas; rw [hq]; rfl
    rw [e]
    refine fn_ok hm Tryz.func105 (fun _ => false) [] (fun _ => []) (by kernel_rfl) ?_
    refine run ?_; repeat ((apply call_ok; first | exact (c1) | exact (c2)); refine run ?_)
    refine MFind.no hq ?_
    refine run ?_; repeat ((apply call_ok; first | exact (c1) | exact (c2)); refine run ?_)
    exact Done.mk rfl rfl
  | some b =>
    have e : mHas es d.id = b := by unfold mHas; rw [hq]; rfl
    rw [e]
    obtain ⟨i, h1, h2⟩ := look_at bo hq
    cases b with
    | false =>
      refine fn_ok hm Tryz.func105 (fun _ => false) [] (fun _ => []) (by kernel_rfl) ?_
      refine run ?_; repeat ((apply call_ok; first | exact (c1) | exact (c2)); refine run ?_)
      refine MFind.yes h1 ?_
      refine run ?_
      refine MVal.mk ⟨_, _, h2, ?_⟩
      refine run ?_; repeat ((apply call_ok; first | exact (c1) | exact (c2)); refine run ?_)
      exact Done.mk rfl rfl
    | true =>
      refine fn_ok hm Tryz.func105 (fun _ => false) [] (fun _ => []) (by kernel_rfl) ?_
      refine run ?_; repeat ((apply call_ok; first | exact (c1) | exact (c2)); refine run ?_)
      refine MFind.yes h1 ?_
      refine run ?_
      refine MVal.mk ⟨_, _, h2, ?_⟩
      refine run ?_; repeat ((apply call_ok; first | exact (c1) | exact (c2)); refine run ?_)
      exact Done.mk rfl rfl
end Abs
namespace Abs
open Go Go.Proofs
set_option maxRecDepth 100000
set_option maxHeartbeats 4000000
def rdy (es : Mp Bool) (d : Df) : Bool := mHas es d.id && !decide (ix (mHas es) (callsOf d.body) 0 ≥ 0)
def DSm (d : Df) : Prop := szL d.body < 2^30 ∧ (callsOf d.body).length < 2^40
theorem readyIndex_ok (l : List Df) (es : Mp Bool) (hok : ∀ d ∈ l, DSm d) (hl : l.length < 2^40) : CallsA Tryz.prog 108 [lst 12 encD l, .clo (.func 105) [] [.ptr 1000 0]] ⟨[.mref 1000], [mapR es]⟩ (it (ix (rdy es) l 0)) ⟨[.mref 1000], [mapR es]⟩ := by
  refine fn_ok hm Tryz.func108 (fun _ => false) [] (fun _ => []) (by kernel_rfl) ?_
  refine run ?_
  refine LoopS.mk ⟨[], HeadS.lp (fun k : Nat => k ≤ l.length ∧ ix (rdy es) l 0 = ix (rdy es) (l.drop k) k) (fun k => ⟨[(8, it k)], [], []⟩) (fun k => l.length - k) 0 ⟨Nat.zero_le _, by simp⟩ ?_⟩
  intro k hJ
  have h1 := hJ.1
  have h2 := hJ.2
  by_cases hk : k < l.length
  · have b1 : decide ((k : Int) < ((l.map encD).length : Nat)) = true := by simp; exact hk
    have hd := hok _ (List.getElem_mem hk)
    have hc := ready_ok l[k] es hd.1 hd.2
    refine (Bool.eq_false_or_eq_true (rdy es l[k])).elim (fun b2 => ?_) (fun b2 => ?_)
    · have e := h2.trans (ix_yes hk b2)
      have hc : CallsA Tryz.prog 105 [encD l[k], .ptr 1000 0] ⟨[.mref 1000], [mapR es]⟩ (bo true) ⟨[.mref 1000], [mapR es]⟩ := by rw [← b2]; exact hc
      refine run ?_
      refine Idx.map hk rfl ?_
      refine run ?_; repeat ((apply call_ok; first | exact (hc)); refine run ?_)
      exact Done.mk (congrArg it e.symm) rfl
    · have e := h2.trans (ix_no hk b2)
      have hc : CallsA Tryz.prog 105 [encD l[k], .ptr 1000 0] ⟨[.mref 1000], [mapR es]⟩ (bo false) ⟨[.mref 1000], [mapR es]⟩ := by rw [← b2]; exact hc
      refine run ?_
      refine Idx.map hk rfl ?_
      refine run ?_; repeat ((apply call_ok; first | exact (hc)); refine run ?_)
      refine ⟨⟨k + 1, ⟨hk, e⟩⟩, Nat.sub_lt_sub_left hk (Nat.lt_succ_self _), ?_⟩
      repeat' (first | exact trivial | exact rfl | refine ⟨?_, ?_⟩ | refine ⟨?_, ?_, ?_⟩)
  · have b1 : decide ((k : Int) < ((l.map encD).length : Nat)) = false := by simp; omega
    have e := h2.trans (ix_end hk)
    refine run ?_
    exact Done.mk (congrArg it e.symm) rfl
end Abs
namespace Abs
open Go Go.Proofs
set_option maxRecDepth 100000
set_option maxHeartbeats 4000000
theorem mAt_em (o : Option Nat) : o = none ∨ ∃ i, o = some i := by cases o; exact .inl rfl; exact .inr ⟨_, rfl⟩
def putAll (l : List Df) (es : Mp Bool) : Mp Bool := l.foldl (fun es d => mPut d.id true es) es
def live : Mp Bool → Nat
  | [] => 0
  | some _ :: r => live r + 1
  | none :: r => live r
theorem live_app : ∀ l r : Mp Bool, live (l ++ r) = live l + live r
  | [], r => by simp [live]
  | some _ :: l, r => by simp only [List.cons_append, live, live_app l r]; omega
  | none :: l, r => by simp only [List.cons_append, live, live_app l r]
theorem live_put (n : Int) (v : Bool) (es : Mp Bool) : live (mPut n v es) ≤ live es + 1 := by
  unfold mPut
  cases h : mAt n es 0 with
  | none => simp [live_app, live]
  | some i =>
    obtain ⟨l, w, r, h1, h2, h3, h4⟩ := mAt_some h
    have : es.set i (some (n, v)) = l ++ some (n, v) :: r := by rw [h1, h2]; simp
    dsimp only
    rw [this, h1, live_app, live_app]; simp [live]
theorem live_putAll : ∀ (l : List Df) (es : Mp Bool), live (putAll l es) ≤ live es + l.length
  | [], es => Nat.le_refl _
  | d :: l, es => by
    have h1 := live_putAll l (mPut d.id true es)
    have h2 := live_put d.id true es
    show live (putAll l (mPut d.id true es)) ≤ _
    simp only [List.length_cons]; omega
theorem live_del {n : Int} {es : Mp Bool} {i : Nat} (h : mAt n es 0 = some i) : live (mDel n es) + 1 = live es := by
  unfold mDel
  rw [h]
  obtain ⟨l, w, r, h1, h2, h3, h4⟩ := mAt_some h
  have : es.set i none = l ++ none :: r := by rw [h1, h2]; simp
  dsimp only
  rw [this, h1, live_app, live_app]; simp only [live]; omega
theorem ix_cases {α : Type} {p : α → Bool} : ∀ (l : List α) (i : Nat), ix p l i = -1 ∨ ∃ k, ∃ h : k < l.length, ix p l i = ((i + k : Nat) : Int) ∧ p l[k] = true
  | [], i => .inl rfl
  | x :: l, i => by
    unfold ix
    cases e : p x with
    | true => exact .inr ⟨0, by simp, by simp, e⟩
    | false =>
      rcases ix_cases (p := p) l (i + 1) with h | ⟨k, hk, h1, h2⟩
      · exact .inl (by simpa using h)
      · exact .inr ⟨k + 1, by simp; omega, by simp only [Bool.false_eq_true, if_false]; rw [h1]; congr 1; omega, by simpa using h2⟩
theorem rdy_at {es : Mp Bool} {d : Df} (h : rdy es d = true) : ∃ i, mAt d.id es 0 = some i := by
  unfold rdy mHas at h
  rw [Bool.and_eq_true] at h
  cases hq : mLook d.id es with
  | none => rw [hq] at h; cases h.1
  | some b => obtain ⟨i, h1, _⟩ := look_at bo hq; exact ⟨i, h1⟩
def ordG (l : List Df) : Nat → Mp Bool → List Int → List Int
  | 0, _, acc => acc
  | n + 1, es, acc => if ix (rdy es) l 0 < 0 then acc else match l[(ix (rdy es) l 0).toNat]? with
    | some d => ordG l n (mDel d.id es) (acc ++ [d.id])
    | none => acc
def orderP (p : Pg) : List Int := ordG p.defs (live (putAll p.defs []) + 1) (putAll p.defs []) []
theorem ordG_end {l : List Df} {n : Nat} {es : Mp Bool} {acc : List Int} (h : ix (rdy es) l 0 = -1) : ordG l (n + 1) es acc = acc := by
  simp only [ordG, h]; rfl
theorem ordG_step {l : List Df} {n k : Nat} {es : Mp Bool} {acc : List Int} (hk : k < l.length) (h : ix (rdy es) l 0 = (k : Nat)) : ordG l (n + 1) es acc = ordG l n (mDel l[k].id es) (acc ++ [l[k].id]) := by
  simp only [ordG, h]
  rw [if_neg (by omega)]
  simp [List.getElem?_eq_getElem hk]
theorem order_ok (p : Pg) (hl : p.defs.length < 2^30) (hok : ∀ d ∈ p.defs, DSm d) : CallsA Tryz.prog 61 [encP p] ct0 (ints (orderP p)) ct0 := by
  refine fn_ok hm Tryz.func61 (fun _ => false) [] (fun _ => []) (by kernel_rfl) ?_
  refine run ?_
  refine LoopS.mk ⟨[], HeadS.lp (fun r : Nat × Mp Bool => r.1 ≤ p.defs.length ∧ r.2 = putAll (p.defs.take r.1) []) (fun r => ⟨[(13, it r.1)], [], [(9, mapR r.2)]⟩) (fun r => p.defs.length - r.1) (0, []) ⟨Nat.zero_le _, rfl⟩ ?_⟩
  intro r hJ
  have h1 := hJ.1
  have h2 := hJ.2
  by_cases hk : r.1 < p.defs.length
  · have b1 : decide ((r.1 : Int) < ((p.defs.map encD).length : Nat)) = true := by simp; exact hk
    have e2 : mPut p.defs[r.1].id true r.2 = putAll (p.defs.take (r.1 + 1)) [] := by
      rw [h2]; unfold putAll; rw [List.take_succ_eq_append_getElem hk, List.foldl_append]; rfl
    have em := mPut_map bo p.defs[r.1].id true r.2
    refine (mAt_em (mAt p.defs[r.1].id r.2 0)).elim (fun hq => ?_) (fun hq => hq.elim fun i hq => ?_)
    · have e3 := em.trans (by rw [hq])
      refine run ?_
      refine Idx.map hk rfl ?_
      refine run ?_
      refine MFind.mk ⟨none, (mfind_mAt bo _ _ 0).trans (congrArg some hq), ?_⟩
      refine run ?_
      refine ⟨⟨(r.1 + 1, _), ⟨hk, e2⟩⟩, Nat.sub_lt_sub_left hk (Nat.lt_succ_self _), ?_⟩
      repeat' (first | exact trivial | exact rfl | exact congrArg (fun x => some (Row.mk 0 true x)) e3.symm | refine And.intro ?_ ?_ | refine Holds.mk ?_ ?_ ?_)
    · have e3 := em.trans (by rw [hq])
      refine run ?_
      refine Idx.map hk rfl ?_
      refine run ?_
      refine MFind.mk ⟨some i, (mfind_mAt bo _ _ 0).trans (congrArg some hq), ?_⟩
      refine run ?_
      refine ⟨⟨(r.1 + 1, _), ⟨hk, e2⟩⟩, Nat.sub_lt_sub_left hk (Nat.lt_succ_self _), ?_⟩
      repeat' (first | exact trivial | exact rfl | exact congrArg (fun x => some (Row.mk 0 true x)) e3.symm | refine And.intro ?_ ?_ | refine Holds.mk ?_ ?_ ?_)
  · have b1 : decide ((r.1 : Int) < ((p.defs.map encD).length : Nat)) = false := by simp; omega
    have hlive : ([] : List Int).length + live r.2 ≤ p.defs.length := by
      have := live_putAll (p.defs.take r.1) []
      rw [h2]; simp [live] at this ⊢; omega
    have hres : ordG p.defs (live r.2 + 1) r.2 [] = orderP p := by
      rw [h2, List.take_of_length_le (by omega)]; rfl
    refine run ?_
    refine LoopS.mk ⟨[.tmp 3 20009], HeadS.of (fun r : Mp Bool × List Int => r.2.length + live r.1 ≤ p.defs.length ∧ ordG p.defs (live r.1 + 1) r.1 r.2 = orderP p) (fun r => ⟨[(3, .ref 20009 r.2.length)], [], [(9, mapR r.1), (20009, ⟨1, true, r.2.map it⟩)]⟩) (fun r => live r.1) (r.2, []) ⟨hlive, hres⟩ ?_ ?_ ?_ ?_ ?_⟩
    · repeat' (first | exact trivial | exact rfl | refine And.intro ?_ ?_ | refine Holds.mk ?_ ?_ ?_)
    · kernel_rfl
    · kernel_rfl
    · intro k; exact ⟨rfl, rfl, rfl⟩
    intro q hq
    have hc := readyIndex_ok p.defs q.1 hok (by have := hq.1; omega)
    refine (ix_cases (p := rdy q.1) p.defs 0).elim (fun e0 => ?_) (fun e0 => e0.elim fun k e0 => e0.elim fun hk2 e0 => ?_)
    · rw [e0] at hc
      have e := (ordG_end e0).symm.trans hq.2
      refine run ?_; repeat ((apply call_ok; first | exact (hc)); refine run ?_)
      exact Done.mk (congrArg ints e) rfl
    · have e1 := e0.1.trans (congrArg (fun n : Nat => (n : Int)) (Nat.zero_add k))
      have e2 := (rdy_at e0.2)
      refine e2.elim fun i0 e2 => ?_
      have e3 := live_del e2
      have e4 := (ordG_step hk2 e1 (n := live q.1) (acc := q.2)).symm.trans hq.2
      rw [← e3] at e4
      have hq1 := hq.1
      have hlen : (q.2.map it ++ [it p.defs[k].id]).length ≤ 2^32 := by simp; omega
      have em := (mDel_map bo p.defs[k].id q.1).trans (by rw [e2])
      have ea : q.2.map it ++ [it p.defs[k].id] = (q.2 ++ [p.defs[k].id]).map it := by simp
      have el : (q.2.map it ++ [it p.defs[k].id]).length = (q.2 ++ [p.defs[k].id]).length := by simp
      have hle : (q.2 ++ [p.defs[k].id]).length + live (mDel p.defs[k].id q.1) ≤ p.defs.length := by simp; omega
      rw [e1] at hc
      refine run ?_; repeat ((apply call_ok; first | exact (hc)); refine run ?_)
      refine Idx.map hk2 rfl ?_
      refine run ?_; repeat ((apply call_ok; first | exact (hc)); refine run ?_)
      refine Idx.map hk2 rfl ?_
      refine run ?_; repeat ((apply call_ok; first | exact (hc)); refine run ?_)
      refine MFind.yes e2 ?_
      refine run ?_; repeat ((apply call_ok; first | exact (hc)); refine run ?_)
      refine ⟨⟨(mDel p.defs[k].id q.1, q.2 ++ [p.defs[k].id]), ⟨hle, e4⟩⟩, (by show live (mDel p.defs[k].id q.1) < live q.1; omega), ?_⟩
      repeat' (first | exact trivial | exact rfl | exact congrArg (fun x => some (Row.mk 0 true x)) em.symm | exact congrArg (fun x => some (Row.mk 1 true x)) ea | exact congrArg (fun x => some (Dat.ref 20009 x)) el | refine And.intro ?_ ?_ | refine Holds.mk ?_ ?_ ?_)
end Abs
namespace Abs
open Go Go.Proofs
set_option maxRecDepth 100000
set_option maxHeartbeats 4000000
theorem in_yes (n a b : Int) (h1 : a ≤ n) (h2 : n ≤ b) : CallsA Tryz.prog 95 [it n, it a, it b] ct0 (bo true) ct0 := by
  have b1 : decide (a ≤ n) = true := decide_eq_true h1
  have e : bo true = bo (decide (n ≤ b)) := by rw [decide_eq_true h2]
  rw [e]
  refine fn_ok hm Tryz.func95 (fun _ => false) [] (fun _ => []) (by kernel_rfl) ?_
  refine run ?_
  exact Done.mk rfl rfl
structure RngOk (r : Rng) : Prop where
  lo : -2147483648 ≤ r.lo
  le : r.lo ≤ r.hi
  hi : r.hi ≤ 2147483647
  mask : 0 ≤ r.mask ∧ r.mask ≤ 255
theorem rightRange_ok (r : Rng) (h : RngOk r) : CallsA Tryz.prog 94 [encR r] ct0 (bo true) ct0 := by
  have h1 := h.lo
  have h2 := h.le
  have b1 : decide (r.hi ≤ 2147483647) = true := decide_eq_true h.hi
  have h3 := h.mask
  refine fn_ok hm Tryz.func94 (fun _ => false) [] (fun _ => []) (by kernel_rfl) ?_
  refine run ?_; repeat ((apply call_ok; first | exact (in_yes _ _ _ (by omega) (by omega))); refine run ?_)
  exact Done.mk rfl rfl
def himm (t : Nat) (n : Nat) : List Ad := bif Nat.beq n (30000 + t) then [.lay 0] else []
def encK (d : Df) (x : Dc) : Dat := .agg (cD d ++ cDc x)
theorem evR1_ok (x : Rng) (h : CallsA Tryz.prog 94 [encR x] ct0 (bo true) ct0) : CallsA Tryz.prog 138 [encR x, .imm (.clo (.func 94) [] []) 0] ct0 (bo false) ct0 := by
  refine fn_ok hm Tryz.func138 (fun _ => false) [] (fun _ => []) (by kernel_rfl) ?_
  refine run ?_; repeat ((apply call_ok; first | exact (h)); refine run ?_)
  exact Done.mk rfl rfl
theorem evRX_ok (l : List Rng) (h : ∀ x ∈ l, CallsA Tryz.prog 94 [encR x] ct0 (bo true) ct0) (hl : l.length < 2^40) : CallsA Tryz.prog 174 [lst 3 encR l, .clo (.func 138) [] [.imm (.clo (.func 94) [] []) 0]] ct0 (it (-1)) ct0 := by
  have h1 := fun x (hx : x ∈ l) => evR1_ok  x (h x hx)
  refine fn_ok hm Tryz.func174 (fun _ => false) [] (fun _ => []) (by kernel_rfl) ?_
  refine run ?_
  refine LoopS.mk ⟨[], HeadS.lp (fun k : Nat => k ≤ l.length) (fun k => ⟨[(8, it k)], [], []⟩) (fun k => l.length - k) 0 (Nat.zero_le _) ?_⟩
  intro k hJ
  by_cases hk : k < l.length
  · have b1 : decide ((k : Int) < ((l.map encR).length : Nat)) = true := decide_eq_true (by rw [List.length_map]; omega)
    have c := h1 l[k] (List.getElem_mem hk)
    refine run ?_
    refine Idx.map hk rfl ?_
    refine run ?_; repeat ((apply call_ok; first | exact (c)); refine run ?_)
    refine ⟨⟨k + 1, hk⟩, Nat.sub_lt_sub_left hk (Nat.lt_succ_self _), ?_⟩
    repeat' (first | exact trivial | exact rfl | refine ⟨?_, ?_⟩ | refine ⟨?_, ?_, ?_⟩)
  · have b1 : decide ((k : Int) < ((l.map encR).length : Nat)) = false := decide_eq_false (by rw [List.length_map]; omega)
    refine run ?_
    exact Done.mk rfl rfl
theorem evRC_ok (l : List Rng) (h : ∀ x ∈ l, CallsA Tryz.prog 94 [encR x] ct0 (bo true) ct0) (hl : l.length < 2^40) : CallsA Tryz.prog 137 [lst 3 encR l, .clo (.func 138) [] [.imm (.clo (.func 94) [] []) 0]] ct0 (bo false) ct0 := by
  have c := evRX_ok  l h hl
  refine fn_ok hm Tryz.func137 (fun _ => false) [] (fun _ => []) (by kernel_rfl) ?_
  refine run ?_; repeat ((apply call_ok; first | exact (c)); refine run ?_)
  exact Done.mk rfl rfl
theorem evR_ok (l : List Rng) (n : Int) (h : ∀ x ∈ l, CallsA Tryz.prog 94 [encR x] ct0 (bo true) ct0) (hl : (l.length : Int) ≤ n) (hn : n < 1000) : CallsA Tryz.prog 97 [lst 3 encR l, it n, .clo (.func 94) [] []] ct0 (bo true) ct0 := by
  have c := evRC_ok  l h (by omega)
  have b1 : decide ((((l.map encR).length : Nat) : Int) ≤ n) = true := decide_eq_true (by rw [List.length_map]; exact hl)
  refine fn_ok hm Tryz.func97 (fun _ => false) [] (himm 5) (by kernel_rfl) ?_
  refine run ?_; repeat ((apply call_ok; first | exact (c)); refine run ?_)
  exact Done.mk rfl rfl
theorem evQ1_ok (x : Qu) (h : CallsA Tryz.prog 93 [encQ x] ct0 (bo true) ct0) : CallsA Tryz.prog 140 [encQ x, .imm (.clo (.func 93) [] []) 0] ct0 (bo false) ct0 := by
  refine fn_ok hm Tryz.func140 (fun _ => false) [] (fun _ => []) (by kernel_rfl) ?_
  refine run ?_; repeat ((apply call_ok; first | exact (h)); refine run ?_)
  exact Done.mk rfl rfl
theorem evQX_ok (l : List Qu) (h : ∀ x ∈ l, CallsA Tryz.prog 93 [encQ x] ct0 (bo true) ct0) (hl : l.length < 2^40) : CallsA Tryz.prog 175 [lst 4 encQ l, .clo (.func 140) [] [.imm (.clo (.func 93) [] []) 0]] ct0 (it (-1)) ct0 := by
  have h1 := fun x (hx : x ∈ l) => evQ1_ok  x (h x hx)
  refine fn_ok hm Tryz.func175 (fun _ => false) [] (fun _ => []) (by kernel_rfl) ?_
  refine run ?_
  refine LoopS.mk ⟨[], HeadS.lp (fun k : Nat => k ≤ l.length) (fun k => ⟨[(8, it k)], [], []⟩) (fun k => l.length - k) 0 (Nat.zero_le _) ?_⟩
  intro k hJ
  by_cases hk : k < l.length
  · have b1 : decide ((k : Int) < ((l.map encQ).length : Nat)) = true := decide_eq_true (by rw [List.length_map]; omega)
    have c := h1 l[k] (List.getElem_mem hk)
    refine run ?_
    refine Idx.map hk rfl ?_
    refine run ?_; repeat ((apply call_ok; first | exact (c)); refine run ?_)
    refine ⟨⟨k + 1, hk⟩, Nat.sub_lt_sub_left hk (Nat.lt_succ_self _), ?_⟩
    repeat' (first | exact trivial | exact rfl | refine ⟨?_, ?_⟩ | refine ⟨?_, ?_, ?_⟩)
  · have b1 : decide ((k : Int) < ((l.map encQ).length : Nat)) = false := decide_eq_false (by rw [List.length_map]; omega)
    refine run ?_
    exact Done.mk rfl rfl
theorem evQC_ok (l : List Qu) (h : ∀ x ∈ l, CallsA Tryz.prog 93 [encQ x] ct0 (bo true) ct0) (hl : l.length < 2^40) : CallsA Tryz.prog 139 [lst 4 encQ l, .clo (.func 140) [] [.imm (.clo (.func 93) [] []) 0]] ct0 (bo false) ct0 := by
  have c := evQX_ok  l h hl
  refine fn_ok hm Tryz.func139 (fun _ => false) [] (fun _ => []) (by kernel_rfl) ?_
  refine run ?_; repeat ((apply call_ok; first | exact (c)); refine run ?_)
  exact Done.mk rfl rfl
theorem evQ_ok (l : List Qu) (n : Int) (h : ∀ x ∈ l, CallsA Tryz.prog 93 [encQ x] ct0 (bo true) ct0) (hl : (l.length : Int) ≤ n) (hn : n < 1000) : CallsA Tryz.prog 98 [lst 4 encQ l, it n, .clo (.func 93) [] []] ct0 (bo true) ct0 := by
  have c := evQC_ok  l h (by omega)
  have b1 : decide ((((l.map encQ).length : Nat) : Int) ≤ n) = true := decide_eq_true (by rw [List.length_map]; exact hl)
  refine fn_ok hm Tryz.func98 (fun _ => false) [] (himm 5) (by kernel_rfl) ?_
  refine run ?_; repeat ((apply call_ok; first | exact (c)); refine run ?_)
  exact Done.mk rfl rfl
theorem evS1_ok (x : Int) (h : CallsA Tryz.prog 96 [it x] ct0 (bo true) ct0) : CallsA Tryz.prog 141 [it x, .imm (.clo (.func 96) [] []) 0] ct0 (bo false) ct0 := by
  refine fn_ok hm Tryz.func141 (fun _ => false) [] (fun _ => []) (by kernel_rfl) ?_
  refine run ?_; repeat ((apply call_ok; first | exact (h)); refine run ?_)
  exact Done.mk rfl rfl
theorem evSX_ok (l : List Int) (h : ∀ x ∈ l, CallsA Tryz.prog 96 [it x] ct0 (bo true) ct0) (hl : l.length < 2^40) : CallsA Tryz.prog 148 [lst 1 it l, .clo (.func 141) [] [.imm (.clo (.func 96) [] []) 0]] ct0 (it (-1)) ct0 := by
  have h1 := fun x (hx : x ∈ l) => evS1_ok  x (h x hx)
  refine fn_ok hm Tryz.func148 (fun _ => false) [] (fun _ => []) (by kernel_rfl) ?_
  refine run ?_
  refine LoopS.mk ⟨[], HeadS.lp (fun k : Nat => k ≤ l.length) (fun k => ⟨[(8, it k)], [], []⟩) (fun k => l.length - k) 0 (Nat.zero_le _) ?_⟩
  intro k hJ
  by_cases hk : k < l.length
  · have b1 : decide ((k : Int) < ((l.map it).length : Nat)) = true := decide_eq_true (by rw [List.length_map]; omega)
    have c := h1 l[k] (List.getElem_mem hk)
    refine run ?_
    refine Idx.map hk rfl ?_
    refine run ?_; repeat ((apply call_ok; first | exact (c)); refine run ?_)
    refine ⟨⟨k + 1, hk⟩, Nat.sub_lt_sub_left hk (Nat.lt_succ_self _), ?_⟩
    repeat' (first | exact trivial | exact rfl | refine ⟨?_, ?_⟩ | refine ⟨?_, ?_, ?_⟩)
  · have b1 : decide ((k : Int) < ((l.map it).length : Nat)) = false := decide_eq_false (by rw [List.length_map]; omega)
    refine run ?_
    exact Done.mk rfl rfl
theorem evSC_ok (l : List Int) (h : ∀ x ∈ l, CallsA Tryz.prog 96 [it x] ct0 (bo true) ct0) (hl : l.length < 2^40) : CallsA Tryz.prog 106 [lst 1 it l, .clo (.func 141) [] [.imm (.clo (.func 96) [] []) 0]] ct0 (bo false) ct0 := by
  have c := evSX_ok  l h hl
  refine fn_ok hm Tryz.func106 (fun _ => false) [] (fun _ => []) (by kernel_rfl) ?_
  refine run ?_; repeat ((apply call_ok; first | exact (c)); refine run ?_)
  exact Done.mk rfl rfl
theorem evS_ok (l : List Int) (n : Int) (h : ∀ x ∈ l, CallsA Tryz.prog 96 [it x] ct0 (bo true) ct0) (hl : (l.length : Int) ≤ n) (hn : n < 1000) : CallsA Tryz.prog 99 [lst 1 it l, it n, .clo (.func 96) [] []] ct0 (bo true) ct0 := by
  have c := evSC_ok  l h (by omega)
  have b1 : decide ((((l.map it).length : Nat) : Int) ≤ n) = true := decide_eq_true (by rw [List.length_map]; exact hl)
  refine fn_ok hm Tryz.func99 (fun _ => false) [] (himm 5) (by kernel_rfl) ?_
  refine run ?_; repeat ((apply call_ok; first | exact (c)); refine run ?_)
  exact Done.mk rfl rfl
theorem evA1_ok (d : Df) (x : Ar) (h : CallsA Tryz.prog 144 [encA x, .imm (encD d) 0] ct0 (bo true) ct0) : CallsA Tryz.prog 178 [encA x, .imm (.clo (.func 144) [] [.imm (encD d) 0]) 0] ct0 (bo false) ct0 := by
  refine fn_ok hm Tryz.func178 (fun _ => false) [] (fun _ => []) (by kernel_rfl) ?_
  refine run ?_; repeat ((apply call_ok; first | exact (h)); refine run ?_)
  exact Done.mk rfl rfl
theorem evAX_ok (d : Df) (l : List Ar) (h : ∀ x ∈ l, CallsA Tryz.prog 144 [encA x, .imm (encD d) 0] ct0 (bo true) ct0) (hl : l.length < 2^40) : CallsA Tryz.prog 198 [lst 2 encA l, .clo (.func 178) [] [.imm (.clo (.func 144) [] [.imm (encD d) 0]) 0]] ct0 (it (-1)) ct0 := by
  have h1 := fun x (hx : x ∈ l) => evA1_ok _ x (h x hx)
  refine fn_ok hm Tryz.func198 (fun _ => false) [] (fun _ => []) (by kernel_rfl) ?_
  refine run ?_
  refine LoopS.mk ⟨[], HeadS.lp (fun k : Nat => k ≤ l.length) (fun k => ⟨[(8, it k)], [], []⟩) (fun k => l.length - k) 0 (Nat.zero_le _) ?_⟩
  intro k hJ
  by_cases hk : k < l.length
  · have b1 : decide ((k : Int) < ((l.map encA).length : Nat)) = true := decide_eq_true (by rw [List.length_map]; omega)
    have c := h1 l[k] (List.getElem_mem hk)
    refine run ?_
    refine Idx.map hk rfl ?_
    refine run ?_; repeat ((apply call_ok; first | exact (c)); refine run ?_)
    refine ⟨⟨k + 1, hk⟩, Nat.sub_lt_sub_left hk (Nat.lt_succ_self _), ?_⟩
    repeat' (first | exact trivial | exact rfl | refine ⟨?_, ?_⟩ | refine ⟨?_, ?_, ?_⟩)
  · have b1 : decide ((k : Int) < ((l.map encA).length : Nat)) = false := decide_eq_false (by rw [List.length_map]; omega)
    refine run ?_
    exact Done.mk rfl rfl
theorem evAC_ok (d : Df) (l : List Ar) (h : ∀ x ∈ l, CallsA Tryz.prog 144 [encA x, .imm (encD d) 0] ct0 (bo true) ct0) (hl : l.length < 2^40) : CallsA Tryz.prog 177 [lst 2 encA l, .clo (.func 178) [] [.imm (.clo (.func 144) [] [.imm (encD d) 0]) 0]] ct0 (bo false) ct0 := by
  have c := evAX_ok _ l h hl
  refine fn_ok hm Tryz.func177 (fun _ => false) [] (fun _ => []) (by kernel_rfl) ?_
  refine run ?_; repeat ((apply call_ok; first | exact (c)); refine run ?_)
  exact Done.mk rfl rfl
theorem evA_ok (d : Df) (l : List Ar) (n : Int) (h : ∀ x ∈ l, CallsA Tryz.prog 144 [encA x, .imm (encD d) 0] ct0 (bo true) ct0) (hl : (l.length : Int) ≤ n) (hn : n < 1000) : CallsA Tryz.prog 146 [lst 2 encA l, it n, .clo (.func 144) [] [.imm (encD d) 0]] ct0 (bo true) ct0 := by
  have c := evAC_ok _ l h (by omega)
  have b1 : decide ((((l.map encA).length : Nat) : Int) ≤ n) = true := decide_eq_true (by rw [List.length_map]; exact hl)
  refine fn_ok hm Tryz.func146 (fun _ => false) [] (himm 5) (by kernel_rfl) ?_
  refine run ?_; repeat ((apply call_ok; first | exact (c)); refine run ?_)
  exact Done.mk rfl rfl
theorem evP1_ok (d : Df) (x0 : Dc) (x : Int) (h : CallsA Tryz.prog 184 [it x, .imm (encK d x0) 0] ct0 (bo true) ct0) : CallsA Tryz.prog 141 [it x, .imm (.clo (.func 184) [] [.imm (encK d x0) 0]) 0] ct0 (bo false) ct0 := by
  refine fn_ok hm Tryz.func141 (fun _ => false) [] (fun _ => []) (by kernel_rfl) ?_
  refine run ?_; repeat ((apply call_ok; first | exact (h)); refine run ?_)
  exact Done.mk rfl rfl
theorem evPX_ok (d : Df) (x0 : Dc) (l : List Int) (h : ∀ x ∈ l, CallsA Tryz.prog 184 [it x, .imm (encK d x0) 0] ct0 (bo true) ct0) (hl : l.length < 2^40) : CallsA Tryz.prog 148 [lst 1 it l, .clo (.func 141) [] [.imm (.clo (.func 184) [] [.imm (encK d x0) 0]) 0]] ct0 (it (-1)) ct0 := by
  have h1 := fun x (hx : x ∈ l) => evP1_ok _ _ x (h x hx)
  refine fn_ok hm Tryz.func148 (fun _ => false) [] (fun _ => []) (by kernel_rfl) ?_
  refine run ?_
  refine LoopS.mk ⟨[], HeadS.lp (fun k : Nat => k ≤ l.length) (fun k => ⟨[(8, it k)], [], []⟩) (fun k => l.length - k) 0 (Nat.zero_le _) ?_⟩
  intro k hJ
  by_cases hk : k < l.length
  · have b1 : decide ((k : Int) < ((l.map it).length : Nat)) = true := decide_eq_true (by rw [List.length_map]; omega)
    have c := h1 l[k] (List.getElem_mem hk)
    refine run ?_
    refine Idx.map hk rfl ?_
    refine run ?_; repeat ((apply call_ok; first | exact (c)); refine run ?_)
    refine ⟨⟨k + 1, hk⟩, Nat.sub_lt_sub_left hk (Nat.lt_succ_self _), ?_⟩
    repeat' (first | exact trivial | exact rfl | refine ⟨?_, ?_⟩ | refine ⟨?_, ?_, ?_⟩)
  · have b1 : decide ((k : Int) < ((l.map it).length : Nat)) = false := decide_eq_false (by rw [List.length_map]; omega)
    refine run ?_
    exact Done.mk rfl rfl
theorem evPC_ok (d : Df) (x0 : Dc) (l : List Int) (h : ∀ x ∈ l, CallsA Tryz.prog 184 [it x, .imm (encK d x0) 0] ct0 (bo true) ct0) (hl : l.length < 2^40) : CallsA Tryz.prog 106 [lst 1 it l, .clo (.func 141) [] [.imm (.clo (.func 184) [] [.imm (encK d x0) 0]) 0]] ct0 (bo false) ct0 := by
  have c := evPX_ok _ _ l h hl
  refine fn_ok hm Tryz.func106 (fun _ => false) [] (fun _ => []) (by kernel_rfl) ?_
  refine run ?_; repeat ((apply call_ok; first | exact (c)); refine run ?_)
  exact Done.mk rfl rfl
theorem evP_ok (d : Df) (x0 : Dc) (l : List Int) (n : Int) (h : ∀ x ∈ l, CallsA Tryz.prog 184 [it x, .imm (encK d x0) 0] ct0 (bo true) ct0) (hl : (l.length : Int) ≤ n) (hn : n < 1000) : CallsA Tryz.prog 99 [lst 1 it l, it n, .clo (.func 184) [] [.imm (encK d x0) 0]] ct0 (bo true) ct0 := by
  have c := evPC_ok _ _ l h (by omega)
  have b1 : decide ((((l.map it).length : Nat) : Int) ≤ n) = true := decide_eq_true (by rw [List.length_map]; exact hl)
  refine fn_ok hm Tryz.func99 (fun _ => false) [] (himm 5) (by kernel_rfl) ?_
  refine run ?_; repeat ((apply call_ok; first | exact (c)); refine run ?_)
  exact Done.mk rfl rfl
theorem evE1_ok (d : Df) (x0 : Dc) (x : Ex) (h : CallsA Tryz.prog 182 [encK d x0, encE x] ct0 (bo true) ct0) : CallsA Tryz.prog 203 [encE x, .pin (.clo (.func 182) [encK d x0] [])] ct0 (bo false) ct0 := by
  refine fn_ok hm Tryz.func203 (fun _ => false) [] (fun _ => []) (by kernel_rfl) ?_
  refine run ?_; repeat ((apply call_ok; first | exact (h)); refine run ?_)
  exact Done.mk rfl rfl
theorem evEX_ok (d : Df) (x0 : Dc) (l : List Ex) (h : ∀ x ∈ l, CallsA Tryz.prog 182 [encK d x0, encE x] ct0 (bo true) ct0) (hl : l.length < 2^40) : CallsA Tryz.prog 211 [lst 4 encE l, .clo (.func 203) [] [.pin (.clo (.func 182) [encK d x0] [])]] ct0 (it (-1)) ct0 := by
  have h1 := fun x (hx : x ∈ l) => evE1_ok _ _ x (h x hx)
  refine fn_ok hm Tryz.func211 (fun _ => false) [] (fun _ => []) (by kernel_rfl) ?_
  refine run ?_
  refine LoopS.mk ⟨[], HeadS.lp (fun k : Nat => k ≤ l.length) (fun k => ⟨[(8, it k)], [], []⟩) (fun k => l.length - k) 0 (Nat.zero_le _) ?_⟩
  intro k hJ
  by_cases hk : k < l.length
  · have b1 : decide ((k : Int) < ((l.map encE).length : Nat)) = true := decide_eq_true (by rw [List.length_map]; omega)
    have c := h1 l[k] (List.getElem_mem hk)
    refine run ?_
    refine Idx.map hk rfl ?_
    refine run ?_; repeat ((apply call_ok; first | exact (c)); refine run ?_)
    refine ⟨⟨k + 1, hk⟩, Nat.sub_lt_sub_left hk (Nat.lt_succ_self _), ?_⟩
    repeat' (first | exact trivial | exact rfl | refine ⟨?_, ?_⟩ | refine ⟨?_, ?_, ?_⟩)
  · have b1 : decide ((k : Int) < ((l.map encE).length : Nat)) = false := decide_eq_false (by rw [List.length_map]; omega)
    refine run ?_
    exact Done.mk rfl rfl
theorem evEC_ok (d : Df) (x0 : Dc) (l : List Ex) (h : ∀ x ∈ l, CallsA Tryz.prog 182 [encK d x0, encE x] ct0 (bo true) ct0) (hl : l.length < 2^40) : CallsA Tryz.prog 202 [lst 4 encE l, .clo (.func 203) [] [.pin (.clo (.func 182) [encK d x0] [])]] ct0 (bo false) ct0 := by
  have c := evEX_ok _ _ l h hl
  refine fn_ok hm Tryz.func202 (fun _ => false) [] (fun _ => []) (by kernel_rfl) ?_
  refine run ?_; repeat ((apply call_ok; first | exact (c)); refine run ?_)
  exact Done.mk rfl rfl
theorem evE_ok (d : Df) (x0 : Dc) (l : List Ex) (n : Int) (h : ∀ x ∈ l, CallsA Tryz.prog 182 [encK d x0, encE x] ct0 (bo true) ct0) (hl : (l.length : Int) ≤ n) (hn : n < 1000) : CallsA Tryz.prog 185 [lst 4 encE l, it n, .clo (.func 182) [encK d x0] []] ct0 (bo true) ct0 := by
  have c := evEC_ok _ _ l h (by omega)
  have b1 : decide ((((l.map encE).length : Nat) : Int) ≤ n) = true := decide_eq_true (by rw [List.length_map]; exact hl)
  refine fn_ok hm Tryz.func185 (fun _ => false) [] (himm 5) (by kernel_rfl) ?_
  refine run ?_; repeat ((apply call_ok; first | exact (c)); refine run ?_)
  exact Done.mk rfl rfl
structure HdOk (p : Pg) (h : Hd) : Prop where
  id : h.id ≤ 1073741824
  firm : 0 ≤ h.firm ∧ h.firm ≤ p.d.firms - 1
  part : 0 ≤ h.part ∧ h.part ≤ p.d.parts - 1
  params : (∀ r ∈ h.params, RngOk r) ∧ h.params.length ≤ 12
  given : (∀ r ∈ h.given, RngOk r) ∧ h.given.length ≤ 4
structure DcSm (x : Dc) : Prop where
  parts : x.parts ≤ 16
  firms : x.firms ≤ 8
theorem rightHead_ok (p : Pg) (h : Hd) (v : Int) (ok : HdOk p h) (sm : DcSm p.d) (hv : 0 ≤ v ∧ v + 1 ≤ h.id) : CallsA Tryz.prog 101 [encH h, .ptr 1000 0, .imm (encP p) 0] ⟨[it v], []⟩ (bo true) ⟨[it h.id], []⟩ := by
  have h1 := ok.id
  have h2 := ok.firm
  have h3 := ok.part
  have h4 := sm.parts
  have h5 := sm.firms
  have c1 := evR_ok h.params 12 (fun r hr => rightRange_ok r (ok.params.1 r hr)) (by have := ok.params.2; omega) (by omega)
  have c2 := evR_ok h.given 4 (fun r hr => rightRange_ok r (ok.given.1 r hr)) (by have := ok.given.2; omega) (by omega)
  refine fn_ok hm Tryz.func101 (fun _ => false) [] (fun _ => []) (by kernel_rfl) ?_
  refine run ?_; repeat ((apply call_ok; first | exact (c1) | exact (c2) | exact (in_yes _ _ _ (by omega) (by omega))); refine run ?_)
  exact Done.mk rfl rfl
end Abs
namespace Abs
open Go Go.Proofs
set_option maxRecDepth 100000
set_option maxHeartbeats 4000000
inductive EOk (vars na : Int) : Nat → Ex → Nat → Prop where
  | num {k : Nat} {v : Int} (h : -2147483648 ≤ v ∧ v ≤ 2147483647) : EOk vars na (k+1) (.mk 1 0 v []) 1
  | var {k : Nat} {n : Int} (h : 0 ≤ n ∧ n < vars) : EOk vars na (k+1) (.mk 2 n 0 []) 1
  | len {k : Nat} {n : Int} (h : 0 ≤ n ∧ n < na) : EOk vars na (k+1) (.mk 3 n 0 []) 1
  | bin {k : Nat} {op : Int} {a b : Ex} {x y : Nat} (h : 4 ≤ op ∧ op ≤ 10) (ha : EOk vars na k a x) (hb : EOk vars na k b y) : EOk vars na (k+1) (.mk op 0 0 [a, b]) (1+x+y)
inductive COk (vars na : Int) : Nat → Co → Nat → Prop where
  | test {k : Nat} {op : Int} {a b : Ex} {x y : Nat} (h : 2 ≤ op ∧ op ≤ 4) (ha : EOk vars na k a x) (hb : EOk vars na k b y) : COk vars na (k+1) (.mk op [a, b] []) (1+x+y)
  | not {k : Nat} {c : Co} {x : Nat} (hc : COk vars na k c x) : COk vars na (k+1) (.mk 5 [] [c]) (1+x)
  | and {k : Nat} {op : Int} {a b : Co} {x y : Nat} (h : 6 ≤ op ∧ op ≤ 7) (ha : COk vars na k a x) (hb : COk vars na k b y) : COk vars na (k+1) (.mk op [] [a, b]) (1+x+y)
theorem EOk.pos {vars na : Int} {k : Nat} {e : Ex} {n : Nat} (h : EOk vars na k e n) : 1 ≤ k := by cases h <;> omega
theorem EOk.sz {vars na : Int} {k : Nat} {e : Ex} {n : Nat} (h : EOk vars na k e n) : n < 2^(k+1) := by
  induction h with
  | num _ => have := Nat.one_lt_two_pow (n := 2) (by omega); rename_i k _ _; have := Nat.pow_le_pow_right (n := 2) (by omega) (show 1 ≤ k+1+1 by omega); omega
  | var _ => rename_i k _ _; have := Nat.pow_le_pow_right (n := 2) (by omega) (show 1 ≤ k+1+1 by omega); omega
  | len _ => rename_i k _ _; have := Nat.pow_le_pow_right (n := 2) (by omega) (show 1 ≤ k+1+1 by omega); omega
  | bin _ _ _ iha ihb => rename_i k _ _ _ _ _ _ _ _; rw [Nat.pow_succ]; omega
theorem COk.pos {vars na : Int} {k : Nat} {c : Co} {n : Nat} (h : COk vars na k c n) : 1 ≤ k := by cases h <;> omega
theorem COk.sz {vars na : Int} {k : Nat} {c : Co} {n : Nat} (h : COk vars na k c n) : n < 2^(k+1) := by
  induction h with
  | test _ ha hb => have := ha.sz; have := hb.sz; rw [Nat.pow_succ]; omega
  | not _ ih => rw [Nat.pow_succ]; omega
  | and _ _ _ iha ihb => rw [Nat.pow_succ]; omega
theorem EOk.up {vars na : Int} {k : Nat} {e : Ex} {n : Nat} (h : EOk vars na k e n) : EOk vars na (k+1) e n := by
  induction h with
  | num h => exact .num h
  | var h => exact .var h
  | len h => exact .len h
  | bin h _ _ iha ihb => exact .bin h iha ihb
structure Seq where
  k : Nat
  n : Nat
theorem shExpr_ok (d : Df) (x0 : Dc) (hv : d.vars < 2^40) (ha : d.arrays.length < 2^40) : ∀ {k : Nat} {e : Ex} {n : Nat}, EOk d.vars d.arrays.length k e n → ∀ dep : Nat, dep + k = 11 → CallsA Tryz.prog 200 [encK d x0, encE e, it dep] ct0 (.tup [it n, bo true]) ct0 := by
  intro k e n h
  have la : (d.arrays.map encA).length = d.arrays.length := List.length_map ..
  induction h with
  | num h =>
    rename_i k v
    intro dep hd
    have b1 : decide ((dep : Int) ≤ 10) = true := decide_eq_true (by omega)
    have c0 := in_yes v (-2147483648) 2147483647 (by omega) (by omega)
    refine fn_ok hm Tryz.func200 (fun _ => false) [] (fun _ => []) (by kernel_rfl) ?_
    refine run ?_; repeat ((apply call_ok; first | exact (c0)); refine run ?_)
    exact Done.mk rfl rfl
  | var h =>
    rename_i k n
    intro dep hd
    have b1 : decide ((dep : Int) ≤ 10) = true := decide_eq_true (by omega)
    have c0 := in_yes n 0 (d.vars - 1) (by omega) (by omega)
    refine fn_ok hm Tryz.func200 (fun _ => false) [] (fun _ => []) (by kernel_rfl) ?_
    refine run ?_; repeat ((apply call_ok; first | exact (c0)); refine run ?_)
    exact Done.mk rfl rfl
  | len h =>
    rename_i k n
    intro dep hd
    have b1 : decide ((dep : Int) ≤ 10) = true := decide_eq_true (by omega)
    have c0 := in_yes n 0 ((d.arrays.map encA).length - 1) (by omega) (by omega)
    refine fn_ok hm Tryz.func200 (fun _ => false) [] (fun _ => []) (by kernel_rfl) ?_
    refine run ?_; repeat ((apply call_ok; first | exact (c0)); refine run ?_)
    exact Done.mk rfl rfl
  | bin h ha hb iha ihb =>
    rename_i k op a b x y
    intro dep hd
    have hp := ha.pos
    have sa := ha.sz
    have sb := hb.sz
    have hpw := Nat.pow_le_pow_right (n := 2) (by omega) (show k + 1 ≤ 12 by omega)
    have c1 := iha (dep + 1) (by omega)
    have c2 := ihb (dep + 1) (by omega)
    cases a
    cases b
    have e1 : (op == 1) = false := by simp; omega
    have e2 : (op == 2) = false := by simp; omega
    have e3 : (op == 3) = false := by simp; omega
    have b1 : decide ((dep : Int) ≥ 10) = false := decide_eq_false (by omega)
    have a1 : (dep : Int) + 1 = ((dep + 1 : Nat) : Int) := rfl
    have a2 : ((1 : Nat) : Int) + (x : Int) = ((1 + x : Nat) : Int) := by omega
    have a3 : ((1 + x : Nat) : Int) + (y : Int) = ((1 + x + y : Nat) : Int) := by omega
    have c0 := in_yes op 4 10 (by omega) (by omega)
    refine fn_ok hm Tryz.func200 (fun _ => false) [] (fun _ => []) (by kernel_rfl) ?_
    refine run ?_; repeat ((apply call_ok; first | exact (c0)); refine run ?_)
    refine LoopS.mk ⟨[], HeadS.lp (fun r : Seq => (r.k = 0 ∧ r.n = 1) ∨ (r.k = 1 ∧ r.n = 1 + x) ∨ (r.k = 2 ∧ r.n = 1 + x + y)) (fun r => ⟨[(99, it r.k), (9, it r.n)], [], []⟩) (fun r => 2 - r.k) ⟨0, 1⟩ (.inl ⟨rfl, rfl⟩) ?_⟩
    rintro ⟨j, m⟩ hJ
    dsimp only at hJ
    refine hJ.elim (fun hJ => ?_) (fun hJ => hJ.elim (fun hJ => ?_) (fun hJ => ?_))
    · obtain ⟨rfl, rfl⟩ := hJ
      refine run ?_; repeat ((apply call_ok; first | exact (c1)); refine run ?_)
      refine Idx.at rfl (by dsimp only; omega) rfl ?_
      refine run ?_; repeat ((apply call_ok; first | exact (c1)); refine run ?_)
      refine ⟨⟨⟨1, 1 + x⟩, .inr (.inl ⟨rfl, rfl⟩)⟩, (by dsimp only; omega), ?_⟩
      repeat' (first | exact trivial | exact rfl | refine ⟨?_, ?_⟩ | refine ⟨?_, ?_, ?_⟩)
    · obtain ⟨rfl, rfl⟩ := hJ
      refine run ?_; repeat ((apply call_ok; first | exact (c2)); refine run ?_)
      refine Idx.at rfl (by dsimp only; omega) rfl ?_
      refine run ?_; repeat ((apply call_ok; first | exact (c2)); refine run ?_)
      refine ⟨⟨⟨2, 1 + x + y⟩, .inr (.inr ⟨rfl, rfl⟩)⟩, (by dsimp only; omega), ?_⟩
      repeat' (first | exact trivial | exact rfl | refine ⟨?_, ?_⟩ | refine ⟨?_, ?_, ?_⟩)
    · obtain ⟨rfl, rfl⟩ := hJ
      refine run ?_
      exact Done.mk rfl rfl
end Abs
namespace Abs
open Go Go.Proofs
set_option maxRecDepth 100000
set_option maxHeartbeats 4000000
theorem Idx.mapE {α : Type} {xs : List α} {f : α → Dat} {i : Int} (k : Nat) {n : Nat} {K : Dat → Prop} (e : i = k) (hk : k < xs.length) (hn : n = (xs.map f).length) (h : K (f xs[k])) : Idx n (xs.map f) i K := by
  subst e; exact Idx.map hk hn h
structure Mk where
  L : List UInt8
  d : Dc
  heads : List Hd
  defs : List Df
  th : List Int
  D : Df
  calm : Bool
def encMk (m : Mk) (a s l p d : Nat) : Dat := .agg ([byt m.L, it a] ++ (cDc m.d ++ ([.ref 1000 (m.heads.map encH).length, .ref 1001 (m.defs.map encD).length, .ref 1002 (m.th.map it).length] ++ (cD m.D ++ [it s, it l, it p, it d, bo m.calm]))))
def ctM (m : Mk) (a s l p d : Nat) : Ct := ⟨[encMk m a s l p d], [⟨5, true, m.heads.map encH⟩, ⟨12, true, m.defs.map encD⟩, ⟨1, true, m.th.map it⟩]⟩
abbrev mp : Dat := .ptr 1000 0
def Mk.nx (m : Mk) (a : Nat) (n : Int) : Int := (((m.L.getD a 0).toNat : Nat) : Int).tmod n
theorem Mk.nx_bd (m : Mk) (a : Nat) {n : Int} (h : 0 < n) : 0 ≤ m.nx a n ∧ m.nx a n < n := ⟨Int.tmod_nonneg _ (by omega), Int.tmod_lt_of_pos _ h⟩
theorem next_ok (m : Mk) (a s l p d : Nat) (n : Int) (h : a < 2^60) (hn : 0 < n) : CallsA Tryz.prog 109 [mp, it n] (ctM m a s l p d) (it (m.nx a n)) (ctM m (a + 1) s l p d) := by
  by_cases hl : a < m.L.length
  · have hb : decide ((a : Int) + 1 > ((m.L.map fun b => Dat.int .u8 b.toNat).length : Nat)) = false := by simp; omega
    have hu := UInt8.toNat_lt (m.L[a])
    refine fn_ok hm Tryz.func109 (fun _ => false) [] (fun _ => []) (by kernel_rfl) ?_
    refine run ?_
    refine Idx.mapE a (by omega) (by omega) rfl ?_
    refine run ?_
    refine Done.mk (congrArg it ?_) rfl
    simp [Mk.nx, List.getD, hl]
  · have hb : decide ((a : Int) + 1 > ((m.L.map fun b => Dat.int .u8 b.toNat).length : Nat)) = true := by simp; omega
    refine fn_ok hm Tryz.func109 (fun _ => false) [] (fun _ => []) (by kernel_rfl) ?_
    refine run ?_
    refine Done.mk (congrArg it ?_) rfl
    simp [Mk.nx, List.getD, hl]
theorem site_ok (m : Mk) (a s l p d : Nat) (h : s < 2^60) : CallsA Tryz.prog 150 [mp] (ctM m a s l p d) (it (s+1 : Nat)) (ctM m a (s+1) l p d) := by
  refine fn_ok hm Tryz.func150 (fun _ => false) [] (fun _ => []) (by kernel_rfl) ?_
  refine run ?_
  exact Done.mk rfl rfl
def eNum (v : Int) : Ex := .mk 1 0 v []
def eVar (v : Int) : Ex := .mk 2 v 0 []
def eBin (op : Int) (a b : Ex) : Ex := .mk op 0 0 [a, b]
def cTest (op : Int) (a b : Ex) : Co := .mk op [a, b] []
def cNot (c : Co) : Co := .mk 5 [] [c]
theorem num_ok (v : Int) : CallsA Tryz.prog 64 [it v] ct0 (encE (eNum v)) ct0 := by
  refine fn_ok hm Tryz.func64 (fun _ => false) [] (fun _ => []) (by kernel_rfl) ?_
  refine run ?_
  exact Done.mk rfl rfl
theorem var_ok (v : Int) : CallsA Tryz.prog 63 [it v] ct0 (encE (eVar v)) ct0 := by
  refine fn_ok hm Tryz.func63 (fun _ => false) [] (fun _ => []) (by kernel_rfl) ?_
  refine run ?_
  exact Done.mk rfl rfl
theorem bin_ok (v : Int) (a b : Ex) : CallsA Tryz.prog 62 [it v, encE a, encE b] ct0 (encE (eBin v a b)) ct0 := by
  cases a; cases b
  refine fn_ok hm Tryz.func62 (fun _ => false) [] (fun _ => []) (by kernel_rfl) ?_
  refine run ?_
  exact Done.mk rfl rfl
theorem test_ok (v : Int) (a b : Ex) : CallsA Tryz.prog 212 [it v, encE a, encE b] ct0 (encC (cTest v a b)) ct0 := by
  cases a; cases b
  refine fn_ok hm Tryz.func212 (fun _ => false) [] (fun _ => []) (by kernel_rfl) ?_
  refine run ?_
  exact Done.mk rfl rfl
theorem not_ok (a : Co) : CallsA Tryz.prog 213 [encC a] ct0 (encC (cNot a)) ct0 := by
  cases a
  refine fn_ok hm Tryz.func213 (fun _ => false) [] (fun _ => []) (by kernel_rfl) ?_
  refine run ?_
  exact Done.mk rfl rfl
def Mk.expr (m : Mk) : Nat → Nat → Ex × Nat
  | 0, a => (eNum (m.nx (a+1) 14 - 3), a+1+1)
  | n+1, a =>
    if m.nx a 12 < 4 then (eNum (m.nx (a+1) 14 - 3), a+1+1)
    else if m.nx a 12 < 9 then (eVar (m.nx (a+1) m.D.vars), a+1+1)
    else if m.nx a 12 = 9 ∧ 0 < m.D.arrays.length then (.mk 3 (m.nx (a+1) m.D.arrays.length) 0 [], a+1+1)
    else (eBin (4 + m.nx (a+1) 7) (m.expr n (a+1+1)).1 (m.expr n (m.expr n (a+1+1)).2).1, (m.expr n (m.expr n (a+1+1)).2).2)
def useE : Nat → Nat
  | 0 => 2
  | n + 1 => 2 + 2 * useE n
theorem useE_two (n : Nat) : 2 ≤ useE n := by cases n <;> simp [useE]
theorem Mk.expr_at (m : Mk) : ∀ n a, a ≤ (m.expr n a).2 ∧ (m.expr n a).2 ≤ a + useE n
  | 0, a => by simp only [Mk.expr, useE]; omega
  | n+1, a => by
    have h1 := Mk.expr_at m n (a+1+1)
    have h2 := Mk.expr_at m n (m.expr n (a+1+1)).2
    have h3 := useE_two n
    rw [Mk.expr]
    split
    · simp only [useE]; omega
    split
    · simp only [useE]; omega
    split
    · simp only [useE]; omega
    · simp only [useE]; omega
theorem expr_ok (m : Mk) (s l p d : Nat) (hv : 0 < m.D.vars) (n : Nat) : ∀ (a : Nat) (_ : a + useE n < 2^60) (_ : n < 2^60), CallsA Tryz.prog 207 [mp, it n] (ctM m a s l p d) (encE (m.expr n a).1) (ctM m ((m.expr n a).2) s l p d) := by
  induction n with
  | zero =>
    intro a h hn
    have b1 := m.nx_bd a (n := 12) (by omega)
    have b2 := m.nx_bd (a+1) (n := 14) (by omega)
    simp only [useE] at h
    refine (Bool.eq_false_or_eq_true (decide (m.nx a 12 < 4))).elim (fun h1 => ?_) (fun h1 => ?_)
    all_goals
      refine fn_ok hm Tryz.func207 (fun _ => false) [] (fun _ => []) (by kernel_rfl) ?_
      refine run ?_; repeat ((apply call_ok; first | exact (next_ok m _ _ _ _ _ _ (by omega) (by omega)) | exact (num_ok _)); refine run ?_)
      exact Done.mk rfl rfl
  | succ n ih =>
    intro a h hn
    have b1 := m.nx_bd a (n := 12) (by omega)
    have b2 := m.nx_bd (a+1) (n := 14) (by omega)
    have b3 := m.nx_bd (a+1) (n := 7) (by omega)
    have g1 := m.expr_at n (a+1+1)
    have g2 := m.expr_at n (m.expr n (a+1+1)).2
    have g3 := useE_two n
    simp only [useE] at h
    have h2 : (((n + 1 : Nat) : Int) == 0) = false := by simp; omega
    have e1 : ((n + 1 : Nat) : Int) - 1 = (n : Int) := by omega
    refine (Bool.eq_false_or_eq_true (decide (m.nx a 12 < 4))).elim (fun h1 => ?_) (fun h1 => ?_)
    · have e : m.expr (n+1) a = (eNum (m.nx (a+1) 14 - 3), a+1+1) := by rw [Mk.expr, if_pos (by simpa using h1)]
      rw [e]
      refine fn_ok hm Tryz.func207 (fun _ => false) [] (fun _ => []) (by kernel_rfl) ?_
      refine run ?_; repeat ((apply call_ok; first | exact (next_ok m _ _ _ _ _ _ (by omega) (by omega)) | exact (num_ok _)); refine run ?_)
      exact Done.mk rfl rfl
    have n1 : ¬ m.nx a 12 < 4 := by simpa using h1
    refine (Bool.eq_false_or_eq_true (decide (m.nx a 12 < 9))).elim (fun h3 => ?_) (fun h3 => ?_)
    · have e : m.expr (n+1) a = (eVar (m.nx (a+1) m.D.vars), a+1+1) := by rw [Mk.expr, if_neg n1, if_pos (by simpa using h3)]
      rw [e]
      refine fn_ok hm Tryz.func207 (fun _ => false) [] (fun _ => []) (by kernel_rfl) ?_
      refine run ?_; repeat ((apply call_ok; first | exact (next_ok m _ _ _ _ _ _ (by omega) (by omega)) | exact (var_ok _)); refine run ?_)
      exact Done.mk rfl rfl
    have n2 : ¬ m.nx a 12 < 9 := by simpa using h3
    by_cases h4 : m.nx a 12 = 9 ∧ 0 < m.D.arrays.length
    · have e : m.expr (n+1) a = (.mk 3 (m.nx (a+1) m.D.arrays.length) 0 [], a+1+1) := by rw [Mk.expr, if_neg n1, if_neg n2, if_pos h4]
      have e2 : (m.nx a 12 == 9) = true := by simp [h4.1]
      have e3 : decide ((((m.D.arrays.map encA).length : Nat) : Int) > 0) = true := by simp; exact h4.2
      have e4 : ((m.D.arrays.map encA).length : Int) = m.D.arrays.length := by simp
      rw [e, ← e4]
      refine fn_ok hm Tryz.func207 (fun _ => false) [] (fun _ => []) (by kernel_rfl) ?_
      refine run ?_; repeat ((apply call_ok; first | exact (next_ok m _ _ _ _ _ _ (by omega) (by omega))); refine run ?_)
      exact Done.mk rfl rfl
    have e : m.expr (n+1) a = (eBin (4 + m.nx (a+1) 7) (m.expr n (a+1+1)).1 (m.expr n (m.expr n (a+1+1)).2).1, (m.expr n (m.expr n (a+1+1)).2).2) := by rw [Mk.expr, if_neg n1, if_neg n2, if_neg h4]
    rw [e]
    refine (Bool.eq_false_or_eq_true (m.nx a 12 == 9)).elim (fun e2 => ?_) (fun e2 => ?_)
    · have e3 : decide ((((m.D.arrays.map encA).length : Nat) : Int) > 0) = false := by
        simp at e2 h4 ⊢; exact h4 e2
      refine fn_ok hm Tryz.func207 (fun _ => false) [] (fun _ => []) (by kernel_rfl) ?_
      refine run ?_; repeat ((apply call_ok; first | exact (next_ok m _ _ _ _ _ _ (by omega) (by omega)) | exact (ih _ (by omega) (by omega)) | exact (bin_ok _ _ _)); refine run ?_)
      exact Done.mk rfl rfl
    · refine fn_ok hm Tryz.func207 (fun _ => false) [] (fun _ => []) (by kernel_rfl) ?_
      refine run ?_; repeat ((apply call_ok; first | exact (next_ok m _ _ _ _ _ _ (by omega) (by omega)) | exact (ih _ (by omega) (by omega)) | exact (bin_ok _ _ _)); refine run ?_)
      exact Done.mk rfl rfl
end Abs
namespace Abs
open Go Go.Proofs
set_option maxRecDepth 100000
set_option maxHeartbeats 4000000
def Mk.nP (m : Mk) : Int := ((m.D.params.map encR).length : Nat)
def Mk.nA (m : Mk) : Int := ((m.D.arrays.map encA).length : Nat)
theorem Mk.nP_eq (m : Mk) : m.nP = m.D.params.length := by simp [Mk.nP]
theorem Mk.nA_eq (m : Mk) : m.nA = m.D.arrays.length := by simp [Mk.nA]
structure Mk.Ok (m : Mk) : Prop where
  vars : m.nP < m.D.vars ∧ m.D.vars < 2^40 ∧ m.nP < 2^40
  arr : 0 < m.nA ∧ m.nA < 2^40
def Mk.cond (m : Mk) : Nat → Nat → Co × Nat
  | 0, a => (cTest (2 + (m.nx a 8).tmod 3) (m.expr 1 (a+1)).1 (m.expr 1 (m.expr 1 (a+1)).2).1, (m.expr 1 (m.expr 1 (a+1)).2).2)
  | n+1, a =>
    if m.nx a 8 < 6 then (cTest (2 + (m.nx a 8).tmod 3) (m.expr 1 (a+1)).1 (m.expr 1 (m.expr 1 (a+1)).2).1, (m.expr 1 (m.expr 1 (a+1)).2).2)
    else if m.nx a 8 = 6 then (cNot (m.cond n (a+1)).1, (m.cond n (a+1)).2)
    else (.mk (6 + m.nx (m.cond n (a+1)).2 2) [] [(m.cond n (a+1)).1, (m.cond n ((m.cond n (a+1)).2+1)).1], (m.cond n ((m.cond n (a+1)).2+1)).2)
def useC : Nat → Nat
  | 0 => 13
  | n + 1 => 2 + 2 * useC n
theorem useC_le (n : Nat) : 13 ≤ useC n := by induction n with | zero => simp [useC] | succ n ih => simp only [useC]; omega
theorem Mk.cond_at (m : Mk) : ∀ n a, a ≤ (m.cond n a).2 ∧ (m.cond n a).2 ≤ a + useC n
  | 0, a => by
    have h1 := m.expr_at 1 (a+1)
    have h2 := m.expr_at 1 (m.expr 1 (a+1)).2
    simp only [Mk.cond, useC]; simp only [useE] at h1 h2; omega
  | n+1, a => by
    have h1 := m.expr_at 1 (a+1)
    have h2 := m.expr_at 1 (m.expr 1 (a+1)).2
    have h3 := Mk.cond_at m n (a+1)
    have h4 := Mk.cond_at m n ((m.cond n (a+1)).2+1)
    have h5 := useC_le n
    rw [Mk.cond]
    simp only [useE] at h1 h2
    split
    · simp only [useC]; omega
    split
    · simp only [useC]; omega
    · simp only [useC]; omega
theorem encC_and (v : Int) (a b : Co) : encC (.mk v [] [a, b]) = .agg [it v, .sl 4 [] false, .sl 3 [encC a, encC b] false] := by cases a; cases b; rfl
theorem cond_ok (m : Mk) (s l p d : Nat) (hv : 0 < m.D.vars) (n : Nat) : ∀ (a : Nat) (_ : a + useC n < 2^60) (_ : n < 2^60), CallsA Tryz.prog 204 [mp, it n] (ctM m a s l p d) (encC (m.cond n a).1) (ctM m ((m.cond n a).2) s l p d) := by
  have one : ∀ a, a + 6 < 2^60 → CallsA Tryz.prog 207 [mp, it 1] (ctM m a s l p d) (encE (m.expr 1 a).1) (ctM m ((m.expr 1 a).2) s l p d) := fun a h => expr_ok m s l p d hv 1 a (by simp only [useE]; omega) (by omega)
  induction n with
  | zero =>
    intro a h hn
    have b1 := m.nx_bd a (n := 8) (by omega)
    have b2 : 0 ≤ (m.nx a 8).tmod 3 ∧ (m.nx a 8).tmod 3 < 3 := ⟨Int.tmod_nonneg _ b1.1, Int.tmod_lt_of_pos _ (by omega)⟩
    have h1 := m.expr_at 1 (a+1)
    have h2 := m.expr_at 1 (m.expr 1 (a+1)).2
    simp only [useE] at h1 h2
    simp only [useC] at h
    refine (Bool.eq_false_or_eq_true (decide (m.nx a 8 < 6))).elim (fun h1 => ?_) (fun h1 => ?_)
    all_goals
      refine fn_ok hm Tryz.func204 (fun _ => false) [] (fun _ => []) (by kernel_rfl) ?_
      refine run ?_; repeat ((apply call_ok; first | exact (next_ok m _ _ _ _ _ _ (by omega) (by omega)) | exact (one _ (by omega)) | exact (test_ok _ _ _)); refine run ?_)
      exact Done.mk rfl rfl
  | succ n ih =>
    intro a h hn
    have b1 := m.nx_bd a (n := 8) (by omega)
    have b2 : 0 ≤ (m.nx a 8).tmod 3 ∧ (m.nx a 8).tmod 3 < 3 := ⟨Int.tmod_nonneg _ b1.1, Int.tmod_lt_of_pos _ (by omega)⟩
    have b3 := m.nx_bd (m.cond n (a+1)).2 (n := 2) (by omega)
    have g1 := m.expr_at 1 (a+1)
    have g2 := m.expr_at 1 (m.expr 1 (a+1)).2
    simp only [useE] at g1 g2
    have g3 := m.cond_at n (a+1)
    have g4 := m.cond_at n ((m.cond n (a+1)).2+1)
    have g5 := useC_le n
    simp only [useC] at h
    have h2 : (((n + 1 : Nat) : Int) == 0) = false := by simp; omega
    have e1 : ((n + 1 : Nat) : Int) - 1 = (n : Int) := by omega
    refine (Bool.eq_false_or_eq_true (decide (m.nx a 8 < 6))).elim (fun h1 => ?_) (fun h1 => ?_)
    · have e : m.cond (n+1) a = (cTest (2 + (m.nx a 8).tmod 3) (m.expr 1 (a+1)).1 (m.expr 1 (m.expr 1 (a+1)).2).1, (m.expr 1 (m.expr 1 (a+1)).2).2) := by rw [Mk.cond, if_pos (by simpa using h1)]
      rw [e]
      refine fn_ok hm Tryz.func204 (fun _ => false) [] (fun _ => []) (by kernel_rfl) ?_
      refine run ?_; repeat ((apply call_ok; first | exact (next_ok m _ _ _ _ _ _ (by omega) (by omega)) | exact (one _ (by omega)) | exact (test_ok _ _ _)); refine run ?_)
      exact Done.mk rfl rfl
    have n1 : ¬ m.nx a 8 < 6 := by simpa using h1
    refine (Bool.eq_false_or_eq_true (m.nx a 8 == 6)).elim (fun h3 => ?_) (fun h3 => ?_)
    · have e : m.cond (n+1) a = (cNot (m.cond n (a+1)).1, (m.cond n (a+1)).2) := by rw [Mk.cond, if_neg n1, if_pos (by simpa using h3)]
      rw [e]
      refine fn_ok hm Tryz.func204 (fun _ => false) [] (fun _ => []) (by kernel_rfl) ?_
      refine run ?_; repeat ((apply call_ok; first | exact (next_ok m _ _ _ _ _ _ (by omega) (by omega)) | exact (ih _ (by omega) (by omega)) | exact (not_ok _)); refine run ?_)
      exact Done.mk rfl rfl
    · have e : m.cond (n+1) a = (.mk (6 + m.nx (m.cond n (a+1)).2 2) [] [(m.cond n (a+1)).1, (m.cond n ((m.cond n (a+1)).2+1)).1], (m.cond n ((m.cond n (a+1)).2+1)).2) := by rw [Mk.cond, if_neg n1, if_neg (by simpa using h3)]
      rw [e]
      refine fn_ok hm Tryz.func204 (fun _ => false) [] (fun _ => []) (by kernel_rfl) ?_
      refine run ?_; repeat ((apply call_ok; first | exact (next_ok m _ _ _ _ _ _ (by omega) (by omega)) | exact (ih _ (by omega) (by omega)) | exact (not_ok _)); refine run ?_)
      exact Done.mk (encC_and _ _ _).symm rfl
def Mk.tg (m : Mk) (a : Nat) : Int := m.nP + m.nx a (m.D.vars - m.nP)
theorem target_ok (m : Mk) (a s l p d : Nat) (h : a < 2^60) (ok : m.Ok) : CallsA Tryz.prog 205 [mp] (ctM m a s l p d) (it (m.tg a)) (ctM m (a+1) s l p d) := by
  have h1 := ok.vars
  have h2 := m.nx_bd a (n := m.D.vars - m.nP) (by omega)
  have h3 : m.nP = ((m.D.params.map encR).length : Nat) := rfl
  rw [h3] at h1 h2
  refine fn_ok hm Tryz.func205 (fun _ => false) [] (fun _ => []) (by kernel_rfl) ?_
  refine run ?_; repeat ((apply call_ok; first | exact (next_ok m _ _ _ _ _ _ (by omega) (by omega))); refine run ?_)
  exact Done.mk rfl rfl
def zE : Ex := .mk 0 0 0 []
def zC : Co := .mk 0 [] []
def S0 (site op n m v : Int) (x y : Ex) (c : Co) : Sm := .mk site op n m v x y c [] [] [] []
def Mk.simple (m : Mk) (a s : Nat) : List Sm × Nat × Nat :=
  if m.nx a 8 = 0 then ([S0 (s+1 : Nat) 2 (m.tg (a+1)) 0 0 (eNum (m.nx (a+1+1) 4)) zE zC], a+1+1+1, s+1)
  else if m.nx a 8 = 1 then ([S0 (s+1 : Nat) 3 0 0 0 (eNum (m.nx (a+1) 4)) (m.expr 2 (a+1+1)).1 zC], (m.expr 2 (a+1+1)).2, s+1)
  else if m.nx a 8 = 2 then ([S0 (s+1 : Nat) 4 (m.tg (a+1)) (m.nx (a+1+1) 2) 0 zE zE zC], a+1+1+1, s+1)
  else if m.nx a 8 = 3 then ([S0 (s+1 : Nat) 20 (m.tg (a+1)) (m.nx (a+1+1) 2) 0 zE zE zC], a+1+1+1, s+1)
  else if m.nx a 8 = 4 then ([S0 (s+1 : Nat) 16 0 (m.nx (a+1) 3) 0 zE zE zC, S0 (s+1+1 : Nat) 5 0 0 0 (eNum (m.nx (a+1+1) 9)) zE zC, S0 (s+1+1+1 : Nat) 17 0 (m.nx (a+1) 3) 0 zE zE zC], a+1+1+1, s+1+1+1)
  else if m.nx a 8 = 5 then ([S0 (s+1 : Nat) 6 1 0 0 zE zE zC, S0 (s+1+1 : Nat) 9 1 0 0 (m.expr 1 (a+1)).1 zE zC, S0 (s+1+1+1 : Nat) 7 1 0 0 zE zE zC], (m.expr 1 (a+1)).2, s+1+1+1)
  else ([S0 (s+1 : Nat) 1 (m.tg (a+1)) 0 0 (m.expr 2 (a+1+1)).1 zE zC], (m.expr 2 (a+1+1)).2, s+1)
def Mk.risky (m : Mk) (a s : Nat) : Sm × Nat × Nat :=
  if m.nx a 15 = 0 ∨ m.nx a 15 = 1 then (S0 (s+1 : Nat) 2 (m.tg (a+1)) (m.nx (a+1+1) m.nA) 0 (m.expr 1 (a+1+1+1)).1 zE zC, (m.expr 1 (a+1+1+1)).2, s+1)
  else if m.nx a 15 = 2 then (S0 (s+1 : Nat) 3 0 (m.nx (a+1) m.nA) 0 (m.expr 1 (a+1+1)).1 (m.expr 1 (m.expr 1 (a+1+1)).2).1 zC, (m.expr 1 (m.expr 1 (a+1+1)).2).2, s+1)
  else if m.nx a 15 = 3 then (S0 (s+1 : Nat) 5 0 (m.nx (a+1) 2) 0 (m.expr 1 (a+1+1)).1 zE zC, (m.expr 1 (a+1+1)).2, s+1)
  else if m.nx a 15 = 4 then (S0 (s+1 : Nat) 6 (m.nx (a+1) 2) 0 0 zE zE zC, a+1+1, s+1)
  else if m.nx a 15 = 5 then (S0 (s+1 : Nat) 7 (m.nx (a+1) 2) 0 0 zE zE zC, a+1+1, s+1)
  else if m.nx a 15 = 6 then (S0 (s+1 : Nat) 8 (m.nx (a+1) 2) (m.nx (a+1+1) 2) 0 zE zE zC, a+1+1+1, s+1)
  else if m.nx a 15 = 7 then (S0 (s+1 : Nat) 10 (m.tg (a+1)) (m.nx (a+1+1) 2) 0 zE zE zC, a+1+1+1, s+1)
  else if m.nx a 15 = 8 then (S0 (s+1 : Nat) (16 + m.nx (a+1) 2) 0 (m.nx (a+1+1) 3) 0 zE zE zC, a+1+1+1, s+1)
  else if m.nx a 15 = 9 then (S0 (s+1 : Nat) 18 0 0 0 (m.expr 1 (a+1)).1 zE zC, (m.expr 1 (a+1)).2, s+1)
  else if m.nx a 15 = 10 then (S0 (s+1 : Nat) 19 (m.tg (a+1)) 0 0 zE zE zC, a+1+1, s+1)
  else if m.nx a 15 = 11 then (S0 (s+1 : Nat) 21 0 (m.nx (a+1) 3) 0 (m.expr 1 (a+1+1)).1 zE zC, (m.expr 1 (a+1+1)).2, s+1)
  else if m.nx a 15 = 12 then (S0 (s+1 : Nat) 22 0 (m.nx (a+1) 3) 0 zE zE zC, a+1+1, s+1)
  else if m.nx a 15 = 13 then (S0 (s+1 : Nat) 23 0 0 0 zE zE (m.cond 1 (a+1)).1, (m.cond 1 (a+1)).2, s+1)
  else (S0 (s+1 : Nat) 9 (m.nx (a+1) 2) 0 0 (m.expr 1 (a+1+1)).1 zE zC, (m.expr 1 (a+1+1)).2, s+1)
theorem simple_ok (m : Mk) (a s l p d : Nat) (h : a + 100 < 2^60) (h' : s + 10 < 2^60) (ok : m.Ok) : CallsA Tryz.prog 208 [mp] (ctM m a s l p d) (lst 20 encS (m.simple a s).1) (ctM m ((m.simple a s).2.1) ((m.simple a s).2.2) l p d) := by
  have hv : 0 < m.D.vars := by have := ok.vars; have := m.nP_eq; omega
  have b0 := m.nx_bd a (n := 8) (by omega)
  have ha := ok.arr
  have hA : m.nA = ((m.D.arrays.map encA).length : Nat) := rfl
  have e1 : ∀ a, a + 6 < 2^60 → CallsA Tryz.prog 207 [mp, it 1] (ctM m a (s+1) l p d) (encE (m.expr 1 a).1) (ctM m ((m.expr 1 a).2) (s+1) l p d) := fun a h => expr_ok m (s+1) l p d hv 1 a (by simp only [useE]; omega) (by omega)
  have e1' : ∀ a, a + 6 < 2^60 → CallsA Tryz.prog 207 [mp, it 1] (ctM m a (s+1+1) l p d) (encE (m.expr 1 a).1) (ctM m ((m.expr 1 a).2) (s+1+1) l p d) := fun a h => expr_ok m (s+1+1) l p d hv 1 a (by simp only [useE]; omega) (by omega)
  have e2 : ∀ a, a + 14 < 2^60 → CallsA Tryz.prog 207 [mp, it 2] (ctM m a (s+1) l p d) (encE (m.expr 2 a).1) (ctM m ((m.expr 2 a).2) (s+1) l p d) := fun a h => expr_ok m (s+1) l p d hv 2 a (by simp only [useE]; omega) (by omega)
  have c1 : ∀ a, a + 28 < 2^60 → CallsA Tryz.prog 204 [mp, it 1] (ctM m a (s+1) l p d) (encC (m.cond 1 a).1) (ctM m ((m.cond 1 a).2) (s+1) l p d) := fun a h => cond_ok m (s+1) l p d hv 1 a (by simp only [useC]; omega) (by omega)
  have g1 := m.expr_at 1 (a+1)
  have g2 := m.expr_at 1 (a+1+1)
  simp only [useE] at g1 g2
  have hk := next_ok m a (s+1) l p d 8 (by omega) (by omega)
  have hc : m.nx a 8 = 0 ∨ m.nx a 8 = 1 ∨ m.nx a 8 = 2 ∨ m.nx a 8 = 3 ∨ m.nx a 8 = 4 ∨ m.nx a 8 = 5 ∨ m.nx a 8 = 6 ∨ m.nx a 8 = 7 := by omega
  rcases hc with hc | hc | hc | hc | hc | hc | hc | hc
  · have e : m.simple a s = ([S0 (s+1 : Nat) 2 (m.tg (a+1)) 0 0 (eNum (m.nx (a+1+1) 4)) zE zC], a+1+1+1, s+1) := by simp [Mk.simple, hc]
    rw [e]; rw [hc] at hk
    refine fn_ok hm Tryz.func208 (fun _ => false) [] (fun _ => []) (by kernel_rfl) ?_
    refine run ?_; repeat ((apply call_ok; first | exact (hk) | exact (site_ok m _ _ _ _ _ (by omega)) | exact (target_ok m _ _ _ _ _ (by omega) ok) | exact (next_ok m _ _ _ _ _ _ (by omega) (by omega)) | exact (num_ok _) | exact (e1 _ (by omega)) | exact (e1' _ (by omega)) | exact (e2 _ (by omega)) | exact (c1 _ (by omega))); refine run ?_)
    exact Done.mk rfl rfl
  · have e : m.simple a s = ([S0 (s+1 : Nat) 3 0 0 0 (eNum (m.nx (a+1) 4)) (m.expr 2 (a+1+1)).1 zC], (m.expr 2 (a+1+1)).2, s+1) := by simp [Mk.simple, hc]
    rw [e]; rw [hc] at hk
    refine fn_ok hm Tryz.func208 (fun _ => false) [] (fun _ => []) (by kernel_rfl) ?_
    refine run ?_; repeat ((apply call_ok; first | exact (hk) | exact (site_ok m _ _ _ _ _ (by omega)) | exact (target_ok m _ _ _ _ _ (by omega) ok) | exact (next_ok m _ _ _ _ _ _ (by omega) (by omega)) | exact (num_ok _) | exact (e1 _ (by omega)) | exact (e1' _ (by omega)) | exact (e2 _ (by omega)) | exact (c1 _ (by omega))); refine run ?_)
    exact Done.mk rfl rfl
  · have e : m.simple a s = ([S0 (s+1 : Nat) 4 (m.tg (a+1)) (m.nx (a+1+1) 2) 0 zE zE zC], a+1+1+1, s+1) := by simp [Mk.simple, hc]
    rw [e]; rw [hc] at hk
    refine fn_ok hm Tryz.func208 (fun _ => false) [] (fun _ => []) (by kernel_rfl) ?_
    refine run ?_; repeat ((apply call_ok; first | exact (hk) | exact (site_ok m _ _ _ _ _ (by omega)) | exact (target_ok m _ _ _ _ _ (by omega) ok) | exact (next_ok m _ _ _ _ _ _ (by omega) (by omega)) | exact (num_ok _) | exact (e1 _ (by omega)) | exact (e1' _ (by omega)) | exact (e2 _ (by omega)) | exact (c1 _ (by omega))); refine run ?_)
    exact Done.mk rfl rfl
  · have e : m.simple a s = ([S0 (s+1 : Nat) 20 (m.tg (a+1)) (m.nx (a+1+1) 2) 0 zE zE zC], a+1+1+1, s+1) := by simp [Mk.simple, hc]
    rw [e]; rw [hc] at hk
    refine fn_ok hm Tryz.func208 (fun _ => false) [] (fun _ => []) (by kernel_rfl) ?_
    refine run ?_; repeat ((apply call_ok; first | exact (hk) | exact (site_ok m _ _ _ _ _ (by omega)) | exact (target_ok m _ _ _ _ _ (by omega) ok) | exact (next_ok m _ _ _ _ _ _ (by omega) (by omega)) | exact (num_ok _) | exact (e1 _ (by omega)) | exact (e1' _ (by omega)) | exact (e2 _ (by omega)) | exact (c1 _ (by omega))); refine run ?_)
    exact Done.mk rfl rfl
  · have e : m.simple a s = ([S0 (s+1 : Nat) 16 0 (m.nx (a+1) 3) 0 zE zE zC, S0 (s+1+1 : Nat) 5 0 0 0 (eNum (m.nx (a+1+1) 9)) zE zC, S0 (s+1+1+1 : Nat) 17 0 (m.nx (a+1) 3) 0 zE zE zC], a+1+1+1, s+1+1+1) := by simp [Mk.simple, hc]
    rw [e]; rw [hc] at hk
    refine fn_ok hm Tryz.func208 (fun _ => false) [] (fun _ => []) (by kernel_rfl) ?_
    refine run ?_; repeat ((apply call_ok; first | exact (hk) | exact (site_ok m _ _ _ _ _ (by omega)) | exact (target_ok m _ _ _ _ _ (by omega) ok) | exact (next_ok m _ _ _ _ _ _ (by omega) (by omega)) | exact (num_ok _) | exact (e1 _ (by omega)) | exact (e1' _ (by omega)) | exact (e2 _ (by omega)) | exact (c1 _ (by omega))); refine run ?_)
    exact Done.mk rfl rfl
  · have e : m.simple a s = ([S0 (s+1 : Nat) 6 1 0 0 zE zE zC, S0 (s+1+1 : Nat) 9 1 0 0 (m.expr 1 (a+1)).1 zE zC, S0 (s+1+1+1 : Nat) 7 1 0 0 zE zE zC], (m.expr 1 (a+1)).2, s+1+1+1) := by simp [Mk.simple, hc]
    rw [e]; rw [hc] at hk
    refine fn_ok hm Tryz.func208 (fun _ => false) [] (fun _ => []) (by kernel_rfl) ?_
    refine run ?_; repeat ((apply call_ok; first | exact (hk) | exact (site_ok m _ _ _ _ _ (by omega)) | exact (target_ok m _ _ _ _ _ (by omega) ok) | exact (next_ok m _ _ _ _ _ _ (by omega) (by omega)) | exact (num_ok _) | exact (e1 _ (by omega)) | exact (e1' _ (by omega)) | exact (e2 _ (by omega)) | exact (c1 _ (by omega))); refine run ?_)
    exact Done.mk rfl rfl
  · have e : m.simple a s = ([S0 (s+1 : Nat) 1 (m.tg (a+1)) 0 0 (m.expr 2 (a+1+1)).1 zE zC], (m.expr 2 (a+1+1)).2, s+1) := by simp [Mk.simple, hc]
    rw [e]; rw [hc] at hk
    refine fn_ok hm Tryz.func208 (fun _ => false) [] (fun _ => []) (by kernel_rfl) ?_
    refine run ?_; repeat ((apply call_ok; first | exact (hk) | exact (site_ok m _ _ _ _ _ (by omega)) | exact (target_ok m _ _ _ _ _ (by omega) ok) | exact (next_ok m _ _ _ _ _ _ (by omega) (by omega)) | exact (num_ok _) | exact (e1 _ (by omega)) | exact (e1' _ (by omega)) | exact (e2 _ (by omega)) | exact (c1 _ (by omega))); refine run ?_)
    exact Done.mk rfl rfl
  · have e : m.simple a s = ([S0 (s+1 : Nat) 1 (m.tg (a+1)) 0 0 (m.expr 2 (a+1+1)).1 zE zC], (m.expr 2 (a+1+1)).2, s+1) := by simp [Mk.simple, hc]
    rw [e]; rw [hc] at hk
    refine fn_ok hm Tryz.func208 (fun _ => false) [] (fun _ => []) (by kernel_rfl) ?_
    refine run ?_; repeat ((apply call_ok; first | exact (hk) | exact (site_ok m _ _ _ _ _ (by omega)) | exact (target_ok m _ _ _ _ _ (by omega) ok) | exact (next_ok m _ _ _ _ _ _ (by omega) (by omega)) | exact (num_ok _) | exact (e1 _ (by omega)) | exact (e1' _ (by omega)) | exact (e2 _ (by omega)) | exact (c1 _ (by omega))); refine run ?_)
    exact Done.mk rfl rfl
theorem risky_ok (m : Mk) (a s l p d : Nat) (h : a + 100 < 2^60) (h' : s + 10 < 2^60) (ok : m.Ok) : CallsA Tryz.prog 209 [mp] (ctM m a s l p d) (encS (m.risky a s).1) (ctM m ((m.risky a s).2.1) ((m.risky a s).2.2) l p d) := by
  have hv : 0 < m.D.vars := by have := ok.vars; have := m.nP_eq; omega
  have b0 := m.nx_bd a (n := 15) (by omega)
  have ha := ok.arr
  have hA : m.nA = ((m.D.arrays.map encA).length : Nat) := rfl
  have e1 : ∀ a, a + 6 < 2^60 → CallsA Tryz.prog 207 [mp, it 1] (ctM m a (s+1) l p d) (encE (m.expr 1 a).1) (ctM m ((m.expr 1 a).2) (s+1) l p d) := fun a h => expr_ok m (s+1) l p d hv 1 a (by simp only [useE]; omega) (by omega)
  have e1' : ∀ a, a + 6 < 2^60 → CallsA Tryz.prog 207 [mp, it 1] (ctM m a (s+1+1) l p d) (encE (m.expr 1 a).1) (ctM m ((m.expr 1 a).2) (s+1+1) l p d) := fun a h => expr_ok m (s+1+1) l p d hv 1 a (by simp only [useE]; omega) (by omega)
  have e2 : ∀ a, a + 14 < 2^60 → CallsA Tryz.prog 207 [mp, it 2] (ctM m a (s+1) l p d) (encE (m.expr 2 a).1) (ctM m ((m.expr 2 a).2) (s+1) l p d) := fun a h => expr_ok m (s+1) l p d hv 2 a (by simp only [useE]; omega) (by omega)
  have c1 : ∀ a, a + 28 < 2^60 → CallsA Tryz.prog 204 [mp, it 1] (ctM m a (s+1) l p d) (encC (m.cond 1 a).1) (ctM m ((m.cond 1 a).2) (s+1) l p d) := fun a h => cond_ok m (s+1) l p d hv 1 a (by simp only [useC]; omega) (by omega)
  have g1 := m.expr_at 1 (a+1)
  have g2 := m.expr_at 1 (a+1+1)
  simp only [useE] at g1 g2
  have hk := next_ok m a (s+1) l p d 15 (by omega) (by omega)
  have hc : m.nx a 15 = 0 ∨ m.nx a 15 = 1 ∨ m.nx a 15 = 2 ∨ m.nx a 15 = 3 ∨ m.nx a 15 = 4 ∨ m.nx a 15 = 5 ∨ m.nx a 15 = 6 ∨ m.nx a 15 = 7 ∨ m.nx a 15 = 8 ∨ m.nx a 15 = 9 ∨ m.nx a 15 = 10 ∨ m.nx a 15 = 11 ∨ m.nx a 15 = 12 ∨ m.nx a 15 = 13 ∨ m.nx a 15 = 14 := by omega
  rcases hc with hc | hc | hc | hc | hc | hc | hc | hc | hc | hc | hc | hc | hc | hc | hc
  · have e : m.risky a s = (S0 (s+1 : Nat) 2 (m.tg (a+1)) (m.nx (a+1+1) m.nA) 0 (m.expr 1 (a+1+1+1)).1 zE zC, (m.expr 1 (a+1+1+1)).2, s+1) := by simp [Mk.risky, hc]
    rw [e]; rw [hc] at hk
    refine fn_ok hm Tryz.func209 (fun _ => false) [] (fun _ => []) (by kernel_rfl) ?_
    refine run ?_; repeat ((apply call_ok; first | exact (hk) | exact (site_ok m _ _ _ _ _ (by omega)) | exact (target_ok m _ _ _ _ _ (by omega) ok) | exact (next_ok m _ _ _ _ _ _ (by omega) (by omega)) | exact (num_ok _) | exact (e1 _ (by omega)) | exact (e1' _ (by omega)) | exact (e2 _ (by omega)) | exact (c1 _ (by omega))); refine run ?_)
    exact Done.mk rfl rfl
  · have e : m.risky a s = (S0 (s+1 : Nat) 2 (m.tg (a+1)) (m.nx (a+1+1) m.nA) 0 (m.expr 1 (a+1+1+1)).1 zE zC, (m.expr 1 (a+1+1+1)).2, s+1) := by simp [Mk.risky, hc]
    rw [e]; rw [hc] at hk
    refine fn_ok hm Tryz.func209 (fun _ => false) [] (fun _ => []) (by kernel_rfl) ?_
    refine run ?_; repeat ((apply call_ok; first | exact (hk) | exact (site_ok m _ _ _ _ _ (by omega)) | exact (target_ok m _ _ _ _ _ (by omega) ok) | exact (next_ok m _ _ _ _ _ _ (by omega) (by omega)) | exact (num_ok _) | exact (e1 _ (by omega)) | exact (e1' _ (by omega)) | exact (e2 _ (by omega)) | exact (c1 _ (by omega))); refine run ?_)
    exact Done.mk rfl rfl
  · have e : m.risky a s = (S0 (s+1 : Nat) 3 0 (m.nx (a+1) m.nA) 0 (m.expr 1 (a+1+1)).1 (m.expr 1 (m.expr 1 (a+1+1)).2).1 zC, (m.expr 1 (m.expr 1 (a+1+1)).2).2, s+1) := by simp [Mk.risky, hc]
    rw [e]; rw [hc] at hk
    refine fn_ok hm Tryz.func209 (fun _ => false) [] (fun _ => []) (by kernel_rfl) ?_
    refine run ?_; repeat ((apply call_ok; first | exact (hk) | exact (site_ok m _ _ _ _ _ (by omega)) | exact (target_ok m _ _ _ _ _ (by omega) ok) | exact (next_ok m _ _ _ _ _ _ (by omega) (by omega)) | exact (num_ok _) | exact (e1 _ (by omega)) | exact (e1' _ (by omega)) | exact (e2 _ (by omega)) | exact (c1 _ (by omega))); refine run ?_)
    exact Done.mk rfl rfl
  · have e : m.risky a s = (S0 (s+1 : Nat) 5 0 (m.nx (a+1) 2) 0 (m.expr 1 (a+1+1)).1 zE zC, (m.expr 1 (a+1+1)).2, s+1) := by simp [Mk.risky, hc]
    rw [e]; rw [hc] at hk
    refine fn_ok hm Tryz.func209 (fun _ => false) [] (fun _ => []) (by kernel_rfl) ?_
    refine run ?_; repeat ((apply call_ok; first | exact (hk) | exact (site_ok m _ _ _ _ _ (by omega)) | exact (target_ok m _ _ _ _ _ (by omega) ok) | exact (next_ok m _ _ _ _ _ _ (by omega) (by omega)) | exact (num_ok _) | exact (e1 _ (by omega)) | exact (e1' _ (by omega)) | exact (e2 _ (by omega)) | exact (c1 _ (by omega))); refine run ?_)
    exact Done.mk rfl rfl
  · have e : m.risky a s = (S0 (s+1 : Nat) 6 (m.nx (a+1) 2) 0 0 zE zE zC, a+1+1, s+1) := by simp [Mk.risky, hc]
    rw [e]; rw [hc] at hk
    refine fn_ok hm Tryz.func209 (fun _ => false) [] (fun _ => []) (by kernel_rfl) ?_
    refine run ?_; repeat ((apply call_ok; first | exact (hk) | exact (site_ok m _ _ _ _ _ (by omega)) | exact (target_ok m _ _ _ _ _ (by omega) ok) | exact (next_ok m _ _ _ _ _ _ (by omega) (by omega)) | exact (num_ok _) | exact (e1 _ (by omega)) | exact (e1' _ (by omega)) | exact (e2 _ (by omega)) | exact (c1 _ (by omega))); refine run ?_)
    exact Done.mk rfl rfl
  · have e : m.risky a s = (S0 (s+1 : Nat) 7 (m.nx (a+1) 2) 0 0 zE zE zC, a+1+1, s+1) := by simp [Mk.risky, hc]
    rw [e]; rw [hc] at hk
    refine fn_ok hm Tryz.func209 (fun _ => false) [] (fun _ => []) (by kernel_rfl) ?_
    refine run ?_; repeat ((apply call_ok; first | exact (hk) | exact (site_ok m _ _ _ _ _ (by omega)) | exact (target_ok m _ _ _ _ _ (by omega) ok) | exact (next_ok m _ _ _ _ _ _ (by omega) (by omega)) | exact (num_ok _) | exact (e1 _ (by omega)) | exact (e1' _ (by omega)) | exact (e2 _ (by omega)) | exact (c1 _ (by omega))); refine run ?_)
    exact Done.mk rfl rfl
  · have e : m.risky a s = (S0 (s+1 : Nat) 8 (m.nx (a+1) 2) (m.nx (a+1+1) 2) 0 zE zE zC, a+1+1+1, s+1) := by simp [Mk.risky, hc]
    rw [e]; rw [hc] at hk
    refine fn_ok hm Tryz.func209 (fun _ => false) [] (fun _ => []) (by kernel_rfl) ?_
    refine run ?_; repeat ((apply call_ok; first | exact (hk) | exact (site_ok m _ _ _ _ _ (by omega)) | exact (target_ok m _ _ _ _ _ (by omega) ok) | exact (next_ok m _ _ _ _ _ _ (by omega) (by omega)) | exact (num_ok _) | exact (e1 _ (by omega)) | exact (e1' _ (by omega)) | exact (e2 _ (by omega)) | exact (c1 _ (by omega))); refine run ?_)
    exact Done.mk rfl rfl
  · have e : m.risky a s = (S0 (s+1 : Nat) 10 (m.tg (a+1)) (m.nx (a+1+1) 2) 0 zE zE zC, a+1+1+1, s+1) := by simp [Mk.risky, hc]
    rw [e]; rw [hc] at hk
    refine fn_ok hm Tryz.func209 (fun _ => false) [] (fun _ => []) (by kernel_rfl) ?_
    refine run ?_; repeat ((apply call_ok; first | exact (hk) | exact (site_ok m _ _ _ _ _ (by omega)) | exact (target_ok m _ _ _ _ _ (by omega) ok) | exact (next_ok m _ _ _ _ _ _ (by omega) (by omega)) | exact (num_ok _) | exact (e1 _ (by omega)) | exact (e1' _ (by omega)) | exact (e2 _ (by omega)) | exact (c1 _ (by omega))); refine run ?_)
    exact Done.mk rfl rfl
  · have e : m.risky a s = (S0 (s+1 : Nat) (16 + m.nx (a+1) 2) 0 (m.nx (a+1+1) 3) 0 zE zE zC, a+1+1+1, s+1) := by simp [Mk.risky, hc]
    rw [e]; rw [hc] at hk
    have b1 := m.nx_bd (a+1) (n := 2) (by omega)
    refine fn_ok hm Tryz.func209 (fun _ => false) [] (fun _ => []) (by kernel_rfl) ?_
    refine run ?_; repeat ((apply call_ok; first | exact (hk) | exact (site_ok m _ _ _ _ _ (by omega)) | exact (target_ok m _ _ _ _ _ (by omega) ok) | exact (next_ok m _ _ _ _ _ _ (by omega) (by omega)) | exact (num_ok _) | exact (e1 _ (by omega)) | exact (e1' _ (by omega)) | exact (e2 _ (by omega)) | exact (c1 _ (by omega))); refine run ?_)
    exact Done.mk rfl rfl
  · have e : m.risky a s = (S0 (s+1 : Nat) 18 0 0 0 (m.expr 1 (a+1)).1 zE zC, (m.expr 1 (a+1)).2, s+1) := by simp [Mk.risky, hc]
    rw [e]; rw [hc] at hk
    refine fn_ok hm Tryz.func209 (fun _ => false) [] (fun _ => []) (by kernel_rfl) ?_
    refine run ?_; repeat ((apply call_ok; first | exact (hk) | exact (site_ok m _ _ _ _ _ (by omega)) | exact (target_ok m _ _ _ _ _ (by omega) ok) | exact (next_ok m _ _ _ _ _ _ (by omega) (by omega)) | exact (num_ok _) | exact (e1 _ (by omega)) | exact (e1' _ (by omega)) | exact (e2 _ (by omega)) | exact (c1 _ (by omega))); refine run ?_)
    exact Done.mk rfl rfl
  · have e : m.risky a s = (S0 (s+1 : Nat) 19 (m.tg (a+1)) 0 0 zE zE zC, a+1+1, s+1) := by simp [Mk.risky, hc]
    rw [e]; rw [hc] at hk
    refine fn_ok hm Tryz.func209 (fun _ => false) [] (fun _ => []) (by kernel_rfl) ?_
    refine run ?_; repeat ((apply call_ok; first | exact (hk) | exact (site_ok m _ _ _ _ _ (by omega)) | exact (target_ok m _ _ _ _ _ (by omega) ok) | exact (next_ok m _ _ _ _ _ _ (by omega) (by omega)) | exact (num_ok _) | exact (e1 _ (by omega)) | exact (e1' _ (by omega)) | exact (e2 _ (by omega)) | exact (c1 _ (by omega))); refine run ?_)
    exact Done.mk rfl rfl
  · have e : m.risky a s = (S0 (s+1 : Nat) 21 0 (m.nx (a+1) 3) 0 (m.expr 1 (a+1+1)).1 zE zC, (m.expr 1 (a+1+1)).2, s+1) := by simp [Mk.risky, hc]
    rw [e]; rw [hc] at hk
    refine fn_ok hm Tryz.func209 (fun _ => false) [] (fun _ => []) (by kernel_rfl) ?_
    refine run ?_; repeat ((apply call_ok; first | exact (hk) | exact (site_ok m _ _ _ _ _ (by omega)) | exact (target_ok m _ _ _ _ _ (by omega) ok) | exact (next_ok m _ _ _ _ _ _ (by omega) (by omega)) | exact (num_ok _) | exact (e1 _ (by omega)) | exact (e1' _ (by omega)) | exact (e2 _ (by omega)) | exact (c1 _ (by omega))); refine run ?_)
    exact Done.mk rfl rfl
  · have e : m.risky a s = (S0 (s+1 : Nat) 22 0 (m.nx (a+1) 3) 0 zE zE zC, a+1+1, s+1) := by simp [Mk.risky, hc]
    rw [e]; rw [hc] at hk
    refine fn_ok hm Tryz.func209 (fun _ => false) [] (fun _ => []) (by kernel_rfl) ?_
    refine run ?_; repeat ((apply call_ok; first | exact (hk) | exact (site_ok m _ _ _ _ _ (by omega)) | exact (target_ok m _ _ _ _ _ (by omega) ok) | exact (next_ok m _ _ _ _ _ _ (by omega) (by omega)) | exact (num_ok _) | exact (e1 _ (by omega)) | exact (e1' _ (by omega)) | exact (e2 _ (by omega)) | exact (c1 _ (by omega))); refine run ?_)
    exact Done.mk rfl rfl
  · have e : m.risky a s = (S0 (s+1 : Nat) 23 0 0 0 zE zE (m.cond 1 (a+1)).1, (m.cond 1 (a+1)).2, s+1) := by simp [Mk.risky, hc]
    rw [e]; rw [hc] at hk
    refine fn_ok hm Tryz.func209 (fun _ => false) [] (fun _ => []) (by kernel_rfl) ?_
    refine run ?_; repeat ((apply call_ok; first | exact (hk) | exact (site_ok m _ _ _ _ _ (by omega)) | exact (target_ok m _ _ _ _ _ (by omega) ok) | exact (next_ok m _ _ _ _ _ _ (by omega) (by omega)) | exact (num_ok _) | exact (e1 _ (by omega)) | exact (e1' _ (by omega)) | exact (e2 _ (by omega)) | exact (c1 _ (by omega))); refine run ?_)
    exact Done.mk rfl rfl
  · have e : m.risky a s = (S0 (s+1 : Nat) 9 (m.nx (a+1) 2) 0 0 (m.expr 1 (a+1+1)).1 zE zC, (m.expr 1 (a+1+1)).2, s+1) := by simp [Mk.risky, hc]
    rw [e]; rw [hc] at hk
    refine fn_ok hm Tryz.func209 (fun _ => false) [] (fun _ => []) (by kernel_rfl) ?_
    refine run ?_; repeat ((apply call_ok; first | exact (hk) | exact (site_ok m _ _ _ _ _ (by omega)) | exact (target_ok m _ _ _ _ _ (by omega) ok) | exact (next_ok m _ _ _ _ _ _ (by omega) (by omega)) | exact (num_ok _) | exact (e1 _ (by omega)) | exact (e1' _ (by omega)) | exact (e2 _ (by omega)) | exact (c1 _ (by omega))); refine run ?_)
    exact Done.mk rfl rfl
end Abs
namespace Abs
open Go Go.Proofs
set_option maxRecDepth 100000
set_option maxHeartbeats 4000000
structure Fl where
  n : Nat
  m : Nat
  v : Nat
  x : Bool
  y : Bool
  c : Bool
  call : Bool
  body : Bool
  rest : Bool
def encFl (f : Fl) : Dat := .agg [it f.n, it f.m, it f.v, bo f.x, bo f.y, bo f.c, bo f.call, bo f.body, bo f.rest]
def fl0 (n m v : Nat) : Fl := ⟨n, m, v, false, false, false, false, false, false⟩
def flx (n m v : Nat) : Fl := ⟨n, m, v, true, false, false, false, false, false⟩
def tab : Nat → Fl
  | 1 => flx 1 0 0
  | 2 => flx 1 4 0
  | 3 => ⟨0, 4, 0, true, true, false, false, false, false⟩
  | 4 => fl0 1 5 0
  | 5 => flx 0 5 0
  | 6 => fl0 3 0 0
  | 7 => fl0 3 0 0
  | 8 => fl0 3 3 0
  | 9 => flx 3 0 0
  | 10 => fl0 1 3 0
  | 11 => ⟨0, 0, 0, false, false, true, false, true, true⟩
  | 12 => ⟨0, 0, 12, false, false, true, false, true, false⟩
  | 13 => ⟨2, 11, 0, false, false, false, true, false, false⟩
  | 14 => fl0 0 0 13
  | 15 => ⟨1, 0, 0, false, false, false, false, true, true⟩
  | 16 => fl0 0 9 0
  | 17 => fl0 0 9 0
  | 18 => flx 0 7 0
  | 19 => fl0 1 7 0
  | 20 => fl0 1 6 0
  | 21 => flx 0 8 0
  | 22 => fl0 0 10 0
  | 23 => ⟨0, 0, 0, false, false, true, false, false, false⟩
  | 24 => flx 0 0 0
  | _ => fl0 0 0 0
theorem cases24 {P : Nat → Prop} (o : Nat) (h : 1 ≤ o ∧ o ≤ 24) (h1 : P 1) (h2 : P 2) (h3 : P 3) (h4 : P 4) (h5 : P 5) (h6 : P 6) (h7 : P 7) (h8 : P 8) (h9 : P 9) (h10 : P 10) (h11 : P 11) (h12 : P 12)
    (h13 : P 13) (h14 : P 14) (h15 : P 15) (h16 : P 16) (h17 : P 17) (h18 : P 18) (h19 : P 19) (h20 : P 20) (h21 : P 21) (h22 : P 22) (h23 : P 23) (h24 : P 24) : P o := by
  rcases (show o = 1 ∨ o = 2 ∨ o = 3 ∨ o = 4 ∨ o = 5 ∨ o = 6 ∨ o = 7 ∨ o = 8 ∨ o = 9 ∨ o = 10 ∨ o = 11 ∨ o = 12 ∨ o = 13 ∨ o = 14 ∨ o = 15 ∨ o = 16 ∨ o = 17 ∨ o = 18 ∨ o = 19 ∨ o = 20 ∨ o = 21 ∨ o = 22 ∨ o = 23 ∨ o = 24 by omega)
    with rfl | rfl | rfl | rfl | rfl | rfl | rfl | rfl | rfl | rfl | rfl | rfl | rfl | rfl | rfl | rfl | rfl | rfl | rfl | rfl | rfl | rfl | rfl | rfl <;> assumption
theorem others_ok (o : Nat) (h : 1 ≤ o ∧ o ≤ 24) (ho : (11 ≤ o ∧ o ≤ 17) ∨ 22 ≤ o) : CallsA Tryz.prog 199 [it o] ct0 (encFl (tab o)) ct0 := by
  revert ho
  apply cases24 o h
  all_goals
    intro ho
    first
    | (exfalso; omega)
    | (refine fn_ok hm Tryz.func199 (fun _ => false) [] (fun _ => []) (by kernel_rfl) ?_
       refine run ?_
       exact Done.mk rfl rfl)
theorem table_ok (o : Nat) (h : 1 ≤ o ∧ o ≤ 24) : CallsA Tryz.prog 179 [it o] ct0 (encFl (tab o)) ct0 := by
  have c := others_ok o h
  revert c
  apply cases24 o h
  all_goals
    intro c
    first
    | (have c := c (by omega)
       refine fn_ok hm Tryz.func179 (fun _ => false) [] (fun _ => []) (by kernel_rfl) ?_
       refine run ?_; repeat ((apply call_ok; first | exact (c)); refine run ?_)
       exact Done.mk rfl rfl)
    | (refine fn_ok hm Tryz.func179 (fun _ => false) [] (fun _ => []) (by kernel_rfl) ?_
       refine run ?_
       exact Done.mk rfl rfl)
def NumOk (d : Df) (x : Dc) : Nat → Int → Prop
  | 0, n => n = 0
  | 1, n => (d.params.length : Int) ≤ n ∧ n ≤ d.vars - 1
  | 2, n => (d.params.length : Int) ≤ n ∧ n ≤ d.vars - 1
  | 3, n => 0 ≤ n ∧ n ≤ d.refs - 1
  | 4, n => 0 ≤ n ∧ n ≤ (d.arrays.length : Int) - 1
  | 5, n => 0 ≤ n ∧ n ≤ (x.globals.length : Int) - 1
  | 6, n => 0 ≤ n ∧ n ≤ (x.classes.length : Int) - 1
  | 7, n => 0 ≤ n ∧ n ≤ (x.queues.length : Int) - 1
  | 8, n => 0 ≤ n ∧ n ≤ (x.sinks.length : Int) - 1
  | 9, n => 0 ≤ n ∧ n ≤ x.locks - 1
  | 10, n => 0 ≤ n ∧ n ≤ x.parts - 1
  | 11, n => 1 ≤ n ∧ n ≤ 1073741824
  | 12, n => 1 ≤ n ∧ n ≤ 16
  | 13, n => 1 ≤ n ∧ n ≤ 31
  | _, _ => False
structure DfSm (d : Df) (x : Dc) : Prop where
  vars : d.vars < 2^40
  refs : d.refs < 2^40
  arrays : d.arrays.length < 2^40
  globals : x.globals.length < 2^40
  classes : x.classes.length < 2^40
  queues : x.queues.length < 2^40
  sinks : x.sinks.length < 2^40
  locks : x.locks < 2^40
  parts : x.parts < 2^40
  firms : x.firms < 2^40
theorem number_ok (d : Df) (x : Dc) (sm : DfSm d x) (w : Nat) (n : Int) (h : NumOk d x w n) : CallsA Tryz.prog 180 [encK d x, it w, it n] ct0 (bo true) ct0 := by
  have l1 : (d.params.map encR).length = d.params.length := List.length_map ..
  have l2 : (d.arrays.map encA).length = d.arrays.length := List.length_map ..
  have l3 : (x.globals.map encR).length = x.globals.length := List.length_map ..
  have l4 : (x.classes.map encR).length = x.classes.length := List.length_map ..
  have l5 : (x.queues.map encQ).length = x.queues.length := List.length_map ..
  have l6 : (x.sinks.map it).length = x.sinks.length := List.length_map ..
  obtain ⟨s1, s2, s3, s4, s5, s6, s7, s8, s9, s10⟩ := sm
  match w, h with
  | 0, h =>
    have e : bo true = bo (n == 0) := by rw [show n = 0 from h]; rfl
    rw [e]
    refine fn_ok hm Tryz.func180 (fun _ => false) [] (fun _ => []) (by kernel_rfl) ?_
    refine run ?_
    exact Done.mk rfl rfl
  | 2, h =>
    have h' : (d.params.length : Int) ≤ n ∧ n ≤ d.vars - 1 := h
    have b1 : (n == -1) = false := by simp; omega
    refine fn_ok hm Tryz.func180 (fun _ => false) [] (fun _ => []) (by kernel_rfl) ?_
    refine run ?_; repeat ((apply call_ok; first | exact (in_yes _ _ _ (by omega) (by omega))); refine run ?_)
    exact Done.mk rfl rfl
  | 1, h | 3, h | 4, h | 5, h | 6, h | 7, h | 8, h | 9, h | 10, h | 11, h | 12, h | 13, h =>
    simp only [NumOk] at h
    refine fn_ok hm Tryz.func180 (fun _ => false) [] (fun _ => []) (by kernel_rfl) ?_
    refine run ?_; repeat ((apply call_ok; first | exact (in_yes _ _ _ (by omega) (by omega))); refine run ?_)
    exact Done.mk rfl rfl
def VOk (d : Df) (e : Ex) : Prop := ∃ n, n ≤ 60 ∧ EOk d.vars d.arrays.length 10 e n
def XOk (d : Df) (b : Bool) (e : Ex) : Prop := match b with
  | true => VOk d e
  | false => e = zE
def TOk (d : Df) (b : Bool) (c : Co) : Prop := match b with
  | true => ∃ n, n ≤ 60 ∧ COk d.vars d.arrays.length 10 c n
  | false => c = zC
theorem value_ok (d : Df) (x : Dc) (sm : DfSm d x) (e : Ex) (h : VOk d e) : CallsA Tryz.prog 182 [encK d x, encE e] ct0 (bo true) ct0 := by
  obtain ⟨n, hn, h⟩ := h
  have c := shExpr_ok d x sm.vars sm.arrays h 1 rfl
  have b : bo true = bo (decide ((n : Int) ≤ 60)) := by rw [decide_eq_true (by omega)]
  rw [b]
  refine fn_ok hm Tryz.func182 (fun _ => false) [] (fun _ => []) (by kernel_rfl) ?_
  refine run ?_; repeat ((apply call_ok; first | exact (c)); refine run ?_)
  exact Done.mk rfl rfl
theorem field_ok (d : Df) (x : Dc) (sm : DfSm d x) (b : Bool) (e : Ex) (h : XOk d b e) : CallsA Tryz.prog 181 [bo b, encE e, .imm (encK d x) 0] ct0 (bo true) ct0 := by
  cases b with
  | true =>
    have c := value_ok d x sm e h
    refine fn_ok hm Tryz.func181 (fun _ => false) [] (fun _ => []) (by kernel_rfl) ?_
    refine run ?_; repeat ((apply call_ok; first | exact (c)); refine run ?_)
    exact Done.mk rfl rfl
  | false =>
    have h : e = zE := h
    subst h
    refine fn_ok hm Tryz.func181 (fun _ => false) [] (fun _ => []) (by kernel_rfl) ?_
    refine run ?_
    exact Done.mk rfl rfl
theorem ref_ok (d : Df) (x : Dc) (sm : DfSm d x) (n : Int) (h : NumOk d x 3 n) : CallsA Tryz.prog 184 [it n, .imm (encK d x) 0] ct0 (bo true) ct0 := by
  have c := number_ok d x sm 3 n h
  refine fn_ok hm Tryz.func184 (fun _ => false) [] (fun _ => []) (by kernel_rfl) ?_
  refine run ?_; repeat ((apply call_ok; first | exact (c)); refine run ?_)
  exact Done.mk rfl rfl
end Abs
namespace Abs
open Go Go.Proofs
set_option maxRecDepth 100000
set_option maxHeartbeats 4000000
theorem shCond_ok (d : Df) (x0 : Dc) (sm : DfSm d x0) : ∀ {k : Nat} {c : Co} {n : Nat}, COk d.vars d.arrays.length k c n → ∀ dep : Nat, dep + k = 11 → CallsA Tryz.prog 201 [encK d x0, encC c, it dep] ct0 (.tup [it n, bo true]) ct0 := by
  intro k c n h
  induction h with
  | test h ha hb =>
    rename_i k op a b x y
    intro dep hd
    have hp := ha.pos
    have sa := ha.sz
    have sb := hb.sz
    have hpw := Nat.pow_le_pow_right (n := 2) (by omega) (show k + 1 ≤ 12 by omega)
    have c1 := shExpr_ok d x0 sm.vars sm.arrays ha (dep + 1) (by omega)
    have c2 := shExpr_ok d x0 sm.vars sm.arrays hb (dep + 1) (by omega)
    cases a
    cases b
    have b1 : decide ((dep : Int) > 10) = false := decide_eq_false (by omega)
    have a1 : (dep : Int) + 1 = ((dep + 1 : Nat) : Int) := rfl
    have a2 : ((1 : Nat) : Int) + (x : Int) = ((1 + x : Nat) : Int) := by omega
    have a3 : ((1 + x : Nat) : Int) + (y : Int) = ((1 + x + y : Nat) : Int) := by omega
    rcases (show op = 2 ∨ op = 3 ∨ op = 4 by omega) with rfl | rfl | rfl
    all_goals
      refine fn_ok hm Tryz.func201 (fun _ => false) [] (fun _ => []) (by kernel_rfl) ?_
      refine run ?_
      refine LoopS.mk ⟨[], HeadS.lp (fun r : Seq => (r.k = 0 ∧ r.n = 1) ∨ (r.k = 1 ∧ r.n = 1 + x) ∨ (r.k = 2 ∧ r.n = 1 + x + y)) (fun r => ⟨[(53, it r.k), (10, it r.n)], [], []⟩) (fun r => 2 - r.k) ⟨0, 1⟩ (.inl ⟨rfl, rfl⟩) ?_⟩
      rintro ⟨j, m⟩ hJ
      dsimp only at hJ
      refine hJ.elim (fun hJ => ?_) (fun hJ => hJ.elim (fun hJ => ?_) (fun hJ => ?_))
      · obtain ⟨rfl, rfl⟩ := hJ
        refine run ?_; repeat ((apply call_ok; first | exact (c1)); refine run ?_)
        refine Idx.at rfl (by dsimp only; omega) rfl ?_
        refine run ?_; repeat ((apply call_ok; first | exact (c1)); refine run ?_)
        refine ⟨⟨⟨1, 1 + x⟩, .inr (.inl ⟨rfl, rfl⟩)⟩, (by dsimp only; omega), ?_⟩
        repeat' (first | exact trivial | exact rfl | refine ⟨?_, ?_⟩ | refine ⟨?_, ?_, ?_⟩)
      · obtain ⟨rfl, rfl⟩ := hJ
        refine run ?_; repeat ((apply call_ok; first | exact (c2)); refine run ?_)
        refine Idx.at rfl (by dsimp only; omega) rfl ?_
        refine run ?_; repeat ((apply call_ok; first | exact (c2)); refine run ?_)
        refine ⟨⟨⟨2, 1 + x + y⟩, .inr (.inr ⟨rfl, rfl⟩)⟩, (by dsimp only; omega), ?_⟩
        repeat' (first | exact trivial | exact rfl | refine ⟨?_, ?_⟩ | refine ⟨?_, ?_, ?_⟩)
      · obtain ⟨rfl, rfl⟩ := hJ
        refine run ?_
        refine LoopS.mk ⟨[], HeadS.lp (fun _ : Unit => True) (fun _ => ⟨[(74, it 0), (10, it (1 + x + y : Nat))], [], []⟩) (fun _ => 0) () trivial ?_⟩
        intro _ _
        refine run ?_
        exact Done.mk rfl rfl
  | not hc ih =>
    rename_i k c x
    intro dep hd
    have hp := hc.pos
    have sa := hc.sz
    have hpw := Nat.pow_le_pow_right (n := 2) (by omega) (show k + 1 ≤ 12 by omega)
    have c1 := ih (dep + 1) (by omega)
    cases c
    have b1 : decide ((dep : Int) > 10) = false := decide_eq_false (by omega)
    have a1 : (dep : Int) + 1 = ((dep + 1 : Nat) : Int) := rfl
    have a2 : ((1 : Nat) : Int) + (x : Int) = ((1 + x : Nat) : Int) := by omega
    refine fn_ok hm Tryz.func201 (fun _ => false) [] (fun _ => []) (by kernel_rfl) ?_
    refine run ?_
    refine LoopS.mk ⟨[], HeadS.lp (fun _ : Unit => True) (fun _ => ⟨[(53, it 0), (10, it 1)], [], []⟩) (fun _ => 0) () trivial ?_⟩
    intro _ _
    refine run ?_
    refine LoopS.mk ⟨[], HeadS.lp (fun r : Seq => (r.k = 0 ∧ r.n = 1) ∨ (r.k = 1 ∧ r.n = 1 + x)) (fun r => ⟨[(74, it r.k), (10, it r.n)], [], []⟩) (fun r => 1 - r.k) ⟨0, 1⟩ (.inl ⟨rfl, rfl⟩) ?_⟩
    rintro ⟨j, m⟩ hJ
    dsimp only at hJ
    refine hJ.elim (fun hJ => ?_) (fun hJ => ?_)
    · obtain ⟨rfl, rfl⟩ := hJ
      refine run ?_; repeat ((apply call_ok; first | exact (c1)); refine run ?_)
      refine Idx.at rfl (by dsimp only; omega) rfl ?_
      refine run ?_; repeat ((apply call_ok; first | exact (c1)); refine run ?_)
      refine ⟨⟨⟨1, 1 + x⟩, .inr ⟨rfl, rfl⟩⟩, (by dsimp only; omega), ?_⟩
      repeat' (first | exact trivial | exact rfl | refine ⟨?_, ?_⟩ | refine ⟨?_, ?_, ?_⟩)
    · obtain ⟨rfl, rfl⟩ := hJ
      refine run ?_
      exact Done.mk rfl rfl
  | and h ha hb iha ihb =>
    rename_i k op a b x y
    intro dep hd
    have hp := ha.pos
    have sa := ha.sz
    have sb := hb.sz
    have hpw := Nat.pow_le_pow_right (n := 2) (by omega) (show k + 1 ≤ 12 by omega)
    have c1 := iha (dep + 1) (by omega)
    have c2 := ihb (dep + 1) (by omega)
    cases a
    cases b
    have b1 : decide ((dep : Int) > 10) = false := decide_eq_false (by omega)
    have a1 : (dep : Int) + 1 = ((dep + 1 : Nat) : Int) := rfl
    have a2 : ((1 : Nat) : Int) + (x : Int) = ((1 + x : Nat) : Int) := by omega
    have a3 : ((1 + x : Nat) : Int) + (y : Int) = ((1 + x + y : Nat) : Int) := by omega
    rcases (show op = 6 ∨ op = 7 by omega) with rfl | rfl
    all_goals
      refine fn_ok hm Tryz.func201 (fun _ => false) [] (fun _ => []) (by kernel_rfl) ?_
      refine run ?_
      refine LoopS.mk ⟨[], HeadS.lp (fun _ : Unit => True) (fun _ => ⟨[(53, it 0), (10, it 1)], [], []⟩) (fun _ => 0) () trivial ?_⟩
      intro _ _
      refine run ?_
      refine LoopS.mk ⟨[], HeadS.lp (fun r : Seq => (r.k = 0 ∧ r.n = 1) ∨ (r.k = 1 ∧ r.n = 1 + x) ∨ (r.k = 2 ∧ r.n = 1 + x + y)) (fun r => ⟨[(74, it r.k), (10, it r.n)], [], []⟩) (fun r => 2 - r.k) ⟨0, 1⟩ (.inl ⟨rfl, rfl⟩) ?_⟩
      rintro ⟨j, m⟩ hJ
      dsimp only at hJ
      refine hJ.elim (fun hJ => ?_) (fun hJ => hJ.elim (fun hJ => ?_) (fun hJ => ?_))
      · obtain ⟨rfl, rfl⟩ := hJ
        refine run ?_; repeat ((apply call_ok; first | exact (c1)); refine run ?_)
        refine Idx.at rfl (by dsimp only; omega) rfl ?_
        refine run ?_; repeat ((apply call_ok; first | exact (c1)); refine run ?_)
        refine ⟨⟨⟨1, 1 + x⟩, .inr (.inl ⟨rfl, rfl⟩)⟩, (by dsimp only; omega), ?_⟩
        repeat' (first | exact trivial | exact rfl | refine ⟨?_, ?_⟩ | refine ⟨?_, ?_, ?_⟩)
      · obtain ⟨rfl, rfl⟩ := hJ
        refine run ?_; repeat ((apply call_ok; first | exact (c2)); refine run ?_)
        refine Idx.at rfl (by dsimp only; omega) rfl ?_
        refine run ?_; repeat ((apply call_ok; first | exact (c2)); refine run ?_)
        refine ⟨⟨⟨2, 1 + x + y⟩, .inr (.inr ⟨rfl, rfl⟩)⟩, (by dsimp only; omega), ?_⟩
        repeat' (first | exact trivial | exact rfl | refine ⟨?_, ?_⟩ | refine ⟨?_, ?_, ?_⟩)
      · obtain ⟨rfl, rfl⟩ := hJ
        refine run ?_
        exact Done.mk rfl rfl
theorem test_right (d : Df) (x : Dc) (sm : DfSm d x) (c : Co) (h : TOk d true c) : CallsA Tryz.prog 183 [encK d x, encC c] ct0 (bo true) ct0 := by
  obtain ⟨n, hn, h⟩ := h
  have c := shCond_ok d x sm h 1 rfl
  have b : bo true = bo (decide ((n : Int) ≤ 60)) := by rw [decide_eq_true (by omega)]
  rw [b]
  refine fn_ok hm Tryz.func183 (fun _ => false) [] (fun _ => []) (by kernel_rfl) ?_
  refine run ?_; repeat ((apply call_ok; first | exact (c)); refine run ?_)
  exact Done.mk rfl rfl
structure SOk (d : Df) (x0 : Dc) (o : Nat) (s : Sm) : Prop where
  op : s.op = o
  kind : 1 ≤ o ∧ o ≤ 24
  site : 1 ≤ s.site ∧ s.site ≤ 1073741824
  n : NumOk d x0 (tab o).n s.n
  m : NumOk d x0 (tab o).m s.m
  v : NumOk d x0 (tab o).v s.v
  x : XOk d (tab o).x s.x
  y : XOk d (tab o).y s.y
  c : TOk d (tab o).c s.c
  args : match (tab o).call with
    | true => ((∀ e ∈ s.args, VOk d e) ∧ s.args.length ≤ 12) ∧ (∀ p ∈ s.ptrs, NumOk d x0 3 p) ∧ s.ptrs.length ≤ 4
    | false => s.args = [] ∧ s.ptrs = []
  body : (tab o).body = true ∨ s.body = []
  els : (tab o).rest = true ∨ s.els = []
end Abs
namespace Abs
open Go Go.Proofs
set_option maxRecDepth 100000
set_option maxHeartbeats 4000000
theorem shStmt_ok (d : Df) (x0 : Dc) (sm : DfSm d x0) (o : Nat) (s : Sm) (h : SOk d x0 o s) : CallsA Tryz.prog 147 [encK d x0, encS s] ct0 (bo true) ct0 := by
  cases s with
  | mk site op n m v x y c args ptrs body els =>
  have hk := h.kind
  revert h
  apply cases24 o hk
  all_goals
    intro h
    have hop := h.op
    have hs : 1 ≤ site ∧ site ≤ 1073741824 := h.site
    have c0 := in_yes site 1 1073741824 hs.1 hs.2
    have c1 := table_ok _ h.kind
    have c2 := number_ok d x0 sm _ n h.n
    have c3 := number_ok d x0 sm _ m h.m
    have c4 := number_ok d x0 sm _ v h.v
    have c5 := field_ok d x0 sm _ x h.x
    have c6 := field_ok d x0 sm _ y h.y
    have c7 := fun h => test_right d x0 sm c h
    obtain rfl : op = _ := hop
    try (have ce : CallsA Tryz.prog 185 [.sl 4 (encEs args) false, it 12, .clo (.func 182) [encK d x0] []] ct0 (bo true) ct0 := by rw [encEs_map]; exact evE_ok d x0 args 12 (fun e he => value_ok d x0 sm e (h.args.1.1 e he)) (Int.ofNat_le.2 h.args.1.2) (by omega)
         have cp := evP_ok d x0 ptrs 4 (fun p hp => ref_ok d x0 sm p (h.args.2.1 p hp)) (Int.ofNat_le.2 h.args.2.2) (by omega))
    try (have q : c = zC := h.c; subst q)
    try (have q : args = [] ∧ ptrs = [] := h.args; obtain ⟨q1, q2⟩ := q; subst q1; subst q2)
    try (have q : body = [] := h.body.resolve_left Bool.false_ne_true; subst q)
    try (have q : els = [] := h.els.resolve_left Bool.false_ne_true; subst q)
    refine fn_ok hm Tryz.func147 (fun _ => false) [] (himm 2) (by kernel_rfl) ?_
    refine run ?_; repeat ((apply call_ok; first | exact (c1) | exact (c0) | exact (c2) | exact (c3) | exact (c4) | exact (c7 h.c) | exact (ce) | exact (cp) | exact (c5) | exact (c6)); refine run ?_)
    repeat (refine Arith.to (show _ = (0 : Int) from rfl) (by decide) (by decide) ?_; refine run ?_; repeat ((apply call_ok; first | exact (c1) | exact (c0) | exact (c2) | exact (c3) | exact (c4) | exact (c7 h.c) | exact (ce) | exact (cp) | exact (c5) | exact (c6)); refine run ?_))
    exact Done.mk rfl rfl
end Abs
namespace Abs
open Go Go.Proofs
set_option maxRecDepth 100000
set_option maxHeartbeats 4000000
def NmOk (s : List UInt8) : Prop := (∀ b ∈ s, 97 ≤ b.toNat ∧ b.toNat ≤ 122) ∧ 1 ≤ s.length ∧ s.length ≤ 20
theorem named_ok (s : List UInt8) (h : NmOk s) : CallsA Tryz.prog 145 [.str s] ct0 (bo true) ct0 := by
  have hl := h.2
  refine fn_ok hm Tryz.func145 (fun _ => false) [] (fun _ => []) (by kernel_rfl) ?_
  refine run ?_
  refine LoopS.mk ⟨[], HeadS.lp (fun k : Nat => k ≤ s.length) (fun k => ⟨[(8, it k)], [], []⟩) (fun k => s.length - k) 0 (Nat.zero_le _) ?_⟩
  intro k hJ
  by_cases hk : k < s.length
  · have b1 : decide ((k : Int) < (s.length : Nat)) = true := decide_eq_true (by omega)
    have hb := h.1 s[k] (List.getElem_mem hk)
    have b2 : decide ((97 : Int) ≤ (s[k].toNat : Nat)) = true := decide_eq_true (by omega)
    have b3 : decide (((s[k].toNat : Nat) : Int) ≤ 122) = true := decide_eq_true (by omega)
    have hs : nth s ((k : Int)).toNat = some s[k] := by rw [show ((k : Int)).toNat = k from rfl, nth_get hk]
    refine run ?_
    refine SIdx.mk ⟨_, by omega, hs, ?_⟩
    refine run ?_
    refine ⟨⟨k + 1, hk⟩, Nat.sub_lt_sub_left hk (Nat.lt_succ_self _), ?_⟩
    repeat' (first | exact trivial | exact rfl | refine ⟨?_, ?_⟩ | refine ⟨?_, ?_, ?_⟩)
  · have b1 : decide ((k : Int) < (s.length : Nat)) = false := decide_eq_false (by omega)
    refine run ?_; repeat ((apply call_ok; first | exact (in_yes _ _ _ (by omega) (by omega))); refine run ?_)
    exact Done.mk rfl rfl
structure ArOk (d : Df) (a : Ar) : Prop where
  len : 1 ≤ a.len ∧ a.len ≤ 64
  of' : 0 ≤ a.of' ∧ a.of' ≤ d.params.length
theorem array_right (d : Df) (a : Ar) (h : ArOk d a) : CallsA Tryz.prog 144 [encA a, .imm (encD d) 0] ct0 (bo true) ct0 := by
  have h1 := h.len
  have h2 := h.of'
  have l1 : (d.params.map encR).length = d.params.length := List.length_map ..
  refine fn_ok hm Tryz.func144 (fun _ => false) [] (fun _ => []) (by kernel_rfl) ?_
  refine run ?_; repeat ((apply call_ok; first | exact (in_yes _ _ _ (by omega) (by omega))); refine run ?_)
  exact Done.mk rfl rfl
def sitesL (l : List (Sm × Nat)) : List Int := l.map fun x => x.1.site
structure DfRight (d : Df) (x : Dc) : Prop where
  sm : DfSm d x
  id : 1 ≤ d.id ∧ d.id ≤ 1073741824
  site : 1 ≤ d.site ∧ d.site ≤ 1073741824
  name : NmOk d.name
  firm : 0 ≤ d.firm ∧ d.firm ≤ x.firms - 1
  part : 0 ≤ d.part ∧ d.part ≤ x.parts - 1
  vars : (d.params.length : Int) ≤ d.vars ∧ d.vars ≤ 12
  refs : (d.given.length : Int) ≤ d.refs ∧ d.refs ≤ 4
  budget : 1 ≤ d.budget ∧ d.budget ≤ 20000
  params : ∀ r ∈ d.params, RngOk r
  given : ∀ r ∈ d.given, RngOk r
  arrays : (∀ a ∈ d.arrays, ArOk d a) ∧ d.arrays.length ≤ 4
  size : szL d.body ≤ 199
  depth : ∀ z ∈ flL d.body 1, z.2 ≤ 10
  stmts : ∀ z ∈ flL d.body 1, ∃ o, SOk d x o z.1
  sites : (d.site :: sitesL (flL d.body 1)).Nodup
theorem look_in {m : Int} : ∀ {es : Mp Bool} {v : Bool}, mLook m es = some v → some (m, v) ∈ es
  | [], _, h => by cases h
  | some (k, w) :: r, v, h => by
    simp only [mLook] at h
    cases hb : m == k with
    | true =>
      rw [hb] at h; cases h
      have e : m = k := by simpa using hb
      subst e; exact List.mem_cons_self
    | false => rw [hb] at h; exact List.mem_cons_of_mem _ (look_in h)
  | none :: r, v, h => List.mem_cons_of_mem _ (look_in (es := r) h)
def setOf (l : List Int) : Mp Bool := l.map fun n => some (n, true)
theorem setOf_no {l : List Int} {n : Int} (h : n ∉ l) : mLook n (setOf l) = none := by
  cases e : mLook n (setOf l) with
  | none => rfl
  | some v =>
    obtain ⟨m, h1, h2⟩ := List.mem_map.1 (look_in e)
    cases h2; exact absurd h1 h
theorem mAt_no {l : List Int} {n : Int} (h : n ∉ l) : mAt n (setOf l) 0 = none := by
  cases e : mAt n (setOf l) 0 with
  | none => rfl
  | some i =>
    obtain ⟨_, _, _, _, _, _, h3⟩ := mAt_some e
    rw [setOf_no h] at h3; cases h3
theorem live_setOf : ∀ l : List Int, live (setOf l) = l.length
  | [] => rfl
  | x :: l => by show live (setOf l) + 1 = _; rw [live_setOf l]; rfl
theorem mcount_live {β : Type} (enc : β → Dat) : ∀ es : Mp β, mcount (es.map (slotD enc)) = (es.filter (·.isSome)).length
  | [] => rfl
  | some (k, v) :: r => by
    show mcount (r.map (slotD enc)) + 1 = _
    rw [mcount_live enc r]; simp
  | none :: r => by
    show mcount (r.map (slotD enc)) = _
    rw [mcount_live enc r]; simp
theorem mcount_setOf (l : List Int) : mcount ((setOf l).map (slotD bo)) = l.length := by
  rw [mcount_live]; unfold setOf; simp [List.filter_map]
theorem setOf_snoc (l : List Int) (n : Int) : (setOf l).map (slotD bo) ++ [.me (.int .i64 n) (bo true)] = (setOf (l ++ [n])).map (slotD bo) := by
  simp [setOf, slotD]
theorem sitesL_take {l : List (Sm × Nat)} {k : Nat} (h : k < l.length) : sitesL (l.take (k+1)) = sitesL (l.take k) ++ [l[k].1.site] := by
  unfold sitesL; rw [List.take_succ_eq_append_getElem h, List.map_append]; rfl
theorem site_new {s0 : Int} {l : List (Sm × Nat)} (h : (s0 :: sitesL l).Nodup) {k : Nat} (hk : k < l.length) : l[k].1.site ∉ s0 :: sitesL (l.take k) := by
  have e : l = l.take k ++ (l[k] :: l.drop (k+1)) := by rw [List.getElem_cons_drop, List.take_append_drop]
  rw [e, sitesL, List.map_append, List.map_cons, ← List.cons_append, List.nodup_append] at h
  intro hm
  exact h.2.2 _ hm _ (List.mem_cons_self) rfl
structure CM where
  k : Nat
  l : List Int
theorem shDef_ok (d : Df) (x0 : Dc) (h : DfRight d x0) : CallsA Tryz.prog 102 [encD d, .agg (cDc x0)] ct0 (it 0) ct0 := by
  have l1 : (d.params.map encR).length = d.params.length := List.length_map ..
  have l2 : (d.given.map encR).length = d.given.length := List.length_map ..
  have h1 := h.id
  have h2 := h.site
  have h3 := h.firm
  have h4 := h.part
  have h5 := h.vars
  have h6 := h.refs
  have h7 := h.budget
  have f1 := h.sm.firms
  have f2 := h.sm.parts
  have cn := named_ok d.name h.name
  have cp := evR_ok d.params 12 (fun r hr => rightRange_ok r (h.params r hr)) (by omega) (by omega)
  have cg := evR_ok d.given 4 (fun r hr => rightRange_ok r (h.given r hr)) (by omega) (by omega)
  have ca := evA_ok d d.arrays 4 (fun a ha => array_right d a (h.arrays.1 a ha)) (by have := h.arrays.2; omega) (by omega)
  have hsz := h.size
  have hI := all_iter d.body (by omega)
  have hlen := flL_len d.body 1
  have cst := fun (z : Sm × Nat) (hz : z ∈ flL d.body 1) => (h.stmts z hz).elim fun o ho => shStmt_ok d x0 h.sm o z.1 ho
  refine fn_ok hm Tryz.func102 (fun _ => false) [] (himm 2) (by kernel_rfl) ?_
  refine run ?_; repeat ((apply call_ok; first | exact (in_yes _ _ _ (by omega) (by omega)) | exact (cn) | exact (cp) | exact (cg) | exact (ca) | exact (all_ok d.body)); refine run ?_)
  refine MFind.mk ⟨none, rfl, ?_⟩
  refine run ?_; repeat ((apply call_ok; first | exact (all_ok d.body)); refine run ?_)
  refine RangeS.mk ⟨[], ?_⟩
  (conv => whnf)
  refine ⟨_, rfl, RoundS.map (flL d.body 1) encPl (fun r : CM => r.k ≤ (flL d.body 1).length ∧ r.l = d.site :: sitesL ((flL d.body 1).take r.k)) (fun r => ⟨[], [], [(82, mapR (setOf r.l))]⟩) (·.k) ⟨0, [d.site]⟩ hI (fun x => rfl) rfl ⟨Nat.zero_le _, rfl⟩ ?_ ?_ ?_ ?_ ?_ ?_⟩
  · repeat' (first | exact trivial | exact rfl | refine ⟨?_, ?_⟩ | refine ⟨?_, ?_, ?_⟩)
  · kernel_rfl
  · kernel_rfl
  · intro k; exact ⟨rfl, rfl, rfl, rfl⟩
  · intro r hJ hk
    have hn := site_new h.sites hk
    rw [← hJ.2] at hn
    have hd := h.depth _ (List.getElem_mem hk)
    have cs := cst _ (List.getElem_mem hk)
    have hll : r.l.length = r.k + 1 := by rw [hJ.2]; simp [sitesL]; omega
    have b1 : decide (((flL d.body 1)[r.k].2 : Int) > 10) = false := decide_eq_false (by omega)
    have b2 : decide (((mcount ((setOf r.l).map (slotD bo)) : Nat) : Int) > 200) = false := decide_eq_false (by rw [mcount_setOf]; omega)
    have hN : r.l ++ [(flL d.body 1)[r.k].1.site] = d.site :: sitesL ((flL d.body 1).take (r.k + 1)) := by rw [hJ.2, sitesL_take hk]; rfl
    have em := (setOf_snoc r.l (flL d.body 1)[r.k].1.site)
    have hf := mAt_no hn
    refine run ?_; repeat ((apply call_ok; first | exact (cs)); refine run ?_)
    refine MFind.no (setOf_no hn) ?_
    refine run ?_; repeat ((apply call_ok; first | exact (cs)); refine run ?_)
    refine MFind.mk ⟨none, (mfind_mAt bo _ _ 0).trans (congrArg some hf), ?_⟩
    refine run ?_
    refine ⟨⟨⟨r.k + 1, _⟩, ⟨hk, hN⟩⟩, rfl, ?_⟩
    repeat' (first | exact trivial | exact rfl | exact congrArg (fun x => some (Row.mk 0 true x)) em | refine And.intro ?_ ?_ | refine Holds.mk ?_ ?_ ?_)
  · intro r hJ hk
    refine run ?_
    exact Done.mk rfl rfl
end Abs
namespace Abs
open Go Go.Proofs
set_option maxRecDepth 100000
set_option maxHeartbeats 4000000
theorem Idx.mapG {α : Type} {xs : List α} {f : α → Dat} {i : Int} (k : Nat) (x : α) {n : Nat} {K : Dat → Prop} (e : i = k) (hx : xs[k]? = some x) (hn : n = (xs.map f).length) (h : K (f x)) : Idx n (xs.map f) i K := by
  obtain ⟨hk, rfl⟩ := List.getElem?_eq_some_iff.1 hx
  subst e; exact Idx.map hk hn h
def Mk.argsD (m : Mk) (a : Nat) : Nat → List Dat × Nat
  | 0 => ([], a)
  | i + 1 => ((m.argsD a i).1 ++ [encE (m.expr 1 (m.argsD a i).2).1], (m.expr 1 (m.argsD a i).2).2)
def Mk.args (m : Mk) (a : Nat) : Nat → List Ex × Nat
  | 0 => ([], a)
  | i + 1 => ((m.args a i).1 ++ [(m.expr 1 (m.args a i).2).1], (m.expr 1 (m.args a i).2).2)
theorem Mk.argsD_eq (m : Mk) (a : Nat) : ∀ i, m.argsD a i = ((m.args a i).1.map encE, (m.args a i).2)
  | 0 => rfl
  | i + 1 => by simp only [Mk.argsD, Mk.args, Mk.argsD_eq m a i]; simp
theorem Mk.argsD_at (m : Mk) (a : Nat) : ∀ i, (m.argsD a i).1.length = i ∧ a ≤ (m.argsD a i).2 ∧ (m.argsD a i).2 ≤ a + 6 * i
  | 0 => by simp [Mk.argsD]
  | i + 1 => by
    have h1 := Mk.argsD_at m a i
    have h2 := m.expr_at 1 (m.argsD a i).2
    simp only [useE] at h2
    simp only [Mk.argsD, List.length_append, List.length_cons, List.length_nil]; omega
def Mk.ptrsD (m : Mk) (a : Nat) : Nat → List Dat
  | 0 => []
  | i + 1 => m.ptrsD a i ++ [it (m.nx (a + i) 2)]
def Mk.ptrs (m : Mk) (a : Nat) : Nat → List Int
  | 0 => []
  | i + 1 => m.ptrs a i ++ [m.nx (a + i) 2]
theorem Mk.ptrsD_eq (m : Mk) (a : Nat) : ∀ i, m.ptrsD a i = (m.ptrs a i).map it
  | 0 => rfl
  | i + 1 => by simp only [Mk.ptrsD, Mk.ptrs, Mk.ptrsD_eq m a i]; simp
theorem Mk.ptrsD_len (m : Mk) (a : Nat) : ∀ i, (m.ptrsD a i).length = i
  | 0 => rfl
  | i + 1 => by simp only [Mk.ptrsD, List.length_append, Mk.ptrsD_len m a i]; rfl
def Mk.nH (m : Mk) : Int := ((m.heads.map encH).length : Nat)
def zEr : List Dat := [it 0, it 0, it 0, .sl 4 [] true]
def zCr : List Dat := [it 0, .sl 4 [] true, .sl 3 [] true]
def zH : Hd := ⟨0, 0, 0, [], []⟩
def Mk.hd (m : Mk) (a : Nat) : Hd := m.heads.getD (m.nx a m.nH).toNat zH
def Mk.call (m : Mk) (a s d : Nat) : Sm × Nat × Nat :=
  if m.heads.length = 0 ∨ 2 ≤ d then (S0 (s+1 : Nat) 1 (m.tg a) 0 0 (eNum 1) zE zC, a+1, d)
  else
    let h := m.hd (a+1)
    let x := m.args (a+1+1) h.params.length
    (.mk (s+1 : Nat) 13 (m.tg a) h.id 0 zE zE zC x.1 (m.ptrs x.2 h.given.length) [] [], x.2 + h.given.length, d+1)
theorem encS_call (x n h : Int) (es : List Ex) (ps : List Int) : encS (.mk x 13 n h 0 zE zE zC es ps [] []) = .agg ([it x, it 13, it n, it h, it 0] ++ (cE zE ++ (cE zE ++ (cC zC ++ [.sl 4 (es.map encE) false, .sl 1 (ps.map it) false, .sl 20 [] false, .sl 20 [] false])))) := by
  simp [encS, cS, Sm.site, Sm.op, Sm.n, Sm.m, Sm.v, Sm.x, Sm.y, Sm.c, Sm.args, Sm.ptrs, Sm.body, Sm.els, encEs_map, encSs, ints]
theorem mcall_ok (m : Mk) (a s l p d : Nat) (hc : m.calm = false) (h : a + 1000 < 2^60) (h' : s + 10 < 2^60) (hd : d < 2^60) (ok : m.Ok) (hh : ∀ h ∈ m.heads, h.params.length ≤ 12 ∧ h.given.length ≤ 12) (hl : m.heads.length < 2^30) :
    CallsA Tryz.prog 206 [mp] (ctM m a s l p d) (encS (m.call a s d).1) (ctM m (m.call a s d).2.1 (s+1) l p (m.call a s d).2.2) := by
  by_cases h0 : m.heads.length = 0 ∨ 2 ≤ d
  · have e : m.call a s d = (S0 (s+1 : Nat) 1 (m.tg a) 0 0 (eNum 1) zE zC, a+1, d) := by rw [Mk.call, if_pos h0]
    rw [e]
    refine (Bool.eq_false_or_eq_true ((((m.heads.map encH).length : Nat) : Int) == 0)).elim (fun h1 => ?_) (fun h1 => ?_)
    · refine fn_ok hm Tryz.func206 (fun _ => false) [] (fun _ => []) (by kernel_rfl) ?_
      refine run ?_; repeat ((apply call_ok; first | exact (site_ok m _ _ _ _ _ (by omega)) | exact (target_ok m _ _ _ _ _ (by omega) ok) | exact (num_ok _)); refine run ?_)
      exact Done.mk rfl rfl
    · have h2 : decide ((d : Int) ≥ 2) = true := by simp at h1; simp [h1] at h0; simp; omega
      refine fn_ok hm Tryz.func206 (fun _ => false) [] (fun _ => []) (by kernel_rfl) ?_
      refine run ?_; repeat ((apply call_ok; first | exact (site_ok m _ _ _ _ _ (by omega)) | exact (target_ok m _ _ _ _ _ (by omega) ok) | exact (num_ok _)); refine run ?_)
      exact Done.mk rfl rfl
  · have n1 : ((((m.heads.map encH).length : Nat) : Int) == 0) = false := by simp; intro e; simp [e] at h0
    have n2 : decide ((d : Int) ≥ 2) = false := by simp at h0 ⊢; omega
    have hb := m.nx_bd (a+1) (n := m.nH) (by simp [Mk.nH]; simp at h0; have := h0.1; cases hm : m.heads with | nil => exact absurd hm this | cons _ _ => simp)
    have hx : (m.nx (a+1) m.nH).toNat < m.heads.length := by have := hb.2; simp [Mk.nH] at this ⊢; omega
    have e0 : m.hd (a+1) = m.heads[(m.nx (a+1) m.nH).toNat] := by simp [Mk.hd, List.getD, hx]
    have hp := hh (m.hd (a+1)) (by rw [e0]; simp)
    have e : m.call a s d = (.mk (s+1 : Nat) 13 (m.tg a) (m.hd (a+1)).id 0 zE zE zC (m.args (a+1+1) (m.hd (a+1)).params.length).1 (m.ptrs (m.args (a+1+1) (m.hd (a+1)).params.length).2 (m.hd (a+1)).given.length) [] [], (m.args (a+1+1) (m.hd (a+1)).params.length).2 + (m.hd (a+1)).given.length, d+1) := by
      rw [Mk.call, if_neg h0]
    rw [e]
    refine fn_ok hm Tryz.func206 (fun _ => false) [] (fun _ => []) (by kernel_rfl) ?_
    refine run ?_; repeat ((apply call_ok; first | exact (site_ok m _ _ _ _ _ (by omega)) | exact (target_ok m _ _ _ _ _ (by omega) ok) | exact (num_ok _) | exact (next_ok m _ _ _ _ _ m.nH (by omega) (by omega))); refine run ?_)
    refine Idx.mapG (m.nx (a+1) m.nH).toNat (m.hd (a+1)) (by omega) (by rw [e0]; simp [hx]) rfl ?_
    refine run ?_
    refine Idx.mapG (m.nx (a+1) m.nH).toNat (m.hd (a+1)) (by omega) (by rw [e0]; simp [hx]) rfl ?_
    refine run ?_
    refine LoopS.mk ⟨[.cell 3 16 20010], HeadS.nat (((m.hd (a+1)).params.map encR).length) (fun _ => True) (fun k => ⟨[(5, it k)], [(3, .agg ([it (s+1 : Nat), it 13, it (m.tg a), it (m.hd (a+1)).id, it 0] ++ (zEr ++ (zEr ++ (zCr ++ [.ref 20010 (m.argsD (a+1+1) k).1.length, .sl 1 [] true, .sl 20 [] true, .sl 20 [] true]))))), (1000, encMk m (m.argsD (a+1+1) k).2 (s+1) l p (d+1))], [(20010, ⟨4, true, (m.argsD (a+1+1) k).1⟩)]⟩) (trivial) ?_ ?_ ?_ ?_ ?_⟩
    · repeat' (first | exact trivial | exact rfl | refine ⟨?_, ?_⟩ | refine ⟨?_, ?_, ?_⟩)
    · kernel_rfl
    · kernel_rfl
    · intro k; exact ⟨rfl, rfl, rfl⟩
    intro k hk hJ
    have ga := m.argsD_at (a+1+1) k
    have gl : ((m.hd (a+1)).params.map encR).length = (m.hd (a+1)).params.length := by simp
    have one : ∀ a, a + 6 < 2^60 → CallsA Tryz.prog 207 [mp, it 1] (ctM m a (s+1) l p (d+1)) (encE (m.expr 1 a).1) (ctM m ((m.expr 1 a).2) (s+1) l p (d+1)) := fun a h => expr_ok m (s+1) l p (d+1) (by have := ok.vars; have := m.nP_eq; omega) 1 a (by simp only [useE]; omega) (by omega)
    have ha := Nat.lt_or_ge k ((m.hd (a+1)).params.map encR).length
    refine Br.mk (fun hb => ?_) (fun hb => ?_)
    · have hk1 : k < ((m.hd (a+1)).params.map encR).length := by simpa using hb
      refine run ?_; repeat ((apply call_ok; first | exact (one _ (by omega))); refine run ?_)
      refine ⟨⟨k + 1, hk1, trivial⟩, Nat.sub_lt_sub_left hk1 (Nat.lt_succ_self k), ?_⟩
      repeat' (first | exact trivial | exact rfl | refine ⟨?_, ?_⟩ | refine ⟨?_, ?_, ?_⟩)
    · have hk1 : k = ((m.hd (a+1)).params.map encR).length := by simp at hb; omega
      have gp := m.ptrsD_len (m.argsD (a+1+1) k).2
      refine LoopS.mk ⟨[.cell 3 17 20016], HeadS.nat (((m.hd (a+1)).given.map encR).length) (fun _ => True) (fun j => ⟨[(6, it j)], [(3, .agg ([it (s+1 : Nat), it 13, it (m.tg a), it (m.hd (a+1)).id, it 0] ++ (zEr ++ (zEr ++ (zCr ++ [.ref 20010 (m.argsD (a+1+1) k).1.length, .ref 20016 (m.ptrsD (m.argsD (a+1+1) k).2 j).length, .sl 20 [] true, .sl 20 [] true]))))), (1000, encMk m ((m.argsD (a+1+1) k).2 + j) (s+1) l p (d+1))], [(20016, ⟨1, true, m.ptrsD (m.argsD (a+1+1) k).2 j⟩)]⟩) (trivial) ?_ ?_ ?_ ?_ ?_⟩
      · repeat' (first | exact trivial | exact rfl | refine ⟨?_, ?_⟩ | refine ⟨?_, ?_, ?_⟩)
      · kernel_rfl
      · kernel_rfl
      · intro k; exact ⟨rfl, rfl, rfl⟩
      intro j hj hJ2
      refine Br.mk (fun hb2 => ?_) (fun hb2 => ?_)
      · have hj1 : j < ((m.hd (a+1)).given.map encR).length := by simpa using hb2
        have gm : ((m.hd (a+1)).given.map encR).length = (m.hd (a+1)).given.length := by simp
        have gq := gp j
        refine run ?_; repeat ((apply call_ok; first | exact (next_ok m _ _ _ _ _ _ (by omega) (by omega))); refine run ?_)
        refine ⟨⟨j + 1, hj1, trivial⟩, Nat.sub_lt_sub_left hj1 (Nat.lt_succ_self j), ?_⟩
        repeat' (first | exact trivial | exact rfl | refine ⟨?_, ?_⟩ | refine ⟨?_, ?_, ?_⟩)
      · refine run ?_
        have hj1 : j = (m.hd (a+1)).given.length := by simp at hb2; simp at hj; omega
        subst hj1
        have hk2 : k = (m.hd (a+1)).params.length := by simpa using hk1
        subst hk2
        have e2 : (m.args (a+1+1) (m.hd (a+1)).params.length).1.map encE = (m.argsD (a+1+1) (m.hd (a+1)).params.length).1 := by rw [m.argsD_eq]
        have e4 : (m.args (a+1+1) (m.hd (a+1)).params.length).2 = (m.argsD (a+1+1) (m.hd (a+1)).params.length).2 := by rw [m.argsD_eq]
        refine Done.mk ?_ ?_
        · rw [encS_call, e2, e4, ← m.ptrsD_eq]; rfl
        · rw [e4]; rfl
end Abs
namespace Abs
open Go Go.Proofs
set_option maxRecDepth 100000
set_option maxHeartbeats 4000000
structure Ms where
  a : Nat
  s : Nat
  l : Nat
  d : Nat
def Mk.other (m : Mk) (k : Int) (dep : Nat) (x : Ms) : List Sm × Ms :=
  if 4 ≤ k ∧ k < 10 then ([(m.call x.a x.s x.d).1], ⟨(m.call x.a x.s x.d).2.1, x.s+1, x.l, (m.call x.a x.s x.d).2.2⟩)
  else if k = 10 then ([S0 (x.s+1 : Nat) 14 0 0 (1 + m.nx x.a 3) zE zE zC], ⟨x.a+1, x.s+1, x.l, x.d⟩)
  else if k = 11 ∧ dep < 2 then ([S0 (x.s+1 : Nat) 24 0 0 0 (m.expr 1 x.a).1 zE zC], ⟨(m.expr 1 x.a).2, x.s+1, x.l, x.d⟩)
  else if k < 4 then ((m.simple x.a x.s).1, ⟨(m.simple x.a x.s).2.1, (m.simple x.a x.s).2.2, x.l, x.d⟩)
  else ([(m.risky x.a x.s).1], ⟨(m.risky x.a x.s).2.1, (m.risky x.a x.s).2.2, x.l, x.d⟩)
def Mk.nested (m : Mk) (R : Nat → Ms → List Sm × Ms) (k : Int) (x : Ms) : Sm × Ms :=
  if k = 6 then
    let c := m.cond 1 x.a
    let b := R (1 + m.nx (c.2+1) 2).toNat ⟨c.2+1+1, x.s+1, x.l, x.d⟩
    (.mk (x.s+1 : Nat) 12 0 0 (1 + m.nx c.2 3) zE zE c.1 [] [] b.1 [], b.2)
  else if k = 7 then
    let b := R (1 + m.nx (x.a+1) 2).toNat ⟨x.a+1+1, x.s+1, x.l, x.d⟩
    let e := R (m.nx b.2.a 2).toNat ⟨b.2.a+1, b.2.s, b.2.l, b.2.d⟩
    (.mk (x.s+1 : Nat) 15 (m.tg x.a) 0 0 zE zE zC [] [] b.1 e.1, e.2)
  else
    let c := m.cond 1 x.a
    let b := R (1 + m.nx c.2 2).toNat ⟨c.2+1, x.s+1, x.l, x.d⟩
    let e := R (m.nx b.2.a 2).toNat ⟨b.2.a+1, b.2.s, b.2.l, b.2.d⟩
    (.mk (x.s+1 : Nat) 11 0 0 0 zE zE c.1 [] [] b.1 e.1, e.2)
def runS (step : Ms → List Sm × Ms) : Nat → Ms → List Sm × Ms
  | 0, x => ([], x)
  | n+1, x => if x.l = 0 then ([], x) else ((step x).1 ++ (runS step n (step x).2).1, (runS step n (step x).2).2)
def Mk.step (m : Mk) (dep : Nat) (R : Nat → Ms → List Sm × Ms) (x : Ms) : List Sm × Ms :=
  if 0 < dep ∧ 4 ≤ m.nx x.a 16 ∧ m.nx x.a 16 ≤ 7 then ([(m.nested R (m.nx x.a 16) ⟨x.a+1, x.s, x.l-1, x.d⟩).1], (m.nested R (m.nx x.a 16) ⟨x.a+1, x.s, x.l-1, x.d⟩).2)
  else m.other (m.nx x.a 16) dep ⟨x.a+1, x.s, x.l-1, x.d⟩
def Mk.stmts (m : Mk) : Nat → Nat → Ms → List Sm × Ms
  | 0, n, x => runS (m.step 0 fun _ x => ([], x)) n x
  | dep+1, n, x => runS (m.step (dep+1) (m.stmts dep)) n x
def Less (x y : Ms) : Prop := y.a + 200 * y.l ≤ x.a + 200 * x.l ∧ y.s + 10 * y.l ≤ x.s + 10 * x.l ∧ y.l ≤ x.l ∧ (x.d ≤ 2 → y.d ≤ 2)
theorem Less.refl (x : Ms) : Less x x := ⟨by omega, by omega, by omega, fun h => h⟩
theorem Less.trans {x y z : Ms} (h : Less x y) (k : Less y z) : Less x z := ⟨by have := h.1; have := k.1; omega, by have := h.2.1; have := k.2.1; omega, by have := h.2.2.1; have := k.2.2.1; omega, fun e => k.2.2.2 (h.2.2.2 e)⟩
theorem Mk.simple_use (m : Mk) (a s : Nat) : (m.simple a s).2.1 ≤ a + 40 ∧ (m.simple a s).2.2 ≤ s + 3 ∧ (m.simple a s).1.length ≤ 3 := by
  have h1 := m.expr_at 1 (a+1)
  have h2 := m.expr_at 2 (a+1+1)
  simp only [useE] at h1 h2
  unfold Mk.simple
  repeat' split
  all_goals (try dsimp only)
  all_goals refine ⟨by omega, by omega, by simp⟩
theorem ite_p {α : Type} {P : α → Prop} {c : Prop} [Decidable c] {x y : α} (hx : P x) (hy : P y) : P (if c then x else y) := by split <;> assumption
theorem Mk.risky_use (m : Mk) (a s : Nat) : (m.risky a s).2.1 ≤ a + 40 ∧ (m.risky a s).2.2 ≤ s + 3 := by
  have h1 := m.expr_at 1 (a+1)
  have h2 := m.expr_at 1 (a+1+1)
  have h3 := m.expr_at 1 (a+1+1+1)
  have h4 := m.expr_at 1 (m.expr 1 (a+1+1)).2
  have h5 := m.cond_at 1 (a+1)
  simp only [useE, useC] at h1 h2 h3 h4 h5
  have key : (fun z : Sm × Nat × Nat => z.2.1 ≤ a + 40 ∧ z.2.2 ≤ s + 3) (m.risky a s) := by
    unfold Mk.risky
    repeat' refine ite_p (P := fun z : Sm × Nat × Nat => z.2.1 ≤ a + 40 ∧ z.2.2 ≤ s + 3) ?_ ?_
    all_goals dsimp only
    all_goals omega
  exact key
theorem Mk.args_at (m : Mk) (a i : Nat) : a ≤ (m.args a i).2 ∧ (m.args a i).2 ≤ a + 6 * i := by
  have h := m.argsD_at a i
  rw [m.argsD_eq] at h
  exact h.2
theorem Mk.hd_mem (m : Mk) (a : Nat) (P : Hd → Prop) (hP : ∀ h ∈ m.heads, P h) (h0 : P zH) : P (m.hd a) := by
  unfold Mk.hd
  rw [List.getD_eq_getElem?_getD]
  cases h : m.heads[(m.nx a m.nH).toNat]? with
  | none => exact h0
  | some x => exact hP x (List.mem_of_getElem? h)
theorem Mk.call_use (m : Mk) (a s d : Nat) (hh : ∀ h ∈ m.heads, h.params.length ≤ 12 ∧ h.given.length ≤ 12) : (m.call a s d).2.1 ≤ a + 100 ∧ (d ≤ 2 → (m.call a s d).2.2 ≤ 2) := by
  have h0 := m.hd_mem (a+1) _ hh (by simp [zH])
  have h1 := m.args_at (a+1+1) (m.hd (a+1)).params.length
  unfold Mk.call
  split
  · simp only; omega
  · simp only; omega
theorem Mk.other_use (m : Mk) (k : Int) (dep : Nat) (x : Ms) (hh : ∀ h ∈ m.heads, h.params.length ≤ 12 ∧ h.given.length ≤ 12) :
    (m.other k dep x).2.a ≤ x.a + 100 ∧ (m.other k dep x).2.s ≤ x.s + 3 ∧ (m.other k dep x).2.l = x.l ∧ (x.d ≤ 2 → (m.other k dep x).2.d ≤ 2) ∧ (m.other k dep x).1.length ≤ 3 := by
  have h1 := m.call_use x.a x.s x.d hh
  have h2 := m.simple_use x.a x.s
  have h3 := m.risky_use x.a x.s
  have h4 := m.expr_at 1 x.a
  simp only [useE] at h4
  unfold Mk.other
  repeat' split
  all_goals dsimp only
  all_goals refine ⟨?_, ?_, rfl, ?_, ?_⟩
  all_goals first | omega | simp | exact h1.2 | exact h2.2.2 | exact fun h => h
theorem Mk.nested_use (m : Mk) {R : Nat → Ms → List Sm × Ms} (hR : ∀ n x, Less x (R n x).2) (k : Int) (x : Ms) :
    (m.nested R k x).2.a + 200 * (m.nested R k x).2.l ≤ x.a + 100 + 200 * x.l ∧ (m.nested R k x).2.s + 10 * (m.nested R k x).2.l ≤ x.s + 3 + 10 * x.l ∧ (m.nested R k x).2.l ≤ x.l ∧ (x.d ≤ 2 → (m.nested R k x).2.d ≤ 2) := by
  have h1 := m.cond_at 1 x.a
  simp only [useC] at h1
  unfold Mk.nested
  split
  · have h2 := hR (1 + m.nx ((m.cond 1 x.a).2+1) 2).toNat ⟨(m.cond 1 x.a).2+1+1, x.s+1, x.l, x.d⟩
    simp only [Less] at h2 ⊢; omega
  split
  · have h2 := hR (1 + m.nx (x.a+1) 2).toNat ⟨x.a+1+1, x.s+1, x.l, x.d⟩
    have h3 := hR (m.nx (R (1 + m.nx (x.a+1) 2).toNat ⟨x.a+1+1, x.s+1, x.l, x.d⟩).2.a 2).toNat ⟨(R (1 + m.nx (x.a+1) 2).toNat ⟨x.a+1+1, x.s+1, x.l, x.d⟩).2.a+1, (R (1 + m.nx (x.a+1) 2).toNat ⟨x.a+1+1, x.s+1, x.l, x.d⟩).2.s, (R (1 + m.nx (x.a+1) 2).toNat ⟨x.a+1+1, x.s+1, x.l, x.d⟩).2.l, (R (1 + m.nx (x.a+1) 2).toNat ⟨x.a+1+1, x.s+1, x.l, x.d⟩).2.d⟩
    simp only [Less] at h2 h3 ⊢; omega
  · have h2 := hR (1 + m.nx (m.cond 1 x.a).2 2).toNat ⟨(m.cond 1 x.a).2+1, x.s+1, x.l, x.d⟩
    have h3 := hR (m.nx (R (1 + m.nx (m.cond 1 x.a).2 2).toNat ⟨(m.cond 1 x.a).2+1, x.s+1, x.l, x.d⟩).2.a 2).toNat ⟨(R (1 + m.nx (m.cond 1 x.a).2 2).toNat ⟨(m.cond 1 x.a).2+1, x.s+1, x.l, x.d⟩).2.a+1, (R (1 + m.nx (m.cond 1 x.a).2 2).toNat ⟨(m.cond 1 x.a).2+1, x.s+1, x.l, x.d⟩).2.s, (R (1 + m.nx (m.cond 1 x.a).2 2).toNat ⟨(m.cond 1 x.a).2+1, x.s+1, x.l, x.d⟩).2.l, (R (1 + m.nx (m.cond 1 x.a).2 2).toNat ⟨(m.cond 1 x.a).2+1, x.s+1, x.l, x.d⟩).2.d⟩
    simp only [Less] at h2 h3 ⊢; omega
theorem Mk.step_use (m : Mk) (hh : ∀ h ∈ m.heads, h.params.length ≤ 12 ∧ h.given.length ≤ 12) (dep : Nat) {R : Nat → Ms → List Sm × Ms} (hR : ∀ n x, Less x (R n x).2) (x : Ms) (hl : x.l ≠ 0) :
    Less x (m.step dep R x).2 ∧ (m.step dep R x).1.length ≤ 3 := by
  have h1 := m.other_use (m.nx x.a 16) dep ⟨x.a+1, x.s, x.l-1, x.d⟩ hh
  have h2 := m.nested_use hR (m.nx x.a 16) ⟨x.a+1, x.s, x.l-1, x.d⟩
  unfold Mk.step
  split
  · simp only [Less, List.length_cons, List.length_nil] at h2 ⊢; omega
  · simp only [Less] at h1 ⊢; omega
theorem runS_use {step : Ms → List Sm × Ms} (h : ∀ x, x.l ≠ 0 → Less x (step x).2) : ∀ n x, Less x (runS step n x).2
  | 0, x => Less.refl x
  | n+1, x => by
    simp only [runS]
    split
    · exact Less.refl x
    · rename_i hl
      exact (h x hl).trans (runS_use h n _)
theorem Mk.stmts_use (m : Mk) (hh : ∀ h ∈ m.heads, h.params.length ≤ 12 ∧ h.given.length ≤ 12) : ∀ dep n x, Less x (m.stmts dep n x).2
  | 0, n, x => runS_use (fun x hl => (m.step_use hh 0 (fun _ x => Less.refl x) x hl).1) n x
  | dep+1, n, x => runS_use (fun x hl => (m.step_use hh (dep+1) (m.stmts_use hh dep) x hl).1) n x
end Abs
namespace Abs
open Go Go.Proofs
set_option maxRecDepth 100000
set_option maxHeartbeats 4000000
structure Mk.Fine (m : Mk) : Prop where
  ok : m.Ok
  calm : m.calm = false
  heads : ∀ h ∈ m.heads, h.params.length ≤ 12 ∧ h.given.length ≤ 12
  nh : m.heads.length < 2^30
theorem other_ok (m : Mk) (k : Int) (dep a s l p d : Nat) (fine : m.Fine) (h : a + 1000 < 2^60) (h' : s + 10 < 2^60) (hd : d < 2^60) (hk : 0 ≤ k ∧ k < 16) :
    CallsA Tryz.prog 187 [mp, it k, it dep] (ctM m a s l p d) (lst 20 encS (m.other k dep ⟨a, s, l, d⟩).1) (ctM m (m.other k dep ⟨a, s, l, d⟩).2.a (m.other k dep ⟨a, s, l, d⟩).2.s l p (m.other k dep ⟨a, s, l, d⟩).2.d) := by
  have hc := fine.calm
  have hc' : (!m.calm) = true := by simp [hc]
  have hv : 0 < m.D.vars := by have := fine.ok.vars; have := m.nP_eq; omega
  have one : ∀ a, a + 6 < 2^60 → CallsA Tryz.prog 207 [mp, it 1] (ctM m a (s+1) l p d) (encE (m.expr 1 a).1) (ctM m ((m.expr 1 a).2) (s+1) l p d) := fun a h => expr_ok m (s+1) l p d hv 1 a (by simp only [useE]; omega) (by omega)
  by_cases c1 : 4 ≤ k ∧ k < 10
  · have e : m.other k dep ⟨a, s, l, d⟩ = ([(m.call a s d).1], ⟨(m.call a s d).2.1, s+1, l, (m.call a s d).2.2⟩) := by rw [Mk.other, if_pos c1]
    have e1 : decide (k ≥ 4) = true := by simp; omega
    have e2 : decide (k < 10) = true := by simp; omega
    rw [e]
    refine fn_ok hm Tryz.func187 (fun _ => false) [] (fun _ => []) (by kernel_rfl) ?_
    refine run ?_; repeat ((apply call_ok; first | exact (mcall_ok m a s l p d hc h h' hd fine.ok fine.heads fine.nh)); refine run ?_)
    exact Done.mk rfl rfl
  have e12 : (decide (k ≥ 4) && decide (k < 10)) = false := by simp; omega
  by_cases c2 : k = 10
  · have e : m.other k dep ⟨a, s, l, d⟩ = ([S0 (s+1 : Nat) 14 0 0 (1 + m.nx a 3) zE zE zC], ⟨a+1, s+1, l, d⟩) := by rw [Mk.other, if_neg c1, if_pos c2]
    have b := m.nx_bd a (n := 3) (by omega)
    rw [e]; subst c2
    refine fn_ok hm Tryz.func187 (fun _ => false) [] (fun _ => []) (by kernel_rfl) ?_
    refine run ?_; repeat ((apply call_ok; first | exact (site_ok m _ _ _ _ _ (by omega)) | exact (next_ok m _ _ _ _ _ _ (by omega) (by omega))); refine run ?_)
    exact Done.mk rfl rfl
  have e3 : (k == 10) = false := by simpa using c2
  by_cases c3 : k = 11 ∧ dep < 2
  · have e : m.other k dep ⟨a, s, l, d⟩ = ([S0 (s+1 : Nat) 24 0 0 0 (m.expr 1 a).1 zE zC], ⟨(m.expr 1 a).2, s+1, l, d⟩) := by rw [Mk.other, if_neg c1, if_neg c2, if_pos c3]
    have e6 : decide ((dep : Int) < 2) = true := by simp; omega
    rw [e]; obtain ⟨rfl, _⟩ := c3
    refine fn_ok hm Tryz.func187 (fun _ => false) [] (fun _ => []) (by kernel_rfl) ?_
    refine run ?_; repeat ((apply call_ok; first | exact (site_ok m _ _ _ _ _ (by omega)) | exact (one _ (by omega))); refine run ?_)
    exact Done.mk rfl rfl
  by_cases c4 : k < 4
  · have e : m.other k dep ⟨a, s, l, d⟩ = ((m.simple a s).1, ⟨(m.simple a s).2.1, (m.simple a s).2.2, l, d⟩) := by rw [Mk.other, if_neg c1, if_neg c2, if_neg c3, if_pos c4]
    have e1 : decide (k ≥ 4) = false := by simp; omega
    have e4 : (k == 11) = false := by simp; omega
    have e5 : decide (k < 4) = true := by simpa using c4
    rw [e]
    refine fn_ok hm Tryz.func187 (fun _ => false) [] (fun _ => []) (by kernel_rfl) ?_
    refine run ?_; repeat ((apply call_ok; first | exact (simple_ok m a s l p d (by omega) (by omega) fine.ok)); refine run ?_)
    exact Done.mk rfl rfl
  · have e : m.other k dep ⟨a, s, l, d⟩ = ([(m.risky a s).1], ⟨(m.risky a s).2.1, (m.risky a s).2.2, l, d⟩) := by rw [Mk.other, if_neg c1, if_neg c2, if_neg c3, if_neg c4]
    have e1 : decide (k ≥ 4) = true := by simp; omega
    have e2 : decide (k < 10) = false := by simp; omega
    have e5 : decide (k < 4) = false := by simpa using c4
    rw [e]
    refine (Bool.eq_false_or_eq_true (k == 11)).elim (fun e4 => ?_) (fun e4 => ?_)
    · have e6 : decide ((dep : Int) < 2) = false := by simp at e4 c3 ⊢; have := c3 e4; omega
      refine fn_ok hm Tryz.func187 (fun _ => false) [] (fun _ => []) (by kernel_rfl) ?_
      refine run ?_; repeat ((apply call_ok; first | exact (risky_ok m a s l p d (by omega) (by omega) fine.ok)); refine run ?_)
      exact Done.mk rfl rfl
    · refine fn_ok hm Tryz.func187 (fun _ => false) [] (fun _ => []) (by kernel_rfl) ?_
      refine run ?_; repeat ((apply call_ok; first | exact (risky_ok m a s l p d (by omega) (by omega) fine.ok)); refine run ?_)
      exact Done.mk rfl rfl
def ListOk (m : Mk) (pb : Nat) (l' : Int) (R : Nat → Ms → List Sm × Ms) : Prop :=
  ∀ (n a s l p d : Nat), n ≤ 2 → a + 200 * l + 1000 < 2^59 → s + 10 * l + 100 < 2^59 → d ≤ 2 → p < pb → l < 2^50 →
    CallsA Tryz.prog 149 [mp, it n, it l'] (ctM m a s l p d) (lst 20 encS (R n ⟨a, s, l, d⟩).1) (ctM m (R n ⟨a, s, l, d⟩).2.a (R n ⟨a, s, l, d⟩).2.s (R n ⟨a, s, l, d⟩).2.l p (R n ⟨a, s, l, d⟩).2.d)
theorem encS_nest (x o n v : Int) (c : Co) (b e : List Sm) : encS (.mk x o n 0 v zE zE c [] [] b e) = .agg ([it x, it o, it n, it 0, it v] ++ (cE zE ++ (cE zE ++ (cC c ++ [.sl 4 [] false, .sl 1 [] false, lst 20 encS b, lst 20 encS e])))) := by
  simp [encS, cS, Sm.site, Sm.op, Sm.n, Sm.m, Sm.v, Sm.x, Sm.y, Sm.c, Sm.args, Sm.ptrs, Sm.body, Sm.els, encEs, encSs_map, ints, lst]
theorem nested_no (m : Mk) (k : Int) (dep a s l p d : Nat) (h : dep = 0 ∨ k < 4 ∨ 7 < k) : CallsA Tryz.prog 186 [mp, it k, it dep] (ctM m a s l p d) (.tup [encS (S0 0 0 0 0 0 zE zE zC), bo false]) (ctM m a s l p d) := by
  refine (Bool.eq_false_or_eq_true ((dep : Int) == 0)).elim (fun e1 => ?_) (fun e1 => ?_)
  · refine fn_ok hm Tryz.func186 (fun _ => false) [] (fun _ => []) (by kernel_rfl) ?_
    refine run ?_
    exact Done.mk rfl rfl
  refine (Bool.eq_false_or_eq_true (decide (k < 4))).elim (fun e2 => ?_) (fun e2 => ?_)
  · refine fn_ok hm Tryz.func186 (fun _ => false) [] (fun _ => []) (by kernel_rfl) ?_
    refine run ?_
    exact Done.mk rfl rfl
  have e3 : decide (k > 7) = true := by simp at e1 e2 ⊢; omega
  refine fn_ok hm Tryz.func186 (fun _ => false) [] (fun _ => []) (by kernel_rfl) ?_
  refine run ?_
  exact Done.mk rfl rfl
theorem nested_ok (m : Mk) (k : Int) (dep a s l p d : Nat) (fine : m.Fine) (h : a + 200 * l + 1100 < 2^59) (h' : s + 10 * l + 103 < 2^59) (hd : d ≤ 2) {pb : Nat} (hpb : pb ≤ 2^58) (hp : p + 1 < pb) (hl : l < 2^50) (hk : 4 ≤ k ∧ k ≤ 7) (hdep : dep < 2^50)
    {R : Nat → Ms → List Sm × Ms} (hR : ListOk m pb (((dep+1 : Nat) : Int) - 1) R) (hu : ∀ n x, Less x (R n x).2) :
    CallsA Tryz.prog 186 [mp, it k, it (dep+1 : Nat)] (ctM m a s l p d) (.tup [encS (m.nested R k ⟨a, s, l, d⟩).1, bo true]) (ctM m (m.nested R k ⟨a, s, l, d⟩).2.a (m.nested R k ⟨a, s, l, d⟩).2.s (m.nested R k ⟨a, s, l, d⟩).2.l p (m.nested R k ⟨a, s, l, d⟩).2.d) := by
  have hv : 0 < m.D.vars := by have := fine.ok.vars; have := m.nP_eq; omega
  have e1 : (((dep+1 : Nat) : Int) == 0) = false := by simp; omega
  have e2 : decide (k < 4) = false := by simp; omega
  have e3 : decide (k > 7) = false := by simp; omega
  have c1 : CallsA Tryz.prog 204 [mp, it 1] (ctM m a (s+1) l p d) (encC (m.cond 1 a).1) (ctM m ((m.cond 1 a).2) (s+1) l p d) := cond_ok m (s+1) l p d hv 1 a (by simp only [useC]; omega) (by omega)
  have g1 := m.cond_at 1 a
  simp only [useC] at g1
  by_cases k6 : k = 6
  · subst k6
    have b1 := m.nx_bd (m.cond 1 a).2 (n := 3) (by omega)
    have b2 := m.nx_bd ((m.cond 1 a).2+1) (n := 2) (by omega)
    have n1 : ((1 + m.nx ((m.cond 1 a).2+1) 2).toNat : Int) = 1 + m.nx ((m.cond 1 a).2+1) 2 := by omega
    have r1 := hR (1 + m.nx ((m.cond 1 a).2+1) 2).toNat ((m.cond 1 a).2+1+1) (s+1) l (p+1) d (by omega) (by omega) (by omega) hd hp hl
    rw [n1] at r1
    have e : m.nested R 6 ⟨a, s, l, d⟩ = (.mk (s+1 : Nat) 12 0 0 (1 + m.nx (m.cond 1 a).2 3) zE zE (m.cond 1 a).1 [] [] (R (1 + m.nx ((m.cond 1 a).2+1) 2).toNat ⟨(m.cond 1 a).2+1+1, s+1, l, d⟩).1 [], (R (1 + m.nx ((m.cond 1 a).2+1) 2).toNat ⟨(m.cond 1 a).2+1+1, s+1, l, d⟩).2) := by rw [Mk.nested, if_pos rfl]
    rw [e]
    have p1 : ((p + 1 : Nat) : Int) - 1 = p := by omega
    refine fn_ok hm Tryz.func186 (fun _ => false) [] (fun _ => []) (by kernel_rfl) ?_
    refine run ?_; repeat ((apply call_ok; first | exact (site_ok m _ _ _ _ _ (by omega)) | exact (c1) | exact (next_ok m _ _ _ _ _ _ (by omega) (by omega)) | exact (r1)); refine run ?_)
    exact Done.mk (by rw [encS_nest]; rfl) rfl
  by_cases k7 : k = 7
  · subst k7
    have b2 := m.nx_bd (a+1) (n := 2) (by omega)
    have n1 : ((1 + m.nx (a+1) 2).toNat : Int) = 1 + m.nx (a+1) 2 := by omega
    have u1 := hu (1 + m.nx (a+1) 2).toNat ⟨a+1+1, s+1, l, d⟩
    have r1 := hR (1 + m.nx (a+1) 2).toNat (a+1+1) (s+1) l p d (by omega) (by omega) (by omega) hd (by omega) hl
    generalize hb : R (1 + m.nx (a+1) 2).toNat ⟨a+1+1, s+1, l, d⟩ = b at *
    have b3 := m.nx_bd b.2.a (n := 2) (by omega)
    have n2 : ((m.nx b.2.a 2).toNat : Int) = m.nx b.2.a 2 := by omega
    simp only [Less] at u1
    have r2 := hR (m.nx b.2.a 2).toNat (b.2.a+1) b.2.s b.2.l p b.2.d (by omega) (by omega) (by omega) (by omega) (by omega) (by omega)
    rw [n1] at r1
    rw [n2] at r2
    have e : m.nested R 7 ⟨a, s, l, d⟩ = (.mk (s+1 : Nat) 15 (m.tg a) 0 0 zE zE zC [] [] b.1 (R (m.nx b.2.a 2).toNat ⟨b.2.a+1, b.2.s, b.2.l, b.2.d⟩).1, (R (m.nx b.2.a 2).toNat ⟨b.2.a+1, b.2.s, b.2.l, b.2.d⟩).2) := by
      rw [Mk.nested, if_neg (by omega), if_pos rfl]; simp only [hb]
    rw [e]
    refine fn_ok hm Tryz.func186 (fun _ => false) [] (fun _ => []) (by kernel_rfl) ?_
    refine run ?_; repeat ((apply call_ok; first | exact (site_ok m _ _ _ _ _ (by omega)) | exact (target_ok m _ _ _ _ _ (by omega) fine.ok) | exact (r1) | exact (r2) | exact (next_ok m _ _ _ _ _ _ (by omega) (by omega))); refine run ?_)
    exact Done.mk (by rw [encS_nest]; rfl) rfl
  · have k67 : (k == 6) = false := by simpa using k6
    have k77 : (k == 7) = false := by simpa using k7
    have b2 := m.nx_bd (m.cond 1 a).2 (n := 2) (by omega)
    have n1 : ((1 + m.nx (m.cond 1 a).2 2).toNat : Int) = 1 + m.nx (m.cond 1 a).2 2 := by omega
    have u1 := hu (1 + m.nx (m.cond 1 a).2 2).toNat ⟨(m.cond 1 a).2+1, s+1, l, d⟩
    have r1 := hR (1 + m.nx (m.cond 1 a).2 2).toNat ((m.cond 1 a).2+1) (s+1) l p d (by omega) (by omega) (by omega) hd (by omega) hl
    generalize hb : R (1 + m.nx (m.cond 1 a).2 2).toNat ⟨(m.cond 1 a).2+1, s+1, l, d⟩ = b at *
    have b3 := m.nx_bd b.2.a (n := 2) (by omega)
    have n2 : ((m.nx b.2.a 2).toNat : Int) = m.nx b.2.a 2 := by omega
    simp only [Less] at u1
    have r2 := hR (m.nx b.2.a 2).toNat (b.2.a+1) b.2.s b.2.l p b.2.d (by omega) (by omega) (by omega) (by omega) (by omega) (by omega)
    rw [n1] at r1
    rw [n2] at r2
    have e : m.nested R k ⟨a, s, l, d⟩ = (.mk (s+1 : Nat) 11 0 0 0 zE zE (m.cond 1 a).1 [] [] b.1 (R (m.nx b.2.a 2).toNat ⟨b.2.a+1, b.2.s, b.2.l, b.2.d⟩).1, (R (m.nx b.2.a 2).toNat ⟨b.2.a+1, b.2.s, b.2.l, b.2.d⟩).2) := by
      rw [Mk.nested, if_neg k6, if_neg k7]; simp only [hb]
    rw [e]
    refine fn_ok hm Tryz.func186 (fun _ => false) [] (fun _ => []) (by kernel_rfl) ?_
    refine run ?_; repeat ((apply call_ok; first | exact (site_ok m _ _ _ _ _ (by omega)) | exact (c1) | exact (r1) | exact (r2) | exact (next_ok m _ _ _ _ _ _ (by omega) (by omega))); refine run ?_)
    exact Done.mk (by rw [encS_nest]; rfl) rfl
end Abs
namespace Abs
open Go Go.Proofs
set_option maxRecDepth 100000
set_option maxHeartbeats 4000000
theorem HeadS.inv {W : List Nat} {body : St → (Out → St → Prop) → Prop} {K : Out → St → Prop} {s : St} {ι : Type} (J : ι → Prop) (m : ι → Mods) (μ : ι → Nat) (i0 : ι) (h0 : J i0) (hh : Holds s (s.with W (m i0)) (m i0))
    (hd : deadH s W = true) (hr : deadR s (rowDsts W) = true) (ht : ∀ i, tidy W (rowDsts W) (m i) = true ∧ liveH s (m i).H = true ∧ liveR s (m i).R = true)
    (hb : ∀ i, J i → body (s.with W (m i)) fun e s' => match e with
        | .normal => ∃ j : { i // J i }, μ j.1 < μ i ∧ s'.y = s.y ∧ Holds s' (s.with W (m j.1)) (m j.1)
        | e => K e s') : HeadS W body K s :=
  ⟨{ i // J i }, ⟨i0, h0⟩, fun i => m i.1, fun _ => s.y, fun i => μ i.1, ⟨rfl, hh⟩, hd, hr, fun i => ⟨ht i.1, hb i.1 i.2⟩⟩
structure Rnd where
  i : Nat
  acc : List Dat
  x : Ms
structure RndOk (step : Ms → List Sm × Ms) (n : Nat) (x0 : Ms) (r : Rnd) : Prop where
  i : r.i ≤ n
  out : r.acc ++ (runS step (n - r.i) r.x).1.map encS = (runS step n x0).1.map encS
  end' : (runS step (n - r.i) r.x).2 = (runS step n x0).2
  less : Less x0 r.x
  len : r.acc.length ≤ 3 * r.i
theorem RndOk.next {step : Ms → List Sm × Ms} {n : Nat} {x0 : Ms} {r : Rnd} (h : RndOk step n x0 r) (h1 : r.i < n) (h2 : r.x.l ≠ 0) (hl : Less r.x (step r.x).2) (h3 : (step r.x).1.length ≤ 3) :
    RndOk step n x0 ⟨r.i + 1, r.acc ++ (step r.x).1.map encS, (step r.x).2⟩ := by
  have e : n - r.i = (n - (r.i + 1)) + 1 := by omega
  have o := h.out
  have q := h.end'
  rw [e] at o q
  simp only [runS, if_neg h2] at o q
  refine ⟨h1, ?_, q, h.less.trans hl, ?_⟩
  · rw [← o]; simp
  · have := h.len
    simp only [List.length_append, List.length_map]; omega
theorem RndOk.last {step : Ms → List Sm × Ms} {n : Nat} {x0 : Ms} {r : Rnd} (h : RndOk step n x0 r) (h1 : r.i = n ∨ r.x.l = 0) : r.acc = (runS step n x0).1.map encS ∧ r.x = (runS step n x0).2 := by
  have o := h.out
  have q := h.end'
  have e : runS step (n - r.i) r.x = ([], r.x) := by
    rcases h1 with h1 | h1
    · rw [h1, Nat.sub_self]; rfl
    · cases n - r.i with
      | zero => rfl
      | succ k => simp only [runS, if_pos h1]
  rw [e] at o q
  exact ⟨by simpa using o, q⟩
theorem list_ok (m : Mk) (fine : m.Fine) (dep : Nat) (hdep : dep < 2^40) {R : Nat → Ms → List Sm × Ms} (hu : ∀ n x, Less x (R n x).2) (hR : 0 < dep → ListOk m (2^50 + 1 - dep) ((dep : Int) - 1) R)
    (n a s l p d : Nat) (hn : n ≤ 2^20) (h : a + 200 * l + 1000 < 2^59) (h' : s + 10 * l + 100 < 2^59) (hd : d ≤ 2) (hp : p < 2^50 - dep) (hl : l < 2^50) :
    CallsA Tryz.prog 149 [mp, it n, it dep] (ctM m a s l p d) (lst 20 encS (runS (m.step dep R) n ⟨a, s, l, d⟩).1)
      (ctM m (runS (m.step dep R) n ⟨a, s, l, d⟩).2.a (runS (m.step dep R) n ⟨a, s, l, d⟩).2.s (runS (m.step dep R) n ⟨a, s, l, d⟩).2.l p (runS (m.step dep R) n ⟨a, s, l, d⟩).2.d) := by
  refine fn_ok hm Tryz.func149 (fun _ => false) [] (fun _ => []) (by kernel_rfl) ?_
  refine run ?_
  refine LoopS.mk ⟨[], HeadS.inv (RndOk (m.step dep R) n ⟨a, s, l, d⟩) (fun r => ⟨[(8, it r.i), (7, .ref 12 r.acc.length)], [(1000, encMk m r.x.a r.x.s r.x.l p r.x.d)], [(12, ⟨20, true, r.acc⟩)]⟩) (fun r => n - r.i) ⟨0, [], ⟨a, s, l, d⟩⟩
    ⟨Nat.zero_le _, by simp, by simp, Less.refl _, by simp⟩ ?_ ?_ ?_ ?_ ?_⟩
  · repeat' (first | exact trivial | exact rfl | refine ⟨?_, ?_⟩ | refine ⟨?_, ?_, ?_⟩)
  · kernel_rfl
  · kernel_rfl
  · intro r; exact ⟨rfl, rfl, rfl⟩
  intro r hr
  have q1 := hr.i
  have q2 := hr.less
  have q3 := hr.len
  simp only [Less] at q2
  by_cases hlast : r.i = n ∨ r.x.l = 0
  · obtain ⟨z1, z2⟩ := hr.last hlast
    rw [← z2]
    refine (Bool.eq_false_or_eq_true (decide ((r.i : Int) < n))).elim (fun b1 => ?_) (fun b1 => ?_)
    · have b2 : decide ((r.x.l : Int) > 0) = false := by simp at b1 ⊢; omega
      refine run ?_
      exact Done.mk (by rw [lst, ← z1]; rfl) rfl
    · refine run ?_
      exact Done.mk (by rw [lst, ← z1]; rfl) rfl
  have b1 : decide ((r.i : Int) < n) = true := by simp; omega
  have b2 : decide ((r.x.l : Int) > 0) = true := by simp; omega
  have el : (r.x.l : Int) - 1 = ((r.x.l - 1 : Nat) : Int) := by omega
  have bk := m.nx_bd r.x.a (n := 16) (by omega)
  have hs := m.step_use fine.heads dep hu r.x (by omega)
  have hnx := hr.next (by omega) (by omega) hs.1 hs.2
  by_cases hnest : 0 < dep ∧ 4 ≤ m.nx r.x.a 16 ∧ m.nx r.x.a 16 ≤ 7
  · have e : m.step dep R r.x = ([(m.nested R (m.nx r.x.a 16) ⟨r.x.a+1, r.x.s, r.x.l-1, r.x.d⟩).1], (m.nested R (m.nx r.x.a 16) ⟨r.x.a+1, r.x.s, r.x.l-1, r.x.d⟩).2) := by rw [Mk.step, if_pos hnest]
    rw [e] at hnx
    obtain ⟨dep', rfl⟩ : ∃ k, dep = k + 1 := ⟨dep - 1, by omega⟩
    have hc := nested_ok m (m.nx r.x.a 16) dep' (r.x.a+1) r.x.s (r.x.l-1) p r.x.d fine (by omega) (by omega) (by omega) (pb := 2^50 + 1 - (dep' + 1)) (by omega) (by omega) (by omega) hnest.2 (by omega) (hR hnest.1) hu
    refine run ?_; repeat ((apply call_ok; first | exact (next_ok m _ _ _ _ _ _ (by omega) (by omega)) | exact (hc)); refine run ?_)
    refine ⟨⟨_, hnx⟩, ?_, ?_⟩
    · show n - (r.i + 1) < n - r.i; omega
    · repeat' (first | exact trivial | exact rfl | refine ⟨?_, ?_⟩ | refine ⟨?_, ?_, ?_⟩)
  · have e : m.step dep R r.x = m.other (m.nx r.x.a 16) dep ⟨r.x.a+1, r.x.s, r.x.l-1, r.x.d⟩ := by rw [Mk.step, if_neg hnest]
    rw [e] at hnx hs
    have hc := nested_no m (m.nx r.x.a 16) dep (r.x.a+1) r.x.s (r.x.l-1) p r.x.d (by omega)
    have hx := (m.other_use (m.nx r.x.a 16) dep ⟨r.x.a+1, r.x.s, r.x.l-1, r.x.d⟩ fine.heads).2.2.1
    have ho : CallsA Tryz.prog 187 [mp, it (m.nx r.x.a 16), it dep] (ctM m (r.x.a+1) r.x.s (r.x.l-1) p r.x.d) (lst 20 encS (m.other (m.nx r.x.a 16) dep ⟨r.x.a+1, r.x.s, r.x.l-1, r.x.d⟩).1)
        (ctM m (m.other (m.nx r.x.a 16) dep ⟨r.x.a+1, r.x.s, r.x.l-1, r.x.d⟩).2.a (m.other (m.nx r.x.a 16) dep ⟨r.x.a+1, r.x.s, r.x.l-1, r.x.d⟩).2.s (m.other (m.nx r.x.a 16) dep ⟨r.x.a+1, r.x.s, r.x.l-1, r.x.d⟩).2.l p (m.other (m.nx r.x.a 16) dep ⟨r.x.a+1, r.x.s, r.x.l-1, r.x.d⟩).2.d) := by
      rw [hx]; exact other_ok m (m.nx r.x.a 16) dep (r.x.a+1) r.x.s (r.x.l-1) p r.x.d fine (by omega) (by omega) (by omega) bk
    have h3 := hs.2
    refine run ?_; repeat ((apply call_ok; first | exact (next_ok m _ _ _ _ _ _ (by omega) (by omega)) | exact (hc) | exact (ho)); refine run ?_)
    refine ⟨⟨_, hnx⟩, ?_, ?_⟩
    · show n - (r.i + 1) < n - r.i; omega
    · repeat' (first | exact trivial | exact rfl | refine ⟨?_, ?_⟩ | refine ⟨?_, ?_, ?_⟩)
theorem stmts_ok (m : Mk) (fine : m.Fine) (n : Nat) (hn : n ≤ 2^20) : ∀ (dep a s l p d : Nat), dep < 2^40 → a + 200 * l + 1000 < 2^59 → s + 10 * l + 100 < 2^59 → d ≤ 2 → p < 2^50 - dep → l < 2^50 →
    CallsA Tryz.prog 149 [mp, it n, it dep] (ctM m a s l p d) (lst 20 encS (m.stmts dep n ⟨a, s, l, d⟩).1) (ctM m (m.stmts dep n ⟨a, s, l, d⟩).2.a (m.stmts dep n ⟨a, s, l, d⟩).2.s (m.stmts dep n ⟨a, s, l, d⟩).2.l p (m.stmts dep n ⟨a, s, l, d⟩).2.d)
  | 0, a, s, l, p, d, h1, h2, h3, h4, h5, h6 => list_ok m fine 0 h1 (fun _ x => Less.refl x) (fun h => absurd h (Nat.lt_irrefl 0)) n a s l p d hn h2 h3 h4 h5 h6
  | dep + 1, a, s, l, p, d, h1, h2, h3, h4, h5, h6 => by
    refine list_ok m fine (dep + 1) h1 (m.stmts_use fine.heads dep) (fun _ => ?_) n a s l p d hn h2 h3 h4 h5 h6
    intro n a s l p d g1 g2 g3 g4 g5 g6
    have e : ((dep + 1 : Nat) : Int) - 1 = (dep : Int) := by omega
    rw [e]
    exact stmts_ok m fine n (by omega) dep a s l p d (by omega) g2 g3 g4 (by omega) g6
end Abs
