/- The row, its walks and what they need (merged from several texts: YtaimlmfncjbmjaaLD, YtaimlmfncjbmjaaLE, YtaimlmfncjbmjaaLF, YtaimlmfncjbmjaaLG, YtaimlmfncjbmjaaLN, YtaimlmfncjbmjaaLO, YtaimlmfncjbmjaaLampPlays). -/
import Derived.Test.YtaimlmfncjbmjaaZPlays1
import Derived.Test.YtaimlmfncjbmjaaZPlays0
section
/- Walk: Leave. -/
set_option linter.unusedVariables false
namespace Go.Proofs.Ytaimlmfncjbmjaa
open Go Go.Vc Go.RowKit Lp

set_option maxHeartbeats 1000000 in
theorem Leave_go (s : Store) (p : Plan) (l : List Dip) (A : Option Addr) (c : Nat) (B : Option Addr) (b : Nat) (U : Option Addr) (d : Nat) (E : Option Addr) (f : Nat) (w : World) (hA : Rd dNight w A c s.nights) (hB : Rd dI w B b p.cans) (hD : Rd dI w U d p.wicks) (hE : Rd dDip w E f l) :
    Calls Try.prog 30 #[vStore s A c, vPlan p B b U d, .slice E l.length f] w fun e w' => ∃ X x, e = .returned (.tuple #[.slice X (leaveR s p l).length x, .int .i64 (leaveE s p l)]) ∧ Vc.Own dI 3 w' w.heap.size no X x (leaveR s p l) ∧ w.grownBy w' none := by
  refine calls (G := G) (args := [vStore s A c, vPlan p B b U d, .slice E l.length f]) Try.func30 rfl rfl rfl ?_
  refine M.run rfl (M.nw rfl fun g3 w1 b3 e1 l1 => M.run rfl (M.nw rfl fun g4 w2 b4 e2 l2 => M.run rfl (M.nw rfl fun g5 w3 b5 e3 l3 => ?_)))
  have e03 := gr_trans (gr_trans e1 e2) e3
  replace b3 := (b3.mv0 e2).mv0 e3
  replace b4 := b4.mv0 e3
  refine M.run rfl (M.scope (fun _ _ _ h => h) (M.run rfl (M.ldA rfl rfl b3.cellsAll (M.run rfl (M.ldA rfl rfl b4.cellsAll (M.run rfl (M.ld rfl (b5.cell rfl rfl) (M.run rfl
    (M.cl rfl (dipped_go s p l A c B b U d E f w3 (hA.mv e03) (hB.mv e03) (hD.mv e03) (hE.mv e03)) ?_)))))))))
  rintro e w4 ⟨rfl, e4⟩
  have e04 := gr_trans e03 e4
  replace b3 := b3.mv0 e4
  replace b4 := b4.mv0 e4
  replace b5 := b5.mv0 e4
  refine ⟨_, rfl, M.run rfl (M.cond rfl (fun h => ?_) (fun h => ?_))⟩
  · have h' : dippedE s p l ≠ 0 := by simpa using h
    have hr2 : leaveR s p l = [] := by simp [leaveR, h']
    rw [hr2]
    exact M.run rfl (M.retF rfl rfl ⟨none, 0, rfl, Vc.Own.nil _ _ _ _ _, e04⟩)
  have h' : dippedE s p l = 0 := by simpa using h
  obtain ⟨hchk, hl6, hdip⟩ := dipped_check h'
  have hf := check_fine hchk
  refine M.run rfl (M.nw rfl fun g9 w5 b9 e5 l5 => M.run rfl (M.nw rfl fun g10 w6 b10 e6 l6 => M.run rfl (M.store rfl rfl b10 rfl rfl fun w7 b10' e7 => M.run rfl (M.label (M.run rfl ?_)))))
  have e57 : w5.grownBy w7 none := gr_fresh e6 e7 l6
  have e47 := gr_trans e5 e57
  have e07 := gr_trans e04 e47
  have hb : Boxes s p l A c B b U d E f g3 g4 g5 g9 g10 w7 := ⟨b3.mv0 e47, b4.mv0 e47, b5.mv0 e47, b10', _, b9.mv0 e57⟩
  have h9 : w.heap.size ≤ g9 := Nat.le_trans e04.size l5
  have hN : g9 < w7.heap.size := (b9.mv0 e57).lt
  refine M.ld rfl (hb.di.cell rfl rfl) (M.run rfl ?_)
  have hw1 : IntKind.i64.wrap ((l.length : Int) + 1) = ((l.length + 1 : Nat) : Int) := w64 (by omega) (by omega)
  refine M.loop (σ := Nat) (fun k => [(9, .pointer (some ⟨g9, 0, none⟩)), (10, .pointer (some ⟨g10, 0, none⟩)), (22, .int .i64 ((l.length + 1 : Nat) : Int)), (23, .int .i64 (k : Int))])
    (fun k w' => k ≤ l.length + 1 ∧ w7.grownBy w' (some g9) ∧ (∃ v, Blk w' g9 [v] 27) ∧ (List.range k).findSome? (fun m => leaveT s p l m [] 0) = none) (fun k => l.length + 1 - k) 0
    ⟨rfl, rfl, congrArg (fun z => some (Value.int .i64 z)) hw1, rfl, trivial⟩ ⟨Nat.zero_le _, gr_refl _ _, hb.fo, rfl⟩ ?_
  rintro k w8 ⟨hk, e8, hv8, hnone⟩
  have hb8 := hb.mv9 e8 hv8
  have e08 : w.grownBy w8 none := gr_fresh e07 e8 h9
  refine M.run rfl (M.cond rfl (fun h2 => ?_) (fun h2 => ?_))
  · have hlt : k < l.length + 1 := by have := of_decide_eq_true h2; omega
    refine M.run rfl (M.ld rfl (hb8.le.cell rfl rfl) (M.run rfl (M.cl rfl (leave1_go s p l A c B b U d E f g3 g4 g5 g9 g10 w w7.heap.size hA hB hD hE hf hl6 h9 hN e07.size k 0 [] none 0 w8 e08 e8.size hb8 (Vc.Own.nil _ _ _ _ _) (Nat.zero_le _) (Nat.le_refl _) (by omega)) ?_)))
    rintro e w9 ⟨rfl, e9, hv9, hr9⟩
    have e79 := gr_transR e8 e9
    have e09 : w.grownBy w9 none := gr_fresh e07 e79 h9
    have hsucc : (List.range (k + 1)).findSome? (fun m => leaveT s p l m [] 0) = leaveT s p l k [] 0 := by
      rw [List.range_succ, List.findSome?_append, hnone]
      simp
    refine ⟨_, rfl, M.run rfl (M.cond rfl (fun h3 => ?_) (fun h3 => ?_))⟩
    · obtain ⟨r, hr⟩ := Option.isSome_iff_exists.1 h3
      obtain ⟨X, x, bX, hX⟩ := hr9 r hr
      have hall : leaveS s p l = some r := by
        unfold leaveS
        have hsplit : l.length + 1 = (k + 1) + (l.length - k) := by omega
        rw [hsplit, List.range_add, List.findSome?_append, hsucc, hr]
        rfl
      have hR : leaveR s p l = r := by unfold leaveR; rw [if_pos h', hall]; rfl
      refine M.run rfl (M.ld rfl (bX.cell rfl rfl) (M.run rfl (M.retF rfl rfl ⟨X, x, ?_, ?_, e09⟩)))
      · rw [hR]; unfold leaveE; rw [h']; rfl
      · rw [hR]; exact hX.weaken e07.size (fun _ h => h)
    · have hn : leaveT s p l k [] 0 = none := by simpa using h3
      refine M.run rfl (M.end_ ⟨k + 1, ⟨rfl, rfl, rfl, ?_, trivial⟩, ⟨by omega, e79, hv9, by rw [hsucc, hn]⟩, by omega⟩)
      exact congrArg (fun z => some (Value.int .i64 z)) (w64 (by omega) (by omega))
  · have : k = l.length + 1 := by have := of_decide_eq_false h2; omega
    subst this
    have hs := leaveS_some hf l
    unfold leaveS at hs
    rw [hnone] at hs
    cases hs
end Go.Proofs.Ytaimlmfncjbmjaa
end

section
/- Walks: step, cheapest. -/
set_option linter.unusedVariables false
namespace Go.Proofs.Ytaimlmfncjbmjaa
open Go Go.Vc Go.RowKit Lp

/-- a function value that answers by F, in all worlds in which the map alone has been written -/
structure Fn1 (gm : Nat) (w0 : World) (n : Nat) (f : Nat) (fst cap : Array Value) (F : Nat → Int) : Prop where
  ok : (Nat.ble 3 f && Nat.blt f G.nf) = true
  go : ∀ i, i < n → ∀ w', w0.grownBy w' (some gm) → Calls Try.prog f (fst.toList ++ ([Value.int .i64 i] ++ cap.toList)).toArray w' fun e w'' => e = .returned (.int .i64 (F i)) ∧ w'.grownBy w'' none
structure Fn2 (gm : Nat) (w0 : World) (n : Nat) (f : Nat) (fst cap : Array Value) (L H : Nat → Int) (F : Nat → Int → Int) : Prop where
  ok : (Nat.ble 3 f && Nat.blt f G.nf) = true
  go : ∀ i, i < n → ∀ x, L i ≤ x → x ≤ H i → ∀ w', w0.grownBy w' (some gm) → Calls Try.prog f (fst.toList ++ ([Value.int .i64 i, Value.int .i64 x] ++ cap.toList)).toArray w' fun e w'' => e = .returned (.int .i64 (F i x)) ∧ w'.grownBy w'' none
structure FnP (gm : Nat) (w0 : World) (n : Nat) (f : Nat) (fst cap : Array Value) (L H : Nat → Int) (F F' : Nat → Int → Int) : Prop where
  ok : (Nat.ble 3 f && Nat.blt f G.nf) = true
  go : ∀ i, i < n → ∀ x, L i ≤ x → x ≤ H i → ∀ w', w0.grownBy w' (some gm) → Calls Try.prog f (fst.toList ++ ([Value.int .i64 i, Value.int .i64 x] ++ cap.toList)).toArray w' fun e w'' => e = .returned (.tuple #[.int .i64 (F i x), .int .i64 (F' i x)]) ∧ w'.grownBy w'' none

/-- all that the search leans on -/
structure Search (s : Store) (W : Wk) (A : Option Addr) (c : Nat) (gw gm : Nat) (wS w0 : World) (f1 f2 f3 f4 : Nat) (s1 c1 s2 c2 s3 c3 s4 c4 : Array Value) : Prop where
  ok : s.Ok
  wk : W.Ok s
  rd : Rd dNight wS A c s.nights
  old : wS.grownBy w0 none
  new : wS.heap.size ≤ gm
  box : Blk w0 gw [.int .i64 s.cap, .int .i64 s.can, .int .i64 s.lo, .int .i64 s.hi, .slice A s.nights.length c, .func (.func f1) s1 c1, .func (.func f2) s2 c2, .func (.func f3) s3 c3, .func (.func f4) s4 c4, .map (some gm)] 131
  low : Fn1 gm w0 s.nights.length f1 s1 c1 W.low
  high : Fn1 gm w0 s.nights.length f2 s2 c2 W.high
  cost : Fn2 gm w0 s.nights.length f3 s3 c3 W.low W.high W.cost
  does : FnP gm w0 s.nights.length f4 s4 c4 W.low W.high W.cans W.wicks
  nm : gm ≠ gw
  map : ∃ ms cl, w0.heap[gm]? = some (.map (encM .i64 ms) cl)

section
variable {s : Store} {W : Wk} {A : Option Addr} {c : Nat} {gw gm : Nat} {wS w0 : World} {f1 f2 f3 f4 : Nat} {s1 c1 s2 c2 s3 c3 s4 c4 : Array Value}
theorem Search.since (S : Search s W A c gw gm wS w0 f1 f2 f3 f4 s1 c1 s2 c2 s3 c3 s4 c4) {w : World} (e : w0.grownBy w (some gm)) : wS.grownBy w none := gr_fresh S.old e S.new
theorem Search.boxAt (S : Search s W A c gw gm wS w0 f1 f2 f3 f4 s1 c1 s2 c2 s3 c3 s4 c4) {w : World} (e : w0.grownBy w (some gm)) : Blk w gw [.int .i64 s.cap, .int .i64 s.can, .int .i64 s.lo, .int .i64 s.hi, .slice A s.nights.length c, .func (.func f1) s1 c1, .func (.func f2) s2 c2, .func (.func f3) s3 c3, .func (.func f4) s4 c4, .map (some gm)] 131 := S.box.mv1 e S.nm

set_option maxHeartbeats 1000000 in
theorem step_go (S : Search s W A c gw gm wS w0 f1 f2 f3 f4 s1 c1 s2 c2 s3 c3 s4 c4) (w : World) (ew : w0.grownBy w (some gm)) (i : Nat) (hi : i < s.nights.length) (oil x : Int) (ho : 0 ≤ oil ∧ oil ≤ 400) (h1 : W.low i ≤ x) (h2 : x ≤ W.high i) :
    Calls Try.prog 108 #[.pointer (some ⟨gw, 0, none⟩), .agg #[.int .i64 i, .int .i64 oil], .int .i64 x] w fun e w' => e = .returned (.tuple #[.agg #[.int .i64 ((i + 1 : Nat) : Int), .int .i64 (W.left s i oil x)], .bool (W.lit s i oil x)]) ∧ w.grownBy w' none := by
  have hc := S.wk.cans i hi x h1 h2
  have hw := S.wk.wicks i hi x h1 h2
  have hcan := S.ok.can
  have hcap := S.ok.cap
  have hn := S.ok.nt hi
  have hn6 := S.ok.few
  have hm := mul_bd hc ⟨Int.le_trans (by omega) hcan.1, hcan.2⟩ (by omega : (0 : Int) ≤ 2)
  have bw := S.boxAt ew
  refine calls (G := G) (args := [.pointer (some ⟨gw, 0, none⟩), .agg #[.int .i64 i, .int .i64 oil], .int .i64 x]) Try.func108 rfl rfl rfl ?_
  refine M.run rfl (M.nw rfl fun g4 w1 b4 e1 l1 => M.run rfl (M.nw rfl fun g6 w2 b6 e2 l2 => M.run rfl ?_))
  have e02 := gr_trans e1 e2
  have ew2 := gr_transR ew (gr_weak e02)
  refine M.quiet (by kernel_rfl) (LQ.run rfl (LQ.ld rfl (fun w' hw' => ((bw.mv0 e02).mv0 hw').cell rfl rfl) (LQ.run rfl (LQ.ld rfl (fun w' hw' => ((b4.mv0 e2).mv0 hw').cell rfl rfl) (LQ.run rfl
    (LQ.clGV rfl (calleeE_of S.does.ok) (fun w' hw' => S.does.go i hi x h1 h2 w' (gr_transR ew2 (gr_weak hw'))) (LQ.run rfl (LQ.nil fun w3 e3 => M.run rfl ?_))))))))
  have e03 := gr_trans e02 e3
  have ew3 := gr_transR ew (gr_weak e03)
  refine M.quiet (by kernel_rfl) (LQ.run rfl (LQ.ldA rfl rfl (fun w' hw' => (((bw.mv0 e03).mv0 hw').cells 0 rfl ⟨_, rfl⟩ : Cells _ _ [_, _, _, _, _])) (LQ.run rfl (LQ.ld rfl (fun w' hw' => (((b4.mv0 e2).mv0 e3).mv0 hw').cell rfl rfl) (LQ.run rfl (LQ.ld rfl (fun w' hw' => (((b4.mv0 e2).mv0 e3).mv0 hw').cell rfl rfl) (LQ.run rfl
    (LQ.clG rfl (fun w' hw' => least_go s A c i oil (W.cans i x) (W.wicks i x) w' (S.rd.mv (S.since (gr_transR ew3 (gr_weak hw')))) hi (by omega) (by omega) (by omega) (by omega) (by omega) (by omega)) (LQ.run rfl (LQ.nil fun w4 e4 => M.run rfl ?_))))))))))
  have e04 := gr_trans e03 e4
  refine M.ld rfl ((((b4.mv0 e2).mv0 e3).mv0 e4).cell rfl rfl) (M.run rfl (M.store rfl rfl ((b6.mv0 e3).mv0 e4) rfl rfl fun w5 b5 e5 => M.run rfl ?_))
  have hwr : IntKind.i64.wrap ((i : Int) + 1) = ((i + 1 : Nat) : Int) := w64 (by omega) (by omega)
  rw [← hwr]
  refine M.retC (.cellA rfl rfl rfl rfl (b5.cells 0 rfl ⟨[], rfl⟩ : Cells _ _ [_, _]) (.tmp rfl .nil)) ⟨rfl, gr_fresh e04 e5 (Nat.le_trans e1.size l2)⟩

theorem key155 : Key2 G.P 155 .i64 := ⟨_, _, 3, Try.underlying155, ⟨rfl, rfl, by decide⟩, ⟨rfl, rfl, by decide⟩, Try.underlying3, Try.stoodInHeld155⟩

/-- what the map knows -/
def Known (s : Store) (W : Wk) (a b : Int) (v : Value) : Prop := ∃ k, k ≤ s.nights.length ∧ a = ((s.nights.length - k : Nat) : Int) ∧ v = .int .i64 (W.cheap s k b)

set_option maxHeartbeats 2000000 in
theorem cheapest_go (S : Search s W A c gw gm wS w0 f1 f2 f3 f4 s1 c1 s2 c2 s3 c3 s4 c4) : ∀ (k : Nat), k ≤ s.nights.length → ∀ (w : World), w0.grownBy w (some gm) → MapOk .i64 (Known s W) w gm → ∀ (oil : Int), 0 ≤ oil ∧ oil ≤ 400 →
    Calls Try.prog 107 #[.pointer (some ⟨gw, 0, none⟩), .agg #[.int .i64 ((s.nights.length - k : Nat) : Int), .int .i64 oil]] w fun e w' => e = .returned (.int .i64 (W.cheap s k oil)) ∧ w.grownBy w' (some gm) ∧ MapOk .i64 (Known s W) w' gm := by
  have hn6 := S.ok.few
  intro k
  induction k with
  | zero =>
    intro hk w ew hM oil ho
    have bw := S.boxAt ew
    refine calls (G := G) (args := [.pointer (some ⟨gw, 0, none⟩), .agg #[.int .i64 ((s.nights.length - 0 : Nat) : Int), .int .i64 oil]]) Try.func107 rfl rfl rfl ?_
    refine M.run rfl (M.nw rfl fun g3 w1 b3 e1 l1 => M.run rfl (M.quiet (by kernel_rfl) (LQ.run rfl (LQ.ld rfl (fun w' hw' => (b3.mv0 hw').cell rfl rfl) (LQ.run rfl (LQ.ld rfl (fun w' hw' => ((bw.mv0 e1).mv0 hw').cell rfl rfl) (LQ.run rfl (LQ.nil fun w2 e2 => M.run rfl (M.condT rfl (by simp) (M.run rfl (M.retF rfl rfl ⟨rfl, gr_weak (gr_trans e1 e2), (hM.mv0 e1).mv0 e2⟩)))))))))))
  | succ k ih =>
    intro hk w ew hM oil ho
    have bw := S.boxAt ew
    obtain ⟨i, hi⟩ : ∃ i, i = s.nights.length - (k + 1) := ⟨_, rfl⟩
    have hin : i < s.nights.length := by omega
    have hi1 : s.nights.length - k = i + 1 := by omega
    rw [← hi]
    have ih' := ih (by omega)
    rw [hi1] at ih'
    have hlow := S.wk.low i hin
    have hcbd : ∀ o, -(100 * (k : Int)) ≤ W.cheap s k o ∧ W.cheap s k o ≤ never := Wk.cheap_bd S.wk hn6 k (by omega)
    have htry : ∀ m, m ≤ W.many i → -(100 * (k : Int) + 100) ≤ W.tryN s i oil (W.cheap s k) m ∧ W.tryN s i oil (W.cheap s k) m ≤ never := Wk.tryN_bd S.wk hin oil (b := 100 * (k : Int)) (by omega) (fun o => (hcbd o).1)
    have hcheap : W.cheap s (k + 1) oil = W.tryN s i oil (W.cheap s k) (W.many i) := by rw [Wk.cheap, ← hi]
    refine calls (G := G) (args := [.pointer (some ⟨gw, 0, none⟩), .agg #[.int .i64 (i : Int), .int .i64 oil]]) Try.func107 rfl rfl rfl ?_
    refine M.run rfl (M.nw rfl fun g3 w1 b3 e1 l1 => M.run rfl (M.quiet (by kernel_rfl) (LQ.run rfl (LQ.ld rfl (fun w' hw' => (b3.mv0 hw').cell rfl rfl) (LQ.run rfl (LQ.ld rfl (fun w' hw' => ((bw.mv0 e1).mv0 hw').cell rfl rfl) (LQ.run rfl (LQ.nil fun w2 e2 => M.run rfl (M.condF rfl ?_ (M.run rfl ?_))))))))))
    · show (((i : Int) == (s.nights.length : Int))) = false
      rw [beq_eq_false_iff_ne]; omega
    have e02 := gr_trans e1 e2
    have b3' := b3.mv0 e2
    have ew2 := gr_transR ew (gr_weak e02)
    have hM2 := hM.mv0 e02
    have bw2 := bw.mv0 e02
    refine M.drawG [] (by kernel_rfl) fun w3 e3 => ?_
    obtain ⟨v, ok, hv1, hv0, hlook⟩ := look_spec (G := G) (hM2.mv0 e3) Try.underlying127 key155 (ie := ⟨.int .i64, 1, .int .i64 0, 8⟩) rfl (i : Int) oil
    refine D.run rfl (D.ld 3 rfl rfl rfl rfl (fun w' hw' => ((bw2.mv0 e3).mv0 hw').cell rfl rfl) (D.ldA 4 rfl rfl rfl rfl rfl (fun w' hw' => ((b3'.mv0 e3).mv0 hw').cellsAll) (D.ys 5 rfl rfl rfl (hlook _ (fun w' hw' => ?_) rfl) (D.run rfl (D.done_ rfl (M.run rfl (M.cond rfl (fun h => ?_) (fun h => ?_))))))))
    · obtain ⟨ms, cl, h1, _⟩ := hM2.mv0 e3
      exact hw'.block gm (Array.getElem?_eq_some_iff.1 h1).1 (by simp)
    · obtain ⟨k', hk', ha, hv⟩ := hv1 h
      have : k' = k + 1 := by omega
      subst this
      subst hv
      exact M.run rfl (M.retF rfl rfl ⟨rfl, gr_weak (gr_trans e02 e3), hM2.mv0 e3⟩)
    have e03 := gr_trans e02 e3
    replace b3' := b3'.mv0 e3
    have ew3 := gr_transR ew (gr_weak e03)
    have bw3 := bw2.mv0 e3
    have hM3 := hM2.mv0 e3
    refine M.run rfl (M.quiet (by kernel_rfl) (LQ.run rfl (LQ.ld rfl (fun w' hw' => (bw3.mv0 hw').cell rfl rfl) (LQ.run rfl (LQ.ld rfl (fun w' hw' => (b3'.mv0 hw').cell rfl rfl) (LQ.run rfl
      (LQ.clGV rfl (calleeE_of S.low.ok) (fun w' hw' => S.low.go i hin w' (gr_transR ew3 (gr_weak hw'))) (LQ.run rfl (LQ.nil fun w4 e4 => M.run rfl ?_)))))))))
    have e04 := gr_trans e03 e4
    have b34 := b3'.mv0 e4
    have hM4 := hM3.mv0 e4
    have nm3 : gm ≠ g3 := hM4.ne b34
    have hg3 := b34.lt
    refine M.loop (σ := Nat) (fun m => [(0, .pointer (some ⟨gw, 0, none⟩)), (3, .pointer (some ⟨g3, 0, none⟩)), (5, .int .i64 (W.tryN s i oil (W.cheap s k) m)), (7, .int .i64 (W.low i + (m : Int)))])
      (fun m w' => m ≤ W.many i ∧ w4.grownBy w' (some gm) ∧ MapOk .i64 (Known s W) w' gm) (fun m => W.many i - m) 0 ⟨rfl, rfl, rfl, congrArg (fun z => some (Value.int .i64 z)) (by simp), trivial⟩ ⟨Nat.zero_le _, gr_refl _ _, hM4⟩ ?_
    rintro m w5 ⟨hm, e5, hM5⟩
    have ew5 : w0.grownBy w5 (some gm) := gr_transR (gr_transR ew (gr_weak e04)) e5
    have bw5 := S.boxAt ew5
    have b35 := b34.mv1 e5 nm3
    refine M.run rfl (M.quiet (by kernel_rfl) (LQ.run rfl (LQ.ld rfl (fun w' hw' => (bw5.mv0 hw').cell rfl rfl) (LQ.run rfl (LQ.ld rfl (fun w' hw' => (b35.mv0 hw').cell rfl rfl) (LQ.run rfl
      (LQ.clGV rfl (calleeE_of S.high.ok) (fun w' hw' => S.high.go i hin w' (gr_transR ew5 (gr_weak hw'))) (LQ.run rfl (LQ.nil fun w6 e6 => M.run rfl (M.cond rfl (fun h2 => ?_) (fun h2 => ?_)))))))))))
    · have h2' := of_decide_eq_true h2
      have hmlt : m < W.many i := by unfold Wk.many; omega
      have hx := S.wk.many hin hmlt
      have ew6 := gr_transR ew5 (gr_weak e6)
      have hleft := Wk.left_bd S.ok S.wk hin ho hx.1 hx.2
      have hcost := S.wk.cost i hin _ hx.1 hx.2
      have hcb := hcbd (W.left s i oil (W.low i + (m : Int)))
      have ht := htry m hm
      have hnext : some (Value.int .i64 (IntKind.i64.wrap (W.low i + (m : Int) + 1))) = some (Value.int .i64 (W.low i + ((m + 1 : Nat) : Int))) := congrArg (fun z => some (Value.int .i64 z)) (by rw [w64 (by omega) (by omega)]; omega)
      have hsucc := Wk.tryN_succ W s i oil (W.cheap s k) m
      refine M.run rfl (M.ldA rfl rfl (b35.mv0 e6).cellsAll (M.run rfl (M.cl rfl (step_go S w6 ew6 i hin oil (W.low i + (m : Int)) ho hx.1 hx.2) ?_)))
      rintro e w7 ⟨rfl, e7⟩
      refine ⟨_, rfl, M.run rfl (M.nw rfl fun g8 w8 b8 e8 l8 => M.run rfl (M.store rfl rfl b8 rfl rfl fun w9 b9 e9 => M.run rfl (M.cond rfl (fun h3 => ?_) (fun h3 => ?_))))⟩
      · have e79 : w7.grownBy w9 none := gr_fresh e8 e9 l8
        have e69 := gr_trans e7 e79
        have e59 := gr_trans e6 e69
        have ew9 := gr_transR ew5 (gr_weak e59)
        have hM9 := hM5.mv0 e59
        have bw9 := S.boxAt ew9
        have b39 := b35.mv0 e59
        have n8 : gm ≠ g8 := hM9.ne b9
        rw [if_pos h3] at hsucc
        refine M.run rfl (M.draw (fun w w' => w.grownBy w' (some gm)) (fun _ _ => True) [] [] [] (fun _ _ _ h => h) (fun w => gr_refl w _) (fun a b c h k => gr_transR h k) (fun _ _ _ => trivial) (fun _ _ _ _ _ => trivial) (by kernel_rfl) ?_)
        have ed := gr_drewN w9 1
        refine D.run rfl (D.ld 4 rfl rfl rfl rfl (fun w' hw' => ((bw9.mv0 ed).mv1 hw' S.nm).cell rfl rfl) (D.ld 6 rfl rfl rfl rfl (fun w' hw' => ((b39.mv0 ed).mv1 hw' nm3).cell rfl rfl) (D.ldA 10 rfl rfl rfl rfl rfl (fun w' hw' => ((b9.mv0 ed).mv1 hw' n8).cellsAll) ?_)))
        refine D.one 8 rfl rfl (M.clV rfl (calleeE_of S.cost.ok) (S.cost.go i hin _ hx.1 hx.2 _ (gr_transR ew9 (gr_weak ed))) ?_)
        rintro e w10 ⟨rfl, e10⟩
        have e9a := gr_trans ed e10
        refine ⟨_, rfl, M.run rfl (M.end_ ⟨.inr (gr_weak e10), D.one 11 rfl rfl (M.cl rfl (ih' w10 (gr_transR ew9 (gr_weak e9a)) (hM9.mv0 e9a) _ hleft) ?_)⟩)⟩
        rintro e w11 ⟨rfl, e11, hM11⟩
        refine ⟨_, rfl, M.run rfl (M.end_ ⟨.inr e11, D.run rfl (D.one 13 rfl rfl (M.bs rfl fun ga wa ba ea la => M.run rfl (M.end_ ⟨.inr (gr_weak ea), ?_⟩)))⟩)⟩
        refine D.one 14 rfl rfl (M.cl rfl (minimum_go [W.tryN s i oil (W.cheap s k) m, IntKind.i64.wrap (W.cost i (W.low i + (m : Int)) + W.cheap s k (W.left s i oil (W.low i + (m : Int))))] _ _ wa (rd_lit ba [W.tryN s i oil (W.cheap s k) m, IntKind.i64.wrap (W.cost i (W.low i + (m : Int)) + W.cheap s k (W.left s i oil (W.low i + (m : Int))))] rfl (by simp [maxLen])) (by simp)) ?_)
        rintro e wb ⟨rfl, eb⟩
        refine ⟨_, rfl, M.run rfl (M.end_ ⟨.inr (gr_weak eb), D.run rfl (D.done_ rfl (M.run rfl (M.end_ ⟨m + 1, ⟨rfl, rfl, ?_, hnext, trivial⟩, ⟨by omega, ?_, (hM11.mv0 ea).mv0 eb⟩, by omega⟩)))⟩)⟩
        · refine congrArg (fun z => some (Value.int .i64 z)) ?_
          have hnv : never = 1048576 := rfl
          rw [hsucc, w64 (by omega) (by omega)]
          rfl
        · exact gr_transR (gr_transR (gr_transR e5 (gr_weak (gr_trans e59 e9a))) e11) (gr_weak (gr_trans ea eb))
      · have e79 : w7.grownBy w9 none := gr_fresh e8 e9 l8
        have e59 := gr_trans e6 (gr_trans e7 e79)
        rw [if_neg (by rw [h3]; simp)] at hsucc
        refine M.run rfl (M.end_ ⟨m + 1, ⟨rfl, rfl, ?_, hnext, trivial⟩, ⟨by omega, gr_transR e5 (gr_weak e59), hM5.mv0 e59⟩, by omega⟩)
        rw [hsucc]; rfl
    · have h2' := of_decide_eq_false h2
      have hmm : m = W.many i := by unfold Wk.many at hm ⊢; omega
      subst hmm
      have b36 := b35.mv0 e6
      have bw6 := bw5.mv0 e6
      have hM6 := hM5.mv0 e6
      refine M.run rfl (M.drawG [6] (by kernel_rfl) fun w7 e7 => ?_)
      refine D.run rfl (D.ld 3 rfl rfl rfl rfl (fun w' hw' => ((bw6.mv0 e7).mv0 hw').cell rfl rfl) (D.ldA 4 rfl rfl rfl rfl rfl (fun w' hw' => ((b36.mv0 e7).mv0 hw').cellsAll) ?_))
      refine D.one 6 rfl rfl (M.mapUp (T := Known s W) rfl (hM6.mv0 e7) Try.underlying127 key155 ⟨k + 1, hk, by rw [hi], by rw [hcheap]⟩ fun w8 hM8 e8 => M.run rfl (M.end_ ⟨.inl ⟨rfl, trivial⟩, D.done_ rfl (M.run rfl (M.retF rfl rfl ⟨by rw [hcheap]; rfl, ?_, hM8⟩))⟩))
      exact gr_transR (gr_transR (gr_transR (gr_weak e04) e5) (gr_weak (gr_trans e6 e7))) e8
end
end Go.Proofs.Ytaimlmfncjbmjaa
end

section
/- Walk: best. -/
set_option linter.unusedVariables false
namespace Go.Vc
theorem gr_freshR {w w1 w2 : World} {g : Nat} {r : Option Nat} (h : w.grownBy w1 r) (k : w1.grownBy w2 (some g)) (hg : w.heap.size ≤ g) : w.grownBy w2 r :=
  ⟨k.os.trans h.os, k.tape.trans h.tape, k.output.trans h.output, Nat.le_trans h.size k.size, fun i hi hr => (k.block i (Nat.lt_of_lt_of_le hi h.size) (fun e => by injection e with e; omega)).trans (h.block i hi hr)⟩
theorem gr_newR {w w1 w2 : World} {q r : Option Nat} (h : w.grownBy w1 r) (k : w1.grownBy w2 q) (hq : ∀ g, q = some g → w.heap.size ≤ g) : w.grownBy w2 r := by
  cases q with
  | none => exact gr_transR h (gr_weak k)
  | some g => exact gr_freshR h k (hq g rfl)
end Go.Vc
namespace Go.Proofs.Ytaimlmfncjbmjaa
open Go Go.Vc Go.RowKit Lp
section
variable {s : Store} {W : Wk} {A : Option Addr} {c : Nat} {gw gm : Nat} {wS w0 : World} {f1 f2 f3 f4 : Nat} {s1 c1 s2 c2 s3 c3 s4 c4 : Array Value}

set_option maxHeartbeats 4000000 in
theorem best_go (S : Search s W A c gw gm wS w0 f1 f2 f3 f4 s1 c1 s2 c2 s3 c3 s4 c4) (hM0 : MapOk .i64 (Known s W) w0 gm) :
    Calls Try.prog 82 #[.pointer (some ⟨gw, 0, none⟩)] w0 fun e w' => ∃ X x, e = .returned (.tuple #[.slice X (W.best s).length x, .int .i64 (W.bestC s), .bool (W.found s)]) ∧ Vc.Own dI 3 w' w0.heap.size no X x (W.best s) ∧ w0.grownBy w' (some gm) := by
  have hn6 := S.ok.few
  have hst := S.ok.start
  have hcap := S.ok.cap
  have bw := S.box
  refine calls (G := G) (args := [.pointer (some ⟨gw, 0, none⟩)]) Try.func82 rfl rfl rfl ?_
  refine M.run rfl (M.ld rfl (bw.cell rfl rfl) (M.run rfl (M.nw rfl fun g5 w1 b5 e1 l1 => M.run rfl (M.store rfl rfl b5 rfl rfl fun w2 b5' e2 => M.run rfl (M.ldA rfl rfl b5'.cellsAll (M.run rfl ?_))))))
  have e02 : w0.grownBy w2 none := gr_fresh e1 e2 l1
  have hc := cheapest_go S s.nights.length (Nat.le_refl _) w2 (gr_weak e02) (hM0.mv0 e02) s.lo ⟨by omega, by omega⟩
  rw [Nat.sub_self] at hc
  refine M.cl rfl hc ?_
  rintro e w3 ⟨rfl, e3, hM3⟩
  have e03 : w0.grownBy w3 (some gm) := gr_transR (gr_weak e02) e3
  have n5 : gm ≠ g5 := (hM0.mv0 e02).ne b5'
  have b53 := b5'.mv1 e3 n5
  refine ⟨_, rfl, M.run rfl (M.cond rfl (fun h => ?_) (fun h => ?_))⟩
  · have h' : 524288 ≤ W.cheap s s.nights.length s.lo := of_decide_eq_true h
    have hf : W.found s = false := by unfold Wk.found; simp; omega
    have hb : W.best s = [] := by unfold Wk.best; rw [hf]; rfl
    have hbc : W.bestC s = 0 := by unfold Wk.bestC; rw [hf]; rfl
    rw [hf, hb, hbc]
    exact M.run rfl (M.retF rfl rfl ⟨none, 0, rfl, Vc.Own.nil _ _ _ _ _, e03⟩)
  have h' : ¬ 524288 ≤ W.cheap s s.nights.length s.lo := of_decide_eq_false h
  have hf : W.found s = true := by unfold Wk.found; simp; omega
  have hb : W.best s = W.picks s s.nights.length s.lo := by unfold Wk.best; rw [hf]; rfl
  have hbc : W.bestC s = W.cheap s s.nights.length s.lo := by unfold Wk.bestC; rw [hf]; rfl
  rw [hf, hb, hbc]
  refine M.run rfl ?_
  refine M.loop (σ := Nat × Int × Option Addr × Nat × List Int)
    (fun (k, oil, X, x, outs) => [(0, .pointer (some ⟨gw, 0, none⟩)), (2, .slice X outs.length x), (3, .int .i64 (W.cheap s s.nights.length s.lo)), (5, .pointer (some ⟨g5, 0, none⟩)), (6, .int .i64 (W.cheap s k oil))])
    (fun (k, oil, X, x, outs) w' => k ≤ s.nights.length ∧ (0 ≤ oil ∧ oil ≤ 400) ∧ W.cheap s k oil ≤ 524287 + 100 * ((s.nights.length - k : Nat) : Int) ∧ outs ++ W.picks s k oil = W.picks s s.nights.length s.lo ∧ outs.length = s.nights.length - k ∧
      w0.grownBy w' (some gm) ∧ w3.heap.size ≤ w'.heap.size ∧ MapOk .i64 (Known s W) w' gm ∧ Blk w' g5 [.int .i64 ((s.nights.length - k : Nat) : Int), .int .i64 oil] 155 ∧ Vc.Own dI 3 w' w3.heap.size no X x outs)
    (fun (k, _) => k) (s.nights.length, s.lo, none, 0, []) ⟨rfl, rfl, rfl, rfl, rfl, trivial⟩
    ⟨Nat.le_refl _, ⟨by omega, by omega⟩, by omega, rfl, by simp, e03, Nat.le_refl _, hM3, by rw [Nat.sub_self]; exact b53, Vc.Own.nil _ _ _ _ _⟩ ?_
  rintro ⟨k, oil, X, x, outs⟩ w4 ⟨hk, ho, hbd, hpk, hol, e04, hsz4, hM4, b54, hX⟩
  have bw4 := S.boxAt e04
  refine M.run rfl (M.quiet (by kernel_rfl) (LQ.run rfl (LQ.ld rfl (fun w' hw' => (b54.mv0 hw').cell rfl rfl) (LQ.run rfl (LQ.ld rfl (fun w' hw' => (bw4.mv0 hw').cell rfl rfl) (LQ.run rfl (LQ.nil fun w5 e5 => M.run rfl (M.cond rfl (fun h2 => ?_) (fun h2 => ?_)))))))))
  · have h2' := of_decide_eq_true h2
    obtain ⟨k, rfl⟩ : ∃ k', k = k' + 1 := ⟨k - 1, by omega⟩
    obtain ⟨i, hi⟩ : ∃ i, i = s.nights.length - (k + 1) := ⟨_, rfl⟩
    have hin : i < s.nights.length := by omega
    have hi1 : s.nights.length - k = i + 1 := by omega
    rw [← hi] at b54 hol hbd
    have hnv : never = 1048576 := rfl
    have hcheap : W.cheap s (k + 1) oil = W.tryN s i oil (W.cheap s k) (W.many i) := by rw [Wk.cheap, ← hi]
    have hlt : W.tryN s i oil (W.cheap s k) (W.many i) < never := by rw [← hcheap]; omega
    obtain ⟨hfl, hff, hfb⟩ := Wk.first_spec hlt
    rw [← hcheap] at hfl hff hfb
    have hlow := S.wk.low i hin
    have hcbd : ∀ o, -(100 * (k : Int)) ≤ W.cheap s k o ∧ W.cheap s k o ≤ never := Wk.cheap_bd S.wk hn6 k (by omega)
    have hcbd1 := Wk.cheap_bd S.wk hn6 (k + 1) (by omega) oil
    have hpicks : W.picks s (k + 1) oil = (W.low i + (W.first s i oil (W.cheap s k) (W.cheap s (k + 1) oil) : Int)) :: W.picks s k (W.left s i oil (W.low i + (W.first s i oil (W.cheap s k) (W.cheap s (k + 1) oil) : Int))) := by
      show _ = _
      rw [Wk.picks, ← hi]
    have e05 := gr_transR e04 (gr_weak e5)
    have b55 := b54.mv0 e5
    have bw5 := bw4.mv0 e5
    refine M.run rfl (M.quiet (by kernel_rfl) (LQ.run rfl (LQ.ld rfl (fun w' hw' => (bw5.mv0 hw').cell rfl rfl) (LQ.run rfl (LQ.ld rfl (fun w' hw' => (b55.mv0 hw').cell rfl rfl) (LQ.run rfl
      (LQ.clGV rfl (calleeE_of S.low.ok) (fun w' hw' => S.low.go i hin w' (gr_transR e05 (gr_weak hw'))) (LQ.run rfl (LQ.nil fun w6 e6 => M.run rfl ?_)))))))))
    have e06 := gr_transR e05 (gr_weak e6)
    have hM6 := (hM4.mv0 e5).mv0 e6
    have b56 := b55.mv0 e6
    have hX6 := (hX.mv0 e5).mv0 e6
    have n5' : gm ≠ g5 := n5
    refine M.loop (σ := Nat) (fun m => [(0, .pointer (some ⟨gw, 0, none⟩)), (2, .slice X outs.length x), (3, .int .i64 (W.cheap s s.nights.length s.lo)), (5, .pointer (some ⟨g5, 0, none⟩)), (6, .int .i64 (W.cheap s (k + 1) oil)), (7, .int .i64 (W.low i + (m : Int)))])
      (fun m w' => m ≤ W.many i ∧ (∀ j, j < m → W.fits s i oil (W.cheap s k) (W.cheap s (k + 1) oil) j = false) ∧ w6.grownBy w' (some gm) ∧ MapOk .i64 (Known s W) w' gm) (fun m => W.many i - m) 0
      ⟨rfl, rfl, rfl, rfl, rfl, congrArg (fun z => some (Value.int .i64 z)) (by simp), trivial⟩ ⟨Nat.zero_le _, fun j h => by omega, gr_refl _ _, hM6⟩ ?_
    rintro m w7 ⟨hm, hnf, e67, hM7⟩
    have hgm : gm < w3.heap.size := by
      obtain ⟨ms, cl, hmm⟩ := S.map
      have := (Array.getElem?_eq_some_iff.1 hmm).1
      exact Nat.lt_of_lt_of_le this e03.size
    have e07 := gr_transR e06 e67
    have b57 := b56.mv1 e67 n5
    have bw7 := S.boxAt e07
    have hX7 := hX6.mvOld e67 hgm
    refine M.run rfl (M.quiet (by kernel_rfl) (LQ.run rfl (LQ.ld rfl (fun w' hw' => (bw7.mv0 hw').cell rfl rfl) (LQ.run rfl (LQ.ld rfl (fun w' hw' => (b57.mv0 hw').cell rfl rfl) (LQ.run rfl
      (LQ.clGV rfl (calleeE_of S.high.ok) (fun w' hw' => S.high.go i hin w' (gr_transR e07 (gr_weak hw'))) (LQ.run rfl (LQ.nil fun w8 e8 => M.run rfl (M.cond rfl (fun h3 => ?_) (fun h3 => ?_)))))))))))
    · have h3' := of_decide_eq_true h3
      have hmlt : m < W.many i := by unfold Wk.many; omega
      have hx := S.wk.many hin hmlt
      have e08 := gr_transR e07 (gr_weak e8)
      have b58 := b57.mv0 e8
      have hM8 := hM7.mv0 e8
      have hX8 := hX7.mv0 e8
      have hleft := Wk.left_bd S.ok S.wk hin ho hx.1 hx.2
      have hcost := S.wk.cost i hin _ hx.1 hx.2
      have hcb := hcbd (W.left s i oil (W.low i + (m : Int)))
      have hnext : some (Value.int .i64 (IntKind.i64.wrap (W.low i + (m : Int) + 1))) = some (Value.int .i64 (W.low i + ((m + 1 : Nat) : Int))) := congrArg (fun z => some (Value.int .i64 z)) (by rw [w64 (by omega) (by omega)]; omega)
      have hsum : IntKind.i64.wrap (W.cost i (W.low i + (m : Int)) + W.cheap s k (W.left s i oil (W.low i + (m : Int)))) = W.cost i (W.low i + (m : Int)) + W.cheap s k (W.left s i oil (W.low i + (m : Int))) := w64 (by omega) (by omega)
      refine M.run rfl (M.ldA rfl rfl b58.cellsAll (M.run rfl (M.cl rfl (step_go S w8 e08 i hin oil (W.low i + (m : Int)) ho hx.1 hx.2) ?_)))
      rintro e w9 ⟨rfl, e9⟩
      refine ⟨_, rfl, M.run rfl (M.nw rfl fun g8 wa b8 ea l8 => M.run rfl (M.store rfl rfl b8 rfl rfl fun wb b8' eb => M.run rfl ?_))⟩
      have e9b : w9.grownBy wb none := gr_fresh ea eb l8
      have e8b := gr_trans e9 e9b
      have e0b := gr_transR e08 (gr_weak e8b)
      have b5b := b58.mv0 e8b
      have hMb := hM8.mv0 e8b
      have hXb := hX8.mv0 e8b
      have bwb := S.boxAt e0b
      have n8 : gm ≠ g8 := hMb.ne b8'
      have hg8 : w3.heap.size ≤ g8 := Nat.le_trans (Nat.le_trans (Nat.le_trans hsz4 (Nat.le_trans e5.size (Nat.le_trans e6.size (Nat.le_trans e67.size e8.size)))) e9.size) l8
      -- whether it fits
      refine M.cutC (σ := Bool) (fun fit => [(0, .pointer (some ⟨gw, 0, none⟩)), (2, .slice X outs.length x), (3, .int .i64 (W.cheap s s.nights.length s.lo)), (5, .pointer (some ⟨g5, 0, none⟩)), (6, .int .i64 (W.cheap s (k + 1) oil)), (7, .int .i64 (W.low i + (m : Int))), (8, .pointer (some ⟨g8, 0, none⟩)), (73, .bool fit)])
        (fun fit w' => fit = W.fits s i oil (W.cheap s k) (W.cheap s (k + 1) oil) m ∧ wb.grownBy w' (some gm) ∧ MapOk .i64 (Known s W) w' gm) ?_ ?_ post_weak
      · refine M.draw (fun w w' => w.grownBy w' (some gm)) (fun _ _ => True) [] [] [] (fun _ _ _ h => h) (fun w => gr_refl w _) (fun a b c h k => gr_transR h k) (fun _ _ _ => trivial) (fun _ _ _ _ _ => trivial) (by kernel_rfl) ?_
        have ed := gr_drewN wb 1
        refine D.at_ [58] rfl (D.case 58 rfl (fun h4 => ?_) (fun h4 => ?_))
        · refine D.run rfl (D.ld 5 rfl rfl rfl rfl (fun w' hw' => ((bwb.mv0 ed).mv1 hw' S.nm).cell rfl rfl) (D.ld 7 rfl rfl rfl rfl (fun w' hw' => ((b5b.mv0 ed).mv1 hw' n5).cell rfl rfl) (D.ldA 11 rfl rfl rfl rfl rfl (fun w' hw' => ((b8'.mv0 ed).mv1 hw' n8).cellsAll) ?_)))
          refine D.one 9 rfl rfl (M.clV rfl (calleeE_of S.cost.ok) (S.cost.go i hin _ hx.1 hx.2 _ (gr_transR e0b (gr_weak ed))) ?_)
          rintro e wc ⟨rfl, ec⟩
          have ebc := gr_trans ed ec
          have hc2 := cheapest_go S k (by omega) wc (gr_transR e0b (gr_weak ebc)) (hMb.mv0 ebc) _ hleft
          rw [hi1] at hc2
          refine ⟨_, rfl, M.run rfl (M.end_ ⟨.inr (gr_weak ec), D.one 12 rfl rfl (M.cl rfl hc2 ?_)⟩)⟩
          rintro e wd ⟨rfl, ed2, hMd⟩
          refine ⟨_, rfl, M.run rfl (M.end_ ⟨.inr ed2, D.run rfl (D.done_ rfl (M.run rfl (M.end_ ⟨_, ⟨rfl, rfl, rfl, rfl, rfl, rfl, rfl, rfl, trivial⟩, ?_, gr_transR (gr_weak ebc) ed2, hMd⟩)))⟩)⟩
          unfold Wk.fits
          rw [h4, hsum]; rfl
        · refine D.run rfl (D.done_ rfl (M.run rfl (M.end_ ⟨_, ⟨rfl, rfl, rfl, rfl, rfl, rfl, rfl, rfl, trivial⟩, ?_, gr_weak ed, hMb.mv0 ed⟩)))
          unfold Wk.fits
          rw [h4]; rfl
      · rintro fit wc ⟨hfit, ebc, hMc⟩
        have e0c := gr_transR e0b ebc
        have b5c := b5b.mv1 ebc n5
        have b8c := b8'.mv1 ebc n8
        have hXc := hXb.mvOld ebc hgm
        have bwc := S.boxAt e0c
        have hszc : w3.heap.size ≤ wc.heap.size := Nat.le_trans hg8 (Nat.le_of_lt b8c.lt)
        have e6c : w6.grownBy wc (some gm) := gr_transR (gr_transR e67 (gr_weak (gr_trans e8 e8b))) ebc
        refine M.run rfl (M.cond rfl (fun h4 => ?_) (fun h4 => ?_))
        · rw [h4] at hfit
          have hfs : W.first s i oil (W.cheap s k) (W.cheap s (k + 1) oil) = m := by
            rcases Nat.lt_trichotomy (W.first s i oil (W.cheap s k) (W.cheap s (k + 1) oil)) m with h | h | h
            · have := hnf _ h; rw [hff] at this; cases this
            · exact h
            · have := hfb m h; rw [← hfit] at this; cases this
          have hpay : W.cost i (W.low i + (m : Int)) + W.cheap s k (W.left s i oil (W.low i + (m : Int))) = W.cheap s (k + 1) oil := by
            have := hfit.symm
            unfold Wk.fits at this
            rw [Bool.and_eq_true] at this
            simpa using this.2
          have hsub : IntKind.i64.wrap (W.cheap s (k + 1) oil - W.cost i (W.low i + (m : Int))) = W.cheap s k (W.left s i oil (W.low i + (m : Int))) := by rw [w64 (by omega) (by omega)]; omega
          have hXg : ∀ g, blkOf X = some g → w3.heap.size ≤ g ∧ g < wc.heap.size := hXc.blkGe
          have xw : blkOf X ≠ some gw := fun h => by have h1 := (hXg gw h).1; have h2 := S.box.lt; have := e03.size; omega
          have x5 : blkOf X ≠ some g5 := fun h => by have h1 := (hXg g5 h).1; have h2 := b53.lt; omega
          have x8 : blkOf X ≠ some g8 := fun h => by
            have h1 := (hXb.blkGe g8 h)
            have h2 := (hX8.blkGe g8 h).2
            have := e9.size
            omega
          refine M.run rfl (M.draw (fun w w' => w.grownBy w' (blkOf X)) (fun _ _ => True) [17] [] [] (fun _ _ _ h => h) (fun w => gr_refl w _) (fun a b c h k => gr_transR h k) (fun _ _ _ => trivial) (fun _ _ _ _ _ => trivial) (by kernel_rfl) ?_)
          have ed := gr_drewN wc 1
          refine D.run rfl (D.ld 8 rfl rfl rfl rfl (fun w' hw' => ((bwc.mv0 ed).mv hw' xw).cell rfl rfl) (D.ld 10 rfl rfl rfl rfl (fun w' hw' => ((b5c.mv0 ed).mv hw' x5).cell rfl rfl) (D.ldA 14 rfl rfl rfl rfl rfl (fun w' hw' => ((b8c.mv0 ed).mv hw' x8).cellsAll) ?_)))
          have hXd := hXc.mv0 ed
          have hnewX : ∀ g, blkOf X = some g → w0.heap.size ≤ g := fun g hg => Nat.le_trans e03.size (hXg g hg).1
          have hszd : w3.heap.size ≤ (wc.drewN 1).heap.size := Nat.le_trans hszc ed.size
          have hoi : outs.length = i := by rw [hol]
          have hcostAt : ∀ w', (wc.drewN 1).grownBy w' (blkOf X) → Calls Try.prog f3 (s3.toList ++ ([Value.int .i64 i, Value.int .i64 (W.low i + (m : Int))] ++ c3.toList)).toArray w' fun e w'' => e = .returned (.int .i64 (W.cost i (W.low i + (m : Int)))) ∧ w'.grownBy w'' none :=
            fun w' hw' => S.cost.go i hin _ hx.1 hx.2 w' (gr_newR (gr_transR e0c (gr_weak ed)) hw' hnewX)
          refine D.meet (σ := Option Addr × Nat) 4 [12, 3, 2, 14, 10, 8, 0, 1, 4, 5, 6, 7, 9, 11]
            (fun (X', x') => [(77, .slice X' (outs ++ [W.low i + (m : Int)]).length x'), (78, .int .i64 (W.cheap s (k + 1) oil)), (86, .int .i64 (W.cost i (W.low i + (m : Int)))), (88, .agg #[.int .i64 ((i + 1 : Nat) : Int), .int .i64 (W.left s i oil (W.low i + (m : Int)))]), (0, .pointer (some ⟨gw, 0, none⟩)), (3, .int .i64 (W.cheap s s.nights.length s.lo)), (5, .pointer (some ⟨g5, 0, none⟩))])
            (fun (X', x') w' => (wc.drewN 1).grownBy w' (blkOf X) ∧ Vc.Own dI 3 w' w3.heap.size no X' x' (outs ++ [W.low i + (m : Int)])) (fun hcont => ?_) ?_
          rotate_left
          · rintro ⟨X', x'⟩ wd ⟨ecd, hX'⟩
            have e0d := gr_newR (gr_transR e0c (gr_weak ed)) ecd hnewX
            have b5d := (b5c.mv0 ed).mv ecd x5
            have hMd := (hMc.mv0 ed).mv ecd (fun h => by have := (hXg gm h).1; omega)
            refine D.run rfl (D.one 17 rfl rfl (M.store rfl rfl b5d rfl rfl fun we be ee => M.run rfl (M.end_ ⟨.inl ⟨rfl, trivial⟩, D.done_ rfl (M.run rfl (M.end_
              ⟨(k, W.left s i oil (W.low i + (m : Int)), X', x', outs ++ [W.low i + (m : Int)]), ⟨rfl, rfl, rfl, rfl, ?_, trivial⟩, ⟨by omega, hleft, ?_, ?_, ?_, ?_, ?_, ?_, ?_, ?_⟩, by show k < k + 1; omega⟩))⟩)))
            · exact congrArg (fun z => some (Value.int .i64 z)) hsub
            · omega
            · rw [← hpk, hpicks, hfs]; simp
            · simp; omega
            · exact gr_newR e0d ee (fun g hg => by cases hg; exact l1)
            · exact Nat.le_trans hszd (Nat.le_trans ecd.size ee.size)
            · exact hMd.mv ee (fun h => n5 (by injection h with h; exact h.symm))
            · rw [hi1]; exact be
            · exact hX'.mvOld ee b53.lt
          refine D.one 2 rfl rfl (M.bs rfl fun ga wd ba e_a la => M.run rfl (M.end_ ⟨.inr (gr_weak e_a), D.one 3 rfl rfl ?_⟩))
          refine M.app (d := dI) rfl rfl (hXd.mv0 e_a) rfl (by decide) rfl (ys := [W.low i + (m : Int)]) rfl rfl (src_one ba rfl) (Nat.le_trans hszd e_a.size) (by simp; omega) (by decide) fun X' x' we hXe ee hat => M.run rfl (M.end_ ⟨.inr ee, D.one 12 rfl rfl (M.clV rfl (calleeE_of S.cost.ok) (hcostAt we (gr_transR (gr_weak e_a) ee)) ?_)⟩)
          rintro e wf ⟨rfl, ef⟩
          refine ⟨_, rfl, M.run rfl (M.end_ ⟨.inr (gr_weak ef), D.weak rfl ?_ (hcont (X', x') wf ⟨gr_transR (gr_transR (gr_weak e_a) ee) (gr_weak ef), hXe.mv0 ef⟩)⟩)⟩
          exact ⟨rfl, rfl, rfl, rfl, rfl, rfl, rfl, trivial⟩
        · rw [h4] at hfit
          refine M.run rfl (M.end_ ⟨m + 1, ⟨rfl, rfl, rfl, rfl, rfl, hnext, trivial⟩, ⟨by omega, fun j hj => ?_, e6c, hMc⟩, by omega⟩)
          by_cases hjm : j = m
          · subst hjm; exact hfit.symm
          · exact hnf j (by omega)
    · have h3' := of_decide_eq_false h3
      exfalso
      have := hnf (W.first s i oil (W.cheap s k) (W.cheap s (k + 1) oil)) (by unfold Wk.many at hfl; omega)
      rw [hff] at this
      cases this
  · have h2' := of_decide_eq_false h2
    have hk0 : k = 0 := by omega
    subst hk0
    have hout : outs = W.picks s s.nights.length s.lo := by rw [← hpk]; simp [Wk.picks]
    refine M.run rfl (M.retF rfl rfl ⟨X, x, ?_, ?_, gr_transR e04 (gr_weak e5)⟩)
    · rw [← hout]; rfl
    · rw [← hout]; exact (hX.mv0 e5).weaken e03.size (fun _ h => h)
end
end Go.Proofs.Ytaimlmfncjbmjaa
end

section
/- Walks: Deliver, Trim. -/
set_option linter.unusedVariables false
namespace Go.Proofs.Ytaimlmfncjbmjaa
open Go Go.Vc Go.RowKit Lp

theorem d1_go (i : Int) (w : World) : Calls Try.prog 78 #[.int .i64 i] w fun e w' => e = .returned (.int .i64 0) ∧ w.grownBy w' none := by
  refine calls (G := G) (args := [.int .i64 i]) Try.func78 rfl rfl rfl ?_
  exact M.run rfl (M.retF rfl rfl ⟨rfl, gr_refl _ _⟩)
theorem d2_go (i : Int) (w : World) : Calls Try.prog 79 #[.int .i64 i] w fun e w' => e = .returned (.int .i64 2) ∧ w.grownBy w' none := by
  refine calls (G := G) (args := [.int .i64 i]) Try.func79 rfl rfl rfl ?_
  exact M.run rfl (M.retF rfl rfl ⟨rfl, gr_refl _ _⟩)
theorem d3_go (i x : Int) (w : World) : Calls Try.prog 80 #[.int .i64 i, .int .i64 x] w fun e w' => e = .returned (.int .i64 x) ∧ w.grownBy w' none := by
  refine calls (G := G) (args := [.int .i64 i, .int .i64 x]) Try.func80 rfl rfl rfl ?_
  exact M.run rfl (M.retF rfl rfl ⟨rfl, gr_refl _ _⟩)
theorem d4_go (l : List Int) (U : Option Addr) (d : Nat) (g : Nat) (i : Nat) (x : Int) (w : World) (hi : i < l.length) (hU : Rd dI w U d l) (hB : Blk w g [.slice U l.length d] 27) :
    Calls Try.prog 81 #[.int .i64 i, .int .i64 x, .pointer (some ⟨g, 0, none⟩)] w fun e w' => e = .returned (.tuple #[.int .i64 x, .int .i64 (at0 l i)]) ∧ w.grownBy w' none := by
  obtain ⟨hU1, hUC⟩ := rd_flat hU hi
  rw [at0_get hi] at hUC
  refine calls (G := G) (args := [.int .i64 i, .int .i64 x, .pointer (some ⟨g, 0, none⟩)]) Try.func81 rfl rfl rfl ?_
  refine M.run rfl (M.quiet (by kernel_rfl) (LQ.run rfl (LQ.ld rfl (fun w' hw' => (hB.mv0 hw').cell rfl rfl) (LQ.run rfl (LQ.ix rfl (by omega) (by omega) hU1 (LQ.run rfl (LQ.ld rfl (fun w' hw' => (hUC w' (gr_below hw')).one 0 rfl rfl) (LQ.run rfl (LQ.nil fun w1 e1 => M.run rfl (M.retF rfl rfl ⟨rfl, e1⟩))))))))))
theorem t1_go (s : Store) (A : Option Addr) (c : Nat) (g : Nat) (i : Nat) (w : World) (hi : i < s.nights.length) (hA : Rd dNight w A c s.nights) (hB : Blk w g (vStore s A c).cells.toList 39) :
    Calls Try.prog 85 #[.int .i64 i, .pointer (some ⟨g, 0, none⟩)] w fun e w' => e = .returned (.int .i64 (nt s i).least) ∧ w.grownBy w' none := by
  obtain ⟨hA1, hAC⟩ := rd_flat hA hi
  rw [nt_get hi] at hAC
  refine calls (G := G) (args := [.int .i64 i, .pointer (some ⟨g, 0, none⟩)]) Try.func85 rfl rfl rfl ?_
  exact M.run rfl (M.ld rfl (hB.cell rfl rfl) (M.run rfl (M.ix rfl (by omega) (by omega) hA1 (M.run rfl (M.ld rfl ((hAC w (Below.refl _ _)).one 1 rfl rfl) (M.run rfl (M.retF rfl rfl ⟨rfl, gr_refl _ _⟩)))))))
theorem t2_go (s : Store) (A : Option Addr) (c : Nat) (g : Nat) (i : Nat) (w : World) (hi : i < s.nights.length) (hA : Rd dNight w A c s.nights) (hB : Blk w g (vStore s A c).cells.toList 39) :
    Calls Try.prog 86 #[.int .i64 i, .pointer (some ⟨g, 0, none⟩)] w fun e w' => e = .returned (.int .i64 (nt s i).most) ∧ w.grownBy w' none := by
  obtain ⟨hA1, hAC⟩ := rd_flat hA hi
  rw [nt_get hi] at hAC
  refine calls (G := G) (args := [.int .i64 i, .pointer (some ⟨g, 0, none⟩)]) Try.func86 rfl rfl rfl ?_
  exact M.run rfl (M.ld rfl (hB.cell rfl rfl) (M.run rfl (M.ix rfl (by omega) (by omega) hA1 (M.run rfl (M.ld rfl ((hAC w (Below.refl _ _)).one 2 rfl rfl) (M.run rfl (M.retF rfl rfl ⟨rfl, gr_refl _ _⟩)))))))
theorem t3_go (s : Store) (A : Option Addr) (c : Nat) (g : Nat) (i : Nat) (x : Int) (w : World) (hi : i < s.nights.length) (hx : 0 ≤ x ∧ x ≤ 4) (hh : 0 ≤ (nt s i).hours ∧ (nt s i).hours ≤ 14) (hA : Rd dNight w A c s.nights) (hB : Blk w g (vStore s A c).cells.toList 39) :
    Calls Try.prog 87 #[.int .i64 i, .int .i64 x, .pointer (some ⟨g, 0, none⟩)] w fun e w' => e = .returned (.int .i64 (-x * (nt s i).hours)) ∧ w.grownBy w' none := by
  obtain ⟨hA1, hAC⟩ := rd_flat hA hi
  rw [nt_get hi] at hAC
  have hm := mul_bd (a := x) (A := 4) (b := (nt s i).hours) (B := 14) hx hh (by omega)
  have e0 : IntKind.i64.wrap (0 - x) = -x := by rw [w64 (by omega) (by omega)]; omega
  have e1 : IntKind.i64.wrap (-x * (nt s i).hours) = -x * (nt s i).hours := by
    have e : -x * (nt s i).hours = -(x * (nt s i).hours) := Int.neg_mul _ _
    rw [e]; exact w64 (by omega) (by omega)
  refine calls (G := G) (args := [.int .i64 i, .int .i64 x, .pointer (some ⟨g, 0, none⟩)]) Try.func87 rfl rfl rfl ?_
  refine M.run rfl (M.ld rfl (hB.cell rfl rfl) (M.run rfl (M.ix rfl (by omega) (by omega) hA1 (M.run rfl (M.ld rfl ((hAC w (Below.refl _ _)).one 0 rfl rfl) (M.run rfl (M.retF rfl rfl ⟨?_, gr_refl _ _⟩)))))))
  rw [e0, e1]; rfl
theorem t4_go (l : List Int) (U : Option Addr) (d : Nat) (g : Nat) (i : Nat) (x : Int) (w : World) (hi : i < l.length) (hU : Rd dI w U d l) (hB : Blk w g [.slice U l.length d] 27) :
    Calls Try.prog 88 #[.int .i64 i, .int .i64 x, .pointer (some ⟨g, 0, none⟩)] w fun e w' => e = .returned (.tuple #[.int .i64 (at0 l i), .int .i64 x]) ∧ w.grownBy w' none := by
  obtain ⟨hU1, hUC⟩ := rd_flat hU hi
  rw [at0_get hi] at hUC
  refine calls (G := G) (args := [.int .i64 i, .int .i64 x, .pointer (some ⟨g, 0, none⟩)]) Try.func88 rfl rfl rfl ?_
  exact M.run rfl (M.ld rfl (hB.cell rfl rfl) (M.run rfl (M.ix rfl (by omega) (by omega) hU1 (M.run rfl (M.ld rfl ((hUC w (Below.refl _ _)).one 0 rfl rfl) (M.run rfl (M.retF rfl rfl ⟨rfl, gr_refl _ _⟩)))))))

set_option maxHeartbeats 1000000 in
theorem Deliver_go (s : Store) (l : List Int) (A : Option Addr) (c : Nat) (U : Option Addr) (d : Nat) (w : World) (hA : Rd dNight w A c s.nights) (hU : Rd dI w U d l) :
    Calls Try.prog 33 #[vStore s A c, .slice U l.length d] w fun e w' => ∃ X x, e = .returned (.tuple #[.slice X (deliverR s l).length x, .int .i64 (deliverC s l), .int .i64 (deliverE s l)]) ∧ Vc.Own dI 3 w' w.heap.size no X x (deliverR s l) ∧ w.grownBy w' none := by
  refine calls (G := G) (args := [vStore s A c, .slice U l.length d]) Try.func33 rfl rfl rfl ?_
  refine M.run rfl (M.nw rfl fun g2 w1 b2 e1 l1 => M.run rfl (M.nw rfl fun g3 w2 b3 e2 l2 => M.run rfl (M.ldA rfl rfl (b2.mv0 e2).cellsAll (M.run rfl (M.cl rfl (checkStore_go s A c w2 (hA.mv (gr_trans e1 e2))) ?_)))))
  rintro e w3 ⟨rfl, e3⟩
  have e03 := gr_trans (gr_trans e1 e2) e3
  replace b2 := (b2.mv0 e2).mv0 e3
  replace b3 := b3.mv0 e3
  refine ⟨_, rfl, M.run rfl (M.cond rfl (fun h => ?_) (fun h => ?_))⟩
  · have h' : checkStore s ≠ 0 := by simpa using h
    have hE : deliverE s l = checkStore s := by simp [deliverE, h']
    have hR : deliverR s l = [] := by simp [deliverR, hE, h']
    have hC : deliverC s l = 0 := by simp [deliverC, hE, h']
    rw [hE, hR, hC]
    exact M.run rfl (M.retF rfl rfl ⟨none, 0, rfl, Vc.Own.nil _ _ _ _ _, e03⟩)
  have h' : checkStore s = 0 := by simpa using h
  have hs := checkStore_ok h'
  refine M.run rfl (M.ldA rfl rfl b2.cellsAll (M.run rfl (M.ld rfl (b3.cell rfl rfl) (M.run rfl (M.cl rfl (wicks_go s A c l U d w3 (hA.mv e03) (hU.mv e03)) ?_)))))
  rintro e w4 ⟨rfl, e4⟩
  have e04 := gr_trans e03 e4
  replace b2 := b2.mv0 e4
  replace b3 := b3.mv0 e4
  refine ⟨_, rfl, M.run rfl (M.cond rfl (fun h2 => ?_) (fun h2 => ?_))⟩
  · have h2' : wicksOk s l = false := by simpa using h2
    have hE : deliverE s l = 2 := by simp [deliverE, h', h2']
    have hR : deliverR s l = [] := by simp [deliverR, hE]
    have hC : deliverC s l = 0 := by simp [deliverC, hE]
    rw [hE, hR, hC]
    exact M.run rfl (M.retF rfl rfl ⟨none, 0, rfl, Vc.Own.nil _ _ _ _ _, e04⟩)
  have h2' : wicksOk s l = true := by simpa using h2
  obtain ⟨hwl, hww⟩ := wicksOk_spec h2'
  refine M.run rfl (M.ldA rfl rfl b2.cellsAll (M.run rfl (M.mkMap .i64 (Known s (wkD l)) rfl fun gm w5 hM5 e5 l5 => M.run rfl (M.nw rfl fun gw w6 b6 e6 l6 => M.run rfl ?_))))
  refine M.store rfl rfl b6 rfl rfl fun w7 b7 e7 => M.run rfl (M.store rfl rfl b7 rfl rfl fun w8 b8 e8 => M.run rfl (M.store rfl rfl b8 rfl rfl fun w9 b9 e9 => M.run rfl (M.store rfl rfl b9 rfl rfl fun wa ba ea => M.run rfl ?_)))
  have e5a : w5.grownBy wa none := gr_fresh (gr_fresh (gr_fresh (gr_fresh e6 e7 l6) e8 l6) e9 l6) ea l6
  have e4a := gr_trans e5 e5a
  have e0a := gr_trans e04 e4a
  have hMa := hM5.mv0 e5a
  have b3a := b3.mv0 e4a
  have hgm : w.heap.size ≤ gm := Nat.le_trans e04.size l5
  have S : Search s (wkD l) A c gw gm w wa 78 79 80 81 #[] #[] #[] #[] #[] #[] #[] #[.pointer (some ⟨g3, 0, none⟩)] := by
    refine ⟨hs, wkD_ok hs h2', hA, e0a, hgm, ba, ⟨rfl, fun i hi w' hw' => d1_go i w'⟩, ⟨rfl, fun i hi w' hw' => d2_go i w'⟩, ⟨rfl, fun i hi x h1 h2 w' hw' => d3_go i x w'⟩, ⟨rfl, fun i hi x h1 h2 w' hw' => ?_⟩, hMa.ne ba, ?_⟩
    · exact d4_go l U d g3 i x w' (by omega) (hU.mv (gr_fresh e0a hw' hgm)) (b3a.mv1 hw' (hMa.ne b3a))
    · obtain ⟨ms, cl, hm, _⟩ := hMa
      exact ⟨ms, cl, hm⟩
  refine M.cl rfl (best_go S hMa) ?_
  rintro e wb ⟨X, x, rfl, hX, eb⟩
  have e0b : w.grownBy wb none := gr_fresh e0a eb hgm
  refine ⟨_, rfl, M.run rfl (M.cond rfl (fun h3 => ?_) (fun h3 => ?_))⟩
  · have h3' : (wkD l).found s = false := by simpa using h3
    have hE : deliverE s l = 10 := by simp [deliverE, h', h2', h3']
    have hR : deliverR s l = [] := by simp [deliverR, hE]
    have hC : deliverC s l = 0 := by simp [deliverC, hE]
    rw [hE, hR, hC]
    exact M.run rfl (M.retF rfl rfl ⟨none, 0, rfl, Vc.Own.nil _ _ _ _ _, e0b⟩)
  · have h3' : (wkD l).found s = true := by simpa using h3
    have hE : deliverE s l = 0 := by simp [deliverE, h', h2', h3']
    have hR : deliverR s l = (wkD l).best s := by simp [deliverR, hE]
    have hC : deliverC s l = (wkD l).bestC s := by simp [deliverC, hE]
    rw [hE, hR, hC]
    exact M.run rfl (M.retF rfl rfl ⟨X, x, rfl, hX.weaken e0a.size (fun _ h => h), e0b⟩)

set_option maxHeartbeats 1000000 in
theorem Trim_go (s : Store) (l : List Int) (A : Option Addr) (c : Nat) (U : Option Addr) (d : Nat) (w : World) (hA : Rd dNight w A c s.nights) (hU : Rd dI w U d l) :
    Calls Try.prog 38 #[vStore s A c, .slice U l.length d] w fun e w' => ∃ X x, e = .returned (.tuple #[.slice X (trimR s l).length x, .int .i64 (trimC s l), .int .i64 (trimE s l)]) ∧ Vc.Own dI 3 w' w.heap.size no X x (trimR s l) ∧ w.grownBy w' none := by
  refine calls (G := G) (args := [vStore s A c, .slice U l.length d]) Try.func38 rfl rfl rfl ?_
  refine M.run rfl (M.nw rfl fun g2 w1 b2 e1 l1 => M.run rfl (M.nw rfl fun g3 w2 b3 e2 l2 => M.run rfl (M.ldA rfl rfl (b2.mv0 e2).cellsAll (M.run rfl (M.cl rfl (checkStore_go s A c w2 (hA.mv (gr_trans e1 e2))) ?_)))))
  rintro e w3 ⟨rfl, e3⟩
  have e03 := gr_trans (gr_trans e1 e2) e3
  replace b2 := (b2.mv0 e2).mv0 e3
  replace b3 := b3.mv0 e3
  refine ⟨_, rfl, M.run rfl (M.cond rfl (fun h => ?_) (fun h => ?_))⟩
  · have h' : checkStore s ≠ 0 := by simpa using h
    have hE : trimE s l = checkStore s := by simp [trimE, h']
    have hR : trimR s l = [] := by simp [trimR, hE, h']
    have hC : trimC s l = 0 := by simp [trimC, hE, h']
    rw [hE, hR, hC]
    exact M.run rfl (M.retF rfl rfl ⟨none, 0, rfl, Vc.Own.nil _ _ _ _ _, e03⟩)
  have h' : checkStore s = 0 := by simpa using h
  have hs := checkStore_ok h'
  refine M.run rfl (M.ldA rfl rfl b2.cellsAll (M.run rfl (M.ld rfl (b3.cell rfl rfl) (M.run rfl (M.cl rfl (cans_go s A c l U d w3 (hA.mv e03) (hU.mv e03)) ?_)))))
  rintro e w4 ⟨rfl, e4⟩
  have e04 := gr_trans e03 e4
  replace b2 := b2.mv0 e4
  replace b3 := b3.mv0 e4
  refine ⟨_, rfl, M.run rfl (M.cond rfl (fun h2 => ?_) (fun h2 => ?_))⟩
  · have h2' : cansOk s l = false := by simpa using h2
    have hE : trimE s l = 2 := by simp [trimE, h', h2']
    have hR : trimR s l = [] := by simp [trimR, hE]
    have hC : trimC s l = 0 := by simp [trimC, hE]
    rw [hE, hR, hC]
    exact M.run rfl (M.retF rfl rfl ⟨none, 0, rfl, Vc.Own.nil _ _ _ _ _, e04⟩)
  have h2' : cansOk s l = true := by simpa using h2
  obtain ⟨hwl, hww⟩ := cansOk_spec h2'
  refine M.run rfl (M.ldA rfl rfl b2.cellsAll (M.run rfl (M.mkMap .i64 (Known s (wkT s l)) rfl fun gm w5 hM5 e5 l5 => M.run rfl (M.nw rfl fun gw w6 b6 e6 l6 => M.run rfl ?_))))
  refine M.store rfl rfl b6 rfl rfl fun w7 b7 e7 => M.run rfl (M.store rfl rfl b7 rfl rfl fun w8 b8 e8 => M.run rfl (M.store rfl rfl b8 rfl rfl fun w9 b9 e9 => M.run rfl (M.store rfl rfl b9 rfl rfl fun wa ba ea => M.run rfl ?_)))
  have e5a : w5.grownBy wa none := gr_fresh (gr_fresh (gr_fresh (gr_fresh e6 e7 l6) e8 l6) e9 l6) ea l6
  have e4a := gr_trans e5 e5a
  have e0a := gr_trans e04 e4a
  have hMa := hM5.mv0 e5a
  have b3a := b3.mv0 e4a
  have hgm : w.heap.size ≤ gm := Nat.le_trans e04.size l5
  have S : Search s (wkT s l) A c gw gm w wa 85 86 87 88 #[] #[.pointer (some ⟨g2, 0, none⟩)] #[] #[.pointer (some ⟨g2, 0, none⟩)] #[] #[.pointer (some ⟨g2, 0, none⟩)] #[] #[.pointer (some ⟨g3, 0, none⟩)] := by
    have hAt : ∀ w', wa.grownBy w' (some gm) → Rd dNight w' A c s.nights := fun w' hw' => hA.mv (gr_fresh e0a hw' hgm)
    have hBt : ∀ w', wa.grownBy w' (some gm) → Blk w' g2 (vStore s A c).cells.toList 39 := fun w' hw' => (b2.mv0 e4a).mv1 hw' (hMa.ne (b2.mv0 e4a))
    refine ⟨hs, wkT_ok hs h2', hA, e0a, hgm, ba, ⟨rfl, fun i hi w' hw' => t1_go s A c g2 i w' hi (hAt w' hw') (hBt w' hw')⟩, ⟨rfl, fun i hi w' hw' => t2_go s A c g2 i w' hi (hAt w' hw') (hBt w' hw')⟩, ⟨rfl, fun i hi x h1 h2 w' hw' => ?_⟩, ⟨rfl, fun i hi x h1 h2 w' hw' => ?_⟩, hMa.ne ba, ?_⟩
    · have hn := hs.nt hi
      simp only [wkT] at h1 h2
      exact t3_go s A c g2 i x w' hi (by omega) (by omega) (hAt w' hw') (hBt w' hw')
    · exact t4_go l U d g3 i x w' (by omega) (hU.mv (gr_fresh e0a hw' hgm)) (b3a.mv1 hw' (hMa.ne b3a))
    · obtain ⟨ms, cl, hm, _⟩ := hMa
      exact ⟨ms, cl, hm⟩
  refine M.cl rfl (best_go S hMa) ?_
  rintro e wb ⟨X, x, rfl, hX, eb⟩
  have e0b : w.grownBy wb none := gr_fresh e0a eb hgm
  refine ⟨_, rfl, M.run rfl (M.cond rfl (fun h3 => ?_) (fun h3 => ?_))⟩
  · have h3' : (wkT s l).found s = false := by simpa using h3
    have hE : trimE s l = 10 := by simp [trimE, h', h2', h3']
    have hR : trimR s l = [] := by simp [trimR, hE]
    have hC : trimC s l = 0 := by simp [trimC, hE]
    rw [hE, hR, hC]
    exact M.run rfl (M.retF rfl rfl ⟨none, 0, rfl, Vc.Own.nil _ _ _ _ _, e0b⟩)
  · have h3' : (wkT s l).found s = true := by simpa using h3
    have hE : trimE s l = 0 := by simp [trimE, h', h2', h3']
    have hR : trimR s l = (wkT s l).best s := by simp [trimR, hE]
    have hC : trimC s l = -(wkT s l).bestC s := by simp [trimC, hE]
    rw [hE, hR, hC]
    have hcb := Wk.cheap_bd (wkT_ok hs h2') hs.few s.nights.length (Nat.le_refl _) s.lo
    have hn6 := hs.few
    have hw0 : IntKind.i64.wrap (0 - (wkT s l).bestC s) = -(wkT s l).bestC s := by
      have : (wkT s l).bestC s = (wkT s l).cheap s s.nights.length s.lo := by unfold Wk.bestC; rw [h3']; rfl
      have hnv : never = 1048576 := rfl
      rw [this, w64 (by omega) (by omega)]; omega
    rw [← hw0]
    exact M.run rfl (M.retF rfl rfl ⟨X, x, rfl, hX.weaken e0a.size (fun _ h => h), e0b⟩)
end Go.Proofs.Ytaimlmfncjbmjaa
end

section
/- Walk: awake. -/
set_option linter.unusedVariables false
namespace Go.Proofs.Ytaimlmfncjbmjaa
open Go Go.Vc Go.RowKit Lp

theorem _root_.Go.Vc.M.caseT {G : Ctx} {n : Nat} {Q : QT} {ρ : Env} {w : World} {all : Array Oper} {l : List Oper} {k : List It} (d : Nat) {b : Bool} (hd : ρ.find d = some (.bool b)) (hb : b = true) (h : M G n (.ops all l :: k) Q ((d, .bool true) :: ρ) w) : M G n (.ops all l :: k) Q ρ w :=
  M.case d hd (fun _ => h) (fun h2 => by rw [hb] at h2; cases h2)
theorem _root_.Go.Vc.D.caseT {G : Ctx} {n : Nat} {all : Array Oper} {ρ : Env} {R RL : World → World → Prop} {late ex sk : List Nat} {k : List It} {Q : QT} {m : Nat} {done : List Nat} {w : World} (s : Nat) {b : Bool} (hd : ρ.find s = some (.bool b)) (hb : b = true) (h : Vc.D G n all R RL late ex sk k Q m done ((s, .bool true) :: ρ) w) : Vc.D G n all R RL late ex sk k Q m done ρ w :=
  D.case s hd (fun _ => h) (fun h2 => by rw [hb] at h2; cases h2)
theorem rd_empty {α : Type} (d : Rp α) (w : World) : Rd d w none 0 [] := Sl.nil d w _ _ _ (by simp [maxLen])
theorem rd_two (w : World) (g e : Nat) (a b : Int) (h : Blk w g [.int .i64 a, .int .i64 b] e) : Rd dI w (some ⟨g, 0, none⟩) 2 [a, b] := rd_lit h [a, b] rfl (by simp [maxLen])

set_option maxHeartbeats 4000000 in
set_option maxRecDepth 100000 in
theorem awake_go (w : World) : Calls Try.prog 17 #[] w fun e w' => e = .returned (.bool true) ∧ w.grownBy w' none := by
  refine calls (G := G) (args := []) Try.func17 rfl rfl rfl ?_
  refine M.run rfl (M.cl rfl (tank_go w) ?_)
  rintro e w1 ⟨X1, rfl, r1, e1⟩
  refine ⟨_, rfl, M.run rfl (M.cl rfl (planF_go 0 1 1 2 w1) ?_)⟩
  rintro e w2 ⟨P1, Q1, rfl, rp1, rq1, e2⟩
  refine ⟨_, rfl, M.run rfl (M.bs rfl fun g3 w3 b3 e3 l3 => M.run rfl ?_)⟩
  have e13 := gr_trans e2 e3
  have hc1 := Play_go tankS (planP 0 1 1 2) ⟨22, [3, 2]⟩ X1 2 P1 2 Q1 2 (some ⟨g3, 0, none⟩) 2 w3 (r1.mv e13) (rp1.mv e3) (rq1.mv e3) (rd_two w3 g3 3 3 2 b3)
  rw [ex_play.1, ex_play.2.1, ex_play.2.2.1, ex_play.2.2.2] at hc1
  refine M.cl rfl hc1 ?_
  rintro e w4 ⟨L1, l1, B1, b1, I1, i1, rfl, hL1, hB1, hI1, e4⟩
  have e04 := gr_trans (gr_trans e1 e13) e4
  refine ⟨_, rfl, M.run rfl (M.cl rfl (tank_go w4) ?_)⟩
  rintro e w5 ⟨X2, rfl, r2, e5⟩
  refine ⟨_, rfl, M.run rfl (M.cl rfl (planF_go 0 1 1 2 w5) ?_)⟩
  rintro e w6 ⟨P2, Q2, rfl, rp2, rq2, e6⟩
  refine ⟨_, rfl, M.run rfl ?_⟩
  have hc2 := Oil_go tankS (planP 0 1 1 2) [] X2 2 P2 2 Q2 2 none 0 w6 (r2.mv e6) rp2 rq2 (rd_empty dDip w6)
  rw [ex_oil.1, ex_oil.2] at hc2
  refine M.cl rfl hc2 ?_
  rintro e w7 ⟨R1, r1', rfl, hR1, e7⟩
  have e47 := gr_trans (gr_trans e5 e6) e7
  refine ⟨_, rfl, M.run rfl (M.cl rfl (tank_go w7) ?_)⟩
  rintro e w8 ⟨X3, rfl, r3, e8⟩
  refine ⟨_, rfl, M.run rfl (M.cl rfl (planF_go 0 0 2 1 w8) ?_)⟩
  rintro e w9 ⟨P3, Q3, rfl, rp3, rq3, e9⟩
  refine ⟨_, rfl, M.run rfl ?_⟩
  have hc3 := Dark_go tankS (planP 0 0 2 1) X3 2 P3 2 Q3 2 w9 (r3.mv e9) rp3 rq3
  rw [ex_dark.1, ex_dark.2] at hc3
  refine M.cl rfl hc3 ?_
  rintro e wa ⟨D1, d1, rfl, hD1, ea⟩
  have e7a := gr_trans (gr_trans e8 e9) ea
  refine ⟨_, rfl, M.run rfl (M.cl rfl (tank_go wa) ?_)⟩
  rintro e wb ⟨X4, rfl, r4, eb⟩
  refine ⟨_, rfl, M.run rfl (M.bs rfl fun gc wc bc ec lc => M.run rfl ?_)⟩
  have hc4 := Deliver_go tankS [1, 2] X4 2 (some ⟨gc, 0, none⟩) 2 wc (r4.mv ec) (rd_two wc gc 3 1 2 bc)
  rw [ex_deliver.1, ex_deliver.2.1, ex_deliver.2.2] at hc4
  refine M.cl rfl hc4 ?_
  rintro e wd ⟨C1, c1, rfl, hC1, ed⟩
  have ead := gr_trans (gr_trans eb ec) ed
  refine ⟨_, rfl, M.run rfl (M.cl rfl (tank_go wd) ?_)⟩
  rintro e we ⟨X5, rfl, r5, ee⟩
  refine ⟨_, rfl, M.run rfl (M.bs rfl fun gf wf bf ef lf => M.run rfl ?_)⟩
  have hc5 := Trim_go tankS [1, 0] X5 2 (some ⟨gf, 0, none⟩) 2 wf (r5.mv ef) (rd_two wf gf 3 1 0 bf)
  rw [ex_trim.1, ex_trim.2.1, ex_trim.2.2] at hc5
  refine M.cl rfl hc5 ?_
  rintro e wg ⟨T1, t1, rfl, hT1, eg⟩
  have edg := gr_trans (gr_trans ee ef) eg
  refine ⟨_, rfl, M.run rfl (M.cl rfl (tank_go wg) ?_)⟩
  rintro e wh ⟨X6, rfl, r6, eh⟩
  refine ⟨_, rfl, M.run rfl (M.cl rfl (planF_go 0 1 1 2 wh) ?_)⟩
  rintro e wi ⟨P6, Q6, rfl, rp6, rq6, ei⟩
  refine ⟨_, rfl, M.run rfl (M.cl rfl (between_go 0 4 wi) ?_)⟩
  rintro e wj ⟨rfl, ej⟩
  refine ⟨_, rfl, M.run rfl (M.cl rfl (between_go 5 20 wj) ?_)⟩
  rintro e wk ⟨rfl, ek⟩
  refine ⟨_, rfl, M.run rfl (M.bs rfl fun gl wl bl_ el ll => M.run rfl ?_)⟩
  have eil := gr_trans (gr_trans ej ek) el
  have hc6 := Leave_go tankS (planP 0 1 1 2) dipsX X6 2 P6 2 Q6 2 (some ⟨gl, 0, none⟩) 2 wl (r6.mv (gr_trans ei eil)) (rp6.mv eil) (rq6.mv eil) (rd_lit bl_ dipsX rfl (by simp [maxLen, dipsX]))
  rw [ex_leave.1, ex_leave.2] at hc6
  refine M.cl rfl hc6 ?_
  rintro e wm ⟨V1, v1, rfl, hV1, em⟩
  have egm := gr_trans (gr_trans (gr_trans eh ei) eil) em
  have f4 := gr_trans (gr_trans (gr_trans (gr_trans e47 e7a) ead) edg) egm
  have f7 := gr_trans (gr_trans (gr_trans e7a ead) edg) egm
  have fa := gr_trans (gr_trans ead edg) egm
  have fd := gr_trans edg egm
  have e0m := gr_trans e04 f4
  have rL : Rd dI wm L1 l1 [7, 41] := Rd.mv (hL1.rd (by decide)) f4
  have rB : Rd dI wm B1 b1 [0, 0] := Rd.mv (hB1.rd (by decide)) f4
  have rI : Rd dB wm I1 i1 [true, true] := Rd.mv (hI1.rd (by decide)) f4
  have rR : Rd dRng wm R1 r1' [⟨5, 20⟩, ⟨39, 54⟩] := Rd.mv (hR1.rd (by decide)) f7
  have rD : Rd dI wm D1 d1 [0, 1] := Rd.mv (hD1.rd (by decide)) fa
  have rC : Rd dI wm C1 c1 [0, 1] := Rd.mv (hC1.rd (by decide)) fd
  have rT : Rd dI wm T1 t1 [3, 2] := Rd.mv (hT1.rd (by decide)) egm
  have rV : Rd dI wm V1 v1 [0] := hV1.rd (by decide)
  refine ⟨_, rfl, M.run rfl (M.drawG [] (by kernel_rfl) fun u0 x0 => ?_)⟩
  refine D.at_ [66] rfl (D.caseT 66 rfl rfl (D.run rfl (D.one 4 rfl rfl (M.bs rfl fun h1 u1 k1 x1 y1 => M.run rfl (M.end_ ⟨.inr x1, D.one 5 rfl rfl (M.cl rfl (Same_go [7, 41] [7, 41] L1 l1 (some ⟨h1, 0, none⟩) 2 u1 (Rd.mv rL (gr_trans x0 x1)) (rd_two u1 h1 3 7 41 k1)) ?_)⟩)))))
  rintro e u2 ⟨rfl, x2⟩
  refine ⟨_, rfl, M.run rfl (M.end_ ⟨.inr x2, ?_⟩)⟩
  have z2 := gr_trans (gr_trans x0 x1) x2
  refine D.at_ [71] rfl (D.caseT 71 rfl rfl (D.run rfl (D.one 9 rfl rfl (M.bs rfl fun h3 u3 k3 x3 y3 => M.run rfl (M.end_ ⟨.inr x3, D.one 10 rfl rfl (M.cl rfl (Same_go [0, 0] [0, 0] B1 b1 (some ⟨h3, 0, none⟩) 2 u3 (Rd.mv rB (gr_trans z2 x3)) (rd_two u3 h3 3 0 0 k3)) ?_)⟩)))))
  rintro e u4 ⟨rfl, x4⟩
  refine ⟨_, rfl, M.run rfl (M.end_ ⟨.inr x4, ?_⟩)⟩
  have z4 := gr_trans (gr_trans z2 x3) x4
  obtain ⟨hI0, hIC0⟩ := rd_flat rI (j := 0) (by decide)
  obtain ⟨_, hIC1⟩ := rd_flat rI (j := 1) (by decide)
  obtain ⟨hRa, hRC0⟩ := rd_flat rR (j := 0) (by decide)
  obtain ⟨_, hRC1⟩ := rd_flat rR (j := 1) (by decide)
  refine D.at_ [76] rfl (D.caseT 76 rfl rfl (D.at_ [81] rfl (D.caseT 81 rfl rfl (D.run rfl (D.ys 19 rfl rfl rfl (YS.ix rfl (by decide) (by decide) hI0) (D.ld 20 rfl rfl rfl rfl (fun u hu => (hIC0 u (gr_below (gr_trans z4 hu))).one 0 rfl rfl) ?_))))))
  refine D.at_ [86] rfl (D.caseT 86 rfl rfl (D.run rfl (D.ys 24 rfl rfl rfl (YS.ix rfl (by decide) (by decide) hI0) (D.ld 25 rfl rfl rfl rfl (fun u hu => (hIC1 u (gr_below (gr_trans z4 hu))).one 0 rfl rfl) ?_))))
  refine D.at_ [91] rfl (D.caseT 91 rfl rfl (D.at_ [95] rfl (D.caseT 95 rfl rfl (D.at_ [100] rfl (D.caseT 100 rfl rfl (D.run rfl ?_))))))
  refine D.ys 38 rfl rfl rfl (YS.ix rfl (by decide) (by decide) hRa) (D.ldA 39 rfl rfl rfl rfl rfl (fun u hu => hRC0 u (gr_below (gr_trans z4 hu))) (D.run rfl (D.one 40 rfl rfl (M.cl rfl (between_go 5 20 u4) ?_))))
  rintro e u5 ⟨rfl, x5⟩
  refine ⟨_, rfl, M.run rfl (M.end_ ⟨.inr x5, ?_⟩)⟩
  have z5 := gr_trans z4 x5
  refine D.ys 41 rfl rfl rfl (YS.eqII (k := .i64) rfl Try.eqGuardType36 Try.underlying36 ⟨rfl, rfl, by decide⟩ ⟨rfl, rfl, by decide⟩ Try.underlying3 Try.stoodInHeld36) ?_
  refine D.at_ [107] rfl (D.caseT 107 rfl rfl (D.run rfl (D.ys 45 rfl rfl rfl (YS.ix rfl (by decide) (by decide) hRa) (D.ldA 46 rfl rfl rfl rfl rfl (fun u hu => hRC1 u (gr_below (gr_trans z5 hu))) (D.run rfl (D.one 47 rfl rfl (M.cl rfl (between_go 39 54 u5) ?_)))))))
  rintro e u6 ⟨rfl, x6⟩
  refine ⟨_, rfl, M.run rfl (M.end_ ⟨.inr x6, ?_⟩)⟩
  have z6 := gr_trans z5 x6
  refine D.ys 48 rfl rfl rfl (YS.eqII (k := .i64) rfl Try.eqGuardType36 Try.underlying36 ⟨rfl, rfl, by decide⟩ ⟨rfl, rfl, by decide⟩ Try.underlying3 Try.stoodInHeld36) ?_
  refine D.at_ [114] rfl (D.caseT 114 rfl rfl (D.at_ [118] rfl (D.caseT 118 rfl rfl (D.run rfl (D.one 56 rfl rfl (M.bs rfl fun h7 u7 k7 x7 y7 => M.run rfl (M.end_ ⟨.inr x7, D.one 57 rfl rfl (M.cl rfl (Same_go [0, 1] [0, 1] D1 d1 (some ⟨h7, 0, none⟩) 2 u7 (Rd.mv rD (gr_trans z6 x7)) (rd_two u7 h7 3 0 1 k7)) ?_)⟩)))))))
  rintro e u8 ⟨rfl, x8⟩
  refine ⟨_, rfl, M.run rfl (M.end_ ⟨.inr x8, ?_⟩)⟩
  have z8 := gr_trans (gr_trans z6 x7) x8
  refine D.at_ [123] rfl (D.caseT 123 rfl rfl (D.at_ [127] rfl (D.caseT 127 rfl rfl (D.at_ [131] rfl (D.caseT 131 rfl rfl (D.run rfl (D.one 69 rfl rfl (M.bs rfl fun h9 u9 k9 x9 y9 => M.run rfl (M.end_ ⟨.inr x9, D.one 70 rfl rfl (M.cl rfl (Same_go [0, 1] [0, 1] C1 c1 (some ⟨h9, 0, none⟩) 2 u9 (Rd.mv rC (gr_trans z8 x9)) (rd_two u9 h9 3 0 1 k9)) ?_)⟩)))))))))
  rintro e ua ⟨rfl, xa⟩
  refine ⟨_, rfl, M.run rfl (M.end_ ⟨.inr xa, ?_⟩)⟩
  have za := gr_trans (gr_trans z8 x9) xa
  refine D.at_ [136] rfl (D.caseT 136 rfl rfl (D.at_ [140] rfl (D.caseT 140 rfl rfl (D.at_ [144] rfl (D.caseT 144 rfl rfl (D.run rfl (D.one 82 rfl rfl (M.bs rfl fun hb ub kb xb yb => M.run rfl (M.end_ ⟨.inr xb, D.one 83 rfl rfl (M.cl rfl (Same_go [3, 2] [3, 2] T1 t1 (some ⟨hb, 0, none⟩) 2 ub (Rd.mv rT (gr_trans za xb)) (rd_two ub hb 3 3 2 kb)) ?_)⟩)))))))))
  rintro e uc ⟨rfl, xc⟩
  refine ⟨_, rfl, M.run rfl (M.end_ ⟨.inr xc, ?_⟩)⟩
  have zc := gr_trans (gr_trans za xb) xc
  refine D.at_ [149] rfl (D.caseT 149 rfl rfl (D.at_ [153] rfl (D.caseT 153 rfl rfl (D.run rfl (D.one 91 rfl rfl (M.bs rfl fun hd ud kd xd yd => M.run rfl (M.end_ ⟨.inr xd, D.one 92 rfl rfl (M.cl rfl (Same_go [0] [0] V1 v1 (some ⟨hd, 0, none⟩) 1 ud (Rd.mv rV (gr_trans zc xd)) (rd_lit kd [0] rfl (by simp [maxLen]))) ?_)⟩)))))))
  rintro e ue ⟨rfl, xe⟩
  refine ⟨_, rfl, M.run rfl (M.end_ ⟨.inr xe, ?_⟩)⟩
  have ze := gr_trans (gr_trans zc xd) xe
  exact D.run rfl (D.done_ rfl (M.run rfl (M.retF rfl rfl ⟨rfl, gr_trans e0m ze⟩)))
end Go.Proofs.Ytaimlmfncjbmjaa
end

section
/- Walk of the law: LampPlays. -/
set_option linter.unusedVariables false
namespace Go.Proofs.Ytaimlmfncjbmjaa
open Go Go.Vc Go.RowKit Lp

theorem decF_of {p : Prop} [Decidable p] (h : ¬ p) : decide p = false := decide_eq_false h

set_option maxHeartbeats 2000000 in
theorem LampPlays_go (s : Store) (p : Plan) (t : Truth) (A : Option Addr) (c : Nat) (B : Option Addr) (b : Nat) (U : Option Addr) (d : Nat) (E : Option Addr) (f : Nat) (w : World) (hA : Rd dNight w A c s.nights) (hB : Rd dI w B b p.cans) (hD : Rd dI w U d p.wicks) (hE : Rd dI w E f t.burn) :
    Calls Try.prog 3 #[vStore s A c, vPlan p B b U d, vTruth t E f] w fun e w' => e = .returned (.bool true) ∧ w.grownBy w' none := by
  refine calls (G := G) (args := [vStore s A c, vPlan p B b U d, vTruth t E f]) Try.func3 rfl rfl rfl ?_
  refine M.run rfl (M.nw rfl fun g1 w1 b1 e1 l1 => M.run rfl (M.nw rfl fun g2 w2 b2 e2 l2 => M.run rfl (M.nw rfl fun g3 w3 b3 e3 l3 => M.run rfl ?_)))
  have e03 := gr_trans (gr_trans e1 e2) e3
  replace b1 := (b1.mv0 e2).mv0 e3
  replace b2 := b2.mv0 e3
  refine M.ldA rfl rfl b1.cellsAll (M.run rfl (M.ldA rfl rfl b2.cellsAll (M.run rfl (M.cl rfl (Thin_go s p A c B b U d w3) ?_))))
  rintro e w4 ⟨rfl, e4⟩
  have e04 := gr_trans e03 e4
  replace b1 := b1.mv0 e4
  replace b2 := b2.mv0 e4
  replace b3 := b3.mv0 e4
  refine ⟨_, rfl, M.at_ [21] rfl (M.case 21 rfl (fun h1 => ?_) (fun h1 => ?_))⟩
  · refine M.run rfl (M.condT rfl rfl (M.run rfl (M.cl rfl (awake_go w4) ?_)))
    rintro e w5 ⟨rfl, e5⟩
    exact ⟨_, rfl, M.run rfl (M.retF rfl rfl ⟨rfl, gr_trans e04 e5⟩)⟩
  refine M.run rfl (M.ld rfl (b3.cell rfl rfl) (M.run rfl (M.cond rfl (fun h2 => ?_) (fun h2 => ?_))))
  · refine M.run rfl (M.cl rfl (awake_go w4) ?_)
    rintro e w5 ⟨rfl, e5⟩
    exact ⟨_, rfl, M.run rfl (M.retF rfl rfl ⟨rfl, gr_trans e04 e5⟩)⟩
  have ht : thin s p = true := by simpa using h1
  unfold thin at ht
  simp only [Bool.and_eq_true, decide_eq_true_eq] at ht
  obtain ⟨hn9, hc9, hw9⟩ := ht
  have hb9 : t.burn.length ≤ 9 := by have := of_decide_eq_false h2; omega
  refine M.run rfl (M.ldA rfl rfl b1.cellsAll (M.run rfl (M.cl rfl (StoreC_go s A c w4 (hA.mv e04) (by omega)) ?_)))
  rintro e w5 ⟨A1, a1, rfl, hA1, e5⟩
  refine ⟨_, rfl, M.run rfl (M.cl rfl (checkStore_go s A1 a1 w5 hA1) ?_)⟩
  rintro e w6 ⟨rfl, e6⟩
  have e46 := gr_trans e5 e6
  refine ⟨_, rfl, M.run rfl (M.drawG [] (by kernel_rfl) fun w7 e7 => ?_)⟩
  have e47 := gr_trans e46 e7
  have e07 := gr_trans e04 e47
  replace b1 := b1.mv0 e47
  replace b2 := b2.mv0 e47
  replace b3 := b3.mv0 e47
  refine D.run rfl (D.ldA 0 rfl rfl rfl rfl rfl (fun w' hw => (b1.mv0 hw).cellsAll) (D.ldA 2 rfl rfl rfl rfl rfl (fun w' hw => (b2.mv0 hw).cellsAll) (D.ldA 4 rfl rfl rfl rfl rfl (fun w' hw => (b3.mv0 hw).cellsAll) ?_)))
  refine D.one 1 rfl rfl (M.cl rfl (StoreC_go s A c w7 (hA.mv e07) (by omega)) ?_)
  rintro e w8 ⟨A2, a2, rfl, hA2, e8⟩
  refine ⟨_, rfl, M.run rfl (M.end_ ⟨.inr e8, D.one 3 rfl rfl (M.cl rfl (PlanC_go p B b U d w8 (hB.mv (gr_trans e07 e8)) (hD.mv (gr_trans e07 e8)) (by omega) (by omega)) ?_)⟩)⟩
  rintro e w9 ⟨B2, b2', U2, d2, rfl, hB2, hD2, e9⟩
  have e79 := gr_trans e8 e9
  refine ⟨_, rfl, M.run rfl (M.end_ ⟨.inr e9, D.one 5 rfl rfl (M.cl rfl (TruthC_go t E f w9 (hE.mv (gr_trans e07 e79)) (by omega)) ?_)⟩)⟩
  rintro e wa ⟨E2, f2, rfl, hE2, ea⟩
  have e7a := gr_trans e79 ea
  refine ⟨_, rfl, M.run rfl (M.end_ ⟨.inr ea, D.one 6 rfl rfl (M.cl rfl (Play_go s p t A2 a2 B2 b2' U2 d2 E2 f2 wa (hA2.mv (gr_trans e9 ea)) (hB2.mv ea) (hD2.mv ea) hE2) ?_)⟩)⟩
  rintro e wb ⟨X, x, Y, y, Z, z, rfl, hX, hY, hZ, eb⟩
  have e7b := gr_trans e7a eb
  have e0b := gr_trans e07 e7b
  refine ⟨_, rfl, M.run rfl (M.end_ ⟨.inr eb, D.run rfl (D.done_ rfl (M.run rfl ?_))⟩)⟩
  replace b1 := b1.mv0 e7b
  replace b2 := b2.mv0 e7b
  replace b3 := b3.mv0 e7b
  refine M.ldA rfl rfl b1.cellsAll (M.run rfl (M.cl rfl (faultF_go s A c wb (hA.mv e0b)) ?_))
  rintro e wc ⟨rfl, ec⟩
  refine ⟨_, rfl, M.run rfl (M.cond rfl (fun h3 => absurd h3 (by simp)) (fun _ => ?_))⟩
  have e0c := gr_trans e0b ec
  refine M.run rfl (M.ldA rfl rfl (b1.mv0 ec).cellsAll (M.run rfl (M.ldA rfl rfl (b2.mv0 ec).cellsAll (M.run rfl (M.cl rfl (planned_go s p A c B b U d wc (hA.mv e0c) (hB.mv e0c) (hD.mv e0c)) ?_)))))
  rintro e wd ⟨rfl, ed⟩
  have ebd := gr_trans ec ed
  have e0d := gr_trans e0b ebd
  refine ⟨_, rfl, M.at_ [52] rfl (M.case 52 rfl (fun h4 => ?_) (fun h4 => ?_))⟩
  rotate_left
  · have h4' : check s p ≠ 0 := by simpa using h4
    have hr : playE s p t = check s p := by simp [playE, h4']
    refine M.run rfl (M.condF rfl rfl ?_)
    have r1 : playL s p t = [] := by simp [playL, hr, h4']
    have r2 : playB s p t = [] := by simp [playB, hr, h4']
    have r3 : playI s p t = [] := by simp [playI, hr, h4']
    rw [r1, r2, r3, hr]
    refine M.run rfl (M.condT rfl (by simp [h4']) (M.at_ [63] rfl (M.caseT 63 rfl (by simp) (M.at_ [74] rfl (M.caseT 74 rfl rfl (M.run rfl (M.cl rfl (awake_go _) ?_)))))))
    rintro e wz ⟨rfl, ez⟩
    exact ⟨_, rfl, M.run rfl (M.retF rfl rfl ⟨rfl, gr_trans e0d ez⟩)⟩
  have h4' : check s p = 0 := by simpa using h4
  refine M.run rfl (M.ldA rfl rfl (b1.mv0 ebd).cellsAll (M.run rfl (M.ldA rfl rfl (b3.mv0 ebd).cellsAll (M.run rfl (M.cl rfl (IsTruth_go s t A c E f wd (hA.mv e0d) (hE.mv e0d)) ?_)))))
  rintro e we ⟨rfl, ee⟩
  refine ⟨_, rfl, M.run rfl (M.cond rfl (fun h5 => ?_) (fun h5 => ?_))⟩
  · have h5' : truthOk s t = false := by simpa using h5
    have hr : playE s p t = 2 := by simp [playE, h4', h5']
    have r1 : playL s p t = [] := by simp [playL, hr]
    have r2 : playB s p t = [] := by simp [playB, hr]
    have r3 : playI s p t = [] := by simp [playI, hr]
    rw [r1, r2, r3, hr]
    refine M.run rfl (M.condT rfl rfl (M.at_ [63] rfl (M.caseT 63 rfl rfl (M.at_ [74] rfl (M.caseT 74 rfl rfl (M.run rfl (M.cl rfl (awake_go _) ?_)))))))
    rintro e wz ⟨rfl, ez⟩
    exact ⟨_, rfl, M.run rfl (M.retF rfl rfl ⟨rfl, gr_trans (gr_trans e0d ee) ez⟩)⟩
  have h5' : truthOk s t = true := by simpa using h5
  have hf := check_fine h4'
  have hr : playE s p t = 0 := by simp [playE, h4', h5']
  have r1 : playL s p t = leftL s p t s.nights.length := by simp [playL, hr]
  have r2 : playB s p t = backL s p t s.nights.length := by simp [playB, hr]
  have r3 : playI s p t = litL s p t s.nights.length := by simp [playI, hr]
  rw [r1] at hX
  rw [r2] at hY
  rw [r3] at hZ
  rw [r1, r2, r3, hr]
  refine M.run rfl (M.condF rfl (by simp [h4']) (M.run rfl ?_))
  have ebe := gr_trans ebd ee
  have e0e := gr_trans e0b ebe
  refine M.ldA rfl rfl (b1.mv0 ebe).cellsAll (M.run rfl (M.ldA rfl rfl (b2.mv0 ebe).cellsAll (M.run rfl (M.ldA rfl rfl (b3.mv0 ebe).cellsAll (M.run rfl (M.cl rfl (PlayRef_go s p t A c B b U d E f we (hA.mv e0e) (hB.mv e0e) (hD.mv e0e) (hE.mv e0e) hf h5') ?_))))))
  rintro e wf ⟨X3, x3, Y3, y3, Z3, z3, rfl, hX3, hY3, hZ3, ef⟩
  have ebf := gr_trans ebe ef
  have rX : Rd dI wf X x _ := Rd.mv (hX.rd (by decide)) ebf
  have rY : Rd dI wf Y y _ := Rd.mv (hY.rd (by decide)) ebf
  have rZ : Rd dB wf Z z _ := Rd.mv (hZ.rd (by decide)) ebf
  have rX3 : Rd dI wf X3 x3 _ := hX3.rd (by decide)
  have rY3 : Rd dI wf Y3 y3 _ := hY3.rd (by decide)
  have rZ3 : Rd dB wf Z3 z3 _ := hZ3.rd (by decide)
  generalize leftL s p t s.nights.length = LL at *
  generalize backL s p t s.nights.length = LB at *
  generalize litL s p t s.nights.length = LI at *
  refine ⟨_, rfl, M.at_ [87] rfl (M.case 87 rfl (fun h => absurd h (by decide)) (fun _ => ?_))⟩
  refine M.run rfl (M.cl rfl (Same_go LL LL X x X3 x3 wf rX rX3) ?_)
  rintro e wg ⟨rfl, eg⟩
  refine ⟨_, rfl, M.at_ [93] rfl (M.case 93 rfl (fun h => absurd h (by simp)) (fun _ => ?_))⟩
  refine M.run rfl (M.cl rfl (Same_go LB LB Y y Y3 y3 wg (rY.mv eg) (rY3.mv eg)) ?_)
  rintro e wh ⟨rfl, eh⟩
  have efh := gr_trans eg eh
  refine ⟨_, rfl, M.at_ [99] rfl (M.case 99 rfl (fun h => absurd h (by simp)) (fun _ => ?_))⟩
  refine M.run rfl (M.condF rfl (by simp) (M.run rfl ?_))
  refine M.loop (σ := Nat) (fun i => [(10, .slice Z LI.length z), (15, .slice Z3 LI.length z3), (16, .int .i64 (i : Int))])
    (fun i w' => i ≤ LI.length ∧ wh.grownBy w' none) (fun i => LI.length - i) 0 ⟨rfl, rfl, rfl, trivial⟩ ⟨Nat.zero_le _, gr_refl _ _⟩ ?_
  rintro i wi ⟨hi, ei⟩
  have hbd := rZ.bd
  have efi := gr_trans efh ei
  refine M.run rfl (M.cond rfl (fun h => ?_) (fun h => ?_))
  · have hlt : i < LI.length := by have := of_decide_eq_true h; omega
    obtain ⟨hz1, hzC⟩ := rd_flat rZ hlt
    obtain ⟨hz3, hzC3⟩ := rd_flat rZ3 hlt
    refine M.run rfl (M.quiet (by kernel_rfl) (LQ.run rfl (LQ.ix rfl (by omega) (by omega) hz1 (LQ.ld rfl (fun w' hw => (hzC w' (gr_below (gr_trans efi hw))).one 0 rfl rfl) (LQ.run rfl (LQ.ix rfl (by omega) (by omega) hz3 (LQ.ld rfl (fun w' hw => (hzC3 w' (gr_below (gr_trans efi hw))).one 0 rfl rfl) (LQ.run rfl (LQ.nil fun wj ej => ?_)))))))))
    refine M.run rfl (M.condF rfl (by simp) (M.run rfl ?_))
    have hnext : some (Value.int .i64 (IntKind.i64.wrap ((i : Int) + 1))) = some (Value.int .i64 ((i + 1 : Nat) : Int)) := congrArg (fun z => some (Value.int .i64 z)) (w64 (by omega) (by omega))
    exact M.end_ ⟨i + 1, ⟨rfl, rfl, hnext, trivial⟩, ⟨by omega, gr_trans ei ej⟩, by omega⟩
  · refine M.run rfl (M.cl rfl (awake_go wi) ?_)
    rintro e wz ⟨rfl, ez⟩
    exact ⟨_, rfl, M.run rfl (M.retF rfl rfl ⟨rfl, gr_trans (gr_trans (gr_trans e0b ebf) efi) ez⟩)⟩
end Go.Proofs.Ytaimlmfncjbmjaa
end

section
/- The row of the law LampPlays: for every input it returns true, and each argument reads behind the call as it read before. -/
set_option linter.unusedVariables false
set_option maxRecDepth 100000
namespace Go.Proofs.Ytaimlmfncjbmjaa
open Go Go.Vc Go.RowKit Lp Go.ChangeShapes Go.WideShapes Go.ChangeAt
theorem lampPlays_lifted (os : Os) (started : os.Started) (H : Type) (enc : TypeId × Value → H) :
    ReturnsInHanded {} Try.checked os 3 .any (Rows.lampPlaysSpec.pre6 enc Try.prog Try.f3 Rows.lampPlaysRow.domain false) (Rows.lampPlaysSpec.post enc Try.prog Try.f3 false true false false) := by
  refine returnsInHanded_of_change_sized (C := Try.checked) own started (by kernel_rfl) Try.func3
    (ChangeSpec.witness6 (enc := enc) (C := Try.checked) false ⟨#[], #[.agg #[.int .i64 0, .int .i64 0, .int .i64 0, .int .i64 0, .slice none 0 0], .agg #[.slice none 0 0, .slice none 0 0], .agg #[.int .i64 0, .slice none 0 0]], []⟩ 8 (by kernel_rfl) (by kernel_rfl) (by kernel_rfl) (by kernel_rfl)) ?_
  intro W base args ds gs before hval0 hW hcnd hsz0 _
  have hval : ∀ (j : Nat) t v, Try.f3.params[j]? = some t → args[j]? = some v → Value.okWide Try.prog W .any base t v := hval0
  have hW' := hW
  obtain ⟨p, q, hA0, hV, rfl, hfz, hnd⟩ := hW
  have hA : DataW.TrodAll enc Try.prog W 0 (fun _ => true) true Try.f3.params.toList args.toList ds p := hA0
  rw [Try.params3] at hA hval
  obtain ⟨v0, vs0, d0, ds0, p0, q0, hargs, rfl, rfl, h0, r0⟩ := trodAll_cons hA
  obtain ⟨v1, vs1, d1, ds1, p1, q1, rfl, rfl, rfl, h1, r1⟩ := trodAll_cons r0
  obtain ⟨v2, vs2, d2, ds2, p2, q2, rfl, rfl, rfl, h2, r2⟩ := trodAll_cons r1
  obtain ⟨rfl, rfl, rfl⟩ := trodAll_nil r2
  obtain rfl : args = #[v0, v1, v2] := by cases args; simp_all
  obtain ⟨rfl, rfl⟩ := trodVars_none hV
  have k0 := h0
  have lt0 : ∀ x ∈ p0, x.block < W.heap.size := by obtain ⟨m, hm⟩ := k0; exact DataW.trod_lt m _ _ _ hm
  obtain ⟨s0, A0, c0, rfl, R0⟩ := open_store (hval 0 26 v0 rfl rfl) h0
  have k1 := h1
  have lt1 : ∀ x ∈ p1, x.block < W.heap.size := by obtain ⟨m, hm⟩ := k1; exact DataW.trod_lt m _ _ _ hm
  obtain ⟨s1, A1, c1, B1, b1, rfl, R1, S1⟩ := open_plan (hval 1 29 v1 rfl rfl) h1
  have k2 := h2
  have lt2 : ∀ x ∈ p2, x.block < W.heap.size := by obtain ⟨m, hm⟩ := k2; exact DataW.trod_lt m _ _ _ hm
  obtain ⟨s2, A2, c2, rfl, R2⟩ := open_truth (hval 2 31 v2 rfl rfl) h2
  clear hA0 hval0 hsz0
  refine (LampPlays_go s0 s1 s2 A0 c0 A1 c1 B1 b1 A2 c2 W R0 R1 S1 R2).mono fun e W' ⟨he, bel0⟩ => ?_
  subst he
  have bel := gr_below bel0
  exact ⟨_, rfl, _, _, _, [], _, [], hW', trodAll_mk1 (shut_bool Try.underlying4 _), (trodAll_cons_mk (Below.trod laidOut (by kernel_rfl) (of_decide_eq_true (by kernel_rfl)) k0 bel lt0) (trodAll_cons_mk (Below.trod laidOut (by kernel_rfl) (of_decide_eq_true (by kernel_rfl)) k1 bel lt1) (trodAll_cons_mk (Below.trod laidOut (by kernel_rfl) (of_decide_eq_true (by kernel_rfl)) k2 bel lt2) trodAll_mk0))), rfl, bel.frame _, fun h => by cases h⟩
/-- The row. -/
theorem lampPlays_holds : Rows.LampPlaysSaid :=
  OpenClaim.holds_of_wide 3 Try.f3 rfl rfl rfl rfl rfl rfl rfl ⟨rfl, rfl, rfl, rfl, rfl⟩ rfl rfl rfl rfl rfl (by kernel_rfl) Try.func3 (by kernel_rfl)
    (of_decide_eq_true (by kernel_rfl)) (by unfold Func.isWrapper; first | (rw [if_pos (by decide +kernel)]; kernel_rfl) | (rw [if_neg (by decide +kernel)]; exact ⟨rfl, rfl⟩))
    (fun os started H enc _ => lampPlays_lifted os started H enc)
#print axioms lampPlays_holds
end Go.Proofs.Ytaimlmfncjbmjaa
end
