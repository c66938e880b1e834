/- Walk of the law LampMore. -/
import Derived.Test.YtaimlmfncjbmjaaW3
set_option linter.unusedVariables false
namespace Go.Proofs.Ytaimlmfncjbmjaa
open Go Go.Vc Go.RowKit Lp
end Go.Proofs.Ytaimlmfncjbmjaa
namespace Go.Vc
theorem D.three {G : Ctx} {n : Nat} {all : Array Oper} {R RL : World → World → Prop} {late ex sk : List Nat} {k : List It} {Q : QT} {m : Nat} {done : List Nat} {ρ : Env} {w : World} (i j l : Nat) (hr : readyGo done 0 all.toList = [i, j, l]) {o p q : Oper} (ho : all[i]? = some o) (hp : all[j]? = some p) (hq : all[l]? = some q)
    (h1 : M G n (.ops all [o] :: .stop (fun ρ' w' => ((memN i late = true ∧ RL w w') ∨ R w w') ∧ D G n all R RL late ex sk k Q m (i :: done) ρ' w') :: k) Q ρ w)
    (h2 : M G n (.ops all [p] :: .stop (fun ρ' w' => ((memN j late = true ∧ RL w w') ∨ R w w') ∧ D G n all R RL late ex sk k Q m (j :: done) ρ' w') :: k) Q ρ w)
    (h3 : M G n (.ops all [q] :: .stop (fun ρ' w' => ((memN l late = true ∧ RL w w') ∨ R w w') ∧ D G n all R RL late ex sk k Q m (l :: done) ρ' w') :: k) Q ρ w) :
    D G n all R RL late ex sk k Q (m + 1) done ρ w := D.oneG (by
  rw [hr]
  intro x hx
  simp only [List.mem_cons, List.not_mem_nil, or_false] at hx
  rcases hx with rfl | rfl | rfl
  · exact ⟨o, ho, h1⟩
  · exact ⟨p, hp, h2⟩
  · exact ⟨q, hq, h3⟩) (by rw [hr]; simp)
end Go.Vc
namespace Lp
theorem levels_free {s : Store} {p : Plan} (hf : Fine s p) : levelsOk s p [] = true := free_ok hf
theorem fits_nil {s : Store} {p : Plan} {t : Truth} : Fits s p [] t ↔ truthOk s t = true := by
  rw [fits_iff]; simp
/-- more oil at first, or more cans, and no more wicks: what the ends of Oil do, and which nights can become dark -/
structure More (s : Store) (p : Plan) (s' : Store) (p' : Plan) : Prop where
  nights : s.nights = s'.nights
  cap : s.cap = s'.cap
  can : s.can = s'.can
  lo : s.lo ≤ s'.lo
  hi : s.hi ≤ s'.hi
  cans : ∀ i, i < s.nights.length → at0 p.cans i ≤ at0 p'.cans i
  wicks : ∀ i, i < s.nights.length → at0 p'.wicks i ≤ at0 p.wicks i
theorem More.oil {s s' : Store} {p p' : Plan} (h : More s p s' p') (hf : Fine s p) (hf' : Fine s' p') {i : Nat} (hi : i < s.nights.length) :
    (ends (levelAt s p [] s.nights.length i)).lo ≤ (ends (levelAt s' p' [] s'.nights.length i)).lo ∧ (ends (levelAt s p [] s.nights.length i)).hi ≤ (ends (levelAt s' p' [] s'.nights.length i)).hi := by
  have hlen : s.nights.length = s'.nights.length := by rw [h.nights]
  have hnt : ∀ i, nt s i = nt s' i := fun i => by unfold nt; rw [h.nights]
  have hst := hf.ok.start
  have hst' := hf'.ok.start
  have hcp := h.cap
  obtain ⟨_, ⟨t1, a1, a2⟩, b3⟩ := range_spec hf (levels_free hf) hi
  obtain ⟨⟨t2, c1, c2⟩, _, d3⟩ := range_spec hf' (levels_free hf') (show i < s'.nights.length by omega)
  have mono := fun (t t' : Truth) (h0 : 0 ≤ t.start) (h1 : t.start ≤ t'.start) (h2 : t'.start ≤ s.cap) (hb : ∀ i, i < s.nights.length → 0 ≤ at0 t'.burn i ∧ at0 t'.burn i ≤ at0 t.burn i) => (oil_mono (t := t) (t' := t') h.nights h.cap h.can hf hf' h0 h1 h2 h.cans h.wicks hb (i + 1) (by omega)).1
  constructor
  · obtain ⟨k1, k2, k3, k4⟩ := truthOk_spec (fits_nil.1 c1)
    have ht : Fits s p [] ⟨s.lo, t2.burn⟩ := fits_nil.2 (truthOk_of ⟨Int.le_refl _, by simp; omega⟩ (by rw [hlen]; exact k3) (fun j hj => by rw [hnt]; exact k4 j (by omega)))
    have m := mono ⟨s.lo, t2.burn⟩ t2 (by simp only; omega) (by have := h.lo; simp only; omega) (by omega) (fun j hj => by have := k4 j (by omega); have := hf'.ok.nt (show j < s'.nights.length by omega); simp only; omega)
    have := (b3 _ ht).1
    omega
  · obtain ⟨k1, k2, k3, k4⟩ := truthOk_spec (fits_nil.1 a1)
    have ht : Fits s' p' [] ⟨s'.hi, t1.burn⟩ := fits_nil.2 (truthOk_of ⟨by simp; omega, Int.le_refl _⟩ (by rw [← hlen]; exact k3) (fun j hj => by rw [← hnt]; exact k4 j (by omega)))
    have m := mono t1 ⟨s'.hi, t1.burn⟩ (by omega) (by have := h.hi; simp only; omega) (by simp only; omega) (fun j hj => by have := k4 j (by omega); have := hf.ok.nt hj; simp only; omega)
    have := (d3 _ ht).2
    omega
theorem More.dark {s s' : Store} {p p' : Plan} (h : More s p s' p') (hf : Fine s p) (hf' : Fine s' p') : (darkL s' p' s'.nights.length).all (darkL s p s.nights.length).contains = true := by
  have hlen : s.nights.length = s'.nights.length := by rw [h.nights]
  have hnt : ∀ i, nt s i = nt s' i := fun i => by unfold nt; rw [h.nights]
  have hst := hf.ok.start
  have hst' := hf'.ok.start
  have hcp := h.cap
  rw [List.all_eq_true]
  intro x hx
  obtain ⟨i, hi, rfl, hl⟩ := (dark_mem s' p' _ x).1 hx
  rw [List.contains_iff_mem, dark_mem]
  refine ⟨i, by omega, rfl, ?_⟩
  cases hc : litAt s p (lowT s) i with
  | false => rfl
  | true =>
    have m := (oil_mono (t := lowT s) (t' := lowT s') h.nights h.cap h.can hf hf' (by simp [lowT]; omega) (by have := h.lo; simp [lowT]; omega) (by simp [lowT]; omega) h.cans h.wicks (fun j hj => by
      rw [lowT_burn s hj, lowT_burn s' (by omega), ← hnt]
      have := hf.ok.nt hj
      omega) i (by omega)).2 (by omega) hc
    rw [hl] at m; cases m
theorem wicks_set {s : Store} {l : List Int} {k : Nat} {v : Int} (h : wicksOk s l = true) (hk : k < l.length) (hv : (nt s k).least ≤ v ∧ v ≤ (nt s k).most) : wicksOk s (l.set k v) = true := by
  obtain ⟨h1, h2⟩ := wicksOk_spec h
  refine wicksOk_of (by simpa using h1) fun i hi => ?_
  rw [at0_set hk]
  split
  · rename_i e; subst e; exact hv
  · exact h2 i (by simpa using hi)
theorem at0_set_le {l : List Int} {k : Nat} {v : Int} (hk : k < l.length) (hv : at0 l k ≤ v) (i : Nat) : at0 l i ≤ at0 (l.set k v) i := by
  rw [at0_set hk]
  split
  · rename_i e; subst e; exact hv
  · exact Int.le_refl _
theorem check_store {s s' : Store} {p : Plan} (h : check s p = 0) (hn : s.nights = s'.nights) (hc : s.cap = s'.cap) (hcan : s.can = s'.can) (hst : 0 ≤ s'.lo ∧ s'.lo ≤ s'.hi ∧ s'.hi ≤ s'.cap) : check s' p = 0 := by
  obtain ⟨h0, h1, h2⟩ := check_parts h
  have hb : checkStore s' = 0 := by
    have hf := (check_fine h).ok
    have hbad : s.bad = false := by
      unfold checkStore at h0
      split at h0
      · omega
      · cases hb : s.bad with
        | false => rfl
        | true => rw [hb] at h0; simp at h0
    unfold checkStore
    rw [← hn, if_neg (by have := hf.few; omega)]
    have : s'.bad = false := by
      unfold Store.bad at hbad ⊢
      rw [← hn, ← hc, ← hcan]
      rw [← hc] at hst
      simp only [Bool.or_eq_false_iff, Bool.not_eq_false'] at hbad ⊢
      exact ⟨hbad.1, hbad.2.1, rto_iff.2 hst, hbad.2.2.2⟩
    rw [this]; rfl
  refine check_of hb ?_ ?_
  · unfold cansOk at h1 ⊢; rw [← hn]; exact h1
  · unfold wicksOk at h2 ⊢; rw [← hn]; exact h2
end Lp
namespace Go.Proofs.Ytaimlmfncjbmjaa
open Go Go.Vc Go.RowKit Lp
theorem own_cell {k : IntKind} {e : Nat} {w : World} {base : Nat} {F : Nat → Prop} {A : Option Addr} {c : Nat} {xs : List Int} (h : Vc.Own (Rp.int k) e w base F A c xs) {j : Nat} (hj : j < xs.length) {g : Nat} (hA : A = some ⟨g, 0, none⟩) {w' : World} {r : Option Nat} (hg : w.grownBy w' r) (hr : r ≠ some g) : w'.cell? ⟨g, j, none⟩ = some (.int k xs[j]) := by
  obtain ⟨g', cur, hA', _, hB, hl, hC, _⟩ := h.at_flat (List.getElem?_eq_getElem hj)
  subst hA
  have : g = g' := by injection hA' with hA'; injection hA'
  subst this
  have hB' := hB.mv hg hr
  have h2 := (hC.move (w' := w') (by rw [add_block]; exact hB'.trans hB.symm)) 0 _ rfl
  rw [add_plain, add_plain] at h2
  simpa using h2
set_option maxHeartbeats 1000000 in
set_option maxRecDepth 100000 in
theorem LampMore_go (s : Store) (p : Plan) (what by_ which : Int) (A : Option Addr) (c : Nat) (B : Option Addr) (b : Nat) (U : Option Addr) (d : Nat)  (w : World) (hA : Rd dNight w A c s.nights) (hB : Rd dI w B b p.cans) (hD : Rd dI w U d p.wicks) (q0 : 0 ≤ what) (q1 : what ≤ 255) (q2 : 0 ≤ by_) (q3 : by_ ≤ 255) (q4 : 0 ≤ which) (q5 : which ≤ 255) :
    Calls Try.prog 11 #[vStore s A c, vPlan p B b U d, .int .u8 what, .int .u8 by_, .int .u8 which] w fun e w' => e = .returned (.bool true) ∧ w.grownBy w' none := by
  refine calls (G := G) (args := [vStore s A c, vPlan p B b U d, .int .u8 what, .int .u8 by_, .int .u8 which]) Try.func11 rfl rfl rfl ?_
  refine M.run rfl <| M.nw rfl fun g1 w1 b1 e1 l1 => M.run rfl <| M.nw rfl fun g2 w2 b2 e2 l2 => M.run rfl <| M.ldA rfl rfl (b1.mv0 e2).cellsAll <| M.run rfl <| M.ldA rfl rfl b2.cellsAll <| M.run rfl ?_
  have e02 := gr_trans e1 e2
  replace b1 := b1.mv0 e2
  refine M.cl rfl (ready_go s p A c B b U d w2 (hA.mv e02) (hB.mv e02) (hD.mv e02)) ?_
  rintro e w3 ⟨rfl, e3⟩
  have e03 := gr_trans e02 e3
  replace b1 := b1.mv0 e3
  replace b2 := b2.mv0 e3
  have fin : ∀ (wk : World), w.grownBy wk none → Calls Try.prog 17 #[] wk fun e w' => e = .returned (.bool true) ∧ w.grownBy w' none := fun wk hk => (awake_go wk).mono fun e w' ⟨h1, h2⟩ => ⟨h1, gr_trans hk h2⟩
  refine ⟨_, rfl, M.run rfl <| M.cond rfl (fun h => ?_) (fun h => ?_)⟩
  · refine M.run rfl <| M.cl rfl (fin w3 e03) ?_
    rintro e wz ⟨rfl, ez⟩
    exact ⟨_, rfl, M.run rfl <| M.retF rfl rfl ⟨rfl, ez⟩⟩
  have hr : readyB s p = true := by simpa using h
  have hck := ready_check hr
  have hf := check_fine hck
  have hfew := hf.ok.few
  have hsome := hf.ok.some_
  have hcl := hf.cl
  have hwkl := hf.wl
  obtain ⟨h0, hcan, hwik⟩ := check_parts hck
  refine M.run rfl <| M.draw (fun a b => a.grownBy b none) (Keep w3.heap.size) [10, 11] [1, 2, 4, 5, 7] [] (fun _ _ _ h => h) (fun w => gr_refl w none) (fun a b c h k => gr_trans h k) (fun a b h => Keep.of0 h) (fun a b c h k => h.trans k) (by kernel_rfl) ?_
  have ed := gr_drewN w3 1
  have e0d := gr_trans e03 ed
  have c1 := b1.mv0 ed
  have c2 := b2.mv0 ed
  refine D.run rfl <| D.ldA 0 rfl rfl rfl rfl rfl (fun w' hw => (c1.mv0 hw).cellsAll) <| D.ldX 2 rfl rfl rfl rfl (fun w' hw => (hw.blk c2 b2.lt).cell rfl rfl) <| D.ldX 5 rfl rfl rfl rfl (fun w' hw => (hw.blk c2 b2.lt).cell rfl rfl) ?_
  have hN : w3.heap.size = (w3.drewN 1).heap.size := rfl
  generalize hwd : w3.drewN 1 = wd at *
  refine D.meet (σ := Nat × Nat × (Option Addr × Nat) × (Option Addr × Nat)) 2 [7, 6, 3, 9, 8, 5, 4, 2, 1, 0] (fun (ga, gb, (X, x), (Y, y)) => [(2, .int .u8 what), (3, .int .u8 by_), (4, .int .u8 which), (5, .pointer (some ⟨g1, 0, none⟩)), (6, .pointer (some ⟨g2, 0, none⟩)), (28, vStore s A c), (30, .slice B p.cans.length b), (33, .slice U p.wicks.length d), (11, .pointer (some ⟨ga, 0, none⟩)), (12, .pointer (some ⟨gb, 0, none⟩)), (35, .agg #[.slice X p.cans.length x, .slice Y p.wicks.length y])]) (fun (ga, gb, (X, x), (Y, y)) w' => wd.grownBy w' none ∧ Blk w' ga [.int .i64 0, .int .i64 0, .int .i64 0, .int .i64 0, .slice none 0 0] 26 ∧ wd.heap.size ≤ ga ∧ Blk w' gb [.slice none 0 0, .slice none 0 0] 29 ∧ wd.heap.size ≤ gb ∧ Vc.Own dI 3 w' wd.heap.size no X x p.cans ∧ Vc.Own dI 3 w' wd.heap.size no Y y p.wicks ∧ Ne2 X Y) (fun H112 => ?_) ?_
  · refine D.meet (σ := Nat × Nat × (Option Addr × Nat) × (Option Addr × Nat)) 3 [7, 6, 3, 8, 5, 4, 2, 1, 0] (fun (ga, gb, (X, x), (Y, y)) => [(2, .int .u8 what), (3, .int .u8 by_), (4, .int .u8 which), (5, .pointer (some ⟨g1, 0, none⟩)), (6, .pointer (some ⟨g2, 0, none⟩)), (28, vStore s A c), (30, .slice B p.cans.length b), (33, .slice U p.wicks.length d), (11, .pointer (some ⟨ga, 0, none⟩)), (35, .agg #[.slice X p.cans.length x, .slice Y p.wicks.length y])]) (fun (ga, gb, (X, x), (Y, y)) w' => wd.grownBy w' none ∧ Blk w' ga [.int .i64 0, .int .i64 0, .int .i64 0, .int .i64 0, .slice none 0 0] 26 ∧ wd.heap.size ≤ ga ∧ Vc.Own dI 3 w' wd.heap.size no X x p.cans ∧ Vc.Own dI 3 w' wd.heap.size no Y y p.wicks ∧ Ne2 X Y) (fun H102 => ?_) ?_
    rotate_left
    · rintro ⟨ga, gb, ⟨X, x⟩, ⟨Y, y⟩⟩ w' ⟨eg, ba, la, hX, hY, hXY⟩
      refine D.one 9 rfl rfl ?_
      refine M.nw rfl fun gn wn bn en ln => M.run rfl <| M.end_ ⟨.inr en, D.weak rfl ?_ (H112 (ga, gn, (X, x), (Y, y)) wn ⟨gr_trans eg en, ba.mv0 en, la, bn, Nat.le_trans eg.size ln, hX.mv0 en, hY.mv0 en, hXY⟩)⟩
      exact ⟨rfl, rfl, rfl, rfl, rfl, rfl, rfl, rfl, rfl, rfl, rfl, trivial⟩
    refine D.meet (σ := Nat × Nat × (Option Addr × Nat) × (Option Addr × Nat)) 3 [7, 6, 3, 9, 5, 4, 2, 1, 0] (fun (ga, gb, (X, x), (Y, y)) => [(2, .int .u8 what), (3, .int .u8 by_), (4, .int .u8 which), (5, .pointer (some ⟨g1, 0, none⟩)), (6, .pointer (some ⟨g2, 0, none⟩)), (28, vStore s A c), (30, .slice B p.cans.length b), (33, .slice U p.wicks.length d), (12, .pointer (some ⟨gb, 0, none⟩)), (35, .agg #[.slice X p.cans.length x, .slice Y p.wicks.length y])]) (fun (ga, gb, (X, x), (Y, y)) w' => wd.grownBy w' none ∧ Blk w' gb [.slice none 0 0, .slice none 0 0] 29 ∧ wd.heap.size ≤ gb ∧ Vc.Own dI 3 w' wd.heap.size no X x p.cans ∧ Vc.Own dI 3 w' wd.heap.size no Y y p.wicks ∧ Ne2 X Y) (fun H012 => ?_) ?_
    rotate_left
    · rintro ⟨ga, gb, ⟨X, x⟩, ⟨Y, y⟩⟩ w' ⟨eg, bb, lb, hX, hY, hXY⟩
      refine D.one 8 rfl rfl ?_
      refine M.nw rfl fun gn wn bn en ln => M.run rfl <| M.end_ ⟨.inr en, D.weak rfl ?_ (H112 (gn, gb, (X, x), (Y, y)) wn ⟨gr_trans eg en, bn, Nat.le_trans eg.size ln, bb.mv0 en, lb, hX.mv0 en, hY.mv0 en, hXY⟩)⟩
      exact ⟨rfl, rfl, rfl, rfl, rfl, rfl, rfl, rfl, rfl, rfl, rfl, trivial⟩
    refine D.meet (σ := Nat × Nat × (Option Addr × Nat) × (Option Addr × Nat)) 4 [3, 9, 8, 5, 4, 2, 1, 0] (fun (ga, gb, (X, x), (Y, y)) => [(2, .int .u8 what), (3, .int .u8 by_), (4, .int .u8 which), (5, .pointer (some ⟨g1, 0, none⟩)), (6, .pointer (some ⟨g2, 0, none⟩)), (28, vStore s A c), (30, .slice B p.cans.length b), (33, .slice U p.wicks.length d), (11, .pointer (some ⟨ga, 0, none⟩)), (12, .pointer (some ⟨gb, 0, none⟩)), (31, .slice X p.cans.length x)]) (fun (ga, gb, (X, x), (Y, y)) w' => wd.grownBy w' none ∧ Blk w' ga [.int .i64 0, .int .i64 0, .int .i64 0, .int .i64 0, .slice none 0 0] 26 ∧ wd.heap.size ≤ ga ∧ Blk w' gb [.slice none 0 0, .slice none 0 0] 29 ∧ wd.heap.size ≤ gb ∧ Vc.Own dI 3 w' wd.heap.size no X x p.cans) (fun H111 => ?_) ?_
    rotate_left
    · rintro ⟨ga, gb, ⟨X, x⟩, ⟨Y, y⟩⟩ w' ⟨eg, ba, la, bb, lb, hX⟩
      refine D.one 6 rfl rfl ?_
      refine M.cl rfl (list_go p.wicks U d w' (hD.mv (gr_trans e0d eg)) (by omega)) ?_
      rintro e wn ⟨Y', y', rfl, hY', en⟩
      have hXY' : Ne2 X Y' := fun k hk hk2 => by
        have h1 := (hX.blkGe k hk).2
        have h2 := (hY'.blkGe k hk2).1
        omega
      replace hY' := hY'.weaken (base' := wd.heap.size) eg.size (fun _ h => h)
      refine ⟨_, rfl, M.run rfl <| M.end_ ⟨.inr en, D.at_ [35] rfl <| D.weak rfl ?_ (H112 (ga, gb, (X, x), (Y', y')) wn ⟨gr_trans eg en, ba.mv0 en, la, bb.mv0 en, lb, hX.mv0 en, hY', hXY'⟩)⟩⟩
      exact ⟨rfl, rfl, rfl, rfl, rfl, rfl, rfl, rfl, rfl, rfl, rfl, trivial⟩
    refine D.meet (σ := Nat × Nat × (Option Addr × Nat) × (Option Addr × Nat)) 4 [7, 6, 3, 5, 4, 2, 1, 0] (fun (ga, gb, (X, x), (Y, y)) => [(2, .int .u8 what), (3, .int .u8 by_), (4, .int .u8 which), (5, .pointer (some ⟨g1, 0, none⟩)), (6, .pointer (some ⟨g2, 0, none⟩)), (28, vStore s A c), (30, .slice B p.cans.length b), (33, .slice U p.wicks.length d), (35, .agg #[.slice X p.cans.length x, .slice Y p.wicks.length y])]) (fun (ga, gb, (X, x), (Y, y)) w' => wd.grownBy w' none ∧ Vc.Own dI 3 w' wd.heap.size no X x p.cans ∧ Vc.Own dI 3 w' wd.heap.size no Y y p.wicks ∧ Ne2 X Y) (fun H002 => ?_) ?_
    rotate_left
    · rintro ⟨ga, gb, ⟨X, x⟩, ⟨Y, y⟩⟩ w' ⟨eg, hX, hY, hXY⟩
      refine D.two 8 9 rfl rfl rfl ?_ ?_
      · refine M.nw rfl fun gn wn bn en ln => M.run rfl <| M.end_ ⟨.inr en, D.weak rfl ?_ (H102 (gn, gb, (X, x), (Y, y)) wn ⟨gr_trans eg en, bn, Nat.le_trans eg.size ln, hX.mv0 en, hY.mv0 en, hXY⟩)⟩
        exact ⟨rfl, rfl, rfl, rfl, rfl, rfl, rfl, rfl, rfl, rfl, trivial⟩
      · refine M.nw rfl fun gn wn bn en ln => M.run rfl <| M.end_ ⟨.inr en, D.weak rfl ?_ (H012 (ga, gn, (X, x), (Y, y)) wn ⟨gr_trans eg en, bn, Nat.le_trans eg.size ln, hX.mv0 en, hY.mv0 en, hXY⟩)⟩
        exact ⟨rfl, rfl, rfl, rfl, rfl, rfl, rfl, rfl, rfl, rfl, trivial⟩
    refine D.meet (σ := Nat × Nat × (Option Addr × Nat) × (Option Addr × Nat)) 5 [3, 8, 5, 4, 2, 1, 0] (fun (ga, gb, (X, x), (Y, y)) => [(2, .int .u8 what), (3, .int .u8 by_), (4, .int .u8 which), (5, .pointer (some ⟨g1, 0, none⟩)), (6, .pointer (some ⟨g2, 0, none⟩)), (28, vStore s A c), (30, .slice B p.cans.length b), (33, .slice U p.wicks.length d), (11, .pointer (some ⟨ga, 0, none⟩)), (31, .slice X p.cans.length x)]) (fun (ga, gb, (X, x), (Y, y)) w' => wd.grownBy w' none ∧ Blk w' ga [.int .i64 0, .int .i64 0, .int .i64 0, .int .i64 0, .slice none 0 0] 26 ∧ wd.heap.size ≤ ga ∧ Vc.Own dI 3 w' wd.heap.size no X x p.cans) (fun H101 => ?_) ?_
    rotate_left
    · rintro ⟨ga, gb, ⟨X, x⟩, ⟨Y, y⟩⟩ w' ⟨eg, ba, la, hX⟩
      refine D.two 6 9 rfl rfl rfl ?_ ?_
      · refine M.cl rfl (list_go p.wicks U d w' (hD.mv (gr_trans e0d eg)) (by omega)) ?_
        rintro e wn ⟨Y', y', rfl, hY', en⟩
        have hXY' : Ne2 X Y' := fun k hk hk2 => by
          have h1 := (hX.blkGe k hk).2
          have h2 := (hY'.blkGe k hk2).1
          omega
        replace hY' := hY'.weaken (base' := wd.heap.size) eg.size (fun _ h => h)
        refine ⟨_, rfl, M.run rfl <| M.end_ ⟨.inr en, D.at_ [35] rfl <| D.weak rfl ?_ (H102 (ga, gb, (X, x), (Y', y')) wn ⟨gr_trans eg en, ba.mv0 en, la, hX.mv0 en, hY', hXY'⟩)⟩⟩
        exact ⟨rfl, rfl, rfl, rfl, rfl, rfl, rfl, rfl, rfl, rfl, trivial⟩
      · refine M.nw rfl fun gn wn bn en ln => M.run rfl <| M.end_ ⟨.inr en, D.weak rfl ?_ (H111 (ga, gn, (X, x), (Y, y)) wn ⟨gr_trans eg en, ba.mv0 en, la, bn, Nat.le_trans eg.size ln, hX.mv0 en⟩)⟩
        exact ⟨rfl, rfl, rfl, rfl, rfl, rfl, rfl, rfl, rfl, rfl, rfl, trivial⟩
    refine D.meet (σ := Nat × Nat × (Option Addr × Nat) × (Option Addr × Nat)) 5 [3, 9, 5, 4, 2, 1, 0] (fun (ga, gb, (X, x), (Y, y)) => [(2, .int .u8 what), (3, .int .u8 by_), (4, .int .u8 which), (5, .pointer (some ⟨g1, 0, none⟩)), (6, .pointer (some ⟨g2, 0, none⟩)), (28, vStore s A c), (30, .slice B p.cans.length b), (33, .slice U p.wicks.length d), (12, .pointer (some ⟨gb, 0, none⟩)), (31, .slice X p.cans.length x)]) (fun (ga, gb, (X, x), (Y, y)) w' => wd.grownBy w' none ∧ Blk w' gb [.slice none 0 0, .slice none 0 0] 29 ∧ wd.heap.size ≤ gb ∧ Vc.Own dI 3 w' wd.heap.size no X x p.cans) (fun H011 => ?_) ?_
    rotate_left
    · rintro ⟨ga, gb, ⟨X, x⟩, ⟨Y, y⟩⟩ w' ⟨eg, bb, lb, hX⟩
      refine D.two 6 8 rfl rfl rfl ?_ ?_
      · refine M.cl rfl (list_go p.wicks U d w' (hD.mv (gr_trans e0d eg)) (by omega)) ?_
        rintro e wn ⟨Y', y', rfl, hY', en⟩
        have hXY' : Ne2 X Y' := fun k hk hk2 => by
          have h1 := (hX.blkGe k hk).2
          have h2 := (hY'.blkGe k hk2).1
          omega
        replace hY' := hY'.weaken (base' := wd.heap.size) eg.size (fun _ h => h)
        refine ⟨_, rfl, M.run rfl <| M.end_ ⟨.inr en, D.at_ [35] rfl <| D.weak rfl ?_ (H012 (ga, gb, (X, x), (Y', y')) wn ⟨gr_trans eg en, bb.mv0 en, lb, hX.mv0 en, hY', hXY'⟩)⟩⟩
        exact ⟨rfl, rfl, rfl, rfl, rfl, rfl, rfl, rfl, rfl, rfl, trivial⟩
      · refine M.nw rfl fun gn wn bn en ln => M.run rfl <| M.end_ ⟨.inr en, D.weak rfl ?_ (H111 (gn, gb, (X, x), (Y, y)) wn ⟨gr_trans eg en, bn, Nat.le_trans eg.size ln, bb.mv0 en, lb, hX.mv0 en⟩)⟩
        exact ⟨rfl, rfl, rfl, rfl, rfl, rfl, rfl, rfl, rfl, rfl, rfl, trivial⟩
    refine D.meet (σ := Nat × Nat × (Option Addr × Nat) × (Option Addr × Nat)) 5 [9, 8, 5, 4, 2, 1, 0] (fun (ga, gb, (X, x), (Y, y)) => [(2, .int .u8 what), (3, .int .u8 by_), (4, .int .u8 which), (5, .pointer (some ⟨g1, 0, none⟩)), (6, .pointer (some ⟨g2, 0, none⟩)), (28, vStore s A c), (30, .slice B p.cans.length b), (33, .slice U p.wicks.length d), (11, .pointer (some ⟨ga, 0, none⟩)), (12, .pointer (some ⟨gb, 0, none⟩))]) (fun (ga, gb, (X, x), (Y, y)) w' => wd.grownBy w' none ∧ Blk w' ga [.int .i64 0, .int .i64 0, .int .i64 0, .int .i64 0, .slice none 0 0] 26 ∧ wd.heap.size ≤ ga ∧ Blk w' gb [.slice none 0 0, .slice none 0 0] 29 ∧ wd.heap.size ≤ gb) (fun H110 => ?_) ?_
    rotate_left
    · rintro ⟨ga, gb, ⟨X, x⟩, ⟨Y, y⟩⟩ w' ⟨eg, ba, la, bb, lb⟩
      refine D.one 3 rfl rfl ?_
      refine M.cl rfl (list_go p.cans B b w' (hB.mv (gr_trans e0d eg)) (by omega)) ?_
      rintro e wn ⟨X', x', rfl, hX', en⟩
      replace hX' := hX'.weaken (base' := wd.heap.size) eg.size (fun _ h => h)
      refine ⟨_, rfl, M.run rfl <| M.end_ ⟨.inr en, D.weak rfl ?_ (H111 (ga, gb, (X', x'), (Y, y)) wn ⟨gr_trans eg en, ba.mv0 en, la, bb.mv0 en, lb, hX'⟩)⟩⟩
      exact ⟨rfl, rfl, rfl, rfl, rfl, rfl, rfl, rfl, rfl, rfl, rfl, trivial⟩
    refine D.meet (σ := Nat × Nat × (Option Addr × Nat) × (Option Addr × Nat)) 6 [3, 5, 4, 2, 1, 0] (fun (ga, gb, (X, x), (Y, y)) => [(2, .int .u8 what), (3, .int .u8 by_), (4, .int .u8 which), (5, .pointer (some ⟨g1, 0, none⟩)), (6, .pointer (some ⟨g2, 0, none⟩)), (28, vStore s A c), (30, .slice B p.cans.length b), (33, .slice U p.wicks.length d), (31, .slice X p.cans.length x)]) (fun (ga, gb, (X, x), (Y, y)) w' => wd.grownBy w' none ∧ Vc.Own dI 3 w' wd.heap.size no X x p.cans) (fun H001 => ?_) ?_
    rotate_left
    · rintro ⟨ga, gb, ⟨X, x⟩, ⟨Y, y⟩⟩ w' ⟨eg, hX⟩
      refine D.three 6 8 9 rfl rfl rfl rfl ?_ ?_ ?_
      · refine M.cl rfl (list_go p.wicks U d w' (hD.mv (gr_trans e0d eg)) (by omega)) ?_
        rintro e wn ⟨Y', y', rfl, hY', en⟩
        have hXY' : Ne2 X Y' := fun k hk hk2 => by
          have h1 := (hX.blkGe k hk).2
          have h2 := (hY'.blkGe k hk2).1
          omega
        replace hY' := hY'.weaken (base' := wd.heap.size) eg.size (fun _ h => h)
        refine ⟨_, rfl, M.run rfl <| M.end_ ⟨.inr en, D.at_ [35] rfl <| D.weak rfl ?_ (H002 (ga, gb, (X, x), (Y', y')) wn ⟨gr_trans eg en, hX.mv0 en, hY', hXY'⟩)⟩⟩
        exact ⟨rfl, rfl, rfl, rfl, rfl, rfl, rfl, rfl, rfl, trivial⟩
      · refine M.nw rfl fun gn wn bn en ln => M.run rfl <| M.end_ ⟨.inr en, D.weak rfl ?_ (H101 (gn, gb, (X, x), (Y, y)) wn ⟨gr_trans eg en, bn, Nat.le_trans eg.size ln, hX.mv0 en⟩)⟩
        exact ⟨rfl, rfl, rfl, rfl, rfl, rfl, rfl, rfl, rfl, rfl, trivial⟩
      · refine M.nw rfl fun gn wn bn en ln => M.run rfl <| M.end_ ⟨.inr en, D.weak rfl ?_ (H011 (ga, gn, (X, x), (Y, y)) wn ⟨gr_trans eg en, bn, Nat.le_trans eg.size ln, hX.mv0 en⟩)⟩
        exact ⟨rfl, rfl, rfl, rfl, rfl, rfl, rfl, rfl, rfl, rfl, trivial⟩
    refine D.meet (σ := Nat × Nat × (Option Addr × Nat) × (Option Addr × Nat)) 6 [8, 5, 4, 2, 1, 0] (fun (ga, gb, (X, x), (Y, y)) => [(2, .int .u8 what), (3, .int .u8 by_), (4, .int .u8 which), (5, .pointer (some ⟨g1, 0, none⟩)), (6, .pointer (some ⟨g2, 0, none⟩)), (28, vStore s A c), (30, .slice B p.cans.length b), (33, .slice U p.wicks.length d), (11, .pointer (some ⟨ga, 0, none⟩))]) (fun (ga, gb, (X, x), (Y, y)) w' => wd.grownBy w' none ∧ Blk w' ga [.int .i64 0, .int .i64 0, .int .i64 0, .int .i64 0, .slice none 0 0] 26 ∧ wd.heap.size ≤ ga) (fun H100 => ?_) ?_
    rotate_left
    · rintro ⟨ga, gb, ⟨X, x⟩, ⟨Y, y⟩⟩ w' ⟨eg, ba, la⟩
      refine D.two 3 9 rfl rfl rfl ?_ ?_
      · refine M.cl rfl (list_go p.cans B b w' (hB.mv (gr_trans e0d eg)) (by omega)) ?_
        rintro e wn ⟨X', x', rfl, hX', en⟩
        replace hX' := hX'.weaken (base' := wd.heap.size) eg.size (fun _ h => h)
        refine ⟨_, rfl, M.run rfl <| M.end_ ⟨.inr en, D.weak rfl ?_ (H101 (ga, gb, (X', x'), (Y, y)) wn ⟨gr_trans eg en, ba.mv0 en, la, hX'⟩)⟩⟩
        exact ⟨rfl, rfl, rfl, rfl, rfl, rfl, rfl, rfl, rfl, rfl, trivial⟩
      · refine M.nw rfl fun gn wn bn en ln => M.run rfl <| M.end_ ⟨.inr en, D.weak rfl ?_ (H110 (ga, gn, (X, x), (Y, y)) wn ⟨gr_trans eg en, ba.mv0 en, la, bn, Nat.le_trans eg.size ln⟩)⟩
        exact ⟨rfl, rfl, rfl, rfl, rfl, rfl, rfl, rfl, rfl, rfl, trivial⟩
    refine D.meet (σ := Nat × Nat × (Option Addr × Nat) × (Option Addr × Nat)) 6 [9, 5, 4, 2, 1, 0] (fun (ga, gb, (X, x), (Y, y)) => [(2, .int .u8 what), (3, .int .u8 by_), (4, .int .u8 which), (5, .pointer (some ⟨g1, 0, none⟩)), (6, .pointer (some ⟨g2, 0, none⟩)), (28, vStore s A c), (30, .slice B p.cans.length b), (33, .slice U p.wicks.length d), (12, .pointer (some ⟨gb, 0, none⟩))]) (fun (ga, gb, (X, x), (Y, y)) w' => wd.grownBy w' none ∧ Blk w' gb [.slice none 0 0, .slice none 0 0] 29 ∧ wd.heap.size ≤ gb) (fun H010 => ?_) ?_
    rotate_left
    · rintro ⟨ga, gb, ⟨X, x⟩, ⟨Y, y⟩⟩ w' ⟨eg, bb, lb⟩
      refine D.two 3 8 rfl rfl rfl ?_ ?_
      · refine M.cl rfl (list_go p.cans B b w' (hB.mv (gr_trans e0d eg)) (by omega)) ?_
        rintro e wn ⟨X', x', rfl, hX', en⟩
        replace hX' := hX'.weaken (base' := wd.heap.size) eg.size (fun _ h => h)
        refine ⟨_, rfl, M.run rfl <| M.end_ ⟨.inr en, D.weak rfl ?_ (H011 (ga, gb, (X', x'), (Y, y)) wn ⟨gr_trans eg en, bb.mv0 en, lb, hX'⟩)⟩⟩
        exact ⟨rfl, rfl, rfl, rfl, rfl, rfl, rfl, rfl, rfl, rfl, trivial⟩
      · refine M.nw rfl fun gn wn bn en ln => M.run rfl <| M.end_ ⟨.inr en, D.weak rfl ?_ (H110 (gn, gb, (X, x), (Y, y)) wn ⟨gr_trans eg en, bn, Nat.le_trans eg.size ln, bb.mv0 en, lb⟩)⟩
        exact ⟨rfl, rfl, rfl, rfl, rfl, rfl, rfl, rfl, rfl, rfl, trivial⟩
    obtain ⟨ga, gb, X, x, Y, y⟩ : Nat × Nat × Option Addr × Nat × Option Addr × Nat := (0, 0, none, 0, none, 0)
    obtain ⟨w', hw'⟩ : ∃ w' : World, w' = wd := ⟨wd, rfl⟩
    have eg : wd.grownBy w' none := by rw [hw']; exact gr_refl _ _
    rw [← hw']
    refine D.three 3 8 9 rfl rfl rfl rfl ?_ ?_ ?_
    · refine M.cl rfl (list_go p.cans B b w' (hB.mv (gr_trans e0d eg)) (by omega)) ?_
      rintro e wn ⟨X', x', rfl, hX', en⟩
      replace hX' := hX'.weaken (base' := wd.heap.size) eg.size (fun _ h => h)
      refine ⟨_, rfl, M.run rfl <| M.end_ ⟨.inr en, D.weak rfl ?_ (H001 (ga, gb, (X', x'), (Y, y)) wn ⟨gr_trans eg en, hX'⟩)⟩⟩
      exact ⟨rfl, rfl, rfl, rfl, rfl, rfl, rfl, rfl, rfl, trivial⟩
    · refine M.nw rfl fun gn wn bn en ln => M.run rfl <| M.end_ ⟨.inr en, D.weak rfl ?_ (H100 (gn, gb, (X, x), (Y, y)) wn ⟨gr_trans eg en, bn, Nat.le_trans eg.size ln⟩)⟩
      exact ⟨rfl, rfl, rfl, rfl, rfl, rfl, rfl, rfl, rfl, trivial⟩
    · refine M.nw rfl fun gn wn bn en ln => M.run rfl <| M.end_ ⟨.inr en, D.weak rfl ?_ (H010 (ga, gn, (X, x), (Y, y)) wn ⟨gr_trans eg en, bn, Nat.le_trans eg.size ln⟩)⟩
      exact ⟨rfl, rfl, rfl, rfl, rfl, rfl, rfl, rfl, rfl, trivial⟩
  rintro ⟨ga, gb, ⟨X, x⟩, ⟨Y, y⟩⟩ w4 ⟨e4, ba, la, bb, lb, hX, hY, hXY⟩
  have e04 := gr_trans e0d e4
  have gab : ga ≠ gb := fun hh => by subst hh; exact absurd (ba.ne bb (by decide)) (by simp)
  refine D.one 10 rfl rfl <| M.store rfl rfl ba rfl rfl fun w5 b5 e5 => M.run rfl <| M.end_ ⟨.inl ⟨rfl, Keep.of e5 (by rintro g ⟨⟩; omega)⟩, D.one 11 rfl rfl <| M.store rfl rfl (bb.mv1 e5 gab) rfl rfl fun w6 b6 e6 => M.run rfl <| M.end_ ⟨.inl ⟨rfl, Keep.of e6 (by rintro g ⟨⟩; omega)⟩, D.done_ rfl <| M.run rfl ?_⟩⟩
  have e05 : wd.grownBy w5 none := gr_fresh e4 e5 la
  have e06d : wd.grownBy w6 none := gr_fresh e05 e6 lb
  have e06 := gr_trans e0d e06d
  have k1 := c1.mv0 e06d
  have k2 := c2.mv0 e06d
  have kA : Blk w6 ga (vStore s A c).cells.toList 26 := b5.mv1 e6 (fun h => gab h.symm)
  have kB : Blk w6 gb [.slice X p.cans.length x, .slice Y p.wicks.length y] 29 := b6
  have hgX := hX.blkGe
  have hgY := hY.blkGe
  have xA : blkOf X ≠ some ga := fun h => by
    rcases hX with ⟨rfl, _, _⟩ | ⟨g', cur, rfl, _, hB', _⟩
    · cases h
    · have : g' = ga := by injection h
      subst this
      exact absurd (ba.ne hB' (by decide)) (by simp)
  have xB : blkOf X ≠ some gb := fun h => by
    rcases hX with ⟨rfl, _, _⟩ | ⟨g', cur, rfl, _, hB', _⟩
    · cases h
    · have : g' = gb := by injection h
      subst this
      exact absurd (bb.ne hB' (by decide)) (by simp)
  have yA : blkOf Y ≠ some ga := fun h => by
    rcases hY with ⟨rfl, _, _⟩ | ⟨g', cur, rfl, _, hB', _⟩
    · cases h
    · have : g' = ga := by injection h
      subst this
      exact absurd (ba.ne hB' (by decide)) (by simp)
  have yB : blkOf Y ≠ some gb := fun h => by
    rcases hY with ⟨rfl, _, _⟩ | ⟨g', cur, rfl, _, hB', _⟩
    · cases h
    · have : g' = gb := by injection h
      subst this
      exact absurd (bb.ne hB' (by decide)) (by simp)
  have hX6 : Vc.Own dI 3 w6 wd.heap.size no X x p.cans := (hX.mvB (B := some ⟨ga, 0, none⟩) e5 (fun k hk hh => xA (by rw [hk]; exact hh.symm)) (fun _ _ h => h)).mvB (B := some ⟨gb, 0, none⟩) e6 (fun k hk hh => xB (by rw [hk]; exact hh.symm)) (fun _ _ h => h)
  have hY6 : Vc.Own dI 3 w6 wd.heap.size no Y y p.wicks := (hY.mvB (B := some ⟨ga, 0, none⟩) e5 (fun k hk hh => yA (by rw [hk]; exact hh.symm)) (fun _ _ h => h)).mvB (B := some ⟨gb, 0, none⟩) e6 (fun k hk hh => yB (by rw [hk]; exact hh.symm)) (fun _ _ h => h)
  clear hX hY ba bb b5 b6
  refine M.ld rfl (k1.cell rfl rfl) <| M.run rfl <| M.ys (YS.rem rfl (by omega)) <| M.run rfl ?_
  rw [w64 (x := which) (by omega) (by omega), tmodN q4]
  have hi : which.toNat % s.nights.length < s.nights.length := Nat.mod_lt _ (by omega)
  generalize which.toNat % s.nights.length = i at hi
  have hic : i < p.cans.length := by omega
  have hiw : i < p.wicks.length := by omega
  have hco := hf.cans i hi
  have hwo := (wicksOk_spec hwik).2 i hiw
  have hst := hf.ok.start
  have hcap := hf.ok.cap
  have hnt := hf.ok.nt hi
  have hm3 : 0 ≤ what.tmod 3 ∧ what.tmod 3 < 3 := ⟨Int.tmod_nonneg _ q0, Int.tmod_lt_of_pos _ (by decide)⟩
  obtain ⟨hA1, hAC⟩ := rd_flat (hA.mv e06) hi
  rw [nt_get hi] at hAC
  refine M.cutC (σ := Store × Plan × Nat × Nat) (fun (xs, yp, x, y) => [(2, .int .u8 what), (5, .pointer (some ⟨g1, 0, none⟩)), (6, .pointer (some ⟨g2, 0, none⟩)), (11, .pointer (some ⟨ga, 0, none⟩)), (12, .pointer (some ⟨gb, 0, none⟩))])
    (fun (xs, yp, x, y) w' => w.grownBy w' none ∧ Blk w' g1 (vStore s A c).cells.toList 26 ∧ Blk w' g2 (vPlan p B b U d).cells.toList 29 ∧ Blk w' ga (vStore xs A c).cells.toList 26 ∧ Blk w' gb (vPlan yp X x Y y).cells.toList 29 ∧ Rd dI w' X x yp.cans ∧ Rd dI w' Y y yp.wicks ∧ xs.nights = s.nights ∧ check xs yp = 0 ∧ (what.tmod 3 ≠ 2 → More s p xs yp) ∧ (what.tmod 3 = 2 → More xs yp s p)) ?_ ?_ post_weak
  · refine M.cond rfl (fun j1 => ?_) (fun j1 => ?_)
    · -- more oil at first
      have hw0 : what.tmod 3 = 0 := by simpa using j1
      refine M.run rfl <| M.ld rfl (k1.cell rfl rfl) <| M.run rfl <| M.ld rfl (k1.cell rfl rfl) <| M.run rfl ?_
      rw [w64 (x := by_) (by omega) (by omega), w64 (x := s.hi + by_) (by omega) (by omega)]
      generalize hh : (if s.hi + by_ < s.cap then s.hi + by_ else s.cap) = hi'
      have hhi : s.hi ≤ hi' ∧ hi' ≤ s.cap := by rw [← hh]; split <;> omega
      refine M.store rfl rfl kA rfl rfl fun w7 b7 e7 => ?_
      have n1 : ga ≠ g1 := by have := b1.lt; omega
      have n2 : ga ≠ g2 := by have := b2.lt; omega
      refine M.run rfl <| M.ld rfl (b7.cell rfl rfl) <| M.run rfl <| M.ld rfl ((k1.mv1 e7 n1).cell rfl rfl) <| M.run rfl ?_
      rw [w64 (x := by_) (by omega) (by omega), w64 (x := s.lo + by_) (by omega) (by omega)]
      generalize hl : (if s.lo + by_ < hi' then s.lo + by_ else hi') = lo'
      have hlo : s.lo ≤ lo' ∧ lo' ≤ hi' := by rw [← hl]; split <;> omega
      refine M.store rfl rfl b7 rfl rfl fun w8 b8 e8 => ?_
      have e68 : w6.grownBy w8 (some ga) := gr_transR e7 e8
      have e08 : w.grownBy w8 none := gr_fresh e06 e68 (Nat.le_trans e0d.size la)
      refine M.run rfl <| M.end_ ⟨(⟨s.cap, s.can, lo', hi', s.nights⟩, p, x, y), ⟨rfl, rfl, rfl, rfl, rfl, trivial⟩, e08, k1.mv1 e68 n1, k2.mv1 e68 n2, b8, kB.mv1 e68 gab, ?_, ?_, rfl, check_store (s' := ⟨s.cap, s.can, lo', hi', s.nights⟩) hck rfl rfl rfl ⟨by simp only; omega, by simp only; omega, by simp only; omega⟩, fun _ => ⟨rfl, rfl, rfl, hlo.1, hhi.1, fun _ _ => Int.le_refl _, fun _ _ => Int.le_refl _⟩, fun h => by omega⟩
      · exact (hX6.mvB (B := some ⟨ga, 0, none⟩) e68 (fun k hk hh => xA (by rw [hk]; exact hh.symm)) (fun _ _ h => h)).rd (by decide)
      · exact (hY6.mvB (B := some ⟨ga, 0, none⟩) e68 (fun k hk hh => yA (by rw [hk]; exact hh.symm)) (fun _ _ h => h)).rd (by decide)
    have hw0 : what.tmod 3 ≠ 0 := by simpa using j1
    refine M.run rfl <| M.cond rfl (fun j2 => ?_) (fun j2 => ?_)
    · -- one more can
      have hw1 : what.tmod 3 = 1 := by simpa using j2
      obtain ⟨gx, cur, rfl, hgx, bx, hlx, hcx, hsetx⟩ := own_int hX6 hic
      have nx1 : gx ≠ g1 := by have := b1.lt; have := hgx; omega
      have nx2 : gx ≠ g2 := by have := b2.lt; have := hgx; omega
      have nxa : gx ≠ ga := fun h => xA (by rw [h]; rfl)
      have nxb : gx ≠ gb := fun h => xB (by rw [h]; rfl)
      refine M.run rfl <| M.drawG [11] (by kernel_rfl) fun w7 e7 => ?_
      have bB7 := kB.mv0 e7
      have hcell : ∀ w', w7.grownBy w' none → w'.cell? ⟨gx, i, none⟩ = some (.int .i64 p.cans[i]) := fun w' hw => own_cell hX6 hic rfl (gr_trans e7 hw) (by simp)
      refine D.run rfl <| D.ld 1 rfl rfl rfl rfl (fun w' hw => (bB7.mv0 hw).cell rfl rfl) <| D.ld 4 rfl rfl rfl rfl (fun w' hw => (bB7.mv0 hw).cell rfl rfl) <| D.run rfl <| D.ys 6 rfl rfl rfl (YS.ix rfl (by omega) (by omega) rfl) <| D.ld 7 rfl rfl rfl rfl (fun w' hw => by rw [← hcell w' hw]; exact congrArg _ (ad1 gx i)) <| D.run rfl ?_
      rw [w64 (x := p.cans[i] + 1) (by rw [at0_get hic]; omega) (by rw [at0_get hic]; omega), at0_get hic]
      generalize hv : (if at0 p.cans i + 1 < 2 then at0 p.cans i + 1 else 2) = v
      have hvb : at0 p.cans i ≤ v ∧ v ≤ 2 := by rw [← hv]; split <;> omega
      refine D.ys 10 rfl rfl rfl (YS.ix rfl (by omega) (by omega) rfl) <| D.one 11 rfl rfl <| M.store rfl (ad1 gx i) (bx.mv0 e7) (Nat.ble_eq_true_of_le hlx) rfl fun w8 b8 e8 => M.run rfl <| M.end_ ⟨.inl ⟨rfl, trivial⟩, D.done_ rfl <| M.run rfl ?_⟩
      have hX8 := hsetx v w8 b8
      have e68 : w6.grownBy w8 (some gx) := gr_transR (gr_weak e7) e8
      have e08 : w.grownBy w8 none := gr_fresh e06 e68 (Nat.le_trans e0d.size hgx)
      have hlen : p.cans.length = (p.cans.set i v).length := by simp
      have hB8 : Blk w8 gb [.slice (some ⟨gx, 0, none⟩) (p.cans.set i v).length x, .slice Y p.wicks.length y] 29 := by rw [← hlen]; exact kB.mv1 e68 nxb
      refine M.end_ ⟨(s, ⟨p.cans.set i v, p.wicks⟩, x, y), ⟨rfl, rfl, rfl, rfl, rfl, trivial⟩, e08, k1.mv1 e68 nx1, k2.mv1 e68 nx2, kA.mv1 e68 nxa, hB8, hX8.rd (by decide), ?_, rfl, check_of h0 (more_cans hcan hic ⟨by omega, hvb.2⟩) hwik, fun _ => ⟨rfl, rfl, rfl, Int.le_refl _, Int.le_refl _, fun j _ => at0_set_le hic hvb.1 j, fun _ _ => Int.le_refl _⟩, fun h => by omega⟩
      exact (hY6.mvB (B := some ⟨gx, 0, none⟩) e68 hXY.symm (fun _ _ h => h)).rd (by decide)
    · -- one more wick
      have hw2 : what.tmod 3 = 2 := by
        have : what.tmod 3 ≠ 1 := by simpa using j2
        omega
      obtain ⟨gy, cur, rfl, hgy, by', hly, hcy, hsety⟩ := own_int hY6 hiw
      have nx1 : gy ≠ g1 := by have := b1.lt; have := hgy; omega
      have nx2 : gy ≠ g2 := by have := b2.lt; have := hgy; omega
      have nxa : gy ≠ ga := fun h => yA (by rw [h]; rfl)
      have nxb : gy ≠ gb := fun h => yB (by rw [h]; rfl)
      refine M.run rfl <| M.drawG [17] (by kernel_rfl) fun w7 e7 => ?_
      have bB7 := kB.mv0 e7
      have b17 := k1.mv0 e7
      have hcell : ∀ w', w7.grownBy w' none → w'.cell? ⟨gy, i, none⟩ = some (.int .i64 p.wicks[i]) := fun w' hw => own_cell hY6 hiw rfl (gr_trans e7 hw) (by simp)
      refine D.run rfl <| D.ld 1 rfl rfl rfl rfl (fun w' hw => (bB7.mv0 hw).cell rfl rfl) <| D.ld 4 rfl rfl rfl rfl (fun w' hw => (b17.mv0 hw).cell rfl rfl) <| D.ld 10 rfl rfl rfl rfl (fun w' hw => (bB7.mv0 hw).cell rfl rfl) <| D.run rfl <| D.ys 6 rfl rfl rfl (YS.ix rfl (by omega) (by omega) hA1) <| D.ys 12 rfl rfl rfl (YS.ix rfl (by omega) (by omega) rfl) <| D.run rfl <|
        D.ld 8 rfl rfl rfl rfl (fun w' hw => (hAC w' (gr_below (gr_trans e7 hw))).one 2 rfl rfl) <| D.ld 13 rfl rfl rfl rfl (fun w' hw => by rw [← hcell w' hw]; exact congrArg _ (ad1 gy i)) <| D.run rfl ?_
      rw [w64 (x := p.wicks[i] + 1) (by rw [at0_get hiw]; omega) (by rw [at0_get hiw]; omega), at0_get hiw]
      generalize hv : (if at0 p.wicks i + 1 < (nt s i).most then at0 p.wicks i + 1 else (nt s i).most) = v
      have hvb : at0 p.wicks i ≤ v ∧ v ≤ (nt s i).most := by rw [← hv]; split <;> omega
      refine D.ys 16 rfl rfl rfl (YS.ix rfl (by omega) (by omega) rfl) <| D.one 17 rfl rfl <| M.store rfl (ad1 gy i) (by'.mv0 e7) (Nat.ble_eq_true_of_le hly) rfl fun w8 b8 e8 => M.run rfl <| M.end_ ⟨.inl ⟨rfl, trivial⟩, D.done_ rfl <| M.run rfl ?_⟩
      have hY8 := hsety v w8 b8
      have e68 : w6.grownBy w8 (some gy) := gr_transR (gr_weak e7) e8
      have e08 : w.grownBy w8 none := gr_fresh e06 e68 (Nat.le_trans e0d.size hgy)
      have hlen : p.wicks.length = (p.wicks.set i v).length := by simp
      have hB8 : Blk w8 gb [.slice X p.cans.length x, .slice (some ⟨gy, 0, none⟩) (p.wicks.set i v).length y] 29 := by rw [← hlen]; exact kB.mv1 e68 nxb
      refine M.end_ ⟨(s, ⟨p.cans, p.wicks.set i v⟩, x, y), ⟨rfl, rfl, rfl, rfl, rfl, trivial⟩, e08, k1.mv1 e68 nx1, k2.mv1 e68 nx2, kA.mv1 e68 nxa, hB8, ?_, hY8.rd (by decide), rfl, check_of h0 hcan (wicks_set hwik hiw ⟨by omega, hvb.2⟩), fun h => absurd hw2 h, fun _ => ⟨rfl, rfl, rfl, Int.le_refl _, Int.le_refl _, fun _ _ => Int.le_refl _, fun j _ => at0_set_le hiw hvb.1 j⟩⟩
      exact (hX6.mvB (B := some ⟨gy, 0, none⟩) e68 hXY (fun _ _ h => h)).rd (by decide)
  rintro ⟨xs, yp, x', y'⟩ w9 ⟨e09, k1, k2, kA, kB, rX, rY, hxn, hck', hm1, hm2⟩
  have hf' := check_fine hck'
  have hxl : xs.nights.length = s.nights.length := by rw [hxn]
  have hA' : Rd dNight w9 A c xs.nights := by rw [hxn]; exact hA.mv e09
  have hd0 := dipped_ok (l := []) hck (by simp) rfl
  have hd0' := dipped_ok (l := []) hck' (by simp) rfl
  obtain ⟨o1, o2⟩ := (oil_fine hd0).1 (levels_free hf)
  obtain ⟨o3, o4⟩ := (oil_fine hd0').1 (levels_free hf')
  have o5 : darkR s p = darkL s p s.nights.length := by simp [darkR, hck]
  have o6 : darkR xs yp = darkL xs yp xs.nights.length := by simp [darkR, hck']
  have hcl' := hf'.cl
  have hwl' := hf'.wl
  refine M.run rfl ?_
  refine M.run rfl <| M.drawG [] (by kernel_rfl) fun x8 xe8 => ?_
  have x0 := gr_trans e09 xe8
  refine D.run rfl <| D.ldA 0 rfl rfl rfl rfl rfl (fun w' hw => ((k1.mv0 xe8).mv0 hw).cellsAll) <| D.ldA 2 rfl rfl rfl rfl rfl (fun w' hw => ((k2.mv0 xe8).mv0 hw).cellsAll) <| D.one 1 rfl rfl <| M.cl rfl (StoreC_go s A c x8 (hA.mv x0) (by omega)) ?_
  rintro e x9 ⟨A1, a1, rfl, hA1, xe9⟩
  refine ⟨_, rfl, M.run rfl <| M.end_ ⟨.inr xe9, D.one 3 rfl rfl <| M.cl rfl (PlanC_go p B b U d x9 (hB.mv (gr_trans x0 xe9)) (hD.mv (gr_trans x0 xe9)) (by omega) (by omega)) ?_⟩⟩
  rintro e xa ⟨B1, b1', U1, u1, rfl, hB1, hU1, xea⟩
  have x7a := gr_trans (gr_trans xe8 xe9) xea
  refine ⟨_, rfl, M.run rfl <| M.end_ ⟨.inr xea, D.one 4 rfl rfl <| M.cl rfl (Oil_go s p [] A1 a1 B1 b1' U1 u1 none 0 xa (hA1.mv xea) hB1 hU1 (rd_empty dDip xa)) ?_⟩⟩
  rintro e xw ⟨R, r, rfl, hR, xew⟩
  have xB := gr_trans x7a xew
  rw [o1, o2]
  rw [o2] at hR
  refine ⟨_, rfl, M.run rfl <| M.end_ ⟨.inr xew, D.run rfl <| D.done_ rfl <| M.run rfl <| M.drawG [] (by kernel_rfl) fun y8 ye8 => ?_⟩⟩
  have y0 := gr_trans (gr_trans e09 xB) ye8
  refine D.run rfl <| D.ldA 0 rfl rfl rfl rfl rfl (fun w' hw => (((kA.mv0 xB).mv0 ye8).mv0 hw).cellsAll) <| D.ldA 2 rfl rfl rfl rfl rfl (fun w' hw => (((kB.mv0 xB).mv0 ye8).mv0 hw).cellsAll) <| D.one 1 rfl rfl <| M.cl rfl (StoreC_go xs A c y8 (hA'.mv (gr_trans xB ye8)) (by omega)) ?_
  rintro e y9 ⟨A1, a1, rfl, hA1, ye9⟩
  refine ⟨_, rfl, M.run rfl <| M.end_ ⟨.inr ye9, D.one 3 rfl rfl <| M.cl rfl (PlanC_go yp X x' Y y' y9 (rX.mv (gr_trans (gr_trans xB ye8) ye9)) (rY.mv (gr_trans (gr_trans xB ye8) ye9)) (by omega) (by omega)) ?_⟩⟩
  rintro e ya ⟨B1, b1', U1, u1, rfl, hB1, hU1, yea⟩
  have y7a := gr_trans (gr_trans ye8 ye9) yea
  refine ⟨_, rfl, M.run rfl <| M.end_ ⟨.inr yea, D.one 4 rfl rfl <| M.cl rfl (Oil_go xs yp [] A1 a1 B1 b1' U1 u1 none 0 ya (hA1.mv yea) hB1 hU1 (rd_empty dDip ya)) ?_⟩⟩
  rintro e yw ⟨R2, r2, rfl, hR2, yew⟩
  have yB := gr_trans y7a yew
  rw [o3, o4]
  rw [o4] at hR2
  have e9y := gr_trans xB yB
  refine ⟨_, rfl, M.run rfl <| M.end_ ⟨.inr yew, D.run rfl <| D.done_ rfl <| M.run rfl <| M.drawG [] (by kernel_rfl) fun z8 ze8 => ?_⟩⟩
  have z0 := gr_trans (gr_trans e09 e9y) ze8
  refine D.run rfl <| D.ldA 0 rfl rfl rfl rfl rfl (fun w' hw => (((k1.mv0 e9y).mv0 ze8).mv0 hw).cellsAll) <| D.ldA 2 rfl rfl rfl rfl rfl (fun w' hw => (((k2.mv0 e9y).mv0 ze8).mv0 hw).cellsAll) <| D.one 1 rfl rfl <| M.cl rfl (StoreC_go s A c z8 (hA.mv z0) (by omega)) ?_
  rintro e z9 ⟨A1, a1, rfl, hA1, ze9⟩
  refine ⟨_, rfl, M.run rfl <| M.end_ ⟨.inr ze9, D.one 3 rfl rfl <| M.cl rfl (PlanC_go p B b U d z9 (hB.mv (gr_trans z0 ze9)) (hD.mv (gr_trans z0 ze9)) (by omega) (by omega)) ?_⟩⟩
  rintro e za ⟨B1, b1', U1, u1, rfl, hB1, hU1, zea⟩
  have z7a := gr_trans (gr_trans ze8 ze9) zea
  refine ⟨_, rfl, M.run rfl <| M.end_ ⟨.inr zea, D.one 4 rfl rfl <| M.cl rfl (Dark_go s p A1 a1 B1 b1' U1 u1 za (hA1.mv zea) hB1 hU1) ?_⟩⟩
  rintro e zw ⟨K, k, rfl, hK, zew⟩
  have zB := gr_trans z7a zew
  rw [hck, o5]
  rw [o5] at hK
  have e9z := gr_trans e9y zB
  refine ⟨_, rfl, M.run rfl <| M.end_ ⟨.inr zew, D.run rfl <| D.done_ rfl <| M.run rfl <| M.drawG [] (by kernel_rfl) fun v8 ve8 => ?_⟩⟩
  have v0 := gr_trans (gr_trans e09 e9z) ve8
  refine D.run rfl <| D.ldA 0 rfl rfl rfl rfl rfl (fun w' hw => (((kA.mv0 e9z).mv0 ve8).mv0 hw).cellsAll) <| D.ldA 2 rfl rfl rfl rfl rfl (fun w' hw => (((kB.mv0 e9z).mv0 ve8).mv0 hw).cellsAll) <| D.one 1 rfl rfl <| M.cl rfl (StoreC_go xs A c v8 (hA'.mv (gr_trans e9z ve8)) (by omega)) ?_
  rintro e v9 ⟨A1, a1, rfl, hA1, ve9⟩
  refine ⟨_, rfl, M.run rfl <| M.end_ ⟨.inr ve9, D.one 3 rfl rfl <| M.cl rfl (PlanC_go yp X x' Y y' v9 (rX.mv (gr_trans (gr_trans e9z ve8) ve9)) (rY.mv (gr_trans (gr_trans e9z ve8) ve9)) (by omega) (by omega)) ?_⟩⟩
  rintro e va ⟨B1, b1', U1, u1, rfl, hB1, hU1, vea⟩
  have v7a := gr_trans (gr_trans ve8 ve9) vea
  refine ⟨_, rfl, M.run rfl <| M.end_ ⟨.inr vea, D.one 4 rfl rfl <| M.cl rfl (Dark_go xs yp A1 a1 B1 b1' U1 u1 va (hA1.mv vea) hB1 hU1) ?_⟩⟩
  rintro e vw ⟨K2, k2', rfl, hK2, vew⟩
  have vB := gr_trans v7a vew
  rw [hck', o6]
  rw [o6] at hK2
  have e0v := gr_trans e09 (gr_trans e9z vB)
  have rR : Rd dRng vw R r _ := Rd.mv (hR.rd (by decide)) (gr_trans (gr_trans yB zB) vB)
  have rR2 : Rd dRng vw R2 r2 _ := Rd.mv (hR2.rd (by decide)) (gr_trans zB vB)
  have rK : Rd dI vw K k _ := Rd.mv (hK.rd (by decide)) vB
  have rK2 : Rd dI vw K2 k2' _ := hK2.rd (by decide)
  have n1 := rngs_len s p []
  have n2 := rngs_len xs yp []
  refine ⟨_, rfl, M.run rfl <| M.end_ ⟨.inr vew, D.run rfl <| D.done_ rfl <| M.run rfl <| M.condF rfl (by rw [n1, n2, hxl]; simp) <| M.run rfl ?_⟩⟩
  have hle1 : what.tmod 3 ≠ 2 → ∀ j, (h1 : j < (rngs s p []).length) → (h2 : j < (rngs xs yp []).length) → (rngs s p [])[j].lo ≤ (rngs xs yp [])[j].lo ∧ (rngs s p [])[j].hi ≤ (rngs xs yp [])[j].hi := fun h j h1 h2 => by
    rw [rngs_get s p [] (by omega), rngs_get xs yp [] (by omega)]
    exact (hm1 h).oil hf hf' (by omega)
  have hle2 : what.tmod 3 = 2 → ∀ j, (h1 : j < (rngs xs yp []).length) → (h2 : j < (rngs s p []).length) → (rngs xs yp [])[j].lo ≤ (rngs s p [])[j].lo ∧ (rngs xs yp [])[j].hi ≤ (rngs s p [])[j].hi := fun h j h1 h2 => by
    rw [rngs_get s p [] (by omega), rngs_get xs yp [] (by omega)]
    exact (hm2 h).oil hf' hf (by omega)
  have hdk1 : what.tmod 3 ≠ 2 → (darkL xs yp xs.nights.length).all (darkL s p s.nights.length).contains = true := fun h => (hm1 h).dark hf hf'
  have hdk2 : what.tmod 3 = 2 → (darkL s p s.nights.length).all (darkL xs yp xs.nights.length).contains = true := fun h => (hm2 h).dark hf' hf
  have hll : (rngs s p []).length = (rngs xs yp []).length := by rw [n1, n2, hxl]
  refine M.cutC (σ := ((Option Addr × Nat) × List Rng) × ((Option Addr × Nat) × List Rng) × ((Option Addr × Nat) × List Int) × ((Option Addr × Nat) × List Int)) (fun (((P1, c1'), l1), ((P2, c2'), l2), ((P3, c3'), l3), ((P4, c4'), l4)) => [(14, .slice P1 l1.length c1'), (16, .slice P2 l2.length c2'), (18, .slice P3 l3.length c3'), (20, .slice P4 l4.length c4')])
    (fun (((P1, c1'), l1), ((P2, c2'), l2), ((P3, c3'), l3), ((P4, c4'), l4)) w' => w' = vw ∧ Rd dRng w' P1 c1' l1 ∧ Rd dRng w' P2 c2' l2 ∧ Rd dI w' P3 c3' l3 ∧ Rd dI w' P4 c4' l4 ∧ l1.length = l2.length ∧ (∀ j, (h1 : j < l1.length) → (h2 : j < l2.length) → l1[j].lo ≤ l2[j].lo ∧ l1[j].hi ≤ l2[j].hi) ∧ l4.all l3.contains = true) ?_ ?_ post_weak
  · refine M.cond rfl (fun j1 => ?_) (fun j1 => ?_)
    · have hw2 : what.tmod 3 = 2 := by simpa using j1
      exact M.run rfl <| M.end_ ⟨(((R2, r2), _), ((R, r), _), ((K2, k2'), _), ((K, k), _)), ⟨rfl, rfl, rfl, rfl, trivial⟩, rfl, rR2, rR, rK2, rK, hll.symm, hle2 hw2, hdk2 hw2⟩
    · have hw2 : what.tmod 3 ≠ 2 := by simpa using j1
      exact M.run rfl <| M.end_ ⟨(((R, r), _), ((R2, r2), _), ((K, k), _), ((K2, k2'), _)), ⟨rfl, rfl, rfl, rfl, trivial⟩, rfl, rR, rR2, rK, rK2, hll, hle1 hw2, hdk1 hw2⟩
  rintro ⟨⟨⟨P1, c1'⟩, l1⟩, ⟨⟨P2, c2'⟩, l2⟩, ⟨⟨P3, c3'⟩, l3⟩, ⟨⟨P4, c4'⟩, l4⟩⟩ wc ⟨rfl, s1, s2, s3, s4, hl12, hle, hsub⟩
  have hbd := s1.bd
  refine M.run rfl <| M.loop (σ := Nat) (fun j => [(14, .slice P1 l1.length c1'), (16, .slice P2 l2.length c2'), (18, .slice P3 l3.length c3'), (20, .slice P4 l4.length c4'), (22, .int .i64 (j : Int))]) (fun j w' => j ≤ l1.length ∧ wc.grownBy w' none) (fun j => l1.length - j) 0 ⟨rfl, rfl, rfl, rfl, rfl, trivial⟩ ⟨Nat.zero_le _, gr_refl _ _⟩ ?_
  rintro j wg ⟨hj, eg⟩
  refine M.run rfl <| M.cond rfl (fun h => ?_) (fun h => ?_)
  · have hlt : j < l1.length := by have := of_decide_eq_true h; omega
    have hlt2 : j < l2.length := by omega
    obtain ⟨hR1, hRC⟩ := rd_flat s1 hlt
    obtain ⟨hM1, hMC⟩ := rd_flat s2 hlt2
    have hb := hle j hlt hlt2
    generalize l1[j] = x1 at hRC hb
    generalize l2[j] = x2 at hMC hb
    have bw : ∀ {w'}, wg.grownBy w' none → Below wc.heap.size wc w' := fun hw => gr_below (gr_trans eg hw)
    refine M.run rfl <| M.quiet (by kernel_rfl) <| LQ.run rfl <| LQ.ix rfl (by omega) (by omega) hM1 <| LQ.run rfl <| LQ.ld rfl (fun w' hw => (hMC w' (bw hw)).one 0 rfl rfl) <| LQ.run rfl <| LQ.ix rfl (by omega) (by omega) hR1 <| LQ.run rfl <| LQ.ld rfl (fun w' hw => (hRC w' (bw hw)).one 0 rfl rfl) <| LQ.at_ [176] rfl <| LQ.caseF 176 rfl (decide_eq_false (by omega)) <| LQ.run rfl <|
      LQ.ix rfl (by omega) (by omega) hM1 <| LQ.run rfl <| LQ.ld rfl (fun w' hw => (hMC w' (bw hw)).one 1 rfl rfl) <| LQ.run rfl <| LQ.ix rfl (by omega) (by omega) hR1 <| LQ.run rfl <| LQ.ld rfl (fun w' hw => (hRC w' (bw hw)).one 1 rfl rfl) <| LQ.run rfl <| LQ.nil fun wh eh => ?_
    exact M.run rfl <| M.condF rfl (decide_eq_false (by omega)) <| M.run rfl <| M.end_ ⟨j + 1, ⟨rfl, rfl, rfl, rfl, nxtL hlt hbd, trivial⟩, ⟨by omega, gr_trans eg eh⟩, by omega⟩
  · refine M.run rfl <| M.cl rfl (subset_go l4 l3 P4 c4' P3 c3' wg (s4.mv eg) (s3.mv eg)) ?_
    rintro e wi ⟨rfl, ei⟩
    refine ⟨_, rfl, M.at_ [192] rfl <| M.caseT 192 rfl hsub ?_⟩
    refine M.run rfl <| M.cl rfl (fin wi (gr_trans (gr_trans e0v eg) ei)) ?_
    rintro e wz ⟨rfl, ez⟩
    exact ⟨_, rfl, M.run rfl <| M.retF rfl rfl ⟨rfl, ez⟩⟩
end Go.Proofs.Ytaimlmfncjbmjaa
