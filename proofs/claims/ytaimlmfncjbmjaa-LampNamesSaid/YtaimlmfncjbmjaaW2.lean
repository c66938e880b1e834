/- Part 2 of the proof: the walks and plain laws that the row needs (merged from several texts: YtaimlmfncjbmjaaLB, YtaimlmfncjbmjaaLC, YtaimlmfncjbmjaaLD, YtaimlmfncjbmjaaLE, YtaimlmfncjbmjaaLF, YtaimlmfncjbmjaaLG, YtaimlmfncjbmjaaLN, YtaimlmfncjbmjaaAB, YtaimlmfncjbmjaaAC, YtaimlmfncjbmjaaAD, YtaimlmfncjbmjaaLP, YtaimlmfncjbmjaaLQ, YtaimlmfncjbmjaaLR, YtaimlmfncjbmjaaLS, YtaimlmfncjbmjaaLT, YtaimlmfncjbmjaaLU, YtaimlmfncjbmjaaLV). -/
import Derived.Test.YtaimlmfncjbmjaaW1
import Derived.Test.YtaimlmfncjbmjaaW0
set_option linter.unusedVariables false
set_option linter.unusedSimpArgs false
section
/- Walk: Oil. -/
set_option linter.unusedVariables false
namespace Go.Proofs.Ytaimlmfncjbmjaa
open Go Go.Vc Go.RowKit Lp

theorem dipped_check {s : Store} {p : Plan} {l : List Dip} (h : dippedE s p l = 0) : check s p = 0 ∧ l.length ≤ 6 ∧ l.all (dipOk s) = true := by
  unfold dippedE at h
  split at h
  · omega
  · rename_i h0
    split at h
    · omega
    · rename_i h1
      split at h
      · omega
      · rename_i h2
        exact ⟨by omega, by omega, by simpa using h2⟩

def endsL (s : Store) (p : Plan) (l : List Dip) (i : Nat) : List Rng := (List.range i).map fun j => ends (levelAt s p l s.nights.length j)
theorem endsL_succ (s : Store) (p : Plan) (l : List Dip) (i : Nat) : endsL s p l (i + 1) = endsL s p l i ++ [ends (levelAt s p l s.nights.length i)] := by simp [endsL, List.range_succ]
theorem endsL_all (s : Store) (p : Plan) (l : List Dip) : (levels s p l).map ends = endsL s p l s.nights.length := by simp [levels, endsL]

set_option maxHeartbeats 1000000 in
theorem Oil_go (s : Store) (p : Plan) (l : List Dip) (A : Option Addr) (c : Nat) (B : Option Addr) (b : Nat) (U : Option Addr) (d : Nat) (E : Option Addr) (f : Nat) (w : World) (hA : Rd dNight w A c s.nights) (hB : Rd dI w B b p.cans) (hD : Rd dI w U d p.wicks) (hE : Rd dDip w E f l) :
    Calls Try.prog 45 #[vStore s A c, vPlan p B b U d, .slice E l.length f] w fun e w' => ∃ X x, e = .returned (.tuple #[.slice X (oilR s p l).length x, .int .i64 (oilE s p l)]) ∧ Vc.Own dRng 36 w' w.heap.size no X x (oilR s p l) ∧ w.grownBy w' none := by
  refine calls (G := G) (args := [vStore s A c, vPlan p B b U d, .slice E l.length f]) Try.func45 rfl rfl rfl ?_
  refine M.run rfl (M.nw rfl fun g1 w1 b1 e1 l1 => M.run rfl (M.nw rfl fun g2 w2 b2 e2 l2 => M.run rfl (M.ldA rfl rfl (b1.mv0 e2).cellsAll (M.run rfl (M.ldA rfl rfl b2.cellsAll (M.run rfl
    (M.cl rfl (dipped_go s p l A c B b U d E f w2 (hA.mv (gr_trans e1 e2)) (hB.mv (gr_trans e1 e2)) (hD.mv (gr_trans e1 e2)) (hE.mv (gr_trans e1 e2))) ?_)))))))
  rintro e w3 ⟨rfl, e3⟩
  have e03 := gr_trans (gr_trans e1 e2) e3
  replace b1 := (b1.mv0 e2).mv0 e3
  replace b2 := b2.mv0 e3
  refine ⟨_, rfl, M.run rfl (M.cond rfl (fun h => ?_) (fun h => ?_))⟩
  · have h' : dippedE s p l ≠ 0 := by simpa using h
    have hr : oilE s p l = dippedE s p l := by simp [oilE, h']
    have hr2 : oilR s p l = [] := by simp [oilR, hr, h']
    rw [hr, hr2]
    exact M.run rfl (M.retF rfl rfl ⟨none, 0, rfl, Vc.Own.nil _ _ _ _ _, e03⟩)
  have h' : dippedE s p l = 0 := by simpa using h
  obtain ⟨hchk, hl6, hdip⟩ := dipped_check h'
  have hf := check_fine hchk
  have hn6 := hf.ok.few
  refine M.run rfl (M.ldA rfl rfl b1.cellsAll (M.run rfl (M.ldA rfl rfl b2.cellsAll (M.run rfl (M.cl rfl (levels_go s p l A c B b U d E f w3 (hA.mv e03) (hB.mv e03) (hD.mv e03) (hE.mv e03) hf (by omega)) ?_)))))
  rintro e w4 ⟨Y, y, rfl, hY, e4⟩
  have e04 := gr_trans e03 e4
  refine ⟨_, rfl, M.run rfl (M.cond rfl (fun h2 => ?_) (fun h2 => ?_))⟩
  · have h2' : levelsOk s p l = false := by simpa using h2
    have hr : oilE s p l = 9 := by simp [oilE, h', h2']
    have hr2 : oilR s p l = [] := by simp [oilR, hr]
    rw [hr, hr2]
    exact M.run rfl (M.retF rfl rfl ⟨none, 0, rfl, Vc.Own.nil _ _ _ _ _, e04⟩)
  have h2' : levelsOk s p l = true := by simpa using h2
  have hr : oilE s p l = 0 := by simp [oilE, h', h2']
  have hr2 : oilR s p l = endsL s p l s.nights.length := by simp [oilR, hr, endsL_all]
  have hlv : levelsR s p l = levels s p l := by simp [levelsR, h2']
  rw [hlv] at hY
  have hYr : Rd dLev w4 Y y (levels s p l) := hY.rd (by decide)
  have hlen : (levels s p l).length = s.nights.length := by simp [levels]
  rw [hr, hr2, hlv]
  refine M.run rfl ?_
  refine M.loop (σ := Nat × Option Addr × Nat) (fun (i, X, x) => [(32, .slice Y (levels s p l).length y), (33, .int .i64 (levels s p l).length), (34, .int .i64 (i : Int)), (11, .slice X (endsL s p l i).length x)])
    (fun (i, X, x) w' => i ≤ s.nights.length ∧ w4.grownBy w' none ∧ Vc.Own dRng 36 w' w4.heap.size no X x (endsL s p l i)) (fun (i, _) => s.nights.length - i) (0, none, 0) ⟨rfl, rfl, rfl, rfl, trivial⟩ ⟨Nat.zero_le _, gr_refl _ _, Vc.Own.nil _ _ _ _ _⟩ ?_
  rintro ⟨i, X, x⟩ w5 ⟨hi, e5, hX⟩
  refine M.run rfl (M.cond rfl (fun h3 => ?_) (fun h3 => ?_))
  · have hlt : i < s.nights.length := by have := of_decide_eq_true h3; omega
    have hget : (levels s p l)[i]'(by omega) = levelAt s p l s.nights.length i := by simp [levels]
    obtain ⟨hY1, hC⟩ := rd_flat hYr (show i < (levels s p l).length by omega)
    rw [hget] at hC
    refine M.run rfl (M.ix rfl (by omega) (by omega) hY1 (M.run rfl (M.ldA rfl (lv_len _) (hC w5 (gr_below e5)) (M.run rfl (M.nw rfl fun g6 w6 b6 e6 l6 => M.run rfl ?_)))))
    replace b6 : Blk w6 g6 (lv fun _ => false) 139 := by rw [lv_zero]; exact b6
    refine M.storeA rfl (lv_len _) rfl b6 (lv_fit _ _) (lv_one _) fun w7 b7 e7 => ?_
    replace b7 : Blk w7 g6 (lv (levelAt s p l s.nights.length i)) 139 := blk_all (by show (lv _).length = (lv _).length; rw [lv_len, lv_len]) b7
    have e57 : w5.grownBy w7 none := gr_fresh e6 e7 l6
    refine M.run rfl (M.ldA rfl (lv_len _) b7.cellsAll (M.run rfl (M.cl rfl (ends_go _ w7 (level_some h2' hlt)) ?_)))
    rintro e w8 ⟨rfl, e8⟩
    refine ⟨_, rfl, M.run rfl (M.nw rfl fun g9 w9 b9 e9 l9 => M.run rfl (M.store rfl rfl b9 rfl rfl fun w10 b10 e10 => M.run rfl (M.ldA rfl rfl b10.cellsAll (M.run rfl (M.bs rfl fun ga wa ba ea la => M.run rfl ?_)))))⟩
    have e810 : w8.grownBy w10 none := gr_fresh e9 e10 l9
    have e5a : w5.grownBy wa none := gr_trans (gr_trans (gr_trans e57 e8) e810) ea
    have hlE : (endsL s p l i).length = i := by simp [endsL]
    refine M.app (d := dRng) rfl rfl (hX.mv0 e5a) rfl (by decide) rfl (ys := [ends (levelAt s p l s.nights.length i)]) rfl rfl (src_one ba rfl) (gr_trans e5 e5a).size (by simp [hlE]; omega) (by decide) fun X' x' wb hXb eb hatb => ?_
    have e4b := (hX.mv0 e5a).gr (gr_trans e5 e5a) eb (Nat.le_refl _)
    refine M.run rfl (M.end_ ⟨(i + 1, X', x'), ⟨rfl, rfl, ?_, ?_, trivial⟩, ⟨by omega, e4b, ?_⟩, by simp; omega⟩)
    · exact congrArg (fun z => some (Value.int .i64 z)) (w64 (by omega) (by omega))
    · rw [endsL_succ]; rfl
    · show Vc.Own dRng 36 wb w4.heap.size no X' x' (endsL s p l (i + 1))
      rw [endsL_succ]; exact hXb
  · have : i = s.nights.length := by have := of_decide_eq_false h3; omega
    subst this
    exact M.run rfl (M.retF rfl rfl ⟨X, x, rfl, hX.weaken e04.size (fun _ h => h), gr_trans e04 e5⟩)
end Go.Proofs.Ytaimlmfncjbmjaa
end

section
/- Walks: Leave's closure, Leave. -/
set_option linter.unusedVariables false
namespace Go.Proofs.Ytaimlmfncjbmjaa
open Go Go.Vc Go.RowKit Lp

/-- what the closure captures, in memory -/
structure Boxes (s : Store) (p : Plan) (l : List Dip) (A : Option Addr) (c : Nat) (B : Option Addr) (b : Nat) (U : Option Addr) (d : Nat) (E : Option Addr) (f : Nat) (g3 g4 g5 g9 g10 : Nat) (w : World) : Prop where
  st : Blk w g3 [.int .i64 s.cap, .int .i64 s.can, .int .i64 s.lo, .int .i64 s.hi, .slice A s.nights.length c] 39
  pl : Blk w g4 [.slice B p.cans.length b, .slice U p.wicks.length d] 44
  di : Blk w g5 [.slice E l.length f] 60
  le : Blk w g10 [.func (.func 72) #[] #[.pointer (some ⟨g5, 0, none⟩), .pointer (some ⟨g9, 0, none⟩), .pointer (some ⟨g3, 0, none⟩), .pointer (some ⟨g4, 0, none⟩), .pointer (some ⟨g10, 0, none⟩)]] 120
  fo : ∃ v, Blk w g9 [v] 27
theorem Boxes.mv {s : Store} {p : Plan} {l : List Dip} {A : Option Addr} {c : Nat} {B : Option Addr} {b : Nat} {U : Option Addr} {d : Nat} {E : Option Addr} {f g3 g4 g5 g9 g10 : Nat} {w w' : World} (h : Boxes s p l A c B b U d E f g3 g4 g5 g9 g10 w) (e : w.grownBy w' none) : Boxes s p l A c B b U d E f g3 g4 g5 g9 g10 w' :=
  ⟨h.st.mv0 e, h.pl.mv0 e, h.di.mv0 e, h.le.mv0 e, let ⟨v, hv⟩ := h.fo; ⟨v, hv.mv0 e⟩⟩
theorem Boxes.mv9 {s : Store} {p : Plan} {l : List Dip} {A : Option Addr} {c : Nat} {B : Option Addr} {b : Nat} {U : Option Addr} {d : Nat} {E : Option Addr} {f g3 g4 g5 g9 g10 : Nat} {w w' : World} (h : Boxes s p l A c B b U d E f g3 g4 g5 g9 g10 w) (e : w.grownBy w' (some g9)) (h9 : ∃ v, Blk w' g9 [v] 27) : Boxes s p l A c B b U d E f g3 g4 g5 g9 g10 w' := by
  obtain ⟨v, hv⟩ := h.fo
  exact ⟨h.st.mv1 e (hv.ne h.st (by decide)), h.pl.mv1 e (hv.ne h.pl (by decide)), h.di.mv1 e (hv.ne h.di (by decide)), h.le.mv1 e (hv.ne h.le (by decide)), h9⟩

set_option maxHeartbeats 2000000 in
theorem leave1_go (s : Store) (p : Plan) (l : List Dip) (A : Option Addr) (c : Nat) (B : Option Addr) (b : Nat) (U : Option Addr) (d : Nat) (E : Option Addr) (f : Nat) (g3 g4 g5 g9 g10 : Nat) (w0 : World) (N : Nat) (hA : Rd dNight w0 A c s.nights) (hB : Rd dI w0 B b p.cans) (hD : Rd dI w0 U d p.wicks) (hE : Rd dDip w0 E f l)
    (hf : Fine s p) (hl : l.length ≤ 6) (h9 : w0.heap.size ≤ g9) (hN : g9 < N) (h90 : w0.heap.size ≤ N) : ∀ (m i : Nat) (out : List Int) (O : Option Addr) (o : Nat) (w : World), w0.grownBy w none → N ≤ w.heap.size → Boxes s p l A c B b U d E f g3 g4 g5 g9 g10 w → Vc.Own dI 3 w N no O o out → i ≤ l.length → out.length ≤ i → m ≤ 6 →
    Calls Try.prog 72 #[.slice O out.length o, .int .i64 i, .int .i64 m, .pointer (some ⟨g5, 0, none⟩), .pointer (some ⟨g9, 0, none⟩), .pointer (some ⟨g3, 0, none⟩), .pointer (some ⟨g4, 0, none⟩), .pointer (some ⟨g10, 0, none⟩)] w fun e w' =>
      e = .returned (.bool (leaveT s p l m out i).isSome) ∧ w.grownBy w' (some g9) ∧ (∃ v, Blk w' g9 [v] 27) ∧ ∀ r, leaveT s p l m out i = some r → ∃ X x, Blk w' g9 [.slice X r.length x] 27 ∧ Vc.Own dI 3 w' N no X x r := by
  intro m
  induction m with
  | zero =>
    intro i out O o w e0 hNw hb hO hi hoi hm
    refine calls (G := G) (args := [.slice O out.length o, .int .i64 i, .int .i64 (0 : Nat), .pointer (some ⟨g5, 0, none⟩), .pointer (some ⟨g9, 0, none⟩), .pointer (some ⟨g3, 0, none⟩), .pointer (some ⟨g4, 0, none⟩), .pointer (some ⟨g10, 0, none⟩)]) Try.func72 rfl rfl rfl ?_
    have hOn : O = none → out = [] := fun h => by
      rcases hO with ⟨_, h2, _⟩ | ⟨g, _, h2, _⟩
      · exact h2
      · rw [h] at h2; cases h2
    refine M.run rfl (M.condT rfl rfl (M.run rfl (M.ld rfl (hb.di.cell rfl rfl) (M.run rfl ?_))))
    refine M.loop (σ := Nat × Option Addr × Nat) (fun (k, K, kk) => [(0, .slice O out.length o), (4, .pointer (some ⟨g9, 0, none⟩)), (5, .pointer (some ⟨g3, 0, none⟩)), (6, .pointer (some ⟨g4, 0, none⟩)), (20, .slice E l.length f), (21, .int .i64 l.length), (22, .int .i64 (k : Int)), (12, .slice K (keptN l out k).length kk)])
      (fun (k, K, kk) w' => k ≤ l.length ∧ w.grownBy w' none ∧ Vc.Own dDip 103 w' w.heap.size no K kk (keptN l out k)) (fun (k, _) => l.length - k) (0, none, 0) ⟨rfl, rfl, rfl, rfl, rfl, rfl, rfl, rfl, trivial⟩ ⟨Nat.zero_le _, gr_refl _ _, Vc.Own.nil _ _ _ _ _⟩ ?_
    rintro ⟨k, K, kk⟩ w1 ⟨hk, e1, hK⟩
    have e01 := gr_trans e0 e1
    refine M.run rfl (M.cond rfl (fun h => ?_) (fun h => ?_))
    · have hlt : k < l.length := by have := of_decide_eq_true h; omega
      obtain ⟨hE1, hEC⟩ := rd_flat hE hlt
      refine M.run rfl (M.ix rfl (by omega) (by omega) hE1 (M.run rfl (M.ldA rfl rfl (hEC w1 (gr_below e01)) (M.run rfl (M.nw rfl fun g6 w2 b2 e2 l2 => M.run rfl ?_)))))
      refine M.store rfl rfl b2 rfl rfl fun w3 b3 e3 => ?_
      have e13 : w1.grownBy w3 none := gr_fresh e2 e3 l2
      have e03 := gr_trans e1 e13
      refine M.run rfl (M.cl rfl (contains_int (k : Int) out O o w3 ((hO.mv0 e03).rd (by decide))) ?_)
      rintro e w4 ⟨rfl, e4⟩
      have e14 := gr_trans e13 e4
      have hnext : some (Value.int .i64 (IntKind.i64.wrap ((k : Int) + 1))) = some (Value.int .i64 ((k + 1 : Nat) : Int)) := congrArg (fun z => some (Value.int .i64 z)) (w64 (by omega) (by omega))
      refine ⟨_, rfl, M.run rfl (M.cond rfl (fun h2 => ?_) (fun h2 => ?_))⟩
      · have h2' : out.contains (k : Int) = false := by simpa using h2
        have hs : keptN l out (k + 1) = keptN l out k ++ [l[k]] := by rw [keptN_succ _ _ _ hlt, h2']; rfl
        refine M.run rfl (M.ldA rfl rfl (b3.mv0 e4).cellsAll (M.run rfl (M.bs rfl fun ga wa ba ea la => M.run rfl ?_)))
        have e1a := gr_trans e14 ea
        have hkl := keptN_len l out k
        refine M.app (d := dDip) rfl rfl (hK.mv0 e1a) rfl (by decide) rfl (ys := [l[k]]) rfl rfl (src_one ba rfl) (gr_trans e1 e1a).size (by simp; omega) (by decide) fun K' kk' wb hKb eb hatb => ?_
        have e0b := (hK.mv0 e1a).gr (gr_trans e1 e1a) eb (Nat.le_refl _)
        refine M.run rfl (M.end_ ⟨(k + 1, K', kk'), ⟨rfl, rfl, rfl, rfl, rfl, rfl, hnext, ?_, trivial⟩, ⟨by omega, e0b, ?_⟩, by simp; omega⟩)
        · rw [hs]; rfl
        · show Vc.Own dDip 103 wb w.heap.size no K' kk' (keptN l out (k + 1))
          rw [hs]; exact hKb
      · have h2' : out.contains (k : Int) = true := by simpa using h2
        have hs : keptN l out (k + 1) = keptN l out k := by rw [keptN_succ _ _ _ hlt, h2']; rfl
        refine M.run rfl (M.end_ ⟨(k + 1, K, kk), ⟨rfl, rfl, rfl, rfl, rfl, rfl, hnext, ?_, trivial⟩, ⟨by omega, gr_trans e1 e14, ?_⟩, by simp; omega⟩)
        · rw [hs]; rfl
        · show Vc.Own dDip 103 w4 w.heap.size no K kk (keptN l out (k + 1))
          rw [hs]; exact hK.mv0 e14
    · have hkl : k = l.length := by have := of_decide_eq_false h; omega
      subst hkl
      obtain ⟨v9, hv9⟩ := hb.fo
      have hb1 := hb.mv e1
      refine M.run rfl (M.store rfl rfl (hv9.mv0 e1) rfl rfl fun w2 b2 e2 => ?_)
      have hb2 := hb1.mv9 e2 ⟨_, b2⟩
      have e02 : w0.grownBy w2 none := gr_fresh e01 e2 h9
      have hK2 : Rd dDip w2 K kk (keptN l out l.length) := ((hK.mvOld e2 (Nat.lt_of_lt_of_le hN hNw))).rd (by decide)
      have hkln := keptN_len l out l.length
      refine M.run rfl (M.ldA rfl rfl hb2.st.cellsAll (M.run rfl (M.ldA rfl rfl hb2.pl.cellsAll (M.run rfl (M.cl rfl (levels_go s p (keptN l out l.length) A c B b U d K kk w2 (hA.mv e02) (hB.mv e02) (hD.mv e02) hK2 hf (by omega)) ?_)))))
      rintro e w3 ⟨Y, y, rfl, hY, e3⟩
      refine ⟨_, rfl, M.run rfl (M.retF rfl rfl ⟨?_, gr_transR (gr_transR (gr_weak e1) e2) (gr_weak e3), ⟨_, b2.mv0 e3⟩, fun r hr => ?_⟩)⟩
      · show Ending.returned (Value.bool (levelsOk s p (kept l out))) = _
        unfold leaveT
        cases levelsOk s p (kept l out) <;> rfl
      · unfold leaveT at hr
        split at hr
        · injection hr with hr
          subst hr
          exact ⟨O, o, b2.mv0 e3, ((hO.mv0 e1).mvOld e2 hN).mv0 e3⟩
        · cases hr
  | succ m ih =>
    intro i out O o w e0 hNw hb hO hi hoi hm
    have hOn : O = none → out = [] := fun h => by
      rcases hO with ⟨_, h2, _⟩ | ⟨g, _, h2, _⟩
      · exact h2
      · rw [h] at h2; cases h2
    refine calls (G := G) (args := [.slice O out.length o, .int .i64 i, .int .i64 (m + 1 : Nat), .pointer (some ⟨g5, 0, none⟩), .pointer (some ⟨g9, 0, none⟩), .pointer (some ⟨g3, 0, none⟩), .pointer (some ⟨g4, 0, none⟩), .pointer (some ⟨g10, 0, none⟩)]) Try.func72 rfl rfl rfl ?_
    refine M.run rfl (M.condF rfl (by simp; omega) (M.run rfl ?_))
    refine M.loop (σ := Nat) (fun k => [(0, .slice O out.length o), (2, .int .i64 ((m + 1 : Nat) : Int)), (3, .pointer (some ⟨g5, 0, none⟩)), (4, .pointer (some ⟨g9, 0, none⟩)), (5, .pointer (some ⟨g3, 0, none⟩)), (6, .pointer (some ⟨g4, 0, none⟩)), (7, .pointer (some ⟨g10, 0, none⟩)), (17, .int .i64 (k : Int))])
      (fun k w' => i ≤ k ∧ k ≤ l.length ∧ w.grownBy w' (some g9) ∧ (∃ v, Blk w' g9 [v] 27) ∧ (List.range' i (k - i)).findSome? (fun (j : Nat) => leaveT s p l m (out ++ [(j : Int)]) (j + 1)) = none) (fun k => l.length - k) i
      ⟨rfl, rfl, rfl, rfl, rfl, rfl, rfl, rfl, trivial⟩ ⟨Nat.le_refl _, hi, gr_refl _ _, hb.fo, by rw [Nat.sub_self]; rfl⟩ ?_
    rintro k w1 ⟨hik, hk, e1, hv1, hnone⟩
    have hb1 := hb.mv9 e1 hv1
    have hO1 := hO.mvOld e1 hN
    have e01 : w0.grownBy w1 none := gr_fresh e0 e1 h9
    refine M.run rfl (M.ld rfl (hb1.di.cell rfl rfl) (M.run rfl (M.cond rfl (fun h => ?_) (fun h => ?_))))
    · have hlt : k < l.length := by have := of_decide_eq_true h; omega
      refine M.run rfl (M.drawK g10 (by kernel_rfl) fun w2 e2 => ?_)
      have hw1 : IntKind.i64.wrap ((k : Int) + 1) = ((k + 1 : Nat) : Int) := w64 (by omega) (by omega)
      have hw2 : IntKind.i64.wrap (((m + 1 : Nat) : Int) - 1) = ((m : Nat) : Int) := by rw [w64 (by omega) (by omega)]; omega
      have n910 : g9 ≠ g10 := by obtain ⟨v, hv⟩ := hv1; exact hv.ne hb1.le (by decide)
      refine D.run rfl (D.ld 0 rfl rfl rfl rfl (fun w' hw => Blk.cell (hw _ (hb1.le.mv0 e2)) rfl rfl) ?_)
      have hO2 := hO1.mv0 e2
      have hsz1 : N ≤ w1.heap.size := Nat.le_trans hNw e1.size
      -- both are there: the copy, the number
      refine D.meet (σ := Option Addr × Nat × Nat) 2 [4, 2, 0, 9, 8, 7, 6, 3, 1]
        (fun (C, cc, ga) => [(52, .func (.func 72) #[] #[.pointer (some ⟨g5, 0, none⟩), .pointer (some ⟨g9, 0, none⟩), .pointer (some ⟨g3, 0, none⟩), .pointer (some ⟨g4, 0, none⟩), .pointer (some ⟨g10, 0, none⟩)]), (54, .slice C out.length cc), (56, .slice (some ⟨ga, 0, none⟩) 1 1), (59, .int .i64 ((k + 1 : Nat) : Int)), (61, .int .i64 ((m : Nat) : Int)),
              (0, .slice O out.length o), (2, .int .i64 ((m + 1 : Nat) : Int)), (3, .pointer (some ⟨g5, 0, none⟩)), (4, .pointer (some ⟨g9, 0, none⟩)), (5, .pointer (some ⟨g3, 0, none⟩)), (6, .pointer (some ⟨g4, 0, none⟩)), (7, .pointer (some ⟨g10, 0, none⟩)), (17, .int .i64 (k : Int))])
        (fun (C, cc, ga) w3 => w2.grownBy w3 none ∧ Vc.Own dI 3 w3 w2.heap.size no C cc out ∧ Blk w3 ga [.int .i64 (k : Int)] 3) (fun hcont => ?_) ?_
      rotate_left
      · rintro ⟨C, cc, ga⟩ w3 ⟨e23, hC, hga⟩
        refine D.one 5 rfl rfl (M.app (d := dI) rfl rfl hC rfl (by decide) rfl (ys := [(k : Int)]) rfl rfl (src_one hga rfl) e23.size (by simp; omega) (by decide) fun X x w4 hX e4 hat => M.run rfl (M.end_ ⟨.inr (keep_gr e4 ?_), ?_⟩))
        · intro hC10
          have h1 := (hC.blkGe g10 hC10).1
          have h2 := hb1.le.lt
          have := e2.size
          omega
        have e24 := hC.gr e23 e4 (Nat.le_refl _)
        have e14 : w1.grownBy w4 none := gr_trans e2 e24
        have e04 := gr_trans e01 e14
        have hc := ih (k + 1) (out ++ [(k : Int)]) X x w4 e04 (Nat.le_trans hsz1 e14.size) (hb1.mv e14) (hX.weaken (Nat.le_trans hsz1 e2.size) (fun _ h => h)) (by omega) (by simp; omega) (by omega)
        refine D.one 10 rfl rfl (M.cl rfl hc ?_)
        rintro e w5 ⟨rfl, e5, hv5, hr5⟩
        refine ⟨_, rfl, M.run rfl (M.end_ ⟨.inr (keep_gr e5 (fun h => n910 (by injection h))), D.done_ rfl (M.run rfl (M.cond rfl (fun h4 => ?_) (fun h4 => ?_)))⟩)⟩
        · have e05 := gr_transR (gr_transR e1 (gr_weak e14)) e5
          obtain ⟨r, hr⟩ := Option.isSome_iff_exists.1 h4
          have hl2 : leaveT s p l (m + 1) out i = some r := by
            unfold leaveT
            have hsplit : l.length - i = (k - i) + 1 + (l.length - k - 1) := by omega
            rw [hsplit, ← List.range'_append_1, List.findSome?_append, findSome_range' _ i (k - i), hnone, show i + (k - i) = k by omega, hr]
            rfl
          refine M.run rfl (M.retF rfl rfl ⟨by rw [hl2]; rfl, e05, hv5, fun r' hr' => ?_⟩)
          rw [hl2] at hr'
          injection hr' with hr'
          subst hr'
          exact hr5 _ hr
        · have hn4 : leaveT s p l m (out ++ [(k : Int)]) (k + 1) = none := by simpa using h4
          refine M.run rfl (M.end_ ⟨k + 1, ⟨rfl, rfl, rfl, rfl, rfl, rfl, rfl, ?_, trivial⟩, ⟨by omega, by omega, gr_transR (gr_transR e1 (gr_weak e14)) e5, hv5, ?_⟩, by omega⟩)
          · exact congrArg (fun z => some (Value.int .i64 z)) hw1
          · rw [show k + 1 - i = (k - i) + 1 by omega, findSome_range', hnone, show i + (k - i) = k by omega, hn4]; rfl
      refine D.two 2 4 rfl rfl rfl ?_ ?_
      · refine M.cl rfl (clone_go out O o w2 (hO2.rd (by decide)) (by omega) hOn) ?_
        rintro e w3 ⟨C, cc, rfl, hC, e3⟩
        refine ⟨_, rfl, M.run rfl (M.end_ ⟨.inr (keep_gr e3 (by simp)), D.one 4 rfl rfl (M.bs rfl fun ga w4 ba e4 la => M.run rfl (M.end_ ⟨.inr (keep_gr e4 (by simp)), ?_⟩))⟩)⟩
        refine D.weak rfl ?_ (hcont (C, cc, ga) w4 ⟨gr_trans e3 e4, hC.mv0 e4, ba⟩)
        exact ⟨rfl, rfl, rfl, congrArg (fun z => some (Value.int .i64 z)) hw1, congrArg (fun z => some (Value.int .i64 z)) hw2, rfl, rfl, rfl, rfl, rfl, rfl, rfl, rfl, trivial⟩
      · refine M.bs rfl fun ga w3 ba e3 la => M.run rfl (M.end_ ⟨.inr (keep_gr e3 (by simp)), D.one 2 rfl rfl (M.cl rfl (clone_go out O o w3 ((hO2.mv0 e3).rd (by decide)) (by omega) hOn) ?_)⟩)
        rintro e w4 ⟨C, cc, rfl, hC, e4⟩
        refine ⟨_, rfl, M.run rfl (M.end_ ⟨.inr (keep_gr e4 (by simp)), ?_⟩)⟩
        refine D.weak rfl ?_ (hcont (C, cc, ga) w4 ⟨gr_trans e3 e4, hC.weaken e3.size (fun _ h => h), ba.mv0 e4⟩)
        exact ⟨rfl, rfl, rfl, congrArg (fun z => some (Value.int .i64 z)) hw1, congrArg (fun z => some (Value.int .i64 z)) hw2, rfl, rfl, rfl, rfl, rfl, rfl, rfl, rfl, trivial⟩
    · have hke : k = l.length := by have := of_decide_eq_false h; omega
      subst hke
      refine M.run rfl (M.retF rfl rfl ⟨?_, e1, hv1, fun r hr => ?_⟩)
      · unfold leaveT; rw [hnone]; rfl
      · unfold leaveT at hr; rw [hnone] at hr; cases hr
end Go.Proofs.Ytaimlmfncjbmjaa
end

section
/- Walk: Leave. -/
set_option linter.unusedVariables false
namespace Go.Proofs.Ytaimlmfncjbmjaa
open Go Go.Vc Go.RowKit Lp

set_option maxHeartbeats 1000000 in
theorem Leave_go (s : Store) (p : Plan) (l : List Dip) (A : Option Addr) (c : Nat) (B : Option Addr) (b : Nat) (U : Option Addr) (d : Nat) (E : Option Addr) (f : Nat) (w : World) (hA : Rd dNight w A c s.nights) (hB : Rd dI w B b p.cans) (hD : Rd dI w U d p.wicks) (hE : Rd dDip w E f l) :
    Calls Try.prog 30 #[vStore s A c, vPlan p B b U d, .slice E l.length f] w fun e w' => ∃ X x, e = .returned (.tuple #[.slice X (leaveR s p l).length x, .int .i64 (leaveE s p l)]) ∧ Vc.Own dI 3 w' w.heap.size no X x (leaveR s p l) ∧ w.grownBy w' none := by
  refine calls (G := G) (args := [vStore s A c, vPlan p B b U d, .slice E l.length f]) Try.func30 rfl rfl rfl ?_
  refine M.run rfl (M.nw rfl fun g3 w1 b3 e1 l1 => M.run rfl (M.nw rfl fun g4 w2 b4 e2 l2 => M.run rfl (M.nw rfl fun g5 w3 b5 e3 l3 => ?_)))
  have e03 := gr_trans (gr_trans e1 e2) e3
  replace b3 := (b3.mv0 e2).mv0 e3
  replace b4 := b4.mv0 e3
  refine M.run rfl (M.scope (fun _ _ _ h => h) (M.run rfl (M.ldA rfl rfl b3.cellsAll (M.run rfl (M.ldA rfl rfl b4.cellsAll (M.run rfl (M.ld rfl (b5.cell rfl rfl) (M.run rfl
    (M.cl rfl (dipped_go s p l A c B b U d E f w3 (hA.mv e03) (hB.mv e03) (hD.mv e03) (hE.mv e03)) ?_)))))))))
  rintro e w4 ⟨rfl, e4⟩
  have e04 := gr_trans e03 e4
  replace b3 := b3.mv0 e4
  replace b4 := b4.mv0 e4
  replace b5 := b5.mv0 e4
  refine ⟨_, rfl, M.run rfl (M.cond rfl (fun h => ?_) (fun h => ?_))⟩
  · have h' : dippedE s p l ≠ 0 := by simpa using h
    have hr2 : leaveR s p l = [] := by simp [leaveR, h']
    rw [hr2]
    exact M.run rfl (M.retF rfl rfl ⟨none, 0, rfl, Vc.Own.nil _ _ _ _ _, e04⟩)
  have h' : dippedE s p l = 0 := by simpa using h
  obtain ⟨hchk, hl6, hdip⟩ := dipped_check h'
  have hf := check_fine hchk
  refine M.run rfl (M.nw rfl fun g9 w5 b9 e5 l5 => M.run rfl (M.nw rfl fun g10 w6 b10 e6 l6 => M.run rfl (M.store rfl rfl b10 rfl rfl fun w7 b10' e7 => M.run rfl (M.label (M.run rfl ?_)))))
  have e57 : w5.grownBy w7 none := gr_fresh e6 e7 l6
  have e47 := gr_trans e5 e57
  have e07 := gr_trans e04 e47
  have hb : Boxes s p l A c B b U d E f g3 g4 g5 g9 g10 w7 := ⟨b3.mv0 e47, b4.mv0 e47, b5.mv0 e47, b10', _, b9.mv0 e57⟩
  have h9 : w.heap.size ≤ g9 := Nat.le_trans e04.size l5
  have hN : g9 < w7.heap.size := (b9.mv0 e57).lt
  refine M.ld rfl (hb.di.cell rfl rfl) (M.run rfl ?_)
  have hw1 : IntKind.i64.wrap ((l.length : Int) + 1) = ((l.length + 1 : Nat) : Int) := w64 (by omega) (by omega)
  refine M.loop (σ := Nat) (fun k => [(9, .pointer (some ⟨g9, 0, none⟩)), (10, .pointer (some ⟨g10, 0, none⟩)), (22, .int .i64 ((l.length + 1 : Nat) : Int)), (23, .int .i64 (k : Int))])
    (fun k w' => k ≤ l.length + 1 ∧ w7.grownBy w' (some g9) ∧ (∃ v, Blk w' g9 [v] 27) ∧ (List.range k).findSome? (fun m => leaveT s p l m [] 0) = none) (fun k => l.length + 1 - k) 0
    ⟨rfl, rfl, congrArg (fun z => some (Value.int .i64 z)) hw1, rfl, trivial⟩ ⟨Nat.zero_le _, gr_refl _ _, hb.fo, rfl⟩ ?_
  rintro k w8 ⟨hk, e8, hv8, hnone⟩
  have hb8 := hb.mv9 e8 hv8
  have e08 : w.grownBy w8 none := gr_fresh e07 e8 h9
  refine M.run rfl (M.cond rfl (fun h2 => ?_) (fun h2 => ?_))
  · have hlt : k < l.length + 1 := by have := of_decide_eq_true h2; omega
    refine M.run rfl (M.ld rfl (hb8.le.cell rfl rfl) (M.run rfl (M.cl rfl (leave1_go s p l A c B b U d E f g3 g4 g5 g9 g10 w w7.heap.size hA hB hD hE hf hl6 h9 hN e07.size k 0 [] none 0 w8 e08 e8.size hb8 (Vc.Own.nil _ _ _ _ _) (Nat.zero_le _) (Nat.le_refl _) (by omega)) ?_)))
    rintro e w9 ⟨rfl, e9, hv9, hr9⟩
    have e79 := gr_transR e8 e9
    have e09 : w.grownBy w9 none := gr_fresh e07 e79 h9
    have hsucc : (List.range (k + 1)).findSome? (fun m => leaveT s p l m [] 0) = leaveT s p l k [] 0 := by
      rw [List.range_succ, List.findSome?_append, hnone]
      simp
    refine ⟨_, rfl, M.run rfl (M.cond rfl (fun h3 => ?_) (fun h3 => ?_))⟩
    · obtain ⟨r, hr⟩ := Option.isSome_iff_exists.1 h3
      obtain ⟨X, x, bX, hX⟩ := hr9 r hr
      have hall : leaveS s p l = some r := by
        unfold leaveS
        have hsplit : l.length + 1 = (k + 1) + (l.length - k) := by omega
        rw [hsplit, List.range_add, List.findSome?_append, hsucc, hr]
        rfl
      have hR : leaveR s p l = r := by unfold leaveR; rw [if_pos h', hall]; rfl
      refine M.run rfl (M.ld rfl (bX.cell rfl rfl) (M.run rfl (M.retF rfl rfl ⟨X, x, ?_, ?_, e09⟩)))
      · rw [hR]; unfold leaveE; rw [h']; rfl
      · rw [hR]; exact hX.weaken e07.size (fun _ h => h)
    · have hn : leaveT s p l k [] 0 = none := by simpa using h3
      refine M.run rfl (M.end_ ⟨k + 1, ⟨rfl, rfl, rfl, ?_, trivial⟩, ⟨by omega, e79, hv9, by rw [hsucc, hn]⟩, by omega⟩)
      exact congrArg (fun z => some (Value.int .i64 z)) (w64 (by omega) (by omega))
  · have : k = l.length + 1 := by have := of_decide_eq_false h2; omega
    subst this
    have hs := leaveS_some hf l
    unfold leaveS at hs
    rw [hnone] at hs
    cases hs
end Go.Proofs.Ytaimlmfncjbmjaa
end

section
/- Walks: step, cheapest. -/
set_option linter.unusedVariables false
namespace Go.Proofs.Ytaimlmfncjbmjaa
open Go Go.Vc Go.RowKit Lp

/-- a function value that answers by F, in all worlds in which the map alone has been written -/
structure Fn1 (gm : Nat) (w0 : World) (n : Nat) (f : Nat) (fst cap : Array Value) (F : Nat → Int) : Prop where
  ok : (Nat.ble 3 f && Nat.blt f G.nf) = true
  go : ∀ i, i < n → ∀ w', w0.grownBy w' (some gm) → Calls Try.prog f (fst.toList ++ ([Value.int .i64 i] ++ cap.toList)).toArray w' fun e w'' => e = .returned (.int .i64 (F i)) ∧ w'.grownBy w'' none
structure Fn2 (gm : Nat) (w0 : World) (n : Nat) (f : Nat) (fst cap : Array Value) (L H : Nat → Int) (F : Nat → Int → Int) : Prop where
  ok : (Nat.ble 3 f && Nat.blt f G.nf) = true
  go : ∀ i, i < n → ∀ x, L i ≤ x → x ≤ H i → ∀ w', w0.grownBy w' (some gm) → Calls Try.prog f (fst.toList ++ ([Value.int .i64 i, Value.int .i64 x] ++ cap.toList)).toArray w' fun e w'' => e = .returned (.int .i64 (F i x)) ∧ w'.grownBy w'' none
structure FnP (gm : Nat) (w0 : World) (n : Nat) (f : Nat) (fst cap : Array Value) (L H : Nat → Int) (F F' : Nat → Int → Int) : Prop where
  ok : (Nat.ble 3 f && Nat.blt f G.nf) = true
  go : ∀ i, i < n → ∀ x, L i ≤ x → x ≤ H i → ∀ w', w0.grownBy w' (some gm) → Calls Try.prog f (fst.toList ++ ([Value.int .i64 i, Value.int .i64 x] ++ cap.toList)).toArray w' fun e w'' => e = .returned (.tuple #[.int .i64 (F i x), .int .i64 (F' i x)]) ∧ w'.grownBy w'' none

/-- all that the search leans on -/
structure Search (s : Store) (W : Wk) (A : Option Addr) (c : Nat) (gw gm : Nat) (wS w0 : World) (f1 f2 f3 f4 : Nat) (s1 c1 s2 c2 s3 c3 s4 c4 : Array Value) : Prop where
  ok : s.Ok
  wk : W.Ok s
  rd : Rd dNight wS A c s.nights
  old : wS.grownBy w0 none
  new : wS.heap.size ≤ gm
  box : Blk w0 gw [.int .i64 s.cap, .int .i64 s.can, .int .i64 s.lo, .int .i64 s.hi, .slice A s.nights.length c, .func (.func f1) s1 c1, .func (.func f2) s2 c2, .func (.func f3) s3 c3, .func (.func f4) s4 c4, .map (some gm)] 131
  low : Fn1 gm w0 s.nights.length f1 s1 c1 W.low
  high : Fn1 gm w0 s.nights.length f2 s2 c2 W.high
  cost : Fn2 gm w0 s.nights.length f3 s3 c3 W.low W.high W.cost
  does : FnP gm w0 s.nights.length f4 s4 c4 W.low W.high W.cans W.wicks
  nm : gm ≠ gw
  map : ∃ ms cl, w0.heap[gm]? = some (.map (encM .i64 ms) cl)

section
variable {s : Store} {W : Wk} {A : Option Addr} {c : Nat} {gw gm : Nat} {wS w0 : World} {f1 f2 f3 f4 : Nat} {s1 c1 s2 c2 s3 c3 s4 c4 : Array Value}
theorem Search.since (S : Search s W A c gw gm wS w0 f1 f2 f3 f4 s1 c1 s2 c2 s3 c3 s4 c4) {w : World} (e : w0.grownBy w (some gm)) : wS.grownBy w none := gr_fresh S.old e S.new
theorem Search.boxAt (S : Search s W A c gw gm wS w0 f1 f2 f3 f4 s1 c1 s2 c2 s3 c3 s4 c4) {w : World} (e : w0.grownBy w (some gm)) : Blk w gw [.int .i64 s.cap, .int .i64 s.can, .int .i64 s.lo, .int .i64 s.hi, .slice A s.nights.length c, .func (.func f1) s1 c1, .func (.func f2) s2 c2, .func (.func f3) s3 c3, .func (.func f4) s4 c4, .map (some gm)] 131 := S.box.mv1 e S.nm

set_option maxHeartbeats 1000000 in
theorem step_go (S : Search s W A c gw gm wS w0 f1 f2 f3 f4 s1 c1 s2 c2 s3 c3 s4 c4) (w : World) (ew : w0.grownBy w (some gm)) (i : Nat) (hi : i < s.nights.length) (oil x : Int) (ho : 0 ≤ oil ∧ oil ≤ 400) (h1 : W.low i ≤ x) (h2 : x ≤ W.high i) :
    Calls Try.prog 108 #[.pointer (some ⟨gw, 0, none⟩), .agg #[.int .i64 i, .int .i64 oil], .int .i64 x] w fun e w' => e = .returned (.tuple #[.agg #[.int .i64 ((i + 1 : Nat) : Int), .int .i64 (W.left s i oil x)], .bool (W.lit s i oil x)]) ∧ w.grownBy w' none := by
  have hc := S.wk.cans i hi x h1 h2
  have hw := S.wk.wicks i hi x h1 h2
  have hcan := S.ok.can
  have hcap := S.ok.cap
  have hn := S.ok.nt hi
  have hn6 := S.ok.few
  have hm := mul_bd hc ⟨Int.le_trans (by omega) hcan.1, hcan.2⟩ (by omega : (0 : Int) ≤ 2)
  have bw := S.boxAt ew
  refine calls (G := G) (args := [.pointer (some ⟨gw, 0, none⟩), .agg #[.int .i64 i, .int .i64 oil], .int .i64 x]) Try.func108 rfl rfl rfl ?_
  refine M.run rfl (M.nw rfl fun g4 w1 b4 e1 l1 => M.run rfl (M.nw rfl fun g6 w2 b6 e2 l2 => M.run rfl ?_))
  have e02 := gr_trans e1 e2
  have ew2 := gr_transR ew (gr_weak e02)
  refine M.quiet (by kernel_rfl) (LQ.run rfl (LQ.ld rfl (fun w' hw' => ((bw.mv0 e02).mv0 hw').cell rfl rfl) (LQ.run rfl (LQ.ld rfl (fun w' hw' => ((b4.mv0 e2).mv0 hw').cell rfl rfl) (LQ.run rfl
    (LQ.clGV rfl (calleeE_of S.does.ok) (fun w' hw' => S.does.go i hi x h1 h2 w' (gr_transR ew2 (gr_weak hw'))) (LQ.run rfl (LQ.nil fun w3 e3 => M.run rfl ?_))))))))
  have e03 := gr_trans e02 e3
  have ew3 := gr_transR ew (gr_weak e03)
  refine M.quiet (by kernel_rfl) (LQ.run rfl (LQ.ldA rfl rfl (fun w' hw' => (((bw.mv0 e03).mv0 hw').cells 0 rfl ⟨_, rfl⟩ : Cells _ _ [_, _, _, _, _])) (LQ.run rfl (LQ.ld rfl (fun w' hw' => (((b4.mv0 e2).mv0 e3).mv0 hw').cell rfl rfl) (LQ.run rfl (LQ.ld rfl (fun w' hw' => (((b4.mv0 e2).mv0 e3).mv0 hw').cell rfl rfl) (LQ.run rfl
    (LQ.clG rfl (fun w' hw' => least_go s A c i oil (W.cans i x) (W.wicks i x) w' (S.rd.mv (S.since (gr_transR ew3 (gr_weak hw')))) hi (by omega) (by omega) (by omega) (by omega) (by omega) (by omega)) (LQ.run rfl (LQ.nil fun w4 e4 => M.run rfl ?_))))))))))
  have e04 := gr_trans e03 e4
  refine M.ld rfl ((((b4.mv0 e2).mv0 e3).mv0 e4).cell rfl rfl) (M.run rfl (M.store rfl rfl ((b6.mv0 e3).mv0 e4) rfl rfl fun w5 b5 e5 => M.run rfl ?_))
  have hwr : IntKind.i64.wrap ((i : Int) + 1) = ((i + 1 : Nat) : Int) := w64 (by omega) (by omega)
  rw [← hwr]
  refine M.retC (.cellA rfl rfl rfl rfl (b5.cells 0 rfl ⟨[], rfl⟩ : Cells _ _ [_, _]) (.tmp rfl .nil)) ⟨rfl, gr_fresh e04 e5 (Nat.le_trans e1.size l2)⟩

theorem key155 : Key2 G.P 155 .i64 := ⟨_, _, 3, Try.underlying155, ⟨rfl, rfl, by decide⟩, ⟨rfl, rfl, by decide⟩, Try.underlying3, Try.stoodInHeld155⟩

/-- what the map knows -/
def Known (s : Store) (W : Wk) (a b : Int) (v : Value) : Prop := ∃ k, k ≤ s.nights.length ∧ a = ((s.nights.length - k : Nat) : Int) ∧ v = .int .i64 (W.cheap s k b)

set_option maxHeartbeats 2000000 in
theorem cheapest_go (S : Search s W A c gw gm wS w0 f1 f2 f3 f4 s1 c1 s2 c2 s3 c3 s4 c4) : ∀ (k : Nat), k ≤ s.nights.length → ∀ (w : World), w0.grownBy w (some gm) → MapOk .i64 (Known s W) w gm → ∀ (oil : Int), 0 ≤ oil ∧ oil ≤ 400 →
    Calls Try.prog 107 #[.pointer (some ⟨gw, 0, none⟩), .agg #[.int .i64 ((s.nights.length - k : Nat) : Int), .int .i64 oil]] w fun e w' => e = .returned (.int .i64 (W.cheap s k oil)) ∧ w.grownBy w' (some gm) ∧ MapOk .i64 (Known s W) w' gm := by
  have hn6 := S.ok.few
  intro k
  induction k with
  | zero =>
    intro hk w ew hM oil ho
    have bw := S.boxAt ew
    refine calls (G := G) (args := [.pointer (some ⟨gw, 0, none⟩), .agg #[.int .i64 ((s.nights.length - 0 : Nat) : Int), .int .i64 oil]]) Try.func107 rfl rfl rfl ?_
    refine M.run rfl (M.nw rfl fun g3 w1 b3 e1 l1 => M.run rfl (M.quiet (by kernel_rfl) (LQ.run rfl (LQ.ld rfl (fun w' hw' => (b3.mv0 hw').cell rfl rfl) (LQ.run rfl (LQ.ld rfl (fun w' hw' => ((bw.mv0 e1).mv0 hw').cell rfl rfl) (LQ.run rfl (LQ.nil fun w2 e2 => M.run rfl (M.condT rfl (by simp) (M.run rfl (M.retF rfl rfl ⟨rfl, gr_weak (gr_trans e1 e2), (hM.mv0 e1).mv0 e2⟩)))))))))))
  | succ k ih =>
    intro hk w ew hM oil ho
    have bw := S.boxAt ew
    obtain ⟨i, hi⟩ : ∃ i, i = s.nights.length - (k + 1) := ⟨_, rfl⟩
    have hin : i < s.nights.length := by omega
    have hi1 : s.nights.length - k = i + 1 := by omega
    rw [← hi]
    have ih' := ih (by omega)
    rw [hi1] at ih'
    have hlow := S.wk.low i hin
    have hcbd : ∀ o, -(100 * (k : Int)) ≤ W.cheap s k o ∧ W.cheap s k o ≤ never := Wk.cheap_bd S.wk hn6 k (by omega)
    have htry : ∀ m, m ≤ W.many i → -(100 * (k : Int) + 100) ≤ W.tryN s i oil (W.cheap s k) m ∧ W.tryN s i oil (W.cheap s k) m ≤ never := Wk.tryN_bd S.wk hin oil (b := 100 * (k : Int)) (by omega) (fun o => (hcbd o).1)
    have hcheap : W.cheap s (k + 1) oil = W.tryN s i oil (W.cheap s k) (W.many i) := by rw [Wk.cheap, ← hi]
    refine calls (G := G) (args := [.pointer (some ⟨gw, 0, none⟩), .agg #[.int .i64 (i : Int), .int .i64 oil]]) Try.func107 rfl rfl rfl ?_
    refine M.run rfl (M.nw rfl fun g3 w1 b3 e1 l1 => M.run rfl (M.quiet (by kernel_rfl) (LQ.run rfl (LQ.ld rfl (fun w' hw' => (b3.mv0 hw').cell rfl rfl) (LQ.run rfl (LQ.ld rfl (fun w' hw' => ((bw.mv0 e1).mv0 hw').cell rfl rfl) (LQ.run rfl (LQ.nil fun w2 e2 => M.run rfl (M.condF rfl ?_ (M.run rfl ?_))))))))))
    · show (((i : Int) == (s.nights.length : Int))) = false
      rw [beq_eq_false_iff_ne]; omega
    have e02 := gr_trans e1 e2
    have b3' := b3.mv0 e2
    have ew2 := gr_transR ew (gr_weak e02)
    have hM2 := hM.mv0 e02
    have bw2 := bw.mv0 e02
    refine M.drawG [] (by kernel_rfl) fun w3 e3 => ?_
    obtain ⟨v, ok, hv1, hv0, hlook⟩ := look_spec (G := G) (hM2.mv0 e3) Try.underlying127 key155 (ie := ⟨.int .i64, 1, .int .i64 0, 8⟩) rfl (i : Int) oil
    refine D.run rfl (D.ld 3 rfl rfl rfl rfl (fun w' hw' => ((bw2.mv0 e3).mv0 hw').cell rfl rfl) (D.ldA 4 rfl rfl rfl rfl rfl (fun w' hw' => ((b3'.mv0 e3).mv0 hw').cellsAll) (D.ys 5 rfl rfl rfl (hlook _ (fun w' hw' => ?_) rfl) (D.run rfl (D.done_ rfl (M.run rfl (M.cond rfl (fun h => ?_) (fun h => ?_))))))))
    · obtain ⟨ms, cl, h1, _⟩ := hM2.mv0 e3
      exact hw'.block gm (Array.getElem?_eq_some_iff.1 h1).1 (by simp)
    · obtain ⟨k', hk', ha, hv⟩ := hv1 h
      have : k' = k + 1 := by omega
      subst this
      subst hv
      exact M.run rfl (M.retF rfl rfl ⟨rfl, gr_weak (gr_trans e02 e3), hM2.mv0 e3⟩)
    have e03 := gr_trans e02 e3
    replace b3' := b3'.mv0 e3
    have ew3 := gr_transR ew (gr_weak e03)
    have bw3 := bw2.mv0 e3
    have hM3 := hM2.mv0 e3
    refine M.run rfl (M.quiet (by kernel_rfl) (LQ.run rfl (LQ.ld rfl (fun w' hw' => (bw3.mv0 hw').cell rfl rfl) (LQ.run rfl (LQ.ld rfl (fun w' hw' => (b3'.mv0 hw').cell rfl rfl) (LQ.run rfl
      (LQ.clGV rfl (calleeE_of S.low.ok) (fun w' hw' => S.low.go i hin w' (gr_transR ew3 (gr_weak hw'))) (LQ.run rfl (LQ.nil fun w4 e4 => M.run rfl ?_)))))))))
    have e04 := gr_trans e03 e4
    have b34 := b3'.mv0 e4
    have hM4 := hM3.mv0 e4
    have nm3 : gm ≠ g3 := hM4.ne b34
    have hg3 := b34.lt
    refine M.loop (σ := Nat) (fun m => [(0, .pointer (some ⟨gw, 0, none⟩)), (3, .pointer (some ⟨g3, 0, none⟩)), (5, .int .i64 (W.tryN s i oil (W.cheap s k) m)), (7, .int .i64 (W.low i + (m : Int)))])
      (fun m w' => m ≤ W.many i ∧ w4.grownBy w' (some gm) ∧ MapOk .i64 (Known s W) w' gm) (fun m => W.many i - m) 0 ⟨rfl, rfl, rfl, congrArg (fun z => some (Value.int .i64 z)) (by simp), trivial⟩ ⟨Nat.zero_le _, gr_refl _ _, hM4⟩ ?_
    rintro m w5 ⟨hm, e5, hM5⟩
    have ew5 : w0.grownBy w5 (some gm) := gr_transR (gr_transR ew (gr_weak e04)) e5
    have bw5 := S.boxAt ew5
    have b35 := b34.mv1 e5 nm3
    refine M.run rfl (M.quiet (by kernel_rfl) (LQ.run rfl (LQ.ld rfl (fun w' hw' => (bw5.mv0 hw').cell rfl rfl) (LQ.run rfl (LQ.ld rfl (fun w' hw' => (b35.mv0 hw').cell rfl rfl) (LQ.run rfl
      (LQ.clGV rfl (calleeE_of S.high.ok) (fun w' hw' => S.high.go i hin w' (gr_transR ew5 (gr_weak hw'))) (LQ.run rfl (LQ.nil fun w6 e6 => M.run rfl (M.cond rfl (fun h2 => ?_) (fun h2 => ?_)))))))))))
    · have h2' := of_decide_eq_true h2
      have hmlt : m < W.many i := by unfold Wk.many; omega
      have hx := S.wk.many hin hmlt
      have ew6 := gr_transR ew5 (gr_weak e6)
      have hleft := Wk.left_bd S.ok S.wk hin ho hx.1 hx.2
      have hcost := S.wk.cost i hin _ hx.1 hx.2
      have hcb := hcbd (W.left s i oil (W.low i + (m : Int)))
      have ht := htry m hm
      have hnext : some (Value.int .i64 (IntKind.i64.wrap (W.low i + (m : Int) + 1))) = some (Value.int .i64 (W.low i + ((m + 1 : Nat) : Int))) := congrArg (fun z => some (Value.int .i64 z)) (by rw [w64 (by omega) (by omega)]; omega)
      have hsucc := Wk.tryN_succ W s i oil (W.cheap s k) m
      refine M.run rfl (M.ldA rfl rfl (b35.mv0 e6).cellsAll (M.run rfl (M.cl rfl (step_go S w6 ew6 i hin oil (W.low i + (m : Int)) ho hx.1 hx.2) ?_)))
      rintro e w7 ⟨rfl, e7⟩
      refine ⟨_, rfl, M.run rfl (M.nw rfl fun g8 w8 b8 e8 l8 => M.run rfl (M.store rfl rfl b8 rfl rfl fun w9 b9 e9 => M.run rfl (M.cond rfl (fun h3 => ?_) (fun h3 => ?_))))⟩
      · have e79 : w7.grownBy w9 none := gr_fresh e8 e9 l8
        have e69 := gr_trans e7 e79
        have e59 := gr_trans e6 e69
        have ew9 := gr_transR ew5 (gr_weak e59)
        have hM9 := hM5.mv0 e59
        have bw9 := S.boxAt ew9
        have b39 := b35.mv0 e59
        have n8 : gm ≠ g8 := hM9.ne b9
        rw [if_pos h3] at hsucc
        refine M.run rfl (M.draw (fun w w' => w.grownBy w' (some gm)) (fun _ _ => True) [] [] [] (fun _ _ _ h => h) (fun w => gr_refl w _) (fun a b c h k => gr_transR h k) (fun _ _ _ => trivial) (fun _ _ _ _ _ => trivial) (by kernel_rfl) ?_)
        have ed := gr_drewN w9 1
        refine D.run rfl (D.ld 4 rfl rfl rfl rfl (fun w' hw' => ((bw9.mv0 ed).mv1 hw' S.nm).cell rfl rfl) (D.ld 6 rfl rfl rfl rfl (fun w' hw' => ((b39.mv0 ed).mv1 hw' nm3).cell rfl rfl) (D.ldA 10 rfl rfl rfl rfl rfl (fun w' hw' => ((b9.mv0 ed).mv1 hw' n8).cellsAll) ?_)))
        refine D.one 8 rfl rfl (M.clV rfl (calleeE_of S.cost.ok) (S.cost.go i hin _ hx.1 hx.2 _ (gr_transR ew9 (gr_weak ed))) ?_)
        rintro e w10 ⟨rfl, e10⟩
        have e9a := gr_trans ed e10
        refine ⟨_, rfl, M.run rfl (M.end_ ⟨.inr (gr_weak e10), D.one 11 rfl rfl (M.cl rfl (ih' w10 (gr_transR ew9 (gr_weak e9a)) (hM9.mv0 e9a) _ hleft) ?_)⟩)⟩
        rintro e w11 ⟨rfl, e11, hM11⟩
        refine ⟨_, rfl, M.run rfl (M.end_ ⟨.inr e11, D.run rfl (D.one 13 rfl rfl (M.bs rfl fun ga wa ba ea la => M.run rfl (M.end_ ⟨.inr (gr_weak ea), ?_⟩)))⟩)⟩
        refine D.one 14 rfl rfl (M.cl rfl (minimum_go [W.tryN s i oil (W.cheap s k) m, IntKind.i64.wrap (W.cost i (W.low i + (m : Int)) + W.cheap s k (W.left s i oil (W.low i + (m : Int))))] _ _ wa (rd_lit ba [W.tryN s i oil (W.cheap s k) m, IntKind.i64.wrap (W.cost i (W.low i + (m : Int)) + W.cheap s k (W.left s i oil (W.low i + (m : Int))))] rfl (by simp [maxLen])) (by simp)) ?_)
        rintro e wb ⟨rfl, eb⟩
        refine ⟨_, rfl, M.run rfl (M.end_ ⟨.inr (gr_weak eb), D.run rfl (D.done_ rfl (M.run rfl (M.end_ ⟨m + 1, ⟨rfl, rfl, ?_, hnext, trivial⟩, ⟨by omega, ?_, (hM11.mv0 ea).mv0 eb⟩, by omega⟩)))⟩)⟩
        · refine congrArg (fun z => some (Value.int .i64 z)) ?_
          have hnv : never = 1048576 := rfl
          rw [hsucc, w64 (by omega) (by omega)]
          rfl
        · exact gr_transR (gr_transR (gr_transR e5 (gr_weak (gr_trans e59 e9a))) e11) (gr_weak (gr_trans ea eb))
      · have e79 : w7.grownBy w9 none := gr_fresh e8 e9 l8
        have e59 := gr_trans e6 (gr_trans e7 e79)
        rw [if_neg (by rw [h3]; simp)] at hsucc
        refine M.run rfl (M.end_ ⟨m + 1, ⟨rfl, rfl, ?_, hnext, trivial⟩, ⟨by omega, gr_transR e5 (gr_weak e59), hM5.mv0 e59⟩, by omega⟩)
        rw [hsucc]; rfl
    · have h2' := of_decide_eq_false h2
      have hmm : m = W.many i := by unfold Wk.many at hm ⊢; omega
      subst hmm
      have b36 := b35.mv0 e6
      have bw6 := bw5.mv0 e6
      have hM6 := hM5.mv0 e6
      refine M.run rfl (M.drawG [6] (by kernel_rfl) fun w7 e7 => ?_)
      refine D.run rfl (D.ld 3 rfl rfl rfl rfl (fun w' hw' => ((bw6.mv0 e7).mv0 hw').cell rfl rfl) (D.ldA 4 rfl rfl rfl rfl rfl (fun w' hw' => ((b36.mv0 e7).mv0 hw').cellsAll) ?_))
      refine D.one 6 rfl rfl (M.mapUp (T := Known s W) rfl (hM6.mv0 e7) Try.underlying127 key155 ⟨k + 1, hk, by rw [hi], by rw [hcheap]⟩ fun w8 hM8 e8 => M.run rfl (M.end_ ⟨.inl ⟨rfl, trivial⟩, D.done_ rfl (M.run rfl (M.retF rfl rfl ⟨by rw [hcheap]; rfl, ?_, hM8⟩))⟩))
      exact gr_transR (gr_transR (gr_transR (gr_weak e04) e5) (gr_weak (gr_trans e6 e7))) e8
end
end Go.Proofs.Ytaimlmfncjbmjaa
end

section
/- Walk: best. -/
set_option linter.unusedVariables false
namespace Go.Vc
theorem gr_freshR {w w1 w2 : World} {g : Nat} {r : Option Nat} (h : w.grownBy w1 r) (k : w1.grownBy w2 (some g)) (hg : w.heap.size ≤ g) : w.grownBy w2 r :=
  ⟨k.os.trans h.os, k.tape.trans h.tape, k.output.trans h.output, Nat.le_trans h.size k.size, fun i hi hr => (k.block i (Nat.lt_of_lt_of_le hi h.size) (fun e => by injection e with e; omega)).trans (h.block i hi hr)⟩
theorem gr_newR {w w1 w2 : World} {q r : Option Nat} (h : w.grownBy w1 r) (k : w1.grownBy w2 q) (hq : ∀ g, q = some g → w.heap.size ≤ g) : w.grownBy w2 r := by
  cases q with
  | none => exact gr_transR h (gr_weak k)
  | some g => exact gr_freshR h k (hq g rfl)
end Go.Vc
namespace Go.Proofs.Ytaimlmfncjbmjaa
open Go Go.Vc Go.RowKit Lp
section
variable {s : Store} {W : Wk} {A : Option Addr} {c : Nat} {gw gm : Nat} {wS w0 : World} {f1 f2 f3 f4 : Nat} {s1 c1 s2 c2 s3 c3 s4 c4 : Array Value}

set_option maxHeartbeats 4000000 in
theorem best_go (S : Search s W A c gw gm wS w0 f1 f2 f3 f4 s1 c1 s2 c2 s3 c3 s4 c4) (hM0 : MapOk .i64 (Known s W) w0 gm) :
    Calls Try.prog 82 #[.pointer (some ⟨gw, 0, none⟩)] w0 fun e w' => ∃ X x, e = .returned (.tuple #[.slice X (W.best s).length x, .int .i64 (W.bestC s), .bool (W.found s)]) ∧ Vc.Own dI 3 w' w0.heap.size no X x (W.best s) ∧ w0.grownBy w' (some gm) := by
  have hn6 := S.ok.few
  have hst := S.ok.start
  have hcap := S.ok.cap
  have bw := S.box
  refine calls (G := G) (args := [.pointer (some ⟨gw, 0, none⟩)]) Try.func82 rfl rfl rfl ?_
  refine M.run rfl (M.ld rfl (bw.cell rfl rfl) (M.run rfl (M.nw rfl fun g5 w1 b5 e1 l1 => M.run rfl (M.store rfl rfl b5 rfl rfl fun w2 b5' e2 => M.run rfl (M.ldA rfl rfl b5'.cellsAll (M.run rfl ?_))))))
  have e02 : w0.grownBy w2 none := gr_fresh e1 e2 l1
  have hc := cheapest_go S s.nights.length (Nat.le_refl _) w2 (gr_weak e02) (hM0.mv0 e02) s.lo ⟨by omega, by omega⟩
  rw [Nat.sub_self] at hc
  refine M.cl rfl hc ?_
  rintro e w3 ⟨rfl, e3, hM3⟩
  have e03 : w0.grownBy w3 (some gm) := gr_transR (gr_weak e02) e3
  have n5 : gm ≠ g5 := (hM0.mv0 e02).ne b5'
  have b53 := b5'.mv1 e3 n5
  refine ⟨_, rfl, M.run rfl (M.cond rfl (fun h => ?_) (fun h => ?_))⟩
  · have h' : 524288 ≤ W.cheap s s.nights.length s.lo := of_decide_eq_true h
    have hf : W.found s = false := by unfold Wk.found; simp; omega
    have hb : W.best s = [] := by unfold Wk.best; rw [hf]; rfl
    have hbc : W.bestC s = 0 := by unfold Wk.bestC; rw [hf]; rfl
    rw [hf, hb, hbc]
    exact M.run rfl (M.retF rfl rfl ⟨none, 0, rfl, Vc.Own.nil _ _ _ _ _, e03⟩)
  have h' : ¬ 524288 ≤ W.cheap s s.nights.length s.lo := of_decide_eq_false h
  have hf : W.found s = true := by unfold Wk.found; simp; omega
  have hb : W.best s = W.picks s s.nights.length s.lo := by unfold Wk.best; rw [hf]; rfl
  have hbc : W.bestC s = W.cheap s s.nights.length s.lo := by unfold Wk.bestC; rw [hf]; rfl
  rw [hf, hb, hbc]
  refine M.run rfl ?_
  refine M.loop (σ := Nat × Int × Option Addr × Nat × List Int)
    (fun (k, oil, X, x, outs) => [(0, .pointer (some ⟨gw, 0, none⟩)), (2, .slice X outs.length x), (3, .int .i64 (W.cheap s s.nights.length s.lo)), (5, .pointer (some ⟨g5, 0, none⟩)), (6, .int .i64 (W.cheap s k oil))])
    (fun (k, oil, X, x, outs) w' => k ≤ s.nights.length ∧ (0 ≤ oil ∧ oil ≤ 400) ∧ W.cheap s k oil ≤ 524287 + 100 * ((s.nights.length - k : Nat) : Int) ∧ outs ++ W.picks s k oil = W.picks s s.nights.length s.lo ∧ outs.length = s.nights.length - k ∧
      w0.grownBy w' (some gm) ∧ w3.heap.size ≤ w'.heap.size ∧ MapOk .i64 (Known s W) w' gm ∧ Blk w' g5 [.int .i64 ((s.nights.length - k : Nat) : Int), .int .i64 oil] 155 ∧ Vc.Own dI 3 w' w3.heap.size no X x outs)
    (fun (k, _) => k) (s.nights.length, s.lo, none, 0, []) ⟨rfl, rfl, rfl, rfl, rfl, trivial⟩
    ⟨Nat.le_refl _, ⟨by omega, by omega⟩, by omega, rfl, by simp, e03, Nat.le_refl _, hM3, by rw [Nat.sub_self]; exact b53, Vc.Own.nil _ _ _ _ _⟩ ?_
  rintro ⟨k, oil, X, x, outs⟩ w4 ⟨hk, ho, hbd, hpk, hol, e04, hsz4, hM4, b54, hX⟩
  have bw4 := S.boxAt e04
  refine M.run rfl (M.quiet (by kernel_rfl) (LQ.run rfl (LQ.ld rfl (fun w' hw' => (b54.mv0 hw').cell rfl rfl) (LQ.run rfl (LQ.ld rfl (fun w' hw' => (bw4.mv0 hw').cell rfl rfl) (LQ.run rfl (LQ.nil fun w5 e5 => M.run rfl (M.cond rfl (fun h2 => ?_) (fun h2 => ?_)))))))))
  · have h2' := of_decide_eq_true h2
    obtain ⟨k, rfl⟩ : ∃ k', k = k' + 1 := ⟨k - 1, by omega⟩
    obtain ⟨i, hi⟩ : ∃ i, i = s.nights.length - (k + 1) := ⟨_, rfl⟩
    have hin : i < s.nights.length := by omega
    have hi1 : s.nights.length - k = i + 1 := by omega
    rw [← hi] at b54 hol hbd
    have hnv : never = 1048576 := rfl
    have hcheap : W.cheap s (k + 1) oil = W.tryN s i oil (W.cheap s k) (W.many i) := by rw [Wk.cheap, ← hi]
    have hlt : W.tryN s i oil (W.cheap s k) (W.many i) < never := by rw [← hcheap]; omega
    obtain ⟨hfl, hff, hfb⟩ := Wk.first_spec hlt
    rw [← hcheap] at hfl hff hfb
    have hlow := S.wk.low i hin
    have hcbd : ∀ o, -(100 * (k : Int)) ≤ W.cheap s k o ∧ W.cheap s k o ≤ never := Wk.cheap_bd S.wk hn6 k (by omega)
    have hcbd1 := Wk.cheap_bd S.wk hn6 (k + 1) (by omega) oil
    have hpicks : W.picks s (k + 1) oil = (W.low i + (W.first s i oil (W.cheap s k) (W.cheap s (k + 1) oil) : Int)) :: W.picks s k (W.left s i oil (W.low i + (W.first s i oil (W.cheap s k) (W.cheap s (k + 1) oil) : Int))) := by
      show _ = _
      rw [Wk.picks, ← hi]
    have e05 := gr_transR e04 (gr_weak e5)
    have b55 := b54.mv0 e5
    have bw5 := bw4.mv0 e5
    refine M.run rfl (M.quiet (by kernel_rfl) (LQ.run rfl (LQ.ld rfl (fun w' hw' => (bw5.mv0 hw').cell rfl rfl) (LQ.run rfl (LQ.ld rfl (fun w' hw' => (b55.mv0 hw').cell rfl rfl) (LQ.run rfl
      (LQ.clGV rfl (calleeE_of S.low.ok) (fun w' hw' => S.low.go i hin w' (gr_transR e05 (gr_weak hw'))) (LQ.run rfl (LQ.nil fun w6 e6 => M.run rfl ?_)))))))))
    have e06 := gr_transR e05 (gr_weak e6)
    have hM6 := (hM4.mv0 e5).mv0 e6
    have b56 := b55.mv0 e6
    have hX6 := (hX.mv0 e5).mv0 e6
    have n5' : gm ≠ g5 := n5
    refine M.loop (σ := Nat) (fun m => [(0, .pointer (some ⟨gw, 0, none⟩)), (2, .slice X outs.length x), (3, .int .i64 (W.cheap s s.nights.length s.lo)), (5, .pointer (some ⟨g5, 0, none⟩)), (6, .int .i64 (W.cheap s (k + 1) oil)), (7, .int .i64 (W.low i + (m : Int)))])
      (fun m w' => m ≤ W.many i ∧ (∀ j, j < m → W.fits s i oil (W.cheap s k) (W.cheap s (k + 1) oil) j = false) ∧ w6.grownBy w' (some gm) ∧ MapOk .i64 (Known s W) w' gm) (fun m => W.many i - m) 0
      ⟨rfl, rfl, rfl, rfl, rfl, congrArg (fun z => some (Value.int .i64 z)) (by simp), trivial⟩ ⟨Nat.zero_le _, fun j h => by omega, gr_refl _ _, hM6⟩ ?_
    rintro m w7 ⟨hm, hnf, e67, hM7⟩
    have hgm : gm < w3.heap.size := by
      obtain ⟨ms, cl, hmm⟩ := S.map
      have := (Array.getElem?_eq_some_iff.1 hmm).1
      exact Nat.lt_of_lt_of_le this e03.size
    have e07 := gr_transR e06 e67
    have b57 := b56.mv1 e67 n5
    have bw7 := S.boxAt e07
    have hX7 := hX6.mvOld e67 hgm
    refine M.run rfl (M.quiet (by kernel_rfl) (LQ.run rfl (LQ.ld rfl (fun w' hw' => (bw7.mv0 hw').cell rfl rfl) (LQ.run rfl (LQ.ld rfl (fun w' hw' => (b57.mv0 hw').cell rfl rfl) (LQ.run rfl
      (LQ.clGV rfl (calleeE_of S.high.ok) (fun w' hw' => S.high.go i hin w' (gr_transR e07 (gr_weak hw'))) (LQ.run rfl (LQ.nil fun w8 e8 => M.run rfl (M.cond rfl (fun h3 => ?_) (fun h3 => ?_)))))))))))
    · have h3' := of_decide_eq_true h3
      have hmlt : m < W.many i := by unfold Wk.many; omega
      have hx := S.wk.many hin hmlt
      have e08 := gr_transR e07 (gr_weak e8)
      have b58 := b57.mv0 e8
      have hM8 := hM7.mv0 e8
      have hX8 := hX7.mv0 e8
      have hleft := Wk.left_bd S.ok S.wk hin ho hx.1 hx.2
      have hcost := S.wk.cost i hin _ hx.1 hx.2
      have hcb := hcbd (W.left s i oil (W.low i + (m : Int)))
      have hnext : some (Value.int .i64 (IntKind.i64.wrap (W.low i + (m : Int) + 1))) = some (Value.int .i64 (W.low i + ((m + 1 : Nat) : Int))) := congrArg (fun z => some (Value.int .i64 z)) (by rw [w64 (by omega) (by omega)]; omega)
      have hsum : IntKind.i64.wrap (W.cost i (W.low i + (m : Int)) + W.cheap s k (W.left s i oil (W.low i + (m : Int)))) = W.cost i (W.low i + (m : Int)) + W.cheap s k (W.left s i oil (W.low i + (m : Int))) := w64 (by omega) (by omega)
      refine M.run rfl (M.ldA rfl rfl b58.cellsAll (M.run rfl (M.cl rfl (step_go S w8 e08 i hin oil (W.low i + (m : Int)) ho hx.1 hx.2) ?_)))
      rintro e w9 ⟨rfl, e9⟩
      refine ⟨_, rfl, M.run rfl (M.nw rfl fun g8 wa b8 ea l8 => M.run rfl (M.store rfl rfl b8 rfl rfl fun wb b8' eb => M.run rfl ?_))⟩
      have e9b : w9.grownBy wb none := gr_fresh ea eb l8
      have e8b := gr_trans e9 e9b
      have e0b := gr_transR e08 (gr_weak e8b)
      have b5b := b58.mv0 e8b
      have hMb := hM8.mv0 e8b
      have hXb := hX8.mv0 e8b
      have bwb := S.boxAt e0b
      have n8 : gm ≠ g8 := hMb.ne b8'
      have hg8 : w3.heap.size ≤ g8 := Nat.le_trans (Nat.le_trans (Nat.le_trans hsz4 (Nat.le_trans e5.size (Nat.le_trans e6.size (Nat.le_trans e67.size e8.size)))) e9.size) l8
      -- whether it fits
      refine M.cutC (σ := Bool) (fun fit => [(0, .pointer (some ⟨gw, 0, none⟩)), (2, .slice X outs.length x), (3, .int .i64 (W.cheap s s.nights.length s.lo)), (5, .pointer (some ⟨g5, 0, none⟩)), (6, .int .i64 (W.cheap s (k + 1) oil)), (7, .int .i64 (W.low i + (m : Int))), (8, .pointer (some ⟨g8, 0, none⟩)), (73, .bool fit)])
        (fun fit w' => fit = W.fits s i oil (W.cheap s k) (W.cheap s (k + 1) oil) m ∧ wb.grownBy w' (some gm) ∧ MapOk .i64 (Known s W) w' gm) ?_ ?_ post_weak
      · refine M.draw (fun w w' => w.grownBy w' (some gm)) (fun _ _ => True) [] [] [] (fun _ _ _ h => h) (fun w => gr_refl w _) (fun a b c h k => gr_transR h k) (fun _ _ _ => trivial) (fun _ _ _ _ _ => trivial) (by kernel_rfl) ?_
        have ed := gr_drewN wb 1
        refine D.at_ [58] rfl (D.case 58 rfl (fun h4 => ?_) (fun h4 => ?_))
        · refine D.run rfl (D.ld 5 rfl rfl rfl rfl (fun w' hw' => ((bwb.mv0 ed).mv1 hw' S.nm).cell rfl rfl) (D.ld 7 rfl rfl rfl rfl (fun w' hw' => ((b5b.mv0 ed).mv1 hw' n5).cell rfl rfl) (D.ldA 11 rfl rfl rfl rfl rfl (fun w' hw' => ((b8'.mv0 ed).mv1 hw' n8).cellsAll) ?_)))
          refine D.one 9 rfl rfl (M.clV rfl (calleeE_of S.cost.ok) (S.cost.go i hin _ hx.1 hx.2 _ (gr_transR e0b (gr_weak ed))) ?_)
          rintro e wc ⟨rfl, ec⟩
          have ebc := gr_trans ed ec
          have hc2 := cheapest_go S k (by omega) wc (gr_transR e0b (gr_weak ebc)) (hMb.mv0 ebc) _ hleft
          rw [hi1] at hc2
          refine ⟨_, rfl, M.run rfl (M.end_ ⟨.inr (gr_weak ec), D.one 12 rfl rfl (M.cl rfl hc2 ?_)⟩)⟩
          rintro e wd ⟨rfl, ed2, hMd⟩
          refine ⟨_, rfl, M.run rfl (M.end_ ⟨.inr ed2, D.run rfl (D.done_ rfl (M.run rfl (M.end_ ⟨_, ⟨rfl, rfl, rfl, rfl, rfl, rfl, rfl, rfl, trivial⟩, ?_, gr_transR (gr_weak ebc) ed2, hMd⟩)))⟩)⟩
          unfold Wk.fits
          rw [h4, hsum]; rfl
        · refine D.run rfl (D.done_ rfl (M.run rfl (M.end_ ⟨_, ⟨rfl, rfl, rfl, rfl, rfl, rfl, rfl, rfl, trivial⟩, ?_, gr_weak ed, hMb.mv0 ed⟩)))
          unfold Wk.fits
          rw [h4]; rfl
      · rintro fit wc ⟨hfit, ebc, hMc⟩
        have e0c := gr_transR e0b ebc
        have b5c := b5b.mv1 ebc n5
        have b8c := b8'.mv1 ebc n8
        have hXc := hXb.mvOld ebc hgm
        have bwc := S.boxAt e0c
        have hszc : w3.heap.size ≤ wc.heap.size := Nat.le_trans hg8 (Nat.le_of_lt b8c.lt)
        have e6c : w6.grownBy wc (some gm) := gr_transR (gr_transR e67 (gr_weak (gr_trans e8 e8b))) ebc
        refine M.run rfl (M.cond rfl (fun h4 => ?_) (fun h4 => ?_))
        · rw [h4] at hfit
          have hfs : W.first s i oil (W.cheap s k) (W.cheap s (k + 1) oil) = m := by
            rcases Nat.lt_trichotomy (W.first s i oil (W.cheap s k) (W.cheap s (k + 1) oil)) m with h | h | h
            · have := hnf _ h; rw [hff] at this; cases this
            · exact h
            · have := hfb m h; rw [← hfit] at this; cases this
          have hpay : W.cost i (W.low i + (m : Int)) + W.cheap s k (W.left s i oil (W.low i + (m : Int))) = W.cheap s (k + 1) oil := by
            have := hfit.symm
            unfold Wk.fits at this
            rw [Bool.and_eq_true] at this
            simpa using this.2
          have hsub : IntKind.i64.wrap (W.cheap s (k + 1) oil - W.cost i (W.low i + (m : Int))) = W.cheap s k (W.left s i oil (W.low i + (m : Int))) := by rw [w64 (by omega) (by omega)]; omega
          have hXg : ∀ g, blkOf X = some g → w3.heap.size ≤ g ∧ g < wc.heap.size := hXc.blkGe
          have xw : blkOf X ≠ some gw := fun h => by have h1 := (hXg gw h).1; have h2 := S.box.lt; have := e03.size; omega
          have x5 : blkOf X ≠ some g5 := fun h => by have h1 := (hXg g5 h).1; have h2 := b53.lt; omega
          have x8 : blkOf X ≠ some g8 := fun h => by
            have h1 := (hXb.blkGe g8 h)
            have h2 := (hX8.blkGe g8 h).2
            have := e9.size
            omega
          refine M.run rfl (M.draw (fun w w' => w.grownBy w' (blkOf X)) (fun _ _ => True) [17] [] [] (fun _ _ _ h => h) (fun w => gr_refl w _) (fun a b c h k => gr_transR h k) (fun _ _ _ => trivial) (fun _ _ _ _ _ => trivial) (by kernel_rfl) ?_)
          have ed := gr_drewN wc 1
          refine D.run rfl (D.ld 8 rfl rfl rfl rfl (fun w' hw' => ((bwc.mv0 ed).mv hw' xw).cell rfl rfl) (D.ld 10 rfl rfl rfl rfl (fun w' hw' => ((b5c.mv0 ed).mv hw' x5).cell rfl rfl) (D.ldA 14 rfl rfl rfl rfl rfl (fun w' hw' => ((b8c.mv0 ed).mv hw' x8).cellsAll) ?_)))
          have hXd := hXc.mv0 ed
          have hnewX : ∀ g, blkOf X = some g → w0.heap.size ≤ g := fun g hg => Nat.le_trans e03.size (hXg g hg).1
          have hszd : w3.heap.size ≤ (wc.drewN 1).heap.size := Nat.le_trans hszc ed.size
          have hoi : outs.length = i := by rw [hol]
          have hcostAt : ∀ w', (wc.drewN 1).grownBy w' (blkOf X) → Calls Try.prog f3 (s3.toList ++ ([Value.int .i64 i, Value.int .i64 (W.low i + (m : Int))] ++ c3.toList)).toArray w' fun e w'' => e = .returned (.int .i64 (W.cost i (W.low i + (m : Int)))) ∧ w'.grownBy w'' none :=
            fun w' hw' => S.cost.go i hin _ hx.1 hx.2 w' (gr_newR (gr_transR e0c (gr_weak ed)) hw' hnewX)
          refine D.meet (σ := Option Addr × Nat) 4 [12, 3, 2, 14, 10, 8, 0, 1, 4, 5, 6, 7, 9, 11]
            (fun (X', x') => [(77, .slice X' (outs ++ [W.low i + (m : Int)]).length x'), (78, .int .i64 (W.cheap s (k + 1) oil)), (86, .int .i64 (W.cost i (W.low i + (m : Int)))), (88, .agg #[.int .i64 ((i + 1 : Nat) : Int), .int .i64 (W.left s i oil (W.low i + (m : Int)))]), (0, .pointer (some ⟨gw, 0, none⟩)), (3, .int .i64 (W.cheap s s.nights.length s.lo)), (5, .pointer (some ⟨g5, 0, none⟩))])
            (fun (X', x') w' => (wc.drewN 1).grownBy w' (blkOf X) ∧ Vc.Own dI 3 w' w3.heap.size no X' x' (outs ++ [W.low i + (m : Int)])) (fun hcont => ?_) ?_
          rotate_left
          · rintro ⟨X', x'⟩ wd ⟨ecd, hX'⟩
            have e0d := gr_newR (gr_transR e0c (gr_weak ed)) ecd hnewX
            have b5d := (b5c.mv0 ed).mv ecd x5
            have hMd := (hMc.mv0 ed).mv ecd (fun h => by have := (hXg gm h).1; omega)
            refine D.run rfl (D.one 17 rfl rfl (M.store rfl rfl b5d rfl rfl fun we be ee => M.run rfl (M.end_ ⟨.inl ⟨rfl, trivial⟩, D.done_ rfl (M.run rfl (M.end_
              ⟨(k, W.left s i oil (W.low i + (m : Int)), X', x', outs ++ [W.low i + (m : Int)]), ⟨rfl, rfl, rfl, rfl, ?_, trivial⟩, ⟨by omega, hleft, ?_, ?_, ?_, ?_, ?_, ?_, ?_, ?_⟩, by show k < k + 1; omega⟩))⟩)))
            · exact congrArg (fun z => some (Value.int .i64 z)) hsub
            · omega
            · rw [← hpk, hpicks, hfs]; simp
            · simp; omega
            · exact gr_newR e0d ee (fun g hg => by cases hg; exact l1)
            · exact Nat.le_trans hszd (Nat.le_trans ecd.size ee.size)
            · exact hMd.mv ee (fun h => n5 (by injection h with h; exact h.symm))
            · rw [hi1]; exact be
            · exact hX'.mvOld ee b53.lt
          refine D.one 2 rfl rfl (M.bs rfl fun ga wd ba e_a la => M.run rfl (M.end_ ⟨.inr (gr_weak e_a), D.one 3 rfl rfl ?_⟩))
          refine M.app (d := dI) rfl rfl (hXd.mv0 e_a) rfl (by decide) rfl (ys := [W.low i + (m : Int)]) rfl rfl (src_one ba rfl) (Nat.le_trans hszd e_a.size) (by simp; omega) (by decide) fun X' x' we hXe ee hat => M.run rfl (M.end_ ⟨.inr ee, D.one 12 rfl rfl (M.clV rfl (calleeE_of S.cost.ok) (hcostAt we (gr_transR (gr_weak e_a) ee)) ?_)⟩)
          rintro e wf ⟨rfl, ef⟩
          refine ⟨_, rfl, M.run rfl (M.end_ ⟨.inr (gr_weak ef), D.weak rfl ?_ (hcont (X', x') wf ⟨gr_transR (gr_transR (gr_weak e_a) ee) (gr_weak ef), hXe.mv0 ef⟩)⟩)⟩
          exact ⟨rfl, rfl, rfl, rfl, rfl, rfl, rfl, trivial⟩
        · rw [h4] at hfit
          refine M.run rfl (M.end_ ⟨m + 1, ⟨rfl, rfl, rfl, rfl, rfl, hnext, trivial⟩, ⟨by omega, fun j hj => ?_, e6c, hMc⟩, by omega⟩)
          by_cases hjm : j = m
          · subst hjm; exact hfit.symm
          · exact hnf j (by omega)
    · have h3' := of_decide_eq_false h3
      exfalso
      have := hnf (W.first s i oil (W.cheap s k) (W.cheap s (k + 1) oil)) (by unfold Wk.many at hfl; omega)
      rw [hff] at this
      cases this
  · have h2' := of_decide_eq_false h2
    have hk0 : k = 0 := by omega
    subst hk0
    have hout : outs = W.picks s s.nights.length s.lo := by rw [← hpk]; simp [Wk.picks]
    refine M.run rfl (M.retF rfl rfl ⟨X, x, ?_, ?_, gr_transR e04 (gr_weak e5)⟩)
    · rw [← hout]; rfl
    · rw [← hout]; exact (hX.mv0 e5).weaken e03.size (fun _ h => h)
end
end Go.Proofs.Ytaimlmfncjbmjaa
end

section
/- Walks: Deliver, Trim. -/
set_option linter.unusedVariables false
namespace Go.Proofs.Ytaimlmfncjbmjaa
open Go Go.Vc Go.RowKit Lp

theorem d1_go (i : Int) (w : World) : Calls Try.prog 78 #[.int .i64 i] w fun e w' => e = .returned (.int .i64 0) ∧ w.grownBy w' none := by
  refine calls (G := G) (args := [.int .i64 i]) Try.func78 rfl rfl rfl ?_
  exact M.run rfl (M.retF rfl rfl ⟨rfl, gr_refl _ _⟩)
theorem d2_go (i : Int) (w : World) : Calls Try.prog 79 #[.int .i64 i] w fun e w' => e = .returned (.int .i64 2) ∧ w.grownBy w' none := by
  refine calls (G := G) (args := [.int .i64 i]) Try.func79 rfl rfl rfl ?_
  exact M.run rfl (M.retF rfl rfl ⟨rfl, gr_refl _ _⟩)
theorem d3_go (i x : Int) (w : World) : Calls Try.prog 80 #[.int .i64 i, .int .i64 x] w fun e w' => e = .returned (.int .i64 x) ∧ w.grownBy w' none := by
  refine calls (G := G) (args := [.int .i64 i, .int .i64 x]) Try.func80 rfl rfl rfl ?_
  exact M.run rfl (M.retF rfl rfl ⟨rfl, gr_refl _ _⟩)
theorem d4_go (l : List Int) (U : Option Addr) (d : Nat) (g : Nat) (i : Nat) (x : Int) (w : World) (hi : i < l.length) (hU : Rd dI w U d l) (hB : Blk w g [.slice U l.length d] 27) :
    Calls Try.prog 81 #[.int .i64 i, .int .i64 x, .pointer (some ⟨g, 0, none⟩)] w fun e w' => e = .returned (.tuple #[.int .i64 x, .int .i64 (at0 l i)]) ∧ w.grownBy w' none := by
  obtain ⟨hU1, hUC⟩ := rd_flat hU hi
  rw [at0_get hi] at hUC
  refine calls (G := G) (args := [.int .i64 i, .int .i64 x, .pointer (some ⟨g, 0, none⟩)]) Try.func81 rfl rfl rfl ?_
  refine M.run rfl (M.quiet (by kernel_rfl) (LQ.run rfl (LQ.ld rfl (fun w' hw' => (hB.mv0 hw').cell rfl rfl) (LQ.run rfl (LQ.ix rfl (by omega) (by omega) hU1 (LQ.run rfl (LQ.ld rfl (fun w' hw' => (hUC w' (gr_below hw')).one 0 rfl rfl) (LQ.run rfl (LQ.nil fun w1 e1 => M.run rfl (M.retF rfl rfl ⟨rfl, e1⟩))))))))))
theorem t1_go (s : Store) (A : Option Addr) (c : Nat) (g : Nat) (i : Nat) (w : World) (hi : i < s.nights.length) (hA : Rd dNight w A c s.nights) (hB : Blk w g (vStore s A c).cells.toList 39) :
    Calls Try.prog 85 #[.int .i64 i, .pointer (some ⟨g, 0, none⟩)] w fun e w' => e = .returned (.int .i64 (nt s i).least) ∧ w.grownBy w' none := by
  obtain ⟨hA1, hAC⟩ := rd_flat hA hi
  rw [nt_get hi] at hAC
  refine calls (G := G) (args := [.int .i64 i, .pointer (some ⟨g, 0, none⟩)]) Try.func85 rfl rfl rfl ?_
  exact M.run rfl (M.ld rfl (hB.cell rfl rfl) (M.run rfl (M.ix rfl (by omega) (by omega) hA1 (M.run rfl (M.ld rfl ((hAC w (Below.refl _ _)).one 1 rfl rfl) (M.run rfl (M.retF rfl rfl ⟨rfl, gr_refl _ _⟩)))))))
theorem t2_go (s : Store) (A : Option Addr) (c : Nat) (g : Nat) (i : Nat) (w : World) (hi : i < s.nights.length) (hA : Rd dNight w A c s.nights) (hB : Blk w g (vStore s A c).cells.toList 39) :
    Calls Try.prog 86 #[.int .i64 i, .pointer (some ⟨g, 0, none⟩)] w fun e w' => e = .returned (.int .i64 (nt s i).most) ∧ w.grownBy w' none := by
  obtain ⟨hA1, hAC⟩ := rd_flat hA hi
  rw [nt_get hi] at hAC
  refine calls (G := G) (args := [.int .i64 i, .pointer (some ⟨g, 0, none⟩)]) Try.func86 rfl rfl rfl ?_
  exact M.run rfl (M.ld rfl (hB.cell rfl rfl) (M.run rfl (M.ix rfl (by omega) (by omega) hA1 (M.run rfl (M.ld rfl ((hAC w (Below.refl _ _)).one 2 rfl rfl) (M.run rfl (M.retF rfl rfl ⟨rfl, gr_refl _ _⟩)))))))
theorem t3_go (s : Store) (A : Option Addr) (c : Nat) (g : Nat) (i : Nat) (x : Int) (w : World) (hi : i < s.nights.length) (hx : 0 ≤ x ∧ x ≤ 4) (hh : 0 ≤ (nt s i).hours ∧ (nt s i).hours ≤ 14) (hA : Rd dNight w A c s.nights) (hB : Blk w g (vStore s A c).cells.toList 39) :
    Calls Try.prog 87 #[.int .i64 i, .int .i64 x, .pointer (some ⟨g, 0, none⟩)] w fun e w' => e = .returned (.int .i64 (-x * (nt s i).hours)) ∧ w.grownBy w' none := by
  obtain ⟨hA1, hAC⟩ := rd_flat hA hi
  rw [nt_get hi] at hAC
  have hm := mul_bd (a := x) (A := 4) (b := (nt s i).hours) (B := 14) hx hh (by omega)
  have e0 : IntKind.i64.wrap (0 - x) = -x := by rw [w64 (by omega) (by omega)]; omega
  have e1 : IntKind.i64.wrap (-x * (nt s i).hours) = -x * (nt s i).hours := by
    have e : -x * (nt s i).hours = -(x * (nt s i).hours) := Int.neg_mul _ _
    rw [e]; exact w64 (by omega) (by omega)
  refine calls (G := G) (args := [.int .i64 i, .int .i64 x, .pointer (some ⟨g, 0, none⟩)]) Try.func87 rfl rfl rfl ?_
  refine M.run rfl (M.ld rfl (hB.cell rfl rfl) (M.run rfl (M.ix rfl (by omega) (by omega) hA1 (M.run rfl (M.ld rfl ((hAC w (Below.refl _ _)).one 0 rfl rfl) (M.run rfl (M.retF rfl rfl ⟨?_, gr_refl _ _⟩)))))))
  rw [e0, e1]; rfl
theorem t4_go (l : List Int) (U : Option Addr) (d : Nat) (g : Nat) (i : Nat) (x : Int) (w : World) (hi : i < l.length) (hU : Rd dI w U d l) (hB : Blk w g [.slice U l.length d] 27) :
    Calls Try.prog 88 #[.int .i64 i, .int .i64 x, .pointer (some ⟨g, 0, none⟩)] w fun e w' => e = .returned (.tuple #[.int .i64 (at0 l i), .int .i64 x]) ∧ w.grownBy w' none := by
  obtain ⟨hU1, hUC⟩ := rd_flat hU hi
  rw [at0_get hi] at hUC
  refine calls (G := G) (args := [.int .i64 i, .int .i64 x, .pointer (some ⟨g, 0, none⟩)]) Try.func88 rfl rfl rfl ?_
  exact M.run rfl (M.ld rfl (hB.cell rfl rfl) (M.run rfl (M.ix rfl (by omega) (by omega) hU1 (M.run rfl (M.ld rfl ((hUC w (Below.refl _ _)).one 0 rfl rfl) (M.run rfl (M.retF rfl rfl ⟨rfl, gr_refl _ _⟩)))))))

set_option maxHeartbeats 1000000 in
theorem Deliver_go (s : Store) (l : List Int) (A : Option Addr) (c : Nat) (U : Option Addr) (d : Nat) (w : World) (hA : Rd dNight w A c s.nights) (hU : Rd dI w U d l) :
    Calls Try.prog 33 #[vStore s A c, .slice U l.length d] w fun e w' => ∃ X x, e = .returned (.tuple #[.slice X (deliverR s l).length x, .int .i64 (deliverC s l), .int .i64 (deliverE s l)]) ∧ Vc.Own dI 3 w' w.heap.size no X x (deliverR s l) ∧ w.grownBy w' none := by
  refine calls (G := G) (args := [vStore s A c, .slice U l.length d]) Try.func33 rfl rfl rfl ?_
  refine M.run rfl (M.nw rfl fun g2 w1 b2 e1 l1 => M.run rfl (M.nw rfl fun g3 w2 b3 e2 l2 => M.run rfl (M.ldA rfl rfl (b2.mv0 e2).cellsAll (M.run rfl (M.cl rfl (checkStore_go s A c w2 (hA.mv (gr_trans e1 e2))) ?_)))))
  rintro e w3 ⟨rfl, e3⟩
  have e03 := gr_trans (gr_trans e1 e2) e3
  replace b2 := (b2.mv0 e2).mv0 e3
  replace b3 := b3.mv0 e3
  refine ⟨_, rfl, M.run rfl (M.cond rfl (fun h => ?_) (fun h => ?_))⟩
  · have h' : checkStore s ≠ 0 := by simpa using h
    have hE : deliverE s l = checkStore s := by simp [deliverE, h']
    have hR : deliverR s l = [] := by simp [deliverR, hE, h']
    have hC : deliverC s l = 0 := by simp [deliverC, hE, h']
    rw [hE, hR, hC]
    exact M.run rfl (M.retF rfl rfl ⟨none, 0, rfl, Vc.Own.nil _ _ _ _ _, e03⟩)
  have h' : checkStore s = 0 := by simpa using h
  have hs := checkStore_ok h'
  refine M.run rfl (M.ldA rfl rfl b2.cellsAll (M.run rfl (M.ld rfl (b3.cell rfl rfl) (M.run rfl (M.cl rfl (wicks_go s A c l U d w3 (hA.mv e03) (hU.mv e03)) ?_)))))
  rintro e w4 ⟨rfl, e4⟩
  have e04 := gr_trans e03 e4
  replace b2 := b2.mv0 e4
  replace b3 := b3.mv0 e4
  refine ⟨_, rfl, M.run rfl (M.cond rfl (fun h2 => ?_) (fun h2 => ?_))⟩
  · have h2' : wicksOk s l = false := by simpa using h2
    have hE : deliverE s l = 2 := by simp [deliverE, h', h2']
    have hR : deliverR s l = [] := by simp [deliverR, hE]
    have hC : deliverC s l = 0 := by simp [deliverC, hE]
    rw [hE, hR, hC]
    exact M.run rfl (M.retF rfl rfl ⟨none, 0, rfl, Vc.Own.nil _ _ _ _ _, e04⟩)
  have h2' : wicksOk s l = true := by simpa using h2
  obtain ⟨hwl, hww⟩ := wicksOk_spec h2'
  refine M.run rfl (M.ldA rfl rfl b2.cellsAll (M.run rfl (M.mkMap .i64 (Known s (wkD l)) rfl fun gm w5 hM5 e5 l5 => M.run rfl (M.nw rfl fun gw w6 b6 e6 l6 => M.run rfl ?_))))
  refine M.store rfl rfl b6 rfl rfl fun w7 b7 e7 => M.run rfl (M.store rfl rfl b7 rfl rfl fun w8 b8 e8 => M.run rfl (M.store rfl rfl b8 rfl rfl fun w9 b9 e9 => M.run rfl (M.store rfl rfl b9 rfl rfl fun wa ba ea => M.run rfl ?_)))
  have e5a : w5.grownBy wa none := gr_fresh (gr_fresh (gr_fresh (gr_fresh e6 e7 l6) e8 l6) e9 l6) ea l6
  have e4a := gr_trans e5 e5a
  have e0a := gr_trans e04 e4a
  have hMa := hM5.mv0 e5a
  have b3a := b3.mv0 e4a
  have hgm : w.heap.size ≤ gm := Nat.le_trans e04.size l5
  have S : Search s (wkD l) A c gw gm w wa 78 79 80 81 #[] #[] #[] #[] #[] #[] #[] #[.pointer (some ⟨g3, 0, none⟩)] := by
    refine ⟨hs, wkD_ok hs h2', hA, e0a, hgm, ba, ⟨rfl, fun i hi w' hw' => d1_go i w'⟩, ⟨rfl, fun i hi w' hw' => d2_go i w'⟩, ⟨rfl, fun i hi x h1 h2 w' hw' => d3_go i x w'⟩, ⟨rfl, fun i hi x h1 h2 w' hw' => ?_⟩, hMa.ne ba, ?_⟩
    · exact d4_go l U d g3 i x w' (by omega) (hU.mv (gr_fresh e0a hw' hgm)) (b3a.mv1 hw' (hMa.ne b3a))
    · obtain ⟨ms, cl, hm, _⟩ := hMa
      exact ⟨ms, cl, hm⟩
  refine M.cl rfl (best_go S hMa) ?_
  rintro e wb ⟨X, x, rfl, hX, eb⟩
  have e0b : w.grownBy wb none := gr_fresh e0a eb hgm
  refine ⟨_, rfl, M.run rfl (M.cond rfl (fun h3 => ?_) (fun h3 => ?_))⟩
  · have h3' : (wkD l).found s = false := by simpa using h3
    have hE : deliverE s l = 10 := by simp [deliverE, h', h2', h3']
    have hR : deliverR s l = [] := by simp [deliverR, hE]
    have hC : deliverC s l = 0 := by simp [deliverC, hE]
    rw [hE, hR, hC]
    exact M.run rfl (M.retF rfl rfl ⟨none, 0, rfl, Vc.Own.nil _ _ _ _ _, e0b⟩)
  · have h3' : (wkD l).found s = true := by simpa using h3
    have hE : deliverE s l = 0 := by simp [deliverE, h', h2', h3']
    have hR : deliverR s l = (wkD l).best s := by simp [deliverR, hE]
    have hC : deliverC s l = (wkD l).bestC s := by simp [deliverC, hE]
    rw [hE, hR, hC]
    exact M.run rfl (M.retF rfl rfl ⟨X, x, rfl, hX.weaken e0a.size (fun _ h => h), e0b⟩)

set_option maxHeartbeats 1000000 in
theorem Trim_go (s : Store) (l : List Int) (A : Option Addr) (c : Nat) (U : Option Addr) (d : Nat) (w : World) (hA : Rd dNight w A c s.nights) (hU : Rd dI w U d l) :
    Calls Try.prog 38 #[vStore s A c, .slice U l.length d] w fun e w' => ∃ X x, e = .returned (.tuple #[.slice X (trimR s l).length x, .int .i64 (trimC s l), .int .i64 (trimE s l)]) ∧ Vc.Own dI 3 w' w.heap.size no X x (trimR s l) ∧ w.grownBy w' none := by
  refine calls (G := G) (args := [vStore s A c, .slice U l.length d]) Try.func38 rfl rfl rfl ?_
  refine M.run rfl (M.nw rfl fun g2 w1 b2 e1 l1 => M.run rfl (M.nw rfl fun g3 w2 b3 e2 l2 => M.run rfl (M.ldA rfl rfl (b2.mv0 e2).cellsAll (M.run rfl (M.cl rfl (checkStore_go s A c w2 (hA.mv (gr_trans e1 e2))) ?_)))))
  rintro e w3 ⟨rfl, e3⟩
  have e03 := gr_trans (gr_trans e1 e2) e3
  replace b2 := (b2.mv0 e2).mv0 e3
  replace b3 := b3.mv0 e3
  refine ⟨_, rfl, M.run rfl (M.cond rfl (fun h => ?_) (fun h => ?_))⟩
  · have h' : checkStore s ≠ 0 := by simpa using h
    have hE : trimE s l = checkStore s := by simp [trimE, h']
    have hR : trimR s l = [] := by simp [trimR, hE, h']
    have hC : trimC s l = 0 := by simp [trimC, hE, h']
    rw [hE, hR, hC]
    exact M.run rfl (M.retF rfl rfl ⟨none, 0, rfl, Vc.Own.nil _ _ _ _ _, e03⟩)
  have h' : checkStore s = 0 := by simpa using h
  have hs := checkStore_ok h'
  refine M.run rfl (M.ldA rfl rfl b2.cellsAll (M.run rfl (M.ld rfl (b3.cell rfl rfl) (M.run rfl (M.cl rfl (cans_go s A c l U d w3 (hA.mv e03) (hU.mv e03)) ?_)))))
  rintro e w4 ⟨rfl, e4⟩
  have e04 := gr_trans e03 e4
  replace b2 := b2.mv0 e4
  replace b3 := b3.mv0 e4
  refine ⟨_, rfl, M.run rfl (M.cond rfl (fun h2 => ?_) (fun h2 => ?_))⟩
  · have h2' : cansOk s l = false := by simpa using h2
    have hE : trimE s l = 2 := by simp [trimE, h', h2']
    have hR : trimR s l = [] := by simp [trimR, hE]
    have hC : trimC s l = 0 := by simp [trimC, hE]
    rw [hE, hR, hC]
    exact M.run rfl (M.retF rfl rfl ⟨none, 0, rfl, Vc.Own.nil _ _ _ _ _, e04⟩)
  have h2' : cansOk s l = true := by simpa using h2
  obtain ⟨hwl, hww⟩ := cansOk_spec h2'
  refine M.run rfl (M.ldA rfl rfl b2.cellsAll (M.run rfl (M.mkMap .i64 (Known s (wkT s l)) rfl fun gm w5 hM5 e5 l5 => M.run rfl (M.nw rfl fun gw w6 b6 e6 l6 => M.run rfl ?_))))
  refine M.store rfl rfl b6 rfl rfl fun w7 b7 e7 => M.run rfl (M.store rfl rfl b7 rfl rfl fun w8 b8 e8 => M.run rfl (M.store rfl rfl b8 rfl rfl fun w9 b9 e9 => M.run rfl (M.store rfl rfl b9 rfl rfl fun wa ba ea => M.run rfl ?_)))
  have e5a : w5.grownBy wa none := gr_fresh (gr_fresh (gr_fresh (gr_fresh e6 e7 l6) e8 l6) e9 l6) ea l6
  have e4a := gr_trans e5 e5a
  have e0a := gr_trans e04 e4a
  have hMa := hM5.mv0 e5a
  have b3a := b3.mv0 e4a
  have hgm : w.heap.size ≤ gm := Nat.le_trans e04.size l5
  have S : Search s (wkT s l) A c gw gm w wa 85 86 87 88 #[] #[.pointer (some ⟨g2, 0, none⟩)] #[] #[.pointer (some ⟨g2, 0, none⟩)] #[] #[.pointer (some ⟨g2, 0, none⟩)] #[] #[.pointer (some ⟨g3, 0, none⟩)] := by
    have hAt : ∀ w', wa.grownBy w' (some gm) → Rd dNight w' A c s.nights := fun w' hw' => hA.mv (gr_fresh e0a hw' hgm)
    have hBt : ∀ w', wa.grownBy w' (some gm) → Blk w' g2 (vStore s A c).cells.toList 39 := fun w' hw' => (b2.mv0 e4a).mv1 hw' (hMa.ne (b2.mv0 e4a))
    refine ⟨hs, wkT_ok hs h2', hA, e0a, hgm, ba, ⟨rfl, fun i hi w' hw' => t1_go s A c g2 i w' hi (hAt w' hw') (hBt w' hw')⟩, ⟨rfl, fun i hi w' hw' => t2_go s A c g2 i w' hi (hAt w' hw') (hBt w' hw')⟩, ⟨rfl, fun i hi x h1 h2 w' hw' => ?_⟩, ⟨rfl, fun i hi x h1 h2 w' hw' => ?_⟩, hMa.ne ba, ?_⟩
    · have hn := hs.nt hi
      simp only [wkT] at h1 h2
      exact t3_go s A c g2 i x w' hi (by omega) (by omega) (hAt w' hw') (hBt w' hw')
    · exact t4_go l U d g3 i x w' (by omega) (hU.mv (gr_fresh e0a hw' hgm)) (b3a.mv1 hw' (hMa.ne b3a))
    · obtain ⟨ms, cl, hm, _⟩ := hMa
      exact ⟨ms, cl, hm⟩
  refine M.cl rfl (best_go S hMa) ?_
  rintro e wb ⟨X, x, rfl, hX, eb⟩
  have e0b : w.grownBy wb none := gr_fresh e0a eb hgm
  refine ⟨_, rfl, M.run rfl (M.cond rfl (fun h3 => ?_) (fun h3 => ?_))⟩
  · have h3' : (wkT s l).found s = false := by simpa using h3
    have hE : trimE s l = 10 := by simp [trimE, h', h2', h3']
    have hR : trimR s l = [] := by simp [trimR, hE]
    have hC : trimC s l = 0 := by simp [trimC, hE]
    rw [hE, hR, hC]
    exact M.run rfl (M.retF rfl rfl ⟨none, 0, rfl, Vc.Own.nil _ _ _ _ _, e0b⟩)
  · have h3' : (wkT s l).found s = true := by simpa using h3
    have hE : trimE s l = 0 := by simp [trimE, h', h2', h3']
    have hR : trimR s l = (wkT s l).best s := by simp [trimR, hE]
    have hC : trimC s l = -(wkT s l).bestC s := by simp [trimC, hE]
    rw [hE, hR, hC]
    have hcb := Wk.cheap_bd (wkT_ok hs h2') hs.few s.nights.length (Nat.le_refl _) s.lo
    have hn6 := hs.few
    have hw0 : IntKind.i64.wrap (0 - (wkT s l).bestC s) = -(wkT s l).bestC s := by
      have : (wkT s l).bestC s = (wkT s l).cheap s s.nights.length s.lo := by unfold Wk.bestC; rw [h3']; rfl
      have hnv : never = 1048576 := rfl
      rw [this, w64 (by omega) (by omega)]; omega
    rw [← hw0]
    exact M.run rfl (M.retF rfl rfl ⟨X, x, rfl, hX.weaken e0a.size (fun _ h => h), e0b⟩)
end Go.Proofs.Ytaimlmfncjbmjaa
end

section
/- Walk: awake. -/
set_option linter.unusedVariables false
namespace Go.Proofs.Ytaimlmfncjbmjaa
open Go Go.Vc Go.RowKit Lp

theorem _root_.Go.Vc.M.caseT {G : Ctx} {n : Nat} {Q : QT} {ρ : Env} {w : World} {all : Array Oper} {l : List Oper} {k : List It} (d : Nat) {b : Bool} (hd : ρ.find d = some (.bool b)) (hb : b = true) (h : M G n (.ops all l :: k) Q ((d, .bool true) :: ρ) w) : M G n (.ops all l :: k) Q ρ w :=
  M.case d hd (fun _ => h) (fun h2 => by rw [hb] at h2; cases h2)
theorem _root_.Go.Vc.D.caseT {G : Ctx} {n : Nat} {all : Array Oper} {ρ : Env} {R RL : World → World → Prop} {late ex sk : List Nat} {k : List It} {Q : QT} {m : Nat} {done : List Nat} {w : World} (s : Nat) {b : Bool} (hd : ρ.find s = some (.bool b)) (hb : b = true) (h : Vc.D G n all R RL late ex sk k Q m done ((s, .bool true) :: ρ) w) : Vc.D G n all R RL late ex sk k Q m done ρ w :=
  D.case s hd (fun _ => h) (fun h2 => by rw [hb] at h2; cases h2)
theorem rd_empty {α : Type} (d : Rp α) (w : World) : Rd d w none 0 [] := Sl.nil d w _ _ _ (by simp [maxLen])
theorem rd_two (w : World) (g e : Nat) (a b : Int) (h : Blk w g [.int .i64 a, .int .i64 b] e) : Rd dI w (some ⟨g, 0, none⟩) 2 [a, b] := rd_lit h [a, b] rfl (by simp [maxLen])

set_option maxHeartbeats 4000000 in
set_option maxRecDepth 100000 in
theorem awake_go (w : World) : Calls Try.prog 17 #[] w fun e w' => e = .returned (.bool true) ∧ w.grownBy w' none := by
  refine calls (G := G) (args := []) Try.func17 rfl rfl rfl ?_
  refine M.run rfl (M.cl rfl (tank_go w) ?_)
  rintro e w1 ⟨X1, rfl, r1, e1⟩
  refine ⟨_, rfl, M.run rfl (M.cl rfl (planF_go 0 1 1 2 w1) ?_)⟩
  rintro e w2 ⟨P1, Q1, rfl, rp1, rq1, e2⟩
  refine ⟨_, rfl, M.run rfl (M.bs rfl fun g3 w3 b3 e3 l3 => M.run rfl ?_)⟩
  have e13 := gr_trans e2 e3
  have hc1 := Play_go tankS (planP 0 1 1 2) ⟨22, [3, 2]⟩ X1 2 P1 2 Q1 2 (some ⟨g3, 0, none⟩) 2 w3 (r1.mv e13) (rp1.mv e3) (rq1.mv e3) (rd_two w3 g3 3 3 2 b3)
  rw [ex_play.1, ex_play.2.1, ex_play.2.2.1, ex_play.2.2.2] at hc1
  refine M.cl rfl hc1 ?_
  rintro e w4 ⟨L1, l1, B1, b1, I1, i1, rfl, hL1, hB1, hI1, e4⟩
  have e04 := gr_trans (gr_trans e1 e13) e4
  refine ⟨_, rfl, M.run rfl (M.cl rfl (tank_go w4) ?_)⟩
  rintro e w5 ⟨X2, rfl, r2, e5⟩
  refine ⟨_, rfl, M.run rfl (M.cl rfl (planF_go 0 1 1 2 w5) ?_)⟩
  rintro e w6 ⟨P2, Q2, rfl, rp2, rq2, e6⟩
  refine ⟨_, rfl, M.run rfl ?_⟩
  have hc2 := Oil_go tankS (planP 0 1 1 2) [] X2 2 P2 2 Q2 2 none 0 w6 (r2.mv e6) rp2 rq2 (rd_empty dDip w6)
  rw [ex_oil.1, ex_oil.2] at hc2
  refine M.cl rfl hc2 ?_
  rintro e w7 ⟨R1, r1', rfl, hR1, e7⟩
  have e47 := gr_trans (gr_trans e5 e6) e7
  refine ⟨_, rfl, M.run rfl (M.cl rfl (tank_go w7) ?_)⟩
  rintro e w8 ⟨X3, rfl, r3, e8⟩
  refine ⟨_, rfl, M.run rfl (M.cl rfl (planF_go 0 0 2 1 w8) ?_)⟩
  rintro e w9 ⟨P3, Q3, rfl, rp3, rq3, e9⟩
  refine ⟨_, rfl, M.run rfl ?_⟩
  have hc3 := Dark_go tankS (planP 0 0 2 1) X3 2 P3 2 Q3 2 w9 (r3.mv e9) rp3 rq3
  rw [ex_dark.1, ex_dark.2] at hc3
  refine M.cl rfl hc3 ?_
  rintro e wa ⟨D1, d1, rfl, hD1, ea⟩
  have e7a := gr_trans (gr_trans e8 e9) ea
  refine ⟨_, rfl, M.run rfl (M.cl rfl (tank_go wa) ?_)⟩
  rintro e wb ⟨X4, rfl, r4, eb⟩
  refine ⟨_, rfl, M.run rfl (M.bs rfl fun gc wc bc ec lc => M.run rfl ?_)⟩
  have hc4 := Deliver_go tankS [1, 2] X4 2 (some ⟨gc, 0, none⟩) 2 wc (r4.mv ec) (rd_two wc gc 3 1 2 bc)
  rw [ex_deliver.1, ex_deliver.2.1, ex_deliver.2.2] at hc4
  refine M.cl rfl hc4 ?_
  rintro e wd ⟨C1, c1, rfl, hC1, ed⟩
  have ead := gr_trans (gr_trans eb ec) ed
  refine ⟨_, rfl, M.run rfl (M.cl rfl (tank_go wd) ?_)⟩
  rintro e we ⟨X5, rfl, r5, ee⟩
  refine ⟨_, rfl, M.run rfl (M.bs rfl fun gf wf bf ef lf => M.run rfl ?_)⟩
  have hc5 := Trim_go tankS [1, 0] X5 2 (some ⟨gf, 0, none⟩) 2 wf (r5.mv ef) (rd_two wf gf 3 1 0 bf)
  rw [ex_trim.1, ex_trim.2.1, ex_trim.2.2] at hc5
  refine M.cl rfl hc5 ?_
  rintro e wg ⟨T1, t1, rfl, hT1, eg⟩
  have edg := gr_trans (gr_trans ee ef) eg
  refine ⟨_, rfl, M.run rfl (M.cl rfl (tank_go wg) ?_)⟩
  rintro e wh ⟨X6, rfl, r6, eh⟩
  refine ⟨_, rfl, M.run rfl (M.cl rfl (planF_go 0 1 1 2 wh) ?_)⟩
  rintro e wi ⟨P6, Q6, rfl, rp6, rq6, ei⟩
  refine ⟨_, rfl, M.run rfl (M.cl rfl (between_go 0 4 wi) ?_)⟩
  rintro e wj ⟨rfl, ej⟩
  refine ⟨_, rfl, M.run rfl (M.cl rfl (between_go 5 20 wj) ?_)⟩
  rintro e wk ⟨rfl, ek⟩
  refine ⟨_, rfl, M.run rfl (M.bs rfl fun gl wl bl_ el ll => M.run rfl ?_)⟩
  have eil := gr_trans (gr_trans ej ek) el
  have hc6 := Leave_go tankS (planP 0 1 1 2) dipsX X6 2 P6 2 Q6 2 (some ⟨gl, 0, none⟩) 2 wl (r6.mv (gr_trans ei eil)) (rp6.mv eil) (rq6.mv eil) (rd_lit bl_ dipsX rfl (by simp [maxLen, dipsX]))
  rw [ex_leave.1, ex_leave.2] at hc6
  refine M.cl rfl hc6 ?_
  rintro e wm ⟨V1, v1, rfl, hV1, em⟩
  have egm := gr_trans (gr_trans (gr_trans eh ei) eil) em
  have f4 := gr_trans (gr_trans (gr_trans (gr_trans e47 e7a) ead) edg) egm
  have f7 := gr_trans (gr_trans (gr_trans e7a ead) edg) egm
  have fa := gr_trans (gr_trans ead edg) egm
  have fd := gr_trans edg egm
  have e0m := gr_trans e04 f4
  have rL : Rd dI wm L1 l1 [7, 41] := Rd.mv (hL1.rd (by decide)) f4
  have rB : Rd dI wm B1 b1 [0, 0] := Rd.mv (hB1.rd (by decide)) f4
  have rI : Rd dB wm I1 i1 [true, true] := Rd.mv (hI1.rd (by decide)) f4
  have rR : Rd dRng wm R1 r1' [⟨5, 20⟩, ⟨39, 54⟩] := Rd.mv (hR1.rd (by decide)) f7
  have rD : Rd dI wm D1 d1 [0, 1] := Rd.mv (hD1.rd (by decide)) fa
  have rC : Rd dI wm C1 c1 [0, 1] := Rd.mv (hC1.rd (by decide)) fd
  have rT : Rd dI wm T1 t1 [3, 2] := Rd.mv (hT1.rd (by decide)) egm
  have rV : Rd dI wm V1 v1 [0] := hV1.rd (by decide)
  refine ⟨_, rfl, M.run rfl (M.drawG [] (by kernel_rfl) fun u0 x0 => ?_)⟩
  refine D.at_ [66] rfl (D.caseT 66 rfl rfl (D.run rfl (D.one 4 rfl rfl (M.bs rfl fun h1 u1 k1 x1 y1 => M.run rfl (M.end_ ⟨.inr x1, D.one 5 rfl rfl (M.cl rfl (Same_go [7, 41] [7, 41] L1 l1 (some ⟨h1, 0, none⟩) 2 u1 (Rd.mv rL (gr_trans x0 x1)) (rd_two u1 h1 3 7 41 k1)) ?_)⟩)))))
  rintro e u2 ⟨rfl, x2⟩
  refine ⟨_, rfl, M.run rfl (M.end_ ⟨.inr x2, ?_⟩)⟩
  have z2 := gr_trans (gr_trans x0 x1) x2
  refine D.at_ [71] rfl (D.caseT 71 rfl rfl (D.run rfl (D.one 9 rfl rfl (M.bs rfl fun h3 u3 k3 x3 y3 => M.run rfl (M.end_ ⟨.inr x3, D.one 10 rfl rfl (M.cl rfl (Same_go [0, 0] [0, 0] B1 b1 (some ⟨h3, 0, none⟩) 2 u3 (Rd.mv rB (gr_trans z2 x3)) (rd_two u3 h3 3 0 0 k3)) ?_)⟩)))))
  rintro e u4 ⟨rfl, x4⟩
  refine ⟨_, rfl, M.run rfl (M.end_ ⟨.inr x4, ?_⟩)⟩
  have z4 := gr_trans (gr_trans z2 x3) x4
  obtain ⟨hI0, hIC0⟩ := rd_flat rI (j := 0) (by decide)
  obtain ⟨_, hIC1⟩ := rd_flat rI (j := 1) (by decide)
  obtain ⟨hRa, hRC0⟩ := rd_flat rR (j := 0) (by decide)
  obtain ⟨_, hRC1⟩ := rd_flat rR (j := 1) (by decide)
  refine D.at_ [76] rfl (D.caseT 76 rfl rfl (D.at_ [81] rfl (D.caseT 81 rfl rfl (D.run rfl (D.ys 19 rfl rfl rfl (YS.ix rfl (by decide) (by decide) hI0) (D.ld 20 rfl rfl rfl rfl (fun u hu => (hIC0 u (gr_below (gr_trans z4 hu))).one 0 rfl rfl) ?_))))))
  refine D.at_ [86] rfl (D.caseT 86 rfl rfl (D.run rfl (D.ys 24 rfl rfl rfl (YS.ix rfl (by decide) (by decide) hI0) (D.ld 25 rfl rfl rfl rfl (fun u hu => (hIC1 u (gr_below (gr_trans z4 hu))).one 0 rfl rfl) ?_))))
  refine D.at_ [91] rfl (D.caseT 91 rfl rfl (D.at_ [95] rfl (D.caseT 95 rfl rfl (D.at_ [100] rfl (D.caseT 100 rfl rfl (D.run rfl ?_))))))
  refine D.ys 38 rfl rfl rfl (YS.ix rfl (by decide) (by decide) hRa) (D.ldA 39 rfl rfl rfl rfl rfl (fun u hu => hRC0 u (gr_below (gr_trans z4 hu))) (D.run rfl (D.one 40 rfl rfl (M.cl rfl (between_go 5 20 u4) ?_))))
  rintro e u5 ⟨rfl, x5⟩
  refine ⟨_, rfl, M.run rfl (M.end_ ⟨.inr x5, ?_⟩)⟩
  have z5 := gr_trans z4 x5
  refine D.ys 41 rfl rfl rfl (YS.eqII (k := .i64) rfl Try.eqGuardType36 Try.underlying36 ⟨rfl, rfl, by decide⟩ ⟨rfl, rfl, by decide⟩ Try.underlying3 Try.stoodInHeld36) ?_
  refine D.at_ [107] rfl (D.caseT 107 rfl rfl (D.run rfl (D.ys 45 rfl rfl rfl (YS.ix rfl (by decide) (by decide) hRa) (D.ldA 46 rfl rfl rfl rfl rfl (fun u hu => hRC1 u (gr_below (gr_trans z5 hu))) (D.run rfl (D.one 47 rfl rfl (M.cl rfl (between_go 39 54 u5) ?_)))))))
  rintro e u6 ⟨rfl, x6⟩
  refine ⟨_, rfl, M.run rfl (M.end_ ⟨.inr x6, ?_⟩)⟩
  have z6 := gr_trans z5 x6
  refine D.ys 48 rfl rfl rfl (YS.eqII (k := .i64) rfl Try.eqGuardType36 Try.underlying36 ⟨rfl, rfl, by decide⟩ ⟨rfl, rfl, by decide⟩ Try.underlying3 Try.stoodInHeld36) ?_
  refine D.at_ [114] rfl (D.caseT 114 rfl rfl (D.at_ [118] rfl (D.caseT 118 rfl rfl (D.run rfl (D.one 56 rfl rfl (M.bs rfl fun h7 u7 k7 x7 y7 => M.run rfl (M.end_ ⟨.inr x7, D.one 57 rfl rfl (M.cl rfl (Same_go [0, 1] [0, 1] D1 d1 (some ⟨h7, 0, none⟩) 2 u7 (Rd.mv rD (gr_trans z6 x7)) (rd_two u7 h7 3 0 1 k7)) ?_)⟩)))))))
  rintro e u8 ⟨rfl, x8⟩
  refine ⟨_, rfl, M.run rfl (M.end_ ⟨.inr x8, ?_⟩)⟩
  have z8 := gr_trans (gr_trans z6 x7) x8
  refine D.at_ [123] rfl (D.caseT 123 rfl rfl (D.at_ [127] rfl (D.caseT 127 rfl rfl (D.at_ [131] rfl (D.caseT 131 rfl rfl (D.run rfl (D.one 69 rfl rfl (M.bs rfl fun h9 u9 k9 x9 y9 => M.run rfl (M.end_ ⟨.inr x9, D.one 70 rfl rfl (M.cl rfl (Same_go [0, 1] [0, 1] C1 c1 (some ⟨h9, 0, none⟩) 2 u9 (Rd.mv rC (gr_trans z8 x9)) (rd_two u9 h9 3 0 1 k9)) ?_)⟩)))))))))
  rintro e ua ⟨rfl, xa⟩
  refine ⟨_, rfl, M.run rfl (M.end_ ⟨.inr xa, ?_⟩)⟩
  have za := gr_trans (gr_trans z8 x9) xa
  refine D.at_ [136] rfl (D.caseT 136 rfl rfl (D.at_ [140] rfl (D.caseT 140 rfl rfl (D.at_ [144] rfl (D.caseT 144 rfl rfl (D.run rfl (D.one 82 rfl rfl (M.bs rfl fun hb ub kb xb yb => M.run rfl (M.end_ ⟨.inr xb, D.one 83 rfl rfl (M.cl rfl (Same_go [3, 2] [3, 2] T1 t1 (some ⟨hb, 0, none⟩) 2 ub (Rd.mv rT (gr_trans za xb)) (rd_two ub hb 3 3 2 kb)) ?_)⟩)))))))))
  rintro e uc ⟨rfl, xc⟩
  refine ⟨_, rfl, M.run rfl (M.end_ ⟨.inr xc, ?_⟩)⟩
  have zc := gr_trans (gr_trans za xb) xc
  refine D.at_ [149] rfl (D.caseT 149 rfl rfl (D.at_ [153] rfl (D.caseT 153 rfl rfl (D.run rfl (D.one 91 rfl rfl (M.bs rfl fun hd ud kd xd yd => M.run rfl (M.end_ ⟨.inr xd, D.one 92 rfl rfl (M.cl rfl (Same_go [0] [0] V1 v1 (some ⟨hd, 0, none⟩) 1 ud (Rd.mv rV (gr_trans zc xd)) (rd_lit kd [0] rfl (by simp [maxLen]))) ?_)⟩)))))))
  rintro e ue ⟨rfl, xe⟩
  refine ⟨_, rfl, M.run rfl (M.end_ ⟨.inr xe, ?_⟩)⟩
  have ze := gr_trans (gr_trans zc xd) xe
  exact D.run rfl (D.done_ rfl (M.run rfl (M.retF rfl rfl ⟨rfl, gr_trans e0m ze⟩)))
end Go.Proofs.Ytaimlmfncjbmjaa
end

section
/- More oil, more cans, fewer wicks; the levels are what the truths reach. -/
set_option linter.unusedVariables false
namespace Lp
theorem mul_le {a b c : Int} (h : a ≤ b) (hc : 0 ≤ c) : a * c ≤ b * c := Int.mul_le_mul_of_nonneg_right h hc
theorem now_mono {s s' : Store} (hcap : s.cap = s'.cap) (hcan : s.can = s'.can) (h0 : 0 ≤ s.can) {o o' c c' : Int} (ho : o ≤ o') (hc : c ≤ c') : now s o c ≤ now s' o' c' := by
  have := mul_le hc h0
  unfold now
  rw [← hcap, ← hcan]
  split <;> split <;> omega
theorem need_mono {n : Night} (hh : 0 ≤ n.hours) {w w' b b' : Int} (hw : w' ≤ w) (hb : b' ≤ b) (hw0 : 0 ≤ w') (hb0 : 0 ≤ b') : need n w' b' ≤ need n w b := by
  unfold need
  have h1 : n.hours * w' ≤ n.hours * w := Int.mul_le_mul_of_nonneg_left hw hh
  have h2 : 0 ≤ n.hours * w' := Int.mul_nonneg hh hw0
  exact Int.mul_le_mul h1 hb hb0 (Int.le_trans h2 h1)
theorem rest_mono {n : Night} {o o' w w' b b' : Int} (ho : o ≤ o') (hn : need n w' b' ≤ need n w b) (h0 : 0 ≤ rest n o' w' b') : rest n o w b ≤ rest n o' w' b' := by
  unfold rest at *
  split <;> split <;> simp_all <;> omega
theorem lit_mono {n : Night} {o o' w w' b b' : Int} (ho : o ≤ o') (hn : need n w' b' ≤ need n w b) (h : litB n o w b = true) : litB n o' w' b' = true := by
  simp only [litB, Bool.not_eq_true', decide_eq_false_iff_not] at *
  omega

/-- with more oil, more cans, fewer wicks, and less that is burned -/
theorem oil_mono {s s' : Store} {p p' : Plan} {t t' : Truth} (hnt : s.nights = s'.nights) (hcap : s.cap = s'.cap) (hcan : s.can = s'.can) (hf : Fine s p) (hf' : Fine s' p') (h0 : 0 ≤ t.start) (h1 : t.start ≤ t'.start) (h2 : t'.start ≤ s.cap)
    (hc : ∀ i, i < s.nights.length → at0 p.cans i ≤ at0 p'.cans i) (hw : ∀ i, i < s.nights.length → at0 p'.wicks i ≤ at0 p.wicks i) (hb : ∀ i, i < s.nights.length → 0 ≤ at0 t'.burn i ∧ at0 t'.burn i ≤ at0 t.burn i) :
    ∀ i, i ≤ s.nights.length → oilAt s p t i ≤ oilAt s' p' t' i ∧ (i < s.nights.length → litAt s p t i = true → litAt s' p' t' i = true) := by
  have hnt' : ∀ i, nt s i = nt s' i := fun i => by unfold nt; rw [hnt]
  have hlen : s.nights.length = s'.nights.length := by rw [hnt]
  have hc0 := hf.ok.can
  have key : ∀ i, i ≤ s.nights.length → oilAt s p t i ≤ oilAt s' p' t' i := by
    intro i
    induction i with
    | zero => intro _; exact h1
    | succ i ih =>
      intro hi
      have hi' : i < s.nights.length := by omega
      have hn := hf.ok.nt hi'
      have hw0 := (hf'.wicks i (by omega)).1
      have hb' := hb i hi'
      have a := now_mono (s := s) (s' := s') hcap hcan (by omega) (ih (by omega)) (hc i hi')
      have b := need_mono (n := nt s i) (by omega) (hw i hi') hb'.2 (by omega) hb'.1
      have bd := oil_bd (s := s') (p := p') (t := t') hf' (by omega) (by rw [← hcap]; exact h2) (fun j hj => (hb j (by omega)).1) (i + 1) (by omega)
      simp only [oilAt] at bd ⊢
      rw [← hnt'] at bd ⊢
      exact rest_mono a b bd.1
  intro i hi
  refine ⟨key i hi, fun hlt hl => ?_⟩
  have hn := hf.ok.nt hlt
  have hw0 := (hf'.wicks i (by omega)).1
  have hb' := hb i hlt
  have a := now_mono (s := s) (s' := s') hcap hcan (by omega) (key i hi) (hc i hlt)
  have b := need_mono (n := nt s i) (by omega) (hw i hlt) hb'.2 (by omega) hb'.1
  unfold litAt nowAt at hl ⊢
  rw [← hnt']
  exact lit_mono a b hl

theorem lowT_ok {s : Store} (h : s.Ok) : truthOk s (lowT s) = true := by
  have hst := h.start
  simp only [truthOk, Bool.and_eq_true, decide_eq_true_eq, List.all_eq_true, within_iff]
  refine ⟨⟨by simp [lowT], by simp [lowT]; omega⟩, by simp [lowT], fun x hx => ?_⟩
  obtain ⟨i, hi, rfl⟩ := List.mem_iff_getElem.1 hx
  have h2 : i < s.nights.length := by simp at hi; omega
  have := h.night _ (List.getElem_mem h2)
  simp [lowT]
  omega
theorem dark_mem (s : Store) (p : Plan) : ∀ (n : Nat) (x : Int), x ∈ darkL s p n ↔ ∃ i, i < n ∧ x = (i : Int) ∧ litAt s p (lowT s) i = false := by
  intro n x
  simp only [darkL, List.mem_map, List.mem_filter, List.mem_range]
  constructor
  · rintro ⟨i, ⟨h1, h2⟩, rfl⟩
    exact ⟨i, h1, rfl, by simpa using h2⟩
  · rintro ⟨i, h1, rfl, h2⟩
    exact ⟨i, ⟨h1, by simpa using h2⟩, rfl⟩
/-- the oil of a truth is at least that of the truth that burns the most -/
theorem low_le {s : Store} {p : Plan} {t : Truth} (hf : Fine s p) (ht : truthOk s t = true) (i : Nat) (hi : i ≤ s.nights.length) : oilAt s p (lowT s) i ≤ oilAt s p t i ∧ (i < s.nights.length → litAt s p (lowT s) i = true → litAt s p t i = true) := by
  obtain ⟨h1, h2, h3, h4⟩ := truthOk_spec ht
  have hst := hf.ok.start
  have hcap := hf.ok.cap
  refine oil_mono rfl rfl rfl hf hf (by simp [lowT]; omega) (by simp [lowT]; omega) (by omega) (fun _ _ => Int.le_refl _) (fun _ _ => Int.le_refl _) (fun j hj => ?_) i hi
  have := h4 j (by omega)
  have := hf.ok.nt hj
  rw [lowT_burn s hj]
  omega

/-! ### truths that fit -/
def Fits (s : Store) (p : Plan) (l : List Dip) (t : Truth) : Prop := truthOk s t = true ∧ ∀ j, j < s.nights.length → agreesB l j (oilAt s p t (j + 1)) = true
theorem truthOk_of {s : Store} {t : Truth} (h1 : s.lo ≤ t.start ∧ t.start ≤ s.hi) (hl : t.burn.length = s.nights.length) (hb : ∀ i, i < s.nights.length → (nt s i).lo ≤ at0 t.burn i ∧ at0 t.burn i ≤ (nt s i).hi) : truthOk s t = true := by
  simp only [truthOk, Bool.and_eq_true, decide_eq_true_eq, List.all_eq_true, within_iff]
  refine ⟨h1, by omega, fun x hx => ?_⟩
  obtain ⟨i, hi, rfl⟩ := List.mem_iff_getElem.1 hx
  have h1 : i < t.burn.length := by simp at hi; omega
  have h2 : i < s.nights.length := by omega
  simp only [List.getElem_zip]
  rw [at0_get h1, nt_get h2]
  exact hb i h2
def mixT (t1 t2 : Truth) (i : Nat) (b : Int) (n : Nat) : Truth := ⟨t1.start, (List.range n).map fun j => if j < i then at0 t1.burn j else if j = i then b else at0 t2.burn j⟩
theorem mixT_burn (t1 t2 : Truth) (i : Nat) (b : Int) (n j : Nat) (hj : j < n) : at0 (mixT t1 t2 i b n).burn j = if j < i then at0 t1.burn j else if j = i then b else at0 t2.burn j := by
  rw [← at0_get (l := (mixT t1 t2 i b n).burn) (by simp [mixT, hj])]
  simp [mixT]
theorem oil_same {s : Store} {p : Plan} {t t' : Truth} : ∀ (i : Nat), t.start = t'.start → (∀ j, j < i → at0 t.burn j = at0 t'.burn j) → oilAt s p t i = oilAt s p t' i
  | 0, h, _ => h
  | i + 1, h, hb => by
    simp only [oilAt]
    rw [oil_same i h (fun j hj => hb j (by omega)), hb i (by omega)]
theorem oil_from {s : Store} {p : Plan} {t t' : Truth} (i : Nat) (h : oilAt s p t i = oilAt s p t' i) : ∀ (m : Nat), (∀ j, i ≤ j → j < i + m → at0 t.burn j = at0 t'.burn j) → oilAt s p t (i + m) = oilAt s p t' (i + m)
  | 0, _ => h
  | m + 1, hb => by
    rw [← Nat.add_assoc]
    simp only [oilAt]
    rw [oil_from i h m (fun j h1 h2 => hb j h1 (by omega)), hb (i + m) (by omega) (by omega)]
theorem mem_night {s : Store} {p : Plan} {i : Nat} {o x : Int} : x ∈ nightL s p i o ↔ ∃ b, (nt s i).lo ≤ b ∧ b ≤ (nt s i).hi ∧ x = rest (nt s i) (now s o (at0 p.cans i)) (at0 p.wicks i) b := by
  simp only [nightL, nightN, List.mem_map, List.mem_range]
  constructor
  · rintro ⟨k, hk, rfl⟩
    exact ⟨(nt s i).lo + (k : Int), by omega, by omega, rfl⟩
  · rintro ⟨b, h1, h2, rfl⟩
    exact ⟨(b - (nt s i).lo).toNat, by omega, by rw [show (nt s i).lo + (((b - (nt s i).lo).toNat : Nat) : Int) = b by omega]⟩
theorem truth_bd {s : Store} {p : Plan} {t : Truth} (hf : Fine s p) (ht : truthOk s t = true) (i : Nat) (hi : i ≤ s.nights.length) : 0 ≤ oilAt s p t i ∧ oilAt s p t i ≤ 400 := by
  obtain ⟨h1, h2, h3, h4⟩ := truthOk_spec ht
  have hst := hf.ok.start
  have hcap := hf.ok.cap
  have := oil_bd (t := t) hf (by omega) (by omega) (fun j hj => by have := h4 j (by omega); have := hf.ok.nt hj; omega) i hi
  omega

theorem fwd_iff {s : Store} {p : Plan} {l : List Dip} (hf : Fine s p) : ∀ (i : Nat), i ≤ s.nights.length → ∀ x : Nat, fwd s p l i x = true ↔ ∃ t, truthOk s t = true ∧ (∀ j, j < i → agreesB l j (oilAt s p t (j + 1)) = true) ∧ oilAt s p t i = (x : Int)
  | 0, _, x => by
    have hst := hf.ok.start
    simp only [fwd, Bool.and_eq_true, decide_eq_true_eq]
    constructor
    · rintro ⟨h1, h2⟩
      refine ⟨⟨(x : Int), (lowT s).burn⟩, truthOk_of ⟨h1, h2⟩ (by simp [lowT]) fun i hi => ?_, fun j hj => by omega, rfl⟩
      have := hf.ok.nt hi
      show (nt s i).lo ≤ at0 (lowT s).burn i ∧ at0 (lowT s).burn i ≤ (nt s i).hi
      rw [lowT_burn s hi]; omega
    · rintro ⟨t, ht, _, rfl'⟩
      obtain ⟨h1, h2, _⟩ := truthOk_spec ht
      have : t.start = (x : Int) := rfl'
      omega
  | i + 1, hi, x => by
    have ih := fwd_iff (l := l) hf i (by omega)
    have hi' : i < s.nights.length := by omega
    constructor
    · intro h
      obtain ⟨o, ho, h1, h2, h3⟩ := fwd_from s p l i x h
      obtain ⟨t, ht, hag, hoil⟩ := (ih o).1 h1
      obtain ⟨b, hb1, hb2, hx⟩ := mem_night.1 h2
      obtain ⟨k1, k2, k3, k4⟩ := truthOk_spec ht
      have hsame : ∀ j, j ≤ i → oilAt s p (mixT t t i b s.nights.length) j = oilAt s p t j := fun j hj => oil_same j rfl fun m hm => by rw [mixT_burn _ _ _ _ _ _ (by omega), if_pos (by omega)]
      have hlast : oilAt s p (mixT t t i b s.nights.length) (i + 1) = (x : Int) := by
        simp only [oilAt]
        rw [hsame i (Nat.le_refl _), mixT_burn _ _ _ _ _ _ hi', if_neg (by omega), if_pos rfl, hoil, hx]
      refine ⟨mixT t t i b s.nights.length, truthOk_of ⟨k1, k2⟩ (by simp [mixT]) fun j hj => ?_, fun j hj => ?_, hlast⟩
      · rw [mixT_burn _ _ _ _ _ _ hj]
        have := k4 j (by omega)
        split
        · exact this
        · split
          · rename_i e; subst e; exact ⟨hb1, hb2⟩
          · exact this
      · by_cases e : j = i
        · subst e; rw [hlast]; exact h3
        · rw [hsame (j + 1) (by omega)]; exact hag j (by omega)
    · rintro ⟨t, ht, hag, hx⟩
      obtain ⟨k1, k2, k3, k4⟩ := truthOk_spec ht
      have hb := truth_bd hf ht i (by omega)
      have hon : ((oilAt s p t i).toNat : Int) = oilAt s p t i := by omega
      simp only [fwd, step0, List.any_eq_true, List.mem_range, Bool.and_eq_true]
      refine ⟨(oilAt s p t i).toNat, by omega, (ih _).2 ⟨t, ht, fun j hj => hag j (by omega), hon.symm⟩, ?_, ?_⟩
      · rw [List.contains_iff_mem, hon, ← hx]
        exact mem_night.2 ⟨at0 t.burn i, (k4 i (by omega)).1, (k4 i (by omega)).2, rfl⟩
      · rw [← hx]; exact hag i (by omega)

theorem levelAt_last (s : Store) (p : Plan) (l : List Dip) (n : Nat) (hn : 0 < n) : levelAt s p l n (n - 1) = fwd s p l n := by
  unfold levelAt
  rw [Nat.sub_self]
  simp only [bwd]
theorem level_iff {s : Store} {p : Plan} {l : List Dip} (hf : Fine s p) (i : Nat) (hi : i < s.nights.length) (x : Nat) (hx400 : x ≤ 400) : levelAt s p l s.nights.length i x = true ↔ ∃ t, Fits s p l t ∧ oilAt s p t (i + 1) = (x : Int) := by
  have key : ∀ k, k < s.nights.length → ∀ x : Nat, levelAt s p l s.nights.length (s.nights.length - 1 - k) x = true ↔ ∃ t, Fits s p l t ∧ oilAt s p t (s.nights.length - 1 - k + 1) = (x : Int) := by
    intro k
    induction k with
    | zero =>
      intro hk x
      rw [Nat.sub_zero, levelAt_last _ _ _ _ (by omega), show s.nights.length - 1 + 1 = s.nights.length by omega, fwd_iff hf _ (Nat.le_refl _)]
      constructor
      · rintro ⟨t, h1, h2, h3⟩; exact ⟨t, ⟨h1, h2⟩, h3⟩
      · rintro ⟨t, ⟨h1, h2⟩, h3⟩; exact ⟨t, h1, h2, h3⟩
    | succ k ih =>
      intro hk x
      have e : s.nights.length - 1 - k = s.nights.length - 1 - (k + 1) + 1 := by omega
      have ih' := ih (by omega)
      rw [e] at ih'
      have hlt : s.nights.length - 1 - (k + 1) + 1 < s.nights.length := by omega
      generalize s.nights.length - 1 - (k + 1) = i at ih' hlt
      rw [levelAt_step s p l _ _ hlt]
      unfold onB
      rw [Bool.and_eq_true, fwd_iff hf _ (by omega), List.any_eq_true]
      constructor
      · rintro ⟨⟨t1, h1, h2, h3⟩, y, hy, hly⟩
        obtain ⟨b, hb1, hb2, hyb⟩ := mem_night.1 hy
        have hy0 := night_bd hf hlt (oil := (x : Int)) (by omega) y hy
        obtain ⟨t2, ⟨g1, g2⟩, g3⟩ := (ih' y.toNat).1 hly
        obtain ⟨k1, k2, k3, k4⟩ := truthOk_spec h1
        obtain ⟨m1, m2, m3, m4⟩ := truthOk_spec g1
        have hsame : ∀ j, j ≤ i + 1 → oilAt s p (mixT t1 t2 (i + 1) b s.nights.length) j = oilAt s p t1 j := fun j hj => oil_same j rfl fun m hm => by rw [mixT_burn _ _ _ _ _ _ (by omega), if_pos (by omega)]
        have hmid : oilAt s p (mixT t1 t2 (i + 1) b s.nights.length) (i + 1 + 1) = oilAt s p t2 (i + 1 + 1) := by
          rw [g3]
          simp only [oilAt]
          have := hsame (i + 1) (Nat.le_refl _)
          simp only [oilAt] at this
          rw [this, mixT_burn _ _ _ _ _ _ hlt, if_neg (by omega), if_pos rfl]
          simp only [oilAt] at h3
          rw [h3, ← hyb]; omega
        have hrest : ∀ m, i + 1 + 1 + m ≤ s.nights.length → oilAt s p (mixT t1 t2 (i + 1) b s.nights.length) (i + 1 + 1 + m) = oilAt s p t2 (i + 1 + 1 + m) := fun m hm =>
          oil_from _ hmid m fun j hj1 hj2 => by rw [mixT_burn _ _ _ _ _ _ (by omega), if_neg (by omega), if_neg (by omega)]
        refine ⟨mixT t1 t2 (i + 1) b s.nights.length, ⟨truthOk_of ⟨k1, k2⟩ (by simp [mixT]) fun j hj => ?_, fun j hj => ?_⟩, ?_⟩
        · rw [mixT_burn _ _ _ _ _ _ hj]
          split
          · exact k4 j (by omega)
          · split
            · rename_i e; subst e; exact ⟨hb1, hb2⟩
            · exact m4 j (by omega)
        · by_cases e : j ≤ i
          · rw [hsame (j + 1) (by omega)]; exact h2 j (by omega)
          · have := hrest (j + 1 - (i + 1 + 1)) (by omega)
            rw [show i + 1 + 1 + (j + 1 - (i + 1 + 1)) = j + 1 by omega] at this
            rw [this]; exact g2 j hj
        · rw [hsame (i + 1) (Nat.le_refl _)]; exact h3
      · rintro ⟨t, ⟨h1, h2⟩, h3⟩
        obtain ⟨k1, k2, k3, k4⟩ := truthOk_spec h1
        have hb := truth_bd hf h1 (i + 1 + 1) (by omega)
        refine ⟨⟨t, h1, fun j hj => h2 j (by omega), h3⟩, oilAt s p t (i + 1 + 1), ?_, (ih' _).2 ⟨t, ⟨h1, h2⟩, by omega⟩⟩
        rw [← h3]
        exact mem_night.2 ⟨at0 t.burn (i + 1), (k4 _ (by omega)).1, (k4 _ (by omega)).2, rfl⟩
  have := key (s.nights.length - 1 - i) (by omega) x
  rwa [show s.nights.length - 1 - (s.nights.length - 1 - i) = i by omega] at this

theorem levelsOk_iff {s : Store} {p : Plan} {l : List Dip} (hf : Fine s p) : levelsOk s p l = true ↔ ∃ t, Fits s p l t := by
  have h0 := hf.ok.some_
  constructor
  · intro h
    unfold levelsOk at h
    have := List.all_eq_true.1 h (s.nights.length - 1) (List.mem_range.2 (by omega))
    rw [show s.nights.length - 1 + 1 = s.nights.length by omega, Bool.not_eq_true'] at this
    obtain ⟨x, hx, hfx⟩ := (some_iff _).1 this
    obtain ⟨t, h1, h2, _⟩ := (fwd_iff hf _ (Nat.le_refl _) x).1 hfx
    exact ⟨t, h1, h2⟩
  · rintro ⟨t, h1, h2⟩
    unfold levelsOk
    rw [List.all_eq_true]
    intro i hi
    have hi' := List.mem_range.1 hi
    rw [Bool.not_eq_true']
    have hb := truth_bd hf h1 (i + 1) (by omega)
    exact (some_iff _).2 ⟨(oilAt s p t (i + 1)).toNat, by omega, (fwd_iff hf _ (by omega) _).2 ⟨t, h1, fun j hj => h2 j (by omega), by omega⟩⟩

/-- the range of the oil after a night -/
theorem range_spec {s : Store} {p : Plan} {l : List Dip} (hf : Fine s p) (hok : levelsOk s p l = true) {i : Nat} (hi : i < s.nights.length) :
    (∃ t, Fits s p l t ∧ oilAt s p t (i + 1) = (ends (levelAt s p l s.nights.length i)).lo) ∧ (∃ t, Fits s p l t ∧ oilAt s p t (i + 1) = (ends (levelAt s p l s.nights.length i)).hi) ∧
    ∀ t, Fits s p l t → (ends (levelAt s p l s.nights.length i)).lo ≤ oilAt s p t (i + 1) ∧ oilAt s p t (i + 1) ≤ (ends (levelAt s p l s.nights.length i)).hi := by
  have hne := level_some hok hi
  obtain ⟨x, hx, hx4, hfx, hbx⟩ := lowest_some hne
  obtain ⟨y, hy, hy4, hfy, hby⟩ := highest_some hne
  obtain ⟨t1, a1, a2⟩ := (level_iff hf i hi x hx4).1 hfx
  obtain ⟨t2, b1, b2⟩ := (level_iff hf i hi y hy4).1 hfy
  refine ⟨⟨t1, a1, by simp only [ends]; rw [hx, a2]⟩, ⟨t2, b1, by simp only [ends]; rw [hy, b2]⟩, fun t ht => ?_⟩
  have hb := truth_bd hf ht.1 (i + 1) (by omega)
  have hl := (level_iff hf i hi (oilAt s p t (i + 1)).toNat (by omega)).2 ⟨t, ht, by omega⟩
  simp only [ends]
  rw [hx, hy]
  constructor
  · apply Classical.byContradiction
    intro hc
    have := hbx (oilAt s p t (i + 1)).toNat (by omega)
    rw [hl] at this; cases this
  · apply Classical.byContradiction
    intro hc
    have := hby (oilAt s p t (i + 1)).toNat (by omega) (by omega)
    rw [hl] at this; cases this
def rngs (s : Store) (p : Plan) (l : List Dip) : List Rng := (levels s p l).map ends
theorem rngs_len (s : Store) (p : Plan) (l : List Dip) : (rngs s p l).length = s.nights.length := by simp [rngs, levels]
theorem rngs_get (s : Store) (p : Plan) (l : List Dip) {i : Nat} (hi : i < s.nights.length) : (rngs s p l)[i]'(by rw [rngs_len]; exact hi) = ends (levelAt s p l s.nights.length i) := by simp [rngs, levels]
end Lp
end

section
/- Dips that are left out: the smallest list, the lexicographically first of these. -/
set_option linter.unusedVariables false
namespace Lp
def shorterB (a b : List Int) : Bool := decide (a.length < b.length) || (decide (a.length = b.length) && lexB a b)
theorem agrees_iff (l : List Dip) (j : Nat) (x : Int) : agreesB l j x = true ↔ ∀ d ∈ l, d.night = (j : Int) → d.lo ≤ x ∧ x ≤ d.hi := by
  simp only [agreesB, List.all_eq_true, Bool.or_eq_true, Bool.not_eq_true', decide_eq_false_iff_not, within_iff]
  constructor
  · intro h d hd hn
    rcases h d hd with h | h
    · exact absurd hn h
    · exact h
  · intro h d hd
    by_cases hn : d.night = (j : Int)
    · exact .inr (h d hd hn)
    · exact .inl hn
theorem fits_iff {s : Store} {p : Plan} {l : List Dip} {t : Truth} : Fits s p l t ↔ truthOk s t = true ∧ ∀ d ∈ l, ∀ j, j < s.nights.length → d.night = (j : Int) → d.lo ≤ oilAt s p t (j + 1) ∧ oilAt s p t (j + 1) ≤ d.hi := by
  unfold Fits
  simp only [agrees_iff]
  constructor
  · rintro ⟨h1, h2⟩; exact ⟨h1, fun d hd j hj hn => h2 j hj d hd hn⟩
  · rintro ⟨h1, h2⟩; exact ⟨h1, fun j hj d hd hn => h2 d hd j hj hn⟩
theorem fits_sub {s : Store} {p : Plan} {l l' : List Dip} {t : Truth} (hsub : ∀ d ∈ l', d ∈ l) (h : Fits s p l t) : Fits s p l' t := by
  rw [fits_iff] at *
  exact ⟨h.1, fun d hd => h.2 d (hsub d hd)⟩
theorem ok_sub {s : Store} {p : Plan} {l l' : List Dip} (hf : Fine s p) (hsub : ∀ d ∈ l', d ∈ l) (h : levelsOk s p l = true) : levelsOk s p l' = true := by
  rw [levelsOk_iff hf] at *
  obtain ⟨t, ht⟩ := h
  exact ⟨t, fits_sub hsub ht⟩
theorem dipped_ok {s : Store} {p : Plan} {l : List Dip} (h : check s p = 0) (hl : l.length ≤ 6) (ha : l.all (dipOk s) = true) : dippedE s p l = 0 := by
  unfold dippedE
  rw [if_neg (by omega), if_neg (by omega), ha]; rfl
theorem dipped_parts {s : Store} {p : Plan} {l : List Dip} (h : dippedE s p l = 0) : check s p = 0 ∧ l.length ≤ 6 ∧ l.all (dipOk s) = true := by
  unfold dippedE at h
  split at h
  · omega
  · split at h
    · omega
    · split at h
      · omega
      · rename_i h1 h2 h3
        refine ⟨by omega, by omega, by simpa using h3⟩
theorem oil_fine {s : Store} {p : Plan} {l : List Dip} (h : dippedE s p l = 0) : (levelsOk s p l = true → oilE s p l = 0 ∧ oilR s p l = rngs s p l) ∧ (levelsOk s p l = false → oilE s p l = 9 ∧ oilR s p l = []) := by
  constructor
  · intro hl
    have hE : oilE s p l = 0 := by unfold oilE; rw [if_neg (by omega), if_pos hl]
    exact ⟨hE, by unfold oilR; rw [if_pos hE]; rfl⟩
  · intro hl
    have hE : oilE s p l = 9 := by unfold oilE; rw [if_neg (by omega), if_neg (by rw [hl]; simp)]
    exact ⟨hE, by unfold oilR; rw [if_neg (by omega)]⟩

/-! ### lists of numbers that rise -/
def Inc (n : Nat) : Nat → List Int → Prop
  | _, [] => True
  | i, j :: js => ∃ k : Nat, j = (k : Int) ∧ i ≤ k ∧ k < n ∧ Inc n (k + 1) js
theorem Inc.mem {n : Nat} : ∀ {js : List Int} {i : Nat}, Inc n i js → ∀ j ∈ js, ∃ k : Nat, j = (k : Int) ∧ i ≤ k ∧ k < n
  | [], _, _, j, hj => by simp at hj
  | x :: js, i, h, j, hj => by
    obtain ⟨k, rfl, h1, h2, h3⟩ := h
    rcases List.mem_cons.1 hj with rfl | hj
    · exact ⟨k, rfl, h1, h2⟩
    · obtain ⟨m, e, h4, h5⟩ := h3.mem j hj
      exact ⟨m, e, by omega, h5⟩
theorem Inc.len {n : Nat} : ∀ {js : List Int} {i : Nat}, Inc n i js → i ≤ n → js.length ≤ n - i
  | [], _, _, _ => by simp
  | x :: js, i, ⟨k, _, h1, h2, h3⟩, hi => by
    have := h3.len (by omega)
    simp only [List.length_cons]
    omega
theorem Inc.weak {n n' : Nat} (hn : n ≤ n') : ∀ {js : List Int} {i : Nat}, Inc n i js → Inc n' i js
  | [], _, _ => trivial
  | x :: js, i, ⟨k, e, h1, h2, h3⟩ => ⟨k, e, h1, by omega, h3.weak hn⟩
theorem Inc.snoc {n : Nat} {k : Nat} (hk : k < n) : ∀ {js : List Int} {i : Nat}, i ≤ k → Inc k i js → Inc n i (js ++ [(k : Int)])
  | [], i, hi, _ => ⟨k, rfl, hi, hk, trivial⟩
  | x :: js, i, hi, ⟨m, e, h1, h2, h3⟩ => ⟨m, e, h1, by omega, Inc.snoc hk (by omega) h3⟩
theorem Inc.filter {n n' : Nat} {q : Int → Bool} (hq : ∀ k : Nat, q (k : Int) = true → k < n') : ∀ {js : List Int} {i : Nat}, Inc n i js → Inc n' i (js.filter q)
  | [], _, _ => trivial
  | x :: js, i, ⟨k, e, h1, h2, h3⟩ => by
    have ih := Inc.filter hq h3
    rw [List.filter_cons]
    split
    · rename_i hx
      subst e
      exact ⟨k, rfl, h1, hq k hx, ih⟩
    · have up : ∀ {js : List Int} {a b : Nat}, a ≤ b → Inc n' b js → Inc n' a js := by
        intro js a b hab h
        cases js with
        | nil => trivial
        | cons y js => obtain ⟨m, e, g1, g2, g3⟩ := h; exact ⟨m, e, by omega, g2, g3⟩
      exact up (by omega) ih
theorem Inc.up {n : Nat} {js : List Int} {a b : Nat} (hab : a ≤ b) (h : Inc n b js) : Inc n a js := by
  cases js with
  | nil => trivial
  | cons y js => obtain ⟨m, e, g1, g2, g3⟩ := h; exact ⟨m, e, by omega, g2, g3⟩

def Good (s : Store) (p : Plan) (l : List Dip) (out : List Int) : Prop := levelsOk s p (kept l out) = true
theorem mem_kept {l : List Dip} {out : List Int} {d : Dip} : d ∈ kept l out ↔ ∃ k : Nat, l[k]? = some d ∧ (k : Int) ∉ out := by
  unfold kept keptN
  rw [List.take_length]
  simp only [List.mem_map, List.mem_filter, Bool.not_eq_true', List.contains_eq_mem, decide_eq_false_iff_not]
  constructor
  · rintro ⟨⟨x, k⟩, ⟨h1, h2⟩, rfl⟩
    rw [List.mem_zipIdx_iff_getElem?] at h1
    exact ⟨k, h1, h2⟩
  · rintro ⟨k, h1, h2⟩
    exact ⟨(d, k), ⟨List.mem_zipIdx_iff_getElem?.2 h1, h2⟩, rfl⟩
theorem kept_nil (l : List Dip) : kept l [] = l := by
  unfold kept keptN
  rw [List.take_length, List.filter_eq_self.2 (by intro x _; simp)]
  simp [List.zipIdx_map_fst]

/-- the search: the lexicographically first -/
theorem leaveT_spec (s : Store) (p : Plan) (l : List Dip) : ∀ (m : Nat) (out : List Int) (i : Nat),
    (∀ r, leaveT s p l m out i = some r → ∃ js, r = out ++ js ∧ js.length = m ∧ Inc l.length i js ∧ Good s p l r ∧ ∀ js', js'.length = m → Inc l.length i js' → Good s p l (out ++ js') → lexB js' js = false) ∧
    (leaveT s p l m out i = none → ∀ js', js'.length = m → Inc l.length i js' → ¬ Good s p l (out ++ js'))
  | 0, out, i => by
    unfold leaveT
    constructor
    · intro r h
      split at h
      · rename_i hg
        injection h with h
        subst h
        refine ⟨[], by simp, rfl, trivial, hg, fun js' hl _ _ => ?_⟩
        have : js' = [] := List.eq_nil_of_length_eq_zero hl
        subst this; rfl
      · cases h
    · intro h js' hl _ hg
      have : js' = [] := List.eq_nil_of_length_eq_zero hl
      subst this
      rw [List.append_nil] at hg
      unfold Good at hg
      rw [if_pos hg] at h
      cases h
  | m + 1, out, i => by
    unfold leaveT
    have key : ∀ (c i : Nat), i + c = l.length ∨ (l.length ≤ i ∧ c = 0) →
        (∀ r, (List.range' i c).findSome? (fun (j : Nat) => leaveT s p l m (out ++ [(j : Int)]) (j + 1)) = some r → ∃ js, r = out ++ js ∧ js.length = m + 1 ∧ Inc l.length i js ∧ Good s p l r ∧ ∀ js', js'.length = m + 1 → Inc l.length i js' → Good s p l (out ++ js') → lexB js' js = false) ∧
        ((List.range' i c).findSome? (fun (j : Nat) => leaveT s p l m (out ++ [(j : Int)]) (j + 1)) = none → ∀ js', js'.length = m + 1 → Inc l.length i js' → ¬ Good s p l (out ++ js')) := by
      intro c
      induction c with
      | zero =>
        intro i hi
        constructor
        · intro r h; simp at h
        · intro _ js' hl hin hg
          cases js' with
          | nil => simp at hl
          | cons x js' =>
            obtain ⟨k, _, h1, h2, _⟩ := hin
            omega
      | succ c ih =>
        intro i hi
        have ih' := ih (i + 1) (by omega)
        have hT := leaveT_spec s p l m (out ++ [(i : Int)]) (i + 1)
        rw [List.range'_succ, List.findSome?_cons]
        constructor
        · intro r h
          split at h
          · rename_i r' hr'
            injection h with h
            subst h
            obtain ⟨js, h1, h2, h3, h4, h5⟩ := hT.1 _ hr'
            refine ⟨(i : Int) :: js, by rw [h1]; simp, by simp [h2], ⟨i, rfl, Nat.le_refl _, by omega, h3⟩, h4, fun js' hl hin hg => ?_⟩
            cases js' with
            | nil => simp at hl
            | cons x js' =>
              obtain ⟨k, rfl, g1, g2, g3⟩ := hin
              unfold lexB
              by_cases e : k = i
              · subst e
                rw [if_pos rfl]
                refine h5 js' (by simpa using hl) g3 ?_
                rw [List.append_assoc]; exact hg
              · rw [if_neg (by omega)]
                exact decide_eq_false (by omega)
          · rename_i hnone
            obtain ⟨js, h1, h2, h3, h4, h5⟩ := ih'.1 r h
            refine ⟨js, h1, h2, h3.up (by omega), h4, fun js' hl hin hg => ?_⟩
            cases js' with
            | nil => simp at hl
            | cons x js' =>
              obtain ⟨k, rfl, g1, g2, g3⟩ := hin
              by_cases e : k = i
              · subst e
                exact absurd (by rw [List.append_assoc]; exact hg) (hT.2 hnone js' (by simpa using hl) g3)
              · exact h5 _ hl ⟨k, rfl, by omega, g2, g3⟩ hg
        · intro h
          split at h
          · cases h
          · rename_i hnone
            intro js' hl hin hg
            cases js' with
            | nil => simp at hl
            | cons x js' =>
              obtain ⟨k, rfl, g1, g2, g3⟩ := hin
              by_cases e : k = i
              · subst e
                exact absurd (by rw [List.append_assoc]; exact hg) (hT.2 hnone js' (by simpa using hl) g3)
              · exact ih'.2 h _ hl ⟨k, rfl, by omega, g2, g3⟩ hg
    exact key (l.length - i) i (by omega)

theorem leave_spec {s : Store} {p : Plan} {l : List Dip} (hf : Fine s p) (h0 : dippedE s p l = 0) : Inc l.length 0 (leaveR s p l) ∧ Good s p l (leaveR s p l) ∧ ∀ js, Inc l.length 0 js → Good s p l js → shorterB js (leaveR s p l) = false := by
  unfold leaveR
  rw [if_pos h0]
  obtain ⟨r, hr⟩ := Option.isSome_iff_exists.1 (leaveS_some hf l)
  rw [hr]
  simp only [Option.getD_some]
  unfold leaveS at hr
  have key : ∀ (c m0 : Nat), (∀ m, m < m0 → leaveT s p l m [] 0 = none) → (List.range' m0 c).findSome? (fun m => leaveT s p l m [] 0) = some r → ∃ m, leaveT s p l m [] 0 = some r ∧ ∀ m', m' < m → leaveT s p l m' [] 0 = none := by
    intro c
    induction c with
    | zero => intro m0 _ h; simp at h
    | succ c ih =>
      intro m0 hn h
      rw [List.range'_succ, List.findSome?_cons] at h
      split at h
      · rename_i r' hr'
        injection h with h
        subst h
        exact ⟨m0, hr', hn⟩
      · rename_i hnone
        refine ih (m0 + 1) (fun m hm => ?_) h
        by_cases e : m = m0
        · subst e; exact hnone
        · exact hn m (by omega)
  rw [List.range_eq_range'] at hr
  obtain ⟨m, hm, hless⟩ := key _ 0 (fun m h => by omega) hr
  obtain ⟨js, h1, h2, h3, h4, h5⟩ := (leaveT_spec s p l m [] 0).1 r hm
  rw [List.nil_append] at h1
  subst h1
  refine ⟨h3, h4, fun js' hin hg => ?_⟩
  unfold shorterB
  by_cases e1 : js'.length < r.length
  · exact absurd hg ((leaveT_spec s p l js'.length [] 0).2 (hless _ (by omega)) js' rfl hin)
  · rw [decide_eq_false e1]
    by_cases e2 : js'.length = r.length
    · rw [h5 js' (by omega) hin hg]; simp
    · rw [decide_eq_false e2]; rfl
theorem lexB_tot' : ∀ (a b : List Int), a.length = b.length → lexB a b = false → lexB b a = false → a = b
  | [], [], _, _, _ => rfl
  | x :: a, y :: b, hl, h1, h2 => by
    simp only [lexB] at h1 h2
    by_cases hxy : x = y
    · subst hxy
      rw [if_pos rfl] at h1 h2
      rw [lexB_tot' a b (by simpa using hl) h1 h2]
    · rw [if_neg hxy] at h1
      rw [if_neg (fun h => hxy h.symm)] at h2
      simp at h1 h2
      omega
/-- one list alone is first -/
theorem shorter_uniq {a b : List Int} (h1 : shorterB a b = false) (h2 : shorterB b a = false) : a = b := by
  unfold shorterB at *
  rw [Bool.or_eq_false_iff] at *
  have e1 := of_decide_eq_false h1.1
  have e2 := of_decide_eq_false h2.1
  have hl : a.length = b.length := by omega
  have g1 := h1.2
  have g2 := h2.2
  rw [decide_eq_true hl, Bool.true_and] at g1
  rw [decide_eq_true hl.symm, Bool.true_and] at g2
  exact lexB_tot' a b hl g1 g2
theorem shorter_len {a b : List Int} (h : shorterB a b = false) : b.length ≤ a.length := by
  unfold shorterB at h
  rw [Bool.or_eq_false_iff] at h
  have := of_decide_eq_false h.1
  omega
theorem leave_nil {s : Store} {p : Plan} {l : List Dip} (hf : Fine s p) (h0 : dippedE s p l = 0) : leaveR s p l = [] ↔ levelsOk s p l = true := by
  obtain ⟨h1, h2, h3⟩ := leave_spec hf h0
  constructor
  · intro h
    rw [h] at h2
    unfold Good at h2
    rwa [kept_nil] at h2
  · intro h
    have := shorter_len (h3 [] trivial (by unfold Good; rw [kept_nil]; exact h))
    exact List.eq_nil_of_length_eq_zero (by simpa using this)
theorem leave_more {s : Store} {p : Plan} {l : List Dip} {d : Dip} (hf : Fine s p) (h0 : dippedE s p l = 0) (h1 : dippedE s p (l ++ [d]) = 0) : (leaveR s p l).length ≤ (leaveR s p (l ++ [d])).length ∧ (leaveR s p (l ++ [d])).length ≤ (leaveR s p l).length + 1 := by
  obtain ⟨a1, a2, a3⟩ := leave_spec hf h0
  obtain ⟨b1, b2, b3⟩ := leave_spec hf h1
  constructor
  · have hinc : Inc l.length 0 ((leaveR s p (l ++ [d])).filter fun j => decide (j < (l.length : Int))) := Inc.filter (fun k hk => by have := of_decide_eq_true hk; omega) b1
    have hg : Good s p l ((leaveR s p (l ++ [d])).filter fun j => decide (j < (l.length : Int))) := by
      refine ok_sub hf (fun x hx => ?_) b2
      obtain ⟨k, hk, hn⟩ := mem_kept.1 hx
      have hlt := (List.getElem?_eq_some_iff.1 hk).1
      refine mem_kept.2 ⟨k, by rw [List.getElem?_append_left hlt]; exact hk, fun hin => hn ?_⟩
      rw [List.mem_filter]
      exact ⟨hin, decide_eq_true (by omega)⟩
    have := shorter_len (a3 _ hinc hg)
    exact Nat.le_trans this (List.length_filter_le _ _)
  · have hinc : Inc (l ++ [d]).length 0 (leaveR s p l ++ [(l.length : Int)]) := Inc.snoc (by simp) (Nat.zero_le _) a1
    have hg : Good s p (l ++ [d]) (leaveR s p l ++ [(l.length : Int)]) := by
      refine ok_sub hf (fun x hx => ?_) a2
      obtain ⟨k, hk, hn⟩ := mem_kept.1 hx
      rw [List.mem_append, not_or] at hn
      by_cases e : k < l.length
      · exact mem_kept.2 ⟨k, by rw [List.getElem?_append_left e] at hk; exact hk, hn.1⟩
      · exfalso
        have hlt := (List.getElem?_eq_some_iff.1 hk).1
        simp at hlt
        have : k = l.length := by omega
        subst this
        exact hn.2 (by simp)
    have := shorter_len (b3 _ hinc hg)
    simpa using this
end Lp
end

section
/- All truths of a store, by their numbers; what going through all of them finds. -/
set_option linter.unusedVariables false
namespace Lp
def manyAt (s : Store) : Nat → Int
  | 0 => s.hi - s.lo + 1
  | i + 1 => manyAt s i * ((nt s i).hi - (nt s i).lo + 1)
def manyI (s : Store) : Int := manyAt s s.nights.length
def wid (s : Store) (i : Nat) : Nat := ((nt s i).hi - (nt s i).lo + 1).toNat
/-- what is left of a number when so many last nights have been taken -/
def nthQ (s : Store) (n : Nat) : Nat → Nat
  | 0 => n
  | k + 1 => nthQ s n k / wid s (s.nights.length - 1 - k)
def nthV (s : Store) (n i : Nat) : Int := (nt s i).lo + ((nthQ s n (s.nights.length - 1 - i) % wid s i : Nat) : Int)
def nthL (s : Store) (n j : Nat) : List Int := (List.range s.nights.length).map fun i => if j ≤ i then nthV s n i else 0
def nthT (s : Store) (n : Nat) : Truth := ⟨s.lo + (nthQ s n s.nights.length : Int), nthL s n 0⟩
theorem nthQ_le (s : Store) (n : Nat) : ∀ k, nthQ s n k ≤ n
  | 0 => Nat.le_refl _
  | k + 1 => Nat.le_trans (Nat.div_le_self _ _) (nthQ_le s n k)
theorem nthL_len (s : Store) (n j : Nat) : (nthL s n j).length = s.nights.length := by simp [nthL]
theorem nthL_top (s : Store) (n : Nat) : nthL s n s.nights.length = List.replicate s.nights.length 0 := by
  unfold nthL
  apply List.ext_getElem?
  intro i
  simp only [List.getElem?_map, List.getElem?_replicate]
  by_cases h : i < s.nights.length
  · rw [List.getElem?_range h, if_pos h]
    simp only [Option.map_some]
    rw [if_neg (by omega)]
  · rw [if_neg h, List.getElem?_eq_none (by simp; omega)]; rfl
theorem nthL_step (s : Store) (n j : Nat) (hj : j < s.nights.length) : nthL s n j = (nthL s n (j + 1)).set j (nthV s n j) := by
  apply List.ext_getElem?
  intro i
  rw [List.getElem?_set]
  by_cases h : i < s.nights.length
  · simp only [nthL, List.getElem?_map, List.getElem?_range h, Option.map_some, List.length_map, List.length_range]
    by_cases e : j = i
    · subst e; simp [h]
    · rw [if_neg e]
      by_cases h2 : j ≤ i
      · rw [if_pos h2, if_pos (by omega)]
      · rw [if_neg h2, if_neg (by omega)]
  · rw [List.getElem?_eq_none (by rw [nthL_len]; omega)]
    split
    · rename_i e; subst e; rw [if_neg (by rw [nthL_len]; omega)]
    · rw [List.getElem?_eq_none (by rw [nthL_len]; omega)]
theorem nthT_burn (s : Store) (n : Nat) {i : Nat} (hi : i < s.nights.length) : at0 (nthT s n).burn i = nthV s n i := by
  rw [← at0_get (l := (nthT s n).burn) (by show i < (nthL s n 0).length; rw [nthL_len]; exact hi)]
  simp [nthT, nthL]
/-- the product of the widths of the last so many nights -/
def widP (s : Store) : Nat → Nat
  | 0 => 1
  | k + 1 => widP s k * wid s (s.nights.length - 1 - k)
theorem nthQ_div (s : Store) (n : Nat) : ∀ k, nthQ s n k = n / widP s k
  | 0 => by simp [nthQ, widP]
  | k + 1 => by simp only [nthQ, widP]; rw [nthQ_div s n k, Nat.div_div_eq_div_mul]
theorem wid_pos {s : Store} (h : s.Ok) {i : Nat} (hi : i < s.nights.length) : 0 < wid s i ∧ (wid s i : Int) = (nt s i).hi - (nt s i).lo + 1 := by
  have := h.nt hi
  unfold wid
  omega
theorem many_wid {s : Store} (h : s.Ok) : manyI s = ((s.hi - s.lo + 1).toNat * widP s s.nights.length : Nat) := by
  have h0 := h.start
  have key : ∀ k, k ≤ s.nights.length → manyI s = manyAt s (s.nights.length - k) * (widP s k : Int) := by
    intro k
    induction k with
    | zero => intro _; simp [manyI, widP]
    | succ k ih =>
      intro hk
      rw [ih (by omega)]
      have e : s.nights.length - k = (s.nights.length - (k + 1)) + 1 := by omega
      rw [e]
      simp only [manyAt, widP]
      have hw := (wid_pos h (show s.nights.length - 1 - k < s.nights.length by omega)).2
      rw [show s.nights.length - (k + 1) = s.nights.length - 1 - k by omega]
      rw [← hw, Int.natCast_mul, Int.mul_assoc, Int.mul_comm (wid s _ : Int)]
  have := key s.nights.length (Nat.le_refl _)
  rw [Nat.sub_self] at this
  rw [this]
  simp only [manyAt, Int.natCast_mul]
  congr 1
  omega
theorem nth_ok {s : Store} (h : s.Ok) {n : Nat} (hn : (n : Int) < manyI s) : truthOk s (nthT s n) = true := by
  have h0 := h.start
  rw [many_wid h] at hn
  refine truthOk_of ⟨by simp [nthT]; omega, ?_⟩ (nthL_len s n 0) fun i hi => ?_
  · simp only [nthT]
    rw [nthQ_div]
    have : n / widP s s.nights.length < (s.hi - s.lo + 1).toNat := Nat.div_lt_of_lt_mul (by rw [Nat.mul_comm]; omega)
    omega
  · rw [nthT_burn s n hi]
    obtain ⟨w1, w2⟩ := wid_pos h hi
    have := Nat.mod_lt (nthQ s n (s.nights.length - 1 - i)) w1
    unfold nthV
    omega
/-- each truth has a number -/
theorem nth_all {s : Store} (h : s.Ok) {t : Truth} (ht : truthOk s t = true) : ∃ n : Nat, (n : Int) < manyI s ∧ (nthT s n).start = t.start ∧ ∀ i, i < s.nights.length → at0 (nthT s n).burn i = at0 t.burn i := by
  obtain ⟨k1, k2, k3, k4⟩ := truthOk_spec ht
  have h0 := h.start
  have key : ∀ k, k ≤ s.nights.length → ∀ q : Nat, ∃ n, nthQ s n k = q ∧ ∀ i, s.nights.length - k ≤ i → i < s.nights.length → nthV s n i = at0 t.burn i := by
    intro k
    induction k with
    | zero => intro _ q; exact ⟨q, rfl, fun i h1 h2 => by omega⟩
    | succ k ih =>
      intro hk q
      have hi : s.nights.length - 1 - k < s.nights.length := by omega
      obtain ⟨w1, w2⟩ := wid_pos h hi
      have hb := k4 (s.nights.length - 1 - k) (by omega)
      generalize hdv : (at0 t.burn (s.nights.length - 1 - k) - (nt s (s.nights.length - 1 - k)).lo).toNat = d
      have hd : d < wid s (s.nights.length - 1 - k) := by omega
      obtain ⟨n, h1, h2⟩ := ih (by omega) (q * wid s (s.nights.length - 1 - k) + d)
      refine ⟨n, ?_, fun i g1 g2 => ?_⟩
      · simp only [nthQ]
        rw [h1, Nat.add_comm, Nat.add_mul_div_right _ _ w1, Nat.div_eq_of_lt hd, Nat.zero_add]
      · by_cases e : i = s.nights.length - 1 - k
        · subst e
          unfold nthV
          rw [show s.nights.length - 1 - (s.nights.length - 1 - k) = k by omega, h1, Nat.add_comm, Nat.add_mul_mod_self_right, Nat.mod_eq_of_lt hd]
          omega
        · exact h2 i (by omega) g2
  obtain ⟨n, h1, h2⟩ := key s.nights.length (Nat.le_refl _) (t.start - s.lo).toNat
  refine ⟨n, ?_, ?_, fun i hi => by rw [nthT_burn s n hi]; exact h2 i (by omega) hi⟩
  · rw [many_wid h]
    rw [nthQ_div] at h1
    have hp : 0 < widP s s.nights.length := by
      have : ∀ k, k ≤ s.nights.length → 0 < widP s k := by
        intro k
        induction k with
        | zero => intro _; simp [widP]
        | succ k ih => intro hk; exact Nat.mul_pos (ih (by omega)) (wid_pos h (by omega)).1
      exact this _ (Nat.le_refl _)
    have : n < (n / widP s s.nights.length + 1) * widP s s.nights.length := by
      rw [Nat.mul_comm]; exact Nat.lt_mul_div_succ n hp
    rw [h1] at this
    have h3 : ((t.start - s.lo).toNat + 1) * widP s s.nights.length ≤ (s.hi - s.lo + 1).toNat * widP s s.nights.length := Nat.mul_le_mul_right _ (by omega)
    omega
  · simp only [nthT]; rw [h1]; omega
theorem nth_oil {s : Store} {p : Plan} {t t' : Truth} (h1 : t.start = t'.start) (h2 : ∀ i, i < s.nights.length → at0 t.burn i = at0 t'.burn i) (i : Nat) (hi : i ≤ s.nights.length) : oilAt s p t i = oilAt s p t' i := oil_same i h1 fun j hj => h2 j (by omega)
theorem nth_lit {s : Store} {p : Plan} {t t' : Truth} (h1 : t.start = t'.start) (h2 : ∀ i, i < s.nights.length → at0 t.burn i = at0 t'.burn i) (i : Nat) (hi : i < s.nights.length) : litAt s p t i = litAt s p t' i := by
  unfold litAt nowAt
  rw [nth_oil h1 h2 i (by omega), h2 i hi]

/-! ### ranges found -/
def agreeL (l : List Dip) (L : List Int) : Bool := l.all fun d => within (at0 L d.night.toNat) d.lo d.hi
/-- after so many truths: the range of the oil after a night -/
def RngOf (s : Store) (p : Plan) (l : List Dip) (m q : Nat) (r : Rng) : Prop :=
  (∃ k, k < m ∧ agreeL l (leftL s p (nthT s k) s.nights.length) = true ∧ oilAt s p (nthT s k) (q + 1) = r.lo) ∧ (∃ k, k < m ∧ agreeL l (leftL s p (nthT s k) s.nights.length) = true ∧ oilAt s p (nthT s k) (q + 1) = r.hi) ∧
  ∀ k, k < m → agreeL l (leftL s p (nthT s k) s.nights.length) = true → r.lo ≤ oilAt s p (nthT s k) (q + 1) ∧ oilAt s p (nthT s k) (q + 1) ≤ r.hi
def IsRng (s : Store) (p : Plan) (l : List Dip) (m : Nat) (r : List Rng) : Prop :=
  (r = [] ∧ ∀ k, k < m → agreeL l (leftL s p (nthT s k) s.nights.length) = false) ∨ (r.length = s.nights.length ∧ ∀ q x, r[q]? = some x → RngOf s p l m q x)
theorem RngOf.skip {s : Store} {p : Plan} {l : List Dip} {m q : Nat} {r : Rng} (h : RngOf s p l m q r) (ha : agreeL l (leftL s p (nthT s m) s.nights.length) = false) : RngOf s p l (m + 1) q r := by
  obtain ⟨⟨k1, a1, a2, a3⟩, ⟨k2, b1, b2, b3⟩, h3⟩ := h
  refine ⟨⟨k1, by omega, a2, a3⟩, ⟨k2, by omega, b2, b3⟩, fun k hk hk2 => ?_⟩
  by_cases e : k = m
  · subst e; rw [ha] at hk2; cases hk2
  · exact h3 k (by omega) hk2
theorem IsRng.skip {s : Store} {p : Plan} {l : List Dip} {m : Nat} {r : List Rng} (h : IsRng s p l m r) (ha : agreeL l (leftL s p (nthT s m) s.nights.length) = false) : IsRng s p l (m + 1) r := by
  rcases h with ⟨h1, h2⟩ | ⟨h1, h2⟩
  · refine .inl ⟨h1, fun k hk => ?_⟩
    by_cases e : k = m
    · subst e; exact ha
    · exact h2 k (by omega)
  · exact .inr ⟨h1, fun q x hx => (h2 q x hx).skip ha⟩
theorem RngOf.first {s : Store} {p : Plan} {l : List Dip} {m q : Nat} (hn : ∀ k, k < m → agreeL l (leftL s p (nthT s k) s.nights.length) = false) (ha : agreeL l (leftL s p (nthT s m) s.nights.length) = true) :
    RngOf s p l (m + 1) q ⟨oilAt s p (nthT s m) (q + 1), oilAt s p (nthT s m) (q + 1)⟩ := by
  refine ⟨⟨m, by omega, ha, rfl⟩, ⟨m, by omega, ha, rfl⟩, fun k hk hk2 => ?_⟩
  by_cases e : k = m
  · subst e; exact ⟨Int.le_refl _, Int.le_refl _⟩
  · rw [hn k (by omega)] at hk2; cases hk2
theorem RngOf.more {s : Store} {p : Plan} {l : List Dip} {m q : Nat} {r : Rng} (h : RngOf s p l m q r) (ha : agreeL l (leftL s p (nthT s m) s.nights.length) = true) {x : Int} (hx : oilAt s p (nthT s m) (q + 1) = x) :
    RngOf s p l (m + 1) q ⟨if x < r.lo then x else r.lo, if x > r.hi then x else r.hi⟩ := by
  obtain ⟨⟨k1, a1, a2, a3⟩, ⟨k2, b1, b2, b3⟩, h3⟩ := h
  refine ⟨?_, ?_, fun k hk hk2 => ?_⟩
  · simp only
    split
    · exact ⟨m, by omega, ha, hx⟩
    · exact ⟨k1, by omega, a2, a3⟩
  · simp only
    split
    · exact ⟨m, by omega, ha, hx⟩
    · exact ⟨k2, by omega, b2, b3⟩
  · simp only
    by_cases e : k = m
    · subst e; rw [hx]; constructor <;> split <;> omega
    · have := h3 k (by omega) hk2
      constructor <;> split <;> omega
theorem agree_fits {s : Store} {p : Plan} {l : List Dip} {t : Truth} (hd : ∀ d ∈ l, 0 ≤ d.night ∧ d.night < s.nights.length) (ht : truthOk s t = true) : agreeL l (leftL s p t s.nights.length) = true ↔ Fits s p l t := by
  have hat : ∀ j, j < s.nights.length → at0 (leftL s p t s.nights.length) j = oilAt s p t (j + 1) := fun j hj => by
    rw [← at0_get (l := leftL s p t s.nights.length) (by simp [leftL]; exact hj)]; simp [leftL]
  rw [fits_iff]
  unfold agreeL
  rw [List.all_eq_true]
  constructor
  · intro h
    refine ⟨ht, fun d hdm j hj hn => ?_⟩
    have := h d hdm
    rw [hn, Int.toNat_natCast, hat j hj, within_iff] at this
    exact this
  · rintro ⟨_, h⟩ d hdm
    obtain ⟨b1, b2⟩ := hd d hdm
    rw [hat _ (by omega), within_iff]
    exact h d hdm d.night.toNat (by omega) (by omega)
theorem fits_same {s : Store} {p : Plan} {l : List Dip} {t t' : Truth} (h1 : t.start = t'.start) (h2 : ∀ i, i < s.nights.length → at0 t.burn i = at0 t'.burn i) (ht' : truthOk s t' = true) (h : Fits s p l t) : Fits s p l t' := by
  refine ⟨ht', fun j hj => ?_⟩
  rw [← nth_oil h1 h2 (j + 1) (by omega)]
  exact h.2 j hj
/-- going through all truths finds what Oil returns -/
theorem rng_all {s : Store} {p : Plan} {l : List Dip} {m : Nat} {r : List Rng} (hf : Fine s p) (hd : ∀ d ∈ l, 0 ≤ d.night ∧ d.night < s.nights.length) (hm : (m : Int) = manyI s) (h : IsRng s p l m r) :
    (levelsOk s p l = true ∧ r = rngs s p l ∧ r ≠ []) ∨ (levelsOk s p l = false ∧ r = []) := by
  have hs0 := hf.ok.some_
  have all : ∀ t, Fits s p l t → ∃ k, k < m ∧ agreeL l (leftL s p (nthT s k) s.nights.length) = true ∧ ∀ j, j ≤ s.nights.length → oilAt s p (nthT s k) j = oilAt s p t j := fun t ht => by
    obtain ⟨k, a1, a2, a3⟩ := nth_all hf.ok ht.1
    have hk := nth_ok hf.ok a1
    refine ⟨k, by omega, (agree_fits hd hk).2 (fits_same a2.symm (fun i hi => (a3 i hi).symm) hk ht), fun j hj => nth_oil a2 a3 j hj⟩
  have back : ∀ k, k < m → agreeL l (leftL s p (nthT s k) s.nights.length) = true → Fits s p l (nthT s k) := fun k hk ha => (agree_fits hd (nth_ok hf.ok (by omega))).1 ha
  rcases h with ⟨h1, h2⟩ | ⟨h1, h2⟩
  · right
    refine ⟨?_, h1⟩
    cases hl : levelsOk s p l with
    | false => rfl
    | true =>
      obtain ⟨t, ht⟩ := (levelsOk_iff hf).1 hl
      obtain ⟨k, a1, a2, _⟩ := all t ht
      rw [h2 k a1] at a2; cases a2
  · left
    have hne : r ≠ [] := fun e => by rw [e] at h1; simp at h1; omega
    have hl : levelsOk s p l = true := by
      obtain ⟨⟨k, a1, a2, _⟩, _, _⟩ := h2 0 r[0] (List.getElem?_eq_getElem (by omega))
      exact (levelsOk_iff hf).2 ⟨_, back k a1 a2⟩
    refine ⟨hl, ?_, hne⟩
    apply List.ext_getElem
    · rw [rngs_len, h1]
    intro q hq hq'
    rw [rngs_get s p l (by omega)]
    obtain ⟨⟨k1, a1, a2, a3⟩, ⟨k2, b1, b2, b3⟩, h3⟩ := h2 q r[q] (List.getElem?_eq_getElem hq)
    obtain ⟨⟨t1, c1, c2⟩, ⟨t2, d1, d2⟩, g3⟩ := range_spec hf hl (show q < s.nights.length by omega)
    have u1 := g3 _ (back k1 a1 a2)
    have u2 := g3 _ (back k2 b1 b2)
    obtain ⟨m1, e1, e2, e3⟩ := all t1 c1
    obtain ⟨m2, f1, f2, f3⟩ := all t2 d1
    have v1 := h3 m1 e1 e2
    have v2 := h3 m2 f1 f2
    rw [e3 (q + 1) (by omega)] at v1
    rw [f3 (q + 1) (by omega)] at v2
    have : r[q].lo = (ends (levelAt s p l s.nights.length q)).lo := by omega
    have h' : r[q].hi = (ends (levelAt s p l s.nights.length q)).hi := by omega
    cases hr : r[q]
    rw [hr] at this h'
    simp only at this h'
    rw [this, h']
/-- a night can become dark in some truth, if and only if it does in the one that burns the most -/
theorem dark_all {s : Store} {p : Plan} {m : Nat} (hf : Fine s p) (hm : (m : Int) = manyI s) {i : Nat} (hi : i < s.nights.length) : (∃ k, k < m ∧ litAt s p (nthT s k) i = false) ↔ litAt s p (lowT s) i = false := by
  constructor
  · rintro ⟨k, hk, hl⟩
    cases h : litAt s p (lowT s) i with
    | false => rfl
    | true => rw [(low_le hf (nth_ok hf.ok (by omega)) i (by omega)).2 hi h] at hl; cases hl
  · intro h
    obtain ⟨k, a1, a2, a3⟩ := nth_all hf.ok (lowT_ok hf.ok)
    exact ⟨k, by omega, by rw [nth_lit a2 a3 i hi]; exact h⟩
end Lp
end

section
/- Walks: Many, few, DipsFault, dipped, ready, Sum, Light, has, subset, Shorter. -/
set_option linter.unusedVariables false
namespace Lp
theorem manyAt_bd {s : Store} (h : s.Ok) : ∀ i, i ≤ s.nights.length → 1 ≤ manyAt s i ∧ manyAt s i ≤ 401 * 11 ^ i
  | 0, _ => by have := h.start; have := h.cap; simp [manyAt]; omega
  | i + 1, hi => by
    have ih := manyAt_bd h i (by omega)
    have hn := h.nt (show i < s.nights.length by omega)
    have h1 : 1 ≤ (nt s i).hi - (nt s i).lo + 1 ∧ (nt s i).hi - (nt s i).lo + 1 ≤ 11 := by omega
    simp only [manyAt]
    generalize (nt s i).hi - (nt s i).lo + 1 = y at h1
    constructor
    · have := Int.mul_le_mul ih.1 h1.1 (by omega) (by omega)
      simpa using this
    · have := Int.mul_le_mul ih.2 h1.2 (by omega) (by have := ih.1; omega)
      rw [Int.pow_succ, ← Int.mul_assoc]
      exact this
theorem manyAt_le {s : Store} (h : s.Ok) (i : Nat) (hi : i ≤ s.nights.length) : 1 ≤ manyAt s i ∧ manyAt s i ≤ 710395961 := by
  obtain ⟨h1, h2⟩ := manyAt_bd h i hi
  have hf := h.few
  have h3 : (11 : Int) ^ i ≤ 11 ^ 6 := by
    have : (11 : Nat) ^ i ≤ 11 ^ 6 := Nat.pow_le_pow_right (by decide) (by omega)
    exact_mod_cast this
  have : (11 : Int) ^ 6 = 1771561 := by decide
  omega
def fewB (s : Store) (m : Int) : Bool := !decide (checkStore s = 0) || decide (manyI s ≤ m)
def dipsFault (s : Store) (l : List Dip) : Int := if (l.length : Int) > 6 then 3 else if !l.all (dipOk s) then 2 else 0
theorem dippedE_eq (s : Store) (p : Plan) (l : List Dip) : dippedE s p l = if check s p ≠ 0 then check s p else dipsFault s l := rfl
def readyB (s : Store) (p : Plan) : Bool := (decide (s.nights.length ≤ 9) && (decide (p.cans.length ≤ 9) && decide (p.wicks.length ≤ 9))) && decide (check s p = 0)
def sumN (l : List Int) : Nat → Int
  | 0 => 0
  | i + 1 => sumN l i + at0 l i
def sumL (l : List Int) : Int := sumN l l.length
theorem sumN_bd {l : List Int} {b : Int} (hb : 0 ≤ b) (h : ∀ x ∈ l, -b ≤ x ∧ x ≤ b) : ∀ i, i ≤ l.length → -(b * (i : Int)) ≤ sumN l i ∧ sumN l i ≤ b * (i : Int)
  | 0, _ => by simp [sumN]
  | i + 1, hi => by
    have ih := sumN_bd hb h i (by omega)
    have hx := h l[i] (List.getElem_mem (by omega))
    rw [at0_get (by omega)] at hx
    simp only [sumN]
    have e : b * ((i + 1 : Nat) : Int) = b * (i : Int) + b := by rw [Int.natCast_succ, Int.mul_add, Int.mul_one]
    rw [e]
    omega
def lightN (s : Store) (l : List Int) : Nat → Int
  | 0 => 0
  | i + 1 => lightN s l i + (nt s i).hours * at0 l i
def lightL (s : Store) (l : List Int) : Int := lightN s l s.nights.length
end Lp
namespace Go.Proofs.Ytaimlmfncjbmjaa
open Go Go.Vc Go.RowKit Lp

theorem _root_.Go.Vc.Cells.sub {w : World} {a : Addr} {cs : List Value} (h : Cells w a cs) (k : Nat) {b : Addr} (hb : b = a.add k) {ds : List Value} (hd : ds <+: cs.drop k) : Cells w b ds := by
  subst hb
  intro j u hj
  rw [add_add]
  refine h (k + j) u ?_
  obtain ⟨t', ht⟩ := hd
  have hlt : j < ds.length := (List.getElem?_eq_some_iff.1 hj).1
  have : (cs.drop k)[j]? = some u := by rw [← ht, List.getElem?_append_left hlt]; exact hj
  simpa [List.getElem?_drop] using this
theorem nxt {i : Nat} (h : i < 1000000000) : some (Value.int .i64 (IntKind.i64.wrap ((i : Int) + 1))) = some (Value.int .i64 ((i + 1 : Nat) : Int)) := congrArg (fun z => some (Value.int .i64 z)) (w64 (by omega) (by omega))
theorem nxtL {i : Nat} {n : Nat} (h : i < n) (hn : (n : Int) ≤ 9223372036854775807) : some (Value.int .i64 (IntKind.i64.wrap ((i : Int) + 1))) = some (Value.int .i64 ((i + 1 : Nat) : Int)) := congrArg (fun z => some (Value.int .i64 z)) (w64 (by omega) (by omega))

set_option maxHeartbeats 1000000 in
theorem Many_go (s : Store) (A : Option Addr) (c : Nat) (w : World) (hA : Rd dNight w A c s.nights) (hs : s.Ok) :
    Calls Try.prog 69 #[vStore s A c] w fun e w' => e = .returned (.int .i64 (manyI s)) ∧ w.grownBy w' none := by
  refine calls (G := G) (args := [vStore s A c]) Try.func69 rfl rfl rfl ?_
  have hst := hs.start
  have hcap := hs.cap
  have hfew := hs.few
  have e0 : IntKind.i64.wrap (IntKind.i64.wrap (s.hi - s.lo) + 1) = manyAt s 0 := by
    rw [w64 (x := s.hi - s.lo) (by omega) (by omega), w64 (by omega) (by omega)]; rfl
  refine M.run rfl (M.nw rfl fun g1 w1 b1 e1 l1 => M.run rfl (M.ld rfl (b1.cell rfl rfl) (M.run rfl (M.ld rfl (b1.cell rfl rfl) (M.run rfl ?_)))))
  rw [e0]
  refine M.loop (σ := Nat) (fun i => [(1, .pointer (some ⟨g1, 0, none⟩)), (3, .int .i64 (manyAt s i)), (4, .int .i64 (i : Int))]) (fun i w' => i ≤ s.nights.length ∧ w1.grownBy w' none) (fun i => s.nights.length - i) 0
    ⟨rfl, rfl, rfl, trivial⟩ ⟨Nat.zero_le _, gr_refl _ _⟩ ?_
  rintro i w2 ⟨hi, e2⟩
  have e02 := gr_trans e1 e2
  have c1 := b1.mv0 e2
  refine M.run rfl (M.ld rfl (c1.cell rfl rfl) (M.run rfl (M.cond rfl (fun h => ?_) (fun h => ?_))))
  · have hlt : i < s.nights.length := by have := of_decide_eq_true h; omega
    obtain ⟨hA1, hAC⟩ := rd_flat hA hlt
    rw [nt_get hlt] at hAC
    have hn := hs.nt hlt
    have hm := manyAt_le hs i hi
    have hm' := manyAt_le hs (i + 1) hlt
    have e3 : IntKind.i64.wrap (manyAt s i * IntKind.i64.wrap (IntKind.i64.wrap ((nt s i).hi - (nt s i).lo) + 1)) = manyAt s (i + 1) := by
      rw [w64 (x := (nt s i).hi - (nt s i).lo) (by omega) (by omega), w64 (x := (nt s i).hi - (nt s i).lo + 1) (by omega) (by omega)]
      show IntKind.i64.wrap (manyAt s (i + 1)) = _
      exact w64 (by omega) (by omega)
    refine M.run rfl <| M.quiet (by kernel_rfl) <| LQ.run rfl <| LQ.ld rfl (fun w' hw => (c1.mv0 hw).cell rfl rfl) <| LQ.run rfl <| LQ.ix rfl (by omega) (by omega) hA1 <| LQ.run rfl <| LQ.ld rfl (fun w' hw => (hAC w' (gr_below (gr_trans e02 hw))).one 4 rfl (by rw [add_add]; rfl)) <| LQ.run rfl <|
      LQ.ld rfl (fun w' hw => (c1.mv0 hw).cell rfl rfl) <| LQ.run rfl <| LQ.ix rfl (by omega) (by omega) hA1 <| LQ.run rfl <| LQ.ld rfl (fun w' hw => (hAC w' (gr_below (gr_trans e02 hw))).one 3 rfl rfl) <| LQ.run rfl <| LQ.nil fun w3 ew3 => ?_
    refine M.run rfl ?_
    rw [e3]
    exact M.end_ ⟨i + 1, ⟨rfl, rfl, nxt (by omega), trivial⟩, ⟨by omega, gr_trans e2 ew3⟩, by omega⟩
  · have hin : i = s.nights.length := by have := of_decide_eq_false h; omega
    subst hin
    exact M.run rfl (M.retF rfl rfl ⟨rfl, e02⟩)

theorem few_go (s : Store) (A : Option Addr) (c : Nat) (m : Int) (w : World) (hA : Rd dNight w A c s.nights) :
    Calls Try.prog 28 #[vStore s A c, .int .i64 m] w fun e w' => e = .returned (.bool (fewB s m)) ∧ w.grownBy w' none := by
  refine calls (G := G) (args := [vStore s A c, .int .i64 m]) Try.func28 rfl rfl rfl ?_
  refine M.run rfl (M.nw rfl fun g1 w1 b1 e1 l1 => M.run rfl (M.ldA rfl rfl b1.cellsAll (M.run rfl (M.cl rfl (Fault_go s A c w1 (hA.mv e1)) ?_))))
  rintro e w2 ⟨rfl, e2⟩
  have e02 := gr_trans e1 e2
  refine ⟨_, rfl, M.at_ [8] rfl (M.case 8 rfl (fun h => ?_) (fun h => ?_))⟩
  · have h' : checkStore s ≠ 0 := by simpa using h
    exact M.run rfl (M.retF rfl rfl ⟨by simp [fewB, h', oneOrTuple], e02⟩)
  · have h' : checkStore s = 0 := by simpa using h
    refine M.run rfl (M.ldA rfl rfl (b1.mv0 e2).cellsAll (M.run rfl (M.cl rfl (Many_go s A c w2 (hA.mv e02) (checkStore_ok h')) ?_)))
    rintro e w3 ⟨rfl, e3⟩
    exact ⟨_, rfl, M.run rfl (M.retF rfl rfl ⟨by simp [fewB, h', oneOrTuple], gr_trans e02 e3⟩)⟩

set_option maxHeartbeats 1000000 in
theorem DipsFault_go (s : Store) (l : List Dip) (A : Option Addr) (c : Nat) (U : Option Addr) (d : Nat) (w : World) (hU : Rd dDip w U d l) (hn : s.nights.length ≤ 1000) :
    Calls Try.prog 70 #[vStore s A c, .slice U l.length d] w fun e w' => e = .returned (.int .i64 (dipsFault s l)) ∧ w.grownBy w' none := by
  refine calls (G := G) (args := [vStore s A c, .slice U l.length d]) Try.func70 rfl rfl rfl ?_
  refine M.run rfl (M.nw rfl fun g1 w1 b1 e1 l1 => M.run rfl (M.cond rfl (fun h => ?_) (fun h => ?_)))
  · have h' := of_decide_eq_true h
    exact M.run rfl (M.retF rfl rfl ⟨by simp [dipsFault, h', oneOrTuple], e1⟩)
  have h' := of_decide_eq_false h
  have hE : dipsFault s l = if !l.all (dipOk s) then 2 else 0 := by unfold dipsFault; rw [if_neg h']
  refine M.run rfl ?_
  refine M.loop (σ := Nat) (fun i => [(1, .slice U l.length d), (2, .pointer (some ⟨g1, 0, none⟩)), (5, .int .i64 (i : Int))]) (fun i w' => i ≤ l.length ∧ w1.grownBy w' none ∧ ∀ (j : Nat) x, j < i → l[j]? = some x → dipOk s x = true)
    (fun i => l.length - i) 0 ⟨rfl, rfl, rfl, trivial⟩ ⟨Nat.zero_le _, gr_refl _ _, fun j x h => by omega⟩ ?_
  rintro i w2 ⟨hi, e2, hnn⟩
  have e02 := gr_trans e1 e2
  have c1 := b1.mv0 e2
  refine M.run rfl (M.cond rfl (fun h => ?_) (fun h => ?_))
  · have hlt : i < l.length := by have := of_decide_eq_true h; omega
    obtain ⟨hU1, hUC⟩ := rd_flat hU hlt
    have hgx : l[i]? = some l[i] := List.getElem?_eq_getElem hlt
    generalize l[i] = x at hUC hgx
    have hno : dipOk s x = false → (!l.all (dipOk s)) = true := fun hx => by
      rw [List.all_eq_false.2 ⟨x, List.mem_of_getElem? hgx, by simp [hx]⟩]; rfl
    have hwr : IntKind.i64.wrap ((s.nights.length : Int) - 1) = (s.nights.length : Int) - 1 := w64 (by omega) (by omega)
    refine M.run rfl (M.drawG [] (by kernel_rfl) fun w3 e3 => ?_)
    have e03 := gr_trans e02 e3
    refine D.run rfl (D.ys 2 rfl rfl rfl (YS.ix rfl (by omega) (by omega) hU1) (D.run rfl (D.ld 4 rfl rfl rfl rfl (fun w' hw => (hUC w' (gr_below (gr_trans e03 hw))).one 0 rfl rfl) (D.run rfl (D.ld 6 rfl rfl rfl rfl (fun w' hw => ((c1.mv0 e3).mv0 hw).cell rfl rfl) (D.run rfl ?_))))))
    rw [hwr]
    refine D.one 9 rfl rfl (M.cl rfl (In_go x.night 0 ((s.nights.length : Int) - 1) w3) ?_)
    rintro e w4 ⟨rfl, e4⟩
    have e04 := gr_trans e03 e4
    refine ⟨_, rfl, M.run rfl (M.end_ ⟨.inr e4, D.at_ [26] rfl (D.case 26 rfl (fun h1 => ?_) (fun h1 => ?_))⟩)⟩
    · have h1' : within x.night 0 ((s.nights.length : Int) - 1) = false := by simpa using h1
      refine D.run rfl (D.done_ rfl (M.run rfl (M.condT rfl rfl (M.run rfl (M.retF rfl rfl ⟨?_, e04⟩)))))
      rw [hE, hno (by unfold dipOk; rw [h1']; rfl)]; rfl
    · have h1' : within x.night 0 ((s.nights.length : Int) - 1) = true := by simpa using h1
      refine D.run rfl <| D.ys 14 rfl rfl rfl (YS.ix rfl (by omega) (by omega) hU1) <| D.run rfl <| D.ldA 16 rfl rfl rfl rfl rfl (fun w' hw => ((hUC w' (gr_below (gr_trans e04 hw))).sub 1 rfl ⟨[], rfl⟩ : Cells _ _ [_, _])) <| D.run rfl ?_
      refine D.one 17 rfl rfl (M.cl rfl (Span_go x.lo x.hi 400 w4) ?_)
      rintro e w5 ⟨rfl, e5⟩
      have e05 := gr_trans e04 e5
      refine ⟨_, rfl, M.run rfl (M.end_ ⟨.inr e5, D.run rfl (D.done_ rfl (M.run rfl (M.cond rfl (fun h2 => ?_) (fun h2 => ?_))))⟩)⟩
      · have h2' : rto x.lo x.hi 400 = false := by simpa using h2
        refine M.run rfl (M.retF rfl rfl ⟨?_, e05⟩)
        rw [hE, hno (by unfold dipOk; rw [h2', Bool.and_false])]; rfl
      · have h2' : rto x.lo x.hi 400 = true := by simpa using h2
        refine M.run rfl (M.end_ ⟨i + 1, ⟨rfl, rfl, nxtL hlt hU.bd, trivial⟩, ⟨by omega, gr_trans e2 (gr_trans e3 (gr_trans e4 e5)), fun j y hj hy => ?_⟩, by omega⟩)
        by_cases hji : j < i
        · exact hnn j y hji hy
        · have : j = i := by omega
          subst this
          rw [hgx] at hy
          injection hy with hy
          rw [← hy]; unfold dipOk; rw [h1', h2']; rfl
  · have hall : l.all (dipOk s) = true := by
      rw [List.all_eq_true]
      intro x hx
      obtain ⟨j, hj⟩ := List.mem_iff_getElem?.1 hx
      refine hnn j x ?_ hj
      have := (List.getElem?_eq_some_iff.1 hj).1
      have := of_decide_eq_false h
      omega
    exact M.run rfl (M.retF rfl rfl ⟨by rw [hE, hall]; rfl, e02⟩)

theorem dippedL_go (s : Store) (p : Plan) (l : List Dip) (A : Option Addr) (c : Nat) (B : Option Addr) (b : Nat) (U : Option Addr) (d : Nat) (E : Option Addr) (f : Nat) (w : World) (hA : Rd dNight w A c s.nights) (hB : Rd dI w B b p.cans) (hU : Rd dI w U d p.wicks) (hE : Rd dDip w E f l) :
    Calls Try.prog 29 #[vStore s A c, vPlan p B b U d, .slice E l.length f] w fun e w' => e = .returned (.int .i64 (dippedE s p l)) ∧ w.grownBy w' none := by
  refine calls (G := G) (args := [vStore s A c, vPlan p B b U d, .slice E l.length f]) Try.func29 rfl rfl rfl ?_
  refine M.run rfl (M.nw rfl fun g1 w1 b1 e1 l1 => M.run rfl (M.nw rfl fun g2 w2 b2 e2 l2 => M.run rfl (M.ldA rfl rfl (b1.mv0 e2).cellsAll (M.run rfl (M.ldA rfl rfl b2.cellsAll (M.run rfl (M.cl rfl (planned_go s p A c B b U d w2 (hA.mv (gr_trans e1 e2)) (hB.mv (gr_trans e1 e2)) (hU.mv (gr_trans e1 e2))) ?_)))))))
  rintro e w3 ⟨rfl, e3⟩
  have e03 := gr_trans (gr_trans e1 e2) e3
  rw [dippedE_eq]
  refine ⟨_, rfl, M.run rfl (M.cond rfl (fun h => ?_) (fun h => ?_))⟩
  · have h' : check s p ≠ 0 := by simpa using h
    exact M.run rfl (M.retF rfl rfl ⟨by simp [h', oneOrTuple], e03⟩)
  · have h' : check s p = 0 := by simpa using h
    have hok := check_fine h'
    refine M.run rfl (M.ldA rfl rfl ((b1.mv0 e2).mv0 e3).cellsAll (M.run rfl (M.cl rfl (DipsFault_go s l A c E f w3 (hE.mv e03) (by have := hok.ok.few; omega)) ?_)))
    rintro e w4 ⟨rfl, e4⟩
    exact ⟨_, rfl, M.run rfl (M.retF rfl rfl ⟨by simp [h', oneOrTuple], gr_trans e03 e4⟩)⟩

theorem ready_go (s : Store) (p : Plan) (A : Option Addr) (c : Nat) (B : Option Addr) (b : Nat) (U : Option Addr) (d : Nat) (w : World) (hA : Rd dNight w A c s.nights) (hB : Rd dI w B b p.cans) (hU : Rd dI w U d p.wicks) :
    Calls Try.prog 42 #[vStore s A c, vPlan p B b U d] w fun e w' => e = .returned (.bool (readyB s p)) ∧ w.grownBy w' none := by
  refine calls (G := G) (args := [vStore s A c, vPlan p B b U d]) Try.func42 rfl rfl rfl ?_
  refine M.run rfl (M.nw rfl fun g1 w1 b1 e1 l1 => M.run rfl (M.nw rfl fun g2 w2 b2 e2 l2 => M.run rfl (M.ldA rfl rfl (b1.mv0 e2).cellsAll (M.run rfl (M.ldA rfl rfl b2.cellsAll (M.run rfl (M.cl rfl (Thin_go s p A c B b U d w2) ?_)))))))
  rintro e w3 ⟨rfl, e3⟩
  have e03 := gr_trans (gr_trans e1 e2) e3
  refine ⟨_, rfl, M.at_ [8] rfl (M.case 8 rfl (fun h => ?_) (fun h => ?_))⟩
  · refine M.run rfl (M.ldA rfl rfl ((b1.mv0 e2).mv0 e3).cellsAll (M.run rfl (M.ldA rfl rfl (b2.mv0 e3).cellsAll (M.run rfl (M.cl rfl (planned_go s p A c B b U d w3 (hA.mv e03) (hB.mv e03) (hU.mv e03)) ?_)))))
    rintro e w4 ⟨rfl, e4⟩
    refine ⟨_, rfl, M.run rfl (M.retF rfl rfl ⟨?_, gr_trans e03 e4⟩)⟩
    have : readyB s p = (check s p == 0) := by
      unfold readyB; unfold thin at h; rw [h, Bool.true_and]
      by_cases h0 : check s p = 0 <;> simp [h0]
    rw [this]; rfl
  · refine M.run rfl (M.retF rfl rfl ⟨?_, e03⟩)
    have : readyB s p = false := by unfold readyB; unfold thin at h; rw [h]; rfl
    rw [this]; rfl

theorem Sum_go (l : List Int) (U : Option Addr) (d : Nat) (w : World) (hU : Rd dI w U d l) (hb : ∀ x ∈ l, -1000 ≤ x ∧ x ≤ 1000) (hn : l.length ≤ 1000) :
    Calls Try.prog 37 #[.slice U l.length d] w fun e w' => e = .returned (.int .i64 (sumL l)) ∧ w.grownBy w' none := by
  refine calls (G := G) (args := [.slice U l.length d]) Try.func37 rfl rfl rfl ?_
  refine M.run rfl ?_
  refine M.loop (σ := Nat) (fun i => [(0, .slice U l.length d), (3, .int .i64 (sumN l i)), (4, .int .i64 (i : Int))]) (fun i w' => i ≤ l.length ∧ w.grownBy w' none) (fun i => l.length - i) 0
    ⟨rfl, rfl, rfl, trivial⟩ ⟨Nat.zero_le _, gr_refl _ _⟩ ?_
  rintro i w2 ⟨hi, e2⟩
  refine M.run rfl (M.cond rfl (fun h => ?_) (fun h => ?_))
  · have hlt : i < l.length := by have := of_decide_eq_true h; omega
    obtain ⟨hU1, hUC⟩ := rd_flat hU hlt
    have hx := hb _ (List.getElem_mem hlt)
    rw [at0_get hlt] at hUC hx
    have hs := sumN_bd (by omega) hb i hi
    refine M.run rfl (M.ix rfl (by omega) (by omega) hU1 (M.run rfl (M.ld rfl ((hUC w2 (gr_below e2)).one 0 rfl rfl) (M.run rfl ?_))))
    have e3 : IntKind.i64.wrap (sumN l i + at0 l i) = sumN l (i + 1) := w64 (by omega) (by omega)
    rw [e3]
    exact M.end_ ⟨i + 1, ⟨rfl, rfl, nxt (by omega), trivial⟩, ⟨by omega, e2⟩, by omega⟩
  · have hin : i = l.length := by have := of_decide_eq_false h; omega
    subst hin
    exact M.run rfl (M.retF rfl rfl ⟨rfl, e2⟩)

set_option maxHeartbeats 1000000 in
theorem Light_go (s : Store) (l : List Int) (A : Option Addr) (c : Nat) (U : Option Addr) (d : Nat) (w : World) (hA : Rd dNight w A c s.nights) (hU : Rd dI w U d l) (hs : s.Ok) (hl : wicksOk s l = true) :
    Calls Try.prog 41 #[vStore s A c, .slice U l.length d] w fun e w' => e = .returned (.int .i64 (lightL s l)) ∧ w.grownBy w' none := by
  obtain ⟨hll, hlw⟩ := wicksOk_spec hl
  have hfew := hs.few
  have hbd : ∀ i, i ≤ s.nights.length → 0 ≤ lightN s l i ∧ lightN s l i ≤ 56 * (i : Int) := by
    intro i
    induction i with
    | zero => intro _; simp [lightN]
    | succ i ih =>
      intro hi
      have := ih (by omega)
      have hn := hs.nt (show i < s.nights.length by omega)
      have hw := hlw i (by omega)
      have hm := mul_bd (a := (nt s i).hours) (A := 14) (b := at0 l i) (B := 4) ⟨by omega, by omega⟩ ⟨by omega, by omega⟩ (by omega)
      simp only [lightN]
      omega
  refine calls (G := G) (args := [vStore s A c, .slice U l.length d]) Try.func41 rfl rfl rfl ?_
  refine M.run rfl (M.nw rfl fun g1 w1 b1 e1 l1 => M.run rfl ?_)
  refine M.loop (σ := Nat) (fun i => [(1, .slice U l.length d), (2, .pointer (some ⟨g1, 0, none⟩)), (5, .int .i64 (lightN s l i)), (6, .int .i64 (i : Int))]) (fun i w' => i ≤ s.nights.length ∧ w1.grownBy w' none) (fun i => s.nights.length - i) 0
    ⟨rfl, rfl, rfl, rfl, trivial⟩ ⟨Nat.zero_le _, gr_refl _ _⟩ ?_
  rintro i w2 ⟨hi, e2⟩
  have e02 := gr_trans e1 e2
  have c1 := b1.mv0 e2
  refine M.run rfl (M.ld rfl (c1.cell rfl rfl) (M.run rfl (M.cond rfl (fun h => ?_) (fun h => ?_))))
  · have hlt : i < s.nights.length := by have := of_decide_eq_true h; omega
    have hlt' : i < l.length := by omega
    obtain ⟨hA1, hAC⟩ := rd_flat hA hlt
    obtain ⟨hU1, hUC⟩ := rd_flat hU hlt'
    rw [nt_get hlt] at hAC
    rw [at0_get hlt'] at hUC
    have hn := hs.nt hlt
    have hw := hlw i hlt'
    have hm := mul_bd (a := (nt s i).hours) (A := 14) (b := at0 l i) (B := 4) ⟨by omega, by omega⟩ ⟨by omega, by omega⟩ (by omega)
    have h0 := hbd i hi
    have e3 : IntKind.i64.wrap (lightN s l i + IntKind.i64.wrap ((nt s i).hours * at0 l i)) = lightN s l (i + 1) := by
      rw [w64 (x := (nt s i).hours * at0 l i) (by omega) (by omega)]
      exact w64 (by omega) (by omega)
    refine M.run rfl <| M.quiet (by kernel_rfl) <| LQ.run rfl <| LQ.ld rfl (fun w' hw => (c1.mv0 hw).cell rfl rfl) <| LQ.run rfl <| LQ.ix rfl (by omega) (by omega) hA1 <| LQ.run rfl <| LQ.ld rfl (fun w' hw => (hAC w' (gr_below (gr_trans e02 hw))).one 0 rfl rfl) <| LQ.run rfl <|
      LQ.ix rfl (by omega) (by omega) hU1 <| LQ.run rfl <| LQ.ld rfl (fun w' hw => (hUC w' (gr_below (gr_trans e02 hw))).one 0 rfl rfl) <| LQ.run rfl <| LQ.nil fun w3 ew3 => ?_
    refine M.run rfl ?_
    rw [e3]
    exact M.end_ ⟨i + 1, ⟨rfl, rfl, rfl, nxt (by omega), trivial⟩, ⟨by omega, gr_trans e2 ew3⟩, by omega⟩
  · have hin : i = s.nights.length := by have := of_decide_eq_false h; omega
    subst hin
    exact M.run rfl (M.retF rfl rfl ⟨rfl, e02⟩)

theorem has_go (l : List Int) (x : Int) (U : Option Addr) (d : Nat) (w : World) (hU : Rd dI w U d l) :
    Calls Try.prog 47 #[.slice U l.length d, .int .i64 x] w fun e w' => e = .returned (.bool (l.contains x)) ∧ w.grownBy w' none := by
  refine calls (G := G) (args := [.slice U l.length d, .int .i64 x]) Try.func47 rfl rfl rfl ?_
  refine M.run rfl ?_
  refine M.loop (σ := Nat) (fun i => [(0, .slice U l.length d), (1, .int .i64 x), (5, .int .i64 (i : Int))]) (fun i w' => i ≤ l.length ∧ w.grownBy w' none ∧ ∀ (j : Nat) y, j < i → l[j]? = some y → y ≠ x) (fun i => l.length - i) 0
    ⟨rfl, rfl, rfl, trivial⟩ ⟨Nat.zero_le _, gr_refl _ _, fun j y h => by omega⟩ ?_
  rintro i w2 ⟨hi, e2, hn⟩
  refine M.run rfl (M.cond rfl (fun h => ?_) (fun h => ?_))
  · have hlt : i < l.length := by have := of_decide_eq_true h; omega
    obtain ⟨hU1, hUC⟩ := rd_flat hU hlt
    refine M.run rfl (M.ix rfl (by omega) (by omega) hU1 (M.run rfl (M.ld rfl ((hUC w2 (gr_below e2)).one 0 rfl rfl) (M.run rfl (M.cond rfl (fun h2 => ?_) (fun h2 => ?_))))))
    · have h2' : l[i] = x := by simpa using h2
      refine M.run rfl (M.retF rfl rfl ⟨?_, e2⟩)
      have : l.contains x = true := by rw [List.contains_iff_mem, ← h2']; exact List.getElem_mem hlt
      rw [this]; rfl
    · have h2' : l[i] ≠ x := by simpa using h2
      refine M.run rfl (M.end_ ⟨i + 1, ⟨rfl, rfl, nxtL hlt hU.bd, trivial⟩, ⟨by omega, e2, fun j y hj hy => ?_⟩, by omega⟩)
      by_cases hji : j < i
      · exact hn j y hji hy
      · have : j = i := by omega
        subst this
        rw [List.getElem?_eq_getElem hlt] at hy
        injection hy with hy
        rw [← hy]; exact h2'
  · refine M.run rfl (M.retF rfl rfl ⟨?_, e2⟩)
    have : l.contains x = false := by
      cases hc : l.contains x with
      | false => rfl
      | true =>
        rw [List.contains_iff_mem] at hc
        obtain ⟨j, hj⟩ := List.mem_iff_getElem?.1 hc
        exact absurd rfl (hn j x (by have := (List.getElem?_eq_some_iff.1 hj).1; have := of_decide_eq_false h; omega) hj)
    rw [this]; rfl

theorem subset_go (a b : List Int) (U : Option Addr) (d : Nat) (V : Option Addr) (f : Nat) (w : World) (hU : Rd dI w U d a) (hV : Rd dI w V f b) :
    Calls Try.prog 50 #[.slice U a.length d, .slice V b.length f] w fun e w' => e = .returned (.bool (a.all b.contains)) ∧ w.grownBy w' none := by
  refine calls (G := G) (args := [.slice U a.length d, .slice V b.length f]) Try.func50 rfl rfl rfl ?_
  refine M.run rfl ?_
  refine M.loop (σ := Nat) (fun i => [(0, .slice U a.length d), (1, .slice V b.length f), (5, .int .i64 (i : Int))]) (fun i w' => i ≤ a.length ∧ w.grownBy w' none ∧ ∀ (j : Nat) y, j < i → a[j]? = some y → b.contains y = true) (fun i => a.length - i) 0
    ⟨rfl, rfl, rfl, trivial⟩ ⟨Nat.zero_le _, gr_refl _ _, fun j y h => by omega⟩ ?_
  rintro i w2 ⟨hi, e2, hn⟩
  refine M.run rfl (M.cond rfl (fun h => ?_) (fun h => ?_))
  · have hlt : i < a.length := by have := of_decide_eq_true h; omega
    obtain ⟨hU1, hUC⟩ := rd_flat hU hlt
    refine M.run rfl (M.ix rfl (by omega) (by omega) hU1 (M.run rfl (M.ld rfl ((hUC w2 (gr_below e2)).one 0 rfl rfl) (M.run rfl (M.cl rfl (has_go b a[i] V f w2 (hV.mv e2)) ?_)))))
    rintro e w3 ⟨rfl, e3⟩
    refine ⟨_, rfl, M.run rfl (M.cond rfl (fun h2 => ?_) (fun h2 => ?_))⟩
    · have h2' : b.contains a[i] = false := by simpa using h2
      refine M.run rfl (M.retF rfl rfl ⟨?_, gr_trans e2 e3⟩)
      rw [List.all_eq_false.2 ⟨a[i], List.getElem_mem hlt, by rw [h2']; simp⟩]; rfl
    · have h2' : b.contains a[i] = true := by simpa using h2
      refine M.run rfl (M.end_ ⟨i + 1, ⟨rfl, rfl, nxtL hlt hU.bd, trivial⟩, ⟨by omega, gr_trans e2 e3, fun j y hj hy => ?_⟩, by omega⟩)
      by_cases hji : j < i
      · exact hn j y hji hy
      · have : j = i := by omega
        subst this
        rw [List.getElem?_eq_getElem hlt] at hy
        injection hy with hy
        rw [← hy]; exact h2'
  · refine M.run rfl (M.retF rfl rfl ⟨?_, e2⟩)
    have : a.all b.contains = true := by
      rw [List.all_eq_true]
      intro x hx
      obtain ⟨j, hj⟩ := List.mem_iff_getElem?.1 hx
      exact hn j x (by have := (List.getElem?_eq_some_iff.1 hj).1; have := of_decide_eq_false h; omega) hj
    rw [this]; rfl

theorem Shorter_go (a b : List Int) (U : Option Addr) (d : Nat) (V : Option Addr) (f : Nat) (w : World) (hU : Rd dI w U d a) (hV : Rd dI w V f b) :
    Calls Try.prog 49 #[.slice U a.length d, .slice V b.length f] w fun e w' => e = .returned (.bool (shorterB a b)) ∧ w.grownBy w' none := by
  refine calls (G := G) (args := [.slice U a.length d, .slice V b.length f]) Try.func49 rfl rfl rfl ?_
  refine M.at_ [10] rfl (M.case 10 rfl (fun h => ?_) (fun h => ?_))
  · have h' : a.length < b.length := by have := of_decide_eq_true h; omega
    exact M.run rfl (M.retF rfl rfl ⟨by simp [shorterB, h', oneOrTuple], gr_refl _ _⟩)
  have h' : ¬ a.length < b.length := by have := of_decide_eq_false h; omega
  refine M.at_ [16] rfl (M.case 16 rfl (fun h2 => ?_) (fun h2 => ?_))
  · have h2i : (a.length : Int) = b.length := by simpa using h2
    have h2' : a.length = b.length := by omega
    refine M.run rfl (M.cl rfl (Before_go a b U d V f w hU hV) ?_)
    rintro e w3 ⟨rfl, e3⟩
    exact ⟨_, rfl, M.run rfl (M.retF rfl rfl ⟨by simp [shorterB, h2', oneOrTuple], e3⟩)⟩
  · have h2' : ¬ a.length = b.length := by
      have : ¬ (a.length : Int) = b.length := by simpa using h2
      omega
    exact M.run rfl (M.retF rfl rfl ⟨by simp [shorterB, h', h2', oneOrTuple], gr_refl _ _⟩)
end Go.Proofs.Ytaimlmfncjbmjaa
end

section
/- Walk of the law: LampFewest. -/
set_option linter.unusedVariables false
namespace Lp
theorem sumN_cons (x : Int) (xs : List Int) : ∀ i, sumN (x :: xs) (i + 1) = x + sumN xs i
  | 0 => by simp [sumN, at0]
  | i + 1 => by
    rw [sumN, sumN_cons x xs i, sumN]
    have : at0 (x :: xs) (i + 1) = at0 xs i := by simp [at0, List.getD]
    rw [this]; omega
theorem sumL_cons (x : Int) (xs : List Int) : sumL (x :: xs) = x + sumL xs := sumN_cons x xs xs.length
theorem costD (wicks : List Int) : ∀ (xs : List Int) (i : Nat), costP (wkD wicks) xs i = sumL xs
  | [], i => rfl
  | x :: xs, i => by
    rw [sumL_cons]
    simp only [costP]
    rw [costD wicks xs (i + 1)]
    rfl
theorem ready_check {s : Store} {p : Plan} (h : readyB s p = true) : check s p = 0 := by
  unfold readyB at h
  rw [Bool.and_eq_true] at h
  exact of_decide_eq_true h.2
theorem small_cans {s : Store} {l : List Int} (h : cansOk s l = true) : ∀ x ∈ l, -1000 ≤ x ∧ x ≤ 1000 := by
  intro x hx
  simp only [cansOk, Bool.and_eq_true, List.all_eq_true, within_iff] at h
  have := h.2 x hx
  omega
end Lp
namespace Go.Proofs.Ytaimlmfncjbmjaa
open Go Go.Vc Go.RowKit Lp

theorem _root_.Go.Vc.M.caseF {G : Ctx} {n : Nat} {Q : QT} {ρ : Env} {w : World} {all : Array Oper} {l : List Oper} {k : List It} (d : Nat) {b : Bool} (hd : ρ.find d = some (.bool b)) (hb : b = false) (h : M G n (.ops all l :: k) Q ((d, .bool false) :: ρ) w) : M G n (.ops all l :: k) Q ρ w :=
  M.case d hd (fun h2 => by rw [hb] at h2; cases h2) (fun _ => h)
theorem _root_.Go.Vc.D.caseF {G : Ctx} {n : Nat} {all : Array Oper} {ρ : Env} {R RL : World → World → Prop} {late ex sk : List Nat} {k : List It} {Q : QT} {m : Nat} {done : List Nat} {w : World} (s : Nat) {b : Bool} (hd : ρ.find s = some (.bool b)) (hb : b = false) (h : Vc.D G n all R RL late ex sk k Q m done ((s, .bool false) :: ρ) w) : Vc.D G n all R RL late ex sk k Q m done ρ w :=
  D.case s hd (fun h2 => by rw [hb] at h2; cases h2) (fun _ => h)

set_option maxHeartbeats 2000000 in
theorem LampFewest_go (s : Store) (p : Plan) (A : Option Addr) (c : Nat) (B : Option Addr) (b : Nat) (U : Option Addr) (d : Nat) (w : World) (hA : Rd dNight w A c s.nights) (hB : Rd dI w B b p.cans) (hD : Rd dI w U d p.wicks) :
    Calls Try.prog 14 #[vStore s A c, vPlan p B b U d] w fun e w' => e = .returned (.bool true) ∧ w.grownBy w' none := by
  refine calls (G := G) (args := [vStore s A c, vPlan p B b U d]) Try.func14 rfl rfl rfl ?_
  refine M.run rfl <| M.nw rfl fun g1 w1 b1 e1 l1 => M.run rfl <| M.nw rfl fun g2 w2 b2 e2 l2 => M.run rfl <| M.ldA rfl rfl (b1.mv0 e2).cellsAll <| M.run rfl <| M.ldA rfl rfl b2.cellsAll <| M.run rfl <|
    M.cl rfl (ready_go s p A c B b U d w2 (hA.mv (gr_trans e1 e2)) (hB.mv (gr_trans e1 e2)) (hD.mv (gr_trans e1 e2))) ?_
  rintro e w3 ⟨rfl, e3⟩
  have e03 := gr_trans (gr_trans e1 e2) e3
  replace b1 := (b1.mv0 e2).mv0 e3
  replace b2 := b2.mv0 e3
  refine ⟨_, rfl, M.run rfl <| M.cond rfl (fun h => ?_) (fun h => ?_)⟩
  · refine M.run rfl <| M.cl rfl (awake_go w3) ?_
    rintro e wz ⟨rfl, ez⟩
    exact ⟨_, rfl, M.run rfl <| M.retF rfl rfl ⟨rfl, gr_trans e03 ez⟩⟩
  have hr : readyB s p = true := by simpa using h
  have hck := ready_check hr
  obtain ⟨h0, hcan, hwik⟩ := check_parts hck
  have hf := check_fine hck
  have hfew := hf.ok.few
  have hcl := hf.cl
  have hwl := hf.wl
  refine M.run rfl <| M.drawG [] (by kernel_rfl) fun w4 e4 => ?_
  have e04 := gr_trans e03 e4
  replace b1 := b1.mv0 e4
  replace b2 := b2.mv0 e4
  refine D.run rfl <| D.ldA 0 rfl rfl rfl rfl rfl (fun w' hw => (b1.mv0 hw).cellsAll) <| D.run rfl <| D.ld 3 rfl rfl rfl rfl (fun w' hw => (b2.mv0 hw).cell rfl rfl) <| D.one 1 rfl rfl <| M.cl rfl (StoreC_go s A c w4 (hA.mv e04) (by omega)) ?_
  rintro e w5 ⟨A1, a1, rfl, hA1, e5⟩
  refine ⟨_, rfl, M.run rfl <| M.end_ ⟨.inr e5, D.one 4 rfl rfl <| M.cl rfl (list_go p.wicks U d w5 (hD.mv (gr_trans e04 e5)) (by omega)) ?_⟩⟩
  rintro e w6 ⟨U1, u1, rfl, hU1, e6⟩
  refine ⟨_, rfl, M.run rfl <| M.end_ ⟨.inr e6, D.one 5 rfl rfl <| M.cl rfl (Deliver_go s p.wicks A1 a1 U1 u1 w6 (hA1.mv e6) (hU1.rd (by decide))) ?_⟩⟩
  rintro e w7 ⟨X, x, rfl, hX, e7⟩
  have e47 := gr_trans (gr_trans e5 e6) e7
  have e07 := gr_trans e04 e47
  refine ⟨_, rfl, M.run rfl <| M.end_ ⟨.inr e7, D.run rfl <| D.done_ rfl <| M.run rfl <| M.drawG [] (by kernel_rfl) fun w8 e8 => ?_⟩⟩
  have e48 := gr_trans e47 e8
  have e08 := gr_trans e04 e48
  replace b1 := b1.mv0 e48
  replace b2 := b2.mv0 e48
  refine D.run rfl <| D.ldA 0 rfl rfl rfl rfl rfl (fun w' hw => (b1.mv0 hw).cellsAll) <| D.run rfl <| D.ldA 2 rfl rfl rfl rfl rfl (fun w' hw => (b2.mv0 hw).cellsAll) <| D.one 1 rfl rfl <| M.cl rfl (StoreC_go s A c w8 (hA.mv e08) (by omega)) ?_
  rintro e w9 ⟨A2, a2, rfl, hA2, e9⟩
  refine ⟨_, rfl, M.run rfl <| M.end_ ⟨.inr e9, D.one 3 rfl rfl <| M.cl rfl (PlanC_go p B b U d w9 (hB.mv (gr_trans e08 e9)) (hD.mv (gr_trans e08 e9)) (by omega) (by omega)) ?_⟩⟩
  rintro e wa ⟨B2, b2', U2, u2, rfl, hB2, hU2, ea⟩
  refine ⟨_, rfl, M.run rfl <| M.end_ ⟨.inr ea, D.one 4 rfl rfl <| M.cl rfl (ProvePlan_go s p A2 a2 B2 b2' U2 u2 wa (hA2.mv ea) hB2 hU2) ?_⟩⟩
  rintro e wb ⟨rfl, eb⟩
  have e8b := gr_trans (gr_trans e9 ea) eb
  have e7b := gr_trans e8 e8b
  have e0b := gr_trans e07 e7b
  replace b1 := b1.mv0 e8b
  replace b2 := b2.mv0 e8b
  have hXb : Rd dI wb X x (deliverR s p.wicks) := Rd.mv (hX.rd (by decide)) e7b
  refine ⟨_, rfl, M.run rfl <| M.end_ ⟨.inr eb, D.run rfl <| D.done_ rfl <| M.run rfl ?_⟩⟩
  rcases deliver_best h0 hwik with ⟨hE, hR, hC, hco, hsafe, hcost, hbest⟩ | ⟨hE, hR, hC, hno⟩
  rotate_left
  · rw [hE]
    have hp : provePlan s p = false := by
      cases hpp : provePlan s p with
      | false => rfl
      | true => exact absurd ((prove_iff s p).1 hpp).2 (hno p.cans hcan)
    rw [hp]
    refine M.condT rfl rfl <| M.run rfl <| M.cl rfl (awake_go wb) ?_
    rintro e wz ⟨rfl, ez⟩
    exact ⟨_, rfl, M.run rfl <| M.retF rfl rfl ⟨rfl, gr_trans e0b ez⟩⟩
  rw [hE]
  rw [costD] at hcost
  simp only [costD] at hbest
  refine M.condF rfl rfl <| M.run rfl <| M.drawG [] (by kernel_rfl) fun wc ec => ?_
  have e0c := gr_trans e0b ec
  replace b1 := b1.mv0 ec
  replace b2 := b2.mv0 ec
  have hXc := hXb.mv ec
  generalize deliverR s p.wicks = L at *
  generalize deliverC s p.wicks = N at *
  have hll := (cansOk_spec hco).1
  refine D.run rfl <| D.ldA 0 rfl rfl rfl rfl rfl (fun w' hw => (b1.mv0 hw).cellsAll) <| D.run rfl <| D.one 2 rfl rfl <| M.cl rfl (IsCans_go s L A c X x wc hXc) ?_
  rintro e wd ⟨rfl, ed⟩
  have e0d := gr_trans e0c ed
  refine ⟨_, rfl, M.run rfl <| M.end_ ⟨.inr ed, D.at_ [45] rfl <| D.caseF 45 rfl (by rw [hco]; rfl) <| D.run rfl <| D.one 6 rfl rfl <| M.cl rfl (Sum_go L X x wd (hXc.mv ed) (small_cans hco) (by omega)) ?_⟩⟩
  rintro e we ⟨rfl, ee⟩
  have ece := gr_trans ed ee
  have e0e := gr_trans e0c ece
  refine ⟨_, rfl, M.run rfl <| M.end_ ⟨.inr ee, D.at_ [51] rfl <| D.caseF 51 rfl (by rw [hcost]; simp) <| D.run rfl <| D.ldA 11 rfl rfl rfl rfl rfl (fun w' hw => ((b1.mv0 ece).mv0 hw).cellsAll) <| D.run rfl <| D.ld 16 rfl rfl rfl rfl (fun w' hw => ((b2.mv0 ece).mv0 hw).cell rfl rfl) <|
    D.one 12 rfl rfl <| M.cl rfl (StoreC_go s A c we (hA.mv e0e) (by omega)) ?_⟩⟩
  rintro e wf ⟨A3, a3, rfl, hA3, ef⟩
  have ecf := gr_trans ece ef
  refine ⟨_, rfl, M.run rfl <| M.end_ ⟨.inr ef, D.one 14 rfl rfl <| M.cl rfl (list_go L X x wf (hXc.mv ecf) (by omega)) ?_⟩⟩
  rintro e wg ⟨X4, x4, rfl, hX4, eg⟩
  have e0g := gr_trans e0c (gr_trans ecf eg)
  refine ⟨_, rfl, M.run rfl <| M.end_ ⟨.inr eg, D.one 17 rfl rfl <| M.cl rfl (list_go p.wicks U d wg (hD.mv e0g) (by omega)) ?_⟩⟩
  rintro e wh ⟨U4, u4, rfl, hU4, eh⟩
  refine ⟨_, rfl, M.run rfl <| M.end_ ⟨.inr eh, D.run rfl <| D.one 19 rfl rfl <| M.cl rfl (ProvePlan_go s ⟨L, p.wicks⟩ A3 a3 X4 x4 U4 u4 wh (hA3.mv (gr_trans eg eh)) (Rd.mv (hX4.rd (by decide)) eh) (hU4.rd (by decide))) ?_⟩⟩
  rintro e wi ⟨rfl, ei⟩
  have hpl : provePlan s ⟨L, p.wicks⟩ = true := (prove_iff _ _).2 ⟨check_of h0 hco hwik, hsafe⟩
  have eci := gr_trans ecf (gr_trans eg (gr_trans eh ei))
  have e0i := gr_trans e0c eci
  replace b1 := b1.mv0 eci
  replace b2 := b2.mv0 eci
  refine ⟨_, rfl, M.run rfl <| M.end_ ⟨.inr ei, D.run rfl <| D.done_ rfl <| M.run rfl <| M.condF rfl (by rw [hpl]; rfl) <| M.run rfl <| M.ld rfl (b2.cell rfl rfl) <| M.run rfl <| M.cl rfl (Sum_go p.cans B b wi (hB.mv e0i) (small_cans hcan) (by omega)) ?_⟩⟩
  rintro e wj ⟨rfl, ej⟩
  have e0j := gr_trans e0i ej
  replace b1 := b1.mv0 ej
  replace b2 := b2.mv0 ej
  have fin : ∀ {ρ : Env} {wk : World}, w.grownBy wk none → Calls Try.prog 17 #[] wk fun e w' => e = .returned (.bool true) ∧ w.grownBy w' none := fun {ρ wk} hk => (awake_go wk).mono fun e w' ⟨h1, h2⟩ => ⟨h1, gr_trans hk h2⟩
  refine ⟨_, rfl, M.at_ [68] rfl <| M.case 68 rfl (fun k1 => ?_) (fun k1 => ?_)⟩
  · refine M.run rfl <| M.cl rfl (fin (ρ := []) e0j) ?_
    rintro e wz ⟨rfl, ez⟩
    exact ⟨_, rfl, M.run rfl <| M.retF rfl rfl ⟨rfl, ez⟩⟩
  have hpp : provePlan s p = true := by simpa using k1
  obtain ⟨hle, hlex⟩ := hbest p.cans hcan ((prove_iff s p).1 hpp).2
  refine M.at_ [73] rfl <| M.case 73 rfl (fun k2 => ?_) (fun k2 => ?_)
  · refine M.run rfl <| M.cl rfl (fin (ρ := []) e0j) ?_
    rintro e wz ⟨rfl, ez⟩
    exact ⟨_, rfl, M.run rfl <| M.retF rfl rfl ⟨rfl, ez⟩⟩
  have hge : sumL p.cans = N := by have := of_decide_eq_false k2; omega
  refine M.at_ [77] rfl <| M.caseT 77 rfl (by simp [hge]) <| M.run rfl <| M.ld rfl (b2.cell rfl rfl) <| M.run rfl <| M.cl rfl (Before_go p.cans L B b X x wj (hB.mv e0j) (hXc.mv (gr_trans eci ej))) ?_
  rintro e wk ⟨rfl, ek⟩
  refine ⟨_, rfl, M.at_ [85] rfl <| M.caseT 85 rfl (by rw [hlex hge.symm]; rfl) <| M.run rfl <| M.cl rfl (fin (ρ := []) (gr_trans e0j ek)) ?_⟩
  rintro e wz ⟨rfl, ez⟩
  exact ⟨_, rfl, M.run rfl <| M.retF rfl rfl ⟨rfl, ez⟩⟩
end Go.Proofs.Ytaimlmfncjbmjaa
end

section
/- Walk of the law: LampLight. -/
set_option linter.unusedVariables false
namespace Lp
theorem costT (s : Store) (cans l : List Int) (hl : l.length = s.nights.length) : costP (wkT s cans) l 0 = -lightL s l := by
  have key : ∀ (m i : Nat), i + m = l.length → costP (wkT s cans) (l.drop i) i = -(lightN s l l.length - lightN s l i) := by
    intro m
    induction m with
    | zero =>
      intro i hi
      have : i = l.length := by omega
      subst this
      rw [List.drop_length]
      simp [costP]
    | succ m ih =>
      intro i hi
      have hlt : i < l.length := by omega
      rw [List.drop_eq_getElem_cons hlt, at0_get hlt]
      simp only [costP]
      rw [ih (i + 1) (by omega)]
      simp only [wkT, lightN]
      have : -at0 l i * (nt s i).hours = -((nt s i).hours * at0 l i) := by rw [Int.neg_mul, Int.mul_comm]
      rw [this]; omega
  have := key l.length 0 (by omega)
  rw [List.drop_zero] at this
  rw [this]
  unfold lightL
  rw [← hl]
  simp [lightN]
theorem at0_set {l : List Int} {k i : Nat} {v : Int} (hk : k < l.length) : at0 (l.set k v) i = if k = i then v else at0 l i := by
  unfold at0
  rw [List.getD_eq_getElem?_getD, List.getElem?_set, List.getD_eq_getElem?_getD]
  split
  · rename_i h; subst h; simp [hk]
  · rfl
theorem more_cans {s : Store} {l : List Int} {k : Nat} {v : Int} (h : cansOk s l = true) (hk : k < l.length) (hv : 0 ≤ v ∧ v ≤ 2) : cansOk s (l.set k v) = true := by
  obtain ⟨h1, h2⟩ := cansOk_spec h
  refine cansOk_of (by simpa using h1) fun i hi => ?_
  rw [at0_set hk]
  split
  · exact hv
  · exact h2 i (by simpa using hi)
theorem more_safe {s : Store} {cans wicks : List Int} {k : Nat} {v : Int} (h0 : checkStore s = 0) (hc : cansOk s cans = true) (hw : wicksOk s wicks = true) (hk : k < cans.length) (hv : at0 cans k ≤ v ∧ v ≤ 2) (hs : safe s ⟨cans, wicks⟩) : safe s ⟨cans.set k v, wicks⟩ := by
  have hk0 := (cansOk_spec hc).2 k hk
  have hf := check_fine (check_of (p := ⟨cans, wicks⟩) h0 hc hw)
  have hf' := check_fine (check_of (p := ⟨cans.set k v, wicks⟩) h0 (more_cans hc hk ⟨by omega, hv.2⟩) hw)
  unfold safe at *
  rw [dark_nil] at *
  intro i hi
  have hst := hf.ok.start
  refine (oil_mono (s := s) (s' := s) (t := lowT s) (t' := lowT s) rfl rfl rfl hf hf' (by simp [lowT]; omega) (Int.le_refl _) (by simp [lowT]; omega) (fun j hj => ?_) (fun j hj => Int.le_refl _) (fun j hj => ?_) i (by omega)).2 hi (hs i hi)
  · show at0 cans j ≤ at0 (cans.set k v) j
    rw [at0_set hk]
    split
    · rename_i e; subst e; exact hv.1
    · exact Int.le_refl _
  · rw [lowT_burn s hj]
    have := hf.ok.nt hj
    omega
theorem tmodN {a : Int} {n : Nat} (h : 0 ≤ a) : a.tmod (n : Int) = ((a.toNat % n : Nat) : Int) := by
  have : a = ((a.toNat : Nat) : Int) := by omega
  rw [this, Int.toNat_natCast]
  rfl
end Lp
namespace Go.Proofs.Ytaimlmfncjbmjaa
open Go Go.Vc Go.RowKit Lp
theorem ad1 (g j : Nat) : (adOf (some (⟨g, 0, none⟩ : Addr))).add (j * 1) = ⟨g, j, none⟩ := by
  show Addr.add ⟨g, 0, none⟩ (j * 1) = _
  rw [add_plain]; simp
theorem own_int {k : IntKind} {e : Nat} {w : World} {base : Nat} {F : Nat → Prop} {A : Option Addr} {c : Nat} {xs : List Int} (h : Vc.Own (Rp.int k) e w base F A c xs) {j : Nat} (hj : j < xs.length) :
    ∃ g cur, A = some ⟨g, 0, none⟩ ∧ base ≤ g ∧ Blk w g cur e ∧ j + 1 ≤ cur.length ∧ w.cell? ⟨g, j, none⟩ = some (.int k xs[j]) ∧
      ∀ (v : Int) (w' : World), Blk w' g (cur.take j ++ [.int k v] ++ cur.drop (j + 1)) e → Vc.Own (Rp.int k) e w' base F A c (xs.set j v) := by
  obtain ⟨g, cur, hA, hb, hB, hl, hC, _, hset⟩ := h.at_flat (List.getElem?_eq_getElem hj)
  refine ⟨g, cur, hA, hb, hB, by omega, ?_, fun v w' hw' => ?_⟩
  · have := hC 0 _ rfl
    rw [add_plain, add_plain] at this
    simpa using this
  · refine hset 0 (.int k v) v w' (by decide) rfl ?_
    rw [over_set _ _ _ (by omega)] at hw'
    simpa using hw'

set_option maxHeartbeats 2000000 in
theorem LampLight_go (s : Store) (p : Plan) (which : Int) (A : Option Addr) (c : Nat) (B : Option Addr) (b : Nat) (U : Option Addr) (d : Nat) (w : World) (hA : Rd dNight w A c s.nights) (hB : Rd dI w B b p.cans) (hD : Rd dI w U d p.wicks) (q0 : 0 ≤ which) (q1 : which ≤ 255) :
    Calls Try.prog 15 #[vStore s A c, vPlan p B b U d, .int .u8 which] w fun e w' => e = .returned (.bool true) ∧ w.grownBy w' none := by
  refine calls (G := G) (args := [vStore s A c, vPlan p B b U d, .int .u8 which]) Try.func15 rfl rfl rfl ?_
  refine M.run rfl <| M.nw rfl fun g1 w1 b1 e1 l1 => M.run rfl <| M.nw rfl fun g2 w2 b2 e2 l2 => M.run rfl <| M.ldA rfl rfl (b1.mv0 e2).cellsAll <| M.run rfl <| M.ldA rfl rfl b2.cellsAll <| M.run rfl <|
    M.cl rfl (ready_go s p A c B b U d w2 (hA.mv (gr_trans e1 e2)) (hB.mv (gr_trans e1 e2)) (hD.mv (gr_trans e1 e2))) ?_
  rintro e w3 ⟨rfl, e3⟩
  have e03 := gr_trans (gr_trans e1 e2) e3
  replace b1 := (b1.mv0 e2).mv0 e3
  replace b2 := b2.mv0 e3
  refine ⟨_, rfl, M.run rfl <| M.cond rfl (fun h => ?_) (fun h => ?_)⟩
  · refine M.run rfl <| M.cl rfl (awake_go w3) ?_
    rintro e wz ⟨rfl, ez⟩
    exact ⟨_, rfl, M.run rfl <| M.retF rfl rfl ⟨rfl, gr_trans e03 ez⟩⟩
  have hr : readyB s p = true := by simpa using h
  have hck := ready_check hr
  obtain ⟨h0, hcan, hwik⟩ := check_parts hck
  have hf := check_fine hck
  have hfew := hf.ok.few
  have hsome := hf.ok.some_
  have hcl := hf.cl
  have hwl := hf.wl
  have fin : ∀ (wk : World), w.grownBy wk none → Calls Try.prog 17 #[] wk fun e w' => e = .returned (.bool true) ∧ w.grownBy w' none := fun wk hk => (awake_go wk).mono fun e w' ⟨h1, h2⟩ => ⟨h1, gr_trans hk h2⟩
  refine M.run rfl <| M.drawG [] (by kernel_rfl) fun w4 e4 => ?_
  have e04 := gr_trans e03 e4
  replace b1 := b1.mv0 e4
  replace b2 := b2.mv0 e4
  refine D.run rfl <| D.ldA 0 rfl rfl rfl rfl rfl (fun w' hw => (b1.mv0 hw).cellsAll) <| D.run rfl <| D.ld 3 rfl rfl rfl rfl (fun w' hw => (b2.mv0 hw).cell rfl rfl) <| D.one 1 rfl rfl <| M.cl rfl (StoreC_go s A c w4 (hA.mv e04) (by omega)) ?_
  rintro e w5 ⟨A1, a1, rfl, hA1, e5⟩
  refine ⟨_, rfl, M.run rfl <| M.end_ ⟨.inr e5, D.one 4 rfl rfl <| M.cl rfl (list_go p.cans B b w5 (hB.mv (gr_trans e04 e5)) (by omega)) ?_⟩⟩
  rintro e w6 ⟨U1, u1, rfl, hU1, e6⟩
  refine ⟨_, rfl, M.run rfl <| M.end_ ⟨.inr e6, D.one 5 rfl rfl <| M.cl rfl (Trim_go s p.cans A1 a1 U1 u1 w6 (hA1.mv e6) (hU1.rd (by decide))) ?_⟩⟩
  rintro e w7 ⟨X, x, rfl, hX, e7⟩
  have e47 := gr_trans (gr_trans e5 e6) e7
  have e07 := gr_trans e04 e47
  refine ⟨_, rfl, M.run rfl <| M.end_ ⟨.inr e7, D.run rfl <| D.done_ rfl <| M.run rfl <| M.drawG [] (by kernel_rfl) fun w8 e8 => ?_⟩⟩
  have e48 := gr_trans e47 e8
  have e08 := gr_trans e04 e48
  replace b1 := b1.mv0 e48
  replace b2 := b2.mv0 e48
  refine D.run rfl <| D.ldA 0 rfl rfl rfl rfl rfl (fun w' hw => (b1.mv0 hw).cellsAll) <| D.run rfl <| D.ldA 2 rfl rfl rfl rfl rfl (fun w' hw => (b2.mv0 hw).cellsAll) <| D.one 1 rfl rfl <| M.cl rfl (StoreC_go s A c w8 (hA.mv e08) (by omega)) ?_
  rintro e w9 ⟨A2, a2, rfl, hA2, e9⟩
  refine ⟨_, rfl, M.run rfl <| M.end_ ⟨.inr e9, D.one 3 rfl rfl <| M.cl rfl (PlanC_go p B b U d w9 (hB.mv (gr_trans e08 e9)) (hD.mv (gr_trans e08 e9)) (by omega) (by omega)) ?_⟩⟩
  rintro e wa ⟨B2, b2', U2, u2, rfl, hB2, hU2, ea⟩
  refine ⟨_, rfl, M.run rfl <| M.end_ ⟨.inr ea, D.one 4 rfl rfl <| M.cl rfl (ProvePlan_go s p A2 a2 B2 b2' U2 u2 wa (hA2.mv ea) hB2 hU2) ?_⟩⟩
  rintro e wb ⟨rfl, eb⟩
  have e8b := gr_trans (gr_trans e9 ea) eb
  have e7b := gr_trans e8 e8b
  have e0b := gr_trans e07 e7b
  replace b1 := b1.mv0 e8b
  replace b2 := b2.mv0 e8b
  have hXb : Rd dI wb X x (trimR s p.cans) := Rd.mv (hX.rd (by decide)) e7b
  refine ⟨_, rfl, M.run rfl <| M.end_ ⟨.inr eb, D.run rfl <| D.done_ rfl <| M.run rfl <| M.ld rfl (b2.cell rfl rfl) <| M.run rfl <| M.cl rfl (list_go p.cans B b wb (hB.mv e0b) (by omega)) ?_⟩⟩
  rintro e wc ⟨Y, y, rfl, hY, ec⟩
  have e0c := gr_trans e0b ec
  replace b1 := b1.mv0 ec
  replace b2 := b2.mv0 ec
  refine ⟨_, rfl, M.run rfl <| M.ys (YS.rem rfl (by omega)) <| M.run rfl ?_⟩
  rw [w64 (x := which) (by omega) (by omega), tmodN q0]
  have hk : which.toNat % p.cans.length < p.cans.length := Nat.mod_lt _ (by omega)
  generalize which.toNat % p.cans.length = k at hk
  obtain ⟨gY, cur, rfl, hgY, bY, hlY, hcY, hsetY⟩ := own_int hY hk
  have hck2 := (cansOk_spec hcan).2 k hk
  refine M.ix rfl (by omega) (by omega) rfl <| M.run rfl <| M.ld rfl (by rw [← hcY]; exact congrArg _ (ad1 gY k)) <| M.run rfl <| M.ix rfl (by omega) (by omega) rfl <| M.run rfl ?_
  rw [w64 (x := p.cans[k] + 1) (by rw [at0_get hk]; omega) (by rw [at0_get hk]; omega), at0_get hk]
  generalize hv : (if at0 p.cans k + 1 < 2 then at0 p.cans k + 1 else 2) = v
  have hvb : at0 p.cans k ≤ v ∧ v ≤ 2 := by rw [← hv]; split <;> omega
  refine M.store rfl (ad1 gY k) bY (Nat.ble_eq_true_of_le hlY) rfl fun wd bd ed => ?_
  have hYd := hsetY v wd bd
  have ebd : wb.grownBy wd none := gr_fresh ec ed hgY
  have e0d := gr_trans e0b ebd
  have n1 : gY ≠ g1 := fun hh => by subst hh; exact absurd (bY.ne b1 (by decide)) (by simp)
  have n2 : gY ≠ g2 := fun hh => by subst hh; exact absurd (bY.ne b2 (by decide)) (by simp)
  replace b1 := b1.mv1 ed n1
  replace b2 := b2.mv1 ed n2
  have hYr : Rd dI wd (some ⟨gY, 0, none⟩) y (p.cans.set k v) := hYd.rd (by decide)
  have hlen : p.cans.length = (p.cans.set k v).length := by simp
  rw [hlen]
  refine M.run rfl <| M.ldA rfl rfl b1.cellsAll <| M.run rfl <| M.cl rfl (StoreC_go s A c wd (hA.mv e0d) (by omega)) ?_
  rintro e we ⟨A5, a5, rfl, hA5, ee⟩
  refine ⟨_, rfl, M.run rfl <| M.cl rfl (Trim_go s (p.cans.set k v) A5 a5 _ y we hA5 (hYr.mv ee)) ?_⟩
  rintro e wf ⟨Z, z, rfl, hZ, ef⟩
  have edf := gr_trans ee ef
  have e0f := gr_trans e0d edf
  replace b1 := b1.mv0 edf
  replace b2 := b2.mv0 edf
  have hXf := (hXb.mv ebd).mv edf
  have hcan2 : cansOk s (p.cans.set k v) = true := more_cans hcan hk ⟨by omega, hvb.2⟩
  refine ⟨_, rfl, M.run rfl ?_⟩
  rcases trim_best h0 hcan with ⟨hE, hwo, hsafe, hcost, hbest⟩ | ⟨hE, hR, hC, hno⟩
  rotate_left
  · rw [hE]
    have hp : provePlan s p = false := by
      cases hpp : provePlan s p with
      | false => rfl
      | true => exact absurd ((prove_iff s p).1 hpp).2 (hno p.wicks hwik)
    rw [hp]
    have h2 : trimE s (p.cans.set k v) = 0 ∨ trimE s (p.cans.set k v) = 10 := by
      rcases trim_best h0 hcan2 with h | h
      · exact .inl h.1
      · exact .inr h.1
    refine M.condT rfl rfl ?_
    rcases h2 with h2 | h2
    · rw [h2]
      refine M.run rfl <| M.cl rfl (fin wf e0f) ?_
      rintro e wz ⟨rfl, ez⟩
      exact ⟨_, rfl, M.run rfl <| M.retF rfl rfl ⟨rfl, ez⟩⟩
    · rw [h2]
      refine M.run rfl <| M.cl rfl (fin wf e0f) ?_
      rintro e wz ⟨rfl, ez⟩
      exact ⟨_, rfl, M.run rfl <| M.retF rfl rfl ⟨rfl, ez⟩⟩
  have hrl := (wicksOk_spec hwo).1
  rw [costT _ _ _ hrl] at hcost
  have hN : lightL s (trimR s p.cans) = trimC s p.cans := by omega
  have hE2 : trimE s (p.cans.set k v) = 0 ∧ trimC s p.cans ≤ trimC s (p.cans.set k v) := by
    have hs2 := more_safe h0 hcan hwo hk hvb hsafe
    rcases trim_best h0 hcan2 with ⟨h1, _, _, _, h2⟩ | ⟨h1, _, _, h2⟩
    · refine ⟨h1, ?_⟩
      have := (h2 _ hwo hs2).1
      rw [costT _ _ _ hrl] at this
      omega
    · exact absurd hs2 (h2 _ hwo)
  obtain ⟨hE2, hC2⟩ := hE2
  rw [hE, hE2]
  refine M.condF rfl rfl <| M.run rfl <| M.drawG [] (by kernel_rfl) fun wg eg => ?_
  have e0g := gr_trans e0f eg
  replace b1 := b1.mv0 eg
  replace b2 := b2.mv0 eg
  have hXg := hXf.mv eg
  generalize trimR s p.cans = L at *
  generalize trimC s p.cans = N at *
  generalize trimC s (p.cans.set k v) = N2 at *
  refine D.run rfl <| D.ldA 0 rfl rfl rfl rfl rfl (fun w' hw => (b1.mv0 hw).cellsAll) <| D.run rfl <| D.one 2 rfl rfl <| M.cl rfl (IsWicks_go s L A c X x wg (hA.mv e0g) hXg) ?_
  rintro e wh ⟨rfl, eh⟩
  have e0h := gr_trans e0g eh
  refine ⟨_, rfl, M.run rfl <| M.end_ ⟨.inr eh, D.at_ [85] rfl <| D.caseF 85 rfl (by rw [hwo]; rfl) <| D.run rfl <| D.ldA 5 rfl rfl rfl rfl rfl (fun w' hw => ((b1.mv0 eh).mv0 hw).cellsAll) <| D.run rfl <| D.one 7 rfl rfl <| M.cl rfl (Light_go s L A c X x wh (hA.mv e0h) (hXg.mv eh) hf.ok hwo) ?_⟩⟩
  rintro e wi ⟨rfl, ei⟩
  have egi := gr_trans eh ei
  have e0i := gr_trans e0g egi
  refine ⟨_, rfl, M.run rfl <| M.end_ ⟨.inr ei, D.at_ [92] rfl <| D.caseF 92 rfl (by rw [hN]; simp) <| D.run rfl <| D.ldA 12 rfl rfl rfl rfl rfl (fun w' hw => ((b1.mv0 egi).mv0 hw).cellsAll) <| D.run rfl <| D.ld 15 rfl rfl rfl rfl (fun w' hw => ((b2.mv0 egi).mv0 hw).cell rfl rfl) <|
    D.one 13 rfl rfl <| M.cl rfl (StoreC_go s A c wi (hA.mv e0i) (by omega)) ?_⟩⟩
  rintro e wj ⟨A3, a3, rfl, hA3, ej⟩
  have egj := gr_trans egi ej
  have e0j := gr_trans e0g egj
  refine ⟨_, rfl, M.run rfl <| M.end_ ⟨.inr ej, D.one 16 rfl rfl <| M.cl rfl (list_go p.cans B b wj (hB.mv e0j) (by omega)) ?_⟩⟩
  rintro e wk ⟨X4, x4, rfl, hX4, ek⟩
  have egk := gr_trans egj ek
  refine ⟨_, rfl, M.run rfl <| M.end_ ⟨.inr ek, D.one 18 rfl rfl <| M.cl rfl (list_go L X x wk (hXg.mv egk) (by omega)) ?_⟩⟩
  rintro e wl ⟨U4, u4, rfl, hU4, el⟩
  refine ⟨_, rfl, M.run rfl <| M.end_ ⟨.inr el, D.run rfl <| D.one 20 rfl rfl <| M.cl rfl (ProvePlan_go s ⟨p.cans, L⟩ A3 a3 X4 x4 U4 u4 wl (hA3.mv (gr_trans ek el)) (Rd.mv (hX4.rd (by decide)) el) (hU4.rd (by decide))) ?_⟩⟩
  rintro e wm ⟨rfl, em⟩
  have hpl : provePlan s ⟨p.cans, L⟩ = true := (prove_iff _ _).2 ⟨check_of h0 hcan hwo, hsafe⟩
  have egm := gr_trans egk (gr_trans el em)
  have e0m := gr_trans e0g egm
  replace b1 := b1.mv0 egm
  replace b2 := b2.mv0 egm
  refine ⟨_, rfl, M.run rfl <| M.end_ ⟨.inr em, D.at_ [104] rfl <| D.caseF 104 rfl (by rw [hpl]; rfl) <| D.at_ [108] rfl <| D.caseF 108 rfl rfl <| D.run rfl <| D.done_ rfl <| M.run rfl <| M.condF rfl (decide_eq_false (by omega)) <| M.run rfl <|
    M.ldA rfl rfl b1.cellsAll <| M.run rfl <| M.ld rfl (b2.cell rfl rfl) <| M.run rfl <| M.cl rfl (Light_go s p.wicks A c U d wm (hA.mv e0m) (hD.mv e0m) hf.ok hwik) ?_⟩⟩
  rintro e wn ⟨rfl, en⟩
  have e0n := gr_trans e0m en
  replace b1 := b1.mv0 en
  replace b2 := b2.mv0 en
  refine ⟨_, rfl, M.at_ [119] rfl <| M.case 119 rfl (fun k1 => ?_) (fun k1 => ?_)⟩
  · refine M.run rfl <| M.cl rfl (fin wn e0n) ?_
    rintro e wz ⟨rfl, ez⟩
    exact ⟨_, rfl, M.run rfl <| M.retF rfl rfl ⟨rfl, ez⟩⟩
  have hpp : provePlan s p = true := by simpa using k1
  obtain ⟨hle, hlex⟩ := hbest p.wicks hwik ((prove_iff s p).1 hpp).2
  rw [costT _ _ _ (wicksOk_spec hwik).1] at hle hlex
  refine M.at_ [124] rfl <| M.case 124 rfl (fun k2 => ?_) (fun k2 => ?_)
  · refine M.run rfl <| M.cl rfl (fin wn e0n) ?_
    rintro e wz ⟨rfl, ez⟩
    exact ⟨_, rfl, M.run rfl <| M.retF rfl rfl ⟨rfl, ez⟩⟩
  have hge : lightL s p.wicks = N := by have := of_decide_eq_false k2; omega
  refine M.at_ [128] rfl <| M.caseT 128 rfl (by simp [hge]) <| M.run rfl <| M.ld rfl (b2.cell rfl rfl) <| M.run rfl <| M.cl rfl (Before_go p.wicks L U d X x wn (hD.mv e0n) (hXg.mv (gr_trans egm en))) ?_
  rintro e wo ⟨rfl, eo⟩
  refine ⟨_, rfl, M.at_ [136] rfl <| M.caseT 136 rfl (by rw [hlex (by omega)]; rfl) <| M.run rfl <| M.cl rfl (fin wo (gr_trans e0n eo)) ?_⟩
  rintro e wz ⟨rfl, ez⟩
  exact ⟨_, rfl, M.run rfl <| M.retF rfl rfl ⟨rfl, ez⟩⟩
end Go.Proofs.Ytaimlmfncjbmjaa
end

section
/- Walks: word, picked, Picked. -/
set_option linter.unusedVariables false
namespace Go.Proofs.Ytaimlmfncjbmjaa
open Go Go.Vc Go.RowKit Lp

abbrev dW : Rp Int := Rp.int .u16
theorem word_go (l : List Int) (n : Nat) (U : Option Addr) (d : Nat) (w : World) (hU : Rd dW w U d l) (hb : ∀ x ∈ l, 0 ≤ x ∧ x ≤ 65535) :
    Calls Try.prog 90 #[.slice U l.length d, .int .i64 (n : Int)] w fun e w' => (∃ x, e = .returned (.int .i64 x) ∧ 0 ≤ x ∧ x ≤ 65535) ∧ w.grownBy w' none := by
  refine calls (G := G) (args := [.slice U l.length d, .int .i64 (n : Int)]) Try.func90 rfl rfl rfl ?_
  refine M.run rfl <| M.cond rfl (fun h => ?_) (fun h => ?_)
  · exact M.run rfl <| M.retF rfl rfl ⟨⟨0, rfl, by omega, by omega⟩, gr_refl _ _⟩
  · have h' : ¬ (l.length : Int) = 0 := by simpa using h
    have hlt : n % l.length < l.length := Nat.mod_lt _ (by omega)
    refine M.run rfl <| M.ys (YS.rem rfl (by omega)) <| M.run rfl ?_
    rw [tmodN (by omega), Int.toNat_natCast]
    generalize n % l.length = k at hlt
    obtain ⟨hU1, hUC⟩ := rd_flat hU hlt
    have hx := hb _ (List.getElem_mem hlt)
    refine M.ix rfl (by omega) (by omega) hU1 <| M.run rfl <| M.ld rfl ((hUC w (gr_below (gr_refl _ _))).one 0 rfl rfl) <| M.run rfl ?_
    rw [w64 (x := l[k]) (by omega) (by omega)]
    exact M.retF rfl rfl ⟨⟨_, rfl, hx⟩, gr_refl _ _⟩
theorem picked_go (lo hi wd : Int) (w : World) (hl : 0 ≤ lo ∧ lo ≤ hi ∧ hi ≤ 1000) (hw : 0 ≤ wd ∧ wd ≤ 65535) :
    Calls Try.prog 89 #[.agg #[.int .i64 lo, .int .i64 hi], .int .i64 wd] w fun e w' => (∃ x, e = .returned (.int .i64 x) ∧ lo ≤ x ∧ x ≤ hi) ∧ w.grownBy w' none := by
  refine calls (G := G) (args := [.agg #[.int .i64 lo, .int .i64 hi], .int .i64 wd]) Try.func89 rfl rfl rfl ?_
  refine M.run rfl <| M.nw rfl fun g w1 b1 e1 l1 => M.run rfl <| M.cond rfl (fun h => ?_) (fun h => ?_)
  · exact M.run rfl <| M.ld rfl (b1.cell rfl rfl) <| M.run rfl <| M.retF rfl rfl ⟨⟨lo, rfl, by omega, by omega⟩, e1⟩
  refine M.run rfl <| M.cond rfl (fun h => ?_) (fun h => ?_)
  · exact M.run rfl <| M.ld rfl (b1.cell rfl rfl) <| M.run rfl <| M.retF rfl rfl ⟨⟨hi, rfl, by omega, by omega⟩, e1⟩
  refine M.run rfl <| M.quiet (by kernel_rfl) <| LQ.run rfl <| LQ.ld rfl (fun w' hw => (b1.mv0 hw).cell rfl rfl) <| LQ.run rfl <| LQ.ld rfl (fun w' hw => (b1.mv0 hw).cell rfl rfl) <| LQ.run rfl <| LQ.ld rfl (fun w' hw => (b1.mv0 hw).cell rfl rfl) <| LQ.run rfl ?_
  have hq : 0 ≤ wd.tdiv 4 ∧ wd.tdiv 4 ≤ 65535 := by
    rw [Int.tdiv_eq_ediv_of_nonneg (by omega)]; omega
  rw [w64 (x := hi - lo) (by omega) (by omega), w64 (x := hi - lo + 1) (by omega) (by omega), w64 (x := wd.tdiv 4) (by omega) (by omega)]
  refine LQ.ys (YS.rem rfl (by omega)) <| LQ.run rfl <| LQ.nil fun w2 e2 => M.run rfl ?_
  have hm : 0 ≤ (wd.tdiv 4).tmod (hi - lo + 1) ∧ (wd.tdiv 4).tmod (hi - lo + 1) < hi - lo + 1 := ⟨Int.tmod_nonneg _ (by omega), Int.tmod_lt_of_pos _ (by omega)⟩
  rw [w64 (x := lo + (wd.tdiv 4).tmod (hi - lo + 1)) (by omega) (by omega)]
  exact M.retF rfl rfl ⟨⟨_, rfl, by omega, by omega⟩, gr_trans e1 e2⟩

set_option maxHeartbeats 1000000 in
theorem Picked_go (s : Store) (l : List Int) (A : Option Addr) (c : Nat) (U : Option Addr) (d : Nat) (w : World) (hA : Rd dNight w A c s.nights) (hU : Rd dW w U d l) (hb : ∀ x ∈ l, 0 ≤ x ∧ x ≤ 65535) (hs : s.Ok) :
    Calls Try.prog 43 #[vStore s A c, .slice U l.length d] w fun e w' => ∃ t X x, e = .returned (vTruth t X x) ∧ Rd dI w' X x t.burn ∧ truthOk s t = true ∧ w.grownBy w' none := by
  have hst := hs.start
  have hcap := hs.cap
  have hfew := hs.few
  refine calls (G := G) (args := [vStore s A c, .slice U l.length d]) Try.func43 rfl rfl rfl ?_
  refine M.run rfl <| M.nw rfl fun g1 w1 b1 e1 l1 => M.run rfl <| M.nw rfl fun g2 w2 b2 e2 l2 => M.run rfl <| M.drawG [7] (by kernel_rfl) fun w3 e3 => ?_
  have e03 := gr_trans (gr_trans e1 e2) e3
  replace b1 := (b1.mv0 e2).mv0 e3
  replace b2 := b2.mv0 e3
  have hl2 : w.heap.size ≤ g2 := Nat.le_trans e1.size l2
  refine D.run rfl <| D.ldA 1 rfl rfl rfl rfl rfl (fun w' hw => ((b1.mv0 hw).cells 2 rfl ⟨[_], rfl⟩ : Cells _ _ [_, _])) ?_
  refine D.meet (σ := Nat × Int) 1 [6, 5, 4, 3, 2, 1, 0] (fun (g3, x) => [(1, .slice U l.length d), (2, .pointer (some ⟨g1, 0, none⟩)), (4, .pointer (some ⟨g2, 0, none⟩)), (5, .pointer (some ⟨g3, 0, none⟩)), (12, .agg #[.int .i64 x, .slice none 0 0])])
    (fun (g3, x) w' => w3.grownBy w' none ∧ Blk w' g3 [.int .i64 0, .slice none 0 0] 31 ∧ w3.heap.size ≤ g3 ∧ s.lo ≤ x ∧ x ≤ s.hi) (fun hcont => ?_) ?_
  · have hword := fun w' (hw : w3.grownBy w' none) => word_go l 0 U d w' (hU.mv (gr_trans e03 hw)) hb
    refine D.two 3 6 rfl rfl rfl ?_ ?_
    · refine M.cl rfl (hword w3 (gr_refl _ _)) ?_
      rintro e w4 ⟨⟨y, rfl, hy0, hy1⟩, e4⟩
      refine ⟨_, rfl, M.run rfl <| M.end_ ⟨.inr e4, D.two 4 6 rfl rfl rfl ?_ ?_⟩⟩
      · refine M.cl rfl (picked_go s.lo s.hi y w4 (by omega) ⟨hy0, hy1⟩) ?_
        rintro e w5 ⟨⟨x, rfl, hx0, hx1⟩, e5⟩
        refine ⟨_, rfl, M.run rfl <| M.end_ ⟨.inr e5, D.run rfl <| D.one 6 rfl rfl <| M.nw rfl fun g3 w6 b6 e6 l6 => M.run rfl <| M.end_ ⟨.inr e6, D.weak rfl ?_ (hcont (g3, x) w6 ⟨gr_trans (gr_trans e4 e5) e6, b6, Nat.le_trans (gr_trans e4 e5).size l6, hx0, hx1⟩)⟩⟩⟩
        exact ⟨rfl, rfl, rfl, rfl, rfl, trivial⟩
      · refine M.nw rfl fun g3 w5 b5 e5 l5 => M.run rfl <| M.end_ ⟨.inr e5, D.one 4 rfl rfl <| M.cl rfl (picked_go s.lo s.hi y w5 (by omega) ⟨hy0, hy1⟩) ?_⟩
        rintro e w6 ⟨⟨x, rfl, hx0, hx1⟩, e6⟩
        refine ⟨_, rfl, M.run rfl <| M.end_ ⟨.inr e6, D.run rfl <| D.weak rfl ?_ (hcont (g3, x) w6 ⟨gr_trans (gr_trans e4 e5) e6, b5.mv0 e6, Nat.le_trans e4.size l5, hx0, hx1⟩)⟩⟩
        exact ⟨rfl, rfl, rfl, rfl, rfl, trivial⟩
    · refine M.nw rfl fun g3 w4 b4 e4 l4 => M.run rfl <| M.end_ ⟨.inr e4, D.one 3 rfl rfl <| M.cl rfl (hword w4 e4) ?_⟩
      rintro e w5 ⟨⟨y, rfl, hy0, hy1⟩, e5⟩
      refine ⟨_, rfl, M.run rfl <| M.end_ ⟨.inr e5, D.one 4 rfl rfl <| M.cl rfl (picked_go s.lo s.hi y w5 (by omega) ⟨hy0, hy1⟩) ?_⟩⟩
      rintro e w6 ⟨⟨x, rfl, hx0, hx1⟩, e6⟩
      refine ⟨_, rfl, M.run rfl <| M.end_ ⟨.inr e6, D.run rfl <| D.weak rfl ?_ (hcont (g3, x) w6 ⟨gr_trans (gr_trans e4 e5) e6, (b4.mv0 e5).mv0 e6, l4, hx0, hx1⟩)⟩⟩
      exact ⟨rfl, rfl, rfl, rfl, rfl, trivial⟩
  rintro ⟨g3, st⟩ w4 ⟨e4, b3, l3, hs0, hs1⟩
  have e04 := gr_trans e03 e4
  refine D.one 7 rfl rfl <| M.store rfl rfl b3 rfl rfl fun w5 b5 e5 => M.run rfl <| M.end_ ⟨.inl ⟨rfl, trivial⟩, D.done_ rfl <| M.run rfl ?_⟩
  have hl3 : w.heap.size ≤ g3 := Nat.le_trans e03.size l3
  have e05 : w.grownBy w5 none := gr_fresh e04 e5 hl3
  have n31 : g3 ≠ g1 := by have := b1.lt; omega
  have n32 : g3 ≠ g2 := by have := b2.lt; omega
  have b15 := (b1.mv0 e4).mv1 e5 n31
  have b25 := (b2.mv0 e4).mv1 e5 n32
  have hg3 := b5.lt
  have hg2 := b25.lt
  have n12 : g1 ≠ g2 := by intro h; rw [h] at b15; exact b15.ne b25 (by decide) rfl
  refine M.loop (σ := Nat × List Int × Option Addr × Nat) (fun (i, bs, X, x) => [(1, .slice U l.length d), (2, .pointer (some ⟨g1, 0, none⟩)), (4, .pointer (some ⟨g2, 0, none⟩)), (5, .pointer (some ⟨g3, 0, none⟩)), (6, .int .i64 (i : Int))])
    (fun (i, bs, X, x) w' => i ≤ s.nights.length ∧ w.grownBy w' none ∧ w5.heap.size ≤ w'.heap.size ∧ Blk w' g1 (vStore s A c).cells.toList 26 ∧ (∃ cs, cs.length = 2 ∧ Blk w' g2 cs 31) ∧ Blk w' g3 [.int .i64 st, .slice X bs.length x] 31 ∧ Vc.Own dI 3 w' w5.heap.size no X x bs ∧ bs.length = i ∧ ∀ j, j < i → (nt s j).lo ≤ at0 bs j ∧ at0 bs j ≤ (nt s j).hi)
    (fun (i, _) => s.nights.length - i) (0, [], none, 0) ⟨rfl, rfl, rfl, rfl, rfl, trivial⟩ ⟨Nat.zero_le _, e05, Nat.le_refl _, b15, ⟨_, rfl, b25⟩, b5, Vc.Own.nil _ _ _ _ _, rfl, fun j h => by omega⟩ ?_
  rintro ⟨i, bs, X, x⟩ w6 ⟨hi, e06, hsz, c1, ⟨cs2, hcs2, c2⟩, c3, hX, hbl, hbs⟩
  refine M.run rfl <| M.ld rfl (c1.cell rfl rfl) <| M.run rfl <| M.cond rfl (fun h => ?_) (fun h => ?_)
  · have hlt : i < s.nights.length := by have := of_decide_eq_true h; omega
    obtain ⟨hA1, hAC⟩ := rd_flat hA hlt
    rw [nt_get hlt] at hAC
    have hnt := hs.nt hlt
    have hXg : ∀ g, blkOf X = some g → w5.heap.size ≤ g ∧ g < w6.heap.size := hX.blkGe
    have x3 : blkOf X ≠ some g3 := fun hh => by have := (hXg g3 hh).1; omega
    have x2 : blkOf X ≠ some g2 := fun hh => by have := (hXg g2 hh).1; omega
    have x1 : blkOf X ≠ some g1 := fun hh => by have := (hXg g1 hh).1; have := b15.lt; omega
    have hXw : ∀ g, blkOf X = some g → w.heap.size ≤ g := fun g hg => Nat.le_trans e05.size (hXg g hg).1
    refine M.run rfl <| M.draw (fun w w' => w.grownBy w' (blkOf X)) (fun _ _ => True) [16] [] [] (fun _ _ _ h => h) (fun w => gr_refl w _) (fun a b c h k => gr_transR h k) (fun _ _ _ => trivial) (fun _ _ _ _ _ => trivial) (by kernel_rfl) ?_
    have ed := gr_drewN w6 1
    have hw1 : IntKind.i64.wrap ((i : Int) + 1) = ((i + 1 : Nat) : Int) := w64 (by omega) (by omega)
    refine D.run rfl <| D.ld 1 rfl rfl rfl rfl (fun w' hw => ((c3.mv0 ed).mv hw x3).cell rfl rfl) <| D.ld 3 rfl rfl rfl rfl (fun w' hw => ((c1.mv0 ed).mv hw x1).cell rfl rfl) <| D.run rfl <| D.ys 5 rfl rfl rfl (YS.ix rfl (by omega) (by omega) hA1) <| D.run rfl <|
      D.ldA 7 rfl rfl rfl rfl rfl (fun w' hw => ((hAC w' (gr_below (gr_new (gr_trans e06 ed) hw hXw))).sub 3 rfl ⟨[], rfl⟩ : Cells _ _ [_, _])) <| D.run rfl ?_
    rw [hw1]
    refine D.one 11 rfl rfl <| M.cl rfl (word_go l (i + 1) U d _ (hU.mv (gr_trans e06 ed)) hb) ?_
    rintro e w7 ⟨⟨y, rfl, hy0, hy1⟩, e7⟩
    have e67 := gr_trans ed e7
    refine ⟨_, rfl, M.run rfl <| M.end_ ⟨.inr (gr_weak e7), D.one 12 rfl rfl <| M.cl rfl (picked_go (nt s i).lo (nt s i).hi y w7 (by omega) ⟨hy0, hy1⟩) ?_⟩⟩
    rintro e w8 ⟨⟨z, rfl, hz0, hz1⟩, e8⟩
    have e68 := gr_trans e67 e8
    refine ⟨_, rfl, M.run rfl <| M.end_ ⟨.inr (gr_weak e8), D.one 13 rfl rfl <| M.bs rfl fun ga wa ba ea la => M.run rfl <| M.end_ ⟨.inr (gr_weak ea), ?_⟩⟩⟩
    have e6a := gr_trans e68 ea
    refine D.one 14 rfl rfl <| M.app (d := dI) rfl rfl (hX.mv0 e6a) rfl (by decide) rfl (ys := [z]) rfl rfl (src_one ba rfl) (Nat.le_trans hsz e6a.size) (by simp [hbl]; omega) (by decide) fun X' x' wb hXb eb hat => M.run rfl <| M.end_ ⟨.inr eb, ?_⟩
    have d3 := (c3.mv0 e6a).mv eb x3
    have d2 := (c2.mv0 e6a).mv eb x2
    have d1 := (c1.mv0 e6a).mv eb x1
    have e0b : w.grownBy wb none := (hX.mv0 e6a).gr (gr_trans e06 e6a) eb e05.size
    refine D.run rfl <| D.one 16 rfl rfl <| M.store rfl rfl d3 rfl rfl fun wc bc ec => M.run rfl <| M.end_ ⟨.inl ⟨rfl, trivial⟩, D.done_ rfl <| M.run rfl <| M.end_
      ⟨(i + 1, bs ++ [z], X', x'), ⟨rfl, rfl, rfl, rfl, nxt (by omega), trivial⟩, ⟨by omega, gr_fresh e0b ec hl3, Nat.le_trans hsz (Nat.le_trans e6a.size (Nat.le_trans eb.size ec.size)), d1.mv1 ec n31, ⟨cs2, hcs2, d2.mv1 ec n32⟩, bc, hXb.mvOld ec hg3, by simp; omega, fun j hj => ?_⟩, by simp; omega⟩⟩
    by_cases hji : j < i
    · have : at0 (bs ++ [z]) j = at0 bs j := by unfold at0; rw [List.getD_eq_getElem?_getD, List.getElem?_append_left (by omega), ← List.getD_eq_getElem?_getD]
      rw [this]; exact hbs j hji
    · have hj' : j = i := by omega
      subst hj'
      have : at0 (bs ++ [z]) j = z := by unfold at0; rw [List.getD_eq_getElem?_getD, List.getElem?_append_right (by omega), hbl]; simp
      rw [this]; exact ⟨hz0, hz1⟩
  · have hin : i = s.nights.length := by have := of_decide_eq_false h; omega
    refine M.run rfl <| M.ldA rfl rfl c3.cellsAll <| M.run rfl <| M.storeA rfl rfl rfl c2 (by rw [hcs2]; exact Nat.le_refl 2) rfl fun w7 b7 e7 => M.run rfl ?_
    have b7' : Blk w7 g2 [.int .i64 st, .slice X bs.length x] 31 := blk_all (by rw [hcs2]; rfl) b7
    exact M.retC (.cellA rfl rfl rfl rfl b7'.cellsAll .nil) ⟨⟨st, bs⟩, X, x, rfl, (hX.mvOld e7 hg2).rd (by decide), truthOk_of ⟨hs0, hs1⟩ (by rw [← hin]; exact hbl) (fun j hj => hbs j (by omega)), gr_fresh e06 e7 hl2⟩
end Go.Proofs.Ytaimlmfncjbmjaa
end

section
/- Walks: Dips, Dipped. -/
set_option linter.unusedVariables false
namespace Go.Proofs.Ytaimlmfncjbmjaa
open Go Go.Vc Go.RowKit Lp
theorem wu64 {x : Int} (h1 : 0 ≤ x) (h2 : x ≤ 18446744073709551615) : IntKind.u64.wrap x = x := by
  simp [IntKind.wrap, IntKind.bits, IntKind.signed]
  omega

set_option maxHeartbeats 1000000 in
theorem Dips_go (l : List Dip) (U : Option Addr) (d : Nat) (w : World) (hU : Rd dDip w U d l) (hn : l.length ≤ 1000) :
    Calls Try.prog 31 #[.slice U l.length d] w fun e w' => ∃ X x, e = .returned (.slice X l.length x) ∧ Vc.Own dDip 103 w' w.heap.size no X x l ∧ w.grownBy w' none := by
  refine calls (G := G) (args := [.slice U l.length d]) Try.func31 rfl rfl rfl ?_
  refine M.run rfl ?_
  refine M.loop (σ := Nat × Option Addr × Nat) (fun (i, X, x) => [(0, .slice U l.length d), (3, .slice X i x), (4, .int .i64 (i : Int))])
    (fun (i, X, x) w' => i ≤ l.length ∧ w.grownBy w' none ∧ Vc.Own dDip 103 w' w.heap.size no X x (l.take i)) (fun (i, _) => l.length - i) (0, none, 0) ⟨rfl, rfl, rfl, trivial⟩ ⟨Nat.zero_le _, gr_refl _ _, by rw [List.take_zero]; exact Vc.Own.nil _ _ _ _ _⟩ ?_
  rintro ⟨i, X, x⟩ w2 ⟨hi, e2, hX⟩
  have hti : (l.take i).length = i := by simp; omega
  refine M.run rfl <| M.cond rfl (fun h => ?_) (fun h => ?_)
  · have hlt : i < l.length := by have := of_decide_eq_true h; omega
    obtain ⟨hU1, hUC⟩ := rd_flat hU hlt
    generalize hy : l[i] = y at hUC
    have hXg : ∀ g, blkOf X = some g → w.heap.size ≤ g ∧ g < w2.heap.size := hX.blkGe
    refine M.run rfl <| M.draw (fun w w' => w.grownBy w' (blkOf X)) (fun _ _ => True) [] [] [] (fun _ _ _ h => h) (fun w => gr_refl w _) (fun a b c h k => gr_transR h k) (fun _ _ _ => trivial) (fun _ _ _ _ _ => trivial) (by kernel_rfl) ?_
    have ed := gr_drewN w2 1
    have hbel : ∀ w', (w2.drewN 1).grownBy w' (blkOf X) → Below w.heap.size w w' := fun w' hw => gr_below (gr_new (gr_trans e2 ed) hw (fun g hg => (hXg g hg).1))
    refine D.run rfl <| D.ys 3 rfl rfl rfl (YS.ix rfl (by omega) (by omega) hU1) <| D.run rfl <| D.ld 5 rfl rfl rfl rfl (fun w' hw => (hUC w' (hbel w' hw)).one 0 rfl rfl) <| D.run rfl <| D.ys 8 rfl rfl rfl (YS.ix rfl (by omega) (by omega) hU1) <| D.run rfl <|
      D.ldA 10 rfl rfl rfl rfl rfl (fun w' hw => ((hUC w' (hbel w' hw)).sub 1 rfl ⟨[], rfl⟩ : Cells _ _ [_, _])) <| D.one 11 rfl rfl <| M.cl rfl (toR_go y.lo y.hi _) ?_
    rintro e w3 ⟨rfl, e3⟩
    have e23 := gr_trans ed e3
    refine ⟨_, rfl, M.run rfl <| M.end_ ⟨.inr (gr_weak e3), D.run rfl <| D.one 13 rfl rfl <| M.bs rfl fun ga wa ba ea la => M.run rfl <| M.end_ ⟨.inr (gr_weak ea), ?_⟩⟩⟩
    have e2a := gr_trans e23 ea
    refine D.one 14 rfl rfl <| M.app (d := dDip) rfl hti.symm (hX.mv0 e2a) rfl (by decide) rfl (ys := [y]) rfl rfl (src_one ba rfl) (gr_trans e2 e2a).size (by rw [hti]; simp; omega) (by decide) fun X' x' wb hXb eb hat => M.run rfl <| M.end_ ⟨.inr eb, ?_⟩
    have e0b : w.grownBy wb none := (hX.mv0 e2a).gr (gr_trans e2 e2a) eb (Nat.le_refl _)
    have hlen : (l.take i ++ [y]).length = i + 1 := by simp; omega
    refine D.run rfl <| D.done_ rfl <| M.run rfl <| M.end_ ⟨(i + 1, X', x'), ⟨rfl, ?_, nxt (by omega), trivial⟩, ⟨by omega, e0b, ?_⟩, by simp; omega⟩
    · rw [← hlen]; rfl
    · rw [take_snoc _ _ hlt, hy]; exact hXb
  · have hin : i = l.length := by have := of_decide_eq_false h; omega
    subst hin
    rw [List.take_length] at hX
    exact M.run rfl <| M.retF rfl rfl ⟨X, x, rfl, hX, e2⟩

set_option maxHeartbeats 2000000 in
theorem Dipped_go (s : Store) (p : Plan) (t : Truth) (l : List Int) (many bits : Int) (A : Option Addr) (c : Nat) (B : Option Addr) (b : Nat) (U : Option Addr) (d : Nat) (E : Option Addr) (f : Nat) (V : Option Addr) (v : Nat) (w : World) (hA : Rd dNight w A c s.nights) (hB : Rd dI w B b p.cans) (hD : Rd dI w U d p.wicks) (hE : Rd dI w E f t.burn)
    (hV : Rd dW w V v l) (hb : ∀ x ∈ l, 0 ≤ x ∧ x ≤ 65535) (hf : Fine s p) (ht : truthOk s t = true) (hm : 0 ≤ many ∧ many ≤ 255) (hbt : 0 ≤ bits ∧ bits ≤ 255) :
    Calls Try.prog 44 #[vStore s A c, vPlan p B b U d, vTruth t E f, .slice V l.length v, .int .u8 many, .int .u8 bits] w fun e w' => ∃ ds X x, e = .returned (.slice X ds.length x) ∧ Vc.Own dDip 85 w' w.heap.size no X x ds ∧ ds.length ≤ 4 ∧ ds.all (dipOk s) = true ∧
      (bits = 0 → ∀ q ∈ ds, ∃ k, k < s.nights.length ∧ q.night = (k : Int) ∧ within (oilAt s p t (k + 1)) q.lo q.hi = true) ∧ w.grownBy w' none := by
  have hfew := hf.ok.few
  have hsome := hf.ok.some_
  refine calls (G := G) (args := [vStore s A c, vPlan p B b U d, vTruth t E f, .slice V l.length v, .int .u8 many, .int .u8 bits]) Try.func44 rfl rfl rfl ?_
  refine M.run rfl <| M.nw rfl fun g1 w1 b1 e1 l1 => M.run rfl <| M.nw rfl fun g2 w2 b2 e2 l2 => M.run rfl <| M.nw rfl fun g3 w3 b3 e3 l3 => M.run rfl <| M.ldA rfl rfl ((b1.mv0 e2).mv0 e3).cellsAll <| M.run rfl <| M.ldA rfl rfl (b2.mv0 e3).cellsAll <| M.run rfl <| M.ldA rfl rfl b3.cellsAll <| M.run rfl ?_
  have e03 := gr_trans (gr_trans e1 e2) e3
  refine M.cl rfl (PlayRef_go s p t A c B b U d E f w3 (hA.mv e03) (hB.mv e03) (hD.mv e03) (hE.mv e03) hf ht) ?_
  rintro e w4 ⟨X, x, Y, y, Z, z, rfl, hX, hY, hZ, e4⟩
  have e04 := gr_trans e03 e4
  have hXr : Rd dI w4 X x (leftL s p t s.nights.length) := hX.rd (by decide)
  have hll : (leftL s p t s.nights.length).length = s.nights.length := by simp [leftL]
  have hlg : ∀ k, (hk : k < (leftL s p t s.nights.length).length) → (leftL s p t s.nights.length)[k] = oilAt s p t (k + 1) := fun k hk => by simp [leftL]
  refine ⟨_, rfl, M.run rfl ?_⟩
  generalize leftL s p t s.nights.length = L at *
  refine M.loop (σ := Nat × List Dip × Option Addr × Nat) (fun (i, ds, Y, y) => [(3, .slice V l.length v), (4, .int .u8 many), (5, .int .u8 bits), (13, .slice X L.length x), (16, .slice Y ds.length y), (17, .int .i64 (i : Int))])
    (fun (i, ds, Y, y) w' => i ≤ 4 ∧ w4.grownBy w' none ∧ Vc.Own dDip 85 w' w4.heap.size no Y y ds ∧ ds.length = i ∧ ds.all (dipOk s) = true ∧ (bits = 0 → ∀ q ∈ ds, ∃ k, k < s.nights.length ∧ q.night = (k : Int) ∧ within (oilAt s p t (k + 1)) q.lo q.hi = true)) (fun (i, _) => 5 - i) (0, [], none, 0)
    ⟨rfl, rfl, rfl, rfl, rfl, rfl, trivial⟩ ⟨by omega, gr_refl _ _, Vc.Own.nil _ _ _ _ _, rfl, rfl, fun _ q hq => by simp at hq⟩ ?_
  rintro ⟨i, ds, Y, y⟩ w5 ⟨hi, e45, hYo, hdl, hdok, hdag⟩
  have e05 := gr_trans e04 e45
  refine M.run rfl ?_
  rw [w64 (x := many) (by omega) (by omega)]
  refine M.cond rfl (fun h => ?_) (fun h => ?_)
  · have hlt := of_decide_eq_true h
    have hm5 : many.tmod 5 < 5 := Int.tmod_lt_of_pos _ (by decide)
    have h23 : IntKind.i64.wrap (IntKind.i64.wrap (2 * (i : Int)) + 3) = ((2 * i + 3 : Nat) : Int) := by
      rw [w64 (x := 2 * (i : Int)) (by omega) (by omega), w64 (by omega) (by omega)]; omega
    refine M.run rfl ?_
    rw [h23]
    refine M.cl rfl (word_go l (2 * i + 3) V v w5 (hV.mv e05) hb) ?_
    rintro e w6 ⟨⟨wd, rfl, hw0, hw1⟩, e6⟩
    have e46 := gr_trans e45 e6
    refine ⟨_, rfl, M.run rfl <| M.ys (YS.rem rfl (by omega)) <| M.run rfl ?_⟩
    rw [tmodN hw0]
    have hk : wd.toNat % L.length < L.length := Nat.mod_lt _ (by omega)
    generalize wd.toNat % L.length = k at hk
    have hks : k < s.nights.length := by omega
    obtain ⟨hX1, hXC⟩ := rd_flat hXr hk
    rw [hlg k hk] at hXC
    have hoil := truth_bd hf ht (k + 1) (by omega)
    refine M.ix rfl (by omega) (by omega) hX1 <| M.run rfl <| M.ld rfl ((hXC w6 (gr_below e46)).one 0 rfl rfl) <| M.run rfl ?_
    rw [wu64 (x := (i : Int)) (by omega) (by omega)]
    refine M.ys (YS.shr rfl (by omega)) <| M.run rfl ?_
    have q64 : 0 ≤ wd.tdiv 64 ∧ wd.tdiv 64 ≤ 65535 := by rw [Int.tdiv_eq_ediv_of_nonneg (by omega)]; omega
    have q8 : 0 ≤ wd.tdiv 8 ∧ wd.tdiv 8 ≤ 65535 := by rw [Int.tdiv_eq_ediv_of_nonneg (by omega)]; omega
    have q32 : 0 ≤ wd.tdiv 32 ∧ wd.tdiv 32 ≤ 65535 := by rw [Int.tdiv_eq_ediv_of_nonneg (by omega)]; omega
    have r20 : 0 ≤ (wd.tdiv 64).tmod 20 ∧ (wd.tdiv 64).tmod 20 < 20 := ⟨Int.tmod_nonneg _ q64.1, Int.tmod_lt_of_pos _ (by decide)⟩
    have r8 : 0 ≤ (wd.tdiv 8).tmod 4 ∧ (wd.tdiv 8).tmod 4 < 4 := ⟨Int.tmod_nonneg _ q8.1, Int.tmod_lt_of_pos _ (by decide)⟩
    have r32 : 0 ≤ (wd.tdiv 32).tmod 4 ∧ (wd.tdiv 32).tmod 4 < 4 := ⟨Int.tmod_nonneg _ q32.1, Int.tmod_lt_of_pos _ (by decide)⟩
    refine M.cutC (σ := Int) (fun n => [(3, .slice V l.length v), (4, .int .u8 many), (5, .int .u8 bits), (13, .slice X L.length x), (16, .slice Y ds.length y), (17, .int .i64 (i : Int)), (18, .int .i64 wd), (19, .int .i64 (k : Int)), (20, .int .i64 n)])
      (fun n w' => w' = w6 ∧ 0 ≤ n ∧ n ≤ 400 ∧ (bits = 0 → n = oilAt s p t (k + 1))) ?_ ?_ post_weak
    · refine M.cond rfl (fun h2 => ?_) (fun h2 => ?_)
      · have hne : bits ≠ 0 := fun hz => by
          rw [hz] at h2
          simp at h2
        refine M.run rfl ?_
        rw [w64 (x := oilAt s p t (k + 1) - 3) (by omega) (by omega), w64 (x := wd.tdiv 64) (by omega) (by omega), w64 (x := oilAt s p t (k + 1) - 3 - (wd.tdiv 64).tmod 20) (by omega) (by omega)]
        refine M.end_ ⟨_, ⟨rfl, rfl, rfl, rfl, rfl, rfl, rfl, rfl, rfl, trivial⟩, rfl, ?_, ?_, fun hz => absurd hz hne⟩
        · split <;> omega
        · split <;> omega
      · exact M.run rfl <| M.end_ ⟨_, ⟨rfl, rfl, rfl, rfl, rfl, rfl, rfl, rfl, rfl, trivial⟩, rfl, hoil.1, hoil.2, fun _ => rfl⟩
    rintro n w7 ⟨rfl, hn0, hn1, hnb⟩
    refine M.run rfl ?_
    rw [w64 (x := wd.tdiv 8) (by omega) (by omega), w64 (x := n - (wd.tdiv 8).tmod 4) (by omega) (by omega), w64 (x := wd.tdiv 32) (by omega) (by omega), w64 (x := n + (wd.tdiv 32).tmod 4) (by omega) (by omega)]
    generalize hlo : (if n - (wd.tdiv 8).tmod 4 > 0 then n - (wd.tdiv 8).tmod 4 else 0) = lo
    generalize hhi : (if n + (wd.tdiv 32).tmod 4 < 400 then n + (wd.tdiv 32).tmod 4 else 400) = hi'
    have hlo' : 0 ≤ lo ∧ lo ≤ n := by rw [← hlo]; split <;> omega
    have hhi' : n ≤ hi' ∧ hi' ≤ 400 := by rw [← hhi]; split <;> omega
    refine M.bs rfl fun ga wa ba ea la => M.run rfl ?_
    have e6a := gr_trans e6 ea
    refine M.app (d := dDip) rfl rfl (hYo.mv0 e6a) rfl (by decide) rfl (ys := [⟨(k : Int), lo, hi'⟩]) rfl rfl (src_one ba rfl) (gr_trans e45 e6a).size (by simp [hdl]; omega) (by decide) fun Y' y' wb hYb eb hat => ?_
    have e4b : w4.grownBy wb none := (hYo.mv0 e6a).gr (gr_trans e45 e6a) eb (Nat.le_refl _)
    refine M.run rfl <| M.end_ ⟨(i + 1, ds ++ [⟨(k : Int), lo, hi'⟩], Y', y'), ⟨rfl, rfl, rfl, rfl, rfl, nxt (by omega), trivial⟩, ⟨by omega, e4b, hYb, by simp; omega, ?_, fun hz q hq => ?_⟩, by simp; omega⟩
    · rw [List.all_append, hdok]
      simp only [List.all_cons, List.all_nil, Bool.and_true, Bool.true_and]
      unfold dipOk
      rw [Bool.and_eq_true, Lp.within_iff, rto_iff]
      exact ⟨by constructor <;> simp <;> omega, by simp; omega⟩
    · rw [List.mem_append] at hq
      rcases hq with hq | hq
      · exact hdag hz q hq
      · simp only [List.mem_singleton] at hq
        subst hq
        refine ⟨k, hks, rfl, Lp.within_iff.2 ?_⟩
        have := hnb hz
        simp only
        omega
  · exact M.run rfl <| M.retF rfl rfl ⟨ds, Y, y, rfl, hYo.weaken e04.size (fun _ h => h), by omega, hdok, hdag, e05⟩
end Go.Proofs.Ytaimlmfncjbmjaa
end

section
/- Walk of the law: LampTruth. -/
set_option linter.unusedVariables false
namespace Go.Proofs.Ytaimlmfncjbmjaa
open Go Go.Vc Go.RowKit Lp
theorem _root_.Go.Vc.LQ.caseF {G : Ctx} {n : Nat} {all : Array Oper} {C : World → Prop} {QF : Env → Prop} {l : List Oper} {ρ : Env} (d : Nat) {b : Bool} (hd : ρ.find d = some (.bool b)) (hb : b = false) (h : LQ G n all C QF l ((d, .bool false) :: ρ)) : LQ G n all C QF l ρ :=
  LQ.case d hd (fun h2 => by rw [hb] at h2; cases h2) (fun _ => h)
theorem _root_.Go.Vc.LQ.caseT {G : Ctx} {n : Nat} {all : Array Oper} {C : World → Prop} {QF : Env → Prop} {l : List Oper} {ρ : Env} (d : Nat) {b : Bool} (hd : ρ.find d = some (.bool b)) (hb : b = true) (h : LQ G n all C QF l ((d, .bool true) :: ρ)) : LQ G n all C QF l ρ :=
  LQ.case d hd (fun _ => h) (fun h2 => by rw [hb] at h2; cases h2)
/-- what happens in a night -/
theorem night_facts {s : Store} {p : Plan} {t : Truth} (hf : Fine s p) (ht : truthOk s t = true) {i : Nat} (hi : i < s.nights.length) :
    (0 ≤ oilAt s p t i ∧ oilAt s p t i ≤ 400) ∧ (0 ≤ at0 p.cans i * s.can ∧ at0 p.cans i * s.can ≤ 400) ∧ (0 ≤ nowAt s p t i ∧ nowAt s p t i ≤ s.cap) ∧ (0 ≤ backAt s p t i ∧ backAt s p t i ≤ 800) ∧ (0 < backAt s p t i → nowAt s p t i = s.cap) ∧ (0 ≤ oilAt s p t (i + 1) ∧ oilAt s p t (i + 1) ≤ 400) ∧
    (0 ≤ need (nt s i) (at0 p.wicks i) (at0 t.burn i) ∧ need (nt s i) (at0 p.wicks i) (at0 t.burn i) ≤ 1000000000) ∧ (litAt s p t i = true → oilAt s p t (i + 1) = nowAt s p t i - need (nt s i) (at0 p.wicks i) (at0 t.burn i)) ∧ (litAt s p t i = false → oilAt s p t (i + 1) = 0 ∧ nowAt s p t i < need (nt s i) (at0 p.wicks i) (at0 t.burn i)) := by
  have ho := truth_bd hf ht i (by omega)
  have ho2 := truth_bd hf ht (i + 1) (by omega)
  have ha := hf.add hi
  have hcap := hf.ok.cap
  have hn := hf.ok.nt hi
  have hw := hf.wicks i hi
  obtain ⟨k1, k2, k3, k4⟩ := truthOk_spec ht
  have hb := k4 i (by omega)
  have hnow := now_bd (s := s) (oil := oilAt s p t i) (c := at0 p.cans i) ho.1 ha.1 (by omega)
  have hnd := need_bd (n := nt s i) (wi := at0 p.wicks i) (bu := at0 t.burn i) (by omega) (by omega) (by omega)
  have hstep : oilAt s p t (i + 1) = rest (nt s i) (nowAt s p t i) (at0 p.wicks i) (at0 t.burn i) := rfl
  have hoc := oil_bd (t := t) hf (by have := hf.ok.start; omega) (by have := hf.ok.start; omega) (fun j hj => by have := k4 j (by omega); have := hf.ok.nt hj; omega) i (by omega)
  refine ⟨ho, ha, ⟨hnow.1, hnow.2.1⟩, ?_, ?_, ho2, hnd.2.2, ?_, ?_⟩
  · unfold backAt nowAt now at *
    split at hnow <;> rename_i h <;> simp only [h, if_true, if_false] <;> omega
  · unfold backAt nowAt now
    intro h
    split at h <;> rename_i h2 <;> simp only [h2, if_true, if_false] at * <;> omega
  · intro hl
    unfold litAt litB at hl
    simp only [Bool.not_eq_true', decide_eq_false_iff_not] at hl
    rw [hstep]
    unfold rest
    rw [if_neg hl]
  · intro hl
    unfold litAt litB at hl
    simp only [Bool.not_eq_false', decide_eq_true_eq] at hl
    rw [hstep]
    unfold rest
    rw [if_pos hl]
    exact ⟨rfl, hl⟩

set_option maxHeartbeats 4000000 in
set_option maxRecDepth 100000 in
theorem LampTruth_go (s : Store) (p : Plan) (wl : List Int) (many : Int) (A : Option Addr) (c : Nat) (B : Option Addr) (b : Nat) (U : Option Addr) (d : Nat) (V : Option Addr) (v : Nat) (w : World) (hA : Rd dNight w A c s.nights) (hB : Rd dI w B b p.cans) (hD : Rd dI w U d p.wicks) (hV : Rd dW w V v wl) (hwl : ∀ x ∈ wl, 0 ≤ x ∧ x ≤ 65535) (q0 : 0 ≤ many) (q1 : many ≤ 255) :
    Calls Try.prog 7 #[vStore s A c, vPlan p B b U d, .slice V wl.length v, .int .u8 many] w fun e w' => e = .returned (.bool true) ∧ w.grownBy w' none := by
  refine calls (G := G) (args := [vStore s A c, vPlan p B b U d, .slice V wl.length v, .int .u8 many]) Try.func7 rfl rfl rfl ?_
  refine M.run rfl <| M.nw rfl fun g1 w1 b1 e1 l1 => M.run rfl <| M.nw rfl fun g2 w2 b2 e2 l2 => M.run rfl <| M.ldA rfl rfl (b1.mv0 e2).cellsAll <| M.run rfl <| M.ldA rfl rfl b2.cellsAll <| M.run rfl <|
    M.cl rfl (ready_go s p A c B b U d w2 (hA.mv (gr_trans e1 e2)) (hB.mv (gr_trans e1 e2)) (hD.mv (gr_trans e1 e2))) ?_
  rintro e w3 ⟨rfl, e3⟩
  have e03 := gr_trans (gr_trans e1 e2) e3
  replace b1 := (b1.mv0 e2).mv0 e3
  replace b2 := b2.mv0 e3
  refine ⟨_, rfl, M.run rfl <| M.cond rfl (fun h => ?_) (fun h => ?_)⟩
  · refine M.run rfl <| M.cl rfl (awake_go w3) ?_
    rintro e wz ⟨rfl, ez⟩
    exact ⟨_, rfl, M.run rfl <| M.retF rfl rfl ⟨rfl, gr_trans e03 ez⟩⟩
  have hr : readyB s p = true := by simpa using h
  have hck := ready_check hr
  have hf := check_fine hck
  have hfew := hf.ok.few
  have hsome := hf.ok.some_
  have hcl := hf.cl
  have hwkl := hf.wl
  refine M.run rfl <| M.ldA rfl rfl b1.cellsAll <| M.run rfl <| M.cl rfl (Picked_go s wl A c V v w3 (hA.mv e03) (hV.mv e03) hwl hf.ok) ?_
  rintro e w4 ⟨t, T, tc, rfl, hT, ht, e4⟩
  have e04 := gr_trans e03 e4
  obtain ⟨tk1, tk2, tk3, tk4⟩ := truthOk_spec ht
  refine ⟨_, rfl, M.run rfl <| M.nw rfl fun g9 w5 b9 e5 l5 => M.run rfl <| M.store rfl rfl b9 rfl rfl fun w6 b9' e6 => ?_⟩
  clear b9
  have e46 : w4.grownBy w6 none := gr_fresh e5 e6 l5
  have e06 := gr_trans e04 e46
  have e36 := gr_trans e4 e46
  replace b1 := b1.mv0 e36
  replace b2 := b2.mv0 e36
  replace hT := hT.mv e46
  refine M.run rfl <| M.ldA rfl rfl b1.cellsAll <| M.run rfl <| M.ldA rfl rfl b2.cellsAll <| M.run rfl <| M.ldA rfl rfl (b9'.cellsAll : Cells _ _ [_, _]) <| M.run rfl <|
    M.cl rfl (Dipped_go s p t wl many 0 A c B b U d T tc V v w6 (hA.mv e06) (hB.mv e06) (hD.mv e06) hT (hV.mv e06) hwl hf ht ⟨q0, q1⟩ ⟨by omega, by omega⟩) ?_
  rintro e w7 ⟨ds, E, ec, rfl, hE, hdl, hdok, hdag, e7⟩
  have e07 := gr_trans e06 e7
  replace b1 := b1.mv0 e7
  replace b2 := b2.mv0 e7
  have b9 := b9'.mv0 e7
  replace hT := hT.mv e7
  have hEr : Rd dDip w7 E ec ds := hE.rd (by decide)
  have hd0 := dipped_ok hck (by omega) hdok
  have hfit : Fits s p ds t := fits_iff.2 ⟨ht, fun q hq j hj hn => by
    obtain ⟨k, hk, hqk, hin⟩ := hdag rfl q hq
    have : k = j := by omega
    subst this
    exact Lp.within_iff.1 hin⟩
  have hlv : levelsOk s p ds = true := (levelsOk_iff hf).2 ⟨t, hfit⟩
  obtain ⟨hoE, hoR⟩ := (oil_fine hd0).1 hlv
  have hlE : leaveE s p ds = 0 := hd0
  have hlR : leaveR s p ds = [] := (leave_nil hf hd0).2 hlv
  have hpE : playE s p t = 0 := by simp [playE, hck, ht]
  have hpL : playL s p t = leftL s p t s.nights.length := by simp [playL, hpE]
  have hpB : playB s p t = backL s p t s.nights.length := by simp [playB, hpE]
  have hpI : playI s p t = litL s p t s.nights.length := by simp [playI, hpE]
  have hdR : darkR s p = darkL s p s.nights.length := by simp [darkR, hck]
  refine ⟨_, rfl, M.run rfl <| M.drawG [] (by kernel_rfl) fun w8 e8 => ?_⟩
  have e78 := e8
  have e08 := gr_trans e07 e78
  refine D.run rfl <| D.ldA 0 rfl rfl rfl rfl rfl (fun w' hw => ((b1.mv0 e78).mv0 hw).cellsAll) <| D.ldA 2 rfl rfl rfl rfl rfl (fun w' hw => ((b2.mv0 e78).mv0 hw).cellsAll) <| D.ldA 4 rfl rfl rfl rfl rfl (fun w' hw => (((b9.mv0 e78).mv0 hw).cellsAll : Cells _ _ [_, _])) <| D.one 1 rfl rfl <| M.cl rfl (StoreC_go s A c w8 (hA.mv e08) (by omega)) ?_
  rintro e w9 ⟨A1, a1, rfl, hA1, e9⟩
  refine ⟨_, rfl, M.run rfl <| M.end_ ⟨.inr e9, D.one 3 rfl rfl <| M.cl rfl (PlanC_go p B b U d w9 (hB.mv (gr_trans e08 e9)) (hD.mv (gr_trans e08 e9)) (by omega) (by omega)) ?_⟩⟩
  rintro e wa ⟨B1, b1', U1, u1, rfl, hB1, hU1, ea⟩
  have e7a := gr_trans (gr_trans e8 e9) ea
  refine ⟨_, rfl, M.run rfl <| M.end_ ⟨.inr ea, D.one 5 rfl rfl <| M.cl rfl (TruthC_go t T tc wa (hT.mv e7a) (by omega)) ?_⟩⟩
  rintro e wb ⟨T1, t1, rfl, hT1, eb⟩
  refine ⟨_, rfl, M.run rfl <| M.end_ ⟨.inr eb, D.one 6 rfl rfl <| M.cl rfl (Play_go s p t A1 a1 B1 b1' U1 u1 T1 t1 wb (hA1.mv (gr_trans ea eb)) (hB1.mv eb) (hU1.mv eb) hT1) ?_⟩⟩
  rintro e wc ⟨X, x, Y, y, Z, z, rfl, hX, hY, hZ, ec1⟩
  rw [hpE]
  rw [hpL] at hX
  rw [hpB] at hY
  rw [hpI] at hZ
  rw [hpL, hpB, hpI]
  have e7c := gr_trans e7a (gr_trans eb ec1)
  have e0c := gr_trans e07 e7c
  refine ⟨_, rfl, M.run rfl <| M.end_ ⟨.inr ec1, D.run rfl <| D.done_ rfl <| M.run rfl <| M.drawG [] (by kernel_rfl) fun w8 e8 => ?_⟩⟩
  have e78 := gr_trans e7c e8
  have e08 := gr_trans e07 e78
  refine D.run rfl <| D.ldA 0 rfl rfl rfl rfl rfl (fun w' hw => ((b1.mv0 e78).mv0 hw).cellsAll) <| D.ldA 2 rfl rfl rfl rfl rfl (fun w' hw => ((b2.mv0 e78).mv0 hw).cellsAll) <| D.one 1 rfl rfl <| M.cl rfl (StoreC_go s A c w8 (hA.mv e08) (by omega)) ?_
  rintro e w9 ⟨A1, a1, rfl, hA1, e9⟩
  refine ⟨_, rfl, M.run rfl <| M.end_ ⟨.inr e9, D.one 3 rfl rfl <| M.cl rfl (PlanC_go p B b U d w9 (hB.mv (gr_trans e08 e9)) (hD.mv (gr_trans e08 e9)) (by omega) (by omega)) ?_⟩⟩
  rintro e wa ⟨B1, b1', U1, u1, rfl, hB1, hU1, ea⟩
  have e7a := gr_trans (gr_trans e78 e9) ea
  refine ⟨_, rfl, M.run rfl <| M.end_ ⟨.inr ea, D.one 5 rfl rfl <| M.cl rfl (Dips_go ds E ec wa (hEr.mv e7a) (by omega)) ?_⟩⟩
  rintro e wb ⟨E1, ec2, rfl, hE1, eb⟩
  refine ⟨_, rfl, M.run rfl <| M.end_ ⟨.inr eb, D.one 6 rfl rfl <| M.cl rfl (Oil_go s p ds A1 a1 B1 b1' U1 u1 E1 ec2 wb (hA1.mv (gr_trans ea eb)) (hB1.mv eb) (hU1.mv eb) (hE1.rd (by decide))) ?_⟩⟩
  rintro e wd ⟨R, r, rfl, hR, ed⟩
  rw [hoE]
  rw [hoR] at hR
  rw [hoR]
  have ecd := gr_trans (gr_trans (gr_trans e8 e9) ea) (gr_trans eb ed)
  have e7d := gr_trans e7c ecd
  refine ⟨_, rfl, M.run rfl <| M.end_ ⟨.inr ed, D.run rfl <| D.done_ rfl <| M.run rfl <| M.drawG [] (by kernel_rfl) fun w8 e8 => ?_⟩⟩
  have e78 := gr_trans e7d e8
  have e08 := gr_trans e07 e78
  refine D.run rfl <| D.ldA 0 rfl rfl rfl rfl rfl (fun w' hw => ((b1.mv0 e78).mv0 hw).cellsAll) <| D.ldA 2 rfl rfl rfl rfl rfl (fun w' hw => ((b2.mv0 e78).mv0 hw).cellsAll) <| D.one 1 rfl rfl <| M.cl rfl (StoreC_go s A c w8 (hA.mv e08) (by omega)) ?_
  rintro e w9 ⟨A1, a1, rfl, hA1, e9⟩
  refine ⟨_, rfl, M.run rfl <| M.end_ ⟨.inr e9, D.one 3 rfl rfl <| M.cl rfl (PlanC_go p B b U d w9 (hB.mv (gr_trans e08 e9)) (hD.mv (gr_trans e08 e9)) (by omega) (by omega)) ?_⟩⟩
  rintro e wa ⟨B1, b1', U1, u1, rfl, hB1, hU1, ea⟩
  refine ⟨_, rfl, M.run rfl <| M.end_ ⟨.inr ea, D.one 4 rfl rfl <| M.cl rfl (Dark_go s p A1 a1 B1 b1' U1 u1 wa (hA1.mv ea) hB1 hU1) ?_⟩⟩
  rintro e we ⟨K, k', rfl, hK, ee⟩
  rw [hck]
  rw [hdR] at hK
  rw [hdR]
  have ede := gr_trans (gr_trans e8 e9) (gr_trans ea ee)
  have e7e := gr_trans e7d ede
  refine ⟨_, rfl, M.run rfl <| M.end_ ⟨.inr ee, D.run rfl <| D.done_ rfl <| M.run rfl <| M.drawG [] (by kernel_rfl) fun w8 e8 => ?_⟩⟩
  have e78 := gr_trans e7e e8
  have e08 := gr_trans e07 e78
  refine D.run rfl <| D.ldA 0 rfl rfl rfl rfl rfl (fun w' hw => ((b1.mv0 e78).mv0 hw).cellsAll) <| D.ldA 2 rfl rfl rfl rfl rfl (fun w' hw => ((b2.mv0 e78).mv0 hw).cellsAll) <| D.one 1 rfl rfl <| M.cl rfl (StoreC_go s A c w8 (hA.mv e08) (by omega)) ?_
  rintro e w9 ⟨A1, a1, rfl, hA1, e9⟩
  refine ⟨_, rfl, M.run rfl <| M.end_ ⟨.inr e9, D.one 3 rfl rfl <| M.cl rfl (PlanC_go p B b U d w9 (hB.mv (gr_trans e08 e9)) (hD.mv (gr_trans e08 e9)) (by omega) (by omega)) ?_⟩⟩
  rintro e wa ⟨B1, b1', U1, u1, rfl, hB1, hU1, ea⟩
  have e7a := gr_trans (gr_trans e78 e9) ea
  refine ⟨_, rfl, M.run rfl <| M.end_ ⟨.inr ea, D.one 5 rfl rfl <| M.cl rfl (Dips_go ds E ec wa (hEr.mv e7a) (by omega)) ?_⟩⟩
  rintro e wb ⟨E1, ec2, rfl, hE1, eb⟩
  refine ⟨_, rfl, M.run rfl <| M.end_ ⟨.inr eb, D.one 6 rfl rfl <| M.cl rfl (Leave_go s p ds A1 a1 B1 b1' U1 u1 E1 ec2 wb (hA1.mv (gr_trans ea eb)) (hB1.mv eb) (hU1.mv eb) (hE1.rd (by decide))) ?_⟩⟩
  rintro e wf ⟨O, o, rfl, hO, ef⟩
  rw [hlE]
  rw [hlR]
  have eef := gr_trans (gr_trans (gr_trans e8 e9) ea) (gr_trans eb ef)
  have e7f := gr_trans e7e eef
  have ecf := gr_trans ecd (gr_trans ede eef)
  have edf := gr_trans ede eef
  have e0f := gr_trans e07 e7f
  refine ⟨_, rfl, M.run rfl <| M.end_ ⟨.inr ef, D.run rfl <| D.done_ rfl <| M.run rfl ?_⟩⟩
  replace b1 := b1.mv0 e7f
  replace b2 := b2.mv0 e7f
  replace b9 := b9.mv0 e7f
  have rA := hA.mv e0f
  have rB := hB.mv e0f
  have rD := hD.mv e0f
  have rT := hT.mv e7f
  have rX : Rd dI wf X x _ := Rd.mv (hX.rd (by decide)) ecf
  have rY : Rd dI wf Y y _ := Rd.mv (hY.rd (by decide)) ecf
  have rZ : Rd dB wf Z z _ := Rd.mv (hZ.rd (by decide)) ecf
  have rR : Rd dRng wf R r _ := Rd.mv (hR.rd (by decide)) edf
  have rK : Rd dI wf K k' _ := Rd.mv (hK.rd (by decide)) eef
  have n1 : (leftL s p t s.nights.length).length = s.nights.length := by simp [leftL]
  have n2 : (backL s p t s.nights.length).length = s.nights.length := by simp [backL]
  have n3 : (litL s p t s.nights.length).length = s.nights.length := by simp [litL]
  have n4 := rngs_len s p ds
  clear hX hY hZ hR hK hO hEr hE
  refine M.ld rfl (b1.cell rfl rfl) <| M.at_ [106] rfl <| M.caseF 106 rfl (by rw [n1]; simp) <| M.at_ [113] rfl <| M.caseF 113 rfl (by rw [n1, n2]; simp) <| M.at_ [120] rfl <| M.caseF 120 rfl (by rw [n1, n3]; simp) <| M.run rfl <| M.condF rfl (by rw [n1, n4]; simp) <|
    M.run rfl <| M.ld rfl (b9.cell rfl rfl) <| M.run rfl ?_
  have gX : ∀ i, (hi : i < (leftL s p t s.nights.length).length) → (leftL s p t s.nights.length)[i] = oilAt s p t (i + 1) := fun i hi => by simp [leftL]
  have gY : ∀ i, (hi : i < (backL s p t s.nights.length).length) → (backL s p t s.nights.length)[i] = backAt s p t i := fun i hi => by simp [backL]
  have gZ : ∀ i, (hi : i < (litL s p t s.nights.length).length) → (litL s p t s.nights.length)[i] = litAt s p t i := fun i hi => by simp [litL]
  have gR : ∀ i, (hi : i < (rngs s p ds).length) → (rngs s p ds)[i].lo ≤ oilAt s p t (i + 1) ∧ oilAt s p t (i + 1) ≤ (rngs s p ds)[i].hi := fun i hi => by
    rw [rngs_get s p ds (by omega)]
    exact (range_spec hf hlv (by omega)).2.2 t hfit
  have gK : ∀ i, i < s.nights.length → litAt s p t i = false → (darkL s p s.nights.length).contains (i : Int) = true := fun i hi hl => by
    rw [List.contains_iff_mem, dark_mem]
    refine ⟨i, hi, rfl, ?_⟩
    cases h : litAt s p (lowT s) i with
    | false => rfl
    | true => rw [(low_le hf ht i (by omega)).2 hi h] at hl; cases hl
  generalize leftL s p t s.nights.length = LX at *
  generalize backL s p t s.nights.length = LY at *
  generalize litL s p t s.nights.length = LZ at *
  generalize rngs s p ds = LR at *
  generalize darkL s p s.nights.length = LK at *
  refine M.loop (σ := Nat) (fun i => [(4, .pointer (some ⟨g1, 0, none⟩)), (5, .pointer (some ⟨g2, 0, none⟩)), (9, .pointer (some ⟨g9, 0, none⟩)), (11, .slice X LX.length x), (12, .slice Y LY.length y), (13, .slice Z LZ.length z), (15, .slice R LR.length r), (17, .slice K LK.length k'), (21, .int .i64 (oilAt s p t i)), (22, .int .i64 (i : Int))])
    (fun i w' => i ≤ s.nights.length ∧ wf.grownBy w' none) (fun i => s.nights.length - i) 0 ⟨rfl, rfl, rfl, rfl, rfl, rfl, rfl, rfl, rfl, rfl, trivial⟩ ⟨Nat.zero_le _, gr_refl _ _⟩ ?_
  rintro i wg ⟨hi, eg⟩
  have c1 := b1.mv0 eg
  have c2 := b2.mv0 eg
  have c9 := b9.mv0 eg
  refine M.run rfl <| M.cond rfl (fun h => ?_) (fun h => ?_)
  rotate_left
  · refine M.run rfl <| M.cl rfl (awake_go wg) ?_
    rintro e wz ⟨rfl, ez⟩
    exact ⟨_, rfl, M.run rfl <| M.retF rfl rfl ⟨rfl, gr_trans (gr_trans e0f eg) ez⟩⟩
  have hlt : i < s.nights.length := by have := of_decide_eq_true h; omega
  obtain ⟨f1, f2, f3, f4, f5, f6, f7, f8, f9⟩ := night_facts hf ht hlt
  have hcap := hf.ok.cap
  obtain ⟨hA1, hAC⟩ := rd_flat rA hlt
  obtain ⟨hB1, hBC⟩ := rd_flat rB (show i < p.cans.length by omega)
  obtain ⟨hD1, hDC⟩ := rd_flat rD (show i < p.wicks.length by omega)
  obtain ⟨hT1, hTC⟩ := rd_flat rT (show i < t.burn.length by omega)
  obtain ⟨hX1, hXC⟩ := rd_flat rX (show i < LX.length by omega)
  obtain ⟨hY1, hYC⟩ := rd_flat rY (show i < LY.length by omega)
  obtain ⟨hZ1, hZC⟩ := rd_flat rZ (show i < LZ.length by omega)
  obtain ⟨hR1, hRC⟩ := rd_flat rR (show i < LR.length by omega)
  rw [nt_get hlt] at hAC
  rw [at0_get (show i < p.cans.length by omega)] at hBC
  rw [at0_get (show i < p.wicks.length by omega)] at hDC
  rw [at0_get (show i < t.burn.length by omega)] at hTC
  rw [gX i (by omega)] at hXC
  rw [gY i (by omega)] at hYC
  rw [gZ i (by omega)] at hZC
  have hRb := gR i (by omega)
  generalize LR[i]'(by omega) = rg at hRC hRb
  have bw : ∀ {w'}, wg.grownBy w' none → Below wf.heap.size wf w' := fun hw => gr_below (gr_trans eg hw)
  have hneed : IntKind.i64.wrap (IntKind.i64.wrap ((nt s i).hours * at0 p.wicks i) * at0 t.burn i) = need (nt s i) (at0 p.wicks i) (at0 t.burn i) := by
    have hn := hf.ok.nt hlt
    have hw := hf.wicks i hlt
    have hm := mul_bd (a := (nt s i).hours) (A := 14) (b := at0 p.wicks i) (B := 4) ⟨by omega, by omega⟩ ⟨by omega, by omega⟩ (by omega)
    rw [w64 (x := (nt s i).hours * at0 p.wicks i) (by omega) (by omega)]
    unfold need at f7 ⊢
    exact w64 (by omega) (by omega)
  have hsum : IntKind.i64.wrap (oilAt s p t i + IntKind.i64.wrap (at0 p.cans i * s.can)) = oilAt s p t i + at0 p.cans i * s.can := by
    rw [w64 (x := at0 p.cans i * s.can) (by omega) (by omega), w64 (by omega) (by omega)]
  have hnow : IntKind.i64.wrap (oilAt s p t i + at0 p.cans i * s.can - backAt s p t i) = nowAt s p t i := by
    rw [w64 (by omega) (by omega)]; unfold backAt; omega
  have hbur : IntKind.i64.wrap (nowAt s p t i - oilAt s p t (i + 1)) = nowAt s p t i - oilAt s p t (i + 1) := w64 (by omega) (by omega)
  have hback : IntKind.i64.wrap (nowAt s p t i - oilAt s p t (i + 1) + oilAt s p t (i + 1)) = nowAt s p t i := by rw [w64 (by omega) (by omega)]; omega
  refine M.run rfl <| M.quiet (by kernel_rfl) <| LQ.run rfl <| LQ.ld rfl (fun w' hw => (c1.mv0 hw).cell rfl rfl) <| LQ.run rfl <| LQ.ix rfl (by omega) (by omega) hA1 <| LQ.run rfl <| LQ.ld rfl (fun w' hw => (hAC w' (bw hw)).one 0 rfl rfl) <| LQ.run rfl <|
    LQ.ld rfl (fun w' hw => (c2.mv0 hw).cell rfl rfl) <| LQ.run rfl <| LQ.ix rfl (by omega) (by omega) hD1 <| LQ.run rfl <| LQ.ld rfl (fun w' hw => (hDC w' (bw hw)).one 0 rfl rfl) <| LQ.run rfl <|
    LQ.ld rfl (fun w' hw => (c9.mv0 hw).cell rfl rfl) <| LQ.run rfl <| LQ.ix rfl (by omega) (by omega) hT1 <| LQ.run rfl <| LQ.ld rfl (fun w' hw => (hTC w' (bw hw)).one 0 rfl rfl) <| LQ.run rfl <| LQ.nil fun wh eh => ?_
  rw [hneed]
  replace c1 := c1.mv0 eh
  replace c2 := c2.mv0 eh
  have bw : ∀ {w'}, wh.grownBy w' none → Below wf.heap.size wf w' := fun hw => bw (gr_trans eh hw)
  have egh := gr_trans eg eh
  refine M.run rfl <| M.quiet (by kernel_rfl) <| LQ.run rfl <| LQ.ld rfl (fun w' hw => (c2.mv0 hw).cell rfl rfl) <| LQ.run rfl <| LQ.ix rfl (by omega) (by omega) hB1 <| LQ.run rfl <| LQ.ld rfl (fun w' hw => (hBC w' (bw hw)).one 0 rfl rfl) <| LQ.run rfl <|
    LQ.ld rfl (fun w' hw => (c1.mv0 hw).cell rfl rfl) <| LQ.run rfl ?_
  rw [hsum]
  refine LQ.ix rfl (by omega) (by omega) hY1 <| LQ.run rfl <| LQ.ld rfl (fun w' hw => (hYC w' (bw hw)).one 0 rfl rfl) <| LQ.run rfl ?_
  rw [hnow]
  refine LQ.ix rfl (by omega) (by omega) hX1 <| LQ.run rfl <| LQ.ld rfl (fun w' hw => (hXC w' (bw hw)).one 0 rfl rfl) <| LQ.run rfl ?_
  rw [hbur]
  refine LQ.nil fun wi ei => ?_
  replace c1 := c1.mv0 ei
  replace c2 := c2.mv0 ei
  have bw : ∀ {w'}, wi.grownBy w' none → Below wf.heap.size wf w' := fun hw => bw (gr_trans ei hw)
  have egh := gr_trans egh ei
  refine M.run rfl <| M.quiet (by kernel_rfl) <| LQ.run rfl ?_
  refine LQ.ix rfl (by omega) (by omega) hY1 <| LQ.run rfl <| LQ.ld rfl (fun w' hw => (hYC w' (bw hw)).one 0 rfl rfl) <| LQ.at_ [178] rfl <| LQ.caseF 178 rfl (decide_eq_false (by omega)) <| LQ.run rfl <|
    LQ.ix rfl (by omega) (by omega) hX1 <| LQ.run rfl <| LQ.ld rfl (fun w' hw => (hXC w' (bw hw)).one 0 rfl rfl) <| LQ.at_ [185] rfl <| LQ.caseF 185 rfl (decide_eq_false (by omega)) <| LQ.run rfl <|
    LQ.ld rfl (fun w' hw => (c2.mv0 hw).cell rfl rfl) <| LQ.run rfl <| LQ.ix rfl (by omega) (by omega) hB1 <| LQ.run rfl <| LQ.ld rfl (fun w' hw => (hBC w' (bw hw)).one 0 rfl rfl) <| LQ.run rfl <|
    LQ.ld rfl (fun w' hw => (c1.mv0 hw).cell rfl rfl) <| LQ.run rfl ?_
  rw [hsum]
  refine LQ.ix rfl (by omega) (by omega) hY1 <| LQ.run rfl <| LQ.ld rfl (fun w' hw => (hYC w' (bw hw)).one 0 rfl rfl) <| LQ.run rfl ?_
  rw [hnow]
  refine LQ.ld rfl (fun w' hw => (c1.mv0 hw).cell rfl rfl) <| LQ.at_ [205] rfl <| LQ.caseF 205 rfl (decide_eq_false (by omega)) <| LQ.run rfl <| LQ.ix rfl (by omega) (by omega) hY1 <| LQ.run rfl <| LQ.ld rfl (fun w' hw => (hYC w' (bw hw)).one 0 rfl rfl) <| LQ.at_ [211] rfl ?_
  refine LQ.case 211 rfl (fun k1 => ?_) (fun k1 => ?_)
  · have hnc := f5 (of_decide_eq_true k1)
    refine LQ.run rfl <| LQ.ix rfl (by omega) (by omega) hX1 <| LQ.run rfl <| LQ.ld rfl (fun w' hw => (hXC w' (bw hw)).one 0 rfl rfl) <| LQ.run rfl ?_
    rw [hback]
    refine LQ.ld rfl (fun w' hw => (c1.mv0 hw).cell rfl rfl) <| LQ.at_ [223] rfl <| LQ.caseF 223 rfl (by rw [hnc]; simp) <| LQ.run rfl <|
      LQ.ix rfl (by omega) (by omega) hX1 <| LQ.run rfl <| LQ.ld rfl (fun w' hw => (hXC w' (bw hw)).one 0 rfl rfl) <| LQ.run rfl <| LQ.ix rfl (by omega) (by omega) hR1 <| LQ.run rfl <| LQ.ld rfl (fun w' hw => (hRC w' (bw hw)).one 0 rfl rfl) <| LQ.at_ [235] rfl <| LQ.caseF 235 rfl (decide_eq_false (by omega)) <|
      LQ.run rfl <| LQ.ix rfl (by omega) (by omega) hX1 <| LQ.run rfl <| LQ.ld rfl (fun w' hw => (hXC w' (bw hw)).one 0 rfl rfl) <| LQ.run rfl <| LQ.ix rfl (by omega) (by omega) hR1 <| LQ.run rfl <| LQ.ld rfl (fun w' hw => (hRC w' (bw hw)).one 1 rfl rfl) <| LQ.run rfl <| LQ.nil fun wj ej => ?_
    refine M.run rfl <| M.condF rfl (decide_eq_false (by omega)) <| M.run rfl <| M.ix rfl (by omega) (by omega) hZ1 <| M.run rfl <| M.ld rfl ((hZC wj (bw ej)).one 0 rfl rfl) <| M.at_ [251] rfl <| M.case 251 rfl (fun k2 => ?_) (fun k2 => ?_)
    · have hlt2 := f8 k2
      refine M.at_ [256] rfl <| M.caseF 256 rfl (by rw [hlt2]; simp; omega) <| M.run rfl <| M.ix rfl (by omega) (by omega) hZ1 <| M.run rfl <| M.ld rfl ((hZC wj (bw ej)).one 0 rfl rfl) <| M.at_ [262] rfl <| M.caseF 262 rfl (by rw [k2]; rfl) <| M.run rfl <| M.condF rfl rfl <|
        M.run rfl <| M.ix rfl (by omega) (by omega) hX1 <| M.run rfl <| M.ld rfl ((hXC wj (bw ej)).one 0 rfl rfl) <| M.run rfl <| M.end_ ⟨i + 1, ⟨rfl, rfl, rfl, rfl, rfl, rfl, rfl, rfl, rfl, nxt (by omega), trivial⟩, ⟨by omega, gr_trans egh ej⟩, by omega⟩
    · have hlt2 := f9 k2
      refine M.run rfl <| M.ix rfl (by omega) (by omega) hZ1 <| M.run rfl <| M.ld rfl ((hZC wj (bw ej)).one 0 rfl rfl) <| M.at_ [262] rfl <| M.caseT 262 rfl (by rw [k2]; rfl) <| M.at_ [266] rfl <| M.caseF 266 rfl (decide_eq_false (by omega)) <| M.run rfl <|
        M.ix rfl (by omega) (by omega) hX1 <| M.run rfl <| M.ld rfl ((hXC wj (bw ej)).one 0 rfl rfl) <| M.at_ [273] rfl <| M.caseF 273 rfl (by rw [hlt2.1]; rfl) <| M.run rfl <| M.cl rfl (has_go LK (i : Int) K k' wj (rK.mv (gr_trans egh ej))) ?_
      rintro e wk ⟨rfl, ek⟩
      have ejk := gr_trans ej ek
      refine ⟨_, rfl, M.run rfl <| M.condF rfl (by rw [gK i hlt k2]; rfl) <| M.run rfl <| M.ix rfl (by omega) (by omega) hX1 <| M.run rfl <| M.ld rfl ((hXC wk (bw ejk)).one 0 rfl rfl) <| M.run rfl <| M.end_ ⟨i + 1, ⟨rfl, rfl, rfl, rfl, rfl, rfl, rfl, rfl, rfl, nxt (by omega), trivial⟩, ⟨by omega, gr_trans egh ejk⟩, by omega⟩⟩
  · refine LQ.at_ [223] rfl <| LQ.caseF 223 rfl rfl <| LQ.run rfl <|
      LQ.ix rfl (by omega) (by omega) hX1 <| LQ.run rfl <| LQ.ld rfl (fun w' hw => (hXC w' (bw hw)).one 0 rfl rfl) <| LQ.run rfl <| LQ.ix rfl (by omega) (by omega) hR1 <| LQ.run rfl <| LQ.ld rfl (fun w' hw => (hRC w' (bw hw)).one 0 rfl rfl) <| LQ.at_ [235] rfl <| LQ.caseF 235 rfl (decide_eq_false (by omega)) <|
      LQ.run rfl <| LQ.ix rfl (by omega) (by omega) hX1 <| LQ.run rfl <| LQ.ld rfl (fun w' hw => (hXC w' (bw hw)).one 0 rfl rfl) <| LQ.run rfl <| LQ.ix rfl (by omega) (by omega) hR1 <| LQ.run rfl <| LQ.ld rfl (fun w' hw => (hRC w' (bw hw)).one 1 rfl rfl) <| LQ.run rfl <| LQ.nil fun wj ej => ?_
    refine M.run rfl <| M.condF rfl (decide_eq_false (by omega)) <| M.run rfl <| M.ix rfl (by omega) (by omega) hZ1 <| M.run rfl <| M.ld rfl ((hZC wj (bw ej)).one 0 rfl rfl) <| M.at_ [251] rfl <| M.case 251 rfl (fun k2 => ?_) (fun k2 => ?_)
    · have hlt2 := f8 k2
      refine M.at_ [256] rfl <| M.caseF 256 rfl (by rw [hlt2]; simp; omega) <| M.run rfl <| M.ix rfl (by omega) (by omega) hZ1 <| M.run rfl <| M.ld rfl ((hZC wj (bw ej)).one 0 rfl rfl) <| M.at_ [262] rfl <| M.caseF 262 rfl (by rw [k2]; rfl) <| M.run rfl <| M.condF rfl rfl <|
        M.run rfl <| M.ix rfl (by omega) (by omega) hX1 <| M.run rfl <| M.ld rfl ((hXC wj (bw ej)).one 0 rfl rfl) <| M.run rfl <| M.end_ ⟨i + 1, ⟨rfl, rfl, rfl, rfl, rfl, rfl, rfl, rfl, rfl, nxt (by omega), trivial⟩, ⟨by omega, gr_trans egh ej⟩, by omega⟩
    · have hlt2 := f9 k2
      refine M.run rfl <| M.ix rfl (by omega) (by omega) hZ1 <| M.run rfl <| M.ld rfl ((hZC wj (bw ej)).one 0 rfl rfl) <| M.at_ [262] rfl <| M.caseT 262 rfl (by rw [k2]; rfl) <| M.at_ [266] rfl <| M.caseF 266 rfl (decide_eq_false (by omega)) <| M.run rfl <|
        M.ix rfl (by omega) (by omega) hX1 <| M.run rfl <| M.ld rfl ((hXC wj (bw ej)).one 0 rfl rfl) <| M.at_ [273] rfl <| M.caseF 273 rfl (by rw [hlt2.1]; rfl) <| M.run rfl <| M.cl rfl (has_go LK (i : Int) K k' wj (rK.mv (gr_trans egh ej))) ?_
      rintro e wk ⟨rfl, ek⟩
      have ejk := gr_trans ej ek
      refine ⟨_, rfl, M.run rfl <| M.condF rfl (by rw [gK i hlt k2]; rfl) <| M.run rfl <| M.ix rfl (by omega) (by omega) hX1 <| M.run rfl <| M.ld rfl ((hXC wk (bw ejk)).one 0 rfl rfl) <| M.run rfl <| M.end_ ⟨i + 1, ⟨rfl, rfl, rfl, rfl, rfl, rfl, rfl, rfl, rfl, nxt (by omega), trivial⟩, ⟨by omega, gr_trans egh ejk⟩, by omega⟩⟩
end Go.Proofs.Ytaimlmfncjbmjaa
end

section
/- Walk of the law: LampEnds. -/
set_option linter.unusedVariables false
namespace Go.Proofs.Ytaimlmfncjbmjaa
open Go Go.Vc Go.RowKit Lp
end Go.Proofs.Ytaimlmfncjbmjaa
namespace Lp
theorem fits_more {s : Store} {p : Plan} {l : List Dip} {k : Nat} {n : Int} {t : Truth} (hk : k < s.nights.length) : Fits s p (l ++ [⟨(k : Int), n, n⟩]) t ↔ Fits s p l t ∧ oilAt s p t (k + 1) = n := by
  rw [fits_iff, fits_iff]
  constructor
  · rintro ⟨h1, h2⟩
    have := h2 ⟨(k : Int), n, n⟩ (by simp) k hk rfl
    simp only at this
    exact ⟨⟨h1, fun d hd => h2 d (by simp [hd])⟩, by omega⟩
  · rintro ⟨⟨h1, h2⟩, h3⟩
    refine ⟨h1, fun d hd j hj hn => ?_⟩
    rw [List.mem_append] at hd
    rcases hd with hd | hd
    · exact h2 d hd j hj hn
    · simp only [List.mem_singleton] at hd
      subst hd
      have : k = j := by simp only at hn; omega
      subst this
      simp only
      omega
def endN (lo hi : Int) : Nat → Int
  | 0 => lo
  | 1 => hi
  | 2 => lo - 1
  | _ => hi + 1
theorem ends_more {s : Store} {p : Plan} {l : List Dip} (hf : Fine s p) (hl : levelsOk s p l = true) {k : Nat} (hk : k < s.nights.length) {r : Rng} (hr : ends (levelAt s p l s.nights.length k) = r) {i : Nat} (hi : i < 4) :
    (i < 2 → levelsOk s p (l ++ [⟨(k : Int), endN r.lo r.hi i, endN r.lo r.hi i⟩]) = true ∧ 0 ≤ endN r.lo r.hi i ∧ endN r.lo r.hi i ≤ 400) ∧ (2 ≤ i → levelsOk s p (l ++ [⟨(k : Int), endN r.lo r.hi i, endN r.lo r.hi i⟩]) = false) := by
  obtain ⟨⟨t1, a1, a2⟩, ⟨t2, c1, c2⟩, h3⟩ := range_spec hf hl hk
  rw [hr] at a2 c2 h3
  constructor
  · intro h
    have hb1 := truth_bd hf a1.1 (k + 1) (by omega)
    have hb2 := truth_bd hf c1.1 (k + 1) (by omega)
    rcases (by omega : i = 0 ∨ i = 1) with rfl | rfl
    · exact ⟨(levelsOk_iff hf).2 ⟨t1, (fits_more hk).2 ⟨a1, a2⟩⟩, by simp only [endN]; omega⟩
    · exact ⟨(levelsOk_iff hf).2 ⟨t2, (fits_more hk).2 ⟨c1, c2⟩⟩, by simp only [endN]; omega⟩
  · intro h
    cases hx : levelsOk s p (l ++ [⟨(k : Int), endN r.lo r.hi i, endN r.lo r.hi i⟩]) with
    | false => rfl
    | true =>
      obtain ⟨t, ht⟩ := (levelsOk_iff hf).1 hx
      obtain ⟨g1, g2⟩ := (fits_more hk).1 ht
      have := h3 t g1
      rcases (by omega : i = 2 ∨ i = 3) with rfl | rfl <;> simp only [endN] at g2 <;> omega
end Lp
namespace Go.Proofs.Ytaimlmfncjbmjaa
open Go Go.Vc Go.RowKit Lp
theorem rd_nil {α : Type} {d : Rp α} {w : World} {A : Option Addr} {c : Nat} {xs : List α} (h : Rd d w A c xs) : A = none → xs = [] := fun hA => by
  cases xs with
  | nil => rfl
  | cons x r =>
    have := (h.at_ 0 x rfl).1
    rw [hA] at this
    cases this
theorem rd_src {α : Type} {d : Rp α} {w : World} {A : Option Addr} {c : Nat} {xs : List α} {F : Nat → Prop} {enc : α → List Value} {sz : Nat} {hl : ∀ x, (enc x).length = sz} {hp : ∀ x, ∀ c ∈ enc x, c.oneCell' = true} (hd : d = Rp.flat enc sz hl hp) (h : Rd d w A c xs) : SrcAt d w F (adOf A) xs := fun j y hj => by
  subst hd
  obtain ⟨_, _, cs, hk, hc⟩ := h.at_ j y hj
  exact ⟨cs, hk, hc⟩
set_option maxHeartbeats 1000000 in
set_option maxRecDepth 100000 in
theorem LampEnds_go (s : Store) (p : Plan) (wl : List Int) (many which : Int) (A : Option Addr) (c : Nat) (B : Option Addr) (b : Nat) (U : Option Addr) (d : Nat) (V : Option Addr) (v : Nat) (w : World) (hA : Rd dNight w A c s.nights) (hB : Rd dI w B b p.cans) (hD : Rd dI w U d p.wicks) (hV : Rd dW w V v wl) (hwl : ∀ x ∈ wl, 0 ≤ x ∧ x ≤ 65535) (q0 : 0 ≤ many) (q1 : many ≤ 255) (q2 : 0 ≤ which) (q3 : which ≤ 255) :
    Calls Try.prog 8 #[vStore s A c, vPlan p B b U d, .slice V wl.length v, .int .u8 many, .int .u8 which] w fun e w' => e = .returned (.bool true) ∧ w.grownBy w' none := by
  refine calls (G := G) (args := [vStore s A c, vPlan p B b U d, .slice V wl.length v, .int .u8 many, .int .u8 which]) Try.func8 rfl rfl rfl ?_
  refine M.run rfl <| M.nw rfl fun g1 w1 b1 e1 l1 => M.run rfl <| M.nw rfl fun g2 w2 b2 e2 l2 => M.run rfl <| M.ldA rfl rfl (b1.mv0 e2).cellsAll <| M.run rfl <| M.ldA rfl rfl b2.cellsAll <| M.run rfl ?_
  have e02 := gr_trans e1 e2
  replace b1 := b1.mv0 e2
  refine M.cl rfl (ready_go s p A c B b U d w2 (hA.mv e02) (hB.mv e02) (hD.mv e02)) ?_
  rintro e w3 ⟨rfl, e3⟩
  have e03 := gr_trans e02 e3
  replace b1 := b1.mv0 e3
  replace b2 := b2.mv0 e3
  have fin : ∀ (wk : World), w.grownBy wk none → Calls Try.prog 17 #[] wk fun e w' => e = .returned (.bool true) ∧ w.grownBy w' none := fun wk hk => (awake_go wk).mono fun e w' ⟨h1, h2⟩ => ⟨h1, gr_trans hk h2⟩
  refine ⟨_, rfl, M.run rfl <| M.cond rfl (fun h => ?_) (fun h => ?_)⟩
  · refine M.run rfl <| M.cl rfl (fin w3 e03) ?_
    rintro e wz ⟨rfl, ez⟩
    exact ⟨_, rfl, M.run rfl <| M.retF rfl rfl ⟨rfl, ez⟩⟩
  have hr : readyB s p = true := by simpa using h
  have hck := ready_check hr
  have hf := check_fine hck
  have hfew := hf.ok.few
  have hsome := hf.ok.some_
  have hcl := hf.cl
  have hwkl := hf.wl
  refine M.run rfl <| M.drawG [] (by kernel_rfl) fun w4 e4 => ?_
  have e04 := gr_trans e03 e4
  replace b1 := b1.mv0 e4
  replace b2 := b2.mv0 e4
  refine D.run rfl <| D.ldA 0 rfl rfl rfl rfl rfl (fun w' hw => (b1.mv0 hw).cellsAll) <| D.ldA 1 rfl rfl rfl rfl rfl (fun w' hw => (b2.mv0 hw).cellsAll) <| D.ldA 2 rfl rfl rfl rfl rfl (fun w' hw => (b1.mv0 hw).cellsAll) <| D.one 4 rfl rfl <| M.cl rfl (Picked_go s wl A c V v w4 (hA.mv e04) (hV.mv e04) hwl hf.ok) ?_
  rintro e w5 ⟨t, T, tc, rfl, hT, ht, e5⟩
  have e05 := gr_trans e04 e5
  refine ⟨_, rfl, M.run rfl <| M.end_ ⟨.inr e5, D.run rfl <| D.one 7 rfl rfl <| M.cl rfl (Dipped_go s p t wl many 0 A c B b U d T tc V v w5 (hA.mv e05) (hB.mv e05) (hD.mv e05) hT (hV.mv e05) hwl hf ht ⟨q0, q1⟩ ⟨by omega, by omega⟩) ?_⟩⟩
  rintro e w6 ⟨ds, E, ec, rfl, hE, hdl, hdok, hdag, e6⟩
  have e06 := gr_trans e05 e6
  have e46 := gr_trans e5 e6
  replace b1 := b1.mv0 e46
  replace b2 := b2.mv0 e46
  have hEr : Rd dDip w6 E ec ds := hE.rd (by decide)
  have hd0 := dipped_ok hck (by omega) hdok
  have hfit : Fits s p ds t := fits_iff.2 ⟨ht, fun q hq j hj hn => by
    obtain ⟨k, hk, hqk, hin⟩ := hdag rfl q hq
    have : k = j := by omega
    subst this
    exact Lp.within_iff.1 hin⟩
  have hlv : levelsOk s p ds = true := (levelsOk_iff hf).2 ⟨t, hfit⟩
  obtain ⟨hoE, hoR⟩ := (oil_fine hd0).1 hlv
  refine ⟨_, rfl, M.run rfl <| M.end_ ⟨.inr e6, D.run rfl <| D.done_ rfl <| M.run rfl <| M.drawG [] (by kernel_rfl) fun x8 xe8 => ?_⟩⟩
  have x0 := gr_trans e06 xe8
  refine D.run rfl <| D.ldA 0 rfl rfl rfl rfl rfl (fun w' hw => ((b1.mv0 xe8).mv0 hw).cellsAll) <| D.ldA 2 rfl rfl rfl rfl rfl (fun w' hw => ((b2.mv0 xe8).mv0 hw).cellsAll) <| D.one 1 rfl rfl <| M.cl rfl (StoreC_go s A c x8 (hA.mv x0) (by omega)) ?_
  rintro e x9 ⟨A1, a1, rfl, hA1, xe9⟩
  refine ⟨_, rfl, M.run rfl <| M.end_ ⟨.inr xe9, D.one 3 rfl rfl <| M.cl rfl (PlanC_go p B b U d x9 (hB.mv (gr_trans x0 xe9)) (hD.mv (gr_trans x0 xe9)) (by omega) (by omega)) ?_⟩⟩
  rintro e xa ⟨B1, b1', U1, u1, rfl, hB1, hU1, xea⟩
  have x7a := gr_trans (gr_trans xe8 xe9) xea
  refine ⟨_, rfl, M.run rfl <| M.end_ ⟨.inr xea, D.one 5 rfl rfl <| M.cl rfl (Dips_go ds E ec xa (hEr.mv x7a) (by omega)) ?_⟩⟩
  rintro e xb ⟨E1, ec2, rfl, hE1, xeb⟩
  refine ⟨_, rfl, M.run rfl <| M.end_ ⟨.inr xeb, D.one 6 rfl rfl <| M.cl rfl (Oil_go s p ds A1 a1 B1 b1' U1 u1 E1 ec2 xb (hA1.mv (gr_trans xea xeb)) (hB1.mv xeb) (hU1.mv xeb) (hE1.rd (by decide))) ?_⟩⟩
  rintro e xw ⟨R, r, rfl, hR, xew⟩
  have xB := gr_trans x7a (gr_trans xeb xew)
  rw [hoE]
  rw [hoR] at hR
  rw [hoR]
  have e0x := gr_trans e06 xB
  replace b1 := b1.mv0 xB
  replace b2 := b2.mv0 xB
  have rR : Rd dRng xw R r _ := hR.rd (by decide)
  have n4 := rngs_len s p ds
  have hErx := hEr.mv xB
  refine ⟨_, rfl, M.run rfl <| M.end_ ⟨.inr xew, D.run rfl <| D.done_ rfl <| M.run rfl <| M.ld rfl (b1.cell rfl rfl) <| M.run rfl <| M.condF rfl (by rw [n4]; simp) <| M.run rfl ?_⟩⟩
  refine M.ys (YS.rem rfl (by omega)) <| M.run rfl ?_
  rw [w64 (x := which) (by omega) (by omega), tmodN q2]
  have hk : which.toNat % (rngs s p ds).length < (rngs s p ds).length := Nat.mod_lt _ (by omega)
  generalize which.toNat % (rngs s p ds).length = k at hk
  have hks : k < s.nights.length := by omega
  have hrg := rngs_get s p ds hks
  obtain ⟨hR1, hRC⟩ := rd_flat rR hk
  rw [hrg] at hRC
  have hends := fun {i : Nat} (hi : i < 4) => ends_more hf hlv hks (r := ends (levelAt s p ds s.nights.length k)) rfl hi
  have hb0 : ∀ i, i < 4 → -1 ≤ endN (ends (levelAt s p ds s.nights.length k)).lo (ends (levelAt s p ds s.nights.length k)).hi i ∧ endN (ends (levelAt s p ds s.nights.length k)).lo (ends (levelAt s p ds s.nights.length k)).hi i ≤ 401 := by
    have h1 := (hends (i := 0) (by omega)).1 (by omega)
    have h2 := (hends (i := 1) (by omega)).1 (by omega)
    simp only [endN] at h1 h2
    intro i hi
    rcases (by omega : i = 0 ∨ i = 1 ∨ i = 2 ∨ i = 3) with rfl | rfl | rfl | rfl <;> simp only [endN] <;> omega
  generalize ends (levelAt s p ds s.nights.length k) = rg at *
  clear hoR hrg
  generalize rngs s p ds = LR at *
  refine M.loop (σ := Nat) (fun i => [(2, .slice V wl.length v), (5, .pointer (some ⟨g1, 0, none⟩)), (6, .pointer (some ⟨g2, 0, none⟩)), (11, .slice E ds.length ec), (12, .slice R LR.length r), (14, .int .i64 (k : Int)), (15, .int .i64 (i : Int))])
    (fun i w' => i ≤ 4 ∧ xw.grownBy w' none) (fun i => 4 - i) 0 ⟨rfl, rfl, rfl, rfl, rfl, rfl, rfl, trivial⟩ ⟨by omega, gr_refl _ _⟩ ?_
  rintro i wg ⟨hi, eg⟩
  have e0g := gr_trans e0x eg
  have c1 := b1.mv0 eg
  have c2 := b2.mv0 eg
  refine M.run rfl <| M.cond rfl (fun h => ?_) (fun h => ?_)
  rotate_left
  · refine M.run rfl <| M.cl rfl (fin wg e0g) ?_
    rintro e wz ⟨rfl, ez⟩
    exact ⟨_, rfl, M.run rfl <| M.retF rfl rfl ⟨rfl, ez⟩⟩
  have hi4 : i < 4 := by have := of_decide_eq_true h; omega
  obtain ⟨hlo, hhi⟩ := hends hi4
  have hnb := hb0 i hi4
  have hb00 := hb0 0 (by omega)
  have hb01 := hb0 1 (by omega)
  simp only [endN] at hb00 hb01
  have bw : ∀ {w'}, wg.grownBy w' none → Below xw.heap.size xw w' := fun hw => gr_below (gr_trans eg hw)
  refine M.run rfl <| M.quiet (by kernel_rfl) <| LQ.run rfl <| LQ.ix rfl (by omega) (by omega) hR1 <| LQ.run rfl <| LQ.ld rfl (fun w' hw => (hRC w' (bw hw)).one 0 rfl rfl) <| LQ.run rfl <| LQ.ix rfl (by omega) (by omega) hR1 <| LQ.run rfl <| LQ.ld rfl (fun w' hw => (hRC w' (bw hw)).one 1 rfl rfl) <| LQ.run rfl <|
    LQ.ix rfl (by omega) (by omega) hR1 <| LQ.run rfl <| LQ.ld rfl (fun w' hw => (hRC w' (bw hw)).one 0 rfl rfl) <| LQ.run rfl <| LQ.ix rfl (by omega) (by omega) hR1 <| LQ.run rfl <| LQ.ld rfl (fun w' hw => (hRC w' (bw hw)).one 1 rfl rfl) <| LQ.run rfl ?_
  rw [w64 (x := rg.lo - 1) (by omega) (by omega), w64 (x := rg.hi + 1) (by omega) (by omega)]
  refine LQ.ys (YS.iv (v := .int .i64 (endN rg.lo rg.hi i)) rfl (by omega) (by omega) ?_) <| LQ.run rfl <| LQ.nil fun wh eh => ?_
  · rcases (by omega : i = 0 ∨ i = 1 ∨ i = 2 ∨ i = 3) with rfl | rfl | rfl | rfl <;> rfl
  have egh := gr_trans eg eh
  have e0h := gr_trans e0x egh
  generalize endN rg.lo rg.hi i = n at *
  have hEh := hErx.mv egh
  refine M.run rfl <| M.bs0 rfl fun gi wi bi ei li => M.run rfl <| M.appS (d := dDip) rfl rfl (own_bs0 dDip no bi li) rfl (by decide) rfl (ys := ds) rfl (rd_nil hEh) (rd_src rfl (hEh.mv ei)) ei.size (by simp; omega) (by decide) fun Y y wj hY ej hatj => M.run rfl ?_
  have ehj := (own_bs0 dDip no bi li).gr ei ej (Nat.le_refl _)
  rw [List.nil_append] at hY ⊢
  refine M.bs rfl fun gk wk bk ek lk => M.run rfl <| M.app (d := dDip) rfl rfl (hY.mv0 ek) rfl (by decide) rfl (ys := [⟨(k : Int), n, n⟩]) rfl rfl (src_one bk rfl) (gr_trans ehj ek).size (by simp; omega) (by decide) fun Z z wl' hZ el hatl => M.run rfl ?_
  have ehl := (hY.mv0 ek).gr (gr_trans ehj ek) el (Nat.le_refl _)
  have e0l := gr_trans e0h ehl
  have egl := gr_trans eh ehl
  replace c1 := c1.mv0 egl
  replace c2 := c2.mv0 egl
  have hml : (ds ++ [(⟨(k : Int), n, n⟩ : Dip)]).length ≤ 5 := by simp; omega
  have hmok : i < 2 → (ds ++ [(⟨(k : Int), n, n⟩ : Dip)]).all (dipOk s) = true := fun h2 => by
    rw [List.all_append, hdok]
    have := hlo h2
    simp only [List.all_cons, List.all_nil, Bool.and_true, Bool.true_and, dipOk]
    rw [Bool.and_eq_true, Lp.within_iff, rto_iff]
    exact ⟨by omega, by omega⟩
  generalize (ds ++ [(⟨(k : Int), n, n⟩ : Dip)]) = ms at *
  have hZr : Rd dDip wl' Z z ms := hZ.rd (by decide)
  refine M.ldA rfl rfl c1.cellsAll <| M.run rfl <| M.ldA rfl rfl c2.cellsAll <| M.run rfl <| M.cl rfl (dippedL_go s p ms A c B b U d Z z wl' (hA.mv e0l) (hB.mv e0l) (hD.mv e0l) hZr) ?_
  rintro e wm ⟨rfl, em⟩
  have egm := gr_trans egl em
  have e0m := gr_trans e0l em
  replace c1 := c1.mv0 em
  replace c2 := c2.mv0 em
  have hnext := nxt (i := i) (by omega)
  have e_xm := gr_trans eg egm
  refine ⟨_, rfl, M.run rfl <| M.cond rfl (fun k1 => ?_) (fun k1 => ?_)⟩
  · have k1' : dippedE s p ms ≠ 0 := by simpa using k1
    have hi2 : ¬ i < 2 := fun h2 => k1' (dipped_ok hck (by omega) (hmok h2))
    exact M.run rfl <| M.condF rfl (decide_eq_false (by omega)) <| M.run rfl <| M.end_ ⟨i + 1, ⟨rfl, rfl, rfl, rfl, rfl, rfl, hnext, trivial⟩, ⟨by omega, e_xm⟩, by omega⟩
  have k1' : dippedE s p ms = 0 := by simpa using k1
  refine M.run rfl <| M.drawG [] (by kernel_rfl) fun y8 ye8 => ?_
  have y0 := gr_trans e0m ye8
  refine D.run rfl <| D.ldA 0 rfl rfl rfl rfl rfl (fun w' hw => ((c1.mv0 ye8).mv0 hw).cellsAll) <| D.ldA 2 rfl rfl rfl rfl rfl (fun w' hw => ((c2.mv0 ye8).mv0 hw).cellsAll) <| D.one 1 rfl rfl <| M.cl rfl (StoreC_go s A c y8 (hA.mv y0) (by omega)) ?_
  rintro e y9 ⟨A1, a1, rfl, hA1, ye9⟩
  refine ⟨_, rfl, M.run rfl <| M.end_ ⟨.inr ye9, D.one 3 rfl rfl <| M.cl rfl (PlanC_go p B b U d y9 (hB.mv (gr_trans y0 ye9)) (hD.mv (gr_trans y0 ye9)) (by omega) (by omega)) ?_⟩⟩
  rintro e ya ⟨B1, b1', U1, u1, rfl, hB1, hU1, yea⟩
  have y7a := gr_trans (gr_trans ye8 ye9) yea
  refine ⟨_, rfl, M.run rfl <| M.end_ ⟨.inr yea, D.one 5 rfl rfl <| M.cl rfl (Dips_go ms Z z ya ((hZr.mv em).mv y7a) (by omega)) ?_⟩⟩
  rintro e yb ⟨E1, ec2, rfl, hE1, yeb⟩
  refine ⟨_, rfl, M.run rfl <| M.end_ ⟨.inr yeb, D.one 6 rfl rfl <| M.cl rfl (Oil_go s p ms A1 a1 B1 b1' U1 u1 E1 ec2 yb (hA1.mv (gr_trans yea yeb)) (hB1.mv yeb) (hU1.mv yeb) (hE1.rd (by decide))) ?_⟩⟩
  rintro e yw ⟨R2, r2, rfl, hR2, yew⟩
  have yB := gr_trans y7a (gr_trans yeb yew)
  have e_xy := gr_trans e_xm yB
  refine ⟨_, rfl, M.run rfl <| M.end_ ⟨.inr yew, D.run rfl <| D.done_ rfl <| M.at_ [116] rfl ?_⟩⟩
  by_cases hi2 : i < 2
  · rw [((oil_fine k1').1 (hlo hi2).1).1]
    exact M.caseT 116 rfl (decide_eq_true (by omega)) <| M.at_ [123] rfl <| M.caseF 123 rfl (decide_eq_false (by omega)) <| M.run rfl <| M.condF rfl rfl <| M.run rfl <| M.end_ ⟨i + 1, ⟨rfl, rfl, rfl, rfl, rfl, rfl, hnext, trivial⟩, ⟨by omega, e_xy⟩, by omega⟩
  · rw [((oil_fine k1').2 (hhi (by omega))).1]
    exact M.caseF 116 rfl (decide_eq_false (by omega)) <| M.at_ [123] rfl <| M.caseT 123 rfl (decide_eq_true (by omega)) <| M.run rfl <| M.condF rfl rfl <| M.run rfl <| M.end_ ⟨i + 1, ⟨rfl, rfl, rfl, rfl, rfl, rfl, hnext, trivial⟩, ⟨by omega, e_xy⟩, by omega⟩
end Go.Proofs.Ytaimlmfncjbmjaa
end
