/- Part 2 of the proof: the walks and plain laws that the row needs (merged from several texts: YteeikpmoboehdaaLO, YteeikpmoboehdaaLP, YteeikpmoboehdaaLQ, YteeikpmoboehdaaLR, YteeikpmoboehdaaLS, YteeikpmoboehdaaLT, YteeikpmoboehdaaLU, YteeikpmoboehdaaLV, YteeikpmoboehdaaA9, YteeikpmoboehdaaLW, YteeikpmoboehdaaLX, YteeikpmoboehdaaLY, YteeikpmoboehdaaLZ, YteeikpmoboehdaaMA, YteeikpmoboehdaaMB, YteeikpmoboehdaaMC, YteeikpmoboehdaaMD, YteeikpmoboehdaaME, YteeikpmoboehdaaMF). -/
import Derived.Test.YteeikpmoboehdaaZ1
import Derived.Test.YteeikpmoboehdaaZ0
set_option linter.unusedVariables false
set_option linter.unusedSimpArgs false
section
/- Walks: the best groups. -/
set_option linter.unusedVariables false
namespace Py
def best (l : List Int) : List Nat := grp l (nzm l l.length)
def groupsR (l : List Int) : List (List Int) := if balF l = 0 then (best l).map setL else []
theorem nzm_lt (l : List Int) {m : Nat} (h : m ≤ 7) : nzm l m < 128 := Nat.lt_of_lt_of_le (maskOf_lt _ _) (by have := Nat.pow_le_pow_right (n := 2) (by decide) h; simpa using this)
theorem balF_cases (l : List Int) : (balF l = 0 ∧ l.length ≤ 7 ∧ 0 < l.length ∧ debt l = true ∧ sumTo (at0 l) l.length = 0) ∨ balF l = 1 ∨ balF l = 3 := by
  unfold balF
  by_cases h1 : (l.length : Int) > 7
  · rw [if_pos h1]; exact .inr (.inr rfl)
  · rw [if_neg h1]
    by_cases h2 : l.length = 0 ∨ debt l = false
    · rw [if_pos h2]; exact .inr (.inl rfl)
    · rw [if_neg h2]
      by_cases h3 : sumTo (at0 l) l.length ≠ 0
      · rw [if_pos h3]; exact .inr (.inl rfl)
      · rw [if_neg h3]
        refine .inl ⟨rfl, by omega, by omega, ?_, by omega⟩
        cases hd : debt l with
        | true => rfl
        | false => exact absurd (.inr hd) h2
theorem balF_ok {l : List Int} (h : balF l = 0) : l.length ≤ 7 ∧ 0 < l.length ∧ debt l = true ∧ sumTo (at0 l) l.length = 0 := by
  rcases balF_cases l with h1 | h1 | h1
  · exact h1.2
  · omega
  · omega
theorem debt_at {l : List Int} (h : debt l = true) {i : Nat} (hi : i < l.length) : -100000 ≤ at0 l i ∧ at0 l i ≤ 100000 := by
  have := List.all_eq_true.1 h l[i] (List.getElem_mem hi)
  rw [at0_get hi] at this
  exact within_iff.1 this
theorem GL.mem {l : List Int} {left : Nat} {gs : List Nat} (h : GL l left gs) : ∀ s ∈ gs, Sub s left ∧ s ≠ 0 ∧ bsum l s = 0 := by
  induction h with
  | nil => simp
  | @cons left s gs h0 hs hf hz h ih =>
    intro t ht
    rcases List.mem_cons.1 ht with rfl | ht
    · exact ⟨hs, ne_of_bit hf, hz⟩
    · obtain ⟨a, b⟩ := ih t ht
      exact ⟨sub_trans a (dif_sub _ _), b⟩
theorem best_gl {l : List Int} (h : balF l = 0) : GL l (nzm l l.length) (best l) := best_ok (by have := (balF_ok h).1; omega) (balF_ok h).2.2.2
theorem best_lt {l : List Int} (h : balF l = 0) {s : Nat} (hs : s ∈ best l) : s < 128 := Nat.lt_of_le_of_lt (sub_le ((best_gl h).mem s hs).1) (nzm_lt l (balF_ok h).1)
end Py
namespace Go.Proofs.Yteeikpmoboehdaa
open Go Go.Vc Go.RowKit Py
theorem groups_go (l : List Int) (A : Option Addr) (c : Nat) (w : World) (hA : Rd dI w A c l) (h7 : l.length ≤ 7) (hd : debt l = true) :
    Calls Try.prog 65 #[.slice A l.length c] w fun e w' => ∃ X x, e = .returned (.slice X (natL (best l)).length x) ∧ Sl dU w' (fun b => w.heap.size ≤ b ∧ b < w'.heap.size) X x (natL (best l)) ∧ w.grownBy w' none := by
  refine calls (G := G) (args := [.slice A l.length c]) Try.func65 rfl rfl rfl ?_
  refine M.run rfl <| M.cl rfl (sumsOf_go l A c w hA h7 hd) ?_
  rintro e w1 ⟨rfl, e1⟩
  refine ⟨_, rfl, M.run rfl <| M.nw (cs := List.replicate 128 (.int .i64 0)) rfl fun gs w2 b2 e2 l2 => M.run rfl <| M.storeA (vs := svL l (2 ^ l.length)) rfl (svL_len _ _) rfl b2 (by simp [svL_len]) (by simp [svL, Value.oneCell']) fun w3 b3 e3 => ?_⟩
  have hbs : Blk w3 gs (svL l (2 ^ l.length)) 135 := blk_all (by simp [svL_len]) b3
  have e03 := gr_fresh (gr_trans e1 e2) e3 (Nat.le_trans e1.size l2)
  refine M.run rfl <| M.loop (σ := Nat) (fun i => [(3, .pointer (some ⟨gs, 0, none⟩)), (4, .int .u64 ((nzm l i : Nat) : Int)), (11, .slice A l.length c), (12, .int .i64 (l.length : Int)), (13, .int .i64 (i : Int))]) (fun i w' => i ≤ l.length ∧ w3.grownBy w' none) (fun i => l.length - i) 0 ⟨rfl, rfl, rfl, rfl, rfl, trivial⟩ ⟨Nat.zero_le _, gr_refl _ _⟩ ?_
  rintro i w4 ⟨hi, e4⟩
  refine M.run rfl <| M.cond rfl (fun h => ?_) (fun h => ?_)
  · have hlt : i < l.length := by have := of_decide_eq_true h; omega
    obtain ⟨hA1, hAC⟩ := rd_flat hA hlt
    rw [at0_get hlt] at hAC
    refine M.run rfl <| M.ix rfl (by omega) (by omega) hA1 <| M.run rfl <| M.ld rfl ((hAC w4 (gr_below (gr_trans e03 e4))).one 0 rfl rfl) <| M.run rfl <| M.cond rfl (fun h2 => ?_) (fun h2 => ?_)
    · have hz : ¬ at0 l i = 0 := by simpa using h2
      refine M.run rfl <| M.ys (YS.shl rfl (by omega)) ?_
      rw [shl_nat (by omega)]
      refine M.run rfl <| M.end_ ⟨i + 1, ⟨rfl, ?_, rfl, rfl, nxt hlt (by omega), trivial⟩, ⟨by omega, e4⟩, by omega⟩
      refine congrArg (fun z => some (Value.int .u64 z)) ((or_nat (by have := nzm_lt l (m := i) (by omega); omega) (Nat.pow_lt_pow_right (by decide) (by omega))).trans ?_)
      show _ = ((maskOf (nz l) (i + 1) : Nat) : Int)
      unfold maskOf
      rw [if_pos (by simp [nz, hz])]; rfl
    · have hz : at0 l i = 0 := by simpa using h2
      refine M.run rfl <| M.end_ ⟨i + 1, ⟨rfl, ?_, rfl, rfl, nxt hlt (by omega), trivial⟩, ⟨by omega, e4⟩, by omega⟩
      refine congrArg (fun z => some (Value.int .u64 z)) ?_
      show _ = ((maskOf (nz l) (i + 1) : Nat) : Int)
      unfold maskOf
      rw [if_neg (by simp [nz, hz])]; rfl
  · have hin : i = l.length := by have := of_decide_eq_false h; omega
    subst hin
    have e04 := gr_trans e03 e4
    refine M.run rfl <| M.mkMap1 .u64 (fun _ _ => False) rfl fun r w5 hm5 e5 l5 => M.run rfl <| M.nw rfl fun gk w6 b6 e6 l6 => M.run rfl <| M.store rfl rfl b6 rfl rfl fun w7 b7 e7 => M.run rfl <| M.nw rfl fun gd w8 b8 e8 l8 => M.run rfl <| M.store rfl rfl b8 rfl rfl fun w9 b9 e9 => ?_
    have e05 := gr_trans e04 e5
    have e06 := gr_trans e05 e6
    have hr6 := (hm5.mv0 e6)
    have hrk : r ≠ gk := hr6.ne b6
    have hr7 := hr6.mv e7 (by intro h; injection h with h; exact hrk h.symm)
    have hr8 := hr7.mv0 e8
    have hrd : r ≠ gd := hr8.ne b8
    have hr9 := hr8.mv e9 (by intro h; injection h with h; exact hrd h.symm)
    have hs6 : Blk w6 gs _ 135 := ((hbs.mv0 e4).mv0 e5).mv0 e6
    have hs7 := hs6.mv1 e7 (hs6.ne b6 (by decide)).symm
    have hs8 := hs7.mv0 e8
    have hs9 := hs8.mv1 e9 (hs8.ne b8 (by decide)).symm
    have hk8 := b7.mv0 e8
    have hk9 := hk8.mv1 e9 (hk8.ne b8 (by decide)).symm
    have e07 := gr_fresh e06 e7 (Nat.le_trans e05.size l6)
    have e08 := gr_trans e07 e8
    have e09 := gr_fresh e08 e9 (Nat.le_trans e07.size l8)
    have hG : GrpAt w.heap.size l gk gs gd r w9 := ⟨hk9, hs9, b9, e09.size, hr9.imp (fun _ _ h => h.elim)⟩
    refine M.run rfl <| M.ld (v := divF gk gs gd) rfl (b9.cell rfl rfl) <| M.run rfl <| M.cl rfl (div_go w.heap.size l h7 gk gs gd r (nzm l l.length) (maskOf_lt _ _) w9 hG) ?_
    rintro e w10 ⟨X, x, rfl, hX, e10, _⟩
    exact ⟨_, rfl, M.run rfl (M.retF rfl rfl ⟨X, x, rfl, hX.mono (fun b hb => hb.2), gr_fresh e09 e10 (Nat.le_trans e04.size l5)⟩)⟩

theorem Groups_go (l : List Int) (A : Option Addr) (c : Nat) (w : World) (hA : Rd dI w A c l) :
    Calls Try.prog 45 #[.slice A l.length c] w fun e w' => ∃ X x, e = .returned (.tuple #[.slice X (groupsR l).length x, .int .i64 (balF l)]) ∧ Rd dL w' X x (groupsR l) ∧ w.grownBy w' none := by
  refine calls (G := G) (args := [.slice A l.length c]) Try.func45 rfl rfl rfl ?_
  refine M.run rfl <| M.cl rfl (checkBalances_go l A c w hA) ?_
  rintro e w1 ⟨rfl, e1⟩
  refine ⟨_, rfl, M.run rfl <| M.cond rfl (fun h => ?_) (fun h => ?_)⟩
  · have hz : ¬ balF l = 0 := by simpa using h
    have hR : groupsR l = [] := if_neg hz
    exact M.run rfl (M.retF rfl rfl ⟨none, 0, by rw [hR]; rfl, by rw [hR]; exact Sl.nil _ _ _ _ _ (by simp [maxLen]), e1⟩)
  have hz : balF l = 0 := by simpa using h
  obtain ⟨h7, h0, hd, hsum⟩ := balF_ok hz
  have hR : groupsR l = (best l).map setL := if_pos hz
  have hbl : (best l).length ≤ 128 := by
    have := grp_len l (nzm l l.length); have := nzm_lt l h7; unfold best; omega
  refine M.run rfl <| M.cl rfl (groups_go l A c w1 (hA.mv e1) h7 hd) ?_
  rintro e w2 ⟨Y, y, rfl, hY0, e2⟩
  have hY : Rd dU w2 Y y (natL (best l)) := hY0.mono (fun b hb => hb.2)
  have e02 := gr_trans e1 e2
  have hnl := natL_len (best l)
  refine ⟨_, rfl, M.run rfl <| M.loop (σ := Nat × Option Addr × Nat) (fun (i, X, x) => [(5, .slice X (((best l).take i).map setL).length x), (14, .slice Y (natL (best l)).length y), (15, .int .i64 ((natL (best l)).length : Int)), (16, .int .i64 (i : Int))])
    (fun (i, X, x) w' => i ≤ (best l).length ∧ w2.grownBy w' none ∧ Vc.Own dL 25 w' w2.heap.size (fun _ => True) X x (((best l).take i).map setL)) (fun (i, _) => (best l).length - i) (0, none, 0) ⟨rfl, rfl, rfl, rfl, trivial⟩ ⟨Nat.zero_le _, gr_refl _ _, Vc.Own.nil _ _ _ _ _⟩ ?_⟩
  rintro ⟨i, X, x⟩ w3 ⟨hi, e3, hX⟩
  refine M.run rfl <| M.cond rfl (fun h => ?_) (fun h => ?_)
  · have hlt : i < (best l).length := by have := of_decide_eq_true h; omega
    have hlt' : i < (natL (best l)).length := by omega
    obtain ⟨hY1, hYc⟩ := rd_flat hY hlt'
    have hel : (natL (best l))[i] = (((best l)[i] : Nat) : Int) := by simp [natL]
    rw [hel] at hYc
    have hs64 : (best l)[i] < 2 ^ 64 := by
      have := best_lt hz (List.getElem_mem hlt); omega
    refine M.run rfl <| M.ix rfl (by omega) (by omega) hY1 <| M.run rfl <| M.ld rfl ((hYc w3 (gr_below e3)).one 0 rfl rfl) <| M.run rfl <| M.cl rfl (setList_go (best l)[i] hs64 w3) ?_
    rintro e w4 ⟨Z, z, rfl, hZ, e4⟩
    refine ⟨_, rfl, M.run rfl <| M.bs rfl fun g5 w5 b5 e5 l5 => M.run rfl ?_⟩
    have hX5 := (hX.mv0 e4).mv0 e5
    have hZ5 : Sl dI w5 (fun b => True ∧ some b ≠ blkOf X) Z z (setL (best l)[i]) := ((hZ.mv0 e5).sl).mono (fun b hb => ⟨trivial, fun he => by
      rcases hb with hb | hb
      · exact hb.elim
      · have := (hX.blkGe b he.symm).2; omega⟩)
    refine M.app (d := dL) rfl rfl hX5 rfl (by decide) rfl (ys := [setL (best l)[i]]) rfl rfl (src_one b5 ⟨Z, z, rfl, hZ5⟩) (gr_trans (gr_trans e3 e4) e5).size (by simp only [List.length_map, List.length_take, List.length_cons, List.length_nil]; omega) (by decide) fun X' x' w6 hX6 e6 hat => ?_
    have e26 := hX5.gr (gr_trans (gr_trans e3 e4) e5) e6 (Nat.le_refl _)
    have htk : ((best l).take (i + 1)).map setL = ((best l).take i).map setL ++ [setL (best l)[i]] := by
      rw [List.take_add_one, List.getElem?_eq_getElem hlt, List.map_append]; rfl
    refine M.run rfl <| M.end_ ⟨(i + 1, X', x'), ⟨?_, rfl, rfl, nxt hlt (by omega), trivial⟩, ⟨by omega, e26, by rw [htk]; exact hX6⟩, by simp; omega⟩
    show some (Value.slice X' (((best l).take i).map setL ++ [setL (best l)[i]]).length x') = _
    rw [htk]
  · have hin : i = (best l).length := by have := of_decide_eq_false h; omega
    subst hin
    rw [List.take_length] at hX
    refine M.run rfl (M.retF rfl rfl ⟨X, x, ?_, by rw [hR]; exact hX.rd (by decide), gr_trans e02 e3⟩)
    rw [hR, hz]
    simp [oneOrTuple]
end Go.Proofs.Yteeikpmoboehdaa
end

section
/- Walk: whether payments settle. -/
set_option linter.unusedVariables false
namespace Py
def payP (l : List Int) (p : Pmt) : List Int := (l.set p.src.toNat (at0 l p.src.toNat + p.amt)).set p.dst.toNat (at0 (l.set p.src.toNat (at0 l p.src.toNat + p.amt)) p.dst.toNat - p.amt)
def pmtOk (n : Nat) (p : Pmt) : Bool := within p.src 0 ((n : Int) - 1) && within p.dst 0 ((n : Int) - 1) && !decide (p.src = p.dst) && within p.amt 1 100000
def settlesB (l : List Int) (ps : List Pmt) : Bool := ps.all (pmtOk l.length) && (ps.foldl payP l).all fun x => decide (x = 0)
def proveS (l : List Int) (ps : List Pmt) (many : Int) : Bool := decide (balF l = 0) && decide ((ps.length : Int) ≤ many) && settlesB l ps
theorem payP_len (l : List Int) (p : Pmt) : (payP l p).length = l.length := by simp [payP]
theorem payF_len : ∀ (ps : List Pmt) (l : List Int), (ps.foldl payP l).length = l.length
  | [], l => rfl
  | p :: ps, l => by rw [List.foldl_cons, payF_len, payP_len]
theorem pmtOk_iff {n : Nat} {p : Pmt} : pmtOk n p = true ↔ (0 ≤ p.src ∧ p.src < n) ∧ (0 ≤ p.dst ∧ p.dst < n) ∧ p.src ≠ p.dst ∧ 1 ≤ p.amt ∧ p.amt ≤ 100000 := by
  unfold pmtOk
  simp only [Bool.and_eq_true, within_iff, Bool.not_eq_true', decide_eq_false_iff_not]
  omega
theorem payP_at {l : List Int} {p : Pmt} (h : pmtOk l.length p = true) {i : Nat} (hi : i < l.length) : at0 (payP l p) i = at0 l i + (if i = p.src.toNat then p.amt else 0) - (if i = p.dst.toNat then p.amt else 0) := by
  obtain ⟨h1, h2, h3, _⟩ := pmtOk_iff.1 h
  have ha : p.src.toNat < l.length := by omega
  have hb : p.dst.toNat < l.length := by omega
  have hab : p.src.toNat ≠ p.dst.toNat := by omega
  unfold payP
  rw [at0_set (by simpa using hb), at0_set ha, at0_set ha]
  by_cases e : i = p.dst.toNat
  · rw [if_pos e, if_neg (Ne.symm hab), if_neg (fun h => hab (h.symm.trans e)), if_pos e, e]; omega
  · rw [if_neg e, if_neg e]
    by_cases e2 : i = p.src.toNat
    · rw [if_pos e2, if_pos e2, e2]; omega
    · rw [if_neg e2, if_neg e2]; omega
theorem payF_bd : ∀ (ps : List Pmt) (l : List Int) (B : Int), (∀ i, i < l.length → -B ≤ at0 l i ∧ at0 l i ≤ B) → (∀ p ∈ ps, pmtOk l.length p = true) → ∀ i, i < l.length → -(B + 100000 * (ps.length : Int)) ≤ at0 (ps.foldl payP l) i ∧ at0 (ps.foldl payP l) i ≤ B + 100000 * (ps.length : Int)
  | [], l, B, h, _, i, hi => by have := h i hi; simp; omega
  | p :: ps, l, B, h, hp, i, hi => by
    have h0 := hp p List.mem_cons_self
    obtain ⟨_, _, hne, h1, h2⟩ := pmtOk_iff.1 h0
    rw [List.foldl_cons]
    have := payF_bd ps (payP l p) (B + 100000) (fun j hj => by
      rw [payP_len] at hj
      rw [payP_at h0 hj]
      have := h j hj
      split <;> split <;> omega) (fun q hq => by rw [payP_len]; exact hp q (List.mem_cons_of_mem _ hq)) i (by rw [payP_len]; exact hi)
    simp only [List.length_cons]
    push_cast
    omega
end Py
namespace Go.Proofs.Yteeikpmoboehdaa
open Go Go.Vc Go.RowKit Py
theorem zero_go (x : Int) (w : World) : Calls Try.prog 72 #[.int .i64 x] w fun e w' => e = .returned (.bool (decide (x = 0))) ∧ w.grownBy w' none := by
  refine calls (G := G) (args := [.int .i64 x]) Try.func72 rfl rfl rfl ?_
  refine M.run rfl <| M.retF rfl rfl ⟨?_, gr_refl _ _⟩
  show Ending.returned (Value.bool (x == 0)) = _
  by_cases h : x = 0 <;> simp [h]
set_option maxHeartbeats 1000000 in
theorem ProveSettled_go (l : List Int) (ps : List Pmt) (many : Int) (A : Option Addr) (c : Nat) (B : Option Addr) (b : Nat) (w : World) (hA : Rd dI w A c l) (hB : Rd dPmt w B b ps) (hs : ps.length ≤ 1000000) :
    Calls Try.prog 32 #[.slice A l.length c, .slice B ps.length b, .int .i64 many] w fun e w' => e = .returned (.bool (proveS l ps many)) ∧ w.grownBy w' none := by
  refine calls (G := G) (args := [.slice A l.length c, .slice B ps.length b, .int .i64 many]) Try.func32 rfl rfl rfl ?_
  refine M.run rfl <| M.cl rfl (checkBalances_go l A c w hA) ?_
  rintro e w1 ⟨rfl, e1⟩
  refine ⟨_, rfl, M.at_ [14] rfl <| M.case 14 rfl (fun h1 => ?_) (fun h1 => ?_)⟩
  · have hz : ¬ balF l = 0 := by simpa using h1
    refine M.run rfl <| M.condT rfl rfl <| M.run rfl <| M.retF rfl rfl ⟨?_, e1⟩
    simp [proveS, hz, oneOrTuple]
  have hz : balF l = 0 := by simpa using h1
  obtain ⟨h7, h0, hd, hsum⟩ := balF_ok hz
  refine M.run rfl <| M.cond rfl (fun h2 => ?_) (fun h2 => ?_)
  · have h2' := of_decide_eq_true h2
    refine M.run rfl <| M.retF rfl rfl ⟨?_, e1⟩
    have : ¬ (ps.length : Int) ≤ many := by omega
    simp [proveS, this, oneOrTuple]
  have h2' := of_decide_eq_false h2
  have hm : (ps.length : Int) ≤ many := by omega
  refine M.at_ [22] rfl ?_
  rw [w64 (x := (l.length : Int) - 1) (by omega) (by omega)]
  refine M.run rfl <| M.cl rfl (Clone_go l A c w1 (hA.mv e1) (by omega)) ?_
  rintro e w2 ⟨X, x, rfl, hX, e2⟩
  have e02 := gr_trans e1 e2
  refine ⟨_, rfl, M.run rfl <| M.loop (σ := Nat) (fun i => [(7, .func (.func 57) #[.agg #[.int .i64 0, .int .i64 ((l.length : Int) - 1)]] #[]), (8, .slice X l.length x), (27, .slice B ps.length b), (28, .int .i64 (ps.length : Int)), (29, .int .i64 (i : Int))])
    (fun i w' => i ≤ ps.length ∧ w.grownBy w' none ∧ (∀ p ∈ ps.take i, pmtOk l.length p = true) ∧ Vc.Own dI 3 w' w1.heap.size no X x ((ps.take i).foldl payP l)) (fun i => ps.length - i) 0 ⟨rfl, rfl, rfl, rfl, rfl, trivial⟩ ⟨Nat.zero_le _, e02, by simp, hX⟩ ?_⟩
  rintro i w3 ⟨hi, e3, hok, hX3⟩
  refine M.run rfl <| M.cond rfl (fun h => ?_) (fun h => ?_)
  rotate_left
  · have hin : i = ps.length := by have := of_decide_eq_false h; omega
    subst hin
    rw [List.take_length] at hok hX3
    have hln := payF_len ps l
    have hc := allI_go (ps.foldl payP l) (.func (.func 72) #[] #[]) (fun n => decide (n = 0)) rfl X x w3 (hX3.rd (by decide)) ⟨72, [], [], rfl, fun w' _ x => zero_go x w'⟩
    rw [hln] at hc
    refine M.run rfl <| M.cl rfl hc ?_
    rintro e w4 ⟨rfl, e4⟩
    refine ⟨_, rfl, M.run rfl (M.retF rfl rfl ⟨?_, gr_trans e3 e4⟩)⟩
    have hall : ps.all (pmtOk l.length) = true := List.all_eq_true.2 hok
    simp [proveS, settlesB, hz, hm, hall, oneOrTuple]
  have hlt : i < ps.length := by have := of_decide_eq_true h; omega
  obtain ⟨hB1, hBc⟩ := rd_flat hB hlt
  have htk : ps.take (i + 1) = ps.take i ++ [ps[i]] := by rw [List.take_add_one, List.getElem?_eq_getElem hlt]; rfl
  have bad : pmtOk l.length ps[i] = false → proveS l ps many = false := fun hb => by
    have : settlesB l ps = false := by
      unfold settlesB
      have : ps.all (pmtOk l.length) = false := List.all_eq_false.2 ⟨ps[i], List.getElem_mem hlt, by rw [hb]; decide⟩
      rw [this]; rfl
    unfold proveS; rw [this, Bool.and_false]
  have hps := payF_bd (ps.take i) l 100000 (fun j hj => debt_at hd hj) hok
  have hln := payF_len (ps.take i) l
  have hli : ((ps.take i).length : Int) ≤ 1000000 := by rw [List.length_take]; omega
  generalize hp : ps[i] = p at *
  refine M.run rfl <| M.ix rfl (by omega) (by omega) hB1 <| M.ldA rfl rfl (hBc w3 (gr_below e3)) <| M.run rfl <| M.nw rfl fun gp w4 b4 e4 l4 => M.run rfl <| M.store rfl rfl b4 rfl rfl fun w5 b5 e5 => ?_
  have e35 := gr_fresh e4 e5 l4
  have e05 := gr_trans e3 e35
  refine M.run rfl <| M.ld (v := .int .i64 p.src) rfl (b5.cell rfl rfl) <| M.run rfl <| M.cl rfl (has_go 0 ((l.length : Int) - 1) p.src w5) ?_
  rintro e w6 ⟨rfl, e6⟩
  have e06 := gr_trans e05 e6
  refine ⟨_, rfl, M.at_ [38] rfl <| M.case 38 rfl (fun h1 => ?_) (fun h1 => ?_)⟩
  · refine M.run rfl <| M.condT rfl rfl <| M.run rfl <| M.retF rfl rfl ⟨?_, e06⟩
    rw [bad (by unfold pmtOk; rw [show within p.src 0 ((l.length : Int) - 1) = false by simpa using h1]; rfl)]; rfl
  have k1 : within p.src 0 ((l.length : Int) - 1) = true := by simpa using h1
  refine M.run rfl <| M.ld (v := .int .i64 p.dst) rfl ((b5.mv0 e6).cellsAll.one 1 rfl rfl) <| M.run rfl <| M.cl rfl (has_go 0 ((l.length : Int) - 1) p.dst w6) ?_
  rintro e w7 ⟨rfl, e7⟩
  have e07 := gr_trans e06 e7
  refine ⟨_, rfl, M.at_ [45] rfl <| M.case 45 rfl (fun h1 => ?_) (fun h1 => ?_)⟩
  · refine M.run rfl <| M.condT rfl rfl <| M.run rfl <| M.retF rfl rfl ⟨?_, e07⟩
    rw [bad (by unfold pmtOk; rw [show within p.dst 0 ((l.length : Int) - 1) = false by simpa using h1]; simp)]; rfl
  have k2 : within p.dst 0 ((l.length : Int) - 1) = true := by simpa using h1
  have b7 := (b5.mv0 e6).mv0 e7
  refine M.run rfl <| M.ld (v := .int .i64 p.src) rfl (b7.cellsAll.one 0 rfl rfl) <| M.run rfl <| M.ld (v := .int .i64 p.dst) rfl (b7.cellsAll.one 1 rfl rfl) <| M.at_ [52] rfl <| M.case 52 rfl (fun h1 => ?_) (fun h1 => ?_)
  · refine M.run rfl <| M.condT rfl rfl <| M.run rfl <| M.retF rfl rfl ⟨?_, e07⟩
    have : p.src = p.dst := by simpa using h1
    rw [bad (by unfold pmtOk; simp [this])]; rfl
  have k3 : p.src ≠ p.dst := by simpa using h1
  refine M.run rfl <| M.ld (v := .int .i64 p.amt) rfl (b7.cellsAll.one 2 rfl rfl) <| M.run rfl <| M.cl rfl (within_go p.amt 1 100000 w7) ?_
  rintro e w8 ⟨rfl, e8⟩
  have e08 := gr_trans e07 e8
  have e48 := gr_trans (gr_trans e6 e7) e8
  refine ⟨_, rfl, M.run rfl <| M.cond rfl (fun h1 => ?_) (fun h1 => ?_)⟩
  · refine M.run rfl <| M.retF rfl rfl ⟨?_, e08⟩
    rw [bad (by unfold pmtOk; rw [show within p.amt 1 100000 = false by simpa using h1]; simp)]; rfl
  have k4 : within p.amt 1 100000 = true := by simpa using h1
  have hpk : pmtOk l.length p = true := by unfold pmtOk; simp [k1, k2, k3, k4]
  obtain ⟨q1, q2, q3, q4, q5⟩ := pmtOk_iff.1 hpk
  have hX8 := (hX3.mv0 e35).mv0 e48
  have b8 := b7.mv0 e8
  have hbX : 0 < ((ps.take i).foldl payP l).length := by omega
  generalize hL : (ps.take i).foldl payP l = L at *
  have ha : p.src.toNat < L.length := by omega
  have hb : p.dst.toNat < L.length := by omega
  have hsa := hps p.src.toNat (by omega)
  have hsb := hps p.dst.toNat (by omega)
  obtain ⟨g, cur, rfl, hg, bX, hlX, hcX, hset⟩ := own_int hX8 ha
  have hgw : w.heap.size ≤ g := Nat.le_trans e1.size hg
  refine M.run rfl <| M.drawG [9] (by kernel_rfl) fun w9 e9 => ?_
  refine D.run rfl <| D.ld 2 rfl rfl rfl rfl (v := .int .i64 p.src) (fun w' hw => ((b8.mv0 e9).mv0 hw).cellsAll.one 0 rfl rfl) <| D.ys 3 rfl rfl rfl (YS.ix rfl (by omega) (by omega) rfl) <|
    D.ld 4 rfl rfl rfl rfl (v := .int .i64 (at0 L p.src.toNat)) (fun w' hw => by rw [ad1, ← at0_get ha]; exact own_cell hX8 ha rfl (gr_trans e9 hw) (by simp)) <| D.run rfl <| D.ld 6 rfl rfl rfl rfl (v := .int .i64 p.amt) (fun w' hw => ((b8.mv0 e9).mv0 hw).cellsAll.one 2 rfl rfl) <| D.run rfl ?_
  rw [w64 (x := at0 L p.src.toNat + p.amt) (by omega) (by omega)]
  refine D.ys 8 rfl rfl rfl (YS.ix rfl (by omega) (by omega) rfl) <| D.one 9 rfl rfl <| M.storeA (cs := cur) (off := p.src.toNat) (vs := [.int .i64 (at0 L p.src.toNat + p.amt)]) rfl rfl (by rw [ad1]) (bX.mv0 e9) (by simp; omega) rfl fun w10 b10 e10 => M.run rfl <| M.end_ ⟨.inl ⟨rfl, trivial⟩, D.done_ rfl ?_⟩
  have hX10 := hset _ w10 b10
  have hne : g ≠ gp := by have := bX.lt; have := l4; have := hX3.blkGe g rfl; omega
  have b11 := (b8.mv0 e9).mv1 e10 hne
  have hb' : p.dst.toNat < (L.set p.src.toNat (at0 L p.src.toNat + p.amt)).length := by simpa using hb
  have hs2 : at0 (L.set p.src.toNat (at0 L p.src.toNat + p.amt)) p.dst.toNat = at0 L p.dst.toNat := by rw [at0_set ha, if_neg (by omega)]
  obtain ⟨g', cur', hgg, hg', bX', hlX', hcX', hset'⟩ := own_int hX10 hb'
  injection hgg with hgg
  injection hgg with hgg
  subst hgg
  refine M.run rfl <| M.drawG [9] (by kernel_rfl) fun w11 e11 => ?_
  refine D.run rfl <| D.ld 2 rfl rfl rfl rfl (v := .int .i64 p.dst) (fun w' hw => ((b11.mv0 e11).mv0 hw).cellsAll.one 1 rfl rfl) <| D.ys 3 rfl rfl rfl (YS.ix rfl (by omega) (by omega) rfl) <|
    D.ld 4 rfl rfl rfl rfl (v := .int .i64 (at0 L p.dst.toNat)) (fun w' hw => by rw [ad1, ← hs2, ← at0_get hb']; exact own_cell hX10 hb' rfl (gr_trans e11 hw) (by simp)) <| D.run rfl <| D.ld 6 rfl rfl rfl rfl (v := .int .i64 p.amt) (fun w' hw => ((b11.mv0 e11).mv0 hw).cellsAll.one 2 rfl rfl) <| D.run rfl ?_
  rw [w64 (x := at0 L p.dst.toNat - p.amt) (by omega) (by omega)]
  refine D.ys 8 rfl rfl rfl (YS.ix rfl (by omega) (by omega) rfl) <| D.one 9 rfl rfl <| M.storeA (cs := cur') (off := p.dst.toNat) (vs := [.int .i64 (at0 L p.dst.toNat - p.amt)]) rfl rfl (by rw [ad1]) (bX'.mv0 e11) (by simp; omega) rfl fun w12 b12 e12 => M.run rfl <| M.end_ ⟨.inl ⟨rfl, trivial⟩, D.done_ rfl ?_⟩
  have hX12 := hset' _ w12 b12
  refine M.run rfl <| M.end_ ⟨i + 1, ⟨rfl, rfl, rfl, rfl, nxt hlt (by omega), trivial⟩, ⟨by omega, gr_fresh (gr_trans (gr_fresh (gr_trans e08 e9) e10 hgw) e11) e12 hgw, ?_, ?_⟩, by omega⟩
  · intro q hq
    rw [htk] at hq
    rcases List.mem_append.1 hq with hq | hq
    · exact hok q hq
    · simp at hq; subst hq; exact hpk
  · rw [htk, List.foldl_append, hL]
    show Vc.Own dI 3 w12 w1.heap.size no _ x (payP L p)
    unfold payP
    rw [hs2]
    exact hX12
end Go.Proofs.Yteeikpmoboehdaa
end

section
/- Walk: whether lists are groups. -/
set_option linter.unusedVariables false
namespace Py
/-- of a list, behind the stations of earlier ones: the station at a place can be there -/
def okAt (l pre g : List Int) (i : Nat) : Bool := within (at0 g i) 0 ((l.length : Int) - 1) && (decide (i = 0) || decide (at0 g (i - 1) < at0 g i)) && !decide (at0 l (at0 g i).toNat = 0) && !(pre ++ g.take i).contains (at0 g i)
def gsum (l g : List Int) (m : Nat) : Int := sumTo (fun i => at0 l (at0 g i).toNat) m
def okG (l pre g : List Int) : Bool := (List.range g.length).all (okAt l pre g) && !decide (g.length = 0) && decide (gsum l g g.length = 0)
def preG (gs : List (List Int)) (k : Nat) : List Int := (gs.take k).flatten
def areG (l : List Int) (gs : List (List Int)) : Bool := ((List.range gs.length).all fun k => okG l (preG gs k) (gs.getD k [])) && (List.range l.length).all fun s => decide (at0 l s = 0) || gs.flatten.contains (s : Int)
def proveG (l : List Int) (gs : List (List Int)) (many : Int) : Bool := decide (balF l = 0) && decide (many ≤ (gs.length : Int)) && areG l gs
theorem range_false {n i : Nat} {f : Nat → Bool} (hi : i < n) (h : f i = false) : (List.range n).all f = false := List.all_eq_false.2 ⟨i, List.mem_range.2 hi, by rw [h]; decide⟩
theorem range_true {n : Nat} {f : Nat → Bool} (h : ∀ i, i < n → f i = true) : (List.range n).all f = true := List.all_eq_true.2 fun i hi => h i (List.mem_range.1 hi)
theorem areG_bad {l : List Int} {gs : List (List Int)} {k : Nat} (hk : k < gs.length) (h : okG l (preG gs k) (gs.getD k []) = false) : areG l gs = false := by
  unfold areG; rw [range_false (f := fun k => okG l (preG gs k) (gs.getD k [])) hk h]; rfl
theorem okG_bad {l pre g : List Int} {i : Nat} (hi : i < g.length) (h : okAt l pre g i = false) : okG l pre g = false := by
  unfold okG; rw [range_false hi h]; rfl
theorem okAt_iff {l pre g : List Int} {i : Nat} : okAt l pre g i = true ↔ (0 ≤ at0 g i ∧ at0 g i < l.length) ∧ (i = 0 ∨ at0 g (i - 1) < at0 g i) ∧ at0 l (at0 g i).toNat ≠ 0 ∧ (pre ++ g.take i).contains (at0 g i) = false := by
  unfold okAt
  simp only [Bool.and_eq_true, Bool.or_eq_true, within_iff, Bool.not_eq_true', decide_eq_false_iff_not, decide_eq_true_eq]
  constructor
  · rintro ⟨⟨⟨⟨a, b⟩, c⟩, d⟩, e⟩; exact ⟨⟨a, by omega⟩, c, d, e⟩
  · rintro ⟨⟨a, b⟩, c, d, e⟩; exact ⟨⟨⟨⟨a, by omega⟩, c⟩, d⟩, e⟩
def SeenB (seen : Nat) (pre : List Int) : Prop := seen < 128 ∧ ∀ s : Nat, s < 7 → seen.testBit s = pre.contains (s : Int)
theorem SeenB.add {seen : Nat} {pre : List Int} (h : SeenB seen pre) {s : Nat} (hs : s < 7) : SeenB (seen ||| 2 ^ s) (pre ++ [(s : Int)]) := by
  refine ⟨Nat.or_lt_two_pow (n := 7) h.1 (Nat.pow_lt_pow_right (by decide) hs), fun t ht => ?_⟩
  rw [Nat.testBit_or, h.2 t ht]
  by_cases e : t = s
  · subst e; rw [Nat.testBit_two_pow_self]; simp
  · rw [Nat.testBit_two_pow_of_ne (Ne.symm e), Bool.or_false]
    simp only [List.contains_eq_mem, List.mem_append, List.mem_singleton]
    congr 1
    apply propext
    constructor
    · exact .inl
    · rintro (h | h)
      · exact h
      · omega
theorem pre_next {gs : List (List Int)} {k : Nat} (hk : k < gs.length) : preG gs (k + 1) = preG gs k ++ gs[k] := by
  unfold preG; rw [List.take_add_one, List.getElem?_eq_getElem hk, List.flatten_append]; simp only [Option.toList, List.flatten_cons, List.flatten_nil, List.append_nil]
theorem take_next (g : List Int) {i : Nat} (hi : i < g.length) : g.take (i + 1) = g.take i ++ [at0 g i] := by
  rw [List.take_add_one, List.getElem?_eq_getElem hi, at0_get hi]; rfl
theorem gsum_bd {l g : List Int} (hd : debt l = true) : ∀ m, (∀ i, i < m → (at0 g i).toNat < l.length) → -100000 * (m : Int) ≤ gsum l g m ∧ gsum l g m ≤ 100000 * (m : Int)
  | 0, _ => by simp [gsum, sumTo]
  | m + 1, h => by
    have ih := gsum_bd hd m (fun i hi => h i (by omega))
    have := debt_at hd (h m (by omega))
    unfold gsum at ih ⊢
    simp only [sumTo]
    push_cast
    omega
end Py
namespace Go.Proofs.Yteeikpmoboehdaa
open Go Go.Vc Go.RowKit Py
set_option maxHeartbeats 2000000 in
theorem ProveGroups_go (l : List Int) (gs : List (List Int)) (many : Int) (A : Option Addr) (c : Nat) (B : Option Addr) (b : Nat) (w : World) (hA : Rd dI w A c l) (hB : Rd dL w B b gs) (hs : ∀ g ∈ gs, g.length ≤ 1000000) :
    Calls Try.prog 46 #[.slice A l.length c, .slice B gs.length b, .int .i64 many] w fun e w' => e = .returned (.bool (proveG l gs many)) ∧ w.grownBy w' none := by
  refine calls (G := G) (args := [.slice A l.length c, .slice B gs.length b, .int .i64 many]) Try.func46 rfl rfl rfl ?_
  have hbd := hB.bd
  refine M.run rfl <| M.cl rfl (checkBalances_go l A c w hA) ?_
  rintro e w1 ⟨rfl, e1⟩
  refine ⟨_, rfl, M.at_ [18] rfl <| M.case 18 rfl (fun h1 => ?_) (fun h1 => ?_)⟩
  · have hz : ¬ balF l = 0 := by simpa using h1
    refine M.run rfl <| M.condT rfl rfl <| M.run rfl <| M.retF rfl rfl ⟨?_, e1⟩
    simp [proveG, hz, oneOrTuple]
  have hz : balF l = 0 := by simpa using h1
  obtain ⟨h7, h0, hd, hsum⟩ := balF_ok hz
  refine M.run rfl <| M.cond rfl (fun h2 => ?_) (fun h2 => ?_)
  · have h2' := of_decide_eq_true h2
    refine M.run rfl <| M.retF rfl rfl ⟨?_, e1⟩
    have : ¬ many ≤ (gs.length : Int) := by omega
    simp [proveG, this, oneOrTuple]
  have h2' := of_decide_eq_false h2
  have hm : many ≤ (gs.length : Int) := by omega
  have bad : areG l gs = false → proveG l gs many = false := fun h => by unfold proveG; rw [h, Bool.and_false]
  refine M.run rfl <| M.loop (σ := Nat × Nat) (fun (k, seen) => [(0, .slice A l.length c), (7, .int .u64 (seen : Int)), (24, .slice B gs.length b), (25, .int .i64 (gs.length : Int)), (26, .int .i64 (k : Int))])
    (fun (k, seen) w' => k ≤ gs.length ∧ w.grownBy w' none ∧ SeenB seen (preG gs k) ∧ ∀ j, j < k → okG l (preG gs j) (gs.getD j []) = true) (fun (k, _) => gs.length - k) (0, 0) ⟨rfl, rfl, rfl, rfl, rfl, trivial⟩ ⟨Nat.zero_le _, e1, ⟨by decide, fun s _ => by simp [preG]⟩, fun j hj => by omega⟩ ?_
  rintro ⟨k, seen⟩ w2 ⟨hk, e2, hsn, hok⟩
  refine M.run rfl <| M.cond rfl (fun h => ?_) (fun h => ?_)
  rotate_left
  · have hin : k = gs.length := by have := of_decide_eq_false h; omega
    subst hin
    have hpre : preG gs gs.length = gs.flatten := by unfold preG; rw [List.take_length]
    rw [hpre] at hsn
    have hall := range_true (f := fun k => okG l (preG gs k) (gs.getD k [])) hok
    refine M.run rfl <| M.loop (σ := Nat) (fun i => [(7, .int .u64 (seen : Int)), (87, .slice A l.length c), (88, .int .i64 (l.length : Int)), (89, .int .i64 (i : Int))]) (fun i w' => i ≤ l.length ∧ w.grownBy w' none ∧ ∀ j, j < i → (decide (at0 l j = 0) || gs.flatten.contains (j : Int)) = true) (fun i => l.length - i) 0 ⟨rfl, rfl, rfl, rfl, trivial⟩ ⟨Nat.zero_le _, e2, fun j hj => by omega⟩ ?_
    rintro i w3 ⟨hi, e3, hlast⟩
    refine M.run rfl <| M.cond rfl (fun h => ?_) (fun h => ?_)
    rotate_left
    · have hin : i = l.length := by have := of_decide_eq_false h; omega
      subst hin
      refine M.run rfl <| M.retF rfl rfl ⟨?_, e3⟩
      have hA2 : areG l gs = true := by unfold areG; rw [hall, range_true hlast]; rfl
      simp [proveG, hz, hm, hA2, oneOrTuple]
    have hlt : i < l.length := by have := of_decide_eq_true h; omega
    obtain ⟨hA1, hAC⟩ := rd_flat hA hlt
    rw [at0_get hlt] at hAC
    refine M.run rfl <| M.ix rfl (by omega) (by omega) hA1 <| M.run rfl <| M.ld rfl ((hAC w3 (gr_below e3)).one 0 rfl rfl) <| M.at_ [96] rfl <| M.case 96 rfl (fun h4 => ?_) (fun h4 => ?_)
    · have hnz : at0 l i ≠ 0 := by simpa using h4
      refine M.run rfl <| M.cl rfl (setHas_go seen i (by have := hsn.1; omega) (by omega) w3) ?_
      rintro e w4 ⟨rfl, e4⟩
      refine ⟨_, rfl, M.run rfl <| M.cond rfl (fun h5 => ?_) (fun h5 => ?_)⟩
      · refine M.run rfl <| M.retF rfl rfl ⟨?_, gr_trans e3 e4⟩
        have h5' : seen.testBit i = false := by simpa using h5
        rw [hsn.2 i (by omega)] at h5'
        rw [bad (by
          unfold areG
          rw [range_false (f := fun s => decide (at0 l s = 0) || gs.flatten.contains (s : Int)) hlt (by rw [h5']; simp [hnz]), Bool.and_false])]
        rfl
      · have h5' : seen.testBit i = true := by simpa using h5
        rw [hsn.2 i (by omega)] at h5'
        exact M.run rfl <| M.end_ ⟨i + 1, ⟨rfl, rfl, rfl, nxt hlt (by omega), trivial⟩, ⟨by omega, gr_trans e3 e4, fun j hj => by
          by_cases e : j = i
          · subst e; rw [h5', Bool.or_true]
          · exact hlast j (by omega)⟩, by omega⟩
    · have hnz : at0 l i = 0 := by simpa using h4
      exact M.run rfl <| M.condF rfl rfl <| M.run rfl <| M.end_ ⟨i + 1, ⟨rfl, rfl, rfl, nxt hlt (by omega), trivial⟩, ⟨by omega, e3, fun j hj => by
          by_cases e : j = i
          · subst e; simp [hnz]
          · exact hlast j (by omega)⟩, by omega⟩
  have hlt : k < gs.length := by have := of_decide_eq_true h; omega
  have hgd : gs.getD k [] = gs[k] := by simp [List.getD, hlt]
  have hgs := hs gs[k] (List.getElem_mem hlt)
  have badG : okG l (preG gs k) gs[k] = false → proveG l gs many = false := fun h => bad (areG_bad hlt (by rw [hgd]; exact h))
  obtain ⟨hB1, C, cc, hC, hBc⟩ := rd_el hB hlt
  have hpn := pre_next hlt
  generalize hg : gs[k] = g at *
  refine M.run rfl <| M.ix rfl (by omega) (by omega) hB1 <| M.run rfl <| M.ld rfl ((hBc w2 (gr_below e2)).one 0 rfl rfl) <| M.run rfl <|
    M.loop (σ := Nat × Nat) (fun (i, sn) => [(0, .slice A l.length c), (7, .int .u64 (sn : Int)), (9, .slice C g.length cc), (10, .int .i64 (gsum l g i)), (24, .slice B gs.length b), (25, .int .i64 (gs.length : Int)), (26, .int .i64 (k : Int)), (30, .slice C g.length cc), (31, .int .i64 (g.length : Int)), (32, .int .i64 (i : Int))])
    (fun (i, sn) w' => i ≤ g.length ∧ w.grownBy w' none ∧ SeenB sn (preG gs k ++ g.take i) ∧ ∀ j, j < i → okAt l (preG gs k) g j = true) (fun (i, _) => g.length - i) (0, seen) ⟨rfl, rfl, rfl, rfl, rfl, rfl, rfl, rfl, rfl, rfl, trivial⟩ ⟨Nat.zero_le _, e2, by simpa using hsn, fun j hj => by omega⟩ ?_
  rintro ⟨i, sn⟩ w3 ⟨hi, e3, hsn3, hok3⟩
  have hin7 : ∀ j, j < i → (at0 g j).toNat < l.length := fun j hj => by have := (okAt_iff.1 (hok3 j hj)).1; omega
  have hgb := gsum_bd hd i hin7
  refine M.run rfl <| M.cond rfl (fun h => ?_) (fun h => ?_)
  rotate_left
  · have hin : i = g.length := by have := of_decide_eq_false h; omega
    subst hin
    refine M.at_ [82] rfl <| M.case 82 rfl (fun h4 => ?_) (fun h4 => ?_)
    · have h4' : g.length = 0 := by have : (g.length : Int) = 0 := by simpa using h4
                                    omega
      refine M.run rfl <| M.condT rfl rfl <| M.run rfl <| M.retF rfl rfl ⟨?_, e3⟩
      rw [badG (by unfold okG; simp [h4'])]; rfl
    have h4' : ¬ g.length = 0 := fun h => by rw [h] at h4; exact absurd h4 (by decide)
    refine M.run rfl <| M.cond rfl (fun h5 => ?_) (fun h5 => ?_)
    · have h5' : gsum l g g.length ≠ 0 := by simpa using h5
      refine M.run rfl <| M.retF rfl rfl ⟨?_, e3⟩
      rw [badG (by unfold okG; simp [h5'])]; rfl
    · have h5' : gsum l g g.length = 0 := by simpa using h5
      rw [List.take_length, ← hpn] at hsn3
      refine M.run rfl <| M.end_ ⟨(k + 1, sn), ⟨rfl, rfl, rfl, rfl, nxt hlt hbd, trivial⟩, ⟨by omega, e3, hsn3, fun j hj => ?_⟩, by simp; omega⟩
      by_cases e : j = k
      · subst e
        rw [hgd]; unfold okG; rw [range_true hok3]; simp [h4', h5']
      · exact hok j (by omega)
  have hilt : i < g.length := by have := of_decide_eq_true h; omega
  obtain ⟨hC1, hCc⟩ := rd_flat hC hilt
  rw [at0_get hilt] at hCc
  have badA : okAt l (preG gs k) g i = false → proveG l gs many = false := fun h => badG (okG_bad hilt h)
  refine M.run rfl <| M.ix rfl (by omega) (by omega) hC1 <| M.run rfl <| M.ld rfl ((hCc w3 (gr_below e3)).one 0 rfl rfl) <| M.at_ [40] rfl ?_
  rw [w64 (x := (l.length : Int) - 1) (by omega) (by omega)]
  refine M.run rfl <| M.cl rfl (within_go (at0 g i) 0 ((l.length : Int) - 1) w3) ?_
  rintro e w4 ⟨rfl, e4⟩
  have e04 := gr_trans e3 e4
  refine ⟨_, rfl, M.at_ [43] rfl <| M.case 43 rfl (fun h1 => ?_) (fun h1 => ?_)⟩
  · refine M.run rfl <| M.condT rfl rfl <| M.run rfl <| M.retF rfl rfl ⟨?_, e04⟩
    rw [badA (by unfold okAt; rw [show within (at0 g i) 0 ((l.length : Int) - 1) = false by simpa using h1]; rfl)]; rfl
  have k1 : within (at0 g i) 0 ((l.length : Int) - 1) = true := by simpa using h1
  obtain ⟨s1, s2⟩ := Py.within_iff.1 k1
  have hsl : (at0 g i).toNat < l.length := by omega
  obtain ⟨hA1, hAC⟩ := rd_flat hA hsl
  rw [at0_get hsl] at hAC
  refine M.at_ [46] rfl <| M.case 46 rfl (fun h2 => ?_) (fun h2 => ?_)
  have hi0 : 0 < i := by have := of_decide_eq_true h2; omega
  obtain ⟨_, hCp⟩ := rd_flat hC (show i - 1 < g.length by omega)
  rw [at0_get (show i - 1 < g.length by omega)] at hCp
  refine M.at_ [50] rfl ?_
  rw [show IntKind.i64.wrap ((i : Int) - 1) = ((i - 1 : Nat) : Int) by rw [w64 (by omega) (by omega)]; omega]
  refine M.run rfl <| M.ix rfl (by omega) (by omega) hC1 <| M.ld rfl ((hCp w4 (gr_below e04)).one 0 rfl rfl) <| M.at_ [56] rfl <| M.case 56 rfl (fun h3 => ?_) (fun h3 => ?_)
  · have h3' := of_decide_eq_true h3
    refine M.run rfl <| M.condT rfl rfl <| M.run rfl <| M.retF rfl rfl ⟨?_, e04⟩
    have : (decide (i = 0) || decide (at0 g (i - 1) < at0 g i)) = false := by simp; omega
    rw [badA (by unfold okAt; rw [this]; simp)]; rfl
  have k2 : i = 0 ∨ at0 g (i - 1) < at0 g i := by have := of_decide_eq_false h3; omega
  rotate_left
  have k2 : i = 0 ∨ at0 g (i - 1) < at0 g i := by have := of_decide_eq_false h2; omega
  all_goals
    refine M.run rfl <| M.ix rfl (by omega) (by omega) hA1 <| M.run rfl <| M.ld rfl ((hAC w4 (gr_below e04)).one 0 rfl rfl) <| M.at_ [63] rfl <| M.case 63 rfl (fun h4 => ?_) (fun h4 => ?_)
    · have h4' : at0 l (at0 g i).toNat = 0 := by simpa using h4
      refine M.run rfl <| M.condT rfl rfl <| M.run rfl <| M.retF rfl rfl ⟨?_, e04⟩
      rw [badA (by unfold okAt; simp [h4'])]; rfl
    have k3 : at0 l (at0 g i).toNat ≠ 0 := by simpa using h4
    have hc := setHas_go sn (at0 g i).toNat (by have := hsn3.1; omega) (by omega) w4
    have hseen := hsn3.2 (at0 g i).toNat (by omega)
    have hadd := hsn3.add (s := (at0 g i).toNat) (by omega)
    have hsh := shl_nat (n := (at0 g i).toNat) (by omega)
    rw [Int.toNat_of_nonneg s1] at hc hseen hadd hsh
    rw [List.append_assoc, ← take_next g hilt] at hadd
    refine M.run rfl <| M.cl rfl hc ?_
    rintro e w5 ⟨rfl, e5⟩
    have e05 := gr_trans e04 e5
    refine ⟨_, rfl, M.run rfl <| M.cond rfl (fun h5 => ?_) (fun h5 => ?_)⟩
    · refine M.run rfl <| M.retF rfl rfl ⟨?_, e05⟩
      rw [hseen] at h5
      rw [badA (by unfold okAt; rw [h5]; simp)]; rfl
    rw [hseen] at h5
    refine M.run rfl <| M.ys (YS.shl rfl s1) ?_
    rw [hsh]
    have hal := debt_at hd hsl
    have hor := or_nat (s := sn) (t := 2 ^ (at0 g i).toNat) (by have := hsn3.1; omega) (Nat.pow_lt_pow_right (by decide) (by omega))
    refine M.run rfl <| M.ix rfl (by omega) (by omega) hA1 <| M.ld rfl ((hAC w5 (gr_below e05)).one 0 rfl rfl) <| M.run rfl <| M.end_ ⟨(i + 1, sn ||| 2 ^ (at0 g i).toNat), ⟨rfl, congrArg (fun z => some (Value.int .u64 z)) hor, rfl, ?_, rfl, rfl, rfl, rfl, rfl, nxt hilt (by omega), trivial⟩, ⟨by omega, e05, hadd, fun j hj => ?_⟩, by simp; omega⟩
    · show some (Value.int .i64 (IntKind.i64.wrap (gsum l g (i + 1)))) = _
      have : gsum l g (i + 1) = gsum l g i + at0 l (at0 g i).toNat := rfl
      rw [w64 (by omega) (by omega)]
    · by_cases e : j = i
      · subst e; exact okAt_iff.2 ⟨⟨s1, by omega⟩, k2, k3, h5⟩
      · exact hok3 j (by omega)
end Go.Proofs.Yteeikpmoboehdaa
end

section
/- What a payment within a group does; how many payments a group needs; the search for one who owes. -/
set_option linter.unusedVariables false
namespace Py
/-- how many of a set there are; and how many of these are not settled -/
def szS (n s : Nat) : Int := sumTo (fun i => if s.testBit i = true then 1 else 0) n
def nzS (L : List Int) (s : Nat) : Int := sumTo (fun i => if s.testBit i = true ∧ at0 L i ≠ 0 then 1 else 0) L.length
def gsz (n : Nat) (gs : List Nat) : Int := (gs.map fun s => szS n s - 1).sum
theorem gsz_snoc (n : Nat) (gs : List Nat) (s : Nat) : gsz n (gs ++ [s]) = gsz n gs + (szS n s - 1) := by simp [gsz]
theorem GL.count {l : List Int} (n : Nat) {left : Nat} {gs : List Nat} (h : GL l left gs) : gsz n gs + gs.length = szS n left := by
  induction h with
  | nil =>
    simp only [gsz, szS, List.map_nil, List.sum_nil, List.length_nil]
    rw [sumTo_congr (g := fun _ => 0) _ (fun i _ => by simp), sumTo_zero]; rfl
  | @cons left s gs h0 hs hf hz h ih =>
    have : szS n left = szS n s + szS n (dif left s) := by
      unfold szS
      rw [← sumTo_add]
      apply sumTo_congr
      intro i _
      rw [dif_bit]
      have := hs i
      cases h1 : s.testBit i <;> cases h2 : left.testBit i <;> simp_all
    rw [this, ← ih]
    unfold gsz
    simp only [List.map_cons, List.sum_cons, List.length_cons]
    push_cast
    omega
theorem szS_nzm (l : List Int) : szS l.length (nzm l l.length) = l.length - zeros l := by
  have : szS l.length (nzm l l.length) + zeros l = l.length := by
    unfold szS zeros
    rw [← sumTo_add, sumTo_congr (g := fun _ => 1) _ (fun i hi => by
      rw [nzm_bit l hi]
      by_cases h : at0 l i = 0 <;> simp [nz, h])]
    have : ∀ n : Nat, sumTo (fun _ => 1) n = n := fun n => by
      induction n with
      | zero => rfl
      | succ n ih => simp only [sumTo, ih]; omega
    exact this _
  omega
theorem nzS_le (L : List Int) (s : Nat) : nzS L s ≤ szS L.length s := sumTo_le _ (fun i _ => by by_cases h : s.testBit i = true <;> simp [h]; split <;> omega)
theorem sumTo_nonneg {f : Nat → Int} (n : Nat) (h : ∀ i, i < n → 0 ≤ f i) : 0 ≤ sumTo f n := by
  have := sumTo_le (f := fun _ => 0) n h
  rw [sumTo_zero] at this; exact this
theorem nzS_nonneg (L : List Int) (s : Nat) : 0 ≤ nzS L s := sumTo_nonneg _ (fun i _ => by split <;> omega)
theorem sumTo_pos {f : Nat → Int} {n k : Nat} (hk : k < n) (h : ∀ i, i < n → 0 ≤ f i) : f k ≤ sumTo f n := by
  have := sumTo_le (f := fun i => if i = k then f i else 0) (g := f) n (fun i hi => by
    by_cases e : i = k
    · subst e; simp
    · simp [e]; exact h i hi)
  rw [sumTo_single, if_pos hk] at this
  exact this
theorem szS_pos {n s i : Nat} (hi : i < n) (h : s.testBit i = true) : 1 ≤ szS n s := by
  have := sumTo_pos (f := fun i => if s.testBit i = true then 1 else 0) hi (fun i _ => by split <;> omega)
  rw [if_pos h] at this; exact this
/-- nobody owes and all is even: nobody gets -/
theorem even_zero {L : List Int} {s : Nat} (hz : bsum L s = 0) (h : ∀ i, i < L.length → s.testBit i = true → 0 ≤ at0 L i) : ∀ i, i < L.length → s.testBit i = true → at0 L i = 0 := by
  intro i hi hs
  have := sumTo_pos (f := fun i => if s.testBit i = true then at0 L i else 0) hi (fun j hj => by split; exact h j hj (by assumption); omega)
  rw [if_pos hs, ← bsum_if, hz] at this
  have := h i hi hs
  omega
/-- somebody owes and all is even: somebody gets -/
theorem some_gets {L : List Int} {s a : Nat} (hz : bsum L s = 0) (ha : a < L.length) (hs : s.testBit a = true) (hn : at0 L a < 0) : ∃ i, i < L.length ∧ s.testBit i = true ∧ 0 < at0 L i := by
  apply Decidable.byContradiction
  intro hne
  have hall : ∀ i, i < L.length → s.testBit i = true → at0 L i ≤ 0 := fun i hi h => by
    have : ¬ 0 < at0 L i := fun hp => hne ⟨i, hi, h, hp⟩
    omega
  have := sumTo_le (f := fun i => if s.testBit i = true then at0 L i else 0) (g := fun i => if i = a then at0 L a else 0) L.length (fun i hi => by
    by_cases e : i = a
    · subst e; simp [hs]
    · simp only [e, if_false]; split
      · exact hall i hi (by assumption)
      · omega)
  rw [← bsum_if, hz, sumTo_single (fun _ => at0 L a), if_pos ha] at this
  omega
theorem pay_step {L : List Int} {s : Nat} {p : Pmt} (hz : bsum L s = 0) (hb : ∀ i, i < L.length → -100000 ≤ at0 L i ∧ at0 L i ≤ 100000)
    (ha : 0 ≤ p.src ∧ p.src < L.length) (hd : 0 ≤ p.dst ∧ p.dst < L.length) (hsa : s.testBit p.src.toNat = true) (hsd : s.testBit p.dst.toNat = true) (hna : at0 L p.src.toNat < 0) (hnd : 0 < at0 L p.dst.toNat)
    (hx : p.amt = if at0 L p.dst.toNat < - at0 L p.src.toNat then at0 L p.dst.toNat else - at0 L p.src.toNat) :
    pmtOk L.length p = true ∧ bsum (payP L p) s = 0 ∧ (∀ i, i < L.length → -100000 ≤ at0 (payP L p) i ∧ at0 (payP L p) i ≤ 100000) ∧ (∀ i, i < L.length → s.testBit i = false → at0 (payP L p) i = at0 L i) ∧ nzS (payP L p) s + 1 ≤ nzS L s ∧ 2 ≤ nzS L s := by
  have hba := hb p.src.toNat (by omega)
  have hbd := hb p.dst.toNat (by omega)
  have hne : p.src.toNat ≠ p.dst.toNat := fun h => by rw [h] at hna; omega
  have hok : pmtOk L.length p = true := pmtOk_iff.2 ⟨ha, hd, fun h => hne (by rw [h]), by split at hx <;> omega, by split at hx <;> omega⟩
  have hat := fun i (hi : i < L.length) => payP_at hok hi
  have hpaid : Paid L (payP L p) p.src.toNat p.dst.toNat p.amt := ⟨payP_len _ _, hat⟩
  have h2 : 2 ≤ nzS L s := by
    have := sumTo_le (f := fun i => (if i = p.src.toNat then (1 : Int) else 0) + (if i = p.dst.toNat then 1 else 0)) (g := fun i => if s.testBit i = true ∧ at0 L i ≠ 0 then 1 else 0) L.length (fun i hi => by
      by_cases e1 : i = p.src.toNat
      · have e2 : i ≠ p.dst.toNat := fun h => hne (e1.symm.trans h)
        rw [if_pos e1, if_neg e2, if_pos ⟨by rw [e1]; exact hsa, by rw [e1]; omega⟩]; omega
      · by_cases e2 : i = p.dst.toNat
        · rw [if_neg e1, if_pos e2, if_pos ⟨by rw [e2]; exact hsd, by rw [e2]; omega⟩]; omega
        · rw [if_neg e1, if_neg e2]; split <;> omega)
    rw [sumTo_add, sumTo_one, sumTo_one, if_pos (by omega), if_pos (by omega)] at this
    exact this
  have hz' : bsum (payP L p) s = 0 := by
    have := sumIf_paid (by omega) (by omega) hpaid (fun i => s.testBit i = true) (by rw [hsa, hsd])
    rw [bsum_if, payP_len, ← this, ← bsum_if]; exact hz
  have hone : ∃ z, z < L.length ∧ s.testBit z = true ∧ at0 L z ≠ 0 ∧ at0 (payP L p) z = 0 := by
    by_cases hc : at0 L p.dst.toNat < - at0 L p.src.toNat
    · rw [if_pos hc] at hx
      refine ⟨p.dst.toNat, by omega, hsd, by omega, ?_⟩
      rw [hat _ (by omega), if_neg (Ne.symm hne), if_pos rfl]; omega
    · rw [if_neg hc] at hx
      refine ⟨p.src.toNat, by omega, hsa, by omega, ?_⟩
      rw [hat _ (by omega), if_pos rfl, if_neg hne]; omega
  refine ⟨hok, hz', fun i hi => ?_, fun i hi hs => ?_, ?_, h2⟩
  · rw [hat i hi]
    have := hb i hi
    by_cases e1 : i = p.src.toNat
    · have e2 : i ≠ p.dst.toNat := fun h => hne (e1.symm.trans h)
      rw [if_pos e1, if_neg e2, e1]
      split at hx <;> omega
    · by_cases e2 : i = p.dst.toNat
      · rw [if_neg e1, if_pos e2, e2]
        split at hx <;> omega
      · rw [if_neg e1, if_neg e2]; omega
  · rw [hat i hi, if_neg (by rintro rfl; rw [hsa] at hs; cases hs), if_neg (by rintro rfl; rw [hsd] at hs; cases hs)]; omega
  · obtain ⟨z, hzl, hzs, hzn, hz0⟩ := hone
    have := sumTo_le (f := fun i => (if s.testBit i = true ∧ at0 (payP L p) i ≠ 0 then (1 : Int) else 0) + (if i = z then 1 else 0)) (g := fun i => if s.testBit i = true ∧ at0 L i ≠ 0 then 1 else 0) L.length (fun i hi => by
      by_cases e : i = z
      · subst e
        rw [if_neg (fun h => h.2 hz0), if_pos rfl, if_pos ⟨hzs, hzn⟩]; omega
      · rw [if_neg e]
        by_cases hn : at0 L i = 0
        · have : at0 (payP L p) i = 0 := by
            rw [hat i hi, hn, if_neg (by rintro rfl; omega), if_neg (by rintro rfl; omega)]; rfl
          simp [hn, this]
        · by_cases hs : s.testBit i = true
          · rw [if_pos (show s.testBit i = true ∧ at0 L i ≠ 0 from ⟨hs, hn⟩)]; split <;> omega
          · rw [if_neg (fun h => hs h.1), if_neg (fun h => hs h.1)]; omega)
    rw [sumTo_add, sumTo_one, if_pos hzl] at this
    unfold nzS
    rw [payP_len]
    exact this
/-- the first that passes, told -/
theorem firstI_spec {α : Type} (f : α → Bool) (l : List α) : (firstI f l < 0 ∧ ∀ x ∈ l, f x = false) ∨ ∃ (i : Nat) (hi : i < l.length), firstI f l = (i : Int) ∧ f l[i] = true := by
  unfold firstI
  by_cases h : l.findIdx f < l.length
  · rw [if_pos h]
    exact .inr ⟨_, h, rfl, List.findIdx_getElem (w := h)⟩
  · rw [if_neg h]
    refine .inl ⟨by omega, fun x hx => ?_⟩
    cases hfx : f x with
    | false => rfl
    | true => exact absurd (List.findIdx_lt_length_of_exists ⟨x, hx, hfx⟩) h
/-- the payments that the program finds are good -/
def GoodS (l : List Int) (ps : List Pmt) : Prop := settlesB l ps = true ∧ (ps.length : Int) + (best l).length ≤ l.length - zeros l
end Py
namespace Go.Proofs.Yteeikpmoboehdaa
open Go Go.Vc Go.RowKit Py
/-- a function value that tells of some numbers, from w on -/
def FnX (w : World) (fv : Value) (p : Int → Bool) (xs : List Int) : Prop := ∃ f fst cap, calleeE G.nf (some fv) = some (f, fst, cap) ∧ ∀ w', w.grownBy w' none → ∀ x ∈ xs,
  Calls Try.prog f (fst ++ ([Value.int .i64 x] ++ cap)).toArray w' fun e w'' => e = .returned (.bool (p x)) ∧ w'.grownBy w'' none
theorem FnX.mv {w w' : World} {fv : Value} {p : Int → Bool} {xs : List Int} (h : FnX w fv p xs) (g : w.grownBy w' none) : FnX w' fv p xs := by
  obtain ⟨f, fst, cap, h1, h2⟩ := h
  exact ⟨f, fst, cap, h1, fun w2 g2 x hx => h2 w2 (gr_trans g g2) x hx⟩
theorem IndexFuncX_go (xs : List Int) (fv : Value) (p : Int → Bool) (A : Option Addr) (c : Nat) (w : World) (hA : Rd dI w A c xs) (hf : FnX w fv p xs) :
    Calls Try.prog 67 #[.slice A xs.length c, fv] w fun e w' => e = .returned (.int .i64 (firstI p xs)) ∧ w.grownBy w' none := by
  refine calls (G := G) (args := [.slice A xs.length c, fv]) Try.func67 rfl rfl rfl ?_
  have hbd := hA.bd
  refine M.run rfl <| M.loop (σ := Nat) (fun i => [(0, .slice A xs.length c), (1, fv), (7, .int .i64 (xs.length : Int)), (8, .int .i64 (i : Int))]) (fun i w' => i ≤ xs.length ∧ w.grownBy w' none ∧ ∀ k, (h : k < i) → (h2 : k < xs.length) → p xs[k] = false)
    (fun i => xs.length - i) 0 ⟨rfl, rfl, rfl, rfl, trivial⟩ ⟨Nat.zero_le _, gr_refl _ _, fun k h => by omega⟩ ?_
  rintro i w1 ⟨hi, e1, hn⟩
  refine M.run rfl <| M.cond rfl (fun h => ?_) (fun h => ?_)
  rotate_left
  · have hin : i = xs.length := by have := of_decide_eq_false h; omega
    subst hin
    refine M.run rfl <| M.retF rfl rfl ⟨?_, e1⟩
    rw [firstI_none fun k hk => hn k hk hk]; rfl
  have hlt : i < xs.length := by have := of_decide_eq_true h; omega
  obtain ⟨hA1, hAC⟩ := rd_flat hA hlt
  obtain ⟨f, fst, cap, hc1, hc2⟩ := hf.mv e1
  refine M.run rfl <| M.ix rfl (by omega) (by omega) hA1 <| M.run rfl <| M.ld rfl ((hAC w1 (gr_below e1)).one 0 rfl rfl) <| M.run rfl <| M.clV rfl hc1 (hc2 w1 (gr_refl _ _) xs[i] (List.getElem_mem hlt)) ?_
  rintro e w2 ⟨rfl, e2⟩
  refine ⟨_, rfl, M.run rfl <| M.cond rfl (fun h2 => ?_) (fun h2 => ?_)⟩
  · refine M.run rfl <| M.retF rfl rfl ⟨?_, gr_trans e1 e2⟩
    rw [firstI_at hlt h2 fun k hk => hn k hk (by omega)]; rfl
  · exact M.run rfl <| M.end_ ⟨i + 1, ⟨rfl, rfl, rfl, nxt hlt hbd, trivial⟩, ⟨by omega, gr_trans e1 e2, fun k hk h3 => by
      by_cases e : k < i
      · exact hn k e h3
      · have : k = i := by omega
        subst this; exact h2⟩, by omega⟩
theorem owes_go (L : List Int) (gB : Nat) (X : Option Addr) (x : Nat) (w : World) (hB : Blk w gB [.slice X L.length x] 25) (hX : Rd dI w X x L) (i : Int) (h0 : 0 ≤ i) (h1 : i < L.length) :
    Calls Try.prog 68 #[.int .i64 i, .pointer (some ⟨gB, 0, none⟩)] w fun e w' => e = .returned (.bool (decide (at0 L i.toNat < 0))) ∧ w.grownBy w' none := by
  refine calls (G := G) (args := [.int .i64 i, .pointer (some ⟨gB, 0, none⟩)]) Try.func68 rfl rfl rfl ?_
  have hi : i.toNat < L.length := by omega
  obtain ⟨hX1, hXc⟩ := rd_flat hX hi
  rw [at0_get hi] at hXc
  exact M.run rfl <| M.ld rfl (hB.cell rfl rfl) <| M.run rfl <| M.ix rfl (by omega) (by omega) hX1 <| M.ld rfl ((hXc w (gr_below (gr_refl _ _))).one 0 rfl rfl) <| M.run rfl <| M.retF rfl rfl ⟨rfl, gr_refl _ _⟩
theorem gets_go (L : List Int) (gB : Nat) (X : Option Addr) (x : Nat) (w : World) (hB : Blk w gB [.slice X L.length x] 25) (hX : Rd dI w X x L) (i : Int) (h0 : 0 ≤ i) (h1 : i < L.length) :
    Calls Try.prog 69 #[.int .i64 i, .pointer (some ⟨gB, 0, none⟩)] w fun e w' => e = .returned (.bool (decide (at0 L i.toNat > 0))) ∧ w.grownBy w' none := by
  refine calls (G := G) (args := [.int .i64 i, .pointer (some ⟨gB, 0, none⟩)]) Try.func69 rfl rfl rfl ?_
  have hi : i.toNat < L.length := by omega
  obtain ⟨hX1, hXc⟩ := rd_flat hX hi
  rw [at0_get hi] at hXc
  exact M.run rfl <| M.ld rfl (hB.cell rfl rfl) <| M.run rfl <| M.ix rfl (by omega) (by omega) hX1 <| M.ld rfl ((hXc w (gr_below (gr_refl _ _))).one 0 rfl rfl) <| M.run rfl <| M.retF rfl rfl ⟨rfl, gr_refl _ _⟩
end Go.Proofs.Yteeikpmoboehdaa
end

section
/- Walk: Settle. -/
set_option linter.unusedVariables false
namespace Py
structure SInv (l : List Int) (gs : List Nat) (i left : Nat) (L : List Int) (ps : List Pmt) : Prop where
  gl : GL l left (gs.drop i)
  sub : Sub left (nzm l l.length)
  fold : ps.foldl payP l = L
  ok : ∀ p ∈ ps, pmtOk l.length p = true
  inn : ∀ j, j < l.length → left.testBit j = true → at0 L j = at0 l j
  out : ∀ j, j < l.length → left.testBit j = false → at0 L j = 0
  bd : ∀ j, j < l.length → -100000 ≤ at0 L j ∧ at0 L j ≤ 100000
  cnt : (ps.length : Int) ≤ gsz l.length (gs.take i)
structure TInv (l : List Int) (C : Int) (s : Nat) (L0 L : List Int) (ps : List Pmt) : Prop where
  fold : ps.foldl payP l = L
  ok : ∀ p ∈ ps, pmtOk l.length p = true
  z : bsum L s = 0
  bd : ∀ j, j < l.length → -100000 ≤ at0 L j ∧ at0 L j ≤ 100000
  oth : ∀ j, j < l.length → s.testBit j = false → at0 L j = at0 L0 j
  cnt1 : (ps.length : Int) ≤ C
  cnt2 : (ps.length : Int) + nzS L s - 1 ≤ C
theorem SInv.len {l : List Int} {gs : List Nat} {i left : Nat} {L : List Int} {ps : List Pmt} (h : SInv l gs i left L ps) : L.length = l.length := by rw [← h.fold, payF_len]
theorem TInv.len {l : List Int} {C : Int} {s : Nat} {L0 L : List Int} {ps : List Pmt} (h : TInv l C s L0 L ps) : L.length = l.length := by rw [← h.fold, payF_len]
theorem SInv.init {l : List Int} (h : balF l = 0) : SInv l (best l) 0 (nzm l l.length) l [] :=
  ⟨best_gl h, sub_refl _, rfl, by simp, fun _ _ _ => rfl, fun j hj hb => by rw [nzm_bit l hj] at hb; simpa [nz] using hb, fun j hj => debt_at (balF_ok h).2.2.1 hj, by simp [gsz]⟩
theorem bsum_congr {l L : List Int} (hl : L.length = l.length) {s : Nat} (h : ∀ j, j < l.length → s.testBit j = true → at0 L j = at0 l j) : bsum L s = bsum l s := by
  rw [bsum_if, bsum_if, hl]
  apply sumTo_congr
  intro j hj
  by_cases hs : s.testBit j = true
  · rw [if_pos hs, if_pos hs, h j hj hs]
  · rw [if_neg hs, if_neg hs]
theorem SInv.start {l : List Int} {gs : List Nat} {i left s : Nat} {rest : List Nat} {L : List Int} {ps : List Pmt} (h : SInv l gs i left L ps) (hd : gs.drop i = s :: rest) :
    Sub s left ∧ s ≠ 0 ∧ TInv l (gsz l.length (gs.take i) + (szS l.length s - 1)) s L L ps := by
  have hg := h.gl
  rw [hd] at hg
  cases hg with
  | cons h0 hs hf hz hr =>
    have hlb : s ≠ 0 := ne_of_bit hf
    obtain ⟨b, hb⟩ := some_bit hlb
    have hbl : b < l.length := by
      have := h.sub b (hs b hb)
      exact bit_lt (maskOf_lt _ _) this
    have h1 := szS_pos hbl hb
    have h2 := nzS_le L s
    rw [h.len] at h2
    exact ⟨hs, hlb, h.fold, h.ok, by rw [bsum_congr h.len (fun j hj hj2 => h.inn j hj (hs j hj2))]; exact hz, h.bd, fun _ _ _ => rfl, by have := h.cnt; omega, by have := h.cnt; omega⟩
theorem TInv.done {l : List Int} {gs : List Nat} {i left s : Nat} {rest : List Nat} {L0 L : List Int} {ps0 ps : List Pmt} (h0 : SInv l gs i left L0 ps0) (hi : i < gs.length) (hd : gs.drop i = s :: rest)
    (h : TInv l (gsz l.length (gs.take i) + (szS l.length s - 1)) s L0 L ps) (hz : ∀ j, j < l.length → s.testBit j = true → 0 ≤ at0 L j) : SInv l gs (i + 1) (dif left s) L ps := by
  have hg := h0.gl
  rw [hd] at hg
  have hrest : gs.drop (i + 1) = rest := by rw [← List.drop_drop, hd]; rfl
  have hsi : gs[i] = s := by
    have := List.getElem_cons_drop (h := hi)
    rw [hd] at this; injection this
  have hzero := even_zero h.z (fun j hj hs => hz j (by rw [← h.len]; exact hj) hs)
  rw [h.len] at hzero
  cases hg with
  | cons hl0 hs hf hbz hr =>
    refine ⟨by rw [hrest]; exact hr, sub_trans (dif_sub _ _) h0.sub, h.fold, h.ok, fun j hj hb => ?_, fun j hj hb => ?_, h.bd, ?_⟩
    · rw [dif_bit, Bool.and_eq_true, Bool.not_eq_true'] at hb
      rw [h.oth j hj hb.2]; exact h0.inn j hj hb.1
    · cases hsj : s.testBit j with
      | true => exact hzero j hj hsj
      | false =>
        rw [dif_bit, hsj] at hb
        rw [h.oth j hj hsj]; exact h0.out j hj (by simpa using hb)
    · rw [List.take_add_one, List.getElem?_eq_getElem hi, hsi]
      show (ps.length : Int) ≤ gsz l.length (gs.take i ++ [s])
      rw [gsz_snoc]; exact h.cnt1
theorem TInv.step {l : List Int} {C : Int} {s : Nat} {L0 L : List Int} {ps : List Pmt} (h : TInv l C s L0 L ps) {p : Pmt} (ha : 0 ≤ p.src ∧ p.src < l.length) (hd : 0 ≤ p.dst ∧ p.dst < l.length) (hsa : s.testBit p.src.toNat = true) (hsd : s.testBit p.dst.toNat = true)
    (hna : at0 L p.src.toNat < 0) (hnd : 0 < at0 L p.dst.toNat) (hx : p.amt = if at0 L p.dst.toNat < - at0 L p.src.toNat then at0 L p.dst.toNat else - at0 L p.src.toNat) :
    pmtOk L.length p = true ∧ TInv l C s L0 (payP L p) (ps ++ [p]) ∧ nzS (payP L p) s < nzS L s := by
  have hl := h.len
  obtain ⟨h1, h2, h3, h4, h5, h6⟩ := pay_step h.z (by rw [hl]; exact h.bd) (by rw [hl]; exact ha) (by rw [hl]; exact hd) hsa hsd hna hnd hx
  rw [hl] at h1 h3 h4
  have h7 := nzS_nonneg (payP L p) s
  have h8 := h.cnt2
  refine ⟨by rw [hl]; exact h1, ⟨by rw [List.foldl_append, h.fold]; rfl, fun q hq => ?_, h2, h3, fun j hj hj2 => (h4 j hj hj2).trans (h.oth j hj hj2), ?_, ?_⟩, by omega⟩
  · rcases List.mem_append.1 hq with hq | hq
    · exact h.ok q hq
    · simp at hq; subst hq; exact h1
  · simp only [List.length_append, List.length_cons, List.length_nil]; push_cast; omega
  · simp only [List.length_append, List.length_cons, List.length_nil]; push_cast; omega
theorem SInv.good {l : List Int} (hb : balF l = 0) {left : Nat} {L : List Int} {ps : List Pmt} (h : SInv l (best l) (best l).length left L ps) : GoodS l ps := by
  have hg := h.gl
  rw [List.drop_length] at hg
  have h0 : left = 0 := by cases hg; rfl
  have hc := h.cnt
  rw [List.take_length] at hc
  have hcount := (best_gl hb).count l.length
  rw [szS_nzm] at hcount
  refine ⟨?_, by omega⟩
  unfold settlesB
  rw [List.all_eq_true.2 h.ok, h.fold, Bool.true_and]
  refine all_true fun i hi => ?_
  rw [at0_get hi]
  simp only [decide_eq_true_eq]
  rw [h.len] at hi
  exact h.out i hi (by rw [h0]; simp)
theorem setL_mem {s : Nat} {x : Int} : x ∈ setL s ↔ ∃ i : Nat, i < 64 ∧ s.testBit i = true ∧ x = (i : Int) := setTo_mem s 64
end Py
end

section
/- Walk: Settle. -/
set_option linter.unusedVariables false
namespace Py
theorem szS_le (n s : Nat) : szS n s ≤ n := by
  have := sumTo_le (f := fun i => if s.testBit i = true then 1 else 0) (g := fun _ => 1) n (fun i _ => by split <;> omega)
  have h2 : ∀ n : Nat, sumTo (fun _ => 1) n = n := fun n => by
    induction n with
    | zero => rfl
    | succ n ih => simp only [sumTo, ih]; omega
  rw [h2] at this
  exact this
theorem gsz_le (n : Nat) : ∀ gs : List Nat, gsz n gs ≤ (n : Int) * gs.length
  | [] => by simp [gsz]
  | s :: gs => by
    have h1 := gsz_le n gs
    have h2 := szS_le n s
    unfold gsz at h1 ⊢
    simp only [List.map_cons, List.sum_cons, List.length_cons]
    push_cast
    rw [Int.mul_add]
    omega
end Py
namespace Go.Proofs.Yteeikpmoboehdaa
open Go Go.Vc Go.RowKit Py
theorem gr_freshR {w w1 w2 : World} {r q : Option Nat} (h : w.grownBy w1 r) (k : w1.grownBy w2 q) (hq : ∀ g, q = some g → w.heap.size ≤ g) : w.grownBy w2 r :=
  ⟨k.os.trans h.os, k.tape.trans h.tape, k.output.trans h.output, Nat.le_trans h.size k.size, fun i hi hr => (k.block i (Nat.lt_of_lt_of_le hi h.size) (fun e => by have := hq i e.symm; omega)).trans (h.block i hi hr)⟩
set_option maxHeartbeats 4000000 in
theorem Settle_go (l : List Int) (A : Option Addr) (c : Nat) (w : World) (hA : Rd dI w A c l) :
    Calls Try.prog 31 #[.slice A l.length c] w fun e w' => ∃ ps X x, e = .returned (.tuple #[.slice X ps.length x, .int .i64 (balF l)]) ∧ Vc.Own dPmt 91 w' w.heap.size no X x ps ∧ w.grownBy w' none ∧ (balF l ≠ 0 → ps = []) ∧ (balF l = 0 → GoodS l ps) := by
  refine calls (G := G) (args := [.slice A l.length c]) Try.func31 rfl rfl rfl ?_
  refine M.run rfl <| M.cl rfl (checkBalances_go l A c w hA) ?_
  rintro e w1 ⟨rfl, e1⟩
  refine ⟨_, rfl, M.run rfl <| M.cond rfl (fun h => ?_) (fun h => ?_)⟩
  · have hz : ¬ balF l = 0 := by simpa using h
    exact M.run rfl (M.retF rfl rfl ⟨[], none, 0, rfl, Vc.Own.nil _ _ _ _ _, e1, fun _ => rfl, fun h => absurd h hz⟩)
  have hz : balF l = 0 := by simpa using h
  obtain ⟨h7, hl0, hdb, hsum⟩ := balF_ok hz
  refine M.run rfl <| M.cl rfl (Clone_go l A c w1 (hA.mv e1) (by omega)) ?_
  rintro e w2 ⟨X, x, rfl, hX, e2⟩
  have e02 := gr_trans e1 e2
  refine ⟨_, rfl, M.run rfl <| M.nw rfl fun gB w3 b3 e3 l3 => M.run rfl <| M.store rfl rfl b3 rfl rfl fun w4 b4 e4 => ?_⟩
  have e24 := gr_fresh e3 e4 l3
  have e04 := gr_trans e02 e24
  refine M.run rfl <| M.cl rfl (groups_go l A c w4 (hA.mv e04) h7 hdb) ?_
  rintro e w5 ⟨Y, y, rfl, hY, e5⟩
  have e05 := gr_trans e04 e5
  have hX5 := (hX.mv0 e24).mv0 e5
  have b5 := b4.mv0 e5
  have hnl := natL_len (best l)
  have hbl : (best l).length ≤ 128 := by
    have := grp_len l (nzm l l.length); have := nzm_lt l h7; unfold best; omega
  obtain ⟨g, cur0, rfl, hg0, bX0, _⟩ := own_int hX5 hl0
  have hg4 : g < w4.heap.size := by have := (hX.mv0 e24).blkGe g rfl; exact this.2
  have hgw : w.heap.size ≤ g := Nat.le_trans e1.size hg0
  refine ⟨_, rfl, M.run rfl <| M.loop (σ := Nat × Nat × List Int × List Pmt × Option Addr × Nat) (fun (i, left, L, ps, Z, z) => [(5, .pointer (some ⟨gB, 0, none⟩)), (6, .slice Z ps.length z), (21, .slice Y (natL (best l)).length y), (22, .int .i64 ((natL (best l)).length : Int)), (23, .int .i64 (i : Int))])
    (fun (i, left, L, ps, Z, z) w' => i ≤ (best l).length ∧ w.grownBy w' none ∧ w5.grownBy w' (some g) ∧ Blk w' gB [.slice (some ⟨g, 0, none⟩) l.length x] 25 ∧ Vc.Own dI 3 w' w1.heap.size no (some ⟨g, 0, none⟩) x L ∧ Vc.Own dPmt 91 w' w5.heap.size no Z z ps ∧ SInv l (best l) i left L ps)
    (fun (i, _) => (best l).length - i) (0, nzm l l.length, l, [], none, 0) ⟨rfl, rfl, rfl, rfl, rfl, trivial⟩ ⟨Nat.zero_le _, e05, gr_weak (gr_refl _ _), b5, hX5, Vc.Own.nil _ _ _ _ _, SInv.init hz⟩ ?_⟩
  rintro ⟨i, left, L0, ps0, Z0, z0⟩ w6 ⟨hi, e6, e56, b6, hX6, hZ6, hS⟩
  refine M.run rfl <| M.cond rfl (fun h => ?_) (fun h => ?_)
  rotate_left
  · have hin : i = (best l).length := by have := of_decide_eq_false h; omega
    subst hin
    refine M.run rfl (M.retF rfl rfl ⟨ps0, Z0, z0, ?_, hZ6.weaken e05.size (fun _ h => h), e6, fun h => absurd hz h, fun _ => hS.good hz⟩)
    rw [hz]; rfl
  have hlt : i < (best l).length := by have := of_decide_eq_true h; omega
  have hlt' : i < (natL (best l)).length := by omega
  have hY6 : Sl dU w6 (fun b => w4.heap.size ≤ b ∧ b < w5.heap.size) Y y (natL (best l)) := hY.move (fun b hb => e56.block b hb.2 (fun he => by injection he with he; omega))
  obtain ⟨hY1, hYc⟩ := rd_flat (hY6.mono (fun b hb => Nat.lt_of_lt_of_le hb.2 e56.size)) hlt'
  have hel : (natL (best l))[i] = (((best l)[i] : Nat) : Int) := by simp [natL]
  rw [hel] at hYc
  have hs128 := best_lt hz (List.getElem_mem hlt)
  have hdrop : (best l).drop i = (best l)[i] :: (best l).drop (i + 1) := (List.getElem_cons_drop (h := hlt)).symm
  generalize hsg : (best l)[i] = s at *
  obtain ⟨hsl, hs0, hT0⟩ := hS.start hdrop
  have hsn : ∀ j, s.testBit j = true → j < l.length := fun j hj => bit_lt (maskOf_lt _ _) (hS.sub j (hsl j hj))
  refine M.run rfl <| M.ix rfl (by omega) (by omega) hY1 <| M.run rfl <| M.ld rfl ((hYc w6 (gr_below (gr_refl _ _))).one 0 rfl rfl) <| M.run rfl <| M.scope (fun _ _ _ h => h) <| M.run rfl <| M.cl rfl (setList_go s (by omega) w6) ?_
  rintro e w7 ⟨W, wc, rfl, hW, e7⟩
  have hmem : ∀ v ∈ setL s, 0 ≤ v ∧ v < l.length ∧ s.testBit v.toNat = true := fun v hv => by
    obtain ⟨j, hj, hb, rfl⟩ := setL_mem.1 hv
    have := hsn j hb
    exact ⟨by omega, by omega, hb⟩
  have hgl : ((setL s).length : Int) ≤ 9223372036854775807 := (hW.rd (by decide)).bd
  generalize hgll : setL s = gl at *
  have hg6 : g < w6.heap.size := (hX6.blkGe g rfl).2
  refine ⟨_, rfl, M.run rfl <| M.label <| M.run rfl <| M.loop (σ := List Int × List Pmt × Option Addr × Nat) (fun (L, ps, Z, z) => [(5, .pointer (some ⟨gB, 0, none⟩)), (6, .slice Z ps.length z), (9, .slice W gl.length wc), (21, .slice Y (natL (best l)).length y), (22, .int .i64 ((natL (best l)).length : Int)), (23, .int .i64 (i : Int))])
    (fun (L, ps, Z, z) w' => w.grownBy w' none ∧ w5.grownBy w' (some g) ∧ Blk w' gB [.slice (some ⟨g, 0, none⟩) l.length x] 25 ∧ Vc.Own dI 3 w' w1.heap.size no (some ⟨g, 0, none⟩) x L ∧ Vc.Own dPmt 91 w' w5.heap.size no Z z ps ∧ Vc.Own dI 3 w' w6.heap.size no W wc gl ∧ TInv l (gsz l.length ((best l).take i) + (szS l.length s - 1)) s L0 L ps)
    (fun (L, _) => (nzS L s).toNat) (L0, ps0, Z0, z0) ⟨rfl, rfl, rfl, rfl, rfl, rfl, trivial⟩ ⟨gr_trans e6 e7, gr_transR e56 (gr_weak e7), b6.mv0 e7, hX6.mv0 e7, hZ6.mv0 e7, hW, hT0⟩ ?_⟩
  rintro ⟨L, ps, Z, z⟩ w8 ⟨e8, e58, b8, hX8, hZ8, hW8, hT⟩
  have hLl := hT.len
  have b8' : Blk w8 gB [.slice (some ⟨g, 0, none⟩) L.length x] 25 := by rw [hLl]; exact b8
  refine M.run rfl <| M.cl rfl (IndexFuncX_go gl (.func (.func 68) #[] #[.pointer (some ⟨gB, 0, none⟩)]) (fun v => decide (at0 L v.toNat < 0)) W wc w8 (hW8.rd (by decide)) ⟨68, [], [.pointer (some ⟨gB, 0, none⟩)], rfl, fun w' gw v hv => owes_go L gB (some ⟨g, 0, none⟩) x w' (b8'.mv0 gw) ((hX8.mv0 gw).rd (by decide)) v (hmem v hv).1 (by rw [hLl]; exact (hmem v hv).2.1)⟩) ?_
  rintro e w9 ⟨rfl, e9⟩
  rcases firstI_spec (fun v => decide (at0 L v.toNat < 0)) gl with ⟨hf, hnone⟩ | ⟨i0, hi0, hf, hneg⟩
  · refine ⟨_, rfl, M.run rfl <| M.condT rfl (decide_eq_true hf) ?_⟩
    have hS' := TInv.done (rest := (best l).drop (i + 1)) hS hlt hdrop hT (fun j hj hb => by
      have := hnone ((j : Nat) : Int) (by rw [← hgll]; exact setL_mem.2 ⟨j, by omega, hb, rfl⟩)
      simp only [decide_eq_false_iff_not, Int.toNat_natCast] at this
      omega)
    refine M.run rfl <| M.end_ ⟨(i + 1, dif left s, L, ps, Z, z), ⟨rfl, rfl, rfl, rfl, nxt hlt (by omega), trivial⟩, ⟨by omega, gr_trans e8 e9, ?_, b8.mv0 e9, hX8.mv0 e9, hZ8.mv0 e9, hS'⟩, by simp; omega⟩
    exact gr_transR e58 (gr_weak e9)
  rw [hf]
  have hma := hmem gl[i0] (List.getElem_mem hi0)
  have hnega := of_decide_eq_true hneg
  refine ⟨_, rfl, M.run rfl <| M.condF rfl (by simp) <| M.run rfl <| M.cl rfl (IndexFuncX_go gl (.func (.func 69) #[] #[.pointer (some ⟨gB, 0, none⟩)]) (fun v => decide (at0 L v.toNat > 0)) W wc w9 ((hW8.mv0 e9).rd (by decide)) ⟨69, [], [.pointer (some ⟨gB, 0, none⟩)], rfl, fun w' gw v hv => gets_go L gB (some ⟨g, 0, none⟩) x w' ((b8'.mv0 e9).mv0 gw) (((hX8.mv0 e9).mv0 gw).rd (by decide)) v (hmem v hv).1 (by rw [hLl]; exact (hmem v hv).2.1)⟩) ?_⟩
  rintro e w10 ⟨rfl, e10⟩
  rcases firstI_spec (fun v => decide (at0 L v.toNat > 0)) gl with ⟨hf2, hnone⟩ | ⟨i1, hi1, hf2, hposd⟩
  · exfalso
    obtain ⟨j, hj, hb, hp⟩ := some_gets hT.z (a := gl[i0].toNat) (by omega) hma.2.2 hnega
    have := hnone ((j : Nat) : Int) (by rw [← hgll]; exact setL_mem.2 ⟨j, by omega, hb, rfl⟩)
    simp only [decide_eq_false_iff_not, Int.toNat_natCast] at this
    exact this hp
  rw [hf2]
  have hmb := hmem gl[i1] (List.getElem_mem hi1)
  have hposb := of_decide_eq_true hposd
  have e810 := gr_trans e9 e10
  have hW10 := hW8.mv0 e810
  have hX10 := hX8.mv0 e810
  have hZ10 := hZ8.mv0 e810
  have b10 := b8.mv0 e810
  have e010 := gr_trans e8 e810
  obtain ⟨hW1, hWc⟩ := rd_flat (hW10.rd (by decide)) hi0
  obtain ⟨_, hWd⟩ := rd_flat (hW10.rd (by decide)) hi1
  generalize hga : gl[i0] = a at *
  generalize hgb : gl[i1] = b at *
  have ha : a.toNat < L.length := by omega
  have hb : b.toNat < L.length := by omega
  have hba := hT.bd a.toNat (by omega)
  have hbb := hT.bd b.toNat (by omega)
  refine ⟨_, rfl, M.run rfl <| M.drawG [27] (by kernel_rfl) fun w11 e11 => ?_⟩
  have hca := fun w' (hw : w11.grownBy w' none) => own_cell hX10 ha rfl (gr_trans e11 hw) (r := none) (by simp)
  have hcb := fun w' (hw : w11.grownBy w' none) => own_cell hX10 hb rfl (gr_trans e11 hw) (r := none) (by simp)
  rw [at0_get ha] at hca
  rw [at0_get hb] at hcb
  refine D.run rfl <| D.ys 2 rfl rfl rfl (YS.ix rfl (by omega) (by omega) hW1) <| D.ld 3 rfl rfl rfl rfl (v := .int .i64 a) (fun w' hw => (hWc w' (gr_below (gr_trans e11 hw))).one 0 rfl rfl) <|
    D.ys 6 rfl rfl rfl (YS.ix rfl (by omega) (by omega) hW1) <| D.ld 7 rfl rfl rfl rfl (v := .int .i64 b) (fun w' hw => (hWd w' (gr_below (gr_trans e11 hw))).one 0 rfl rfl) <| D.ld 8 rfl rfl rfl rfl (fun w' hw => ((b10.mv0 e11).mv0 hw).cell rfl rfl) <|
    D.ys 11 rfl rfl rfl (YS.ix rfl (by omega) (by omega) hW1) <| D.ld 12 rfl rfl rfl rfl (v := .int .i64 a) (fun w' hw => (hWc w' (gr_below (gr_trans e11 hw))).one 0 rfl rfl) <| D.ys 13 rfl rfl rfl (YS.ix rfl (by omega) (by omega) rfl) <|
    D.ld 14 rfl rfl rfl rfl (v := .int .i64 (at0 L a.toNat)) (fun w' hw => by rw [ad1]; exact hca w' hw) <| D.run rfl ?_
  rw [w64 (x := 0 - at0 L a.toNat) (by omega) (by omega)]
  refine D.ld 16 rfl rfl rfl rfl (fun w' hw => ((b10.mv0 e11).mv0 hw).cell rfl rfl) <| D.ys 19 rfl rfl rfl (YS.ix rfl (by omega) (by omega) hW1) <| D.ld 20 rfl rfl rfl rfl (v := .int .i64 b) (fun w' hw => (hWd w' (gr_below (gr_trans e11 hw))).one 0 rfl rfl) <|
    D.ys 21 rfl rfl rfl (YS.ix rfl (by omega) (by omega) rfl) <| D.ld 22 rfl rfl rfl rfl (v := .int .i64 (at0 L b.toNat)) (fun w' hw => by rw [ad1]; exact hcb w' hw) ?_
  generalize hamt : min2 (0 - at0 L a.toNat) (at0 L b.toNat) = amt
  refine D.meet (σ := Nat) 1 [26, 25, 24, 23, 22, 21, 20, 19, 18, 17, 16, 15, 14, 13, 12, 11, 10, 9, 8, 7, 6, 5, 4, 3, 2, 1, 0]
    (fun gp => [(5, .pointer (some ⟨gB, 0, none⟩)), (6, .slice Z ps.length z), (9, .slice W gl.length wc), (12, .pointer (some ⟨gp, 0, none⟩)), (21, .slice Y (natL (best l)).length y), (22, .int .i64 ((natL (best l)).length : Int)), (23, .int .i64 (i : Int)), (62, .agg #[.int .i64 a, .int .i64 b, .int .i64 amt])])
    (fun gp w' => w11.grownBy w' none ∧ Blk w' gp [.int .i64 0, .int .i64 0, .int .i64 0] 91 ∧ w11.heap.size ≤ gp) (fun hcont => ?_) ?_
  · have hsm := fun (w' : World) (gq : Nat) (bq : Blk w' gq [.int .i64 (0 - at0 L a.toNat), .int .i64 (at0 L b.toNat)] 3) => smallest_go (0 - at0 L a.toNat) (at0 L b.toNat) (some ⟨gq, 0, none⟩) 2 w' (rd_lit bq [_, _] rfl (by simp [maxLen]))
    rw [hamt] at hsm
    refine D.two 23 26 rfl rfl rfl ?_ ?_
    · refine M.bs rfl fun gq w12 bq e12 lq => M.run rfl <| M.end_ ⟨.inr e12, D.two 24 26 rfl rfl rfl ?_ ?_⟩
      · refine M.cl rfl (hsm w12 gq bq) ?_
        rintro e w13 ⟨rfl, e13⟩
        refine ⟨_, rfl, M.run rfl <| M.end_ ⟨.inr e13, D.run rfl <| D.one 26 rfl rfl <| M.nw rfl fun gp w14 bp e14 lp => M.run rfl <| M.end_ ⟨.inr e14, D.weak rfl ?_ (hcont gp w14 ⟨gr_trans (gr_trans e12 e13) e14, bp, Nat.le_trans (gr_trans e12 e13).size lp⟩)⟩⟩⟩
        exact ⟨rfl, rfl, rfl, rfl, rfl, rfl, rfl, rfl, trivial⟩
      · refine M.nw rfl fun gp w13 bp e13 lp => M.run rfl <| M.end_ ⟨.inr e13, D.one 24 rfl rfl <| M.cl rfl (hsm w13 gq (bq.mv0 e13)) ?_⟩
        rintro e w14 ⟨rfl, e14⟩
        refine ⟨_, rfl, M.run rfl <| M.end_ ⟨.inr e14, D.run rfl <| D.weak rfl ?_ (hcont gp w14 ⟨gr_trans (gr_trans e12 e13) e14, bp.mv0 e14, Nat.le_trans e12.size lp⟩)⟩⟩
        exact ⟨rfl, rfl, rfl, rfl, rfl, rfl, rfl, rfl, trivial⟩
    · refine M.nw rfl fun gp w12 bp e12 lp => M.run rfl <| M.end_ ⟨.inr e12, D.one 23 rfl rfl <| M.bs rfl fun gq w13 bq e13 lq => M.run rfl <| M.end_ ⟨.inr e13, D.one 24 rfl rfl <| M.cl rfl (hsm w13 gq bq) ?_⟩⟩
      rintro e w14 ⟨rfl, e14⟩
      refine ⟨_, rfl, M.run rfl <| M.end_ ⟨.inr e14, D.run rfl <| D.weak rfl ?_ (hcont gp w14 ⟨gr_trans (gr_trans e12 e13) e14, (bp.mv0 e13).mv0 e14, lp⟩)⟩⟩
      exact ⟨rfl, rfl, rfl, rfl, rfl, rfl, rfl, rfl, trivial⟩
  rintro gp w12 ⟨e12, bp, lp⟩
  refine D.one 27 rfl rfl <| M.store rfl rfl bp rfl rfl fun w13 b13 e13 => M.run rfl <| M.end_ ⟨.inl ⟨rfl, trivial⟩, D.done_ rfl ?_⟩
  replace b13 : Blk w13 gp (encPmt ⟨a, b, amt⟩) 91 := b13
  have e813 : w8.grownBy w13 none := gr_fresh (gr_trans e810 (gr_trans e11 e12)) e13 (Nat.le_trans (gr_trans e810 e11).size lp)
  obtain ⟨hok, hT', hnz⟩ := hT.step (p := ⟨a, b, amt⟩) ⟨hma.1, hma.2.1⟩ ⟨hmb.1, hmb.2.1⟩ hma.2.2 hmb.2.2 hnega hposb (by rw [← hamt]; unfold min2; rw [Int.zero_sub])
  have hnn := nzS_nonneg (payP L ⟨a, b, amt⟩) s
  obtain ⟨_, _, hne, ham1, ham2⟩ := pmtOk_iff.1 hok
  simp only at hne ham1 ham2
  have hX13 := hX8.mv0 e813
  have hZ13 := hZ8.mv0 e813
  have hW13 := hW8.mv0 e813
  have bB13 := b8.mv0 e813
  obtain ⟨g', cur, hgg, _, bX, hlX, hcX, hset⟩ := own_int hX13 ha
  injection hgg with hgg; injection hgg with hgg; subst hgg
  have hgB : g ≠ gB := (bX.ne bB13 (by decide))
  have hgp : g ≠ gp := (bX.ne b13 (by decide))
  refine M.run rfl <| M.drawG [9] (by kernel_rfl) fun w14 e14 => ?_
  refine D.run rfl <| D.ld 0 rfl rfl rfl rfl (fun w' hw => ((bB13.mv0 e14).mv0 hw).cell rfl rfl) <| D.ld 2 rfl rfl rfl rfl (v := .int .i64 a) (fun w' hw => ((b13.mv0 e14).mv0 hw).cellsAll.one 0 rfl rfl) <| D.ys 3 rfl rfl rfl (YS.ix rfl (by omega) (by omega) rfl) <|
    D.ld 4 rfl rfl rfl rfl (v := .int .i64 (at0 L a.toNat)) (fun w' hw => by rw [ad1, ← at0_get ha]; exact own_cell hX13 ha rfl (gr_trans e14 hw) (by simp)) <| D.ld 6 rfl rfl rfl rfl (v := .int .i64 amt) (fun w' hw => ((b13.mv0 e14).mv0 hw).cellsAll.one 2 rfl rfl) <| D.run rfl ?_
  have hsum := payP_at (l := L) (p := ⟨a, b, amt⟩) (by rw [hLl] at hok ⊢; exact hok) ha
  have hbd1 := hT'.bd a.toNat (by omega)
  rw [hsum, if_pos rfl, if_neg (by show a.toNat ≠ b.toNat; omega)] at hbd1
  simp only at hbd1
  rw [w64 (x := at0 L a.toNat + amt) (by omega) (by omega)]
  refine D.ys 8 rfl rfl rfl (YS.ix rfl (by omega) (by omega) rfl) <| D.one 9 rfl rfl <| M.storeA (cs := cur) (off := a.toNat) (vs := [.int .i64 (at0 L a.toNat + amt)]) rfl rfl (by rw [ad1]) (bX.mv0 e14) (by simp; omega) rfl fun w15 b15 e15 => M.run rfl <| M.end_ ⟨.inl ⟨rfl, trivial⟩, D.done_ rfl ?_⟩
  have hX15 := hset _ w15 b15
  have hZ15 : Vc.Own dPmt 91 w15 w5.heap.size no Z z ps := (hZ13.mv0 e14).mvN (B := some ⟨g, 0, none⟩) e15 ((hZ13.mv0 e14).ne_tag (hX13.mv0 e14) (by decide))
  have hW15 : Vc.Own dI 3 w15 w6.heap.size no W wc gl := (hW13.mv0 e14).mvOld e15 hg6
  have bB15 := (bB13.mv0 e14).mv1 e15 hgB
  have bp15 := (b13.mv0 e14).mv1 e15 hgp
  have hb' : b.toNat < (L.set a.toNat (at0 L a.toNat + amt)).length := by simpa using hb
  have hs2 : at0 (L.set a.toNat (at0 L a.toNat + amt)) b.toNat = at0 L b.toNat := by rw [at0_set ha, if_neg (by omega)]
  obtain ⟨g', cur', hgg, _, bX', hlX', hcX', hset'⟩ := own_int hX15 hb'
  injection hgg with hgg; injection hgg with hgg; subst hgg
  refine M.run rfl <| M.drawG [9] (by kernel_rfl) fun w16 e16 => ?_
  refine D.run rfl <| D.ld 0 rfl rfl rfl rfl (fun w' hw => ((bB15.mv0 e16).mv0 hw).cell rfl rfl) <| D.ld 2 rfl rfl rfl rfl (v := .int .i64 b) (fun w' hw => ((bp15.mv0 e16).mv0 hw).cellsAll.one 1 rfl rfl) <| D.ys 3 rfl rfl rfl (YS.ix rfl (by omega) (by omega) rfl) <|
    D.ld 4 rfl rfl rfl rfl (v := .int .i64 (at0 L b.toNat)) (fun w' hw => by rw [ad1, ← hs2, ← at0_get hb']; exact own_cell hX15 hb' rfl (gr_trans e16 hw) (by simp)) <| D.ld 6 rfl rfl rfl rfl (v := .int .i64 amt) (fun w' hw => ((bp15.mv0 e16).mv0 hw).cellsAll.one 2 rfl rfl) <| D.run rfl ?_
  rw [w64 (x := at0 L b.toNat - amt) (by omega) (by omega)]
  refine D.ys 8 rfl rfl rfl (YS.ix rfl (by omega) (by omega) rfl) <| D.one 9 rfl rfl <| M.storeA (cs := cur') (off := b.toNat) (vs := [.int .i64 (at0 L b.toNat - amt)]) rfl rfl (by rw [ad1]) (bX'.mv0 e16) (by simp; omega) rfl fun w17 b17 e17 => M.run rfl <| M.end_ ⟨.inl ⟨rfl, trivial⟩, D.done_ rfl ?_⟩
  have hX17 : Vc.Own dI 3 w17 w1.heap.size no (some ⟨g, 0, none⟩) x (payP L ⟨a, b, amt⟩) := by
    have := hset' _ w17 b17
    unfold payP
    rw [hs2]
    exact this
  have hZ17 : Vc.Own dPmt 91 w17 w5.heap.size no Z z ps := (hZ15.mv0 e16).mvN (B := some ⟨g, 0, none⟩) e17 ((hZ15.mv0 e16).ne_tag (hX15.mv0 e16) (by decide))
  have hW17 : Vc.Own dI 3 w17 w6.heap.size no W wc gl := (hW15.mv0 e16).mvOld e17 hg6
  have bB17 := (bB15.mv0 e16).mv1 e17 hgB
  have bp17 := (bp15.mv0 e16).mv1 e17 hgp
  have e1317 : w13.grownBy w17 (some g) := gr_transR (gr_transR (gr_weak e14) e15) (gr_transR (gr_weak e16) e17)
  have e817 : w8.grownBy w17 (some g) := gr_transR (gr_weak e813) e1317
  have e017 : w.grownBy w17 none := gr_fresh (gr_trans (gr_fresh (gr_trans (gr_trans e8 e813) e14) e15 hgw) e16) e17 hgw
  have hcnt := hT.cnt1
  have hgz := gsz_le l.length ((best l).take i)
  have hsz := szS_le l.length s
  have hmul : (l.length : Int) * ((best l).take i).length ≤ 7 * 128 := Int.mul_le_mul (by omega) (by rw [List.length_take]; omega) (by omega) (by omega)
  refine M.run rfl <| M.ldA rfl rfl bp17.cellsAll <| M.bs rfl fun gq w18 bq e18 lq => M.run rfl ?_
  have hZ18 := hZ17.mv0 e18
  refine M.app (d := dPmt) rfl rfl hZ18 rfl (by decide) rfl (ys := [⟨a, b, amt⟩]) rfl rfl (src_one bq rfl) (gr_transR (gr_transR e58 e817) (gr_weak e18)).size (by simp only [List.length_cons, List.length_nil]; omega) (by decide) fun Z' z' w19 hZ19 e19 hat => ?_
  have e019 := hZ18.gr (gr_trans e017 e18) e19 e05.size
  have hX18 := hX17.mv0 e18
  have hW18 := hW17.mv0 e18
  have bB18 := bB17.mv0 e18
  have nX := (hZ18.ne_tag hX18 (by decide)).symm
  have nW := (hZ18.ne_tag hW18 (by decide)).symm
  have hZg := hZ18.blkGe
  have bB19 : Blk w19 gB [.slice (some ⟨g, 0, none⟩) l.length x] 25 := by
    refine bB18.mv e19 (fun he => ?_)
    rcases hZ18 with ⟨rfl, _, _⟩ | ⟨gz, cz, rfl, _, hb, _⟩
    · cases he
    · injection he with he
      simp only at he
      exact hb.ne bB18 (by decide) he
  refine M.run rfl <| M.end_ ⟨(payP L ⟨a, b, amt⟩, ps ++ [⟨a, b, amt⟩], Z', z'), ⟨rfl, rfl, rfl, rfl, rfl, rfl, trivial⟩, ⟨e019, ?_, bB19, hX18.mvN e19 nX, hZ19, hW18.mvN e19 nW, hT'⟩, by show (nzS (payP L ⟨a, b, amt⟩) s).toNat < (nzS L s).toNat; omega⟩
  exact gr_freshR (gr_transR (gr_transR e58 e817) (gr_weak e18)) e19 (fun k hk => (hZg k hk).1)
end Go.Proofs.Yteeikpmoboehdaa
end

section
/- Walks: the document's account; the document's examples. -/
set_option linter.unusedVariables false
namespace Py
def twoA : Acc := ⟨4, 3, 10, [⟨0, 10, 14, [1, 2, 3]⟩, ⟨3, 7, 7, [2]⟩]⟩
def owedL : List Int := [-30, 12, 30, -12]
theorem ex_shares : sharesE twoA 0 14 = 0 ∧ sharesR twoA 0 14 = [16, 13, 13] := by decide +kernel
theorem ex_words : wordsE twoA 0 2 10 = 0 ∧ wordsR twoA 0 2 10 = [11] := by decide +kernel
theorem ex_balance : balanceE twoA [10, 7] = 0 ∧ balanceR twoA [10, 7] = [-30, 12, 30, -12] := by decide +kernel
theorem ex_bounds : fault twoA = 0 ∧ (boundsR twoA).map (fun x => (x.lo, x.hi)) = [(-42, -30), (12, 16), (30, 34), (-12, -8)] := by decide +kernel
theorem rng_ext : ∀ (xs : List Rng) (ys : List (Int × Int)), xs.map (fun x => (x.lo, x.hi)) = ys → xs = ys.map fun y => ⟨y.1, y.2⟩
  | [], ys, h => by subst h; rfl
  | x :: xs, ys, h => by subst h; simp [Function.comp_def]
theorem ex_bounds2 : boundsR twoA = [⟨-42, -30⟩, ⟨12, 16⟩, ⟨30, 34⟩, ⟨-12, -8⟩] := rng_ext _ _ ex_bounds.2
theorem ex_groups : balF owedL = 0 ∧ groupsR owedL = [[0, 2], [1, 3]] := by decide +kernel
theorem ex_best : (best owedL).length = 2 ∧ zeros owedL = 0 := by decide +kernel
theorem settles_of : ∀ (ps : List Pmt) (l : List Int), (∀ p ∈ ps, pmtOk l.length p = true) → (∀ x ∈ ps.foldl payP l, x = 0) → Settles l ps.length
  | [], l, _, h => .nil fun i hi => by rw [← at0_get hi]; exact h _ (List.getElem_mem hi)
  | p :: ps, l, h, h2 => by
    have hp := h p List.mem_cons_self
    obtain ⟨h3, h4, _⟩ := pmtOk_iff.1 hp
    exact .cons (by omega) (by omega) ⟨payP_len l p, fun i hi => payP_at hp hi⟩ (settles_of ps (payP l p) (fun q hq => by rw [payP_len]; exact h q (List.mem_cons_of_mem _ hq)) h2)
theorem settlesB_of {l : List Int} {ps : List Pmt} (h : settlesB l ps = true) : Settles l ps.length := by
  unfold settlesB at h
  rw [Bool.and_eq_true] at h
  exact settles_of ps l (List.all_eq_true.1 h.1) (fun x hx => by simpa using List.all_eq_true.1 h.2 x hx)
theorem settlesB_low {l : List Int} (hb : balF l = 0) {ps : List Pmt} (h : settlesB l ps = true) : (l.length : Int) ≤ (best l).length + zeros l + ps.length := fewest_low (by have := (balF_ok hb).1; omega) (settlesB_of h)
theorem GoodS.len {l : List Int} (hb : balF l = 0) {ps : List Pmt} (h : GoodS l ps) : (ps.length : Int) = l.length - zeros l - (best l).length := by
  have := settlesB_low hb h.1
  have := h.2
  omega
end Py
namespace Go.Proofs.Yteeikpmoboehdaa
open Go Go.Vc Go.RowKit Py
/-- two dispatches in a block -/
theorem rd_dsp2 {w : World} {g e : Nat} {d0 d1 : Dsp} {P0 P1 : Option Addr} {c0 c1 : Nat} (hB : Blk w g (encDsp d0 P0 c0 ++ encDsp d1 P1 c1) e) (h0 : Rd dI w P0 c0 d0.passed) (h1 : Rd dI w P1 c1 d1.passed) : Rd dDsp w (some ⟨g, 0, none⟩) 2 [d0, d1] := by
  refine ⟨by simp, by simp [maxLen], fun j x hj => ?_⟩
  rcases j with _ | _ | j
  · simp at hj; subst hj
    exact ⟨rfl, hB.lt, _, ⟨P0, c0, rfl, h0⟩, hB.cells 0 rfl ⟨_, rfl⟩⟩
  · simp at hj; subst hj
    exact ⟨rfl, hB.lt, _, ⟨P1, c1, rfl, h1⟩, hB.cells 4 rfl ⟨[], rfl⟩⟩
  · simp at hj
structure TwoAt (w w' : World) (g g1 g2 : Nat) : Prop where
  b : Blk w' g (encDsp ⟨0, 10, 14, [1, 2, 3]⟩ (some ⟨g1, 0, none⟩) 3 ++ encDsp ⟨3, 7, 7, [2]⟩ (some ⟨g2, 0, none⟩) 1) 93
  b1 : Blk w' g1 [.int .i64 1, .int .i64 2, .int .i64 3] 3
  b2 : Blk w' g2 [.int .i64 2] 3
  l : w.heap.size ≤ g
  l1 : w.heap.size ≤ g1
  l2 : w.heap.size ≤ g2
theorem TwoAt.rd {w w' : World} {g g1 g2 : Nat} (h : TwoAt w w' g g1 g2) : Rd dDsp w' (some ⟨g, 0, none⟩) 2 twoA.ds :=
  rd_dsp2 h.b (rd_lit h.b1 [1, 2, 3] rfl (by simp [maxLen])) (rd_lit h.b2 [2] rfl (by simp [maxLen]))
theorem two_go (w : World) : Calls Try.prog 50 #[] w fun e w' => ∃ g g1 g2, e = .returned (vAcc twoA (some ⟨g, 0, none⟩) 2) ∧ TwoAt w w' g g1 g2 ∧ w.grownBy w' none := by
  refine calls (G := G) (args := []) Try.func50 rfl rfl rfl ?_
  refine M.run rfl <| M.nw rfl fun g0 w1 b0 e1 l1 => M.run rfl <| M.cl rfl (between_go 10 14 w1) ?_
  rintro e w2 ⟨rfl, e2⟩
  refine ⟨_, rfl, M.run rfl <| M.bs rfl fun g1 w3 b3 e3 l3 => M.run rfl <| M.cl rfl (between_go 7 7 w3) ?_⟩
  rintro e w4 ⟨rfl, e4⟩
  refine ⟨_, rfl, M.run rfl <| M.bs rfl fun g2 w5 b5 e5 l5 => M.run rfl <| M.bs rfl fun g w6 b6 e6 l6 => M.run rfl <| M.store rfl rfl ((((((b0.mv0 e2).mv0 e3).mv0 e4).mv0 e5).mv0 e6)) rfl rfl fun w7 b7 e7 => M.run rfl ?_⟩
  have e06 := gr_trans (gr_trans (gr_trans (gr_trans (gr_trans e1 e2) e3) e4) e5) e6
  have n1 : g0 ≠ g1 := (((b0.mv0 e2).mv0 e3).ne b3 (by decide))
  have n2 : g0 ≠ g2 := (((((b0.mv0 e2).mv0 e3).mv0 e4).mv0 e5).ne b5 (by decide))
  have n3 : g0 ≠ g := ((((((b0.mv0 e2).mv0 e3).mv0 e4).mv0 e5).mv0 e6).ne b6 (by decide))
  have s1 : w.heap.size ≤ w2.heap.size := (gr_trans e1 e2).size
  have s2 : w.heap.size ≤ w4.heap.size := (gr_trans (gr_trans (gr_trans e1 e2) e3) e4).size
  have s3 : w.heap.size ≤ w5.heap.size := Nat.le_trans s2 e5.size
  exact M.retC (.cellA rfl rfl rfl rfl (b7.cells 0 rfl ⟨[], rfl⟩ : Cells _ _ [_, _, _, _]) .nil) ⟨g, g1, g2, rfl, ⟨b6.mv1 e7 n3, ((((b3.mv0 e4).mv0 e5).mv0 e6)).mv1 e7 n1, (b5.mv0 e6).mv1 e7 n2, Nat.le_trans s3 l6, Nat.le_trans s1 l3, Nat.le_trans s2 l5⟩, gr_fresh e06 e7 l1⟩
theorem rd_two (w : World) (g e : Nat) (a b : Int) (h : Blk w g [.int .i64 a, .int .i64 b] e) : Rd dI w (some ⟨g, 0, none⟩) 2 [a, b] := rd_lit h [a, b] rfl (by simp [maxLen])
set_option maxHeartbeats 4000000 in
set_option maxRecDepth 100000 in
theorem awake_go (w : World) : Calls Try.prog 17 #[] w fun e w' => e = .returned (.bool true) ∧ w.grownBy w' none := by
  refine calls (G := G) (args := []) Try.func17 rfl rfl rfl ?_
  refine M.run rfl <| M.cl rfl (two_go w) ?_
  rintro e w1 ⟨ga, _, _, rfl, ta, e1⟩
  have hc := Shares_go twoA 0 14 (some ⟨ga, 0, none⟩) 2 w1 ta.rd
  rw [ex_shares.1, ex_shares.2] at hc
  refine ⟨_, rfl, M.run rfl <| M.cl rfl hc ?_⟩
  rintro e w2 ⟨S, s, rfl, hS, e2⟩
  refine ⟨_, rfl, M.run rfl <| M.cl rfl (two_go w2) ?_⟩
  rintro e w3 ⟨gb, _, _, rfl, tb, e3⟩
  have hc := Bounds_go twoA (some ⟨gb, 0, none⟩) 2 w3 tb.rd
  rw [ex_bounds.1, ex_bounds2] at hc
  refine ⟨_, rfl, M.run rfl <| M.cl rfl hc ?_⟩
  rintro e w4 ⟨B, b, rfl, hB, e4⟩
  refine ⟨_, rfl, M.run rfl <| M.cl rfl (two_go w4) ?_⟩
  rintro e w5 ⟨gc, _, _, rfl, tc, e5⟩
  have hc := Words_go twoA 0 2 10 (some ⟨gc, 0, none⟩) 2 w5 tc.rd
  rw [ex_words.1, ex_words.2] at hc
  refine ⟨_, rfl, M.run rfl <| M.cl rfl hc ?_⟩
  rintro e w6 ⟨W, wc, rfl, hW, e6⟩
  refine ⟨_, rfl, M.run rfl <| M.cl rfl (two_go w6) ?_⟩
  rintro e w7 ⟨gd, _, _, rfl, td, e7⟩
  refine ⟨_, rfl, M.run rfl <| M.bs rfl fun ge w8 be e8 le => M.run rfl ?_⟩
  have hc := Balance_go twoA [10, 7] (some ⟨gd, 0, none⟩) 2 (some ⟨ge, 0, none⟩) 2 w8 (td.rd.mv e8) (rd_two w8 ge 3 10 7 be)
  rw [ex_balance.1, ex_balance.2] at hc
  refine M.cl rfl hc ?_
  rintro e w9 ⟨L, lc, rfl, hL, e9⟩
  refine ⟨_, rfl, M.run rfl <| M.cl rfl (owed_go w9) ?_⟩
  rintro e wa ⟨O, rfl, hO, ea⟩
  have hc := Settle_go owedL O 4 wa hO
  rw [ex_groups.1] at hc
  refine ⟨_, rfl, M.run rfl <| M.cl rfl hc ?_⟩
  rintro e wb ⟨ps, Z, z, rfl, hZ, eb, _, hgood⟩
  have hgood := hgood rfl
  have hpl : ps.length = 2 := by
    have := hgood.len ex_groups.1
    have h1 := ex_best.1
    have h2 := ex_best.2
    have h3 : owedL.length = 4 := rfl
    omega
  refine ⟨_, rfl, M.run rfl <| M.cl rfl (owed_go wb) ?_⟩
  rintro e wd ⟨O2, rfl, hO2, ed⟩
  have hc := Groups_go owedL O2 4 wd hO2
  rw [ex_groups.1, ex_groups.2] at hc
  refine ⟨_, rfl, M.run rfl <| M.cl rfl hc ?_⟩
  rintro e we ⟨K, kc, rfl, hK, ee⟩
  have f9 := gr_trans (gr_trans (gr_trans ea eb) ed) ee
  have f7 := gr_trans (gr_trans (gr_trans e7 e8) e9) f9
  have f5 := gr_trans (gr_trans e5 e6) f7
  have f3 := gr_trans (gr_trans e3 e4) f5
  have f0 := gr_trans (gr_trans e1 e2) f3
  have rS : Rd dI we S s [16, 13, 13] := Rd.mv (hS.rd (by decide)) f3
  have rB : Rd dRng we B b [⟨-42, -30⟩, ⟨12, 16⟩, ⟨30, 34⟩, ⟨-12, -8⟩] := Rd.mv (hB.rd (by decide)) f5
  have rW : Rd dI we W wc [11] := Rd.mv (hW.rd (by decide)) f7
  have rL : Rd dI we L lc [-30, 12, 30, -12] := Rd.mv (hL.rd (by decide)) f9
  have rZ : Rd dPmt we Z z ps := Rd.mv (hZ.rd (by decide)) (gr_trans ed ee)
  refine ⟨_, rfl, M.run rfl (M.drawG [] (by kernel_rfl) fun u0 x0 => ?_)⟩
  refine D.at_ [47] rfl <| D.caseT 47 rfl rfl <| D.run rfl <| D.one 4 rfl rfl <| M.bs rfl fun h1 u1 k1 x1 y1 => M.run rfl <| M.end_ ⟨.inr x1, D.one 5 rfl rfl <| M.cl rfl (ints_go [16, 13, 13] [16, 13, 13] S s (some ⟨h1, 0, none⟩) 3 u1 (rS.mv (gr_trans x0 x1)) (rd_lit k1 [_, _, _] rfl (by simp [maxLen]))) ?_⟩
  rintro e u2 ⟨rfl, x2⟩
  have z2 := gr_trans (gr_trans x0 x1) x2
  obtain ⟨hB1, hBc0⟩ := rd_flat rB (j := 0) (by decide)
  obtain ⟨_, hBc3⟩ := rd_flat rB (j := 3) (by decide)
  refine ⟨_, rfl, M.run rfl <| M.end_ ⟨.inr x2, D.at_ [52] rfl <| D.caseT 52 rfl rfl <| D.at_ [56] rfl <| D.caseT 56 rfl rfl <| D.at_ [61] rfl <| D.caseT 61 rfl rfl <| D.run rfl <| D.ys 18 rfl rfl rfl (YS.ix rfl (by decide) (by decide) hB1) <| D.ldA 19 rfl rfl rfl rfl rfl (fun u hu => hBc0 u (gr_below (gr_trans z2 hu))) <| D.run rfl <| D.one 20 rfl rfl <| M.cl rfl (between_go (-42) (-30) u2) ?_⟩⟩
  rintro e u3 ⟨rfl, x3⟩
  have z3 := gr_trans z2 x3
  refine ⟨_, rfl, M.run rfl <| M.end_ ⟨.inr x3, D.ys 21 rfl rfl rfl (YS.eqII (k := .i64) rfl Try.eqGuardType74 Try.underlying74 ⟨rfl, rfl, by decide⟩ ⟨rfl, rfl, by decide⟩ Try.underlying3 Try.stoodInHeld74) <| D.at_ [68] rfl <| D.caseT 68 rfl rfl <| D.run rfl <| D.ys 25 rfl rfl rfl (YS.ix rfl (by decide) (by decide) hB1) <| D.ldA 26 rfl rfl rfl rfl rfl (fun u hu => hBc3 u (gr_below (gr_trans z3 hu))) <| D.run rfl <| D.one 27 rfl rfl <| M.cl rfl (between_go (-12) (-8) u3) ?_⟩⟩
  rintro e u4 ⟨rfl, x4⟩
  have z4 := gr_trans z3 x4
  refine ⟨_, rfl, M.run rfl <| M.end_ ⟨.inr x4, D.ys 28 rfl rfl rfl (YS.eqII (k := .i64) rfl Try.eqGuardType74 Try.underlying74 ⟨rfl, rfl, by decide⟩ ⟨rfl, rfl, by decide⟩ Try.underlying3 Try.stoodInHeld74) <| D.at_ [75] rfl <| D.caseT 75 rfl rfl <| D.at_ [79] rfl <| D.caseT 79 rfl rfl <| D.run rfl <| D.one 36 rfl rfl <| M.bs rfl fun h5 u5 k5 x5 y5 => M.run rfl <| M.end_ ⟨.inr x5, D.one 37 rfl rfl <| M.cl rfl (ints_go [11] [11] W wc (some ⟨h5, 0, none⟩) 1 u5 (rW.mv (gr_trans z4 x5)) (rd_lit k5 [_] rfl (by simp [maxLen]))) ?_⟩⟩⟩
  rintro e u6 ⟨rfl, x6⟩
  have z6 := gr_trans (gr_trans z4 x5) x6
  refine ⟨_, rfl, M.run rfl <| M.end_ ⟨.inr x6, D.at_ [84] rfl <| D.caseT 84 rfl rfl <| D.at_ [88] rfl <| D.caseT 88 rfl rfl <| D.run rfl <| D.one 45 rfl rfl <| M.cl rfl (owed_go u6) ?_⟩⟩
  rintro e u7 ⟨O3, rfl, hO3, x7⟩
  have z7 := gr_trans z6 x7
  refine ⟨_, rfl, M.run rfl <| M.end_ ⟨.inr x7, D.one 46 rfl rfl <| M.cl rfl (ints_go [-30, 12, 30, -12] [-30, 12, 30, -12] L lc O3 4 u7 (rL.mv z7) hO3) ?_⟩⟩
  rintro e u8 ⟨rfl, x8⟩
  have z8 := gr_trans z7 x8
  refine ⟨_, rfl, M.run rfl <| M.end_ ⟨.inr x8, D.at_ [93] rfl <| D.caseT 93 rfl rfl <| D.at_ [97] rfl <| D.caseT 97 rfl rfl <| D.at_ [102] rfl <| D.caseT 102 rfl (by rw [hpl]; rfl) <| D.run rfl <| D.one 58 rfl rfl <| M.cl rfl (owed_go u8) ?_⟩⟩
  rintro e u9 ⟨O4, rfl, hO4, x9⟩
  have z9 := gr_trans z8 x9
  have hc := ProveSettled_go owedL ps 2 O4 4 Z z u9 hO4 (rZ.mv z9) (by omega)
  have hps : proveS owedL ps 2 = true := by unfold proveS; rw [ex_groups.1, hgood.1, hpl]; rfl
  rw [hps] at hc
  refine ⟨_, rfl, M.run rfl <| M.end_ ⟨.inr x9, D.one 60 rfl rfl <| M.cl rfl hc ?_⟩⟩
  rintro e ua ⟨rfl, xa⟩
  have za := gr_trans z9 xa
  obtain ⟨hK1, K0, k0, hK0, hKc0⟩ := rd_el hK (j := 0) (by decide)
  obtain ⟨_, K1, kk1, hK1', hKc1⟩ := rd_el hK (j := 1) (by decide)
  refine ⟨_, rfl, M.run rfl <| M.end_ ⟨.inr xa, D.at_ [107] rfl <| D.caseT 107 rfl rfl <| D.at_ [111] rfl <| D.caseT 111 rfl rfl <| D.at_ [116] rfl <| D.caseT 116 rfl rfl <| D.run rfl <| D.ys 73 rfl rfl rfl (YS.ix rfl (by decide) (by decide) hK1) <| D.ld 74 rfl rfl rfl rfl (fun u hu => (hKc0 u (gr_below (gr_trans za hu))).one 0 rfl rfl) <| D.one 75 rfl rfl <| M.bs rfl fun hb ub kb xb yb => M.run rfl <| M.end_ ⟨.inr xb, D.one 76 rfl rfl <| M.cl rfl (ints_go [0, 2] [0, 2] K0 k0 (some ⟨hb, 0, none⟩) 2 ub (hK0.mv (gr_trans za xb)) (rd_two ub hb 3 0 2 kb)) ?_⟩⟩⟩
  rintro e uc ⟨rfl, xc⟩
  have zc := gr_trans (gr_trans za xb) xc
  refine ⟨_, rfl, M.run rfl <| M.end_ ⟨.inr xc, D.at_ [123] rfl <| D.caseT 123 rfl rfl <| D.run rfl <| D.ys 80 rfl rfl rfl (YS.ix rfl (by decide) (by decide) hK1) <| D.ld 81 rfl rfl rfl rfl (fun u hu => (hKc1 u (gr_below (gr_trans zc hu))).one 0 rfl rfl) <| D.one 82 rfl rfl <| M.bs rfl fun hd ud kd xd yd => M.run rfl <| M.end_ ⟨.inr xd, D.one 83 rfl rfl <| M.cl rfl (ints_go [1, 3] [1, 3] K1 kk1 (some ⟨hd, 0, none⟩) 2 ud (hK1'.mv (gr_trans zc xd)) (rd_two ud hd 3 1 3 kd)) ?_⟩⟩⟩
  rintro e ue ⟨rfl, xe⟩
  have ze := gr_trans (gr_trans zc xd) xe
  exact ⟨_, rfl, M.run rfl <| M.end_ ⟨.inr xe, D.run rfl <| D.done_ rfl <| M.run rfl (M.retF rfl rfl ⟨rfl, gr_trans f0 ze⟩)⟩⟩
end Go.Proofs.Yteeikpmoboehdaa
end

section
/- Walks: the reference's error of balances, and whether payments settle; payments handed over. -/
set_option linter.unusedVariables false
namespace Go.Proofs.Yteeikpmoboehdaa
open Go Go.Vc Go.RowKit Py
theorem debt_true {l : List Int} (h : ∀ i, i < l.length → within (at0 l i) (-100000) 100000 = true) : debt l = true := all_true fun i hi => by rw [at0_get hi]; exact h i hi
theorem debt_false {l : List Int} {i : Nat} (hi : i < l.length) (h : within (at0 l i) (-100000) 100000 = false) : debt l = false := all_false hi (by rw [at0_get hi]; exact h)
theorem BalancesFault_go (l : List Int) (A : Option Addr) (c : Nat) (w : World) (hA : Rd dI w A c l) : Calls Try.prog 34 #[.slice A l.length c] w fun e w' => e = .returned (.int .i64 (balF l)) ∧ w.grownBy w' none := by
  refine calls (G := G) (args := [.slice A l.length c]) Try.func34 rfl rfl rfl ?_
  refine M.run rfl <| M.cond rfl (fun h => ?_) (fun h => ?_)
  · have h' : (l.length : Int) > 7 := of_decide_eq_true h
    refine M.run rfl <| M.retF rfl rfl ⟨?_, gr_refl _ _⟩
    unfold balF; rw [if_pos h']; rfl
  have h7 : ¬ (l.length : Int) > 7 := of_decide_eq_false h
  have bad : (l.length = 0 ∨ debt l = false) → balF l = 1 := fun hb => by unfold balF; rw [if_neg h7, if_pos hb]
  refine M.run rfl <| M.loop (σ := Nat) (fun i => [(0, .slice A l.length c), (3, .int .i64 (sumTo (at0 l) i)), (4, .int .i64 (i : Int))]) (fun i w' => i ≤ l.length ∧ w.grownBy w' none ∧ (∀ j, j < i → within (at0 l j) (-100000) 100000 = true) ∧ -100000 * (i : Int) ≤ sumTo (at0 l) i ∧ sumTo (at0 l) i ≤ 100000 * (i : Int)) (fun i => l.length - i) 0 ⟨rfl, rfl, rfl, trivial⟩ ⟨Nat.zero_le _, gr_refl _ _, fun j hj => by omega, by simp [sumTo]⟩ ?_
  rintro i w1 ⟨hi, e1, hw, hs1, hs2⟩
  refine M.run rfl <| M.cond rfl (fun h => ?_) (fun h => ?_)
  · have hlt : i < l.length := by have := of_decide_eq_true h; omega
    obtain ⟨hA1, hAC⟩ := rd_flat hA hlt
    rw [at0_get hlt] at hAC
    refine M.run rfl <| M.ix rfl (by omega) (by omega) hA1 <| M.ld rfl ((hAC w1 (gr_below e1)).one 0 rfl rfl) <| M.run rfl <| M.cl rfl (In_go (at0 l i) (-100000) 100000 w1) ?_
    rintro e w2 ⟨rfl, e2⟩
    have e02 := gr_trans e1 e2
    refine ⟨_, rfl, M.run rfl <| M.cond rfl (fun h2 => ?_) (fun h2 => ?_)⟩
    · refine M.run rfl <| M.retF rfl rfl ⟨?_, e02⟩
      rw [bad (.inr (debt_false hlt (by simpa using h2)))]; rfl
    · have h2' : within (at0 l i) (-100000) 100000 = true := by simpa using h2
      obtain ⟨b1, b2⟩ := Py.within_iff.1 h2'
      refine M.run rfl <| M.ix rfl (by omega) (by omega) hA1 <| M.ld rfl ((hAC w2 (gr_below e02)).one 0 rfl rfl) <| M.run rfl <| M.end_ ⟨i + 1, ⟨rfl, ?_, nxt hlt (by omega), trivial⟩, ⟨by omega, e02, fun j hj => ?_, by simp only [sumTo]; push_cast; omega, by simp only [sumTo]; push_cast; omega⟩, by omega⟩
      · show some (Value.int .i64 (IntKind.i64.wrap (sumTo (at0 l) i + at0 l i))) = _
        rw [w64 (by omega) (by omega)]; rfl
      · by_cases e : j = i
        · subst e; exact h2'
        · exact hw j (by omega)
  · have hin : i = l.length := by have := of_decide_eq_false h; omega
    subst hin
    have hd := debt_true hw
    refine M.at_ [29] rfl <| M.case 29 rfl (fun h1 => ?_) (fun h1 => ?_)
    · have h1' : l.length = 0 := by have : (l.length : Int) = 0 := by simpa using h1
                                    omega
      refine M.run rfl <| M.condT rfl rfl <| M.run rfl <| M.retF rfl rfl ⟨?_, e1⟩
      rw [bad (.inl h1')]; rfl
    have h1' : ¬ l.length = 0 := fun h => by rw [h] at h1; exact absurd h1 (by decide)
    refine M.run rfl <| M.cond rfl (fun h3 => ?_) (fun h3 => ?_)
    · have h3' : sumTo (at0 l) l.length ≠ 0 := by simpa using h3
      refine M.run rfl <| M.retF rfl rfl ⟨?_, e1⟩
      unfold balF; rw [if_neg h7, if_neg (by simp [h1', hd]), if_pos h3']; rfl
    · have h3' : ¬ sumTo (at0 l) l.length ≠ 0 := by simpa using h3
      refine M.run rfl <| M.retF rfl rfl ⟨?_, e1⟩
      unfold balF; rw [if_neg h7, if_neg (by simp [h1', hd]), if_neg h3']; rfl
theorem rd_nil {α : Type} {d : Rp α} {w : World} {A : Option Addr} {c : Nat} {xs : List α} (h : Rd d w A c xs) : A = none → xs = [] := sl_none h
theorem rd_src {w : World} {A : Option Addr} {c : Nat} {xs : List Int} {F : Nat → Prop} (h : Rd dI w A c xs) : SrcAt dI w F (adOf A) xs := fun j y hj => by
  obtain ⟨_, _, cs, hk, hc⟩ := h.at_ j y hj
  exact ⟨cs, hk, hc⟩
set_option maxHeartbeats 1000000 in
theorem RefSettles_go (l : List Int) (ps : List Pmt) (A : Option Addr) (c : Nat) (B : Option Addr) (b : Nat) (w : World) (hA : Rd dI w A c l) (hB : Rd dPmt w B b ps) (hs : ps.length ≤ 1000000) (hz : balF l = 0) :
    Calls Try.prog 35 #[.slice A l.length c, .slice B ps.length b] w fun e w' => e = .returned (.bool (settlesB l ps)) ∧ w.grownBy w' none := by
  obtain ⟨h7, h0, hd, hsum⟩ := balF_ok hz
  refine calls (G := G) (args := [.slice A l.length c, .slice B ps.length b]) Try.func35 rfl rfl rfl ?_
  refine M.run rfl <| M.bs0 rfl fun g1 w1 b1 e1 l1 => M.run rfl <| M.appS (d := dI) rfl rfl (own_bs0 dI no b1 l1) rfl (by decide) rfl (ys := l) rfl (rd_nil hA) (rd_src (hA.mv e1)) e1.size (by simp; omega) (by decide) fun X x w2 hX e2 hat => ?_
  have e02 := (own_bs0 dI no b1 l1).gr e1 e2 (Nat.le_refl _)
  rw [List.nil_append] at hX ⊢
  refine M.run rfl <| M.loop (σ := Nat) (fun i => [(0, .slice A l.length c), (1, .slice B ps.length b), (5, .slice X l.length x), (6, .int .i64 (i : Int))])
    (fun i w' => i ≤ ps.length ∧ w.grownBy w' none ∧ (∀ p ∈ ps.take i, pmtOk l.length p = true) ∧ Vc.Own dI 3 w' w.heap.size no X x ((ps.take i).foldl payP l)) (fun i => ps.length - i) 0 ⟨rfl, rfl, rfl, rfl, trivial⟩ ⟨Nat.zero_le _, e02, by simp, hX⟩ ?_
  rintro i w3 ⟨hi, e3, hok, hX3⟩
  refine M.run rfl <| M.cond rfl (fun h => ?_) (fun h => ?_)
  rotate_left
  · have hin : i = ps.length := by have := of_decide_eq_false h; omega
    subst hin
    rw [List.take_length] at hok hX3
    have hln := payF_len ps l
    have hall : ps.all (pmtOk l.length) = true := List.all_eq_true.2 hok
    have hXr : Rd dI w3 X x (ps.foldl payP l) := hX3.rd (by decide)
    refine M.run rfl <| M.loop (σ := Nat) (fun i => [(5, .slice X l.length x), (8, .int .i64 (i : Int))]) (fun i w' => i ≤ l.length ∧ w3.grownBy w' none ∧ ∀ j, j < i → at0 (ps.foldl payP l) j = 0) (fun i => l.length - i) 0 ⟨rfl, rfl, trivial⟩ ⟨Nat.zero_le _, gr_refl _ _, fun j hj => by omega⟩ ?_
    rintro i w4 ⟨hi, e4, hzr⟩
    refine M.run rfl <| M.cond rfl (fun h => ?_) (fun h => ?_)
    · have hlt : i < l.length := by have := of_decide_eq_true h; omega
      have hlt' : i < (ps.foldl payP l).length := by omega
      obtain ⟨hX1, hXc⟩ := rd_flat hXr hlt'
      rw [at0_get hlt'] at hXc
      refine M.run rfl <| M.ix rfl (by omega) (by omega) hX1 <| M.ld rfl ((hXc w4 (gr_below e4)).one 0 rfl rfl) <| M.run rfl <| M.cond rfl (fun h2 => ?_) (fun h2 => ?_)
      · have h2' : at0 (ps.foldl payP l) i ≠ 0 := by simpa using h2
        refine M.run rfl <| M.retF rfl rfl ⟨?_, gr_trans e3 e4⟩
        have : settlesB l ps = false := by
          unfold settlesB
          have : ((ps.foldl payP l).all fun x => decide (x = 0)) = false := all_false hlt' (by rw [at0_get hlt']; simp [h2'])
          rw [this, Bool.and_false]
        rw [this]; rfl
      · have h2' : at0 (ps.foldl payP l) i = 0 := by simpa using h2
        exact M.run rfl <| M.end_ ⟨i + 1, ⟨rfl, nxt hlt (by omega), trivial⟩, ⟨by omega, e4, fun j hj => by
          by_cases e : j = i
          · subst e; exact h2'
          · exact hzr j (by omega)⟩, by omega⟩
    · have hin : i = l.length := by have := of_decide_eq_false h; omega
      subst hin
      refine M.run rfl <| M.retF rfl rfl ⟨?_, gr_trans e3 e4⟩
      have : ((ps.foldl payP l).all fun x => decide (x = 0)) = true := all_true fun j hj => by rw [at0_get hj]; simp [hzr j (by omega)]
      unfold settlesB; rw [hall, this]; rfl
  have hlt : i < ps.length := by have := of_decide_eq_true h; omega
  obtain ⟨hB1, hBc⟩ := rd_flat hB hlt
  have htk : ps.take (i + 1) = ps.take i ++ [ps[i]] := by rw [List.take_add_one, List.getElem?_eq_getElem hlt]; rfl
  have bad : pmtOk l.length ps[i] = false → settlesB l ps = false := fun hb => by
    unfold settlesB
    have : ps.all (pmtOk l.length) = false := List.all_eq_false.2 ⟨ps[i], List.getElem_mem hlt, by rw [hb]; decide⟩
    rw [this]; rfl
  have hps := payF_bd (ps.take i) l 100000 (fun j hj => debt_at hd hj) hok
  have hln := payF_len (ps.take i) l
  have hli : ((ps.take i).length : Int) ≤ 1000000 := by rw [List.length_take]; omega
  generalize hp : ps[i] = p at *
  refine M.run rfl <| M.ix rfl (by omega) (by omega) hB1 <| M.ldA rfl rfl (hBc w3 (gr_below e3)) <| M.run rfl <| M.nw rfl fun gp w4 b4 e4 l4 => M.run rfl <| M.store rfl rfl b4 rfl rfl fun w5 b5 e5 => ?_
  have e35 := gr_fresh e4 e5 l4
  have e05 := gr_trans e3 e35
  refine M.run rfl <| M.ld (v := .int .i64 p.src) rfl (b5.cell rfl rfl) <| M.at_ [26] rfl ?_
  rw [w64 (x := (l.length : Int) - 1) (by omega) (by omega)]
  refine M.run rfl <| M.cl rfl (In_go p.src 0 ((l.length : Int) - 1) w5) ?_
  rintro e w6 ⟨rfl, e6⟩
  have e06 := gr_trans e05 e6
  refine ⟨_, rfl, M.at_ [29] rfl <| M.case 29 rfl (fun h1 => ?_) (fun h1 => ?_)⟩
  · refine M.run rfl <| M.condT rfl rfl <| M.run rfl <| M.retF rfl rfl ⟨?_, e06⟩
    rw [bad (by unfold pmtOk; rw [show within p.src 0 ((l.length : Int) - 1) = false by simpa using h1]; rfl)]; rfl
  have k1 : within p.src 0 ((l.length : Int) - 1) = true := by simpa using h1
  refine M.run rfl <| M.ld (v := .int .i64 p.dst) rfl ((b5.mv0 e6).cellsAll.one 1 rfl rfl) <| M.at_ [34] rfl ?_
  rw [w64 (x := (l.length : Int) - 1) (by omega) (by omega)]
  refine M.run rfl <| M.cl rfl (In_go p.dst 0 ((l.length : Int) - 1) w6) ?_
  rintro e w7 ⟨rfl, e7⟩
  have e07 := gr_trans e06 e7
  refine ⟨_, rfl, M.at_ [38] rfl <| M.case 38 rfl (fun h1 => ?_) (fun h1 => ?_)⟩
  · refine M.run rfl <| M.condT rfl rfl <| M.run rfl <| M.retF rfl rfl ⟨?_, e07⟩
    rw [bad (by unfold pmtOk; rw [show within p.dst 0 ((l.length : Int) - 1) = false by simpa using h1]; simp)]; rfl
  have k2 : within p.dst 0 ((l.length : Int) - 1) = true := by simpa using h1
  have b7 := (b5.mv0 e6).mv0 e7
  refine M.run rfl <| M.ld (v := .int .i64 p.src) rfl (b7.cellsAll.one 0 rfl rfl) <| M.run rfl <| M.ld (v := .int .i64 p.dst) rfl (b7.cellsAll.one 1 rfl rfl) <| M.at_ [45] rfl <| M.case 45 rfl (fun h1 => ?_) (fun h1 => ?_)
  · refine M.run rfl <| M.condT rfl rfl <| M.run rfl <| M.retF rfl rfl ⟨?_, e07⟩
    have : p.src = p.dst := by simpa using h1
    rw [bad (by unfold pmtOk; simp [this])]; rfl
  have k3 : p.src ≠ p.dst := by simpa using h1
  refine M.run rfl <| M.ld (v := .int .i64 p.amt) rfl (b7.cellsAll.one 2 rfl rfl) <| M.run rfl <| M.cl rfl (In_go p.amt 1 100000 w7) ?_
  rintro e w8 ⟨rfl, e8⟩
  have e08 := gr_trans e07 e8
  have e48 := gr_trans (gr_trans e6 e7) e8
  refine ⟨_, rfl, M.run rfl <| M.cond rfl (fun h1 => ?_) (fun h1 => ?_)⟩
  · refine M.run rfl <| M.retF rfl rfl ⟨?_, e08⟩
    rw [bad (by unfold pmtOk; rw [show within p.amt 1 100000 = false by simpa using h1]; simp)]; rfl
  have k4 : within p.amt 1 100000 = true := by simpa using h1
  have hpk : pmtOk l.length p = true := by unfold pmtOk; simp [k1, k2, k3, k4]
  obtain ⟨q1, q2, q3, q4, q5⟩ := pmtOk_iff.1 hpk
  have hX8 := (hX3.mv0 e35).mv0 e48
  have b8 := b7.mv0 e8
  have hbX : 0 < ((ps.take i).foldl payP l).length := by omega
  generalize hL : (ps.take i).foldl payP l = L at *
  have ha : p.src.toNat < L.length := by omega
  have hb : p.dst.toNat < L.length := by omega
  have hsa := hps p.src.toNat (by omega)
  have hsb := hps p.dst.toNat (by omega)
  obtain ⟨g, cur, rfl, hgw, bX, hlX, hcX, hset⟩ := own_int hX8 ha
  refine M.run rfl <| M.drawG [9] (by kernel_rfl) fun w9 e9 => ?_
  refine D.run rfl <| D.ld 2 rfl rfl rfl rfl (v := .int .i64 p.src) (fun w' hw => ((b8.mv0 e9).mv0 hw).cellsAll.one 0 rfl rfl) <| D.ys 3 rfl rfl rfl (YS.ix rfl (by omega) (by omega) rfl) <|
    D.ld 4 rfl rfl rfl rfl (v := .int .i64 (at0 L p.src.toNat)) (fun w' hw => by rw [ad1, ← at0_get ha]; exact own_cell hX8 ha rfl (gr_trans e9 hw) (by simp)) <| D.run rfl <| D.ld 6 rfl rfl rfl rfl (v := .int .i64 p.amt) (fun w' hw => ((b8.mv0 e9).mv0 hw).cellsAll.one 2 rfl rfl) <| D.run rfl ?_
  rw [w64 (x := at0 L p.src.toNat + p.amt) (by omega) (by omega)]
  refine D.ys 8 rfl rfl rfl (YS.ix rfl (by omega) (by omega) rfl) <| D.one 9 rfl rfl <| M.storeA (cs := cur) (off := p.src.toNat) (vs := [.int .i64 (at0 L p.src.toNat + p.amt)]) rfl rfl (by rw [ad1]) (bX.mv0 e9) (by simp; omega) rfl fun w10 b10 e10 => M.run rfl <| M.end_ ⟨.inl ⟨rfl, trivial⟩, D.done_ rfl ?_⟩
  have hX10 := hset _ w10 b10
  have hne : g ≠ gp := by have := bX.lt; have := l4; have := hX3.blkGe g rfl; omega
  have b11 := (b8.mv0 e9).mv1 e10 hne
  have hb' : p.dst.toNat < (L.set p.src.toNat (at0 L p.src.toNat + p.amt)).length := by simpa using hb
  have hs2 : at0 (L.set p.src.toNat (at0 L p.src.toNat + p.amt)) p.dst.toNat = at0 L p.dst.toNat := by rw [at0_set ha, if_neg (by omega)]
  obtain ⟨g', cur', hgg, hg', bX', hlX', hcX', hset'⟩ := own_int hX10 hb'
  injection hgg with hgg
  injection hgg with hgg
  subst hgg
  refine M.run rfl <| M.drawG [9] (by kernel_rfl) fun w11 e11 => ?_
  refine D.run rfl <| D.ld 2 rfl rfl rfl rfl (v := .int .i64 p.dst) (fun w' hw => ((b11.mv0 e11).mv0 hw).cellsAll.one 1 rfl rfl) <| D.ys 3 rfl rfl rfl (YS.ix rfl (by omega) (by omega) rfl) <|
    D.ld 4 rfl rfl rfl rfl (v := .int .i64 (at0 L p.dst.toNat)) (fun w' hw => by rw [ad1, ← hs2, ← at0_get hb']; exact own_cell hX10 hb' rfl (gr_trans e11 hw) (by simp)) <| D.run rfl <| D.ld 6 rfl rfl rfl rfl (v := .int .i64 p.amt) (fun w' hw => ((b11.mv0 e11).mv0 hw).cellsAll.one 2 rfl rfl) <| D.run rfl ?_
  rw [w64 (x := at0 L p.dst.toNat - p.amt) (by omega) (by omega)]
  refine D.ys 8 rfl rfl rfl (YS.ix rfl (by omega) (by omega) rfl) <| D.one 9 rfl rfl <| M.storeA (cs := cur') (off := p.dst.toNat) (vs := [.int .i64 (at0 L p.dst.toNat - p.amt)]) rfl rfl (by rw [ad1]) (bX'.mv0 e11) (by simp; omega) rfl fun w12 b12 e12 => M.run rfl <| M.end_ ⟨.inl ⟨rfl, trivial⟩, D.done_ rfl ?_⟩
  have hX12 := hset' _ w12 b12
  refine M.run rfl <| M.end_ ⟨i + 1, ⟨rfl, rfl, rfl, nxt hlt (by omega), trivial⟩, ⟨by omega, gr_fresh (gr_trans (gr_fresh (gr_trans e08 e9) e10 hgw) e11) e12 hgw, ?_, ?_⟩, by omega⟩
  · intro q hq
    rw [htk] at hq
    rcases List.mem_append.1 hq with hq | hq
    · exact hok q hq
    · simp at hq; subst hq; exact hpk
  · rw [htk, List.foldl_append, hL]
    show Vc.Own dI 3 w12 w.heap.size no _ x (payP L p)
    unfold payP
    rw [hs2]
    exact hX12
/-- a region in which blocks from N on may be written -/
theorem _root_.Go.Vc.M.drawN (N : Nat) {G : Ctx} {n : Nat} {all : Array Oper} {k : List It} {ρ : Env} {w : World} {fn : Func} {S : Ending → World → Prop} {id : Nat} (hB : regB all [] [] [] = true)
    (h : ∀ w', w.grownBy w' none → D G n all (Keep N) (fun _ _ => True) [] [] [] k (fin G n fn S) all.size [] ρ w') : M G n (.code (.region id all true) :: k) (fin G n fn S) ρ w :=
  M.draw (Keep N) (fun _ _ => True) [] [] [] (fun _ _ _ h => h) (fun w => Keep.refl _ w) (fun a b c h k => h.trans k) (fun _ _ _ => trivial) (fun _ _ _ _ _ => trivial) hB (h _ (gr_drewN w 1))
theorem sl_keep {α : Type} {enc : α → List Value} {sz : Nat} {hl : ∀ x, (enc x).length = sz} {hp : ∀ x, ∀ c ∈ enc x, c.oneCell' = true} {w : World} {N : Nat} {A : Option Addr} {c : Nat} {xs : List α}
    (h : Sl (Rp.flat enc sz hl hp) w (· < N) A c xs) (hN : N ≤ w.heap.size) {j : Nat} (hj : j < xs.length) : A = some (adOf A) ∧ ∀ w', Keep N w w' → Cells w' ((adOf A).add (j * sz)) (enc (xs[j]'hj)) := by
  obtain ⟨h1, h2, cs, h3, h4⟩ := h.at_ j _ (List.getElem?_eq_getElem hj)
  refine ⟨h1, fun w' hw => ?_⟩
  have : cs = enc xs[j] := h3
  rw [← this]
  exact h4.move (by rw [add_block]; exact hw.2 _ h2 (Nat.lt_of_lt_of_le h2 hN))
theorem Payments_go (ps : List Pmt) (B : Option Addr) (b : Nat) (w : World) (hB : Rd dPmt w B b ps) (hs : ps.length ≤ 1000000) :
    Calls Try.prog 33 #[.slice B ps.length b] w fun e w' => ∃ X x, e = .returned (.slice X ps.length x) ∧ Vc.Own dPmt 91 w' w.heap.size no X x ps ∧ w.grownBy w' none := by
  refine calls (G := G) (args := [.slice B ps.length b]) Try.func33 rfl rfl rfl ?_
  refine M.run rfl <| M.loop (σ := Nat × Option Addr × Nat) (fun (i, X, x) => [(0, .slice B ps.length b), (3, .slice X (ps.take i).length x), (4, .int .i64 (i : Int))])
    (fun (i, X, x) w' => i ≤ ps.length ∧ w.grownBy w' none ∧ Vc.Own dPmt 91 w' w.heap.size no X x (ps.take i)) (fun (i, _) => ps.length - i) (0, none, 0) ⟨rfl, rfl, rfl, trivial⟩ ⟨Nat.zero_le _, gr_refl _ _, Vc.Own.nil _ _ _ _ _⟩ ?_
  rintro ⟨i, X, x⟩ w1 ⟨hi, e1, hX⟩
  refine M.run rfl <| M.cond rfl (fun h => ?_) (fun h => ?_)
  rotate_left
  · have hin : i = ps.length := by have := of_decide_eq_false h; omega
    subst hin
    rw [List.take_length] at hX
    refine M.run rfl <| M.retF rfl rfl ⟨X, x, ?_, hX, e1⟩
    rw [List.take_length]; rfl
  have hlt : i < ps.length := by have := of_decide_eq_true h; omega
  have htk : ps.take (i + 1) = ps.take i ++ [ps[i]] := by rw [List.take_add_one, List.getElem?_eq_getElem hlt]; rfl
  have hln : (ps.take i).length ≤ 1000000 := by rw [List.length_take]; omega
  refine M.run rfl <| M.drawN w.heap.size (by kernel_rfl) fun w2 e2 => ?_
  have e02 := gr_trans e1 e2
  obtain ⟨hB1, hBc⟩ := sl_keep (hB.sinceF (gr_below e02)) e02.size hlt
  refine D.run rfl <| D.ys 3 rfl rfl rfl (YS.ix rfl (by omega) (by omega) hB1) <| D.run rfl <| D.ld 5 rfl rfl rfl rfl (v := .int .i64 ps[i].src) (fun w' hw => (hBc w' hw).one 0 rfl rfl) <|
    D.ys 8 rfl rfl rfl (YS.ix rfl (by omega) (by omega) hB1) <| D.run rfl <| D.ld 10 rfl rfl rfl rfl (v := .int .i64 ps[i].dst) (fun w' hw => (hBc w' hw).one 1 rfl rfl) <|
    D.ys 13 rfl rfl rfl (YS.ix rfl (by omega) (by omega) hB1) <| D.run rfl <| D.ld 15 rfl rfl rfl rfl (v := .int .i64 ps[i].amt) (fun w' hw => (hBc w' hw).one 2 rfl rfl) <| D.run rfl <|
    D.one 17 rfl rfl <| M.bs rfl fun g3 w3 b3 e3 l3 => M.run rfl <| M.end_ ⟨.inr (Keep.of0 e3), ?_⟩
  have hX3 := (hX.mv0 e2).mv0 e3
  refine D.one 18 rfl rfl <| M.app (d := dPmt) rfl rfl hX3 rfl (by decide) rfl (ys := [ps[i]]) rfl rfl (src_one b3 rfl) (gr_trans e02 e3).size (by simp only [List.length_cons, List.length_nil]; omega) (by decide) fun X' x' w4 hX4 e4 hat => M.run rfl <| M.end_ ⟨.inr (Keep.of e4 (fun g hg => (hX3.blkGe g hg).1)), ?_⟩
  have e04 := hX3.gr (gr_trans e02 e3) e4 (Nat.le_refl _)
  refine D.run rfl <| D.done_ rfl <| M.run rfl <| M.end_ ⟨(i + 1, X', x'), ⟨rfl, ?_, nxt hlt (by omega), trivial⟩, ⟨by omega, e04, by rw [htk]; exact hX4⟩, by simp; omega⟩
  show some (Value.slice X' (ps.take i ++ [ps[i]]).length x') = _
  rw [htk]
theorem Back_go (ps : List Pmt) (B : Option Addr) (b : Nat) (w : World) (hB : Rd dPmt w B b ps) (hs : ps.length ≤ 1000000) :
    Calls Try.prog 37 #[.slice B ps.length b] w fun e w' => ∃ X x, e = .returned (.slice X ps.length x) ∧ Vc.Own dPmt 113 w' w.heap.size no X x ps ∧ w.grownBy w' none := by
  refine calls (G := G) (args := [.slice B ps.length b]) Try.func37 rfl rfl rfl ?_
  refine M.run rfl <| M.loop (σ := Nat × Option Addr × Nat) (fun (i, X, x) => [(0, .slice B ps.length b), (3, .slice X (ps.take i).length x), (4, .int .i64 (i : Int))])
    (fun (i, X, x) w' => i ≤ ps.length ∧ w.grownBy w' none ∧ Vc.Own dPmt 113 w' w.heap.size no X x (ps.take i)) (fun (i, _) => ps.length - i) (0, none, 0) ⟨rfl, rfl, rfl, trivial⟩ ⟨Nat.zero_le _, gr_refl _ _, Vc.Own.nil _ _ _ _ _⟩ ?_
  rintro ⟨i, X, x⟩ w1 ⟨hi, e1, hX⟩
  refine M.run rfl <| M.cond rfl (fun h => ?_) (fun h => ?_)
  rotate_left
  · have hin : i = ps.length := by have := of_decide_eq_false h; omega
    subst hin
    rw [List.take_length] at hX
    refine M.run rfl <| M.retF rfl rfl ⟨X, x, ?_, hX, e1⟩
    rw [List.take_length]; rfl
  have hlt : i < ps.length := by have := of_decide_eq_true h; omega
  have htk : ps.take (i + 1) = ps.take i ++ [ps[i]] := by rw [List.take_add_one, List.getElem?_eq_getElem hlt]; rfl
  have hln : (ps.take i).length ≤ 1000000 := by rw [List.length_take]; omega
  refine M.run rfl <| M.drawN w.heap.size (by kernel_rfl) fun w2 e2 => ?_
  have e02 := gr_trans e1 e2
  obtain ⟨hB1, hBc⟩ := sl_keep (hB.sinceF (gr_below e02)) e02.size hlt
  refine D.run rfl <| D.ys 3 rfl rfl rfl (YS.ix rfl (by omega) (by omega) hB1) <| D.run rfl <| D.ld 5 rfl rfl rfl rfl (v := .int .i64 ps[i].src) (fun w' hw => (hBc w' hw).one 0 rfl rfl) <|
    D.ys 8 rfl rfl rfl (YS.ix rfl (by omega) (by omega) hB1) <| D.run rfl <| D.ld 10 rfl rfl rfl rfl (v := .int .i64 ps[i].dst) (fun w' hw => (hBc w' hw).one 1 rfl rfl) <|
    D.ys 13 rfl rfl rfl (YS.ix rfl (by omega) (by omega) hB1) <| D.run rfl <| D.ld 15 rfl rfl rfl rfl (v := .int .i64 ps[i].amt) (fun w' hw => (hBc w' hw).one 2 rfl rfl) <| D.run rfl <|
    D.one 17 rfl rfl <| M.bs rfl fun g3 w3 b3 e3 l3 => M.run rfl <| M.end_ ⟨.inr (Keep.of0 e3), ?_⟩
  have hX3 := (hX.mv0 e2).mv0 e3
  refine D.one 18 rfl rfl <| M.app (d := dPmt) rfl rfl hX3 rfl (by decide) rfl (ys := [ps[i]]) rfl rfl (src_one b3 rfl) (gr_trans e02 e3).size (by simp only [List.length_cons, List.length_nil]; omega) (by decide) fun X' x' w4 hX4 e4 hat => M.run rfl <| M.end_ ⟨.inr (Keep.of e4 (fun g hg => (hX3.blkGe g hg).1)), ?_⟩
  have e04 := hX3.gr (gr_trans e02 e3) e4 (Nat.le_refl _)
  refine D.run rfl <| D.done_ rfl <| M.run rfl <| M.end_ ⟨(i + 1, X', x'), ⟨rfl, ?_, nxt hlt (by omega), trivial⟩, ⟨by omega, e04, by rw [htk]; exact hX4⟩, by simp; omega⟩
  show some (Value.slice X' (ps.take i ++ [ps[i]]).length x') = _
  rw [htk]
end Go.Proofs.Yteeikpmoboehdaa
end

section
/- The reference's search for the most groups finds as many as the program's. -/
set_option linter.unusedVariables false
namespace Py
def mx2 (x y : Int) : Int := if y > x then y else x
def mxTo (f : Nat → Int) (z : Int) : Nat → Int
  | 0 => z
  | j + 1 => mx2 (mxTo f z j) (f j)
/-- with so many stations left -/
def bestR (l : List Int) : Nat → List Int → Int
  | 0, sums => if sums.all fun x => decide (x = 0) then (sums.length : Int) else -1
  | k + 1, sums => if at0 l (l.length - (k + 1)) = 0 then bestR l k sums else
    mxTo (fun j => bestR l k (sums.set j (at0 sums j + at0 l (l.length - (k + 1))))) (bestR l k (sums ++ [at0 l (l.length - (k + 1))])) sums.length
theorem mxTo_ge (f : Nat → Int) (z : Int) : ∀ m, z ≤ mxTo f z m ∧ ∀ j, j < m → f j ≤ mxTo f z m
  | 0 => ⟨Int.le_refl _, fun j h => by omega⟩
  | m + 1 => by
    obtain ⟨h1, h2⟩ := mxTo_ge f z m
    simp only [mxTo, mx2]
    split
    · refine ⟨by omega, fun j hj => ?_⟩
      by_cases e : j = m
      · subst e; omega
      · have := h2 j (by omega); omega
    · refine ⟨h1, fun j hj => ?_⟩
      by_cases e : j = m
      · subst e; omega
      · exact h2 j (by omega)
theorem mxTo_is (f : Nat → Int) (z : Int) : ∀ m, mxTo f z m = z ∨ ∃ j, j < m ∧ mxTo f z m = f j
  | 0 => .inl rfl
  | m + 1 => by
    simp only [mxTo, mx2]
    split
    · exact .inr ⟨m, by omega, rfl⟩
    · rcases mxTo_is f z m with h | ⟨j, hj, h⟩
      · exact .inl h
      · exact .inr ⟨j, by omega, h⟩

/-- groups that have been begun with the stations before one -/
structure PP (l : List Int) (f : Nat → Nat) (at_ m : Nat) (rp : Nat → Nat) (sums : List Int) : Prop where
  len : sums.length = m
  rep : ∀ j, j < m → rp j < at_ ∧ nz l (rp j) = true ∧ f (rp j) = rp j
  inj : ∀ j k, j < m → k < m → rp j = rp k → j = k
  cov : ∀ i, i < at_ → nz l i = true → ∃ j, j < m ∧ f i = rp j
  sum : ∀ j, j < m → at0 sums j = sumTo (fun i => if nz l i = true ∧ f i = rp j then at0 l i else 0) at_
  cnt : sumTo (fun g => if nz l g = true ∧ f g = g then (1 : Int) else 0) at_ = m
def putF (f : Nat → Nat) (i v : Nat) (j : Nat) : Nat := if j = i then v else f j
theorem putF_at (f : Nat → Nat) (i v : Nat) : putF f i v i = v := if_pos rfl
theorem putF_ne (f : Nat → Nat) {i v j : Nat} (h : j ≠ i) : putF f i v j = f j := if_neg h
variable {l : List Int} {f : Nat → Nat} {at_ m : Nat} {rp : Nat → Nat} {sums : List Int}
theorem PP.put (h : PP l f at_ m rp sums) (v : Nat) : PP l (putF f at_ v) at_ m rp sums := by
  refine ⟨h.len, fun j hj => ?_, h.inj, fun i hi hn => ?_, fun j hj => ?_, ?_⟩
  · obtain ⟨a, b, c⟩ := h.rep j hj
    exact ⟨a, b, by rw [putF_ne f (by omega)]; exact c⟩
  · rw [putF_ne f (by omega)]; exact h.cov i hi hn
  · rw [h.sum j hj]
    exact sumTo_congr _ (fun i hi => by rw [putF_ne f (by omega)])
  · rw [← h.cnt]
    exact sumTo_congr _ (fun i hi => by rw [putF_ne f (by omega)])
theorem PP.skip (h : PP l f at_ m rp sums) (hz : nz l at_ = false) : PP l f (at_ + 1) m rp sums := by
  refine ⟨h.len, fun j hj => ?_, h.inj, fun i hi hn => ?_, fun j hj => ?_, ?_⟩
  · obtain ⟨a, b, c⟩ := h.rep j hj
    exact ⟨by omega, b, c⟩
  · have : i ≠ at_ := by rintro rfl; rw [hz] at hn; cases hn
    exact h.cov i (by omega) hn
  · rw [h.sum j hj]; simp [sumTo, hz]
  · rw [← h.cnt]; simp [sumTo, hz]
theorem PP.new (h : PP l f at_ m rp sums) (hn : nz l at_ = true) (hf : f at_ = at_) : PP l f (at_ + 1) (m + 1) (putF rp m at_) (sums ++ [at0 l at_]) := by
  have hrp : ∀ j, j < m → putF rp m at_ j = rp j := fun j hj => putF_ne rp (by omega)
  refine ⟨by simp [h.len], fun j hj => ?_, fun j k hj hk he => ?_, fun i hi hn' => ?_, fun j hj => ?_, ?_⟩
  · by_cases e : j = m
    · subst e; rw [putF_at]; exact ⟨by omega, hn, hf⟩
    · rw [hrp j (by omega)]
      obtain ⟨a, b, c⟩ := h.rep j (by omega)
      exact ⟨by omega, b, c⟩
  · by_cases e : j = m
    · by_cases e2 : k = m
      · omega
      · subst e; rw [putF_at, hrp k (by omega)] at he
        have := (h.rep k (by omega)).1; omega
    · by_cases e2 : k = m
      · subst e2; rw [putF_at, hrp j (by omega)] at he
        have := (h.rep j (by omega)).1; omega
      · rw [hrp j (by omega), hrp k (by omega)] at he
        exact h.inj j k (by omega) (by omega) he
  · by_cases e : i = at_
    · subst e; exact ⟨m, by omega, by rw [putF_at]; exact hf⟩
    · obtain ⟨j, hj, hji⟩ := h.cov i (by omega) hn'
      exact ⟨j, by omega, by rw [hrp j hj]; exact hji⟩
  · by_cases e : j = m
    · subst e
      rw [putF_at]
      have h1 : at0 (sums ++ [at0 l at_]) j = at0 l at_ := by
        unfold at0; rw [← h.len]; simp
      rw [h1]
      simp only [sumTo]
      rw [if_pos ⟨hn, hf⟩]
      have : sumTo (fun i => if nz l i = true ∧ f i = at_ then at0 l i else 0) at_ = 0 := by
        rw [sumTo_congr (g := fun _ => 0) _ (fun i hi => if_neg (by
          rintro ⟨h1, h2⟩
          obtain ⟨k, hk, hki⟩ := h.cov i hi h1
          have := (h.rep k hk).1; omega)), sumTo_zero]
      rw [this]; omega
    · rw [hrp j (by omega)]
      have h1 : at0 (sums ++ [at0 l at_]) j = at0 sums j := by
        have hj' : j < sums.length := by rw [h.len]; omega
        unfold at0
        rw [List.getD_eq_getElem?_getD, List.getElem?_append_left hj', ← List.getD_eq_getElem?_getD]
      rw [h1, h.sum j (by omega)]
      simp only [sumTo]
      rw [if_neg (show ¬ (nz l at_ = true ∧ f at_ = rp j) from fun h2 => by have := (h.rep j (by omega)).1; omega)]; omega
  · simp only [sumTo]
    rw [h.cnt, if_pos ⟨hn, hf⟩]; push_cast; rfl
theorem PP.join (h : PP l f at_ m rp sums) (hn : nz l at_ = true) {j : Nat} (hj : j < m) (hf : f at_ = rp j) : PP l f (at_ + 1) m rp (sums.set j (at0 sums j + at0 l at_)) := by
  have hjl : j < sums.length := by rw [h.len]; exact hj
  refine ⟨by simp [h.len], fun k hk => ?_, h.inj, fun i hi hn' => ?_, fun k hk => ?_, ?_⟩
  · obtain ⟨a, b, c⟩ := h.rep k hk
    exact ⟨by omega, b, c⟩
  · by_cases e : i = at_
    · subst e; exact ⟨j, hj, hf⟩
    · exact h.cov i (by omega) hn'
  · rw [at0_set hjl]
    simp only [sumTo]
    by_cases e : k = j
    · subst e; rw [if_pos rfl, if_pos ⟨hn, hf⟩, h.sum k hk]
    · rw [if_neg e, if_neg (fun h2 => e (h.inj k j hk hj (h2.2.symm.trans hf))), h.sum k hk]; omega
  · simp only [sumTo]
    rw [h.cnt, if_neg (fun h2 => by have := (h.rep j hj).1; omega)]; omega
theorem PP.init (l : List Int) (f : Nat → Nat) : PP l f 0 0 id [] := ⟨rfl, fun j h => by omega, fun j k h => by omega, fun i h => by omega, fun j h => by omega, rfl⟩
theorem PP.np (h : PP l f l.length m rp sums) (hz : ∀ x ∈ sums, x = 0) : NP l (nz l) f ∧ reps l.length (nz l) f = m := by
  refine ⟨⟨fun i hi hn => ?_, fun g hg hn hfg => ?_⟩, h.cnt⟩
  · obtain ⟨j, hj, hji⟩ := h.cov i hi hn
    obtain ⟨a, b, c⟩ := h.rep j hj
    rw [hji]; exact ⟨a, b, c⟩
  · obtain ⟨j, hj, hji⟩ := h.cov g hg hn
    have hs := h.sum j hj
    rw [← hji, hfg] at hs
    rw [← hs]
    have hj' : j < sums.length := by rw [h.len]; exact hj
    rw [← at0_get hj']; exact hz _ (List.getElem_mem hj')
theorem PP.zero (h : PP l f l.length m rp sums) (hN : NP l (nz l) f) : ∀ x ∈ sums, x = 0 := by
  intro x hx
  obtain ⟨j, hj, rfl⟩ := List.mem_iff_getElem.1 hx
  rw [at0_get hj, h.sum j (by rw [← h.len]; exact hj)]
  obtain ⟨a, b, c⟩ := h.rep j (by rw [← h.len]; exact hj)
  exact hN.zero _ a b c
theorem bestR_up : ∀ (k at_ m : Nat) (f rp : Nat → Nat) (sums : List Int), at_ + k = l.length → PP l f at_ m rp sums → bestR l k sums = -1 ∨ ∃ f', NP l (nz l) f' ∧ bestR l k sums = reps l.length (nz l) f'
  | 0, at_, m, f, rp, sums, hk, h => by
    have : at_ = l.length := by omega
    subst this
    unfold bestR
    split
    · rename_i hz
      obtain ⟨h1, h2⟩ := h.np (fun x hx => by simpa using List.all_eq_true.1 hz x hx)
      exact .inr ⟨f, h1, by rw [h2, h.len]⟩
    · exact .inl rfl
  | k + 1, at_, m, f, rp, sums, hk, h => by
    have e : l.length - (k + 1) = at_ := by omega
    unfold bestR
    rw [e]
    by_cases hz : at0 l at_ = 0
    · rw [if_pos hz]
      exact bestR_up k (at_ + 1) m f rp sums (by omega) (h.skip (by simp [nz, hz]))
    · rw [if_neg hz]
      have hn : nz l at_ = true := by simp [nz, hz]
      rcases mxTo_is (fun j => bestR l k (sums.set j (at0 sums j + at0 l at_))) (bestR l k (sums ++ [at0 l at_])) sums.length with h1 | ⟨j, hj, h1⟩
      · rw [h1]
        exact bestR_up k (at_ + 1) (m + 1) _ _ _ (by omega) ((h.put at_).new hn (putF_at _ _ _))
      · rw [h1]
        rw [h.len] at hj
        exact bestR_up k (at_ + 1) m _ _ _ (by omega) ((h.put (rp j)).join hn hj (putF_at _ _ _))
theorem bestR_low (hN : NP l (nz l) f) (hle : ∀ i, i < l.length → nz l i = true → f i ≤ i) : ∀ (k at_ m : Nat) (rp : Nat → Nat) (sums : List Int), at_ + k = l.length → PP l f at_ m rp sums → reps l.length (nz l) f ≤ bestR l k sums
  | 0, at_, m, rp, sums, hk, h => by
    have : at_ = l.length := by omega
    subst this
    have hz := h.zero hN
    unfold bestR
    rw [if_pos (List.all_eq_true.2 fun x hx => by simp [hz x hx]), h.len, ← h.cnt]
    exact Int.le_refl _
  | k + 1, at_, m, rp, sums, hk, h => by
    have e : l.length - (k + 1) = at_ := by omega
    unfold bestR
    rw [e]
    by_cases hz : at0 l at_ = 0
    · rw [if_pos hz]
      exact bestR_low hN hle k (at_ + 1) m rp sums (by omega) (h.skip (by simp [nz, hz]))
    · rw [if_neg hz]
      have hn : nz l at_ = true := by simp [nz, hz]
      have hat : at_ < l.length := by omega
      obtain ⟨hg1, hg2⟩ := mxTo_ge (fun j => bestR l k (sums.set j (at0 sums j + at0 l at_))) (bestR l k (sums ++ [at0 l at_])) sums.length
      have hl := hle at_ hat hn
      obtain ⟨d1, d2, d3⟩ := hN.dom at_ hat hn
      by_cases hf : f at_ = at_
      · exact Int.le_trans (bestR_low hN hle k (at_ + 1) (m + 1) _ _ (by omega) (h.new hn hf)) hg1
      · obtain ⟨j, hj, hji⟩ := h.cov (f at_) (by omega) d2
        rw [d3] at hji
        exact Int.le_trans (bestR_low hN hle k (at_ + 1) m _ _ (by omega) (h.join hn hj hji)) (hg2 j (by rw [h.len]; exact hj))
theorem best_ref {l : List Int} (h64 : l.length < 64) (hz : sumTo (at0 l) l.length = 0) : bestR l l.length [] = bestN l := by
  obtain ⟨f, h1, h2, h3⟩ := best_fn h64 hz
  have hlow := bestR_low h1 h3 l.length 0 0 id [] (by omega) (PP.init l f)
  rw [h2] at hlow
  rcases bestR_up (l := l) l.length 0 0 f id [] (by omega) (PP.init l f) with h | ⟨f', hN, h⟩
  · omega
  · have := best_np (by omega) hN
    omega
end Py
end

section
/- Walks: the reference's search for the most groups; the fewest payments. -/
set_option linter.unusedVariables false
namespace Py
theorem bestR_bd (l : List Int) : ∀ (k : Nat) (sums : List Int), -1 ≤ bestR l k sums ∧ bestR l k sums ≤ sums.length + k
  | 0, sums => by unfold bestR; split <;> omega
  | k + 1, sums => by
    unfold bestR
    split
    · have := bestR_bd l k sums; push_cast; omega
    · rcases mxTo_is (fun j => bestR l k (sums.set j (at0 sums j + at0 l (l.length - (k + 1))))) (bestR l k (sums ++ [at0 l (l.length - (k + 1))])) sums.length with h | ⟨j, hj, h⟩
      · rw [h]; have := bestR_bd l k (sums ++ [at0 l (l.length - (k + 1))]); simp only [List.length_append, List.length_cons, List.length_nil] at this; push_cast at this ⊢; omega
      · rw [h]; have := bestR_bd l k (sums.set j (at0 sums j + at0 l (l.length - (k + 1)))); simp only [List.length_set] at this; push_cast at this ⊢; omega
theorem at0_app (l : List Int) (v : Int) (i : Nat) : at0 (l ++ [v]) i = if i < l.length then at0 l i else if i = l.length then v else 0 := by
  unfold at0
  rw [List.getD_eq_getElem?_getD, List.getD_eq_getElem?_getD]
  by_cases h : i < l.length
  · rw [if_pos h, List.getElem?_append_left h]
  · rw [if_neg h, List.getElem?_append_right (by omega)]
    by_cases h2 : i = l.length
    · rw [if_pos h2, h2]; simp
    · rw [if_neg h2, List.getElem?_eq_none (by simp; omega)]; rfl
end Py
namespace Go.Proofs.Yteeikpmoboehdaa
open Go Go.Vc Go.RowKit Py
set_option maxHeartbeats 2000000 in
theorem best_go (l : List Int) (A : Option Addr) (c : Nat) (h7 : l.length ≤ 7) (hd : debt l = true) : ∀ (k at_ : Nat) (sums : List Int) (S : Option Addr) (s : Nat) (w : World), at_ + k = l.length → Rd dI w A c l → Rd dI w S s sums → sums.length ≤ at_ →
    (∀ j, j < sums.length → -(100000 * (at_ : Int)) ≤ at0 sums j ∧ at0 sums j ≤ 100000 * (at_ : Int)) →
    Calls Try.prog 80 #[.slice A l.length c, .int .i64 (at_ : Int), .slice S sums.length s] w fun e w' => e = .returned (.int .i64 (bestR l k sums)) ∧ w.grownBy w' none := by
  intro k
  induction k with
  | zero =>
    intro at_ sums S s w hk hA hS hl hb
    refine calls (G := G) (args := [.slice A l.length c, .int .i64 (at_ : Int), .slice S sums.length s]) Try.func80 rfl rfl rfl ?_
    refine M.run rfl <| M.condT rfl (by simp; omega) <| M.run rfl <| M.loop (σ := Nat) (fun i => [(2, .slice S sums.length s), (7, .int .i64 (i : Int))]) (fun i w' => i ≤ sums.length ∧ w.grownBy w' none ∧ ∀ j, j < i → at0 sums j = 0) (fun i => sums.length - i) 0 ⟨rfl, rfl, trivial⟩ ⟨Nat.zero_le _, gr_refl _ _, fun j hj => by omega⟩ ?_
    rintro i w1 ⟨hi, e1, hz⟩
    refine M.run rfl <| M.cond rfl (fun h => ?_) (fun h => ?_)
    · have hlt : i < sums.length := by have := of_decide_eq_true h; omega
      obtain ⟨hS1, hSc⟩ := rd_flat hS hlt
      rw [at0_get hlt] at hSc
      refine M.run rfl <| M.ix rfl (by omega) (by omega) hS1 <| M.ld rfl ((hSc w1 (gr_below e1)).one 0 rfl rfl) <| M.run rfl <| M.cond rfl (fun h2 => ?_) (fun h2 => ?_)
      · have h2' : at0 sums i ≠ 0 := by simpa using h2
        refine M.run rfl <| M.retF rfl rfl ⟨?_, e1⟩
        unfold bestR
        rw [if_neg (fun h => h2' (by have := List.all_eq_true.1 h sums[i] (List.getElem_mem hlt); rw [at0_get hlt] at this; simpa using this))]; rfl
      · have h2' : at0 sums i = 0 := by simpa using h2
        exact M.run rfl <| M.end_ ⟨i + 1, ⟨rfl, nxt hlt (by omega), trivial⟩, ⟨by omega, e1, fun j hj => by
          by_cases e : j = i
          · subst e; exact h2'
          · exact hz j (by omega)⟩, by omega⟩
    · have hin : i = sums.length := by have := of_decide_eq_false h; omega
      subst hin
      refine M.run rfl <| M.retF rfl rfl ⟨?_, e1⟩
      unfold bestR
      rw [if_pos (all_true fun j hj => by rw [at0_get hj]; simp [hz j hj])]; rfl
  | succ k ih =>
    intro at_ sums S s w hk hA hS hl hb
    have hal : at_ < l.length := by omega
    have hsub : l.length - (k + 1) = at_ := by omega
    have hdl := debt_at hd hal
    obtain ⟨hA1, hAc⟩ := rd_flat hA hal
    rw [at0_get hal] at hAc
    refine calls (G := G) (args := [.slice A l.length c, .int .i64 (at_ : Int), .slice S sums.length s]) Try.func80 rfl rfl rfl ?_
    have hn1 : IntKind.i64.wrap ((at_ : Int) + 1) = ((at_ + 1 : Nat) : Int) := by rw [w64 (by omega) (by omega)]; omega
    refine M.run rfl <| M.condF rfl (by simp; omega) <| M.run rfl <| M.ix rfl (by omega) (by omega) hA1 <| M.ld rfl ((hAc w (gr_below (gr_refl _ _))).one 0 rfl rfl) <| M.run rfl <| M.cond rfl (fun h => ?_) (fun h => ?_)
    · have h0 : at0 l at_ = 0 := by simpa using h
      refine M.at_ [35] rfl ?_
      rw [hn1]
      refine M.run rfl <| M.cl rfl (ih (at_ + 1) sums S s w (by omega) hA hS (by omega) (fun j hj => by have := hb j hj; omega)) ?_
      rintro e w1 ⟨rfl, e1⟩
      refine ⟨_, rfl, M.run rfl <| M.retF rfl rfl ⟨?_, e1⟩⟩
      conv => rhs; unfold bestR
      rw [hsub, if_pos h0]; rfl
    have h0 : at0 l at_ ≠ 0 := by simpa using h
    have hR : bestR l (k + 1) sums = mxTo (fun j => bestR l k (sums.set j (at0 sums j + at0 l at_))) (bestR l k (sums ++ [at0 l at_])) sums.length := by
      conv => lhs; unfold bestR
      rw [hsub, if_neg h0]
    refine M.run rfl <| M.drawN w.heap.size (by kernel_rfl) fun w1 e1 => ?_
    have hA' := sl_keep (hA.sinceF (gr_below e1)) e1.size hal
    rw [at0_get hal] at hA'
    refine D.at_ [40] rfl ?_
    rw [hn1]
    refine D.run rfl <| D.ys 8 rfl rfl rfl (YS.ix rfl (by omega) (by omega) hA1) <| D.ld 9 rfl rfl rfl rfl (v := .int .i64 (at0 l at_)) (fun w' hw => (hA'.2 w' hw).one 0 rfl rfl) ?_
    have hS1 := hS.mv e1
    refine D.meet (σ := Option Addr × Nat × Nat) 3 [10, 9, 8, 7, 6, 5, 4, 3, 2, 1, 0] (fun (Y, y, gk) => [(0, .slice A l.length c), (1, .int .i64 (at_ : Int)), (2, .slice S sums.length s), (38, .slice A l.length c), (40, .int .i64 ((at_ + 1 : Nat) : Int)), (43, .slice Y sums.length y), (48, .slice (some ⟨gk, 0, none⟩) 1 1)])
      (fun (Y, y, gk) w' => w1.grownBy w' none ∧ Vc.Own dI 3 w' w1.heap.size no Y y sums ∧ Blk w' gk [.int .i64 (at0 l at_)] 3 ∧ w1.heap.size ≤ gk ∧ ∀ b, blkOf Y = some b → b ≠ gk) (fun hcont => ?_) ?_
    · refine D.two 3 10 rfl rfl rfl ?_ ?_
      · refine M.bs0 rfl fun gi wi bi ei li => M.run rfl <| M.end_ ⟨.inr (Keep.of0 ei), ?_⟩
        have hSi := hS1.mv ei
        refine D.two 5 10 rfl rfl rfl ?_ ?_
        · refine M.appS (d := dI) rfl rfl (own_bs0 dI no bi li) rfl (by decide) rfl (ys := sums) rfl (rd_nil hSi) (rd_src hSi) ei.size (by simp; omega) (by decide) fun Y y wj hY ej hatj => M.run rfl <| M.end_ ⟨.inr (Keep.of ej (by rintro g ⟨⟩; exact Nat.le_trans e1.size li)), ?_⟩
          have e0j := (own_bs0 dI no bi li).gr ei ej (Nat.le_refl _)
          rw [List.nil_append] at hY
          refine D.one 10 rfl rfl <| M.bs rfl fun gk wk bk ek lk => M.run rfl <| M.end_ ⟨.inr (Keep.of0 ek), D.weak rfl ?_ (hcont (Y, y, gk) wk ⟨gr_trans e0j ek, hY.mv0 ek, bk, Nat.le_trans e0j.size lk, fun b hb => by have := (hY.blkGe b hb).2; omega⟩)⟩
          exact ⟨rfl, rfl, rfl, rfl, rfl, rfl, rfl, trivial⟩
        · refine M.bs rfl fun gk wk bk ek lk => M.run rfl <| M.end_ ⟨.inr (Keep.of0 ek), ?_⟩
          have hOi := (own_bs0 dI (w := wi) no bi li).mv0 ek
          refine D.one 5 rfl rfl <| M.appS (d := dI) rfl rfl hOi rfl (by decide) rfl (ys := sums) rfl (rd_nil hSi) (rd_src (hSi.mv ek)) (gr_trans ei ek).size (by simp; omega) (by decide) fun Y y wj hY ej hatj => M.run rfl <| M.end_ ⟨.inr (Keep.of ej (by rintro g ⟨⟩; exact Nat.le_trans e1.size li)), ?_⟩
          have e0j := hOi.gr (gr_trans ei ek) ej (Nat.le_refl _)
          rw [List.nil_append] at hY
          have hgik : gi ≠ gk := by have := bi.lt; omega
          refine D.weak rfl ?_ (hcont (Y, y, gk) wj ⟨e0j, hY, bk.mv ej (fun hh => hgik (by injection hh)), Nat.le_trans ei.size lk, fun b hb => by
            rcases hatj with h | h
            · rw [h] at hb; injection hb with hb; exact fun e => hgik (hb.trans e)
            · rw [h] at hb; injection hb with hb; have := bk.lt; omega⟩)
          exact ⟨rfl, rfl, rfl, rfl, rfl, rfl, rfl, trivial⟩
      · refine M.bs rfl fun gk wk bk ek lk => M.run rfl <| M.end_ ⟨.inr (Keep.of0 ek), D.one 3 rfl rfl <| M.bs0 rfl fun gi wi bi ei li => M.run rfl <| M.end_ ⟨.inr (Keep.of0 ei), ?_⟩⟩
        have hOi := own_bs0 dI (w := wi) no bi (Nat.le_trans ek.size li)
        have hSi := (hS1.mv ek).mv ei
        refine D.one 5 rfl rfl <| M.appS (d := dI) rfl rfl hOi rfl (by decide) rfl (ys := sums) rfl (rd_nil hSi) (rd_src hSi) (gr_trans ek ei).size (by simp; omega) (by decide) fun Y y wj hY ej hatj => M.run rfl <| M.end_ ⟨.inr (Keep.of ej (by rintro g ⟨⟩; exact Nat.le_trans e1.size (Nat.le_trans ek.size li))), ?_⟩
        have e0j := hOi.gr (gr_trans ek ei) ej (Nat.le_refl _)
        rw [List.nil_append] at hY
        have hgik : gi ≠ gk := by have := bk.lt; omega
        refine D.weak rfl ?_ (hcont (Y, y, gk) wj ⟨e0j, hY, (bk.mv0 ei).mv ej (fun hh => hgik (by injection hh)), lk, fun b hb => by
            rcases hatj with h | h
            · rw [h] at hb; injection hb with hb; exact fun e => hgik (hb.trans e)
            · rw [h] at hb; injection hb with hb; have := (bk.mv0 ei).lt; omega⟩)
        exact ⟨rfl, rfl, rfl, rfl, rfl, rfl, rfl, trivial⟩
    rintro ⟨Y, y, gk⟩ w2 ⟨e12, hY, bk, lk, hYk⟩
    refine D.one 11 rfl rfl <| M.app (d := dI) rfl rfl hY rfl (by decide) rfl (ys := [at0 l at_]) rfl rfl (src_one bk rfl) e12.size (by simp only [List.length_cons, List.length_nil]; omega) (by decide) fun Z z w3 hZ e3 hat => M.run rfl <| M.end_ ⟨.inr (Keep.of e3 (fun g hg => Nat.le_trans e1.size (hY.blkGe g hg).1)), ?_⟩
    have e13 := hY.gr e12 e3 (Nat.le_refl _)
    have e03 := gr_trans e1 e13
    refine D.one 12 rfl rfl <| M.cl rfl (ih (at_ + 1) (sums ++ [at0 l at_]) Z z w3 (by omega) (hA.mv e03) (hZ.rd (by decide)) (by simp; omega) (fun j hj => ?_)) ?_
    · rw [at0_app]
      split
      · have := hb j (by assumption); omega
      · split <;> omega
    rintro e w4 ⟨rfl, e4⟩
    have e04 := gr_trans e03 e4
    refine ⟨_, rfl, M.run rfl <| M.end_ ⟨.inr (Keep.of0 e4), D.run rfl <| D.done_ rfl <| M.run rfl <|
      M.loop (σ := Nat) (fun j => [(0, .slice A l.length c), (1, .int .i64 (at_ : Int)), (2, .slice S sums.length s), (8, .int .i64 (mxTo (fun j => bestR l k (sums.set j (at0 sums j + at0 l at_))) (bestR l k (sums ++ [at0 l at_])) j)), (9, .int .i64 (j : Int))]) (fun j w' => j ≤ sums.length ∧ w.grownBy w' none) (fun j => sums.length - j) 0 ⟨rfl, rfl, rfl, rfl, rfl, trivial⟩ ⟨Nat.zero_le _, e04⟩ ?_⟩⟩
    rintro j w5 ⟨hj, e5⟩
    refine M.run rfl <| M.cond rfl (fun h => ?_) (fun h => ?_)
    rotate_left
    · have hin : j = sums.length := by have := of_decide_eq_false h; omega
      subst hin
      refine M.run rfl <| M.retF rfl rfl ⟨?_, e5⟩
      rw [hR]; rfl
    have hlt : j < sums.length := by have := of_decide_eq_true h; omega
    have hbj := hb j hlt
    refine M.run rfl <| M.bs0 rfl fun g6 w6 b6 e6 l6 => M.run rfl <| M.appS (d := dI) rfl rfl (own_bs0 dI no b6 l6) rfl (by decide) rfl (ys := sums) rfl (rd_nil hS) (rd_src ((hS.mv e5).mv e6)) e6.size (by simp; omega) (by decide) fun X x w7 hX e7 hat7 => ?_
    have e57 := (own_bs0 dI no b6 l6).gr e6 e7 (Nat.le_refl _)
    rw [List.nil_append] at hX ⊢
    have e07 := gr_trans e5 e57
    obtain ⟨g, cur, rfl, hg5, bX, hlX, hcX, hset⟩ := own_int hX hlt
    refine M.run rfl <| M.drawG [10] (by kernel_rfl) fun w8 e8 => ?_
    refine D.run rfl <| D.ys 2 rfl rfl rfl (YS.ix rfl (by omega) (by omega) rfl) <| D.ld 3 rfl rfl rfl rfl (v := .int .i64 (at0 sums j)) (fun w' hw => by rw [← at0_get hlt]; show w'.cell? ((adOf (some (⟨g, 0, none⟩ : Addr))).add (j * 1)) = _; rw [ad1]; exact own_cell hX hlt rfl (gr_trans e8 hw) (by simp)) <|
      D.ys 6 rfl rfl rfl (YS.ix rfl (by omega) (by omega) hA1) <| D.ld 7 rfl rfl rfl rfl (v := .int .i64 (at0 l at_)) (fun w' hw => (hAc w' (gr_below (gr_trans (gr_trans e07 e8) hw))).one 0 rfl rfl) <| D.run rfl ?_
    rw [w64 (x := at0 sums j + at0 l at_) (by omega) (by omega)]
    refine D.ys 9 rfl rfl rfl (YS.ix rfl (by omega) (by omega) rfl) <| D.one 10 rfl rfl <| M.storeA (cs := cur) (off := j) (vs := [.int .i64 (at0 sums j + at0 l at_)]) rfl rfl (by show (adOf (some (⟨g, 0, none⟩ : Addr))).add (j * 1) = _; rw [ad1]) (bX.mv0 e8) (by simp; omega) rfl fun w9 b9 e9 => M.run rfl <| M.end_ ⟨.inl ⟨rfl, trivial⟩, D.done_ rfl ?_⟩
    have hX9 := hset _ w9 b9
    have e09 := gr_fresh (gr_trans e07 e8) e9 (Nat.le_trans e5.size hg5)
    refine M.at_ [73] rfl ?_
    rw [hn1]
    have hc := ih (at_ + 1) (sums.set j (at0 sums j + at0 l at_)) (some ⟨g, 0, none⟩) x w9 (by omega) (hA.mv e09) (hX9.rd (by decide)) (by simp; omega) (fun i hi => by
      rw [at0_set hlt]
      split
      · omega
      · have := hb i (by simpa using hi); omega)
    rw [List.length_set] at hc
    refine M.run rfl <| M.cl rfl hc ?_
    rintro e w10 ⟨rfl, e10⟩
    exact ⟨_, rfl, M.run rfl <| M.end_ ⟨j + 1, ⟨rfl, rfl, rfl, rfl, nxt hlt (by omega), trivial⟩, ⟨by omega, gr_trans e09 e10⟩, by omega⟩⟩
theorem Best_go (l : List Int) (A : Option Addr) (c : Nat) (w : World) (hA : Rd dI w A c l) (hz : balF l = 0) : Calls Try.prog 49 #[.slice A l.length c] w fun e w' => e = .returned (.int .i64 ((best l).length : Int)) ∧ w.grownBy w' none := by
  obtain ⟨h7, h0, hd, hsum⟩ := balF_ok hz
  refine calls (G := G) (args := [.slice A l.length c]) Try.func49 rfl rfl rfl ?_
  have hc := best_go l A c h7 hd l.length 0 [] none 0 w (by omega) hA (rd_empty _ _) (by simp) (fun j hj => by simp at hj)
  rw [best_ref (by omega) hsum] at hc
  refine M.run rfl <| M.cl rfl hc ?_
  rintro e w1 ⟨rfl, e1⟩
  exact ⟨_, rfl, M.run rfl <| M.retF rfl rfl ⟨rfl, e1⟩⟩
def nzc (l : List Int) (m : Nat) : Int := sumTo (fun i => if at0 l i = 0 then 0 else 1) m
theorem nzc_all (l : List Int) : nzc l l.length = l.length - zeros l := by
  have : nzc l l.length + zeros l = l.length := by
    unfold nzc zeros
    rw [← sumTo_add, sumTo_congr (g := fun _ => 1) _ (fun i hi => by by_cases h : at0 l i = 0 <;> simp [h])]
    have : ∀ n : Nat, sumTo (fun _ => 1) n = n := fun n => by
      induction n with
      | zero => rfl
      | succ n ih => simp only [sumTo, ih]; omega
    exact this _
  omega
theorem nzc_bd (l : List Int) : ∀ m : Nat, 0 ≤ nzc l m ∧ nzc l m ≤ m
  | 0 => by simp [nzc, sumTo]
  | m + 1 => by
    have := nzc_bd l m
    unfold nzc at this ⊢
    simp only [sumTo]
    push_cast
    split <;> omega
theorem Fewest_go (l : List Int) (A : Option Addr) (c : Nat) (w : World) (hA : Rd dI w A c l) (hz : balF l = 0) : Calls Try.prog 36 #[.slice A l.length c] w fun e w' => e = .returned (.int .i64 ((l.length : Int) - zeros l - (best l).length)) ∧ w.grownBy w' none := by
  obtain ⟨h7, h0, hd, hsum⟩ := balF_ok hz
  refine calls (G := G) (args := [.slice A l.length c]) Try.func36 rfl rfl rfl ?_
  refine M.run rfl <| M.loop (σ := Nat) (fun i => [(0, .slice A l.length c), (3, .int .i64 (nzc l i)), (4, .int .i64 (i : Int))]) (fun i w' => i ≤ l.length ∧ w.grownBy w' none) (fun i => l.length - i) 0 ⟨rfl, rfl, rfl, trivial⟩ ⟨Nat.zero_le _, gr_refl _ _⟩ ?_
  rintro i w1 ⟨hi, e1⟩
  have hnb := nzc_bd l i
  refine M.run rfl <| M.cond rfl (fun h => ?_) (fun h => ?_)
  · have hlt : i < l.length := by have := of_decide_eq_true h; omega
    obtain ⟨hA1, hAc⟩ := rd_flat hA hlt
    rw [at0_get hlt] at hAc
    refine M.run rfl <| M.ix rfl (by omega) (by omega) hA1 <| M.ld rfl ((hAc w1 (gr_below e1)).one 0 rfl rfl) <| M.run rfl <| M.cond rfl (fun h2 => ?_) (fun h2 => ?_)
    · have h2' : at0 l i ≠ 0 := by simpa using h2
      refine M.run rfl <| M.end_ ⟨i + 1, ⟨rfl, ?_, nxt hlt (by omega), trivial⟩, ⟨by omega, e1⟩, by omega⟩
      show some (Value.int .i64 (IntKind.i64.wrap (nzc l i + 1))) = _
      rw [w64 (by omega) (by omega)]
      unfold nzc; simp only [sumTo]; rw [if_neg h2']
    · have h2' : at0 l i = 0 := by simpa using h2
      refine M.run rfl <| M.end_ ⟨i + 1, ⟨rfl, ?_, nxt hlt (by omega), trivial⟩, ⟨by omega, e1⟩, by omega⟩
      show some (Value.int .i64 (nzc l i)) = _
      unfold nzc; simp only [sumTo]; rw [if_pos h2', Int.add_zero]
  · have hin : i = l.length := by have := of_decide_eq_false h; omega
    subst hin
    refine M.run rfl <| M.cl rfl (Best_go l A c w1 (hA.mv e1) hz) ?_
    rintro e w2 ⟨rfl, e2⟩
    have hbl : (best l).length ≤ 128 := by
      have := grp_len l (nzm l l.length); have := nzm_lt l h7; unfold best; omega
    refine ⟨_, rfl, M.run rfl <| M.retF rfl rfl ⟨?_, gr_trans e1 e2⟩⟩
    rw [nzc_all] at hnb ⊢
    rw [w64 (by omega) (by omega)]; rfl
end Go.Proofs.Yteeikpmoboehdaa
end

section
/- Walk: the law PaySettles. -/
set_option linter.unusedVariables false
namespace Go.Proofs.Yteeikpmoboehdaa
open Go Go.Vc Go.RowKit Py
set_option maxHeartbeats 2000000 in
set_option maxRecDepth 100000 in
theorem PaySettles_go (l : List Int) (ps : List Pmt) (many : Int) (A : Option Addr) (c : Nat) (B : Option Addr) (b : Nat) (w : World) (hA : Rd dI w A c l) (hB : Rd dPmt w B b ps) :
    Calls Try.prog 5 #[.slice A l.length c, .slice B ps.length b, .int .i64 many] w fun e w' => e = .returned (.bool true) ∧ w.grownBy w' none := by
  refine calls (G := G) (args := [.slice A l.length c, .slice B ps.length b, .int .i64 many]) Try.func5 rfl rfl rfl ?_
  refine M.at_ [14] rfl <| M.case 14 rfl (fun h => ?_) (fun h => ?_)
  · refine M.run rfl <| M.condT rfl rfl <| M.run rfl <| M.cl rfl (awake_go w) ?_
    rintro e w1 ⟨rfl, e1⟩
    exact ⟨_, rfl, M.run rfl <| M.retF rfl rfl ⟨rfl, e1⟩⟩
  have hl9 := of_decide_eq_false h
  refine M.run rfl <| M.cond rfl (fun h => ?_) (fun h => ?_)
  · refine M.run rfl <| M.cl rfl (awake_go w) ?_
    rintro e w1 ⟨rfl, e1⟩
    exact ⟨_, rfl, M.run rfl <| M.retF rfl rfl ⟨rfl, e1⟩⟩
  have hp12 := of_decide_eq_false h
  refine M.run rfl <| M.cl rfl (list_go l A c w hA (by omega)) ?_
  rintro e w1 ⟨X1, x1, rfl, hX1, e1⟩
  refine ⟨_, rfl, M.run rfl <| M.cl rfl (Settle_go l X1 x1 w1 (hX1.rd (by decide))) ?_⟩
  rintro e w2 ⟨xs, Z, z, rfl, hZ, e2, hbad, hgood⟩
  have e02 := gr_trans e1 e2
  refine ⟨_, rfl, M.run rfl <| M.cl rfl (list_go l A c w2 (hA.mv e02) (by omega)) ?_⟩
  rintro e w3 ⟨X3, x3, rfl, hX3, e3⟩
  have e03 := gr_trans e02 e3
  refine ⟨_, rfl, M.run rfl <| M.cl rfl (Payments_go ps B b w3 (hB.mv e03) (by omega)) ?_⟩
  rintro e w4 ⟨X4, x4, rfl, hX4, e4⟩
  refine ⟨_, rfl, M.run rfl <| M.cl rfl (ProveSettled_go l ps many X3 x3 X4 x4 w4 (Rd.mv (hX3.rd (by decide)) e4) (hX4.rd (by decide)) (by omega)) ?_⟩
  rintro e w5 ⟨rfl, e5⟩
  have e05 := gr_trans (gr_trans e03 e4) e5
  refine ⟨_, rfl, M.run rfl <| M.cl rfl (BalancesFault_go l A c w5 (hA.mv e05)) ?_⟩
  rintro e w6 ⟨rfl, e6⟩
  have e06 := gr_trans e05 e6
  have hZ6 : Rd dPmt w6 Z z xs := Rd.mv (hZ.rd (by decide)) (gr_trans (gr_trans (gr_trans e3 e4) e5) e6)
  by_cases hz : balF l = 0
  · have hg := hgood hz
    rw [hz]
    refine ⟨_, rfl, M.at_ [37] rfl <| M.caseT 37 rfl rfl <| M.run rfl <| M.cl rfl (RefSettles_go l ps A c B b w6 (hA.mv e06) (hB.mv e06) (by omega) hz) ?_⟩
    rintro e w7 ⟨rfl, e7⟩
    have e07 := gr_trans e06 e7
    have hkey : proveS l ps many = (settlesB l ps && decide ((ps.length : Int) ≤ many)) := by
      unfold proveS; rw [hz]; simp [Bool.and_comm]
    rw [hkey]
    cases hS : settlesB l ps
    refine ⟨_, rfl, M.at_ [42] rfl <| M.caseF 42 rfl rfl <| M.run rfl <| M.condF rfl (by simp) ?_⟩
    rotate_left
    refine ⟨_, rfl, M.at_ [42] rfl <| M.caseT 42 rfl rfl <| M.run rfl <| M.condF rfl (by simp) ?_⟩
    all_goals
      refine M.run rfl <| M.condF rfl rfl <| M.at_ [64] rfl <| M.caseT 64 rfl rfl <| M.run rfl <| M.cl rfl (Fewest_go l A c w7 (hA.mv e07) hz) ?_
      rintro e w8 ⟨rfl, e8⟩
      have e08 := gr_trans e07 e8
      have hlen := hg.len hz
      have hx7 : xs.length ≤ 1000000 := by have := nzc_all l; have := nzc_bd l l.length; omega
      have hZ8 : Rd dPmt w8 Z z xs := hZ6.mv (gr_trans e7 e8)
      refine ⟨_, rfl, M.at_ [71] rfl <| M.caseT 71 rfl (by simp [hlen]) <| M.run rfl <| M.cl rfl (Back_go xs Z z w8 hZ8 hx7) ?_⟩
      rintro e w9 ⟨Y, y, rfl, hY, e9⟩
      have e09 := gr_trans e08 e9
      refine ⟨_, rfl, M.run rfl <| M.cl rfl (RefSettles_go l xs A c Y y w9 (hA.mv e09) (hY.rd (by decide)) hx7 hz) ?_⟩
      rintro e w10 ⟨rfl, e10⟩
      have e010 := gr_trans e09 e10
      refine ⟨_, rfl, M.at_ [77] rfl <| M.caseT 77 rfl hg.1 <| M.run rfl <| M.cl rfl (awake_go w10) ?_⟩
      rintro e w11 ⟨rfl, e11⟩
      exact ⟨_, rfl, M.run rfl <| M.retF rfl rfl ⟨rfl, gr_trans e010 e11⟩⟩
  · have hx := hbad hz
    subst hx
    have hpf : proveS l ps many = false := by unfold proveS; simp [hz]
    rw [hpf]
    refine ⟨_, rfl, M.at_ [37] rfl <| M.caseF 37 rfl (by simp [hz]) <| M.at_ [42] rfl <| M.caseF 42 rfl rfl <| M.run rfl <| M.condF rfl rfl <| M.run rfl <| M.condT rfl (by simp [hz]) <| M.at_ [54] rfl <| M.caseT 54 rfl (by simp) <| M.at_ [59] rfl <| M.caseT 59 rfl rfl <| M.run rfl <| M.cl rfl (awake_go w6) ?_⟩
    rintro e w7 ⟨rfl, e7⟩
    exact ⟨_, rfl, M.run rfl <| M.retF rfl rfl ⟨rfl, gr_trans e06 e7⟩⟩
end Go.Proofs.Yteeikpmoboehdaa
end

section
/- Lists that are groups: the program's are; any others are not more. -/
set_option linter.unusedVariables false
namespace Py
def lsum (l g : List Int) : Int := (g.map fun x => at0 l x.toNat).sum
theorem gsum_lsum (l g : List Int) : ∀ m, m ≤ g.length → gsum l g m = lsum l (g.take m)
  | 0, _ => by simp [gsum, sumTo, lsum]
  | m + 1, h => by
    have ih := gsum_lsum l g m (by omega)
    rw [take_next g (by omega)]
    unfold gsum at ih ⊢
    simp only [sumTo, ih]
    simp [lsum]
theorem gsum_all (l g : List Int) : gsum l g g.length = lsum l g := by rw [gsum_lsum l g _ (Nat.le_refl _), List.take_length]
theorem sum_contains (l : List Int) (n : Nat) : ∀ g : List Int, (∀ x ∈ g, 0 ≤ x ∧ x < n) → g.Nodup → sumTo (fun i => if g.contains (i : Int) then at0 l i else 0) n = lsum l g
  | [], _, _ => by
    simp only [List.contains_nil, Bool.false_eq_true, if_false, sumTo_zero]; rfl
  | x :: g, h, hn => by
    obtain ⟨hx, hg⟩ := List.nodup_cons.1 hn
    have ih := sum_contains l n g (fun y hy => h y (List.mem_cons_of_mem _ hy)) hg
    have hx0 := h x List.mem_cons_self
    have e : sumTo (fun i => if (x :: g).contains (i : Int) then at0 l i else 0) n = sumTo (fun i => (if i = x.toNat then at0 l x.toNat else 0) + (if g.contains (i : Int) then at0 l i else 0)) n := by
      apply sumTo_congr
      intro i _
      by_cases hi : i = x.toNat
      · have hix : (i : Int) = x := by omega
        have : g.contains (i : Int) = false := by rw [hix]; simpa using hx
        rw [if_pos hi, this, hix]; simp [hi]
      · have hix : (i : Int) ≠ x := by omega
        rw [if_neg hi]
        simp [hix]
    rw [e, sumTo_add, sumTo_single (fun _ => at0 l x.toNat), if_pos (by omega), ih]
    simp [lsum]
theorem setL_pair (s : Nat) : (setL s).Pairwise (· < ·) := by
  unfold setL setTo
  rw [List.pairwise_map]
  refine List.Pairwise.imp (fun h => by omega) (List.Pairwise.filter _ List.pairwise_lt_range)
theorem pair_nodup {g : List Int} (h : g.Pairwise (· < ·)) : g.Nodup := h.imp (fun h => by omega)
theorem pair_at {g : List Int} (h : g.Pairwise (· < ·)) {i j : Nat} (hij : i < j) (hj : j < g.length) : at0 g i < at0 g j := by
  have := List.pairwise_iff_getElem.1 h i j (by omega) hj hij
  rw [at0_get (show i < g.length by omega), at0_get hj] at this
  exact this
theorem take_mem {g : List Int} {i : Nat} {x : Int} (hx : x ∈ g.take i) : ∃ j, j < i ∧ j < g.length ∧ at0 g j = x := by
  obtain ⟨j, hj, rfl⟩ := List.mem_iff_getElem.1 hx
  rw [List.length_take] at hj
  exact ⟨j, by omega, by omega, by rw [List.getElem_take, at0_get (show j < g.length by omega)]⟩
theorem setL_contains {s i : Nat} (hi : i < 64) : (setL s).contains (i : Int) = s.testBit i := by
  rw [Bool.eq_iff_iff, List.contains_iff_mem, setL_mem]
  constructor
  · rintro ⟨j, _, h, e⟩
    have : i = j := by omega
    subst this; exact h
  · intro h; exact ⟨i, hi, h, rfl⟩
theorem lsum_setL (l : List Int) {s : Nat} (h64 : l.length ≤ 64) (hs : s < 2 ^ l.length) : lsum l (setL s) = bsum l s := by
  rw [← sum_contains l l.length (setL s) (fun x hx => by
    obtain ⟨i, _, hb, rfl⟩ := setL_mem.1 hx
    have := bit_lt hs hb; omega) (pair_nodup (setL_pair s)), bsum_if]
  exact sumTo_congr _ (fun i hi => by rw [setL_contains (by omega)])
theorem GL.pair {l : List Int} {left : Nat} {gs : List Nat} (h : GL l left gs) : gs.Pairwise (fun s t => ∀ i, s.testBit i = true → t.testBit i = false) := by
  induction h with
  | nil => exact List.Pairwise.nil
  | @cons left s gs h0 hs hf hz h ih =>
    refine List.Pairwise.cons (fun t ht i hi => ?_) ih
    have := (h.mem t ht).1 i
    rw [dif_bit, hi] at this
    cases hb : t.testBit i with
    | false => rfl
    | true => exact absurd (this hb) (by simp)
theorem GL.cover {l : List Int} {left : Nat} {gs : List Nat} (h : GL l left gs) {i : Nat} (hi : left.testBit i = true) : ∃ s ∈ gs, s.testBit i = true := by
  induction h with
  | nil => simp at hi
  | @cons left s gs h0 hs hf hz h ih =>
    cases hb : s.testBit i with
    | true => exact ⟨s, List.mem_cons_self, hb⟩
    | false =>
      obtain ⟨t, ht, hti⟩ := ih (by rw [dif_bit, hi, hb]; rfl)
      exact ⟨t, List.mem_cons_of_mem _ ht, hti⟩
theorem GL.rise {l : List Int} {left : Nat} {gs : List Nat} (h : GL l left gs) (h64 : left < 2 ^ 64) : (gs.map low).Pairwise (· < ·) ∧ ∀ s ∈ gs, low left ≤ low s ∧ left.testBit (low s) = true := by
  induction h with
  | nil => simp
  | @cons left s gs h0 hs hf hz h ih =>
    have hlt := dif_lt (ne_of_bit hf) hs
    obtain ⟨i1, i2⟩ := ih (by omega)
    obtain ⟨hp, hmin⟩ := low_spec h0 h64
    have hsl : s < 2 ^ 64 := Nat.lt_of_le_of_lt (sub_le hs) h64
    obtain ⟨sp, smin⟩ := low_spec (ne_of_bit hf) hsl
    have hlow : low s = low left := Nat.le_antisymm (smin _ hf) (hmin _ (hs _ sp))
    refine ⟨?_, fun t ht => ?_⟩
    · rw [List.map_cons]
      refine List.Pairwise.cons (fun x hx => ?_) i1
      obtain ⟨t, ht, rfl⟩ := List.mem_map.1 hx
      obtain ⟨_, hb⟩ := i2 t ht
      rw [dif_bit, Bool.and_eq_true] at hb
      have h1 := hmin _ hb.1
      rw [hlow]
      rcases Nat.lt_or_eq_of_le h1 with h2 | h2
      · exact h2
      · rw [← h2, hf] at hb; exact absurd hb.2 (by simp)
    · rcases List.mem_cons.1 ht with rfl | ht
      · exact ⟨by omega, by rw [hlow]; exact hp⟩
      · obtain ⟨_, hb⟩ := i2 t ht
        rw [dif_bit, Bool.and_eq_true] at hb
        exact ⟨hmin _ hb.1, hb.1⟩
theorem getD_at {α : Type} (l : List α) (x : α) {i : Nat} (h : i < l.length) : l.getD i x = l[i] := by simp [List.getD, h]
/-- the program's groups are groups -/
theorem groups_are {l : List Int} (hb : balF l = 0) : areG l ((best l).map setL) = true := by
  obtain ⟨h7, h0, hd, hsum⟩ := balF_ok hb
  have hg := best_gl hb
  have hlt : ∀ s ∈ best l, s < 2 ^ l.length := fun s hs => Nat.lt_of_le_of_lt (sub_le (hg.mem s hs).1) (maskOf_lt _ _)
  unfold areG
  rw [Bool.and_eq_true]
  constructor
  · refine range_true fun k hk => ?_
    have hk' : k < (best l).length := by simpa using hk
    rw [getD_at _ _ hk, List.getElem_map]
    have hmem := List.getElem_mem hk'
    obtain ⟨hsub, hne, hz⟩ := hg.mem _ hmem
    have hsl := hlt _ hmem
    have hpair := setL_pair (best l)[k]
    have hin : ∀ x ∈ setL (best l)[k], 0 ≤ x ∧ x < l.length ∧ (best l)[k].testBit x.toNat = true := fun x hx => by
      obtain ⟨i, _, hbi, rfl⟩ := setL_mem.1 hx
      have := bit_lt hsl hbi
      exact ⟨by omega, by omega, hbi⟩
    unfold okG
    rw [gsum_all, lsum_setL l (by omega) hsl, hz]
    have hlen : (setL (best l)[k]).length ≠ 0 := by
      have := (setL_low hne (Nat.lt_of_lt_of_le hsl (Nat.pow_le_pow_right (by decide) (by omega)))).1
      omega
    simp only [hlen, decide_false, Bool.not_false, Bool.and_true, decide_true]
    refine range_true fun i hi => okAt_iff.2 ?_
    have hmi : at0 (setL (best l)[k]) i ∈ setL (best l)[k] := by rw [← at0_get hi]; exact List.getElem_mem hi
    obtain ⟨a1, a2, a3⟩ := hin _ hmi
    refine ⟨⟨a1, a2⟩, ?_, ?_, ?_⟩
    · by_cases e : i = 0
      · exact .inl e
      · exact .inr (pair_at hpair (by omega) hi)
    · have := hsub _ a3
      rw [nzm_bit l (by omega)] at this
      simpa [nz] using this
    · cases hc : (preG ((best l).map setL) k ++ (setL (best l)[k]).take i).contains (at0 (setL (best l)[k]) i) with
      | false => rfl
      | true =>
        exfalso
        rw [List.contains_iff_mem, List.mem_append] at hc
        rcases hc with hc | hc
        · unfold preG at hc
          rw [← List.map_take, List.mem_flatten] at hc
          obtain ⟨g, hg1, hg2⟩ := hc
          obtain ⟨t, ht, rfl⟩ := List.mem_map.1 hg1
          obtain ⟨j, hj, rfl⟩ := List.mem_iff_getElem.1 ht
          rw [List.length_take] at hj
          obtain ⟨q, _, hq, he⟩ := setL_mem.1 hg2
          have hjk : j < k := by omega
          have hp := List.pairwise_iff_getElem.1 hg.pair j k (by omega) hk' hjk q (by rw [List.getElem_take] at hq; exact hq)
          have : (at0 (setL (best l)[k]) i).toNat = q := by omega
          rw [this, hp] at a3; cases a3
        · obtain ⟨j, hj, hjl, he⟩ := take_mem hc
          have := pair_at hpair hj hi
          omega
  · refine range_true fun s hs => ?_
    by_cases h : at0 l s = 0
    · simp [h]
    · have hb2 : (nzm l l.length).testBit s = true := by rw [nzm_bit l hs]; simp [nz, h]
      obtain ⟨t, ht, hts⟩ := hg.cover hb2
      have : ((best l).map setL).flatten.contains (s : Int) = true := by
        rw [List.contains_iff_mem, List.mem_flatten]
        exact ⟨setL t, List.mem_map.2 ⟨t, ht, rfl⟩, setL_mem.2 ⟨s, by omega, hts, rfl⟩⟩
      rw [this, Bool.or_true]
/-- the first stations of the program's groups rise -/
theorem groups_rise {l : List Int} (hb : balF l = 0) {i : Nat} (hi : i + 1 < ((best l).map setL).length) :
    0 < (((best l).map setL)[i]).length ∧ 0 < (((best l).map setL)[i + 1]).length ∧ at0 (((best l).map setL)[i]) 0 < at0 (((best l).map setL)[i + 1]) 0 := by
  obtain ⟨h7, _⟩ := balF_ok hb
  have hg := best_gl hb
  have hi' : i + 1 < (best l).length := by simpa using hi
  have h64 : ∀ s ∈ best l, s ≠ 0 ∧ s < 2 ^ 64 := fun s hs => ⟨(hg.mem s hs).2.1, by have := best_lt hb hs; omega⟩
  obtain ⟨hr, _⟩ := hg.rise (by have := nzm_lt l h7; omega)
  rw [List.getElem_map, List.getElem_map]
  obtain ⟨a1, a2⟩ := h64 _ (List.getElem_mem (show i < (best l).length by omega))
  obtain ⟨b1, b2⟩ := h64 _ (List.getElem_mem hi')
  obtain ⟨c1, c2⟩ := setL_low a1 a2
  obtain ⟨d1, d2⟩ := setL_low b1 b2
  refine ⟨c1, d1, ?_⟩
  rw [c2, d2]
  have := List.pairwise_iff_getElem.1 hr i (i + 1) (by simp; omega) (by simp; omega) (by omega)
  rw [List.getElem_map, List.getElem_map] at this
  omega
/-- any lists that are groups are not more -/
theorem groups_most {l : List Int} (hb : balF l = 0) {gs : List (List Int)} (h : areG l gs = true) : gs.length ≤ (best l).length := by
  obtain ⟨h7, h0, hd, hsum⟩ := balF_ok hb
  unfold areG at h
  rw [Bool.and_eq_true] at h
  obtain ⟨h1, h2⟩ := h
  have hok : ∀ k, (hk : k < gs.length) → okG l (preG gs k) gs[k] = true := fun k hk => by
    have := List.all_eq_true.1 h1 k (List.mem_range.2 hk)
    rw [getD_at _ _ hk] at this; exact this
  have key : ∀ k, k ≤ gs.length → ∃ f, NP l (fun i => (preG gs k).contains (i : Int)) f ∧ reps l.length (fun i => (preG gs k).contains (i : Int)) f = k := by
    intro k
    induction k with
    | zero =>
      intro _
      refine ⟨id, ⟨fun i _ h => by simp [preG] at h, fun i _ h => by simp [preG] at h⟩, ?_⟩
      unfold reps
      rw [sumTo_congr (g := fun _ => 0) _ (fun i _ => by simp [preG]), sumTo_zero]; rfl
    | succ k ih =>
      intro hk
      obtain ⟨f, hN, hr⟩ := ih (by omega)
      have hkk : k < gs.length := by omega
      have ho := hok k hkk
      rw [pre_next hkk]
      generalize hg : gs[k] = g at ho ⊢
      generalize hp : preG gs k = pre at ho hN hr ⊢
      unfold okG at ho
      simp only [Bool.and_eq_true, Bool.not_eq_true', decide_eq_false_iff_not, decide_eq_true_eq] at ho
      obtain ⟨⟨ho1, ho2⟩, ho3⟩ := ho
      have hat : ∀ i, i < g.length → _ := fun i hi => okAt_iff.1 (List.all_eq_true.1 ho1 i (List.mem_range.2 hi))
      have hpw : ∀ i j, i < j → j < g.length → at0 g i < at0 g j := fun i j hij hj => by
        induction j with
        | zero => omega
        | succ j ihj =>
          have h1 := (hat (j + 1) hj).2.1
          have h1' : at0 g j < at0 g (j + 1) := by
            rcases h1 with h1 | h1
            · omega
            · exact h1
          by_cases e : i = j
          · subst e; exact h1'
          · have := ihj (by omega) (by omega); omega
      have hnd : g.Nodup := pair_nodup (List.pairwise_iff_getElem.2 fun i j hi hj hij => by rw [at0_get hi, at0_get hj]; exact hpw i j hij hj)
      have hin : ∀ x ∈ g, 0 ≤ x ∧ x < l.length ∧ pre.contains x = false := fun x hx => by
        obtain ⟨i, hi, rfl⟩ := List.mem_iff_getElem.1 hx
        rw [at0_get hi]
        obtain ⟨a, _, _, b⟩ := hat i hi
        refine ⟨a.1, a.2, ?_⟩
        cases hc : pre.contains (at0 g i) with
        | false => rfl
        | true =>
          have : (pre ++ g.take i).contains (at0 g i) = true := by
            rw [List.contains_iff_mem] at hc ⊢; exact List.mem_append_left _ hc
          rw [b] at this; cases this
      have hg0 : 0 < g.length := by omega
      have hh := hin _ (List.getElem_mem hg0)
      rw [at0_get hg0] at hh
      generalize hpd : (at0 g 0).toNat = p
      have hp0 : at0 g 0 = (p : Int) := by omega
      have hpn : p < l.length := by omega
      have hgp : g.contains (p : Int) = true := by rw [List.contains_iff_mem, ← hp0, ← at0_get hg0]; exact List.getElem_mem hg0
      have hdis : ∀ i : Nat, g.contains (i : Int) = true → pre.contains (i : Int) = false := fun i hi => (hin _ (List.contains_iff_mem.1 hi)).2.2
      have happ : ∀ i : Nat, (pre ++ g).contains (i : Int) = (pre.contains (i : Int) || g.contains (i : Int)) := fun i => by
        rw [Bool.eq_iff_iff, Bool.or_eq_true]; simp only [List.contains_iff_mem, List.mem_append]
      let f' : Nat → Nat := fun i => if g.contains (i : Int) = true then p else f i
      have fs : ∀ i : Nat, g.contains (i : Int) = true → f' i = p := fun i h => if_pos h
      have fn : ∀ i : Nat, g.contains (i : Int) = false → f' i = f i := fun i h => if_neg (by rw [h]; decide)
      refine ⟨f', ⟨fun i hi hm => ?_, fun q hq hm hfq => ?_⟩, ?_⟩
      · cases hgi : g.contains (i : Int) with
        | true => rw [fs i hgi]; exact ⟨hpn, by rw [happ, hgp, Bool.or_true], fs p hgp⟩
        | false =>
          simp only [happ, hgi, Bool.or_false] at hm
          obtain ⟨a, b, c⟩ := hN.dom i hi hm
          have hgf : g.contains ((f i : Nat) : Int) = false := by
            cases hc : g.contains ((f i : Nat) : Int) with
            | false => rfl
            | true => rw [hdis _ hc] at b; cases b
          rw [fn i hgi, fn (f i) hgf]
          exact ⟨a, by rw [happ, b]; rfl, c⟩
      · cases hgq : g.contains (q : Int) with
        | true =>
          rw [fs q hgq] at hfq
          subst hfq
          refine Eq.trans ?_ ((sum_contains l l.length g (fun x hx => ⟨(hin x hx).1, (hin x hx).2.1⟩) hnd).trans ((gsum_all l g).symm.trans ho3))
          apply sumTo_congr
          intro i hi
          cases hgi : g.contains (i : Int) with
          | true => rw [if_pos ⟨by rw [happ, hgi, Bool.or_true], fs i hgi⟩]; rfl
          | false =>
            rw [if_neg]
            · rfl
            · rintro ⟨h3, h4⟩
              rw [fn i hgi] at h4
              simp only [happ, hgi, Bool.or_false] at h3
              obtain ⟨_, b, _⟩ := hN.dom i hi h3
              rw [h4, hdis _ hgp] at b; cases b
        | false =>
          rw [fn q hgq] at hfq
          simp only [happ, hgq, Bool.or_false] at hm
          refine Eq.trans ?_ (hN.zero q hq hm hfq)
          apply sumTo_congr
          intro i hi
          cases hgi : g.contains (i : Int) with
          | true =>
            rw [if_neg, if_neg]
            · rintro ⟨h3, _⟩; rw [hdis _ hgi] at h3; cases h3
            · rintro ⟨_, h4⟩; rw [fs i hgi] at h4; subst h4; rw [hgp] at hgq; cases hgq
          | false => simp only [fn i hgi, happ, hgi, Bool.or_false]
      · have key : reps l.length (fun i => (pre ++ g).contains (i : Int)) f' = reps l.length (fun i => pre.contains (i : Int)) f + sumTo (fun i => if i = p then (1 : Int) else 0) l.length := by
          unfold reps
          rw [← sumTo_add]
          apply sumTo_congr
          intro q hq
          cases hgq : g.contains (q : Int) with
          | true =>
            simp only [happ, hgq, Bool.or_true, fs q hgq, hdis q hgq]
            by_cases e : q = p
            · subst e; simp
            · rw [if_neg (fun h => e h.2.symm), if_neg (by simp), if_neg e]; rfl
          | false =>
            have e : q ≠ p := by rintro rfl; rw [hgp] at hgq; cases hgq
            simp only [happ, hgq, Bool.or_false, fn q hgq, e, if_false, Int.add_zero]
        rw [key, hr, sumTo_one, if_pos hpn]
        push_cast; rfl
  obtain ⟨f, hN, hr⟩ := key gs.length (Nat.le_refl _)
  have hpre : preG gs gs.length = gs.flatten := by unfold preG; rw [List.take_length]
  rw [hpre] at hN hr
  have hcov : ∀ i, i < l.length → (fun i : Nat => gs.flatten.contains (i : Int)) i = nz l i := fun i hi => by
    have h3 := List.all_eq_true.1 h2 i (List.mem_range.2 hi)
    by_cases hz : at0 l i = 0
    · have : gs.flatten.contains (i : Int) = false := by
        cases hc : gs.flatten.contains (i : Int) with
        | false => rfl
        | true =>
          exfalso
          rw [List.contains_iff_mem, List.mem_flatten] at hc
          obtain ⟨g, hg, hx⟩ := hc
          obtain ⟨k, hk, rfl⟩ := List.mem_iff_getElem.1 hg
          obtain ⟨j, hj, he⟩ := List.mem_iff_getElem.1 hx
          have ho := hok k hk
          unfold okG at ho
          simp only [Bool.and_eq_true] at ho
          have := (okAt_iff.1 (List.all_eq_true.1 ho.1.1 j (List.mem_range.2 hj))).2.2.1
          rw [← at0_get hj, he] at this
          exact this (by simpa using hz)
      simp only [this]; simp [nz, hz]
    · simp only [hz, decide_false, Bool.false_or] at h3
      simp only [h3]; simp [nz, hz]
  have h4 := best_np (l := l) (by omega) (hN.congr hcov)
  rw [← reps_congr hcov, hr] at h4
  exact Int.ofNat_le.1 h4
end Py
end

section
/- Walks: lists of lists, the reference's groups, the law PayGroups. -/
set_option linter.unusedVariables false
namespace Go.Proofs.Yteeikpmoboehdaa
open Go Go.Vc Go.RowKit Py
theorem lists_go (gs : List (List Int)) (B : Option Addr) (b : Nat) (w : World) (hB : Rd dL w B b gs) (hs : gs.length ≤ 1000000) (hg : ∀ g ∈ gs, g.length ≤ 1000000) :
    Calls Try.prog 47 #[.slice B gs.length b] w fun e w' => ∃ X x, e = .returned (.slice X gs.length x) ∧ Rd dL w' X x gs ∧ w.grownBy w' none := by
  refine calls (G := G) (args := [.slice B gs.length b]) Try.func47 rfl rfl rfl ?_
  refine M.run rfl <| M.loop (σ := Nat × Option Addr × Nat) (fun (i, X, x) => [(0, .slice B gs.length b), (3, .slice X (gs.take i).length x), (4, .int .i64 (i : Int))])
    (fun (i, X, x) w' => i ≤ gs.length ∧ w.grownBy w' none ∧ Vc.Own dL 25 w' w.heap.size (fun _ => True) X x (gs.take i)) (fun (i, _) => gs.length - i) (0, none, 0) ⟨rfl, rfl, rfl, trivial⟩ ⟨Nat.zero_le _, gr_refl _ _, Vc.Own.nil _ _ _ _ _⟩ ?_
  rintro ⟨i, X, x⟩ w1 ⟨hi, e1, hX⟩
  refine M.run rfl <| M.cond rfl (fun h => ?_) (fun h => ?_)
  rotate_left
  · have hin : i = gs.length := by have := of_decide_eq_false h; omega
    subst hin
    rw [List.take_length] at hX
    refine M.run rfl <| M.retF rfl rfl ⟨X, x, ?_, hX.rd (by decide), e1⟩
    rw [List.take_length]; rfl
  have hlt : i < gs.length := by have := of_decide_eq_true h; omega
  have htk : gs.take (i + 1) = gs.take i ++ [gs[i]] := by rw [List.take_add_one, List.getElem?_eq_getElem hlt]; rfl
  have hln : (gs.take i).length ≤ 1000000 := by rw [List.length_take]; omega
  obtain ⟨hB1, C, cc, hC, hBc⟩ := rd_el hB hlt
  refine M.run rfl <| M.ix rfl (by omega) (by omega) hB1 <| M.run rfl <| M.ld rfl ((hBc w1 (gr_below e1)).one 0 rfl rfl) <| M.run rfl <| M.cl rfl (list_go gs[i] C cc w1 (hC.mv e1) (hg _ (List.getElem_mem hlt))) ?_
  rintro e w4 ⟨Z, z, rfl, hZ, e4⟩
  refine ⟨_, rfl, M.run rfl <| M.bs rfl fun g5 w5 b5 e5 l5 => M.run rfl ?_⟩
  have hX5 := (hX.mv0 e4).mv0 e5
  have hZ5 : Sl dI w5 (fun b => True ∧ some b ≠ blkOf X) Z z gs[i] := ((hZ.mv0 e5).sl).mono (fun b hb => ⟨trivial, fun he => by
    rcases hb with hb | hb
    · exact hb.elim
    · have := (hX.blkGe b he.symm).2; omega⟩)
  refine M.app (d := dL) rfl rfl hX5 rfl (by decide) rfl (ys := [gs[i]]) rfl rfl (src_one b5 ⟨Z, z, rfl, hZ5⟩) (gr_trans (gr_trans e1 e4) e5).size (by simp only [List.length_cons, List.length_nil]; omega) (by decide) fun X' x' w6 hX6 e6 hat => ?_
  have e06 := hX5.gr (gr_trans (gr_trans e1 e4) e5) e6 (Nat.le_refl _)
  refine M.run rfl <| M.end_ ⟨(i + 1, X', x'), ⟨rfl, ?_, nxt hlt (by omega), trivial⟩, ⟨by omega, e06, by rw [htk]; exact hX6⟩, by simp; omega⟩
  show some (Value.slice X' (gs.take i ++ [gs[i]]).length x') = _
  rw [htk]
def SeenP (n : Nat) (sl : List Bool) (pre : List Int) : Prop := sl.length = n ∧ ∀ s, (h : s < sl.length) → sl[s] = pre.contains (s : Int)
set_option maxHeartbeats 2000000 in
theorem AreGroups_go (l : List Int) (gs : List (List Int)) (A : Option Addr) (c : Nat) (B : Option Addr) (b : Nat) (w : World) (hA : Rd dI w A c l) (hB : Rd dL w B b gs) (hs : ∀ g ∈ gs, g.length ≤ 1000000) (hz : balF l = 0) :
    Calls Try.prog 48 #[.slice A l.length c, .slice B gs.length b] w fun e w' => e = .returned (.bool (areG l gs)) ∧ w.grownBy w' none := by
  obtain ⟨h7, h0, hd, hsum⟩ := balF_ok hz
  refine calls (G := G) (args := [.slice A l.length c, .slice B gs.length b]) Try.func48 rfl rfl rfl ?_
  have hbd := hB.bd
  refine M.run rfl <| M.mk_ rfl (by omega) (by omega) (by show (1 : Int) * (l.length : Int) ≤ _; omega) (by omega) rfl fun gS w1 b1 e1 l1 => ?_
  have hO : Vc.Own dB 4 w1 w.heap.size no (some ⟨gS, 0, none⟩) l.length (List.replicate l.length false) := own_mk (zs := [.bool false]) no false rfl b1 l1 (by simp [maxLen]; omega)
  refine M.run rfl <| M.loop (σ := Nat × List Bool) (fun (k, sl) => [(0, .slice A l.length c), (1, .slice B gs.length b), (5, .slice (some ⟨gS, 0, none⟩) l.length l.length), (6, .int .i64 (k : Int))])
    (fun (k, sl) w' => k ≤ gs.length ∧ w.grownBy w' none ∧ SeenP l.length sl (preG gs k) ∧ Vc.Own dB 4 w' w.heap.size no (some ⟨gS, 0, none⟩) l.length sl ∧ ∀ j, j < k → okG l (preG gs j) (gs.getD j []) = true) (fun (k, _) => gs.length - k) (0, List.replicate l.length false) ⟨rfl, rfl, rfl, rfl, trivial⟩
    ⟨Nat.zero_le _, e1, ⟨by simp, fun s h => by simp [preG]⟩, hO, fun j hj => by omega⟩ ?_
  rintro ⟨k, sl⟩ w2 ⟨hk, e2, hsn, hO2, hok⟩
  refine M.run rfl <| M.cond rfl (fun h => ?_) (fun h => ?_)
  rotate_left
  · have hin : k = gs.length := by have := of_decide_eq_false h; omega
    subst hin
    have hpre : preG gs gs.length = gs.flatten := by unfold preG; rw [List.take_length]
    rw [hpre] at hsn
    have hall := range_true (f := fun k => okG l (preG gs k) (gs.getD k [])) hok
    have hOr : Rd dB w2 (some ⟨gS, 0, none⟩) l.length sl := hO2.rd (by decide)
    refine M.run rfl <| M.loop (σ := Nat) (fun i => [(0, .slice A l.length c), (5, .slice (some ⟨gS, 0, none⟩) l.length l.length), (10, .int .i64 (i : Int))]) (fun i w' => i ≤ l.length ∧ w' = w2 ∧ ∀ j, j < i → (decide (at0 l j = 0) || gs.flatten.contains (j : Int)) = true) (fun i => l.length - i) 0 ⟨rfl, rfl, rfl, trivial⟩ ⟨Nat.zero_le _, rfl, fun j hj => by omega⟩ ?_
    rintro i w3 ⟨hi, rfl, hlast⟩
    refine M.run rfl <| M.cond rfl (fun h => ?_) (fun h => ?_)
    rotate_left
    · have hin : i = l.length := by have := of_decide_eq_false h; omega
      subst hin
      refine M.run rfl <| M.retF rfl rfl ⟨?_, e2⟩
      have hA2 : areG l gs = true := by unfold areG; rw [hall, range_true hlast]; rfl
      rw [hA2]; rfl
    have hlt : i < l.length := by have := of_decide_eq_true h; omega
    have hlt' : i < sl.length := by rw [hsn.1]; exact hlt
    obtain ⟨hA1, hAC⟩ := rd_flat hA hlt
    rw [at0_get hlt] at hAC
    obtain ⟨_, hOc⟩ := rd_flat hOr hlt'
    have hseen := hsn.2 i hlt'
    refine M.run rfl <| M.ix rfl (by omega) (by omega) hA1 <| M.ld rfl ((hAC w3 (gr_below e2)).one 0 rfl rfl) <| M.at_ [101] rfl <| M.case 101 rfl (fun h4 => ?_) (fun h4 => ?_)
    · have hnz : at0 l i ≠ 0 := by simpa using h4
      refine M.run rfl <| M.ix rfl (by omega) (by omega) rfl <| M.ld (v := .bool sl[i]) rfl ((hOc w3 (gr_below (gr_refl _ _))).one 0 rfl rfl) <| M.run rfl <| M.cond rfl (fun h5 => ?_) (fun h5 => ?_)
      · refine M.run rfl <| M.retF rfl rfl ⟨?_, e2⟩
        have h5' : sl[i] = false := by simpa using h5
        rw [hseen] at h5'
        have : areG l gs = false := by
          unfold areG
          rw [range_false (f := fun s => decide (at0 l s = 0) || gs.flatten.contains (s : Int)) hlt (by rw [h5']; simp [hnz]), Bool.and_false]
        rw [this]; rfl
      · have h5' : sl[i] = true := by simpa using h5
        rw [hseen] at h5'
        exact M.run rfl <| M.end_ ⟨i + 1, ⟨rfl, rfl, nxt hlt (by omega), trivial⟩, ⟨by omega, rfl, fun j hj => by
          by_cases e : j = i
          · subst e; rw [h5', Bool.or_true]
          · exact hlast j (by omega)⟩, by omega⟩
    · have hnz : at0 l i = 0 := by simpa using h4
      exact M.run rfl <| M.condF rfl rfl <| M.run rfl <| M.end_ ⟨i + 1, ⟨rfl, rfl, nxt hlt (by omega), trivial⟩, ⟨by omega, rfl, fun j hj => by
          by_cases e : j = i
          · subst e; simp [hnz]
          · exact hlast j (by omega)⟩, by omega⟩
  have hlt : k < gs.length := by have := of_decide_eq_true h; omega
  have hgd : gs.getD k [] = gs[k] := by simp [List.getD, hlt]
  have hgs := hs gs[k] (List.getElem_mem hlt)
  have badG : okG l (preG gs k) gs[k] = false → areG l gs = false := fun h => areG_bad hlt (by rw [hgd]; exact h)
  obtain ⟨hB1, C, cc, hC, hBc⟩ := rd_el hB hlt
  have hpn := pre_next hlt
  generalize hg : gs[k] = g at *
  refine M.run rfl <| M.loop (σ := Nat × List Bool) (fun (i, sl) => [(0, .slice A l.length c), (1, .slice B gs.length b), (5, .slice (some ⟨gS, 0, none⟩) l.length l.length), (6, .int .i64 (k : Int)), (7, .int .i64 (gsum l g i)), (8, .int .i64 (i : Int))])
    (fun (i, sl) w' => i ≤ g.length ∧ w.grownBy w' none ∧ SeenP l.length sl (preG gs k ++ g.take i) ∧ Vc.Own dB 4 w' w.heap.size no (some ⟨gS, 0, none⟩) l.length sl ∧ ∀ j, j < i → okAt l (preG gs k) g j = true) (fun (i, _) => g.length - i) (0, sl) ⟨rfl, rfl, rfl, rfl, rfl, rfl, trivial⟩ ⟨Nat.zero_le _, e2, by simpa using hsn, hO2, fun j hj => by omega⟩ ?_
  rintro ⟨i, sn⟩ w3 ⟨hi, e3, hsn3, hO3, hok3⟩
  have hin7 : ∀ j, j < i → (at0 g j).toNat < l.length := fun j hj => by have := (okAt_iff.1 (hok3 j hj)).1; omega
  have hgb := gsum_bd hd i hin7
  refine M.run rfl <| M.ix rfl (by omega) (by omega) hB1 <| M.run rfl <| M.ld rfl ((hBc w3 (gr_below e3)).one 0 rfl rfl) <| M.run rfl <| M.cond rfl (fun h => ?_) (fun h => ?_)
  rotate_left
  · have hin : i = g.length := by have := of_decide_eq_false h; omega
    subst hin
    refine M.run rfl <| M.ix rfl (by omega) (by omega) hB1 <| M.run rfl <| M.ld rfl ((hBc w3 (gr_below e3)).one 0 rfl rfl) <| M.at_ [86] rfl <| M.case 86 rfl (fun h4 => ?_) (fun h4 => ?_)
    · have h4' : g.length = 0 := by have : (g.length : Int) = 0 := by simpa using h4
                                    omega
      refine M.run rfl <| M.condT rfl rfl <| M.run rfl <| M.retF rfl rfl ⟨?_, e3⟩
      rw [badG (by unfold okG; simp [h4'])]; rfl
    have h4' : ¬ g.length = 0 := fun h => by rw [h] at h4; exact absurd h4 (by decide)
    refine M.run rfl <| M.cond rfl (fun h5 => ?_) (fun h5 => ?_)
    · have h5' : gsum l g g.length ≠ 0 := by simpa using h5
      refine M.run rfl <| M.retF rfl rfl ⟨?_, e3⟩
      rw [badG (by unfold okG; simp [h5'])]; rfl
    · have h5' : gsum l g g.length = 0 := by simpa using h5
      rw [List.take_length, ← hpn] at hsn3
      refine M.run rfl <| M.end_ ⟨(k + 1, sn), ⟨rfl, rfl, rfl, nxt hlt hbd, trivial⟩, ⟨by omega, e3, hsn3, hO3, fun j hj => ?_⟩, by simp; omega⟩
      by_cases e : j = k
      · subst e
        rw [hgd]; unfold okG; rw [range_true hok3]; simp [h4', h5']
      · exact hok j (by omega)
  have hilt : i < g.length := by have := of_decide_eq_true h; omega
  obtain ⟨hC1, hCc⟩ := rd_flat hC hilt
  rw [at0_get hilt] at hCc
  have badA : okAt l (preG gs k) g i = false → areG l gs = false := fun h => badG (okG_bad hilt h)
  refine M.run rfl <| M.ix rfl (by omega) (by omega) hB1 <| M.run rfl <| M.ld rfl ((hBc w3 (gr_below e3)).one 0 rfl rfl) <| M.run rfl <| M.ix rfl (by omega) (by omega) hC1 <| M.ld rfl ((hCc w3 (gr_below e3)).one 0 rfl rfl) <| M.at_ [39] rfl ?_
  rw [w64 (x := (l.length : Int) - 1) (by omega) (by omega)]
  refine M.run rfl <| M.cl rfl (In_go (at0 g i) 0 ((l.length : Int) - 1) w3) ?_
  rintro e w4 ⟨rfl, e4⟩
  have e04 := gr_trans e3 e4
  refine ⟨_, rfl, M.at_ [42] rfl <| M.case 42 rfl (fun h1 => ?_) (fun h1 => ?_)⟩
  · refine M.run rfl <| M.condT rfl rfl <| M.run rfl <| M.retF rfl rfl ⟨?_, e04⟩
    rw [badA (by unfold okAt; rw [show within (at0 g i) 0 ((l.length : Int) - 1) = false by simpa using h1]; rfl)]; rfl
  have k1 : within (at0 g i) 0 ((l.length : Int) - 1) = true := by simpa using h1
  obtain ⟨s1, s2⟩ := Py.within_iff.1 k1
  have hsl : (at0 g i).toNat < l.length := by omega
  obtain ⟨hA1, hAC⟩ := rd_flat hA hsl
  rw [at0_get hsl] at hAC
  refine M.at_ [45] rfl <| M.case 45 rfl (fun h2 => ?_) (fun h2 => ?_)
  have hi0 : 0 < i := by have := of_decide_eq_true h2; omega
  obtain ⟨_, hCp⟩ := rd_flat hC (show i - 1 < g.length by omega)
  rw [at0_get (show i - 1 < g.length by omega)] at hCp
  refine M.run rfl <| M.ix rfl (by omega) (by omega) hB1 <| M.run rfl <| M.ld rfl ((hBc w4 (gr_below e04)).one 0 rfl rfl) <| M.at_ [52] rfl ?_
  rw [show IntKind.i64.wrap ((i : Int) - 1) = ((i - 1 : Nat) : Int) by rw [w64 (by omega) (by omega)]; omega]
  refine M.run rfl <| M.ix rfl (by omega) (by omega) hC1 <| M.ld rfl ((hCp w4 (gr_below e04)).one 0 rfl rfl) <| M.at_ [58] rfl <| M.case 58 rfl (fun h3 => ?_) (fun h3 => ?_)
  · have h3' := of_decide_eq_true h3
    refine M.run rfl <| M.condT rfl rfl <| M.run rfl <| M.retF rfl rfl ⟨?_, e04⟩
    have : (decide (i = 0) || decide (at0 g (i - 1) < at0 g i)) = false := by simp; omega
    rw [badA (by unfold okAt; rw [this]; simp)]; rfl
  have k2 : i = 0 ∨ at0 g (i - 1) < at0 g i := by have := of_decide_eq_false h3; omega
  rotate_left
  have k2 : i = 0 ∨ at0 g (i - 1) < at0 g i := by have := of_decide_eq_false h2; omega
  all_goals
    refine M.run rfl <| M.ix rfl (by omega) (by omega) hA1 <| M.run rfl <| M.ld rfl ((hAC w4 (gr_below e04)).one 0 rfl rfl) <| M.at_ [65] rfl <| M.case 65 rfl (fun h4 => ?_) (fun h4 => ?_)
    · have h4' : at0 l (at0 g i).toNat = 0 := by simpa using h4
      refine M.run rfl <| M.condT rfl rfl <| M.run rfl <| M.retF rfl rfl ⟨?_, e04⟩
      rw [badA (by unfold okAt; simp [h4'])]; rfl
    have k3 : at0 l (at0 g i).toNat ≠ 0 := by simpa using h4
    have hsl' : (at0 g i).toNat < sn.length := by rw [hsn3.1]; exact hsl
    have hO4 := hO3.mv0 e4
    obtain ⟨_, hOc⟩ := rd_flat (hO4.rd (by decide)) hsl'
    have hseen := hsn3.2 (at0 g i).toNat hsl'
    rw [Int.toNat_of_nonneg s1] at hseen
    refine M.run rfl <| M.ix rfl (by omega) (by omega) rfl <| M.run rfl <| M.ld (v := .bool sn[(at0 g i).toNat]) rfl ((hOc w4 (gr_below (gr_refl _ _))).one 0 rfl rfl) <| M.run rfl <| M.cond rfl (fun h5 => ?_) (fun h5 => ?_)
    · refine M.run rfl <| M.retF rfl rfl ⟨?_, e04⟩
      rw [hseen] at h5
      rw [badA (by unfold okAt; rw [h5]; simp)]; rfl
    rw [hseen] at h5
    have hal := debt_at hd hsl
    obtain ⟨g', cur, hgg, hg5, bX, hlX, hset⟩ := own_setE hO4 hsl'
    injection hgg with hgg; injection hgg with hgg; subst hgg
    refine M.run rfl <| M.ix rfl (by omega) (by omega) rfl <| M.storeA (cs := cur) (off := (at0 g i).toNat * 1) (vs := [.bool true]) rfl rfl (by show (adOf (some (⟨gS, 0, none⟩ : Addr))).add ((at0 g i).toNat * 1) = _; rw [ad1]; simp) bX (by simp at hlX ⊢; omega) rfl fun w6 b6 e6 => ?_
    have hO6 := hset true w6 b6
    have e06 := gr_fresh e04 e6 hg5
    refine M.run rfl <| M.ix rfl (by omega) (by omega) hA1 <| M.run rfl <| M.ld rfl ((hAC w6 (gr_below e06)).one 0 rfl rfl) <| M.run rfl <| M.end_ ⟨(i + 1, sn.set (at0 g i).toNat true), ⟨rfl, rfl, rfl, rfl, ?_, nxt hilt (by omega), trivial⟩, ⟨by omega, e06, ⟨by simp [hsn3.1], fun s hs => ?_⟩, hO6, fun j hj => ?_⟩, by simp; omega⟩
    · show some (Value.int .i64 (IntKind.i64.wrap (gsum l g (i + 1)))) = _
      have : gsum l g (i + 1) = gsum l g i + at0 l (at0 g i).toNat := rfl
      rw [w64 (by omega) (by omega)]
    · rw [List.getElem_set]
      rw [take_next g hilt, ← List.append_assoc]
      by_cases e : (at0 g i).toNat = s
      · rw [if_pos e]
        have : (s : Int) = at0 g i := by omega
        rw [this]; simp
      · rw [if_neg e, hsn3.2 s (by simpa using hs)]
        have : ¬ (s : Int) = at0 g i := by omega
        rw [Bool.eq_iff_iff, List.contains_iff_mem, List.contains_iff_mem, List.mem_append, List.mem_append, List.mem_append, List.mem_singleton]
        constructor
        · exact .inl
        · rintro (h | h)
          · exact h
          · exact absurd h this
    · by_cases e : j = i
      · subst e; exact okAt_iff.2 ⟨⟨s1, by omega⟩, k2, k3, h5⟩
      · exact hok3 j (by omega)
end Go.Proofs.Yteeikpmoboehdaa
end

section
/- Walk: the law PayGroups. -/
set_option linter.unusedVariables false
namespace Go.Proofs.Yteeikpmoboehdaa
open Go Go.Vc Go.RowKit Py
theorem best_small {l : List Int} (h7 : l.length ≤ 7) : (best l).length ≤ 128 := by
  have := grp_len l (nzm l l.length); have := nzm_lt l h7; unfold best; omega
theorem setL_len (s : Nat) : (setL s).length ≤ 64 := setTo_len s 64
set_option maxHeartbeats 2000000 in
set_option maxRecDepth 100000 in
theorem PayGroups_go (l : List Int) (gs : List (List Int)) (many : Int) (A : Option Addr) (c : Nat) (B : Option Addr) (b : Nat) (w : World) (hA : Rd dI w A c l) (hB : Rd dL w B b gs) :
    Calls Try.prog 13 #[.slice A l.length c, .slice B gs.length b, .int .i64 many] w fun e w' => e = .returned (.bool true) ∧ w.grownBy w' none := by
  refine calls (G := G) (args := [.slice A l.length c, .slice B gs.length b, .int .i64 many]) Try.func13 rfl rfl rfl ?_
  refine M.at_ [16] rfl <| M.case 16 rfl (fun h => ?_) (fun h => ?_)
  · refine M.run rfl <| M.condT rfl rfl <| M.run rfl <| M.cl rfl (awake_go w) ?_
    rintro e w1 ⟨rfl, e1⟩
    exact ⟨_, rfl, M.run rfl <| M.retF rfl rfl ⟨rfl, e1⟩⟩
  have hl9 := of_decide_eq_false h
  refine M.run rfl <| M.cond rfl (fun h => ?_) (fun h => ?_)
  · refine M.run rfl <| M.cl rfl (awake_go w) ?_
    rintro e w1 ⟨rfl, e1⟩
    exact ⟨_, rfl, M.run rfl <| M.retF rfl rfl ⟨rfl, e1⟩⟩
  have hg9 := of_decide_eq_false h
  refine M.run rfl <| M.loop (σ := Nat) (fun i => [(0, .slice A l.length c), (1, .slice B gs.length b), (2, .int .i64 many), (7, .int .i64 (i : Int))]) (fun i w' => i ≤ gs.length ∧ w' = w ∧ ∀ j, (hj : j < gs.length) → j < i → gs[j].length ≤ 9) (fun i => gs.length - i) 0 ⟨rfl, rfl, rfl, rfl, trivial⟩ ⟨Nat.zero_le _, rfl, fun j _ hj => by omega⟩ ?_
  rintro i w0 ⟨hi, rfl, hsm⟩
  refine M.run rfl <| M.cond rfl (fun h => ?_) (fun h => ?_)
  · have hlt : i < gs.length := by have := of_decide_eq_true h; omega
    obtain ⟨hB1, C, cc, hC, hBc⟩ := rd_el hB hlt
    refine M.run rfl <| M.ix rfl (by omega) (by omega) hB1 <| M.ld rfl ((hBc w0 (gr_below (gr_refl _ _))).one 0 rfl rfl) <| M.run rfl <| M.cond rfl (fun h2 => ?_) (fun h2 => ?_)
    · refine M.run rfl <| M.cl rfl (awake_go w0) ?_
      rintro e w1 ⟨rfl, e1⟩
      exact ⟨_, rfl, M.run rfl <| M.retF rfl rfl ⟨rfl, e1⟩⟩
    · have h2' := of_decide_eq_false h2
      exact M.run rfl <| M.end_ ⟨i + 1, ⟨rfl, rfl, rfl, nxt hlt (by omega), trivial⟩, ⟨by omega, rfl, fun j hj hji => by
        by_cases e : j = i
        · subst e; omega
        · exact hsm j hj (by omega)⟩, by omega⟩
  have hin : i = gs.length := by have := of_decide_eq_false h; omega
  subst hin
  have hgs : ∀ g ∈ gs, g.length ≤ 1000000 := fun g hg => by
    obtain ⟨j, hj, rfl⟩ := List.mem_iff_getElem.1 hg
    have := hsm j hj hj; omega
  refine M.run rfl <| M.cl rfl (list_go l A c w0 hA (by omega)) ?_
  rintro e w1 ⟨X1, x1, rfl, hX1, e1⟩
  refine ⟨_, rfl, M.run rfl <| M.cl rfl (Groups_go l X1 x1 w1 (hX1.rd (by decide))) ?_⟩
  rintro e w2 ⟨Z, z, rfl, hZ, e2⟩
  have e02 := gr_trans e1 e2
  refine ⟨_, rfl, M.run rfl <| M.cl rfl (list_go l A c w2 (hA.mv e02) (by omega)) ?_⟩
  rintro e w3 ⟨X3, x3, rfl, hX3, e3⟩
  have e03 := gr_trans e02 e3
  refine ⟨_, rfl, M.run rfl <| M.cl rfl (lists_go gs B b w3 (hB.mv e03) (by omega) hgs) ?_⟩
  rintro e w4 ⟨X4, x4, rfl, hX4, e4⟩
  refine ⟨_, rfl, M.run rfl <| M.cl rfl (ProveGroups_go l gs many X3 x3 X4 x4 w4 (Rd.mv (hX3.rd (by decide)) e4) hX4 hgs) ?_⟩
  rintro e w5 ⟨rfl, e5⟩
  have e05 := gr_trans (gr_trans e03 e4) e5
  refine ⟨_, rfl, M.run rfl <| M.cl rfl (BalancesFault_go l A c w5 (hA.mv e05)) ?_⟩
  rintro e w6 ⟨rfl, e6⟩
  have e06 := gr_trans e05 e6
  have hZ6 : Rd dL w6 Z z (groupsR l) := hZ.mv (gr_trans (gr_trans (gr_trans e3 e4) e5) e6)
  by_cases hz : balF l = 0
  · obtain ⟨h7, h0, hd, hsum⟩ := balF_ok hz
    have hbs := best_small h7
    obtain ⟨R, hR, hRl, hRs, hare, hrise⟩ : ∃ R : List (List Int), groupsR l = R ∧ R.length = (best l).length ∧ (∀ g ∈ R, g.length ≤ 1000000) ∧ areG l R = true ∧ ∀ i, (hi : i + 1 < R.length) → 0 < (R[i]'(by omega)).length ∧ 0 < R[i + 1].length ∧ at0 (R[i]'(by omega)) 0 < at0 R[i + 1] 0 :=
      ⟨(best l).map setL, if_pos hz, by simp, fun g hg => by
        obtain ⟨s, _, rfl⟩ := List.mem_map.1 hg
        have := setL_len s; omega, groups_are hz, fun i hi => groups_rise hz hi⟩
    rw [hR] at hZ6 ⊢
    rw [hz]
    refine ⟨_, rfl, M.at_ [52] rfl <| M.caseT 52 rfl rfl <| M.run rfl <| M.cl rfl (AreGroups_go l gs A c B b w6 (hA.mv e06) (hB.mv e06) hgs hz) ?_⟩
    rintro e w7 ⟨rfl, e7⟩
    have e07 := gr_trans e06 e7
    have hkey : proveG l gs many = (areG l gs && decide (many ≤ (gs.length : Int))) := by
      unfold proveG; rw [hz]; simp [Bool.and_comm]
    rw [hkey]
    cases hS : areG l gs
    refine ⟨_, rfl, M.at_ [57] rfl <| M.caseF 57 rfl rfl <| M.run rfl <| M.condF rfl (by simp) ?_⟩
    rotate_left
    refine ⟨_, rfl, M.at_ [57] rfl <| M.caseT 57 rfl rfl <| M.run rfl <| M.condF rfl (by simp) ?_⟩
    all_goals
      refine M.run rfl <| M.condF rfl rfl <| M.at_ [79] rfl <| M.caseF 79 rfl rfl <| M.run rfl <| M.cl rfl (Best_go l A c w7 (hA.mv e07) hz) ?_
      rintro e w8 ⟨rfl, e8⟩
      have e08 := gr_trans e07 e8
      have hZ8 : Rd dL w8 Z z R := hZ6.mv (gr_trans e7 e8)
      refine ⟨_, rfl, M.at_ [86] rfl <| M.caseF 86 rfl (by simp [hRl]) <| M.run rfl <| M.cl rfl (AreGroups_go l R A c Z z w8 (hA.mv e08) hZ8 hRs hz) ?_⟩
      rintro e w9 ⟨rfl, e9⟩
      have e09 := gr_trans e08 e9
      have hZ9 : Rd dL w9 Z z R := hZ8.mv e9
      refine ⟨_, rfl, M.run rfl <| M.condF rfl (by rw [hare]; rfl) <| M.run rfl <| M.loop (σ := Nat) (fun i => [(8, .slice Z R.length z), (12, .int .i64 (i : Int))]) (fun i w' => 1 ≤ i ∧ (i ≤ R.length ∨ i = 1) ∧ w9.grownBy w' none) (fun i => R.length - i) 1 ⟨rfl, rfl, trivial⟩ ⟨Nat.le_refl _, .inr rfl, gr_refl _ _⟩ ?_⟩
      rintro i w10 ⟨hi1, hi2, e10⟩
      have e010 := gr_trans e09 e10
      refine M.run rfl <| M.cond rfl (fun h => ?_) (fun h => ?_)
      · have hlt : i < R.length := by have := of_decide_eq_true h; omega
        obtain ⟨j, rfl⟩ : ∃ j, i = j + 1 := ⟨i - 1, by omega⟩
        obtain ⟨r1, r2, r3⟩ := hrise j hlt
        obtain ⟨hR1, C0, c0, hC0, hRc0⟩ := rd_el hZ9 (show j < R.length by omega)
        obtain ⟨_, C1, c1, hC1, hRc1⟩ := rd_el hZ9 hlt
        obtain ⟨hC01, hC0c⟩ := rd_flat hC0 r1
        obtain ⟨hC11, hC1c⟩ := rd_flat hC1 r2
        rw [at0_get r1] at hC0c
        rw [at0_get r2] at hC1c
        refine M.run rfl <| M.drawG [] (by kernel_rfl) fun w11 e11 => ?_
        have e911 := gr_trans e10 e11
        refine D.at_ [100] rfl ?_
        rw [show IntKind.i64.wrap (((j + 1 : Nat) : Int) - 1) = ((j : Nat) : Int) by rw [w64 (by omega) (by omega)]; omega]
        refine D.run rfl <| D.ys 3 rfl rfl rfl (YS.ix rfl (by omega) (by omega) hR1) <| D.ld 4 rfl rfl rfl rfl (fun w' hw => (hRc0 w' (gr_below (gr_trans e911 hw))).one 0 rfl rfl) <| D.at_ [105] rfl <| D.caseF 105 rfl (beq_eq_false_iff_ne.2 (by omega)) <| D.run rfl <|
          D.ys 10 rfl rfl rfl (YS.ix rfl (by omega) (by omega) hR1) <| D.ld 11 rfl rfl rfl rfl (fun w' hw => (hRc1 w' (gr_below (gr_trans e911 hw))).one 0 rfl rfl) <| D.at_ [113] rfl <| D.caseF 113 rfl (beq_eq_false_iff_ne.2 (by omega)) <| D.run rfl <|
          D.ys 18 rfl rfl rfl (YS.ix rfl (by omega) (by omega) hR1) <| D.ld 19 rfl rfl rfl rfl (fun w' hw => (hRc1 w' (gr_below (gr_trans e911 hw))).one 0 rfl rfl) <| D.ys 20 rfl rfl rfl (YS.ix rfl (by omega) (by omega) hC11) <| D.ld 21 rfl rfl rfl rfl (fun w' hw => (hC1c w' (gr_below (gr_trans e911 hw))).one 0 rfl rfl) ?_
        refine D.at_ [122] rfl ?_
        rw [show IntKind.i64.wrap (((j + 1 : Nat) : Int) - 1) = ((j : Nat) : Int) by rw [w64 (by omega) (by omega)]; omega]
        refine D.ys 25 rfl rfl rfl (YS.ix rfl (by omega) (by omega) hR1) <| D.ld 26 rfl rfl rfl rfl (fun w' hw => (hRc0 w' (gr_below (gr_trans e911 hw))).one 0 rfl rfl) <| D.ys 27 rfl rfl rfl (YS.ix rfl (by omega) (by omega) hC01) <| D.ld 28 rfl rfl rfl rfl (fun w' hw => (hC0c w' (gr_below (gr_trans e911 hw))).one 0 rfl rfl) <| D.run rfl <| D.done_ rfl <|
          M.run rfl <| M.condF rfl (by simp; omega) <| M.run rfl <| M.end_ ⟨j + 1 + 1, ⟨rfl, nxt hlt (by omega), trivial⟩, ⟨by omega, .inl (by omega), gr_trans e10 e11⟩, by omega⟩
      · refine M.run rfl <| M.cl rfl (awake_go w10) ?_
        rintro e w11 ⟨rfl, e11⟩
        exact ⟨_, rfl, M.run rfl <| M.retF rfl rfl ⟨rfl, gr_trans e010 e11⟩⟩
  · have hR : groupsR l = [] := if_neg hz
    rw [hR] at hZ6 ⊢
    have hpf : proveG l gs many = false := by unfold proveG; simp [hz]
    rw [hpf]
    refine ⟨_, rfl, M.at_ [52] rfl <| M.caseF 52 rfl (by simp [hz]) <| M.at_ [57] rfl <| M.caseF 57 rfl rfl <| M.run rfl <| M.condF rfl rfl <| M.run rfl <| M.condT rfl (by simp [hz]) <| M.at_ [69] rfl <| M.caseT 69 rfl (by simp) <| M.at_ [74] rfl <| M.caseT 74 rfl rfl <| M.run rfl <| M.cl rfl (awake_go w6) ?_⟩
    rintro e w7 ⟨rfl, e7⟩
    exact ⟨_, rfl, M.run rfl <| M.retF rfl rfl ⟨rfl, gr_trans e06 e7⟩⟩
end Go.Proofs.Yteeikpmoboehdaa
end

section
/- Walks: thin accounts, the reference's error of an account, an account handed over. -/
set_option linter.unusedVariables false
namespace Py
theorem mem_take0 {l : List Int} {i : Nat} {v : Int} (h : ∀ m, m < i → at0 l m ≠ v) : (l.take i).contains v = false := by
  cases hc : (l.take i).contains v with
  | false => rfl
  | true =>
    obtain ⟨j, h1, h2, h3⟩ := take_mem (List.contains_iff_mem.1 hc)
    exact absurd h3 (h j h1)
theorem take_has {l : List Int} {m i : Nat} (h : m < i) (hl : m < l.length) : (l.take i).contains (at0 l m) = true := by
  rw [List.contains_iff_mem]
  refine List.mem_iff_getElem.2 ⟨m, by rw [List.length_take]; omega, ?_⟩
  rw [List.getElem_take, at0_get hl]
end Py
namespace Go.Proofs.Yteeikpmoboehdaa
open Go Go.Vc Go.RowKit Py
theorem Thin_go (a : Acc) (A : Option Addr) (c : Nat) (w : World) (hA : Rd dDsp w A c a.ds) :
    Calls Try.prog 16 #[vAcc a A c] w fun e w' => (∃ t : Bool, e = .returned (.bool t) ∧ (t = true → a.ds.length ≤ 9 ∧ ∀ d ∈ a.ds, d.passed.length ≤ 8)) ∧ w.grownBy w' none := by
  refine calls (G := G) (args := [vAcc a A c]) Try.func16 rfl rfl rfl ?_
  have hbd := hA.bd
  refine M.run rfl <| M.nw (cs := [.int .i64 a.stations, .int .i64 a.rate, .int .i64 a.keeps, .slice A a.ds.length c]) rfl fun g1 w1 b1 e1 l1 => M.run rfl <|
    M.loop (σ := Nat) (fun i => [(1, .pointer (some ⟨g1, 0, none⟩)), (3, .int .i64 (i : Int))]) (fun i w' => i ≤ a.ds.length ∧ w' = w1 ∧ ∀ j, (hj : j < a.ds.length) → j < i → a.ds[j].passed.length ≤ 8) (fun i => a.ds.length - i) 0 ⟨rfl, rfl, trivial⟩ ⟨Nat.zero_le _, rfl, fun j _ h => by omega⟩ ?_
  rintro i w2 ⟨hi, rfl, hsm⟩
  refine M.run rfl <| M.ld rfl (b1.cellsAll.one 3 rfl rfl) <| M.at_ [9] rfl <| M.case 9 rfl (fun h => ?_) (fun h => ?_)
  · have hlt : i < a.ds.length := by have := of_decide_eq_true h; omega
    refine M.run rfl <| M.cond rfl (fun h2 => ?_) (fun h2 => ?_)
    · obtain ⟨hA1, P, p, hP, hdc⟩ := rd_dsp hA hlt
      refine M.run rfl <| M.ld rfl (b1.cellsAll.one 3 rfl rfl) <| M.run rfl <| M.ix rfl (by omega) (by omega) hA1 <| M.run rfl <| M.ld rfl ((hdc w2 (gr_below e1)).one 3 rfl rfl) <| M.run rfl <| M.cond rfl (fun h3 => ?_) (fun h3 => ?_)
      · exact M.run rfl <| M.retF rfl rfl ⟨⟨false, rfl, by simp⟩, e1⟩
      · have h3' := of_decide_eq_false h3
        exact M.run rfl <| M.end_ ⟨i + 1, ⟨rfl, nxt hlt hbd, trivial⟩, ⟨by omega, rfl, fun j hj hji => by
          by_cases e : j = i
          · subst e; omega
          · exact hsm j hj (by omega)⟩, by omega⟩
    · have h2' := of_decide_eq_false h2
      refine M.run rfl <| M.ld rfl (b1.cellsAll.one 3 rfl rfl) <| M.run rfl <| M.retF rfl rfl ⟨⟨decide ((a.ds.length : Int) ≤ 9), rfl, fun h => ?_⟩, e1⟩
      have := of_decide_eq_true h
      omega
  · have hin : i = a.ds.length := by have := of_decide_eq_false h; omega
    subst hin
    refine M.run rfl <| M.condF rfl rfl <| M.run rfl <| M.ld rfl (b1.cellsAll.one 3 rfl rfl) <| M.run rfl <| M.retF rfl rfl ⟨⟨decide ((a.ds.length : Int) ≤ 9), rfl, fun h => ?_⟩, e1⟩
    have := of_decide_eq_true h
    refine ⟨by omega, fun d hd => ?_⟩
    obtain ⟨j, hj, rfl⟩ := List.mem_iff_getElem.1 hd
    exact hsm j hj hj
theorem fault_wide {a : Acc} (h : a.wide = true) : fault a = 3 := by unfold fault; rw [if_pos h]
theorem fault_bad {a : Acc} (h : a.wide = false) (h2 : a.bad = true) : fault a = 1 := by unfold fault; rw [if_neg (by rw [h]; decide), if_pos h2]
set_option maxHeartbeats 2000000 in
theorem Fault_go (a : Acc) (A : Option Addr) (c : Nat) (w : World) (hA : Rd dDsp w A c a.ds) :
    Calls Try.prog 61 #[vAcc a A c] w fun e w' => e = .returned (.int .i64 (fault a)) ∧ w.grownBy w' none := by
  refine calls (G := G) (args := [vAcc a A c]) Try.func61 rfl rfl rfl ?_
  have hbd := hA.bd
  refine M.run rfl <| M.nw (cs := [.int .i64 a.stations, .int .i64 a.rate, .int .i64 a.keeps, .slice A a.ds.length c]) rfl fun g1 w1 b1 e1 l1 => M.run rfl <| M.ld (v := .int .i64 a.stations) rfl (b1.cell rfl rfl) <| M.at_ [11] rfl <| M.case 11 rfl (fun h => ?_) (fun h => ?_)
  · have h' := of_decide_eq_true h
    refine M.run rfl <| M.condT rfl rfl <| M.run rfl <| M.retF rfl rfl ⟨?_, e1⟩
    rw [fault_wide (by unfold Acc.wide; simp [h'])]; rfl
  have h1 := of_decide_eq_false h
  refine M.run rfl <| M.ld rfl (b1.cellsAll.one 3 rfl rfl) <| M.run rfl <| M.cond rfl (fun h => ?_) (fun h => ?_)
  · have h' := of_decide_eq_true h
    refine M.run rfl <| M.retF rfl rfl ⟨?_, e1⟩
    rw [fault_wide (by unfold Acc.wide; simp [h'])]; rfl
  have h2 := of_decide_eq_false h
  refine M.run rfl <| M.loop (σ := Nat) (fun i => [(1, .pointer (some ⟨g1, 0, none⟩)), (3, .int .i64 (i : Int))]) (fun i w' => i ≤ a.ds.length ∧ w' = w1 ∧ ∀ j, (hj : j < a.ds.length) → j < i → a.ds[j].passed.length ≤ 5) (fun i => a.ds.length - i) 0 ⟨rfl, rfl, trivial⟩ ⟨Nat.zero_le _, rfl, fun j _ h => by omega⟩ ?_
  rintro i w2 ⟨hi, rfl, hsm⟩
  refine M.run rfl <| M.ld rfl (b1.cellsAll.one 3 rfl rfl) <| M.run rfl <| M.cond rfl (fun h => ?_) (fun h => ?_)
  · have hlt : i < a.ds.length := by have := of_decide_eq_true h; omega
    obtain ⟨hA1, P, p, hP, hdc⟩ := rd_dsp hA hlt
    refine M.run rfl <| M.ld rfl (b1.cellsAll.one 3 rfl rfl) <| M.run rfl <| M.ix rfl (by omega) (by omega) hA1 <| M.run rfl <| M.ld rfl ((hdc w2 (gr_below e1)).one 3 rfl rfl) <| M.run rfl <| M.cond rfl (fun h3 => ?_) (fun h3 => ?_)
    · have h3' := of_decide_eq_true h3
      refine M.run rfl <| M.retF rfl rfl ⟨?_, e1⟩
      rw [fault_wide (by
        unfold Acc.wide
        rw [all_false (f := fun d : Dsp => decide ((d.passed.length : Int) ≤ 5)) hlt (by simp; omega)]; simp)]; rfl
    · have h3' := of_decide_eq_false h3
      exact M.run rfl <| M.end_ ⟨i + 1, ⟨rfl, nxt hlt hbd, trivial⟩, ⟨by omega, rfl, fun j hj hji => by
        by_cases e : j = i
        · subst e; omega
        · exact hsm j hj (by omega)⟩, by omega⟩
  have hin : i = a.ds.length := by have := of_decide_eq_false h; omega
  subst hin
  have hw : a.wide = false := by
    unfold Acc.wide
    rw [all_true (f := fun d : Dsp => decide ((d.passed.length : Int) ≤ 5)) (fun j hj => by have := hsm j hj hj; simp; omega)]
    simp; omega
  have bad := fun hb => fault_bad hw hb
  refine M.run rfl <| M.ld (v := .int .i64 a.stations) rfl (b1.cell rfl rfl) <| M.at_ [35] rfl <| M.case 35 rfl (fun h => ?_) (fun h => ?_)
  · have h' := of_decide_eq_true h
    refine M.run rfl <| M.condT rfl rfl <| M.run rfl <| M.retF rfl rfl ⟨?_, e1⟩
    rw [bad (by unfold Acc.bad; simp [h'])]; rfl
  have h3 := of_decide_eq_false h
  refine M.run rfl <| M.ld (v := .int .i64 a.rate) rfl (b1.cellsAll.one 1 rfl rfl) <| M.run rfl <| M.cl rfl (In_go a.rate 0 20 w2) ?_
  rintro e w3 ⟨rfl, e3⟩
  refine ⟨_, rfl, M.at_ [41] rfl <| M.case 41 rfl (fun h => ?_) (fun h => ?_)⟩
  · refine M.run rfl <| M.condT rfl rfl <| M.run rfl <| M.retF rfl rfl ⟨?_, gr_trans e1 e3⟩
    rw [bad (by unfold Acc.bad; rw [show within a.rate 0 20 = false by simpa using h]; simp)]; rfl
  have h4 : within a.rate 0 20 = true := by simpa using h
  refine M.run rfl <| M.ld (v := .int .i64 a.keeps) rfl ((b1.mv0 e3).cellsAll.one 2 rfl rfl) <| M.run rfl <| M.cl rfl (In_go a.keeps 0 100 w3) ?_
  rintro e w4 ⟨rfl, e4⟩
  have e14 := gr_trans e3 e4
  have e04 := gr_trans e1 e14
  refine ⟨_, rfl, M.run rfl <| M.cond rfl (fun h => ?_) (fun h => ?_)⟩
  · refine M.run rfl <| M.retF rfl rfl ⟨?_, e04⟩
    rw [bad (by unfold Acc.bad; rw [show within a.keeps 0 100 = false by simpa using h]; simp)]; rfl
  have h5 : within a.keeps 0 100 = true := by simpa using h
  refine M.run rfl <| M.loop (σ := Nat) (fun i => [(1, .pointer (some ⟨g1, 0, none⟩)), (4, .int .i64 (i : Int))]) (fun i w' => i ≤ a.ds.length ∧ w2.grownBy w' none ∧ ∀ j, (hj : j < a.ds.length) → j < i → dispatchOk a.stations a.ds[j] = true) (fun i => a.ds.length - i) 0 ⟨rfl, rfl, trivial⟩ ⟨Nat.zero_le _, e14, fun j _ h => by omega⟩ ?_
  rintro i w5 ⟨hi, e5, hdo⟩
  have e05 := gr_trans e1 e5
  refine M.run rfl <| M.ld rfl ((b1.mv0 e5).cellsAll.one 3 rfl rfl) <| M.run rfl <| M.cond rfl (fun h => ?_) (fun h => ?_)
  rotate_left
  · have hin : i = a.ds.length := by have := of_decide_eq_false h; omega
    subst hin
    refine M.run rfl <| M.retF rfl rfl ⟨?_, e05⟩
    have hb : a.bad = false := by
      unfold Acc.bad
      rw [h4, h5, all_true (f := dispatchOk a.stations) (fun j hj => hdo j hj hj)]
      simp; omega
    unfold fault; rw [if_neg (by rw [hw]; decide), if_neg (by rw [hb]; decide)]; rfl
  have hlt : i < a.ds.length := by have := of_decide_eq_true h; omega
  obtain ⟨hA1, P, p, hP, hdc⟩ := rd_dsp hA hlt
  have badD : dispatchOk a.stations a.ds[i] = false → fault a = 1 := fun hd => bad (by unfold Acc.bad; rw [all_false (f := dispatchOk a.stations) hlt hd]; simp)
  have hp5 := hsm i hlt hlt
  generalize hd : a.ds[i] = d at *
  refine M.run rfl <| M.ld rfl ((b1.mv0 e5).cellsAll.one 3 rfl rfl) <| M.run rfl <| M.ix rfl (by omega) (by omega) hA1 <| M.ldA rfl rfl (hdc w5 (gr_below e05)) <| M.nw rfl fun g6 w6 b6 e6 l6 => M.run rfl <| M.store rfl rfl b6 rfl rfl fun w7 b7 e7 => ?_
  replace b7 : Blk w7 g6 (encDsp d P p) 43 := b7
  have e57 := gr_fresh e6 e7 l6
  have e27 := gr_trans e5 e57
  refine M.run rfl <| M.ld (v := .int .i64 d.payer) rfl (b7.cell rfl rfl) <| M.run rfl <| M.ld (v := .int .i64 a.stations) rfl ((b1.mv0 e27).cell rfl rfl) <| M.at_ [63] rfl ?_
  rw [w64 (x := a.stations - 1) (by omega) (by omega)]
  refine M.run rfl <| M.cl rfl (In_go d.payer 0 (a.stations - 1) w7) ?_
  rintro e w8 ⟨rfl, e8⟩
  have e28 := gr_trans e27 e8
  refine ⟨_, rfl, M.at_ [66] rfl <| M.case 66 rfl (fun h => ?_) (fun h => ?_)⟩
  · refine M.run rfl <| M.condT rfl rfl <| M.run rfl <| M.retF rfl rfl ⟨?_, gr_trans e1 e28⟩
    rw [badD (by unfold dispatchOk station; rw [show within d.payer 0 (a.stations - 1) = false by simpa using h]; simp)]; rfl
  have k1 : within d.payer 0 (a.stations - 1) = true := by simpa using h
  have b8 := b7.mv0 e8
  refine M.run rfl <| M.ld (v := .int .i64 d.lo) rfl (b8.cellsAll.one 1 rfl rfl) <| M.run rfl <| M.ld (v := .int .i64 d.hi) rfl (b8.cellsAll.one 2 rfl rfl) <| M.run rfl <| M.cl rfl (In_go d.lo 1 d.hi w8) ?_
  rintro e w9 ⟨rfl, e9⟩
  have e29 := gr_trans e28 e9
  have b9 := b8.mv0 e9
  refine ⟨_, rfl, M.at_ [76] rfl <| M.case 76 rfl (fun h => ?_) (fun h => ?_)⟩
  · refine M.run rfl <| M.condT rfl rfl <| M.run rfl <| M.retF rfl rfl ⟨?_, gr_trans e1 e29⟩
    have hx : within d.lo 1 d.hi = false := by simpa using h
    have : (decide (1 ≤ d.lo) && decide (d.lo ≤ d.hi)) = false := hx
    rw [badD (by unfold dispatchOk; simp only [Bool.and_assoc]; rw [← Bool.and_assoc (decide (1 ≤ d.lo)), this]; simp)]; rfl
  have k2 : within d.lo 1 d.hi = true := by simpa using h
  obtain ⟨k21, k22⟩ := Py.within_iff.1 k2
  refine M.run rfl <| M.ld (v := .int .i64 d.hi) rfl (b9.cellsAll.one 2 rfl rfl) <| M.at_ [82] rfl <| M.case 82 rfl (fun h => ?_) (fun h => ?_)
  · have h' := of_decide_eq_true h
    refine M.run rfl <| M.condT rfl rfl <| M.run rfl <| M.retF rfl rfl ⟨?_, gr_trans e1 e29⟩
    rw [badD (by unfold dispatchOk; simp; omega)]; rfl
  have k3 := of_decide_eq_false h
  refine M.run rfl <| M.ld rfl (b9.cellsAll.one 3 rfl rfl) <| M.run rfl <| M.cond rfl (fun h => ?_) (fun h => ?_)
  · have h' : d.passed.length = 0 := by have : (d.passed.length : Int) = 0 := by simpa using h
                                        omega
    refine M.run rfl <| M.retF rfl rfl ⟨?_, gr_trans e1 e29⟩
    rw [badD (by unfold dispatchOk; simp [h'])]; rfl
  have k4 : ¬ d.passed.length = 0 := fun h' => by rw [h'] at h; exact absurd h (by decide)
  refine M.run rfl <| M.loop (σ := Nat) (fun k => [(1, .pointer (some ⟨g1, 0, none⟩)), (4, .int .i64 (i : Int)), (5, .pointer (some ⟨g6, 0, none⟩)), (6, .int .i64 (k : Int))]) (fun k w' => k ≤ d.passed.length ∧ w9.grownBy w' none ∧ ∀ j, j < k → (station a.stations (at0 d.passed j) && !((d.passed.take j).contains (at0 d.passed j))) = true) (fun k => d.passed.length - k) 0 ⟨rfl, rfl, rfl, rfl, trivial⟩ ⟨Nat.zero_le _, gr_refl _ _, fun j h => by omega⟩ ?_
  rintro k wa ⟨hk, ea, hpo⟩
  have e2a := gr_trans e29 ea
  have e0a := gr_trans e1 e2a
  refine M.run rfl <| M.ld rfl ((b9.mv0 ea).cellsAll.one 3 rfl rfl) <| M.run rfl <| M.cond rfl (fun h => ?_) (fun h => ?_)
  rotate_left
  · have hin : k = d.passed.length := by have := of_decide_eq_false h; omega
    subst hin
    refine M.run rfl <| M.end_ ⟨i + 1, ⟨rfl, nxt hlt hbd, trivial⟩, ⟨by omega, e2a, fun j hj hji => ?_⟩, by omega⟩
    by_cases e : j = i
    · subst e
      rw [hd]
      unfold dispatchOk passedOk
      rw [range_true hpo, show station a.stations d.payer = true from k1]
      simp; omega
    · exact hdo j hj (by omega)
  have hklt : k < d.passed.length := by have := of_decide_eq_true h; omega
  obtain ⟨hP1, hPc⟩ := rd_flat hP hklt
  rw [at0_get hklt] at hPc
  have badP : (station a.stations (at0 d.passed k) && !((d.passed.take k).contains (at0 d.passed k))) = false → fault a = 1 := fun hp => badD (by unfold dispatchOk passedOk; rw [range_false (f := fun i => station a.stations (at0 d.passed i) && !((d.passed.take i).contains (at0 d.passed i))) hklt hp]; rfl)
  refine M.run rfl <| M.drawG [] (by kernel_rfl) fun wb eb => ?_
  refine D.run rfl <| D.ld 1 rfl rfl rfl rfl (fun w' hw => (((b9.mv0 ea).mv0 eb).mv0 hw).cellsAll.one 3 rfl rfl) <| D.ys 3 rfl rfl rfl (YS.ix rfl (by omega) (by omega) hP1) <| D.ld 4 rfl rfl rfl rfl (v := .int .i64 (at0 d.passed k)) (fun w' hw => (hPc w' (gr_below (gr_trans (gr_trans e0a eb) hw))).one 0 rfl rfl) <| D.ld 6 rfl rfl rfl rfl (v := .int .i64 a.stations) (fun w' hw => (((b1.mv0 e2a).mv0 eb).mv0 hw).cell rfl rfl) <| D.run rfl ?_
  rw [w64 (x := a.stations - 1) (by omega) (by omega)]
  refine D.one 8 rfl rfl <| M.cl rfl (In_go (at0 d.passed k) 0 (a.stations - 1) wb) ?_
  rintro e wc ⟨rfl, ec⟩
  have e0c := gr_trans (gr_trans e0a eb) ec
  have e9c := gr_trans (gr_trans ea eb) ec
  have e2c := gr_trans (gr_trans e2a eb) ec
  refine ⟨_, rfl, M.run rfl <| M.end_ ⟨.inr ec, D.run rfl <| D.done_ rfl <| M.run rfl <| M.cond rfl (fun h => ?_) (fun h => ?_)⟩⟩
  · refine M.run rfl <| M.retF rfl rfl ⟨?_, e0c⟩
    rw [badP (by unfold station; rw [show within (at0 d.passed k) 0 (a.stations - 1) = false by simpa using h]; rfl)]; rfl
  have k5 : within (at0 d.passed k) 0 (a.stations - 1) = true := by simpa using h
  refine M.run rfl <| M.loop (σ := Nat) (fun m => [(1, .pointer (some ⟨g1, 0, none⟩)), (4, .int .i64 (i : Int)), (5, .pointer (some ⟨g6, 0, none⟩)), (6, .int .i64 (k : Int)), (7, .int .i64 (m : Int))]) (fun m w' => m ≤ k ∧ w9.grownBy w' none ∧ ∀ j, j < m → at0 d.passed j ≠ at0 d.passed k) (fun m => k - m) 0 ⟨rfl, rfl, rfl, rfl, rfl, trivial⟩ ⟨Nat.zero_le _, e9c, fun j h => by omega⟩ ?_
  rintro m wd ⟨hm, ed, hne⟩
  have e0d := gr_trans e1 (gr_trans e29 ed)
  refine M.run rfl <| M.cond rfl (fun h => ?_) (fun h => ?_)
  · have hmk : m < k := by have := of_decide_eq_true h; omega
    have hml : m < d.passed.length := by omega
    obtain ⟨_, hPm⟩ := rd_flat hP hml
    rw [at0_get hml] at hPm
    refine M.run rfl <| M.drawG [] (by kernel_rfl) fun we ee => ?_
    refine D.run rfl <| D.ld 1 rfl rfl rfl rfl (fun w' hw => (((b9.mv0 ed).mv0 ee).mv0 hw).cellsAll.one 3 rfl rfl) <| D.ys 3 rfl rfl rfl (YS.ix rfl (by omega) (by omega) hP1) <| D.ld 4 rfl rfl rfl rfl (v := .int .i64 (at0 d.passed m)) (fun w' hw => (hPm w' (gr_below (gr_trans (gr_trans e0d ee) hw))).one 0 rfl rfl) <| D.ld 6 rfl rfl rfl rfl (fun w' hw => (((b9.mv0 ed).mv0 ee).mv0 hw).cellsAll.one 3 rfl rfl) <|
      D.ys 8 rfl rfl rfl (YS.ix rfl (by omega) (by omega) hP1) <| D.ld 9 rfl rfl rfl rfl (v := .int .i64 (at0 d.passed k)) (fun w' hw => (hPc w' (gr_below (gr_trans (gr_trans e0d ee) hw))).one 0 rfl rfl) <| D.run rfl <| D.done_ rfl <| M.run rfl <| M.cond rfl (fun h2 => ?_) (fun h2 => ?_)
    · have h2' : at0 d.passed m = at0 d.passed k := by simpa using h2
      refine M.run rfl <| M.retF rfl rfl ⟨?_, gr_trans e0d ee⟩
      rw [badP (by rw [← h2', take_has hmk hml]; simp)]; rfl
    · have h2' : at0 d.passed m ≠ at0 d.passed k := by simpa using h2
      exact M.run rfl <| M.end_ ⟨m + 1, ⟨rfl, rfl, rfl, rfl, nxt hmk (by omega), trivial⟩, ⟨by omega, gr_trans ed ee, fun j hj => by
        by_cases e : j = m
        · subst e; exact h2'
        · exact hne j (by omega)⟩, by omega⟩
  · have hin : m = k := by have := of_decide_eq_false h; omega
    subst hin
    exact M.run rfl <| M.end_ ⟨m + 1, ⟨rfl, rfl, rfl, nxt hklt (by omega), trivial⟩, ⟨by omega, ed, fun j hj => by
      by_cases e : j = m
      · subst e
        rw [show station a.stations (at0 d.passed j) = true from k5, mem_take0 hne]; rfl
      · exact hpo j (by omega)⟩, by omega⟩
theorem fault_go (a : Acc) (A : Option Addr) (c : Nat) (w : World) (hA : Rd dDsp w A c a.ds) :
    Calls Try.prog 23 #[vAcc a A c] w fun e w' => e = .returned (.int .i64 (fault a)) ∧ w.grownBy w' none := by
  refine calls (G := G) (args := [vAcc a A c]) Try.func23 rfl rfl rfl ?_
  refine M.run rfl <| M.nw (cs := [.int .i64 a.stations, .int .i64 a.rate, .int .i64 a.keeps, .slice A a.ds.length c]) rfl fun g1 w1 b1 e1 l1 => M.run rfl <| M.ldA rfl rfl b1.cellsAll <| M.run rfl <| M.cl rfl (Fault_go a A c w1 (hA.mv e1)) ?_
  rintro e w2 ⟨rfl, e2⟩
  exact ⟨_, rfl, M.run rfl <| M.retF rfl rfl ⟨rfl, gr_trans e1 e2⟩⟩
end Go.Proofs.Yteeikpmoboehdaa
end

section
/- Walk: an account handed over. -/
set_option linter.unusedVariables false
namespace Go.Proofs.Yteeikpmoboehdaa
open Go Go.Vc Go.RowKit Py
theorem K2.refl (g h : Nat) (w : World) : K2 g h w w := ⟨Nat.le_refl _, fun _ _ _ => rfl⟩
set_option maxHeartbeats 1000000 in
theorem Account_go (a : Acc) (A : Option Addr) (c : Nat) (w : World) (hA : Rd dDsp w A c a.ds) (h9 : a.ds.length ≤ 1000000) (h8 : ∀ d ∈ a.ds, d.passed.length ≤ 1000000) :
    Calls Try.prog 19 #[vAcc a A c] w fun e w' => ∃ X x, e = .returned (vAcc a X x) ∧ Rd dDsp w' X x a.ds ∧ w.grownBy w' none := by
  refine calls (G := G) (args := [vAcc a A c]) Try.func19 rfl rfl rfl ?_
  refine M.run rfl <| M.nw (cs := [.int .i64 a.stations, .int .i64 a.rate, .int .i64 a.keeps, .slice A a.ds.length c]) rfl fun g1 w1 b1 e1 l1 => M.run rfl <| M.nw rfl fun g2 w2 b2 e2 l2 => M.run rfl <|
    M.ld (v := .int .i64 a.stations) rfl ((b1.mv0 e2).cell rfl rfl) <| M.run rfl <| M.ld (v := .int .i64 a.rate) rfl ((b1.mv0 e2).cellsAll.one 1 rfl rfl) <| M.run rfl <| M.ld (v := .int .i64 a.keeps) rfl ((b1.mv0 e2).cellsAll.one 2 rfl rfl) <| M.run rfl <| M.nw rfl fun g3 w3 b3 e3 l3 => M.run rfl <| M.store rfl rfl b3 rfl rfl fun w4 b4 e4 => ?_
  have e02 := gr_trans e1 e2
  have e24 := gr_fresh e3 e4 l3
  have e04 := gr_trans e02 e24
  have hg3w : w.heap.size ≤ g3 := Nat.le_trans e02.size l3
  have b14 := (b1.mv0 e2).mv0 e24
  have b24 := b2.mv0 e24
  have hg3s : g3 < w4.heap.size := b4.lt
  refine M.run rfl <| M.loop (σ := Nat × Option Addr × Nat) (fun (i, X, x) => [(1, .pointer (some ⟨g1, 0, none⟩)), (2, .pointer (some ⟨g2, 0, none⟩)), (3, .pointer (some ⟨g3, 0, none⟩)), (4, .int .i64 (i : Int))])
    (fun (i, X, x) w' => i ≤ a.ds.length ∧ w4.grownBy w' (some g3) ∧ w.grownBy w' none ∧ Blk w' g3 [.int .i64 a.stations, .int .i64 a.rate, .int .i64 a.keeps, .slice X (a.ds.take i).length x] 32 ∧ Blk w' g1 [.int .i64 a.stations, .int .i64 a.rate, .int .i64 a.keeps, .slice A a.ds.length c] 24 ∧ (∃ cs, cs.length = 4 ∧ Blk w' g2 cs 32) ∧ Vc.Own dDsp 93 w' w4.heap.size (fun b => w4.heap.size ≤ b) X x (a.ds.take i))
    (fun (i, _) => a.ds.length - i) (0, none, 0) ⟨rfl, rfl, rfl, rfl, trivial⟩ ⟨Nat.zero_le _, gr_weak (gr_refl _ _), e04, b4, b14, ⟨_, rfl, b24⟩, Vc.Own.nil _ _ _ _ _⟩ ?_
  rintro ⟨i, X, x⟩ w5 ⟨hi, e45, e05, b5, b15, ⟨cs2, hc2, b25⟩, hX⟩
  refine M.run rfl <| M.ld rfl (b15.cellsAll.one 3 rfl rfl) <| M.run rfl <| M.cond rfl (fun h => ?_) (fun h => ?_)
  rotate_left
  · have hin : i = a.ds.length := by have := of_decide_eq_false h; omega
    subst hin
    rw [List.take_length] at hX b5
    have hne : g3 ≠ g2 := by have := b2.lt; omega
    refine M.run rfl <| M.ldA rfl rfl b5.cellsAll <| M.run rfl <| M.storeA (vs := [.int .i64 a.stations, .int .i64 a.rate, .int .i64 a.keeps, .slice X a.ds.length x]) rfl rfl rfl b25 (by simp [hc2]) rfl fun w6 b6 e6 => M.run rfl ?_
    have b6' := blk_all (by rw [hc2]; rfl) b6
    have hXg : ∀ k, blkOf X = some k → k ≠ g2 := fun k hk => by have := (hX.blkGe k hk).1; have := b24.lt; omega
    refine M.retC (.cellA rfl rfl rfl rfl (b6'.cells 0 rfl ⟨[], rfl⟩ : Cells _ _ [_, _, _, _]) .nil) ⟨X, x, rfl, ?_, gr_fresh e05 e6 (Nat.le_trans e1.size l2)⟩
    exact (hX.mv1 e6 (fun h => hXg g2 (by rw [h]; rfl) rfl) (fun h => by have := b24.lt; omega)).rd (by decide)
  have hlt : i < a.ds.length := by have := of_decide_eq_true h; omega
  obtain ⟨hA1, P, p, hP, hdc⟩ := rd_dsp hA hlt
  have hd8 := h8 _ (List.getElem_mem hlt)
  have htk : a.ds.take (i + 1) = a.ds.take i ++ [a.ds[i]] := by rw [List.take_add_one, List.getElem?_eq_getElem hlt]; rfl
  have hln : (a.ds.take i).length ≤ 1000000 := by rw [List.length_take]; omega
  generalize hd : a.ds[i] = d at *
  refine M.run rfl <| M.ld rfl (b15.cellsAll.one 3 rfl rfl) <| M.run rfl <| M.ix rfl (by omega) (by omega) hA1 <| M.ldA rfl rfl (hdc w5 (gr_below e05)) <| M.nw rfl fun g6 w6 b6 e6 l6 => M.run rfl <| M.store rfl rfl b6 rfl rfl fun w7 b7 e7 => ?_
  replace b7 : Blk w7 g6 (encDsp d P p) 43 := b7
  have e57 := gr_fresh e6 e7 l6
  refine M.run rfl <| M.draw (K2 g3 g6) (fun _ _ => True) [18] [] [] (fun _ _ _ h => h) (fun w => K2.refl _ _ w) (fun a b c h k => h.trans k) (fun _ _ _ => trivial) (fun _ _ _ _ _ => trivial) (by kernel_rfl) ?_
  have e8 := gr_drewN w7 1
  generalize w7.drewN 1 = w8 at e8
  have e58 := gr_trans e57 e8
  have e08 := gr_trans e05 e58
  have b38 := b5.mv0 e58
  have b68 := b7.mv0 e8
  refine D.run rfl <| D.ld 1 rfl rfl rfl rfl (fun w' hw => (hw.blk1 b38).cellsAll.one 3 rfl rfl) <| D.ld 3 rfl rfl rfl rfl (v := .int .i64 d.payer) (fun w' hw => (hw.blk2 b68).cell rfl rfl) <| D.ld 6 rfl rfl rfl rfl (v := .int .i64 d.lo) (fun w' hw => (hw.blk2 b68).cellsAll.one 1 rfl rfl) <| D.ld 9 rfl rfl rfl rfl (v := .int .i64 d.hi) (fun w' hw => (hw.blk2 b68).cellsAll.one 2 rfl rfl) <| D.run rfl <| D.ld 12 rfl rfl rfl rfl (fun w' hw => (hw.blk2 b68).cellsAll.one 3 rfl rfl) <|
    D.one 13 rfl rfl <| M.cl rfl (list_go d.passed P p w8 (hP.mv e08) hd8) ?_
  rintro e w9 ⟨Y, y, rfl, hY, e9⟩
  refine ⟨_, rfl, M.run rfl <| M.end_ ⟨.inr (K2.of e9 (by simp) (by simp)), D.run rfl <| D.one 15 rfl rfl <| M.bs rfl fun ga wa ba ea la => M.run rfl <| M.end_ ⟨.inr (K2.of ea (by simp) (by simp)), ?_⟩⟩⟩
  have hX5a := ((hX.mv0 e58).mv0 e9).mv0 ea
  have e5a := gr_trans (gr_trans e58 e9) ea
  have hYa : Sl dI wa (fun b => w4.heap.size ≤ b ∧ some b ≠ blkOf X) Y y d.passed := ((hY.mv0 ea).sl).mono (fun b hb => by
    rcases hb with hb | hb
    · exact hb.elim
    · refine ⟨Nat.le_trans e45.size (Nat.le_trans e58.size hb), fun he => ?_⟩
      have := (hX.blkGe b he.symm).2
      have := e58.size; omega)
  have hXn3 : blkOf X ≠ some g3 := fun h => by have := (hX.blkGe g3 h).1; omega
  have hXn6 : blkOf X ≠ some g6 := fun h => by have := (hX.blkGe g6 h).2; omega
  refine D.one 16 rfl rfl <| M.app (d := dDsp) rfl rfl hX5a rfl (by decide) rfl (ys := [d]) rfl rfl (src_one ba ⟨Y, y, rfl, hYa⟩) (Nat.le_trans e45.size e5a.size) (by simp only [List.length_cons, List.length_nil]; omega) (by decide) fun X' x' wb hX' eb hat => M.run rfl <| M.end_ ⟨.inr (K2.of eb hXn3 hXn6), ?_⟩
  have e5b : w5.grownBy wb (blkOf X) := gr_transR (gr_weak e5a) eb
  have e0b := hX5a.gr (gr_trans e05 e5a) eb e04.size
  have b3b := (b38.mv0 (gr_trans e9 ea)).mv eb hXn3
  have hX'g3 : ∀ k, blkOf X' = some k → k ≠ g3 := fun k hk => by have := (hX'.blkGe k hk).1; omega
  refine D.run rfl <| D.one 18 rfl rfl <| M.storeA (off := 3) (vs := [.slice X' (a.ds.take i ++ [d]).length x']) rfl rfl rfl b3b (by simp) rfl fun wc bc ec => M.run rfl <| M.end_ ⟨.inl ⟨rfl, trivial⟩, D.done_ rfl ?_⟩
  have n1 : blkOf X ≠ some g1 := fun h => by have := (hX.blkGe g1 h).1; have := b14.lt; omega
  have n2 : blkOf X ≠ some g2 := fun h => by have := (hX.blkGe g2 h).1; have := b24.lt; omega
  have m1 : g3 ≠ g1 := by have h1 := (b1.mv0 e2).lt; omega
  have m2 : g3 ≠ g2 := by have h1 := b2.lt; omega
  refine M.run rfl <| M.end_ ⟨(i + 1, X', x'), ⟨rfl, rfl, rfl, nxt hlt (by omega), trivial⟩, ⟨by omega, ?_, gr_fresh e0b ec hg3w, ?_, ((b15.mv0 e5a).mv eb n1).mv1 ec m1, ⟨_, hc2, ((b25.mv0 e5a).mv eb n2).mv1 ec m2⟩, ?_⟩, by simp; omega⟩
  · exact gr_transR (gr_freshR (gr_transR e45 (gr_weak e5a)) eb (fun k hk => (hX.blkGe k hk).1)) ec
  · rw [htk]; exact bc
  · rw [htk]
    exact hX'.mv1 ec (fun h => hX'g3 g3 (by rw [h]; rfl) rfl) (fun h => by have h2 : w4.heap.size ≤ g3 := h; omega)
end Go.Proofs.Yteeikpmoboehdaa
end

section
/- Walks: the reference's shares and changes. -/
set_option linter.unusedVariables false
namespace Py
theorem price_bd {a : Acc} (ha : Ok a) {n : Int} (hn : 0 ≤ n ∧ n ≤ 200) : 0 ≤ price a n ∧ price a n ≤ 4000 := by
  have hr := ha.rate
  have h1 : n * a.rate ≤ 200 * 20 := Int.mul_le_mul hn.2 hr.2 hr.1 (by omega)
  have h2 : 0 ≤ n * a.rate := Int.mul_nonneg hn.1 hr.1
  unfold price
  omega
theorem part_succ (a : Acc) (d : Dsp) (n : Int) (K : Nat) (s : Int) : part a d n (K + 1) s = part a d n K s + ((if at0 d.passed K = s then shr a d.passed.length n K else 0) - if d.payer = s then shr a d.passed.length n K else 0) := rfl
theorem part_bd {a : Acc} (ha : Ok a) (d : Dsp) {n : Int} (hn : 0 ≤ n ∧ n ≤ 200) (s : Int) : ∀ K, K ≤ d.passed.length → -(4000 * (K : Int)) ≤ part a d n K s ∧ part a d n K s ≤ 4000 * (K : Int)
  | 0, _ => by simp [part, sumTo]
  | K + 1, h => by
    have ih := part_bd ha d hn s K (by omega)
    have h1 := shr_nonneg ha d.passed.length hn.1 K
    have h2 := shr_le ha (L := d.passed.length) hn.1 (k := K) (by omega)
    have h3 := price_bd ha hn
    rw [part_succ]
    push_cast
    split <;> split <;> omega
def partL (a : Acc) (d : Dsp) (n : Int) (K st : Nat) : List Int := (List.range st).map fun (s : Nat) => part a d n K (s : Int)
def chgL (a : Acc) (d : Dsp) (n : Int) (st : Nat) : List Int := (List.range st).map fun (s : Nat) => change a d n (s : Int)
theorem map_at (f : Nat → Int) {st i : Nat} (h : i < st) : at0 ((List.range st).map f) i = f i := by simp [at0, h]
theorem partL_len (a : Acc) (d : Dsp) (n : Int) (K st : Nat) : (partL a d n K st).length = st := by simp [partL]
theorem partL_zero (a : Acc) (d : Dsp) (n : Int) (st : Nat) : partL a d n 0 st = List.replicate st 0 := by
  apply List.ext_getElem
  · simp [partL]
  · intro i h1 h2; simp [partL, part, sumTo]
theorem partL_step (a : Acc) (d : Dsp) (n : Int) (K st : Nat) {p q : Nat} (hp : p < st) (hq : q < st) (h1 : at0 d.passed K = (p : Int)) (h2 : d.payer = (q : Int)) :
    ((partL a d n K st).set p (at0 (partL a d n K st) p + shr a d.passed.length n K)).set q (at0 ((partL a d n K st).set p (at0 (partL a d n K st) p + shr a d.passed.length n K)) q - shr a d.passed.length n K) = partL a d n (K + 1) st := by
  refine ext0 (by simp [partL]) fun i hi => ?_
  have hi' : i < st := by simpa [partL] using hi
  have hlp : p < (partL a d n K st).length := by rw [partL_len]; exact hp
  have hlq : q < ((partL a d n K st).set p (at0 (partL a d n K st) p + shr a d.passed.length n K)).length := by simp [partL]; exact hq
  rw [at0_set hlq, at0_set hlp, at0_set hlp]
  have e := fun {j : Nat} (hj : j < st) => map_at (fun (s : Nat) => part a d n K (s : Int)) hj
  have e1 := fun {j : Nat} (hj : j < st) => map_at (fun (s : Nat) => part a d n (K + 1) (s : Int)) hj
  unfold partL
  rw [e hp, e hq, e hi', e1 hi', part_succ, h1, h2]
  by_cases c1 : i = q
  · subst c1
    by_cases c2 : i = p
    · subst c2; simp
    · rw [if_pos rfl, if_neg c2, if_neg (by omega), if_pos rfl]; omega
  · rw [if_neg c1]
    by_cases c2 : i = p
    · subst c2; rw [if_pos rfl, if_pos rfl, if_neg (by omega)]; omega
    · rw [if_neg c2, if_neg (by omega), if_neg (by omega)]; omega
theorem partL_all {a : Acc} (ha : Ok a) {d : Dsp} (hd : DOk a.stations d) {n : Int} (hn : 0 ≤ n) (st : Nat) : partL a d n d.passed.length st = chgL a d n st := by
  unfold partL chgL
  apply List.map_congr_left
  intro s _
  exact part_all ha hd hn s
end Py
namespace Go.Proofs.Yteeikpmoboehdaa
open Go Go.Vc Go.RowKit Py
set_option maxHeartbeats 1000000 in
theorem RefShares_go (a : Acc) (ha : Ok a) (k : Nat) (hk : k < a.ds.length) (n : Int) (hn : 0 ≤ n ∧ n ≤ 200) (A : Option Addr) (c : Nat) (w : World) (hA : Rd dDsp w A c a.ds) :
    Calls Try.prog 26 #[vAcc a A c, .int .i64 (k : Int), .int .i64 n] w fun e w' => ∃ X x, e = .returned (.slice X (share a a.ds[k] n).length x) ∧ Vc.Own dI 3 w' w.heap.size no X x (share a a.ds[k] n) ∧ w.grownBy w' none := by
  have hd := ha.d a.ds[k] (List.getElem_mem hk)
  obtain ⟨hA1, P, p, hP, hdc⟩ := rd_dsp hA hk
  have hkb := kept_bd ha hn.1
  have hpb := price_bd ha hn
  have hsa := share_after ha a.ds[k] hn.1
  have hL := hd.some_
  have h5 := hd.five
  have hkeeps := ha.keeps
  have hkt : (price a n * a.keeps).tdiv 100 = kept a n := Int.tdiv_eq_ediv_of_nonneg (Int.mul_nonneg (by omega) hkeeps.1)
  have hpk : price a n * a.keeps ≤ 4000 * 100 := Int.mul_le_mul hpb.2 hkeeps.2 hkeeps.1 (by omega)
  have hpk0 : 0 ≤ price a n * a.keeps := Int.mul_nonneg (by omega) hkeeps.1
  have hslen := share_len a a.ds[k] n
  generalize share a a.ds[k] n = sh at *
  generalize hdd : a.ds[k] = d at *
  generalize hLL : d.passed.length = L at *
  refine calls (G := G) (args := [vAcc a A c, .int .i64 (k : Int), .int .i64 n]) Try.func26 rfl rfl rfl ?_
  refine M.run rfl <| M.nw (cs := [.int .i64 a.stations, .int .i64 a.rate, .int .i64 a.keeps, .slice A a.ds.length c]) rfl fun g1 w1 b1 e1 l1 => M.run rfl <| M.ld rfl (b1.cellsAll.one 3 rfl rfl) <| M.run rfl <| M.ix rfl (by omega) (by omega) hA1 <| M.run rfl <| M.ld (v := .slice P L p) rfl ((hdc w1 (gr_below e1)).one 3 (by simp [encDsp, hLL]) rfl) <| M.run rfl <|
    M.mk_ rfl (by omega) (by omega) (by show (8 : Int) * (L : Int) ≤ _; omega) (by omega) rfl fun g2 w2 b2 e2 l2 => ?_
  have hO : Vc.Own dI 3 w2 w.heap.size no (some ⟨g2, 0, none⟩) L (List.replicate L 0) := own_mk (zs := [.int .i64 0]) no 0 rfl b2 (Nat.le_trans e1.size l2) (by simp [maxLen]; omega)
  have e02 := gr_trans e1 e2
  have hl0 : 0 < (List.replicate L (0 : Int)).length := by simpa using hL
  obtain ⟨g, cur, hgg, hg, bX, hlX, hcX, hset⟩ := own_int hO hl0
  injection hgg with hgg; injection hgg with hgg; subst hgg
  refine M.run rfl <| M.ld (v := .int .i64 a.rate) rfl ((b1.mv0 e2).cellsAll.one 1 rfl rfl) <| M.at_ [24] rfl ?_
  rw [show IntKind.i64.wrap (n * a.rate) = price a n from w64 (x := price a n) (by omega) (by omega)]
  refine M.run rfl <| M.ld (v := .int .i64 a.keeps) rfl ((b1.mv0 e2).cellsAll.one 2 rfl rfl) <| M.at_ [30] rfl ?_
  rw [show IntKind.i64.wrap ((IntKind.i64.wrap (price a n * a.keeps)).tdiv 100) = kept a n by rw [w64 (x := price a n * a.keeps) (by omega) (by omega), hkt, w64 (by omega) (by omega)]]
  refine M.run rfl <| M.ix rfl (by omega) (by omega) rfl <| M.storeA (cs := cur) (off := 0) (vs := [.int .i64 (kept a n)]) rfl rfl rfl bX (by simp; omega) rfl fun w3 b3 e3 => M.at_ [33] rfl ?_
  have hO3 := hset (kept a n) w3 b3
  rw [after_zero _ hL] at hO3
  have e03 := gr_fresh e02 e3 hg
  have hl3 : 0 < (after (kept a n) L 0).length := by rw [after_len]; exact hL
  have ho0 : (after (kept a n) L 0)[0] = kept a n := by rw [at0_get hl3, after_at _ _ _ hL]; simp
  obtain ⟨_, hOc⟩ := rd_flat (hO3.rd (by decide)) hl3
  rw [ho0] at hOc
  rw [show IntKind.i64.wrap ((L : Int) - 1) = ((L - 1 : Nat) : Int) by rw [w64 (by omega) (by omega)]; omega]
  refine M.run rfl <| M.ix rfl (by omega) (by omega) rfl <| M.ld (v := .int .i64 (kept a n)) rfl ((hOc w3 (gr_below (gr_refl _ _))).one 0 rfl rfl) <| M.at_ [38] rfl ?_
  rw [w64 (x := price a n - kept a n) (by omega) (by omega)]
  have hwL : IntKind.i64.wrap ((L : Int) - 1) = ((L - 1 : Nat) : Int) := by rw [w64 (by omega) (by omega)]; omega
  refine M.run rfl <| M.loop (σ := Nat) (fun t => [(7, .int .i64 (L : Int)), (8, .slice (some ⟨g2, 0, none⟩) L L), (10, .int .i64 ((L - 1 - t % L : Nat) : Int)), (11, .int .i64 (price a n - kept a n - (t : Int)))])
    (fun t w' => (t : Int) ≤ price a n - kept a n ∧ w.grownBy w' none ∧ Vc.Own dI 3 w' w.heap.size no (some ⟨g2, 0, none⟩) L (after (kept a n) L t)) (fun t => (price a n - kept a n).toNat - t) 0 ⟨rfl, rfl, by simp [Env.find_cons], by simp [Env.find_cons], trivial⟩ ⟨by omega, e03, hO3⟩ ?_
  rintro t w4 ⟨ht, e4, hO4⟩
  refine M.run rfl <| M.cond rfl (fun h => ?_) (fun h => ?_)
  · have htl : (t : Int) < price a n - kept a n := by have := of_decide_eq_true h; omega
    have hj : L - 1 - t % L < L := by omega
    have hjl : L - 1 - t % L < (after (kept a n) L t).length := by rw [after_len]; exact hj
    have hnx := next_at hL t
    have hbd : (0 : Int) ≤ at0 (after (kept a n) L t) (L - 1 - t % L) ∧ at0 (after (kept a n) L t) (L - 1 - t % L) ≤ 20000 := by
      rw [after_at _ _ _ hj]
      have h1 : (0 : Int) ≤ ((t : Int) + ((L - 1 - t % L : Nat) : Int)) / (L : Int) := Int.ediv_nonneg (by omega) (by omega)
      have h2 : ((t : Int) + ((L - 1 - t % L : Nat) : Int)) / (L : Int) ≤ (t : Int) + ((L - 1 - t % L : Nat) : Int) := Int.ediv_le_self _ (by omega)
      constructor <;> split <;> omega
    obtain ⟨g', cur', hgg, hg', bX', hlX', hcX', hset'⟩ := own_int hO4 hjl
    injection hgg with hgg; injection hgg with hgg; subst hgg
    rw [at0_get hjl] at hcX'
    have hstep := after_next (kept a n) hL t
    generalize hjj : L - 1 - t % L = j at *
    refine M.run rfl <| M.ix rfl (by omega) (by omega) rfl <| M.ld (v := .int .i64 (at0 (after (kept a n) L t) j)) rfl (by show w4.cell? ((adOf (some (⟨g2, 0, none⟩ : Addr))).add (j * 1)) = _; rw [ad1]; exact hcX') <| M.at_ [47] rfl ?_
    rw [w64 (x := at0 (after (kept a n) L t) j + 1) (by omega) (by omega)]
    refine M.run rfl <| M.ix rfl (by omega) (by omega) rfl <| M.storeA (cs := cur') (off := j) (vs := [.int .i64 (at0 (after (kept a n) L t) j + 1)]) rfl rfl (by show (adOf (some (⟨g2, 0, none⟩ : Addr))).add (j * 1) = _; rw [ad1]) bX' (by simp; omega) rfl fun w5 b5 e5 => M.at_ [50] rfl ?_
    have hO5 := hset' _ w5 b5
    rw [hstep] at hO5
    rw [w64 (x := (j : Int) - 1) (by omega) (by omega)]
    have e05 := gr_fresh e4 e5 hg'
    have hlast : IntKind.i64.wrap (price a n - kept a n - (t : Int) - 1) = price a n - kept a n - ((t + 1 : Nat) : Int) := by rw [w64 (by omega) (by omega)]; omega
    refine M.run rfl <| M.cond rfl (fun h2 => ?_) (fun h2 => ?_)
    · have h2' := of_decide_eq_true h2
      rw [if_pos h2'] at hnx
      refine M.run rfl <| M.end_ ⟨t + 1, ⟨rfl, rfl, ?_, congrArg (fun z => some (Value.int .i64 z)) hlast, trivial⟩, ⟨by omega, e05, hO5⟩, by omega⟩
      exact congrArg (fun z => some (Value.int .i64 z)) (hwL.trans hnx)
    · have h2' := of_decide_eq_false h2
      rw [if_neg h2'] at hnx
      refine M.run rfl <| M.end_ ⟨t + 1, ⟨rfl, rfl, ?_, congrArg (fun z => some (Value.int .i64 z)) hlast, trivial⟩, ⟨by omega, e05, hO5⟩, by omega⟩
      exact congrArg (fun z => some (Value.int .i64 z)) hnx
  · have h' := of_decide_eq_false h
    have hin : t = (price a n - kept a n).toNat := by omega
    subst hin
    rw [hsa] at hO4
    refine M.run rfl <| M.retF rfl rfl ⟨some ⟨g2, 0, none⟩, L, ?_, hO4, e4⟩
    rw [hslen]; rfl
end Go.Proofs.Yteeikpmoboehdaa
end

section
/- Walks: the reference's changes, truths, balances. -/
set_option linter.unusedVariables false
namespace Py
/-- behind m dispatches, and the first s stations of one more -/
def balP (a : Acc) (t : List Int) (m s st : Nat) : List Int := (List.range st).map fun (j : Nat) => if j < s then balTo a t (j : Int) (m + 1) else balTo a t (j : Int) m
def balM (a : Acc) (t : List Int) (m st : Nat) : List Int := (List.range st).map fun (j : Nat) => balTo a t (j : Int) m
theorem balP_len (a : Acc) (t : List Int) (m s st : Nat) : (balP a t m s st).length = st := by simp [balP]
theorem balP_zero (a : Acc) (t : List Int) (m st : Nat) : balP a t m 0 st = balM a t m st := by simp [balP, balM]
theorem balP_all (a : Acc) (t : List Int) (m st : Nat) : balP a t m st st = balM a t (m + 1) st := by
  unfold balP balM
  apply List.map_congr_left
  intro j hj
  rw [if_pos (List.mem_range.1 hj)]
theorem balM_zero (a : Acc) (t : List Int) (st : Nat) : balM a t 0 st = List.replicate st 0 := by
  apply List.ext_getElem
  · simp [balM]
  · intro i h1 h2; simp [balM, balTo, sumTo]
theorem balTo_succ (a : Acc) (t : List Int) (s : Int) (m : Nat) : balTo a t s (m + 1) = balTo a t s m + change a (dAt a m) (at0 t m) s := rfl
theorem balP_at (a : Acc) (t : List Int) (m s st : Nat) {j : Nat} (hj : j < st) : at0 (balP a t m s st) j = if j < s then balTo a t (j : Int) (m + 1) else balTo a t (j : Int) m := by unfold balP; rw [map_at _ hj]
theorem balP_step (a : Acc) (t : List Int) (m s st : Nat) (hs : s < st) : (balP a t m s st).set s (at0 (balP a t m s st) s + change a (dAt a m) (at0 t m) (s : Int)) = balP a t m (s + 1) st := by
  refine ext0 (by simp [balP]) fun i hi => ?_
  have hi' : i < st := by simpa [balP] using hi
  rw [at0_set (by rw [balP_len]; exact hs), balP_at a t m s st hs, balP_at a t m s st hi', balP_at a t m (s + 1) st hi']
  by_cases e : i = s
  · subst e; rw [if_pos rfl, if_neg (Nat.lt_irrefl _), if_pos (by omega), balTo_succ]
  · rw [if_neg e]
    by_cases e2 : i < s
    · rw [if_pos e2, if_pos (by omega)]
    · rw [if_neg e2, if_neg (by omega)]
theorem dAt_ok {a : Acc} (ha : Ok a) {k : Nat} (hk : k < a.ds.length) : DOk a.stations (dAt a k) := by rw [← dAt_get hk]; exact ha.d _ (List.getElem_mem hk)
end Py
namespace Go.Proofs.Yteeikpmoboehdaa
open Go Go.Vc Go.RowKit Py
set_option maxHeartbeats 1000000 in
theorem Changes_go (a : Acc) (ha : Ok a) (k : Nat) (hk : k < a.ds.length) (n : Int) (hn : 0 ≤ n ∧ n ≤ 200) (A : Option Addr) (c : Nat) (w : World) (hA : Rd dDsp w A c a.ds) :
    Calls Try.prog 62 #[vAcc a A c, .int .i64 (k : Int), .int .i64 n] w fun e w' => ∃ X x, e = .returned (.slice X (chgL a (dAt a k) n a.stations.toNat).length x) ∧ Vc.Own dI 3 w' w.heap.size no X x (chgL a (dAt a k) n a.stations.toNat) ∧ w.grownBy w' none := by
  have hs1 := ha.one
  have hs7 := ha.seven
  have hd := ha.d a.ds[k] (List.getElem_mem hk)
  obtain ⟨hA1, P, p, hP, hdc⟩ := rd_dsp hA hk
  have hsh := fun w' (hw : w.grownBy w' none) => RefShares_go a ha k hk n hn A c w' (hA.mv hw)
  have hpa := partL_all ha hd hn.1 a.stations.toNat
  have hpb := part_bd ha a.ds[k] hn
  rw [← dAt_get hk]
  have hsl := share_len a a.ds[k] n
  have hsat := fun i (hi : i < a.ds[k].passed.length) => share_at a a.ds[k] n hi
  generalize hdd : a.ds[k] = d at *
  have h5 := hd.five
  have hpr := price_bd ha hn
  generalize hst : a.stations.toNat = st at *
  refine calls (G := G) (args := [vAcc a A c, .int .i64 (k : Int), .int .i64 n]) Try.func62 rfl rfl rfl ?_
  refine M.run rfl <| M.nw (cs := [.int .i64 a.stations, .int .i64 a.rate, .int .i64 a.keeps, .slice A a.ds.length c]) rfl fun g1 w1 b1 e1 l1 => M.run rfl <| M.ld (v := .int .i64 a.stations) rfl (b1.cell rfl rfl) ?_
  rw [show a.stations = ((st : Nat) : Int) by omega] at b1 ⊢
  refine M.mk_ rfl (by omega) (by omega) (by show (8 : Int) * (st : Int) ≤ _; omega) (by omega) rfl fun g2 w2 b2 e2 l2 => ?_
  have hO : Vc.Own dI 3 w2 w.heap.size no (some ⟨g2, 0, none⟩) st (List.replicate st 0) := own_mk (zs := [.int .i64 0]) no 0 rfl b2 (Nat.le_trans e1.size l2) (by simp [maxLen]; omega)
  rw [← partL_zero a d n] at hO
  have e02 := gr_trans e1 e2
  have hvA : vAcc a A c = .agg #[.int .i64 ((st : Nat) : Int), .int .i64 a.rate, .int .i64 a.keeps, .slice A a.ds.length c] := by unfold vAcc; rw [show a.stations = ((st : Nat) : Int) by omega]
  refine M.run rfl <| M.ld rfl ((b1.mv0 e2).cellsAll.one 3 rfl rfl) <| M.run rfl <| M.ix rfl (by omega) (by omega) hA1 <| M.ldA rfl rfl (hdc w2 (gr_below e02)) <| M.nw rfl fun g3 w3 b3 e3 l3 => M.run rfl <| M.store rfl rfl b3 rfl rfl fun w4 b4 e4 => ?_
  replace b4 : Blk w4 g3 (encDsp d P p) 43 := b4
  have e24 := gr_fresh e3 e4 l3
  have e04 := gr_trans e02 e24
  have hc := hsh w4 e04
  rw [hvA] at hc
  refine M.run rfl <| M.ldA rfl rfl ((b1.mv0 e2).mv0 e24).cellsAll <| M.run rfl <| M.cl rfl hc ?_
  rintro e w5 ⟨Y, y, rfl, hY, e5⟩
  have e05 := gr_trans e04 e5
  have hO5 := (hO.mv0 e24).mv0 e5
  have hg24 : g2 < w4.heap.size := ((hO.mv0 e24).blkGe g2 rfl).2
  refine ⟨_, rfl, M.run rfl <| M.loop (σ := Nat) (fun K => [(7, .slice (some ⟨g2, 0, none⟩) st st), (8, .pointer (some ⟨g3, 0, none⟩)), (9, .slice Y (share a d n).length y), (10, .int .i64 (K : Int))])
    (fun K w' => K ≤ d.passed.length ∧ w.grownBy w' none ∧ Vc.Own dI 3 w' w.heap.size no (some ⟨g2, 0, none⟩) st (partL a d n K st) ∧ Vc.Own dI 3 w' w4.heap.size no Y y (share a d n) ∧ Blk w' g3 (encDsp d P p) 43) (fun K => d.passed.length - K) 0 ⟨rfl, rfl, rfl, rfl, trivial⟩ ⟨Nat.zero_le _, e05, hO5, hY, b4.mv0 e5⟩ ?_⟩
  rintro K w6 ⟨hK, e6, hO6, hY6, b6⟩
  refine M.run rfl <| M.cond rfl (fun h => ?_) (fun h => ?_)
  rotate_left
  · have hin : K = d.passed.length := by have := of_decide_eq_false h; omega
    subst hin
    rw [hpa] at hO6
    refine M.run rfl <| M.retF rfl rfl ⟨some ⟨g2, 0, none⟩, st, ?_, hO6, e6⟩
    have : (chgL a d n st).length = st := by simp [chgL]
    rw [this]; rfl
  have hlt : K < d.passed.length := by have := of_decide_eq_true h; omega
  obtain ⟨hP1, hPc⟩ := rd_flat hP hlt
  rw [at0_get hlt] at hPc
  obtain ⟨q1, q2⟩ := hd.inside K hlt
  obtain ⟨r1, r2⟩ := hd.payer
  have hsn := shr_nonneg ha d.passed.length hn.1 K
  have hsp := shr_le ha (L := d.passed.length) hn.1 hlt
  have hstep := partL_step a d n K st (p := (at0 d.passed K).toNat) (q := d.payer.toNat) (by omega) (by omega) (by omega) (by omega)
  have hpl := partL_len a d n K st
  have hb1 := hpb (((at0 d.passed K).toNat : Nat) : Int) K hK
  have hb2 := hpb ((d.payer.toNat : Nat) : Int) K hK
  have hat1 : at0 (partL a d n K st) (at0 d.passed K).toNat = Py.part a d n K (((at0 d.passed K).toNat : Nat) : Int) := by unfold partL; rw [map_at _ (by omega)]
  have hat2 : at0 (partL a d n K st) d.payer.toNat = Py.part a d n K ((d.payer.toNat : Nat) : Int) := by unfold partL; rw [map_at _ (by omega)]
  have hlp : (at0 d.passed K).toNat < (partL a d n K st).length := by rw [hpl]; omega
  have hYl : K < (share a d n).length := by omega
  obtain ⟨hY1, hYc⟩ := rd_flat (hY6.rd (by decide)) hYl
  rw [at0_get hYl, hsat K hlt] at hYc
  obtain ⟨g', cur, hgg, hg, bX, hlX, hcX, hset⟩ := own_int hO6 hlp
  injection hgg with hgg; injection hgg with hgg; subst hgg
  have hn3 : g2 ≠ g3 := bX.ne b6 (by decide)
  refine M.run rfl <| M.drawG [14] (by kernel_rfl) fun w7 e7 => ?_
  refine D.run rfl <| D.ld 2 rfl rfl rfl rfl (fun w' hw => ((b6.mv0 e7).mv0 hw).cellsAll.one 3 rfl rfl) <| D.ys 4 rfl rfl rfl (YS.ix rfl (by omega) (by omega) hP1) <| D.ld 5 rfl rfl rfl rfl (v := .int .i64 (at0 d.passed K)) (fun w' hw => (hPc w' (gr_below (gr_trans (gr_trans e6 e7) hw))).one 0 rfl rfl) <|
    D.ys 6 rfl rfl rfl (YS.ix rfl (by omega) (by omega) rfl) <| D.ld 7 rfl rfl rfl rfl (v := .int .i64 (at0 (partL a d n K st) (at0 d.passed K).toNat)) (fun w' hw => by rw [← at0_get hlp]; show w'.cell? ((adOf (some (⟨g2, 0, none⟩ : Addr))).add ((at0 d.passed K).toNat * 1)) = _; rw [ad1]; exact own_cell hO6 hlp rfl (gr_trans e7 hw) (by simp)) <|
    D.ys 10 rfl rfl rfl (YS.ix rfl (by omega) (by omega) hY1) <| D.ld 11 rfl rfl rfl rfl (v := .int .i64 (shr a d.passed.length n K)) (fun w' hw => (hYc w' (gr_below (gr_trans e7 hw))).one 0 rfl rfl) <| D.run rfl ?_
  rw [w64 (x := at0 (partL a d n K st) (at0 d.passed K).toNat + shr a d.passed.length n K) (by omega) (by omega)]
  refine D.ys 13 rfl rfl rfl (YS.ix rfl (by omega) (by omega) rfl) <| D.one 14 rfl rfl <| M.storeA (cs := cur) (off := (at0 d.passed K).toNat) (vs := [.int .i64 (at0 (partL a d n K st) (at0 d.passed K).toNat + shr a d.passed.length n K)]) rfl rfl (by show (adOf (some (⟨g2, 0, none⟩ : Addr))).add ((at0 d.passed K).toNat * 1) = _; rw [ad1]) (bX.mv0 e7) (by simp; omega) rfl fun w8 b8 e8 => M.run rfl <| M.end_ ⟨.inl ⟨rfl, trivial⟩, D.done_ rfl ?_⟩
  have hO8 := hset _ w8 b8
  have hY8 : Vc.Own dI 3 w8 w4.heap.size no Y y (share a d n) := (hY6.mv0 e7).mvOld e8 hg24
  have b68 := (b6.mv0 e7).mv1 e8 hn3
  have e08 := gr_fresh (gr_trans e6 e7) e8 hg
  obtain ⟨hY1', hYc'⟩ := rd_flat (hY8.rd (by decide)) hYl
  rw [at0_get hYl, hsat K hlt] at hYc'
  generalize hl1 : (partL a d n K st).set (at0 d.passed K).toNat (at0 (partL a d n K st) (at0 d.passed K).toNat + shr a d.passed.length n K) = L1 at *
  have hL1 : L1.length = st := by rw [← hl1]; simp [hpl]
  have hlq : d.payer.toNat < L1.length := by omega
  have hq1 : at0 L1 d.payer.toNat = if d.payer.toNat = (at0 d.passed K).toNat then at0 (partL a d n K st) (at0 d.passed K).toNat + shr a d.passed.length n K else at0 (partL a d n K st) d.payer.toNat := by rw [← hl1, at0_set hlp]
  have hqb : -30000 ≤ at0 L1 d.payer.toNat ∧ at0 L1 d.payer.toNat ≤ 30000 := by rw [hq1]; split <;> omega
  obtain ⟨g', cur', hgg, hg', bX', hlX', hcX', hset'⟩ := own_int hO8 hlq
  injection hgg with hgg; injection hgg with hgg; subst hgg
  refine M.run rfl <| M.drawG [11] (by kernel_rfl) fun w9 e9 => ?_
  refine D.run rfl <| D.ld 2 rfl rfl rfl rfl (v := .int .i64 d.payer) (fun w' hw => ((b68.mv0 e9).mv0 hw).cell rfl rfl) <| D.ys 3 rfl rfl rfl (YS.ix rfl (by omega) (by omega) rfl) <| D.ld 4 rfl rfl rfl rfl (v := .int .i64 (at0 L1 d.payer.toNat)) (fun w' hw => by rw [← at0_get hlq]; show w'.cell? ((adOf (some (⟨g2, 0, none⟩ : Addr))).add (d.payer.toNat * 1)) = _; rw [ad1]; exact own_cell hO8 hlq rfl (gr_trans e9 hw) (by simp)) <|
    D.ys 7 rfl rfl rfl (YS.ix rfl (by omega) (by omega) hY1') <| D.ld 8 rfl rfl rfl rfl (v := .int .i64 (shr a d.passed.length n K)) (fun w' hw => (hYc' w' (gr_below (gr_trans e9 hw))).one 0 rfl rfl) <| D.run rfl ?_
  rw [w64 (x := at0 L1 d.payer.toNat - shr a d.passed.length n K) (by omega) (by omega)]
  refine D.ys 10 rfl rfl rfl (YS.ix rfl (by omega) (by omega) rfl) <| D.one 11 rfl rfl <| M.storeA (cs := cur') (off := d.payer.toNat) (vs := [.int .i64 (at0 L1 d.payer.toNat - shr a d.passed.length n K)]) rfl rfl (by show (adOf (some (⟨g2, 0, none⟩ : Addr))).add (d.payer.toNat * 1) = _; rw [ad1]) (bX'.mv0 e9) (by simp; omega) rfl fun wa ba ea => M.run rfl <| M.end_ ⟨.inl ⟨rfl, trivial⟩, D.done_ rfl ?_⟩
  have hOa := hset' _ wa ba
  rw [hstep] at hOa
  have hYa : Vc.Own dI 3 wa w4.heap.size no Y y (share a d n) := (hY8.mv0 e9).mvOld ea hg24
  exact M.run rfl <| M.end_ ⟨K + 1, ⟨rfl, rfl, rfl, nxt hlt (by omega), trivial⟩, ⟨by omega, gr_fresh (gr_trans e08 e9) ea hg, hOa, hYa, (b68.mv0 e9).mv1 ea hn3⟩, by omega⟩
theorem IsTruth_go (a : Acc) (t : List Int) (A : Option Addr) (c : Nat) (U : Option Addr) (u : Nat) (w : World) (hA : Rd dDsp w A c a.ds) (hU : Rd dI w U u t) :
    Calls Try.prog 27 #[vAcc a A c, .slice U t.length u] w fun e w' => e = .returned (.bool (truthOk a t)) ∧ w.grownBy w' none := by
  refine calls (G := G) (args := [vAcc a A c, .slice U t.length u]) Try.func27 rfl rfl rfl ?_
  have hbd := hU.bd
  refine M.run rfl <| M.nw (cs := [.int .i64 a.stations, .int .i64 a.rate, .int .i64 a.keeps, .slice A a.ds.length c]) rfl fun g1 w1 b1 e1 l1 => M.run rfl <| M.ld rfl (b1.cellsAll.one 3 rfl rfl) <| M.run rfl <| M.cond rfl (fun h => ?_) (fun h => ?_)
  · have h' : ¬ t.length = a.ds.length := by
      have : ¬ (t.length : Int) = a.ds.length := by simpa using h
      omega
    refine M.run rfl <| M.retF rfl rfl ⟨?_, e1⟩
    simp [truthOk, h', oneOrTuple]
  have hl : t.length = a.ds.length := by
    have : (t.length : Int) = a.ds.length := by simpa using h
    omega
  refine M.run rfl <| M.loop (σ := Nat) (fun i => [(1, .slice U t.length u), (2, .pointer (some ⟨g1, 0, none⟩)), (5, .int .i64 (i : Int))]) (fun i w' => i ≤ t.length ∧ w1.grownBy w' none ∧ ∀ j, j < i → within (at0 t j) (dAt a j).lo (dAt a j).hi = true) (fun i => t.length - i) 0 ⟨rfl, rfl, rfl, trivial⟩ ⟨Nat.zero_le _, gr_refl _ _, fun j hj => by omega⟩ ?_
  rintro i w2 ⟨hi, e2, hin⟩
  have e02 := gr_trans e1 e2
  refine M.run rfl <| M.cond rfl (fun h => ?_) (fun h => ?_)
  rotate_left
  · have hie : i = t.length := by have := of_decide_eq_false h; omega
    subst hie
    refine M.run rfl <| M.retF rfl rfl ⟨?_, e02⟩
    unfold truthOk
    rw [range_true hin]; simp [hl, oneOrTuple]
  have hlt : i < t.length := by have := of_decide_eq_true h; omega
  have hld : i < a.ds.length := by omega
  obtain ⟨hU1, hUc⟩ := rd_flat hU hlt
  rw [at0_get hlt] at hUc
  obtain ⟨hA1, P, p, hP, hdc⟩ := rd_dsp hA hld
  rw [dAt_get hld] at hdc
  refine M.run rfl <| M.drawG [] (by kernel_rfl) fun w3 e3 => ?_
  have e03 := gr_trans e02 e3
  refine D.run rfl <| D.ys 2 rfl rfl rfl (YS.ix rfl (by omega) (by omega) hU1) <| D.ld 3 rfl rfl rfl rfl (v := .int .i64 (at0 t i)) (fun w' hw => (hUc w' (gr_below (gr_trans e03 hw))).one 0 rfl rfl) <| D.ld 5 rfl rfl rfl rfl (fun w' hw => ((b1.mv0 (gr_trans e2 e3)).mv0 hw).cellsAll.one 3 rfl rfl) <| D.ys 7 rfl rfl rfl (YS.ix rfl (by omega) (by omega) hA1) <| D.run rfl <|
    D.ld 10 rfl rfl rfl rfl (v := .int .i64 (dAt a i).lo) (fun w' hw => (hdc w' (gr_below (gr_trans e03 hw))).one 1 rfl rfl) <| D.ld 12 rfl rfl rfl rfl (fun w' hw => ((b1.mv0 (gr_trans e2 e3)).mv0 hw).cellsAll.one 3 rfl rfl) <| D.ys 14 rfl rfl rfl (YS.ix rfl (by omega) (by omega) hA1) <| D.run rfl <|
    D.ld 17 rfl rfl rfl rfl (v := .int .i64 (dAt a i).hi) (fun w' hw => (hdc w' (gr_below (gr_trans e03 hw))).one 2 rfl rfl) <| D.one 18 rfl rfl <| M.cl rfl (In_go (at0 t i) (dAt a i).lo (dAt a i).hi w3) ?_
  rintro e w4 ⟨rfl, e4⟩
  refine ⟨_, rfl, M.run rfl <| M.end_ ⟨.inr e4, D.run rfl <| D.done_ rfl <| M.run rfl <| M.cond rfl (fun h2 => ?_) (fun h2 => ?_)⟩⟩
  · refine M.run rfl <| M.retF rfl rfl ⟨?_, gr_trans e03 e4⟩
    have h2' : within (at0 t i) (dAt a i).lo (dAt a i).hi = false := by simpa using h2
    unfold truthOk
    rw [range_false (f := fun i => within (at0 t i) (dAt a i).lo (dAt a i).hi) hlt h2', Bool.and_false]; rfl
  · have h2' : within (at0 t i) (dAt a i).lo (dAt a i).hi = true := by simpa using h2
    exact M.run rfl <| M.end_ ⟨i + 1, ⟨rfl, rfl, nxt hlt hbd, trivial⟩, ⟨by omega, gr_trans (gr_trans e2 e3) e4, fun j hj => by
      by_cases e : j = i
      · subst e; exact h2'
      · exact hin j (by omega)⟩, by omega⟩
theorem truth_in {a : Acc} (ha : Ok a) {t : List Int} (ht : truthOk a t = true) : t.length = a.ds.length ∧ ∀ i, i < t.length → ((dAt a i).lo ≤ at0 t i ∧ at0 t i ≤ (dAt a i).hi) ∧ 0 ≤ at0 t i ∧ at0 t i ≤ 200 := by
  unfold truthOk at ht
  rw [Bool.and_eq_true] at ht
  have hl := of_decide_eq_true ht.1
  refine ⟨hl, fun i hi => ?_⟩
  have h := Py.within_iff.1 (List.all_eq_true.1 ht.2 i (List.mem_range.2 hi))
  have hd := dAt_ok ha (k := i) (by omega)
  have := hd.lo; have := hd.hi
  exact ⟨h, by omega, by omega⟩
set_option maxHeartbeats 1000000 in
theorem RefBalance_go (a : Acc) (ha : Ok a) (t : List Int) (ht : truthOk a t = true) (A : Option Addr) (c : Nat) (U : Option Addr) (u : Nat) (w : World) (hA : Rd dDsp w A c a.ds) (hU : Rd dI w U u t) :
    Calls Try.prog 28 #[vAcc a A c, .slice U t.length u] w fun e w' => ∃ X x, e = .returned (.slice X (balL a t a.stations.toNat).length x) ∧ Vc.Own dI 3 w' w.heap.size no X x (balL a t a.stations.toNat) ∧ w.grownBy w' none := by
  obtain ⟨hl, hti⟩ := truth_in ha ht
  have hs1 := ha.one
  have hs7 := ha.seven
  have h6 := ha.six
  have hbb := fun (s : Int) (m : Nat) (hm : m ≤ t.length) => bal_bd ha (t := t) (fun i hi => (hti i hi).2) s m hm
  have hbe : balM a t t.length a.stations.toNat = balL a t a.stations.toNat := rfl
  have hch := fun k hk n hn w' (hw : w.grownBy w' none) => Changes_go a ha k hk n hn A c w' (hA.mv hw)
  generalize hst : a.stations.toNat = st at *
  have hvA : vAcc a A c = .agg #[.int .i64 ((st : Nat) : Int), .int .i64 a.rate, .int .i64 a.keeps, .slice A a.ds.length c] := by unfold vAcc; rw [show a.stations = ((st : Nat) : Int) by omega]
  rw [hvA] at hch ⊢
  refine calls (G := G) (args := [.agg #[.int .i64 ((st : Nat) : Int), .int .i64 a.rate, .int .i64 a.keeps, .slice A a.ds.length c], .slice U t.length u]) Try.func28 rfl rfl rfl ?_
  refine M.run rfl <| M.nw (cs := [.int .i64 ((st : Nat) : Int), .int .i64 a.rate, .int .i64 a.keeps, .slice A a.ds.length c]) rfl fun g1 w1 b1 e1 l1 => M.run rfl <| M.ld (v := .int .i64 ((st : Nat) : Int)) rfl (b1.cell rfl rfl) <|
    M.mk_ rfl (by omega) (by omega) (by show (8 : Int) * (st : Int) ≤ _; omega) (by omega) rfl fun g2 w2 b2 e2 l2 => ?_
  have hO : Vc.Own dI 3 w2 w.heap.size no (some ⟨g2, 0, none⟩) st (List.replicate st 0) := own_mk (zs := [.int .i64 0]) no 0 rfl b2 (Nat.le_trans e1.size l2) (by simp [maxLen]; omega)
  rw [← balM_zero a t] at hO
  have e02 := gr_trans e1 e2
  refine M.run rfl <| M.loop (σ := Nat) (fun m => [(1, .slice U t.length u), (2, .pointer (some ⟨g1, 0, none⟩)), (5, .slice (some ⟨g2, 0, none⟩) st st), (6, .int .i64 (m : Int))])
    (fun m w' => m ≤ t.length ∧ w.grownBy w' none ∧ Vc.Own dI 3 w' w.heap.size no (some ⟨g2, 0, none⟩) st (balM a t m st) ∧ Blk w' g1 [.int .i64 ((st : Nat) : Int), .int .i64 a.rate, .int .i64 a.keeps, .slice A a.ds.length c] 24) (fun m => t.length - m) 0 ⟨rfl, rfl, rfl, rfl, trivial⟩ ⟨Nat.zero_le _, e02, hO, b1.mv0 e2⟩ ?_
  rintro m w3 ⟨hm, e3, hO3, b13⟩
  refine M.run rfl <| M.cond rfl (fun h => ?_) (fun h => ?_)
  rotate_left
  · have hie : m = t.length := by have := of_decide_eq_false h; omega
    subst hie
    rw [hbe] at hO3
    refine M.run rfl <| M.retF rfl rfl ⟨some ⟨g2, 0, none⟩, st, ?_, hO3, e3⟩
    rw [balL_len]; rfl
  have hlt : m < t.length := by have := of_decide_eq_true h; omega
  obtain ⟨hU1, hUc⟩ := rd_flat hU hlt
  rw [at0_get hlt] at hUc
  have htm := (hti m hlt).2
  refine M.run rfl <| M.drawG [] (by kernel_rfl) fun w4 e4 => ?_
  have e04 := gr_trans e3 e4
  refine D.run rfl <| D.ldA 0 rfl rfl rfl rfl rfl (fun w' hw => ((b13.mv0 e4).mv0 hw).cellsAll) <| D.ys 4 rfl rfl rfl (YS.ix rfl (by omega) (by omega) hU1) <| D.ld 5 rfl rfl rfl rfl (v := .int .i64 (at0 t m)) (fun w' hw => (hUc w' (gr_below (gr_trans e04 hw))).one 0 rfl rfl) <|
    D.one 6 rfl rfl <| M.cl rfl (hch m (by omega) (at0 t m) htm w4 e04) ?_
  rintro e w5 ⟨Y, y, rfl, hY, e5⟩
  have hg24 : g2 < w4.heap.size := ((hO3.mv0 e4).blkGe g2 rfl).2
  have e05 := gr_trans e04 e5
  have hcl : (chgL a (dAt a m) (at0 t m) st).length = st := by simp [chgL]
  have hbs : Blk w5 g1 _ 24 := (b13.mv0 e4).mv0 e5
  rw [← balP_zero a t m st] at hO3
  refine ⟨_, rfl, M.run rfl <| M.end_ ⟨.inr e5, D.run rfl <| D.done_ rfl <| M.run rfl <| M.loop (σ := Nat) (fun s => [(1, .slice U t.length u), (2, .pointer (some ⟨g1, 0, none⟩)), (5, .slice (some ⟨g2, 0, none⟩) st st), (6, .int .i64 (m : Int)), (7, .slice Y (chgL a (dAt a m) (at0 t m) st).length y), (8, .int .i64 (s : Int))])
    (fun s w' => s ≤ st ∧ w.grownBy w' none ∧ Vc.Own dI 3 w' w.heap.size no (some ⟨g2, 0, none⟩) st (balP a t m s st) ∧ Vc.Own dI 3 w' w4.heap.size no Y y (chgL a (dAt a m) (at0 t m) st) ∧ Blk w' g1 [.int .i64 ((st : Nat) : Int), .int .i64 a.rate, .int .i64 a.keeps, .slice A a.ds.length c] 24) (fun s => st - s) 0 ⟨rfl, rfl, rfl, rfl, rfl, rfl, trivial⟩ ⟨Nat.zero_le _, e05, (hO3.mv0 e4).mv0 e5, hY, hbs⟩ ?_⟩⟩
  rintro s w6 ⟨hs, e6, hO6, hY6, b16⟩
  refine M.run rfl <| M.ld (v := .int .i64 ((st : Nat) : Int)) rfl (b16.cell rfl rfl) <| M.run rfl <| M.cond rfl (fun h => ?_) (fun h => ?_)
  rotate_left
  · have hie : s = st := by have := of_decide_eq_false h; omega
    subst hie
    rw [balP_all] at hO6
    exact M.run rfl <| M.end_ ⟨m + 1, ⟨rfl, rfl, rfl, nxt hlt (by omega), trivial⟩, ⟨by omega, e6, hO6, b16⟩, by omega⟩
  have hslt : s < st := by have := of_decide_eq_true h; omega
  have hstep := balP_step a t m s st hslt
  have hpat := balP_at a t m s st hslt
  rw [if_neg (Nat.lt_irrefl _)] at hpat
  have hcb := change_bd ha (dAt a m) htm (s : Int)
  have hbm := hbb (s : Int) m (by omega)
  have hlp : s < (balP a t m s st).length := by rw [balP_len]; exact hslt
  have hYl : s < (chgL a (dAt a m) (at0 t m) st).length := by omega
  have hcat : at0 (chgL a (dAt a m) (at0 t m) st) s = change a (dAt a m) (at0 t m) (s : Int) := by unfold chgL; rw [map_at _ hslt]
  obtain ⟨hY1, hYc⟩ := rd_flat (hY6.rd (by decide)) hYl
  rw [at0_get hYl, hcat] at hYc
  obtain ⟨g', cur, hgg, hg, bX, hlX, hcX, hset⟩ := own_int hO6 hlp
  injection hgg with hgg; injection hgg with hgg; subst hgg
  refine M.run rfl <| M.drawG [10] (by kernel_rfl) fun w7 e7 => ?_
  refine D.run rfl <| D.ys 2 rfl rfl rfl (YS.ix rfl (by omega) (by omega) rfl) <| D.ld 3 rfl rfl rfl rfl (v := .int .i64 (at0 (balP a t m s st) s)) (fun w' hw => by rw [← at0_get hlp]; show w'.cell? ((adOf (some (⟨g2, 0, none⟩ : Addr))).add (s * 1)) = _; rw [ad1]; exact own_cell hO6 hlp rfl (gr_trans e7 hw) (by simp)) <|
    D.ys 6 rfl rfl rfl (YS.ix rfl (by omega) (by omega) hY1) <| D.ld 7 rfl rfl rfl rfl (v := .int .i64 (change a (dAt a m) (at0 t m) (s : Int))) (fun w' hw => (hYc w' (gr_below (gr_trans e7 hw))).one 0 rfl rfl) <| D.run rfl ?_
  rw [w64 (x := at0 (balP a t m s st) s + change a (dAt a m) (at0 t m) (s : Int)) (by omega) (by omega)]
  refine D.ys 9 rfl rfl rfl (YS.ix rfl (by omega) (by omega) rfl) <| D.one 10 rfl rfl <| M.storeA (cs := cur) (off := s) (vs := [.int .i64 (at0 (balP a t m s st) s + change a (dAt a m) (at0 t m) (s : Int))]) rfl rfl (by show (adOf (some (⟨g2, 0, none⟩ : Addr))).add (s * 1) = _; rw [ad1]) (bX.mv0 e7) (by simp; omega) rfl fun w8 b8 e8 => M.run rfl <| M.end_ ⟨.inl ⟨rfl, trivial⟩, D.done_ rfl ?_⟩
  have hO8 := hset _ w8 b8
  rw [hstep] at hO8
  have hY8 : Vc.Own dI 3 w8 w4.heap.size no Y y (chgL a (dAt a m) (at0 t m) st) := (hY6.mv0 e7).mvOld e8 hg24
  have hn : g2 ≠ g1 := bX.ne b16 (by decide)
  exact M.run rfl <| M.end_ ⟨s + 1, ⟨rfl, rfl, rfl, rfl, rfl, nxt hslt (by omega), trivial⟩, ⟨by omega, gr_fresh (gr_trans e6 e7) e8 hg, hO8, hY8, (b16.mv0 e7).mv1 e8 hn⟩, by omega⟩
end Go.Proofs.Yteeikpmoboehdaa
end

section
/- Walk: the law PayShares. -/
set_option linter.unusedVariables false
namespace Py
theorem sharesE_bad {a : Acc} {i n : Int} (h : fault a ≠ 0) : sharesE a i n = fault a ∧ sharesR a i n = [] := by
  have h1 : sharesE a i n = fault a := if_pos h
  exact ⟨h1, by unfold sharesR; rw [h1, if_neg h]⟩
theorem sharesE_two {a : Acc} {i n : Int} (h : fault a = 0) (h2 : within i 0 ((a.ds.length : Int) - 1) = false ∨ within n (dAt a i.toNat).lo (dAt a i.toNat).hi = false) : sharesE a i n = 2 ∧ sharesR a i n = [] := by
  have h1 : sharesE a i n = 2 := by
    unfold sharesE
    rw [if_neg (by simp [h]), if_pos (by rcases h2 with h2 | h2 <;> simp [h2])]
  exact ⟨h1, by unfold sharesR; rw [h1, if_neg (by decide)]⟩
theorem sharesE_ok {a : Acc} {i n : Int} (h : fault a = 0) (h2 : within i 0 ((a.ds.length : Int) - 1) = true) (h3 : within n (dAt a i.toNat).lo (dAt a i.toNat).hi = true) : sharesE a i n = 0 ∧ sharesR a i n = share a (dAt a i.toNat) n := by
  have h1 : sharesE a i n = 0 := by
    unfold sharesE
    rw [if_neg (by simp [h]), if_neg (by simp [h2, h3])]
  exact ⟨h1, by unfold sharesR; rw [h1, if_pos rfl]⟩
theorem balanceE_bad {a : Acc} {t : List Int} (h : fault a ≠ 0) : balanceE a t = fault a ∧ balanceR a t = [] := by
  have h1 : balanceE a t = fault a := if_pos h
  exact ⟨h1, by unfold balanceR; rw [h1, if_neg h]⟩
theorem balanceE_two {a : Acc} {t : List Int} (h : fault a = 0) (h2 : truthOk a t = false) : balanceE a t = 2 ∧ balanceR a t = [] := by
  have h1 : balanceE a t = 2 := by unfold balanceE; rw [if_neg (by simp [h]), if_neg (by rw [h2]; decide)]
  exact ⟨h1, by unfold balanceR; rw [h1, if_neg (by decide)]⟩
theorem balanceE_ok {a : Acc} {t : List Int} (h : fault a = 0) (h2 : truthOk a t = true) : balanceE a t = 0 ∧ balanceR a t = balL a t a.stations.toNat := by
  have h1 : balanceE a t = 0 := by unfold balanceE; rw [if_neg (by simp [h]), if_pos h2]
  exact ⟨h1, by unfold balanceR; rw [h1, if_pos rfl]⟩
end Py
namespace Go.Proofs.Yteeikpmoboehdaa
open Go Go.Vc Go.RowKit Py
set_option maxHeartbeats 4000000 in
set_option maxRecDepth 100000 in
theorem PayShares_go (a : Acc) (i n : Int) (t : List Int) (A : Option Addr) (c : Nat) (U : Option Addr) (u : Nat) (w : World) (hA : Rd dDsp w A c a.ds) (hU : Rd dI w U u t) :
    Calls Try.prog 3 #[vAcc a A c, .int .i64 i, .int .i64 n, .slice U t.length u] w fun e w' => e = .returned (.bool true) ∧ w.grownBy w' none := by
  refine calls (G := G) (args := [vAcc a A c, .int .i64 i, .int .i64 n, .slice U t.length u]) Try.func3 rfl rfl rfl ?_
  refine M.run rfl <| M.nw (cs := [.int .i64 a.stations, .int .i64 a.rate, .int .i64 a.keeps, .slice A a.ds.length c]) rfl fun g1 w1 b1 e1 l1 => M.run rfl <| M.ldA rfl rfl b1.cellsAll <| M.run rfl <| M.cl rfl (Thin_go a A c w1 (hA.mv e1)) ?_
  rintro e w2 ⟨⟨th, rfl, hth⟩, e2⟩
  have e02 := gr_trans e1 e2
  cases th with
  | false =>
    refine ⟨_, rfl, M.at_ [18] rfl <| M.caseT 18 rfl rfl <| M.run rfl <| M.condT rfl rfl <| M.run rfl <| M.cl rfl (awake_go w2) ?_⟩
    rintro e w3 ⟨rfl, e3⟩
    exact ⟨_, rfl, M.run rfl <| M.retF rfl rfl ⟨rfl, gr_trans e02 e3⟩⟩
  | true =>
  obtain ⟨h9, h8⟩ := hth rfl
  have h8' : ∀ d ∈ a.ds, d.passed.length ≤ 1000000 := fun d hd => by have := h8 d hd; omega
  refine ⟨_, rfl, M.at_ [18] rfl <| M.caseF 18 rfl rfl <| M.run rfl <| M.cond rfl (fun h => ?_) (fun h => ?_)⟩
  · refine M.run rfl <| M.cl rfl (awake_go w2) ?_
    rintro e w3 ⟨rfl, e3⟩
    exact ⟨_, rfl, M.run rfl <| M.retF rfl rfl ⟨rfl, gr_trans e02 e3⟩⟩
  have ht11 := of_decide_eq_false h
  have hacc := fun w' (hw : w.grownBy w' none) => Account_go a A c w' (hA.mv hw) (by omega) h8'
  refine M.run rfl <| M.ldA rfl rfl (b1.mv0 e2).cellsAll <| M.run rfl <| M.cl rfl (hacc w2 e02) ?_
  rintro e w3 ⟨X3, x3, rfl, hX3, e3⟩
  refine ⟨_, rfl, M.run rfl <| M.cl rfl (CheckAccount_go a X3 x3 w3 hX3) ?_⟩
  rintro e w4 ⟨rfl, e4⟩
  have e14 := gr_trans (gr_trans e2 e3) e4
  have e04 := gr_trans e1 e14
  refine ⟨_, rfl, M.run rfl <| M.ldA rfl rfl (b1.mv0 e14).cellsAll <| M.run rfl <| M.cl rfl (hacc w4 e04) ?_⟩
  rintro e w5 ⟨X5, x5, rfl, hX5, e5⟩
  refine ⟨_, rfl, M.run rfl <| M.cl rfl (Shares_go a i n X5 x5 w5 hX5) ?_⟩
  rintro e w6 ⟨S, s, rfl, hS, e6⟩
  have e16 := gr_trans (gr_trans e14 e5) e6
  have e06 := gr_trans e1 e16
  refine ⟨_, rfl, M.run rfl <| M.ldA rfl rfl (b1.mv0 e16).cellsAll <| M.run rfl <| M.cl rfl (hacc w6 e06) ?_⟩
  rintro e w7 ⟨X7, x7, rfl, hX7, e7⟩
  have e07 := gr_trans e06 e7
  refine ⟨_, rfl, M.run rfl <| M.cl rfl (list_go t U u w7 (hU.mv e07) (by omega)) ?_⟩
  rintro e w8 ⟨V, v, rfl, hV, e8⟩
  refine ⟨_, rfl, M.run rfl <| M.cl rfl (Balance_go a t X7 x7 V v w8 (hX7.mv e8) (hV.rd (by decide))) ?_⟩
  rintro e w9 ⟨B, b, rfl, hB, e9⟩
  have e69 := gr_trans (gr_trans e7 e8) e9
  have e19 := gr_trans e16 e69
  have e09 := gr_trans e1 e19
  refine ⟨_, rfl, M.run rfl <| M.ldA rfl rfl (b1.mv0 e19).cellsAll <| M.run rfl <| M.cl rfl (fault_go a A c w9 (hA.mv e09)) ?_⟩
  rintro e wa ⟨rfl, ea⟩
  have e1a := gr_trans e19 ea
  have e0a := gr_trans e1 e1a
  refine ⟨_, rfl, M.run rfl <| M.condF rfl (by simp) <| M.run rfl <| M.ldA rfl rfl (b1.mv0 e1a).cellsAll <| M.run rfl <| M.cl rfl (fault_go a A c wa (hA.mv e0a)) ?_⟩
  rintro e wb ⟨rfl, eb⟩
  have e1b := gr_trans e1a eb
  have e0b := gr_trans e1 e1b
  have rS : Rd dI wb S s (sharesR a i n) := Rd.mv (hS.rd (by decide)) (gr_trans (gr_trans e69 ea) eb)
  have rB : Rd dI wb B b (balanceR a t) := Rd.mv (hB.rd (by decide)) (gr_trans ea eb)
  have b1b := b1.mv0 e1b
  by_cases hf : fault a = 0
  rotate_left
  · obtain ⟨s1, s2⟩ := sharesE_bad (i := i) (n := n) hf
    obtain ⟨t1, t2⟩ := balanceE_bad (t := t) hf
    rw [s1, s2, t1, t2]
    refine ⟨_, rfl, M.run rfl <| M.condT rfl (by simp [hf]) <| M.at_ [54] rfl <| M.caseT 54 rfl (by simp) <| M.at_ [59] rfl <| M.caseT 59 rfl (by simp) <| M.at_ [67] rfl <| M.caseT 67 rfl rfl <| M.run rfl <| M.cl rfl (awake_go wb) ?_⟩
    rintro e wc ⟨rfl, ec⟩
    exact ⟨_, rfl, M.run rfl <| M.retF rfl rfl ⟨rfl, gr_trans e0b ec⟩⟩
  have ha := fault_ok hf
  have h6 := ha.six
  rw [hf]
  refine ⟨_, rfl, M.run rfl <| M.condF rfl rfl <| M.run rfl <| M.drawG [] (by kernel_rfl) fun wc ec => ?_⟩
  have e1c := gr_trans e1b ec
  have e0c := gr_trans e1 e1c
  refine D.run rfl <| D.ld 2 rfl rfl rfl rfl (fun w' hw => ((b1.mv0 e1c).mv0 hw).cellsAll.one 3 rfl rfl) <| D.at_ [74] rfl ?_
  rw [w64 (x := (a.ds.length : Int) - 1) (by omega) (by omega)]
  refine D.one 5 rfl rfl <| M.cl rfl (In_go i 0 ((a.ds.length : Int) - 1) wc) ?_
  rintro e wd ⟨rfl, ed⟩
  have e1d := gr_trans e1c ed
  have e0d := gr_trans e1 e1d
  refine ⟨_, rfl, M.run rfl <| M.end_ ⟨.inr ed, D.at_ [77] rfl <| D.case 77 rfl (fun h => ?_) (fun h => ?_)⟩⟩
  · have hin : within i 0 ((a.ds.length : Int) - 1) = false := by simpa using h
    obtain ⟨s1, s2⟩ := sharesE_two (n := n) hf (.inl hin)
    rw [s1, s2]
    refine D.run rfl <| D.done_ rfl <| M.run rfl <| M.condT rfl rfl <| M.at_ [98] rfl <| M.caseF 98 rfl rfl <| M.run rfl <| M.condF rfl rfl <| M.run rfl <| M.ldA rfl rfl (b1.mv0 e1d).cellsAll <| M.run rfl <| M.cl rfl (IsTruth_go a t A c U u wd (hA.mv e0d) (hU.mv e0d)) ?_
    rintro e we ⟨rfl, ee⟩
    have e0e := gr_trans e0d ee
    have e1e := gr_trans e1d ee
    have rBe : Rd dI we B b (balanceR a t) := rB.mv (gr_trans (gr_trans ec ed) ee)
    cases htr : truthOk a t with
    | false =>
      obtain ⟨t1, t2⟩ := balanceE_two hf htr
      rw [t1, t2]
      refine ⟨_, rfl, M.run rfl <| M.condT rfl rfl <| M.at_ [120] rfl <| M.caseT 120 rfl rfl <| M.at_ [125] rfl <| M.caseT 125 rfl rfl <| M.run rfl <| M.cl rfl (awake_go we) ?_⟩
      rintro e wf ⟨rfl, ef⟩
      exact ⟨_, rfl, M.run rfl <| M.retF rfl rfl ⟨rfl, gr_trans e0e ef⟩⟩
    | true =>
      obtain ⟨t1, t2⟩ := balanceE_ok hf htr
      rw [t1, t2]
      rw [t2] at rBe
      refine ⟨_, rfl, M.run rfl <| M.condF rfl rfl <| M.at_ [130] rfl <| M.caseT 130 rfl rfl <| M.run rfl <| M.ldA rfl rfl (b1.mv0 e1e).cellsAll <| M.run rfl <| M.cl rfl (RefBalance_go a ha t htr A c U u we (hA.mv e0e) (hU.mv e0e)) ?_⟩
      rintro e wf ⟨Q, q, rfl, hQ, ef⟩
      have e0f := gr_trans e0e ef
      refine ⟨_, rfl, M.run rfl <| M.cl rfl (ints_go _ _ B b Q q wf (rBe.mv ef) (hQ.rd (by decide))) ?_⟩
      rintro e wg ⟨rfl, eg⟩
      have e0g := gr_trans e0f eg
      refine ⟨_, rfl, M.at_ [137] rfl <| M.caseT 137 rfl (by simp) <| M.run rfl <| M.cl rfl (awake_go wg) ?_⟩
      rintro e wh ⟨rfl, eh⟩
      exact ⟨_, rfl, M.run rfl <| M.retF rfl rfl ⟨rfl, gr_trans e0g eh⟩⟩
  have hin : within i 0 ((a.ds.length : Int) - 1) = true := by simpa using h
  obtain ⟨i0, i1⟩ := Py.within_iff.1 hin
  have hil : i.toNat < a.ds.length := by omega
  have hii : ((i.toNat : Nat) : Int) = i := by omega
  obtain ⟨hA1, P, p, hP, hdc⟩ := rd_dsp hA hil
  rw [dAt_get hil] at hdc
  refine D.run rfl <| D.ld 10 rfl rfl rfl rfl (fun w' hw => ((b1.mv0 e1d).mv0 hw).cellsAll.one 3 rfl rfl) <| D.ys 12 rfl rfl rfl (YS.ix rfl (by omega) (by omega) hA1) <| D.run rfl <| D.ld 15 rfl rfl rfl rfl (v := .int .i64 (dAt a i.toNat).lo) (fun w' hw => (hdc w' (gr_below (gr_trans e0d hw))).one 1 rfl rfl) <|
    D.ld 17 rfl rfl rfl rfl (fun w' hw => ((b1.mv0 e1d).mv0 hw).cellsAll.one 3 rfl rfl) <| D.ys 19 rfl rfl rfl (YS.ix rfl (by omega) (by omega) hA1) <| D.run rfl <| D.ld 22 rfl rfl rfl rfl (v := .int .i64 (dAt a i.toNat).hi) (fun w' hw => (hdc w' (gr_below (gr_trans e0d hw))).one 2 rfl rfl) <|
    D.one 23 rfl rfl <| M.cl rfl (In_go n (dAt a i.toNat).lo (dAt a i.toNat).hi wd) ?_
  rintro e wx ⟨rfl, ex⟩
  have e1x := gr_trans e1d ex
  have e0x := gr_trans e1 e1x
  have fin : ∀ wz : World, w1.grownBy wz none → wb.grownBy wz none → True := fun _ _ _ => trivial
  refine ⟨_, rfl, M.run rfl <| M.end_ ⟨.inr ex, D.run rfl <| D.done_ rfl <| M.run rfl <| M.cond rfl (fun h2 => ?_) (fun h2 => ?_)⟩⟩
  · have hin2 : within n (dAt a i.toNat).lo (dAt a i.toNat).hi = false := by simpa using h2
    obtain ⟨s1, s2⟩ := sharesE_two hf (.inr hin2)
    rw [s1, s2]
    refine M.at_ [98] rfl <| M.caseF 98 rfl rfl <| M.run rfl <| M.condF rfl rfl <| M.run rfl <| M.ldA rfl rfl (b1.mv0 e1x).cellsAll <| M.run rfl <| M.cl rfl (IsTruth_go a t A c U u wx (hA.mv e0x) (hU.mv e0x)) ?_
    rintro e we ⟨rfl, ee⟩
    have e0e := gr_trans e0x ee
    have e1e := gr_trans e1x ee
    have rBe : Rd dI we B b (balanceR a t) := rB.mv (gr_trans (gr_trans (gr_trans ec ed) ex) ee)
    cases htr : truthOk a t with
    | false =>
      obtain ⟨t1, t2⟩ := balanceE_two hf htr
      rw [t1, t2]
      refine ⟨_, rfl, M.run rfl <| M.condT rfl rfl <| M.at_ [120] rfl <| M.caseT 120 rfl rfl <| M.at_ [125] rfl <| M.caseT 125 rfl rfl <| M.run rfl <| M.cl rfl (awake_go we) ?_⟩
      rintro e wf ⟨rfl, ef⟩
      exact ⟨_, rfl, M.run rfl <| M.retF rfl rfl ⟨rfl, gr_trans e0e ef⟩⟩
    | true =>
      obtain ⟨t1, t2⟩ := balanceE_ok hf htr
      rw [t1, t2]
      rw [t2] at rBe
      refine ⟨_, rfl, M.run rfl <| M.condF rfl rfl <| M.at_ [130] rfl <| M.caseT 130 rfl rfl <| M.run rfl <| M.ldA rfl rfl (b1.mv0 e1e).cellsAll <| M.run rfl <| M.cl rfl (RefBalance_go a ha t htr A c U u we (hA.mv e0e) (hU.mv e0e)) ?_⟩
      rintro e wf ⟨Q, q, rfl, hQ, ef⟩
      have e0f := gr_trans e0e ef
      refine ⟨_, rfl, M.run rfl <| M.cl rfl (ints_go _ _ B b Q q wf (rBe.mv ef) (hQ.rd (by decide))) ?_⟩
      rintro e wg ⟨rfl, eg⟩
      have e0g := gr_trans e0f eg
      refine ⟨_, rfl, M.at_ [137] rfl <| M.caseT 137 rfl (by simp) <| M.run rfl <| M.cl rfl (awake_go wg) ?_⟩
      rintro e wh ⟨rfl, eh⟩
      exact ⟨_, rfl, M.run rfl <| M.retF rfl rfl ⟨rfl, gr_trans e0g eh⟩⟩
  · have hin2 : within n (dAt a i.toNat).lo (dAt a i.toNat).hi = true := by simpa using h2
    obtain ⟨s1, s2⟩ := sharesE_ok hf hin hin2
    obtain ⟨n0, n1⟩ := Py.within_iff.1 hin2
    have hdo := dAt_ok ha hil
    have hlo := hdo.lo
    have hhi := hdo.hi
    rw [s1, s2]
    rw [s2] at rS
    have hc := RefShares_go a ha i.toNat hil n ⟨by omega, by omega⟩ A c wx (hA.mv e0x)
    rw [dAt_get hil, hii] at hc
    refine M.at_ [105] rfl <| M.caseF 105 rfl rfl <| M.run rfl <| M.ldA rfl rfl (b1.mv0 e1x).cellsAll <| M.run rfl <| M.cl rfl hc ?_
    rintro e wy ⟨Q, q, rfl, hQ, ey⟩
    have rSy : Rd dI wy S s (share a (dAt a i.toNat) n) := rS.mv (gr_trans (gr_trans (gr_trans ec ed) ex) ey)
    refine ⟨_, rfl, M.run rfl <| M.cl rfl (ints_go _ _ S s Q q wy rSy (hQ.rd (by decide))) ?_⟩
    rintro e wz ⟨rfl, ez⟩
    have e1z := gr_trans (gr_trans e1x ey) ez
    have e0z := gr_trans e1 e1z
    refine ⟨_, rfl, M.run rfl <| M.condF rfl (by simp) <| M.run rfl <| M.ldA rfl rfl (b1.mv0 e1z).cellsAll <| M.run rfl <| M.cl rfl (IsTruth_go a t A c U u wz (hA.mv e0z) (hU.mv e0z)) ?_⟩
    rintro e we ⟨rfl, ee⟩
    have e0e := gr_trans e0z ee
    have e1e := gr_trans e1z ee
    have rBe : Rd dI we B b (balanceR a t) := rB.mv (gr_trans (gr_trans (gr_trans (gr_trans (gr_trans ec ed) ex) ey) ez) ee)
    cases htr : truthOk a t with
    | false =>
      obtain ⟨t1, t2⟩ := balanceE_two hf htr
      rw [t1, t2]
      refine ⟨_, rfl, M.run rfl <| M.condT rfl rfl <| M.at_ [120] rfl <| M.caseT 120 rfl rfl <| M.at_ [125] rfl <| M.caseT 125 rfl rfl <| M.run rfl <| M.cl rfl (awake_go we) ?_⟩
      rintro e wf ⟨rfl, ef⟩
      exact ⟨_, rfl, M.run rfl <| M.retF rfl rfl ⟨rfl, gr_trans e0e ef⟩⟩
    | true =>
      obtain ⟨t1, t2⟩ := balanceE_ok hf htr
      rw [t1, t2]
      rw [t2] at rBe
      refine ⟨_, rfl, M.run rfl <| M.condF rfl rfl <| M.at_ [130] rfl <| M.caseT 130 rfl rfl <| M.run rfl <| M.ldA rfl rfl (b1.mv0 e1e).cellsAll <| M.run rfl <| M.cl rfl (RefBalance_go a ha t htr A c U u we (hA.mv e0e) (hU.mv e0e)) ?_⟩
      rintro e wf ⟨Q, q, rfl, hQ, ef⟩
      have e0f := gr_trans e0e ef
      refine ⟨_, rfl, M.run rfl <| M.cl rfl (ints_go _ _ B b Q q wf (rBe.mv ef) (hQ.rd (by decide))) ?_⟩
      rintro e wg ⟨rfl, eg⟩
      have e0g := gr_trans e0f eg
      refine ⟨_, rfl, M.at_ [137] rfl <| M.caseT 137 rfl (by simp) <| M.run rfl <| M.cl rfl (awake_go wg) ?_⟩
      rintro e wh ⟨rfl, eh⟩
      exact ⟨_, rfl, M.run rfl <| M.retF rfl rfl ⟨rfl, gr_trans e0g eh⟩⟩
end Go.Proofs.Yteeikpmoboehdaa
end
