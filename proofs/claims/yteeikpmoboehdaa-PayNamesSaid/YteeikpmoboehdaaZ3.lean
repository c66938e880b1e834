/- The row, its walks and what they need (merged from several texts: YteeikpmoboehdaaMG, YteeikpmoboehdaaMH, YteeikpmoboehdaaMI, YteeikpmoboehdaaMJ, YteeikpmoboehdaaMK, YteeikpmoboehdaaML, YteeikpmoboehdaaMM, YteeikpmoboehdaaMN, YteeikpmoboehdaaR0, YteeikpmoboehdaaR1, YteeikpmoboehdaaBase). -/
import Derived.Test.YteeikpmoboehdaaZ2
import Derived.Test.YteeikpmoboehdaaZ0
import Derived.Test.YteeikpmoboehdaaRows
import Derived.WalkKit
import Derived.ProofKit
import Derived.OpenShut
import Derived.ChangeOld
import Derived.Below
import Derived.SizedLaws
import Derived.Test.YteeikpmoboehdaaZ1
set_option linter.unusedVariables false
set_option linter.unusedSimpArgs false
section
/- Walks: the reference's words, the law PayWords. -/
set_option linter.unusedVariables false
namespace Go.Proofs.Yteeikpmoboehdaa
open Go Go.Vc Go.RowKit Py
set_option maxHeartbeats 2000000 in
theorem RefWords_go (a : Acc) (hf : fault a = 0) (i st pence : Int) (A : Option Addr) (c : Nat) (w : World) (hA : Rd dDsp w A c a.ds) :
    Calls Try.prog 30 #[vAcc a A c, .agg #[.int .i64 i, .int .i64 st, .int .i64 pence]] w fun e w' => ∃ X x, e = .returned (.tuple #[.slice X (wordsR a i st pence).length x, .int .i64 (wordsE a i st pence)]) ∧ Vc.Own dI 3 w' w.heap.size no X x (wordsR a i st pence) ∧ w.grownBy w' none := by
  have ha := fault_ok hf
  have h6 := ha.six
  refine calls (G := G) (args := [vAcc a A c, .agg #[.int .i64 i, .int .i64 st, .int .i64 pence]]) Try.func30 rfl rfl rfl ?_
  refine M.run rfl <| M.nw (cs := [.int .i64 a.stations, .int .i64 a.rate, .int .i64 a.keeps, .slice A a.ds.length c]) rfl fun g1 w1 b1 e1 l1 => M.run rfl <| M.nw (cs := [.int .i64 i, .int .i64 st, .int .i64 pence]) rfl fun g2 w2 b2 e2 l2 => M.run rfl <| M.ld (v := .int .i64 i) rfl (b2.cell rfl rfl) <| M.run rfl <| M.ld rfl ((b1.mv0 e2).cellsAll.one 3 rfl rfl) <| M.at_ [16] rfl ?_
  rw [w64 (x := (a.ds.length : Int) - 1) (by omega) (by omega)]
  have e02 := gr_trans e1 e2
  refine M.run rfl <| M.cl rfl (In_go i 0 ((a.ds.length : Int) - 1) w2) ?_
  rintro e w3 ⟨rfl, e3⟩
  have e03 := gr_trans e02 e3
  have b13 := (b1.mv0 e2).mv0 e3
  have b23 := b2.mv0 e3
  refine ⟨_, rfl, M.run rfl <| M.cond rfl (fun h => ?_) (fun h => ?_)⟩
  · have hin : within i 0 ((a.ds.length : Int) - 1) = false := by simpa using h
    have hE : wordsE a i st pence = 2 := by unfold wordsE; rw [if_neg (by simp [hf]), if_pos (by simp [hin])]
    have hR : wordsR a i st pence = [] := by unfold wordsR; rw [hE, if_neg (by decide)]
    exact M.run rfl (M.retF rfl rfl ⟨none, 0, by rw [hE, hR]; rfl, by rw [hR]; exact Vc.Own.nil _ _ _ _ _, e03⟩)
  have hin : within i 0 ((a.ds.length : Int) - 1) = true := by simpa using h
  obtain ⟨i0, i1⟩ := Py.within_iff.1 hin
  have hil : i.toNat < a.ds.length := by omega
  have hii : ((i.toNat : Nat) : Int) = i := by omega
  obtain ⟨hA1, P, p, hP, hdc⟩ := rd_dsp hA hil
  have hsh := fun n hn w' (hw : w.grownBy w' none) => RefShares_go a ha i.toNat hil n hn A c w' (hA.mv hw)
  have hdo := ha.d a.ds[i.toNat] (List.getElem_mem hil)
  have hE0 : wordsE a i st pence = if idxI a.ds[i.toNat].passed st < 0 then 7 else if (fitL a a.ds[i.toNat] (a.ds[i.toNat].passed.idxOf st) pence (a.ds[i.toNat].hi - a.ds[i.toNat].lo + 1).toNat).length = 0 then 11 else 0 := by
    unfold wordsE fitAll
    rw [if_neg (by simp [hf]), if_neg (by simp [hin]), getD_at _ _ hil]
  have hF0 : fitAll a i.toNat st pence = fitL a a.ds[i.toNat] (a.ds[i.toNat].passed.idxOf st) pence (a.ds[i.toNat].hi - a.ds[i.toNat].lo + 1).toNat := by
    unfold fitAll; rw [getD_at _ _ hil]
  have hslen := fun n => share_len a a.ds[i.toNat] n
  have hsat := fun n k (hk : k < a.ds[i.toNat].passed.length) => share_at a a.ds[i.toNat] n hk
  generalize hd : a.ds[i.toNat] = d at *
  have h5 := hdo.five
  have hlo := hdo.lo
  have hhi := hdo.hi
  have hlh := hdo.lohi
  refine M.run rfl <| M.ld rfl (b13.cellsAll.one 3 rfl rfl) <| M.run rfl <| M.ld (v := .int .i64 i) rfl (b23.cell rfl rfl) <| M.run rfl <| M.ix rfl (by omega) (by omega) hA1 <| M.ldA rfl rfl (hdc w3 (gr_below e03)) <| M.nw rfl fun g4 w4 b4 e4 l4 => M.run rfl <| M.store rfl rfl b4 rfl rfl fun w5 b5 e5 => ?_
  replace b5 : Blk w5 g4 (encDsp d P p) 43 := b5
  have e35 := gr_fresh e4 e5 l4
  have e05 := gr_trans e03 e35
  have b15 := b13.mv0 e35
  have b25 := b23.mv0 e35
  refine M.run rfl <| M.loop (σ := Nat) (fun k => [(2, .pointer (some ⟨g1, 0, none⟩)), (3, .pointer (some ⟨g2, 0, none⟩)), (6, .pointer (some ⟨g4, 0, none⟩)), (7, .int .i64 (if d.passed.idxOf st < k then (d.passed.idxOf st : Int) else -1)), (8, .int .i64 (k : Int))])
    (fun k w' => k ≤ d.passed.length ∧ w5.grownBy w' none) (fun k => d.passed.length - k) 0 ⟨rfl, rfl, rfl, rfl, rfl, trivial⟩ ⟨Nat.zero_le _, gr_refl _ _⟩ ?_
  rintro k w6 ⟨hk, e6⟩
  refine M.run rfl <| M.ld rfl ((b5.mv0 e6).cellsAll.one 3 rfl rfl) <| M.run rfl <| M.cond rfl (fun h => ?_) (fun h => ?_)
  · have hlt : k < d.passed.length := by have := of_decide_eq_true h; omega
    obtain ⟨hP1, hPc⟩ := rd_flat hP hlt
    rw [at0_get hlt] at hPc
    have hidx := idx_eq hlt hdo.once
    refine M.run rfl <| M.drawG [] (by kernel_rfl) fun w7 e7 => ?_
    have e57 := gr_trans e6 e7
    refine D.run rfl <| D.ld 1 rfl rfl rfl rfl (fun w' hw => ((b5.mv0 e57).mv0 hw).cellsAll.one 3 rfl rfl) <| D.ys 3 rfl rfl rfl (YS.ix rfl (by omega) (by omega) hP1) <| D.ld 4 rfl rfl rfl rfl (v := .int .i64 (at0 d.passed k)) (fun w' hw => (hPc w' (gr_below (gr_trans (gr_trans e05 e57) hw))).one 0 rfl rfl) <| D.ld 6 rfl rfl rfl rfl (v := .int .i64 st) (fun w' hw => ((b25.mv0 e57).mv0 hw).cellsAll.one 1 rfl rfl) <| D.run rfl <| D.done_ rfl <|
      M.run rfl <| M.cond rfl (fun h2 => ?_) (fun h2 => ?_)
    · have h2' : at0 d.passed k = st := by simpa using h2
      rw [h2'] at hidx
      refine M.run rfl <| M.end_ ⟨k + 1, ⟨rfl, rfl, rfl, ?_, nxt hlt (by omega), trivial⟩, ⟨by omega, e57⟩, by omega⟩
      show some (Value.int .i64 (k : Int)) = some (Value.int .i64 (if d.passed.idxOf st < k + 1 then (d.passed.idxOf st : Int) else -1))
      rw [hidx, if_pos (Nat.lt_succ_self k)]
    · have h2' : at0 d.passed k ≠ st := by simpa using h2
      refine M.run rfl <| M.end_ ⟨k + 1, ⟨rfl, rfl, rfl, ?_, nxt hlt (by omega), trivial⟩, ⟨by omega, e57⟩, by omega⟩
      have hne : d.passed.idxOf st ≠ k := fun he => h2' (by have := idx_at (s := st) (l := d.passed) (by omega); rw [he] at this; exact this)
      by_cases hc : d.passed.idxOf st < k
      · rw [if_pos (show d.passed.idxOf st < k + 1 by omega)]
        show some (Value.int .i64 (if d.passed.idxOf st < k then (d.passed.idxOf st : Int) else -1)) = _
        rw [if_pos hc]
      · rw [if_neg (show ¬ d.passed.idxOf st < k + 1 by omega)]
        show some (Value.int .i64 (if d.passed.idxOf st < k then (d.passed.idxOf st : Int) else -1)) = _
        rw [if_neg hc]
  have hin : k = d.passed.length := by have := of_decide_eq_false h; omega
  subst hin
  have hI : (if d.passed.idxOf st < d.passed.length then (d.passed.idxOf st : Int) else -1) = idxI d.passed st := rfl
  rw [hI]
  have e06 := gr_trans e05 e6
  refine M.run rfl <| M.cond rfl (fun h => ?_) (fun h => ?_)
  · have h' := of_decide_eq_true h
    have hE : wordsE a i st pence = 7 := by rw [hE0, if_pos h']
    have hR : wordsR a i st pence = [] := by unfold wordsR; rw [hE, if_neg (by decide)]
    exact M.run rfl (M.retF rfl rfl ⟨none, 0, by rw [hE, hR]; rfl, by rw [hR]; exact Vc.Own.nil _ _ _ _ _, e06⟩)
  have hat0 := of_decide_eq_false h
  have hidl : d.passed.idxOf st < d.passed.length := by
    apply Decidable.byContradiction
    intro hc
    exact hat0 (by unfold idxI; rw [if_neg hc]; omega)
  have hidv : idxI d.passed st = (d.passed.idxOf st : Int) := by unfold idxI; rw [if_pos hidl]
  rw [hidv]
  have b56 := b5.mv0 e6
  have hfl := fun m => fitL_len a d (d.passed.idxOf st) pence m
  refine M.run rfl <| M.ld (v := .int .i64 d.lo) rfl (b56.cellsAll.one 1 rfl rfl) <| M.run rfl <| M.loop (σ := Nat × Option Addr × Nat) (fun (m, X, x) => [(2, .pointer (some ⟨g1, 0, none⟩)), (3, .pointer (some ⟨g2, 0, none⟩)), (6, .pointer (some ⟨g4, 0, none⟩)), (7, .int .i64 (d.passed.idxOf st : Int)), (9, .slice X (fitL a d (d.passed.idxOf st) pence m).length x), (10, .int .i64 (d.lo + (m : Int)))])
    (fun (m, X, x) w' => (m : Int) ≤ d.hi - d.lo + 1 ∧ w6.grownBy w' none ∧ Vc.Own dI 3 w' w6.heap.size no X x (fitL a d (d.passed.idxOf st) pence m)) (fun (m, _) => (d.hi - d.lo + 1).toNat - m) (0, none, 0) ⟨rfl, rfl, rfl, rfl, rfl, by simp [Env.find_cons], trivial⟩ ⟨by omega, gr_refl _ _, Vc.Own.nil _ _ _ _ _⟩ ?_
  rintro ⟨m, X, x⟩ w7 ⟨hm, e7, hX⟩
  have e57 := gr_trans e6 e7
  have e07 := gr_trans e05 e57
  refine M.run rfl <| M.ld (v := .int .i64 d.hi) rfl ((b5.mv0 e57).cellsAll.one 2 rfl rfl) <| M.run rfl <| M.cond rfl (fun h => ?_) (fun h => ?_)
  rotate_left
  · have h' := of_decide_eq_false h
    have hin : m = (d.hi - d.lo + 1).toNat := by omega
    subst hin
    refine M.run rfl <| M.cond rfl (fun h2 => ?_) (fun h2 => ?_)
    · have h2' : (fitL a d (d.passed.idxOf st) pence (d.hi - d.lo + 1).toNat).length = 0 := by
        have : ((fitL a d (d.passed.idxOf st) pence (d.hi - d.lo + 1).toNat).length : Int) = 0 := by simpa using h2
        omega
      have hE : wordsE a i st pence = 11 := by rw [hE0, if_neg hat0, if_pos h2']
      have hR : wordsR a i st pence = [] := by unfold wordsR; rw [hE, if_neg (by decide)]
      exact M.run rfl (M.retF rfl rfl ⟨none, 0, by rw [hE, hR]; rfl, by rw [hR]; exact Vc.Own.nil _ _ _ _ _, e07⟩)
    · have h2' : ¬ (fitL a d (d.passed.idxOf st) pence (d.hi - d.lo + 1).toNat).length = 0 := fun hc => by rw [hc] at h2; exact absurd h2 (by decide)
      have hE : wordsE a i st pence = 0 := by rw [hE0, if_neg hat0, if_neg h2']
      have hR : wordsR a i st pence = fitL a d (d.passed.idxOf st) pence (d.hi - d.lo + 1).toNat := by unfold wordsR; rw [hE, if_pos rfl, hF0]
      exact M.run rfl (M.retF rfl rfl ⟨X, x, by rw [hE, hR]; rfl, by rw [hR]; exact hX.weaken e06.size (fun _ h => h), e07⟩)
  have h' := of_decide_eq_true h
  have hmb : (fitL a d (d.passed.idxOf st) pence m).length ≤ 1000 := by have := hfl m; omega
  refine M.run rfl <| M.drawG [] (by kernel_rfl) fun w8 e8 => ?_
  have e58 := gr_trans e57 e8
  have e08 := gr_trans e05 e58
  have hc := hsh (d.lo + (m : Int)) ⟨by omega, by omega⟩ w8 e08
  rw [hii] at hc
  refine D.run rfl <| D.ldA 0 rfl rfl rfl rfl rfl (fun w' hw => ((b15.mv0 e58).mv0 hw).cellsAll) <| D.ld 2 rfl rfl rfl rfl (v := .int .i64 i) (fun w' hw => ((b25.mv0 e58).mv0 hw).cell rfl rfl) <| D.ld 9 rfl rfl rfl rfl (v := .int .i64 pence) (fun w' hw => ((b25.mv0 e58).mv0 hw).cellsAll.one 2 rfl rfl) <| D.one 4 rfl rfl <| M.cl rfl hc ?_
  rintro e w9 ⟨Q, q, rfl, hQ, e9⟩
  have hql : d.passed.idxOf st < (share a d (d.lo + (m : Int))).length := by rw [hslen]; exact hidl
  obtain ⟨hQ1, hQc⟩ := rd_flat (hQ.rd (by decide)) hql
  rw [at0_get hql, hsat _ _ hidl] at hQc
  have e09 := gr_trans e08 e9
  have e69 := gr_trans (gr_trans e7 e8) e9
  refine ⟨_, rfl, M.run rfl <| M.end_ ⟨.inr e9, D.ys 6 rfl rfl rfl (YS.ix rfl (by omega) (by omega) hQ1) <| D.ld 7 rfl rfl rfl rfl (v := .int .i64 (shr a d.passed.length (d.lo + (m : Int)) (d.passed.idxOf st))) (fun w' hw => (hQc w' (gr_below hw)).one 0 rfl rfl) <| D.run rfl <| D.done_ rfl <| M.run rfl <| M.cond rfl (fun h2 => ?_) (fun h2 => ?_)⟩⟩
  · have h2' : shr a d.passed.length (d.lo + (m : Int)) (d.passed.idxOf st) = pence := by simpa using h2
    have hn : fitL a d (d.passed.idxOf st) pence (m + 1) = fitL a d (d.passed.idxOf st) pence m ++ [d.lo + (m : Int)] := by show (if _ then _ else _) = _; rw [if_pos h2']
    refine M.run rfl <| M.bs rfl fun ga wa ba ea la => M.run rfl ?_
    have hXa := ((hX.mv0 e8).mv0 e9).mv0 ea
    refine M.app (d := dI) rfl rfl hXa rfl (by decide) rfl (ys := [d.lo + (m : Int)]) rfl rfl (src_one ba rfl) (gr_trans e69 ea).size (by simp only [List.length_cons, List.length_nil]; omega) (by decide) fun X' x' wb hX' eb hat => ?_
    have e6b := hXa.gr (gr_trans e69 ea) eb (Nat.le_refl _)
    refine M.run rfl <| M.end_ ⟨(m + 1, X', x'), ⟨rfl, rfl, rfl, rfl, ?_, ?_, trivial⟩, ⟨by push_cast; omega, e6b, by rw [hn]; exact hX'⟩, by simp; omega⟩
    · show some (Value.slice X' (fitL a d (d.passed.idxOf st) pence m ++ [d.lo + (m : Int)]).length x') = _
      rw [hn]
    · show some (Value.int .i64 (IntKind.i64.wrap (d.lo + (m : Int) + 1))) = _
      rw [w64 (by omega) (by omega)]; push_cast; rw [Int.add_assoc]
  · have h2' : ¬ shr a d.passed.length (d.lo + (m : Int)) (d.passed.idxOf st) = pence := by simpa using h2
    have hn : fitL a d (d.passed.idxOf st) pence (m + 1) = fitL a d (d.passed.idxOf st) pence m := by show (if _ then _ else _) = _; rw [if_neg h2']
    refine M.run rfl <| M.end_ ⟨(m + 1, X, x), ⟨rfl, rfl, rfl, rfl, ?_, ?_, trivial⟩, ⟨by push_cast; omega, e69, by rw [hn]; exact (hX.mv0 e8).mv0 e9⟩, by simp; omega⟩
    · show some (Value.slice X (fitL a d (d.passed.idxOf st) pence m).length x) = _
      rw [hn]
    · show some (Value.int .i64 (IntKind.i64.wrap (d.lo + (m : Int) + 1))) = _
      rw [w64 (by omega) (by omega)]; push_cast; rw [Int.add_assoc]
theorem wordsE_bad {a : Acc} {i st pence : Int} (h : fault a ≠ 0) : wordsE a i st pence = fault a ∧ wordsR a i st pence = [] := by
  have h1 : wordsE a i st pence = fault a := if_pos h
  exact ⟨h1, by unfold wordsR; rw [h1, if_neg h]⟩
set_option maxHeartbeats 2000000 in
set_option maxRecDepth 100000 in
theorem PayWords_go (a : Acc) (i st pence : Int) (A : Option Addr) (c : Nat) (w : World) (hA : Rd dDsp w A c a.ds) :
    Calls Try.prog 4 #[vAcc a A c, .agg #[.int .i64 i, .int .i64 st, .int .i64 pence]] w fun e w' => e = .returned (.bool true) ∧ w.grownBy w' none := by
  refine calls (G := G) (args := [vAcc a A c, .agg #[.int .i64 i, .int .i64 st, .int .i64 pence]]) Try.func4 rfl rfl rfl ?_
  refine M.run rfl <| M.nw (cs := [.int .i64 a.stations, .int .i64 a.rate, .int .i64 a.keeps, .slice A a.ds.length c]) rfl fun g1 w1 b1 e1 l1 => M.run rfl <| M.nw (cs := [.int .i64 i, .int .i64 st, .int .i64 pence]) rfl fun g2 w1' b2 e1' l2 => M.run rfl <| M.ldA rfl rfl (b1.mv0 e1').cellsAll <| M.run rfl <| M.cl rfl (Thin_go a A c w1' (hA.mv (gr_trans e1 e1'))) ?_
  rintro e w2 ⟨⟨th, rfl, hth⟩, e2⟩
  have e12 := gr_trans e1' e2
  have e02 := gr_trans e1 e12
  cases th with
  | false =>
    refine ⟨_, rfl, M.run rfl <| M.condT rfl rfl <| M.run rfl <| M.cl rfl (awake_go w2) ?_⟩
    rintro e w3 ⟨rfl, e3⟩
    exact ⟨_, rfl, M.run rfl <| M.retF rfl rfl ⟨rfl, gr_trans e02 e3⟩⟩
  | true =>
  obtain ⟨h9, h8⟩ := hth rfl
  have h8' : ∀ d ∈ a.ds, d.passed.length ≤ 1000000 := fun d hd => by have := h8 d hd; omega
  refine ⟨_, rfl, M.run rfl <| M.condF rfl rfl <| M.run rfl <| M.drawG [] (by kernel_rfl) fun w3 e3 => ?_⟩
  have e13 := gr_trans e12 e3
  have e03 := gr_trans e1 e13
  have b23 := (b2.mv0 e2).mv0 e3
  refine D.run rfl <| D.ldA 0 rfl rfl rfl rfl rfl (fun w' hw => ((b1.mv0 e13).mv0 hw).cellsAll) <| D.ld 3 rfl rfl rfl rfl (v := .int .i64 i) (fun w' hw => (b23.mv0 hw).cell rfl rfl) <| D.ld 5 rfl rfl rfl rfl (v := .int .i64 st) (fun w' hw => (b23.mv0 hw).cellsAll.one 1 rfl rfl) <| D.ld 7 rfl rfl rfl rfl (v := .int .i64 pence) (fun w' hw => (b23.mv0 hw).cellsAll.one 2 rfl rfl) <| D.run rfl <|
    D.one 1 rfl rfl <| M.cl rfl (Account_go a A c w3 (hA.mv e03) (by omega) h8') ?_
  rintro e w4 ⟨X, x, rfl, hX, e4⟩
  refine ⟨_, rfl, M.run rfl <| M.end_ ⟨.inr e4, D.one 9 rfl rfl <| M.cl rfl (Words_go a i st pence X x w4 hX) ?_⟩⟩
  rintro e w5 ⟨S, s, rfl, hS, e5⟩
  have e15 := gr_trans (gr_trans e13 e4) e5
  have e05 := gr_trans e1 e15
  refine ⟨_, rfl, M.run rfl <| M.end_ ⟨.inr e5, D.run rfl <| D.done_ rfl <| M.run rfl <| M.ldA rfl rfl (b1.mv0 e15).cellsAll <| M.run rfl <| M.cl rfl (fault_go a A c w5 (hA.mv e05)) ?_⟩⟩
  rintro e w6 ⟨rfl, e6⟩
  have e16 := gr_trans e15 e6
  have e06 := gr_trans e1 e16
  have rS : Rd dI w6 S s (wordsR a i st pence) := Rd.mv (hS.rd (by decide)) e6
  by_cases hf : fault a = 0
  · rw [hf]
    have b26 := ((b23.mv0 e4).mv0 e5).mv0 e6
    refine ⟨_, rfl, M.run rfl <| M.condF rfl rfl <| M.run rfl <| M.ldA rfl rfl (b1.mv0 e16).cellsAll <| M.run rfl <| M.ldA rfl rfl b26.cellsAll <| M.run rfl <| M.cl rfl (RefWords_go a hf i st pence A c w6 (hA.mv e06)) ?_⟩
    rintro e w7 ⟨Q, q, rfl, hQ, e7⟩
    have e07 := gr_trans e06 e7
    refine ⟨_, rfl, M.at_ [51] rfl <| M.caseT 51 rfl (by simp) <| M.run rfl <| M.cl rfl (ints_go _ _ S s Q q w7 (rS.mv e7) (hQ.rd (by decide))) ?_⟩
    rintro e w8 ⟨rfl, e8⟩
    refine ⟨_, rfl, M.at_ [56] rfl <| M.caseT 56 rfl (by simp) <| M.run rfl <| M.cl rfl (awake_go w8) ?_⟩
    rintro e w9 ⟨rfl, e9⟩
    exact ⟨_, rfl, M.run rfl <| M.retF rfl rfl ⟨rfl, gr_trans (gr_trans e07 e8) e9⟩⟩
  · obtain ⟨s1, s2⟩ := wordsE_bad (i := i) (st := st) (pence := pence) hf
    rw [s1, s2]
    refine ⟨_, rfl, M.run rfl <| M.condT rfl (by simp [hf]) <| M.at_ [34] rfl <| M.caseT 34 rfl (by simp) <| M.at_ [39] rfl <| M.caseT 39 rfl rfl <| M.run rfl <| M.cl rfl (awake_go w6) ?_⟩
    rintro e w7 ⟨rfl, e7⟩
    exact ⟨_, rfl, M.run rfl <| M.retF rfl rfl ⟨rfl, gr_trans e06 e7⟩⟩
end Go.Proofs.Yteeikpmoboehdaa
end

section
/- Walks: the reference's ends and truths that reach them. -/
set_option linter.unusedVariables false
namespace Py
theorem endW_best {a : Acc} (ha : Ok a) {d : Dsp} (hl : 1 ≤ d.lo) (hlh : d.lo ≤ d.hi) (s : Int) {j : Int} (h1 : d.lo ≤ j) (h2 : j ≤ d.hi) : change a d j s ≤ change a d (endW d true s) s ∧ change a d (endW d false s) s ≤ change a d j s := by
  unfold endW
  by_cases hp : d.payer = s
  · simp only [hp, if_true, Bool.false_eq_true, if_false]
    exact ⟨change_anti ha d hp (by omega) h1, change_anti ha d hp (by omega) h2⟩
  · simp only [hp, if_true, Bool.false_eq_true, if_false]
    exact ⟨change_mono ha d hp h2, change_mono ha d hp h1⟩
/-- the first best words of the first so many -/
structure Bst (a : Acc) (d : Dsp) (high : Bool) (s : Int) (m : Nat) (x : Int) : Prop where
  lo : d.lo ≤ x
  hi : x ≤ d.lo + m
  best : ∀ j, d.lo ≤ j → j ≤ d.lo + m → if high then change a d j s ≤ change a d x s else change a d x s ≤ change a d j s
  first : ∀ j, d.lo ≤ j → j < x → if high then change a d j s < change a d x s else change a d x s < change a d j s
theorem Bst.zero (a : Acc) (d : Dsp) (high : Bool) (s : Int) : Bst a d high s 0 d.lo :=
  ⟨Int.le_refl _, by omega, fun j h1 h2 => by have : j = d.lo := by omega
                                              subst this; split <;> exact Int.le_refl _, fun j h1 h2 => by omega⟩
theorem Bst.keep {a : Acc} {d : Dsp} {high : Bool} {s : Int} {m : Nat} {x : Int} (h : Bst a d high s m x) (hn : if high then change a d (d.lo + m + 1) s ≤ change a d x s else change a d x s ≤ change a d (d.lo + m + 1) s) : Bst a d high s (m + 1) x := by
  refine ⟨h.lo, by have := h.hi; push_cast; omega, fun j h1 h2 => ?_, h.first⟩
  by_cases e : j ≤ d.lo + m
  · exact h.best j h1 e
  · have : j = d.lo + m + 1 := by push_cast at h2; omega
    subst this; exact hn
theorem Bst.new {a : Acc} {d : Dsp} {high : Bool} {s : Int} {m : Nat} {x : Int} (h : Bst a d high s m x) (hn : if high then change a d x s < change a d (d.lo + m + 1) s else change a d (d.lo + m + 1) s < change a d x s) : Bst a d high s (m + 1) (d.lo + m + 1) := by
  refine ⟨by omega, by push_cast; omega, fun j h1 h2 => ?_, fun j h1 h2 => ?_⟩
  · by_cases e : j ≤ d.lo + m
    · have hb := h.best j h1 e
      cases high <;> simp only [if_true, Bool.false_eq_true, if_false] at hb hn ⊢ <;> omega
    · have : j = d.lo + m + 1 := by push_cast at h2; omega
      subst this; split <;> exact Int.le_refl _
  · have hb := h.best j h1 (by omega)
    cases high <;> simp only [if_true, Bool.false_eq_true, if_false] at hb hn ⊢ <;> omega
theorem Bst.end_ {a : Acc} (ha : Ok a) {d : Dsp} (hl : 1 ≤ d.lo) (hlh : d.lo ≤ d.hi) {high : Bool} {s : Int} {m : Nat} {x : Int} (h : Bst a d high s m x) (hm : d.lo + m = d.hi) : x = firstW a d high s := by
  obtain ⟨e1, e2⟩ := endW_in hlh high s
  have hb := h.best _ e1 (by omega)
  have hx := endW_best ha hl hlh s h.lo (by have := h.hi; omega)
  have heq : change a d x s = change a d (endW d high s) s := by
    cases high <;> simp only [if_true, Bool.false_eq_true, if_false] at hb <;> omega
  refine (firstW_at high s h.lo (by have := h.hi; omega) heq fun j h1 h2 => ?_).symm
  have hf := h.first j h1 h2
  rw [← heq]
  cases high <;> simp only [if_true, Bool.false_eq_true, if_false] at hf <;> omega
theorem chg_at (a : Acc) (d : Dsp) (n : Int) {st s : Nat} (h : s < st) : at0 (chgL a d n st) s = change a d n (s : Int) := by unfold chgL; rw [map_at _ h]
end Py
namespace Go.Proofs.Yteeikpmoboehdaa
open Go Go.Vc Go.RowKit Py
theorem cells_drop {w : World} {a : Addr} {cs ds : List Value} (k : Nat) (h : Cells w a cs) (hd : ds <+: cs.drop k) : Cells w (a.add k) ds := by
  intro j u hj
  rw [add_add]
  refine h _ u ?_
  obtain ⟨t, ht⟩ := hd
  have hlt : j < ds.length := (List.getElem?_eq_some_iff.1 hj).1
  have : (cs.drop k)[j]? = some u := by rw [← ht, List.getElem?_append_left hlt]; exact hj
  simpa [List.getElem?_drop] using this
set_option maxHeartbeats 2000000 in
theorem Ends_go (a : Acc) (ha : Ok a) (s k : Nat) (hs : (s : Int) < a.stations) (hk : k < a.ds.length) (high : Bool) (A : Option Addr) (c : Nat) (w : World) (hA : Rd dDsp w A c a.ds) :
    Calls Try.prog 78 #[vAcc a A c, .int .i64 (s : Int), .int .i64 (k : Int), .bool high] w fun e w' => e = .returned (.tuple #[.int .i64 (firstW a (dAt a k) high (s : Int)), .int .i64 (change a (dAt a k) (firstW a (dAt a k) high (s : Int)) (s : Int))]) ∧ w.grownBy w' none := by
  obtain ⟨hA1, P, p, hP, hdc⟩ := rd_dsp hA hk
  have hch := fun n hn w' (hw : w.grownBy w' none) => Changes_go a ha k hk n hn A c w' (hA.mv hw)
  have hdo := dAt_ok ha hk
  rw [dAt_get hk] at hdc
  have hcb := fun n hn => change_bd ha (dAt a k) (nw := n) hn (s : Int)
  have hst := ha.seven
  generalize hd : dAt a k = d at *
  have hlo := hdo.lo
  have hhi := hdo.hi
  have hlh := hdo.lohi
  have hcl := fun n => show (chgL a d n a.stations.toNat).length = a.stations.toNat by simp [chgL]
  refine calls (G := G) (args := [vAcc a A c, .int .i64 (s : Int), .int .i64 (k : Int), .bool high]) Try.func78 rfl rfl rfl ?_
  refine M.run rfl <| M.nw (cs := [.int .i64 a.stations, .int .i64 a.rate, .int .i64 a.keeps, .slice A a.ds.length c]) rfl fun g1 w1 b1 e1 l1 => M.run rfl <| M.ld rfl (b1.cellsAll.one 3 rfl rfl) <| M.run rfl <| M.ix rfl (by omega) (by omega) hA1 <| M.run rfl <|
    M.ldA (cs := [.int .i64 d.lo, .int .i64 d.hi]) rfl rfl (cells_drop 1 (hdc w1 (gr_below e1)) ⟨[_], rfl⟩) <| M.nw rfl fun g2 w2 b2 e2 l2 => M.run rfl <| M.store rfl rfl b2 rfl rfl fun w3 b3 e3 => ?_
  replace b3 : Blk w3 g2 [.int .i64 d.lo, .int .i64 d.hi] 41 := b3
  have e13 := gr_fresh e2 e3 l2
  have e03 := gr_trans e1 e13
  refine M.run rfl <| M.drawG [] (by kernel_rfl) fun w4 e4 => ?_
  have e04 := gr_trans e03 e4
  have e14 := gr_trans e13 e4
  refine D.run rfl <| D.ld 1 rfl rfl rfl rfl (v := .int .i64 d.lo) (fun w' hw => ((b3.mv0 e4).mv0 hw).cell rfl rfl) <| D.ldA 2 rfl rfl rfl rfl rfl (fun w' hw => ((b1.mv0 e14).mv0 hw).cellsAll) <| D.ld 5 rfl rfl rfl rfl (v := .int .i64 d.lo) (fun w' hw => ((b3.mv0 e4).mv0 hw).cell rfl rfl) <| D.one 6 rfl rfl <| M.cl rfl (hch d.lo ⟨by omega, by omega⟩ w4 e04) ?_
  rintro e w5 ⟨Q, q, rfl, hQ, e5⟩
  have hql : s < (chgL a d d.lo a.stations.toNat).length := by rw [hcl]; omega
  obtain ⟨hQ1, hQc⟩ := rd_flat (hQ.rd (by decide)) hql
  rw [at0_get hql, chg_at a d d.lo (by omega)] at hQc
  have e35 := gr_trans e4 e5
  have e15 := gr_trans e13 e35
  refine ⟨_, rfl, M.run rfl <| M.end_ ⟨.inr e5, D.run rfl <| D.ys 8 rfl rfl rfl (YS.ix rfl (by omega) (by omega) hQ1) <| D.ld 9 rfl rfl rfl rfl (v := .int .i64 (change a d d.lo (s : Int))) (fun w' hw => (hQc w' (gr_below hw)).one 0 rfl rfl) <| D.run rfl <| D.done_ rfl <| M.run rfl <| M.ld (v := .int .i64 d.lo) rfl ((b3.mv0 e35).cell rfl rfl) <| M.run rfl <|
    M.loop (σ := Nat × Int) (fun (m, x) => [(1, .int .i64 (s : Int)), (2, .int .i64 (k : Int)), (3, .bool high), (4, .pointer (some ⟨g1, 0, none⟩)), (10, .pointer (some ⟨g2, 0, none⟩)), (11, .int .i64 x), (12, .int .i64 (change a d x (s : Int))), (13, .int .i64 (d.lo + (m : Int) + 1))])
    (fun (m, x) w' => d.lo + (m : Int) ≤ d.hi ∧ w3.grownBy w' none ∧ Bst a d high (s : Int) m x) (fun (m, _) => (d.hi - d.lo).toNat - m) (0, d.lo) ⟨rfl, rfl, rfl, rfl, rfl, rfl, rfl, ?_, trivial⟩ ⟨by omega, e35, Bst.zero a d high s⟩ ?_⟩⟩
  · show some (Value.int .i64 (IntKind.i64.wrap (d.lo + 1))) = some (Value.int .i64 (d.lo + ((0 : Nat) : Int) + 1))
    rw [w64 (by omega) (by omega)]; simp
  rintro ⟨m, x⟩ w6 ⟨hm, e6, hB⟩
  have e06 := gr_trans e03 e6
  refine M.run rfl <| M.ld (v := .int .i64 d.hi) rfl ((b3.mv0 e6).cellsAll.one 1 rfl rfl) <| M.run rfl <| M.cond rfl (fun h => ?_) (fun h => ?_)
  rotate_left
  · have h' := of_decide_eq_false h
    have hx := hB.end_ ha hlo hlh (by omega)
    refine M.run rfl <| M.retF rfl rfl ⟨?_, e06⟩
    rw [← hx]; rfl
  have h' := of_decide_eq_true h
  refine M.run rfl <| M.ldA rfl rfl ((b1.mv0 (gr_trans e13 e6)).cellsAll) <| M.run rfl <| M.cl rfl (hch (d.lo + (m : Int) + 1) ⟨by omega, by omega⟩ w6 e06) ?_
  rintro e w7 ⟨Q, q, rfl, hQ, e7⟩
  have hql : s < (chgL a d (d.lo + (m : Int) + 1) a.stations.toNat).length := by rw [hcl]; omega
  obtain ⟨hQ1, hQc⟩ := rd_flat (hQ.rd (by decide)) hql
  rw [at0_get hql, chg_at a d _ (by omega)] at hQc
  have hnx : IntKind.i64.wrap (d.lo + (m : Int) + 1 + 1) = d.lo + ((m + 1 : Nat) : Int) + 1 := by rw [w64 (by omega) (by omega)]; push_cast; omega
  refine ⟨_, rfl, M.run rfl <| M.ix rfl (by omega) (by omega) hQ1 <| M.ld (v := .int .i64 (change a d (d.lo + (m : Int) + 1) (s : Int))) rfl ((hQc w7 (gr_below (gr_refl _ _))).one 0 rfl rfl) ?_⟩
  cases high with
  | true =>
    refine M.at_ [53] rfl <| M.case 53 rfl (fun h2 => ?_) (fun h2 => ?_)
    · have h2' := of_decide_eq_true h2
      exact M.run rfl <| M.condT rfl rfl <| M.run rfl <| M.end_ ⟨(m + 1, d.lo + (m : Int) + 1), ⟨rfl, rfl, rfl, rfl, rfl, rfl, rfl, congrArg (fun z => some (Value.int .i64 z)) hnx, trivial⟩, ⟨by push_cast; omega, gr_trans e6 e7, hB.new (by simp; omega)⟩, by simp; omega⟩
    · have h2' := of_decide_eq_false h2
      exact M.run rfl <| M.condF rfl rfl <| M.run rfl <| M.end_ ⟨(m + 1, x), ⟨rfl, rfl, rfl, rfl, rfl, rfl, rfl, congrArg (fun z => some (Value.int .i64 z)) hnx, trivial⟩, ⟨by push_cast; omega, gr_trans e6 e7, hB.keep (by simp; omega)⟩, by simp; omega⟩
  | false =>
    refine M.run rfl <| M.cond rfl (fun h2 => ?_) (fun h2 => ?_)
    · have h2' := of_decide_eq_true h2
      exact M.run rfl <| M.end_ ⟨(m + 1, d.lo + (m : Int) + 1), ⟨rfl, rfl, rfl, rfl, rfl, rfl, rfl, congrArg (fun z => some (Value.int .i64 z)) hnx, trivial⟩, ⟨by push_cast; omega, gr_trans e6 e7, hB.new (by simp; omega)⟩, by simp; omega⟩
    · have h2' := of_decide_eq_false h2
      exact M.run rfl <| M.end_ ⟨(m + 1, x), ⟨rfl, rfl, rfl, rfl, rfl, rfl, rfl, congrArg (fun z => some (Value.int .i64 z)) hnx, trivial⟩, ⟨by push_cast; omega, gr_trans e6 e7, hB.keep (by simp; omega)⟩, by simp; omega⟩
theorem RefReach_go (a : Acc) (ha : Ok a) (s : Nat) (hs : (s : Int) < a.stations) (high : Bool) (A : Option Addr) (c : Nat) (w : World) (hA : Rd dDsp w A c a.ds) :
    Calls Try.prog 43 #[vAcc a A c, .int .i64 (s : Int), .bool high] w fun e w' => ∃ X x, e = .returned (.tuple #[.slice X (truthL a high (s : Int) a.ds.length).length x, .int .i64 (bal a (truthL a high (s : Int) a.ds.length) (s : Int))]) ∧ Vc.Own dI 3 w' w.heap.size no X x (truthL a high (s : Int) a.ds.length) ∧ w.grownBy w' none := by
  have h6 := ha.six
  have hbb := fun m hm => bal_bd ha (t := truthL a high (s : Int) a.ds.length) (truthL_ok ha high (s : Int)) (s : Int) m hm
  have htl := truthL_len a high (s : Int) a.ds.length
  have hta := fun k hk => truthL_at a high (s : Int) (m := a.ds.length) (k := k) hk
  have hcb := fun k (hk : k < a.ds.length) => change_bd ha (dAt a k) (nw := firstW a (dAt a k) high (s : Int)) (by have hd := dAt_ok ha hk; have := firstW_in (a := a) hd.lohi high (s : Int); have := hd.lo; have := hd.hi; omega) (s : Int)
  refine calls (G := G) (args := [vAcc a A c, .int .i64 (s : Int), .bool high]) Try.func43 rfl rfl rfl ?_
  refine M.run rfl <| M.nw (cs := [.int .i64 a.stations, .int .i64 a.rate, .int .i64 a.keeps, .slice A a.ds.length c]) rfl fun g1 w1 b1 e1 l1 => M.run rfl <|
    M.loop (σ := Nat × Option Addr × Nat) (fun (m, X, x) => [(1, .int .i64 (s : Int)), (2, .bool high), (3, .pointer (some ⟨g1, 0, none⟩)), (8, .slice X (truthL a high (s : Int) m).length x), (9, .int .i64 (balTo a (truthL a high (s : Int) a.ds.length) (s : Int) m)), (10, .int .i64 (m : Int))])
    (fun (m, X, x) w' => m ≤ a.ds.length ∧ w1.grownBy w' none ∧ Vc.Own dI 3 w' w1.heap.size no X x (truthL a high (s : Int) m)) (fun (m, _) => a.ds.length - m) (0, none, 0) ⟨rfl, rfl, rfl, rfl, rfl, rfl, trivial⟩ ⟨Nat.zero_le _, gr_refl _ _, Vc.Own.nil _ _ _ _ _⟩ ?_
  rintro ⟨m, X, x⟩ w2 ⟨hm, e2, hX⟩
  have e02 := gr_trans e1 e2
  refine M.run rfl <| M.ld rfl ((b1.mv0 e2).cellsAll.one 3 rfl rfl) <| M.run rfl <| M.cond rfl (fun h => ?_) (fun h => ?_)
  rotate_left
  · have hin : m = a.ds.length := by have := of_decide_eq_false h; omega
    subst hin
    refine M.run rfl <| M.retF rfl rfl ⟨X, x, ?_, hX.weaken e1.size (fun _ h => h), e02⟩
    unfold bal; rw [htl]; rfl
  have hlt : m < a.ds.length := by have := of_decide_eq_true h; omega
  refine M.run rfl <| M.ldA rfl rfl ((b1.mv0 e2).cellsAll) <| M.run rfl <| M.cl rfl (Ends_go a ha s m hs hlt high A c w2 (hA.mv e02)) ?_
  rintro e w3 ⟨rfl, e3⟩
  have e13 := gr_trans e2 e3
  have hcbm := hcb m hlt
  have hbm := hbb m (by omega)
  have hml := truthL_len a high (s : Int) m
  refine ⟨_, rfl, M.run rfl <| M.bs rfl fun g4 w4 b4 e4 l4 => M.run rfl ?_⟩
  have hX4 := (hX.mv0 e3).mv0 e4
  refine M.app (d := dI) rfl rfl hX4 rfl (by decide) rfl (ys := [firstW a (dAt a m) high (s : Int)]) rfl rfl (src_one b4 rfl) (gr_trans e13 e4).size (by simp only [List.length_cons, List.length_nil]; omega) (by decide) fun X' x' w5 hX5 e5 hat => ?_
  have e15 := hX4.gr (gr_trans e13 e4) e5 (Nat.le_refl _)
  rw [← truthL_succ] at hX5 ⊢
  refine M.run rfl <| M.end_ ⟨(m + 1, X', x'), ⟨rfl, rfl, rfl, rfl, ?_, nxt hlt (by omega), trivial⟩, ⟨by omega, e15, hX5⟩, by simp; omega⟩
  show some (Value.int .i64 (IntKind.i64.wrap (balTo a (truthL a high (s : Int) a.ds.length) (s : Int) m + change a (dAt a m) (firstW a (dAt a m) high (s : Int)) (s : Int)))) = _
  rw [w64 (by omega) (by omega), balTo_succ, hta m hlt]
end Go.Proofs.Yteeikpmoboehdaa
end

section
/- Walk: the law PayBounds. -/
set_option linter.unusedVariables false
namespace Py
theorem reachE_bad {a : Acc} {s : Int} {high : Bool} (h : fault a ≠ 0) : reachE a s = fault a ∧ reachR a s high = [] := by
  have h1 : reachE a s = fault a := if_pos h
  exact ⟨h1, by unfold reachR; rw [h1, if_neg h]⟩
theorem reachE_two {a : Acc} {s : Int} {high : Bool} (h : fault a = 0) (h2 : within s 0 (a.stations - 1) = false) : reachE a s = 2 ∧ reachR a s high = [] := by
  have h1 : reachE a s = 2 := by unfold reachE; rw [if_neg (by simp [h]), if_pos (by unfold station; rw [h2]; rfl)]
  exact ⟨h1, by unfold reachR; rw [h1, if_neg (by decide)]⟩
theorem reachE_ok {a : Acc} {s : Int} {high : Bool} (h : fault a = 0) (h2 : within s 0 (a.stations - 1) = true) : reachE a s = 0 ∧ reachR a s high = truthL a high s a.ds.length := by
  have h1 : reachE a s = 0 := by unfold reachE; rw [if_neg (by simp [h]), if_neg (by unfold station; rw [h2]; decide)]
  exact ⟨h1, by unfold reachR; rw [h1, if_pos rfl]⟩
theorem boundsR_bad {a : Acc} (h : fault a ≠ 0) : boundsR a = [] := if_neg h
theorem boundsR_ok {a : Acc} (h : fault a = 0) : boundsR a = bndL a a.stations.toNat := if_pos h
theorem bndL_at (a : Acc) {m s : Nat} (h : s < m) : (bndL a m)[s]'(by rw [bndL_len]; exact h) = bndAt a (s : Int) := by simp [bndL]
end Py
namespace Go.Proofs.Yteeikpmoboehdaa
open Go Go.Vc Go.RowKit Py
set_option maxHeartbeats 4000000 in
set_option maxRecDepth 100000 in
theorem PayBounds_go (a : Acc) (st : Int) (high : Bool) (A : Option Addr) (c : Nat) (w : World) (hA : Rd dDsp w A c a.ds) :
    Calls Try.prog 11 #[vAcc a A c, .int .i64 st, .bool high] w fun e w' => e = .returned (.bool true) ∧ w.grownBy w' none := by
  refine calls (G := G) (args := [vAcc a A c, .int .i64 st, .bool high]) Try.func11 rfl rfl rfl ?_
  refine M.run rfl <| M.nw (cs := [.int .i64 a.stations, .int .i64 a.rate, .int .i64 a.keeps, .slice A a.ds.length c]) rfl fun g1 w1 b1 e1 l1 => M.run rfl <| M.ldA rfl rfl b1.cellsAll <| M.run rfl <| M.cl rfl (Thin_go a A c w1 (hA.mv e1)) ?_
  rintro e w2 ⟨⟨th, rfl, hth⟩, e2⟩
  have e02 := gr_trans e1 e2
  cases th with
  | false =>
    refine ⟨_, rfl, M.run rfl <| M.condT rfl rfl <| M.run rfl <| M.cl rfl (awake_go w2) ?_⟩
    rintro e w3 ⟨rfl, e3⟩
    exact ⟨_, rfl, M.run rfl <| M.retF rfl rfl ⟨rfl, gr_trans e02 e3⟩⟩
  | true =>
  obtain ⟨h9, h8⟩ := hth rfl
  have h8' : ∀ d ∈ a.ds, d.passed.length ≤ 1000000 := fun d hd => by have := h8 d hd; omega
  have hacc := fun w' (hw : w.grownBy w' none) => Account_go a A c w' (hA.mv hw) (by omega) h8'
  refine ⟨_, rfl, M.run rfl <| M.condF rfl rfl <| M.run rfl <| M.ldA rfl rfl (b1.mv0 e2).cellsAll <| M.run rfl <| M.cl rfl (hacc w2 e02) ?_⟩
  rintro e w3 ⟨X3, x3, rfl, hX3, e3⟩
  refine ⟨_, rfl, M.run rfl <| M.cl rfl (Bounds_go a X3 x3 w3 hX3) ?_⟩
  rintro e w4 ⟨B, b, rfl, hB, e4⟩
  have e14 := gr_trans (gr_trans e2 e3) e4
  have e04 := gr_trans e1 e14
  refine ⟨_, rfl, M.run rfl <| M.ldA rfl rfl (b1.mv0 e14).cellsAll <| M.run rfl <| M.cl rfl (hacc w4 e04) ?_⟩
  rintro e w5 ⟨X5, x5, rfl, hX5, e5⟩
  refine ⟨_, rfl, M.run rfl <| M.cl rfl (Reach_go a st high X5 x5 w5 hX5) ?_⟩
  rintro e w6 ⟨T, t, rfl, hT, e6⟩
  have e46 := gr_trans e5 e6
  have e16 := gr_trans e14 e46
  have e06 := gr_trans e1 e16
  refine ⟨_, rfl, M.run rfl <| M.ldA rfl rfl (b1.mv0 e16).cellsAll <| M.run rfl <| M.cl rfl (fault_go a A c w6 (hA.mv e06)) ?_⟩
  rintro e w7 ⟨rfl, e7⟩
  have e17 := gr_trans e16 e7
  have e07 := gr_trans e1 e17
  have rB : Rd dRng w7 B b (boundsR a) := Rd.mv (hB.rd (by decide)) (gr_trans e46 e7)
  have rT : Rd dI w7 T t (reachR a st high) := Rd.mv (hT.rd (by decide)) e7
  by_cases hf : fault a = 0
  rotate_left
  · obtain ⟨s1, s2⟩ := reachE_bad (s := st) (high := high) hf
    rw [s1, s2, boundsR_bad hf]
    refine ⟨_, rfl, M.run rfl <| M.condT rfl (by simp [hf]) <| M.at_ [44] rfl <| M.caseT 44 rfl (by simp) <| M.at_ [49] rfl <| M.caseT 49 rfl (by simp) <| M.at_ [57] rfl <| M.caseT 57 rfl rfl <| M.run rfl <| M.cl rfl (awake_go w7) ?_⟩
    rintro e w8 ⟨rfl, e8⟩
    exact ⟨_, rfl, M.run rfl <| M.retF rfl rfl ⟨rfl, gr_trans e07 e8⟩⟩
  have ha := fault_ok hf
  have hs1 := ha.one
  have hs7 := ha.seven
  rw [hf]
  rw [boundsR_ok hf] at rB ⊢
  have hbl := bndL_len a a.stations.toNat
  refine ⟨_, rfl, M.run rfl <| M.condF rfl rfl <| M.at_ [62] rfl <| M.caseF 62 rfl rfl <| M.run rfl <| M.ld (v := .int .i64 a.stations) rfl ((b1.mv0 e17).cell rfl rfl) <| M.run rfl <| M.condF rfl (by simp; omega) <| M.run rfl <|
    M.loop (σ := Nat) (fun s => [(1, .int .i64 st), (2, .bool high), (3, .pointer (some ⟨g1, 0, none⟩)), (7, .slice B (bndL a a.stations.toNat).length b), (9, .slice T (reachR a st high).length t), (10, .int .i64 (reachE a st)), (12, .int .i64 (s : Int))]) (fun s w' => s ≤ a.stations.toNat ∧ w7.grownBy w' none) (fun s => a.stations.toNat - s) 0 ⟨rfl, rfl, rfl, rfl, rfl, rfl, rfl, trivial⟩ ⟨Nat.zero_le _, gr_refl _ _⟩ ?_⟩
  rintro s w8 ⟨hs, e8⟩
  have e18 := gr_trans e17 e8
  have e08 := gr_trans e1 e18
  refine M.run rfl <| M.ld (v := .int .i64 a.stations) rfl ((b1.mv0 e18).cell rfl rfl) <| M.run rfl <| M.cond rfl (fun h => ?_) (fun h => ?_)
  · have hlt : s < a.stations.toNat := by have := of_decide_eq_true h; omega
    refine M.run rfl <| M.ldA rfl rfl (b1.mv0 e18).cellsAll <| M.run rfl <| M.cl rfl (RefReach_go a ha s (by omega) false A c w8 (hA.mv e08)) ?_
    rintro e w9 ⟨Q1, q1, rfl, _, e9⟩
    have e19 := gr_trans e18 e9
    have e09 := gr_trans e1 e19
    refine ⟨_, rfl, M.run rfl <| M.ldA rfl rfl (b1.mv0 e19).cellsAll <| M.run rfl <| M.cl rfl (RefReach_go a ha s (by omega) true A c w9 (hA.mv e09)) ?_⟩
    rintro e wa ⟨Q2, q2, rfl, _, ea⟩
    have e7a := gr_trans (gr_trans e8 e9) ea
    obtain ⟨hB1, hBc⟩ := rd_flat rB (show s < (bndL a a.stations.toNat).length by omega)
    rw [bndL_at a hlt] at hBc
    refine ⟨_, rfl, M.run rfl <| M.drawG [] (by kernel_rfl) fun wb eb => ?_⟩
    have e7b := gr_trans e7a eb
    refine D.run rfl <| D.ys 2 rfl rfl rfl (YS.ix rfl (by omega) (by omega) hB1) <| D.ldA 3 rfl rfl rfl rfl rfl (fun w' hw => hBc w' (gr_below (gr_trans e7b hw))) <| D.one 6 rfl rfl <| M.cl rfl (between_go _ _ wb) ?_
    rintro e wc ⟨rfl, ec⟩
    refine ⟨_, rfl, M.run rfl <| M.end_ ⟨.inr ec, D.ys 7 rfl rfl rfl (YS.neII (k := .i64) rfl Try.eqGuardType74 Try.underlying74 ⟨rfl, rfl, by decide⟩ ⟨rfl, rfl, by decide⟩ Try.underlying3 Try.stoodInHeld74) <| D.run rfl <| D.done_ rfl <| M.run rfl <| M.condF rfl (by simp [bndAt]) <| M.run rfl <| M.end_ ⟨s + 1, ⟨rfl, rfl, rfl, rfl, rfl, rfl, nxt hlt (by omega), trivial⟩, ⟨by omega, gr_trans e7b ec⟩, by omega⟩⟩⟩
  refine M.run rfl <| M.ld (v := .int .i64 a.stations) rfl ((b1.mv0 e18).cell rfl rfl) <| M.at_ [98] rfl ?_
  rw [w64 (x := a.stations - 1) (by omega) (by omega)]
  refine M.run rfl <| M.cl rfl (In_go st 0 (a.stations - 1) w8) ?_
  rintro e w9 ⟨rfl, e9⟩
  have e19 := gr_trans e18 e9
  have e09 := gr_trans e1 e19
  refine ⟨_, rfl, M.run rfl <| M.cond rfl (fun h2 => ?_) (fun h2 => ?_)⟩
  · have hin : within st 0 (a.stations - 1) = false := by simpa using h2
    obtain ⟨s1, s2⟩ := reachE_two (high := high) hf hin
    rw [s1, s2]
    refine M.at_ [103] rfl <| M.caseT 103 rfl rfl <| M.at_ [108] rfl <| M.caseT 108 rfl rfl <| M.run rfl <| M.cl rfl (awake_go w9) ?_
    rintro e wa ⟨rfl, ea⟩
    exact ⟨_, rfl, M.run rfl <| M.retF rfl rfl ⟨rfl, gr_trans e09 ea⟩⟩
  · have hin : within st 0 (a.stations - 1) = true := by simpa using h2
    obtain ⟨i0, i1⟩ := Py.within_iff.1 hin
    obtain ⟨s1, s2⟩ := reachE_ok (high := high) hf hin
    rw [s1, s2]
    rw [s2] at rT
    have hc := RefReach_go a ha st.toNat (by omega) high A c w9 (hA.mv e09)
    rw [show ((st.toNat : Nat) : Int) = st by omega] at hc
    refine M.run rfl <| M.ldA rfl rfl (b1.mv0 e19).cellsAll <| M.run rfl <| M.cl rfl hc ?_
    rintro e wa ⟨Q, q, rfl, hQ, ea⟩
    have e0a := gr_trans e09 ea
    refine ⟨_, rfl, M.at_ [120] rfl <| M.caseT 120 rfl rfl <| M.run rfl <| M.cl rfl (ints_go _ _ T t Q q wa (rT.mv (gr_trans (gr_trans e8 e9) ea)) (hQ.rd (by decide))) ?_⟩
    rintro e wb ⟨rfl, eb⟩
    refine ⟨_, rfl, M.at_ [125] rfl <| M.caseT 125 rfl (by simp) <| M.run rfl <| M.cl rfl (awake_go wb) ?_⟩
    rintro e wc ⟨rfl, ec⟩
    exact ⟨_, rfl, M.run rfl <| M.retF rfl rfl ⟨rfl, gr_trans (gr_trans e0a eb) ec⟩⟩
end Go.Proofs.Yteeikpmoboehdaa
end

section
/- Walks: words, truths and balances that are chosen by words; accounts that are ready. -/
set_option linter.unusedVariables false
namespace Go.Proofs.Yteeikpmoboehdaa
open Go Go.Vc Go.RowKit Py
abbrev dW : Rp Int := Rp.int .u16
theorem word_go (wl : List Int) (at_ : Int) (U : Option Addr) (u : Nat) (w : World) (hU : Rd dW w U u wl) (hb : ∀ x ∈ wl, 0 ≤ x ∧ x ≤ 65535) (h0 : 0 ≤ at_) :
    Calls Try.prog 73 #[.slice U wl.length u, .int .i64 at_] w fun e w' => (∃ y, e = .returned (.int .i64 y) ∧ 0 ≤ y ∧ y ≤ 65535) ∧ w.grownBy w' none := by
  refine calls (G := G) (args := [.slice U wl.length u, .int .i64 at_]) Try.func73 rfl rfl rfl ?_
  refine M.run rfl <| M.cond rfl (fun h => ?_) (fun h => ?_)
  · exact M.run rfl <| M.retF rfl rfl ⟨⟨0, rfl, by omega, by omega⟩, gr_refl _ _⟩
  have hl : 0 < wl.length := by
    have : ¬ (wl.length : Int) = 0 := by simpa using h
    omega
  have hm0 : 0 ≤ at_.tmod (wl.length : Int) := by
    rw [Int.tmod_eq_emod_of_nonneg h0]; exact Int.emod_nonneg _ (by omega)
  have hm1 : at_.tmod (wl.length : Int) < wl.length := by
    rw [Int.tmod_eq_emod_of_nonneg h0]; exact Int.emod_lt_of_pos _ (by omega)
  have hj : (at_.tmod (wl.length : Int)).toNat < wl.length := by omega
  obtain ⟨hU1, hUc⟩ := rd_flat hU hj
  have hx := hb _ (List.getElem_mem hj)
  refine M.run rfl <| M.ys (YS.rem rfl (by omega)) <| M.ix rfl hm0 hm1 hU1 <| M.ld rfl ((hUc w (gr_below (gr_refl _ _))).one 0 rfl rfl) <| M.run rfl <| M.retF rfl rfl ⟨⟨wl[(at_.tmod (wl.length : Int)).toNat], ?_, hx⟩, gr_refl _ _⟩
  show Ending.returned (Value.int .i64 (IntKind.i64.wrap wl[(at_.tmod (wl.length : Int)).toNat])) = _
  rw [w64 (by omega) (by omega)]
theorem ready_go (a : Acc) (A : Option Addr) (c : Nat) (w : World) (hA : Rd dDsp w A c a.ds) :
    Calls Try.prog 38 #[vAcc a A c] w fun e w' => (∃ t : Bool, e = .returned (.bool t) ∧ (t = true → fault a = 0)) ∧ w.grownBy w' none := by
  refine calls (G := G) (args := [vAcc a A c]) Try.func38 rfl rfl rfl ?_
  refine M.run rfl <| M.nw (cs := [.int .i64 a.stations, .int .i64 a.rate, .int .i64 a.keeps, .slice A a.ds.length c]) rfl fun g1 w1 b1 e1 l1 => M.run rfl <| M.ldA rfl rfl b1.cellsAll <| M.run rfl <| M.cl rfl (Thin_go a A c w1 (hA.mv e1)) ?_
  rintro e w2 ⟨⟨th, rfl, hth⟩, e2⟩
  have e02 := gr_trans e1 e2
  cases th with
  | false => exact ⟨_, rfl, M.at_ [5] rfl <| M.caseF 5 rfl rfl <| M.run rfl <| M.retF rfl rfl ⟨⟨false, rfl, by simp⟩, e02⟩⟩
  | true =>
    refine ⟨_, rfl, M.at_ [5] rfl <| M.caseT 5 rfl rfl <| M.run rfl <| M.ldA rfl rfl (b1.mv0 e2).cellsAll <| M.run rfl <| M.cl rfl (fault_go a A c w2 (hA.mv e02)) ?_⟩
    rintro e w3 ⟨rfl, e3⟩
    exact ⟨_, rfl, M.run rfl <| M.retF rfl rfl ⟨⟨fault a == 0, rfl, fun h => by simpa using h⟩, gr_trans e02 e3⟩⟩
set_option maxHeartbeats 1000000 in
theorem Owed_go (wl : List Int) (many : Int) (U : Option Addr) (u : Nat) (w : World) (hU : Rd dW w U u wl) (hb : ∀ x ∈ wl, 0 ≤ x ∧ x ≤ 65535) (h0 : 0 ≤ many) (h1 : many ≤ 255) :
    Calls Try.prog 41 #[.slice U wl.length u, .int .u8 many] w fun e w' => ∃ l X x, e = .returned (.slice X l.length x) ∧ Vc.Own dI 3 w' w.heap.size no X x l ∧ w.grownBy w' none ∧ 1 ≤ l.length ∧ l.length ≤ 7 := by
  refine calls (G := G) (args := [.slice U wl.length u, .int .u8 many]) Try.func41 rfl rfl rfl ?_
  have hn0 : 0 ≤ many.tmod 7 := by rw [Int.tmod_eq_emod_of_nonneg h0]; exact Int.emod_nonneg _ (by omega)
  have hn1 : many.tmod 7 < 7 := by rw [Int.tmod_eq_emod_of_nonneg h0]; exact Int.emod_lt_of_pos _ (by omega)
  refine M.at_ [14] rfl ?_
  rw [show IntKind.i64.wrap (1 + (IntKind.i64.wrap many).tmod 7) = (((many.tmod 7).toNat + 1 : Nat) : Int) by rw [w64 (x := many) (by omega) (by omega), w64 (by omega) (by omega)]; omega]
  have hN : (many.tmod 7).toNat < 7 := by omega
  generalize (many.tmod 7).toNat = N at hN
  refine M.run rfl <| M.loop (σ := Nat × List Int × Int × Option Addr × Nat) (fun (i, l, z, X, x) => [(0, .slice U wl.length u), (5, .int .i64 ((N + 1 : Nat) : Int)), (6, .slice X l.length x), (7, .int .i64 z), (8, .int .i64 (i : Int))])
    (fun (i, l, z, X, x) w' => i ≤ N ∧ l.length = i ∧ w.grownBy w' none ∧ Vc.Own dI 3 w' w.heap.size no X x l) (fun (i, _) => N - i) (0, [], 0, none, 0) ⟨rfl, rfl, rfl, rfl, rfl, trivial⟩ ⟨Nat.zero_le _, rfl, gr_refl _ _, Vc.Own.nil _ _ _ _ _⟩ ?_
  rintro ⟨i, l, z, X, x⟩ w1 ⟨hi, hl, e1, hX⟩
  refine M.at_ [17] rfl ?_
  rw [show IntKind.i64.wrap (((N + 1 : Nat) : Int) - 1) = (N : Int) by rw [w64 (by omega) (by omega)]; omega]
  refine M.run rfl <| M.cond rfl (fun h => ?_) (fun h => ?_)
  rotate_left
  · refine M.run rfl <| M.bs rfl fun g2 w2 b2 e2 l2 => M.run rfl ?_
    have hX2 := hX.mv0 e2
    refine M.app (d := dI) rfl rfl hX2 rfl (by decide) rfl (ys := [_]) rfl rfl (src_one b2 rfl) (gr_trans e1 e2).size (by simp only [List.length_cons, List.length_nil]; omega) (by decide) fun X' x' w3 hX3 e3 hat => ?_
    exact M.run rfl <| M.retF rfl rfl ⟨_, X', x', rfl, hX3, hX2.gr (gr_trans e1 e2) e3 (Nat.le_refl _), by simp, by simp; omega⟩
  have hlt : i < N := by have := of_decide_eq_true h; omega
  refine M.run rfl <| M.cl rfl (word_go wl (i : Int) U u w1 (hU.mv e1) hb (by omega)) ?_
  rintro e w2 ⟨⟨y, rfl, y0, y1⟩, e2⟩
  have e02 := gr_trans e1 e2
  have tail : ∀ (v : Int) (ρ : Env), True := fun _ _ => trivial
  refine ⟨_, rfl, M.run rfl <| M.cond rfl (fun h2 => ?_) (fun h2 => ?_)⟩
  rotate_left
  refine M.run rfl <| M.cond rfl (fun h3 => ?_) (fun h3 => ?_)
  rotate_left
  refine M.run rfl <| M.cond rfl (fun h4 => ?_) (fun h4 => ?_)
  all_goals
    refine M.run rfl <| M.bs rfl fun g3 w3 b3 e3 l3 => M.run rfl ?_
    have hX3 := (hX.mv0 e2).mv0 e3
    refine M.app (d := dI) rfl rfl hX3 rfl (by decide) rfl (ys := [_]) rfl rfl (src_one b3 rfl) (gr_trans e02 e3).size (by simp only [List.length_cons, List.length_nil]; omega) (by decide) fun X' x' w4 hX4 e4 hat => ?_
    exact M.run rfl <| M.end_ ⟨(i + 1, _, _, X', x'), ⟨rfl, rfl, rfl, rfl, nxt hlt (by omega), trivial⟩, ⟨by omega, by simp [hl], hX3.gr (gr_trans e02 e3) e4 (Nat.le_refl _), hX4⟩, by simp; omega⟩
end Go.Proofs.Yteeikpmoboehdaa
end

section
/- Walk: a truth that is chosen by words. -/
set_option linter.unusedVariables false
namespace Py
theorem truthOk_of {a : Acc} {t : List Int} (hl : t.length = a.ds.length) (h : ∀ i, i < t.length → (dAt a i).lo ≤ at0 t i ∧ at0 t i ≤ (dAt a i).hi) : truthOk a t = true := by
  unfold truthOk
  rw [Bool.and_eq_true]
  exact ⟨decide_eq_true hl, range_true fun i hi => within_iff.2 (h i hi)⟩
end Py
namespace Go.Proofs.Yteeikpmoboehdaa
open Go Go.Vc Go.RowKit Py
set_option maxHeartbeats 2000000 in
theorem Picked_go (a : Acc) (ha : Ok a) (wl : List Int) (A : Option Addr) (c : Nat) (U : Option Addr) (u : Nat) (w : World) (hA : Rd dDsp w A c a.ds) (hU : Rd dW w U u wl) (hb : ∀ x ∈ wl, 0 ≤ x ∧ x ≤ 65535) :
    Calls Try.prog 39 #[vAcc a A c, .slice U wl.length u] w fun e w' => ∃ t X x, e = .returned (.slice X t.length x) ∧ Vc.Own dI 3 w' w.heap.size no X x t ∧ w.grownBy w' none ∧ truthOk a t = true := by
  have h6 := ha.six
  refine calls (G := G) (args := [vAcc a A c, .slice U wl.length u]) Try.func39 rfl rfl rfl ?_
  refine M.run rfl <| M.nw (cs := [.int .i64 a.stations, .int .i64 a.rate, .int .i64 a.keeps, .slice A a.ds.length c]) rfl fun g1 w1 b1 e1 l1 => M.run rfl <|
    M.loop (σ := Nat × List Int × Option Addr × Nat) (fun (i, t, X, x) => [(1, .slice U wl.length u), (2, .pointer (some ⟨g1, 0, none⟩)), (5, .slice X t.length x), (6, .int .i64 (i : Int))])
    (fun (i, t, X, x) w' => i ≤ a.ds.length ∧ t.length = i ∧ w1.grownBy w' none ∧ Vc.Own dI 3 w' w1.heap.size no X x t ∧ ∀ j, j < t.length → (dAt a j).lo ≤ at0 t j ∧ at0 t j ≤ (dAt a j).hi) (fun (i, _) => a.ds.length - i) (0, [], none, 0) ⟨rfl, rfl, rfl, rfl, trivial⟩ ⟨Nat.zero_le _, rfl, gr_refl _ _, Vc.Own.nil _ _ _ _ _, fun j hj => by simp at hj⟩ ?_
  rintro ⟨i, t, X, x⟩ w2 ⟨hi, htl, e2, hX, hin⟩
  have e02 := gr_trans e1 e2
  refine M.run rfl <| M.ld rfl ((b1.mv0 e2).cellsAll.one 3 rfl rfl) <| M.run rfl <| M.cond rfl (fun h => ?_) (fun h => ?_)
  rotate_left
  · have hie : i = a.ds.length := by have := of_decide_eq_false h; omega
    exact M.run rfl <| M.retF rfl rfl ⟨t, X, x, rfl, hX.weaken e1.size (fun _ h => h), e02, truthOk_of (by omega) hin⟩
  have hlt : i < a.ds.length := by have := of_decide_eq_true h; omega
  obtain ⟨hA1, P, p, hP, hdc⟩ := rd_dsp hA hlt
  have hdo := dAt_ok ha hlt
  rw [dAt_get hlt] at hdc
  generalize hd : dAt a i = d at *
  have hlo := hdo.lo
  have hhi := hdo.hi
  have hlh := hdo.lohi
  refine M.run rfl <| M.drawG [10] (by kernel_rfl) fun w3 e3 => ?_
  have e03 := gr_trans e02 e3
  have e13 := gr_trans e2 e3
  refine D.run rfl <| D.ld 1 rfl rfl rfl rfl (fun w' hw => ((b1.mv0 e13).mv0 hw).cellsAll.one 3 rfl rfl) <| D.ys 3 rfl rfl rfl (YS.ix rfl (by omega) (by omega) hA1) <| D.run rfl <| D.ldA 5 rfl rfl rfl rfl (cs := [.int .i64 d.lo, .int .i64 d.hi]) rfl (fun w' hw => cells_drop 1 (hdc w' (gr_below (gr_trans e03 hw))) ⟨[_], rfl⟩) ?_
  refine D.meet (σ := Nat × Int) 2 [9, 8, 7, 6, 5, 4, 3, 2, 1, 0] (fun (gp, y) => [(1, .slice U wl.length u), (2, .pointer (some ⟨g1, 0, none⟩)), (5, .slice X t.length x), (6, .int .i64 (i : Int)), (7, .pointer (some ⟨gp, 0, none⟩)), (22, .agg #[.int .i64 d.lo, .int .i64 d.hi]), (25, .int .i64 y)])
    (fun (gp, y) w' => w3.grownBy w' none ∧ Blk w' gp [.int .i64 0, .int .i64 0] 41 ∧ w3.heap.size ≤ gp ∧ 0 ≤ y ∧ y ≤ 65535) (fun hcont => ?_) ?_
  · have hw := fun w' (hw : w3.grownBy w' none) => word_go wl (i : Int) U u w' (hU.mv (gr_trans e03 hw)) hb (by omega)
    refine D.two 8 9 rfl rfl rfl ?_ ?_
    · refine M.cl rfl (hw w3 (gr_refl _ _)) ?_
      rintro e w4 ⟨⟨y, rfl, y0, y1⟩, e4⟩
      refine ⟨_, rfl, M.run rfl <| M.end_ ⟨.inr e4, D.one 9 rfl rfl <| M.nw rfl fun gp w5 bp e5 lp => M.run rfl <| M.end_ ⟨.inr e5, D.weak rfl ?_ (hcont (gp, y) w5 ⟨gr_trans e4 e5, bp, Nat.le_trans e4.size lp, y0, y1⟩)⟩⟩⟩
      exact ⟨rfl, rfl, rfl, rfl, rfl, rfl, rfl, trivial⟩
    · refine M.nw rfl fun gp w4 bp e4 lp => M.run rfl <| M.end_ ⟨.inr e4, D.one 8 rfl rfl <| M.cl rfl (hw w4 e4) ?_⟩
      rintro e w5 ⟨⟨y, rfl, y0, y1⟩, e5⟩
      refine ⟨_, rfl, M.run rfl <| M.end_ ⟨.inr e5, D.weak rfl ?_ (hcont (gp, y) w5 ⟨gr_trans e4 e5, bp.mv0 e5, lp, y0, y1⟩)⟩⟩
      exact ⟨rfl, rfl, rfl, rfl, rfl, rfl, rfl, trivial⟩
  rintro ⟨gp, y⟩ w4 ⟨e4, bp, lp, y0, y1⟩
  refine D.one 10 rfl rfl <| M.store rfl rfl bp rfl rfl fun w5 b5 e5 => M.run rfl <| M.end_ ⟨.inl ⟨rfl, trivial⟩, D.run rfl <| D.done_ rfl <| M.run rfl <| M.drawG [] (by kernel_rfl) fun w6 e6 => ?_⟩
  replace b5 : Blk w5 gp [.int .i64 d.lo, .int .i64 d.hi] 41 := b5
  have e35 := gr_fresh e4 e5 lp
  have b6 := b5.mv0 e6
  have e36 := gr_trans e35 e6
  have q0 : 0 ≤ y.tdiv 4 := by rw [Int.tdiv_eq_ediv_of_nonneg y0]; omega
  have q1 : y.tdiv 4 ≤ y := by rw [Int.tdiv_eq_ediv_of_nonneg y0]; omega
  have r0 : 0 ≤ (y.tdiv 4).tmod (d.hi - d.lo + 1) := by rw [Int.tmod_eq_emod_of_nonneg q0]; exact Int.emod_nonneg _ (by omega)
  have r1 : (y.tdiv 4).tmod (d.hi - d.lo + 1) < d.hi - d.lo + 1 := by rw [Int.tmod_eq_emod_of_nonneg q0]; exact Int.emod_lt_of_pos _ (by omega)
  refine D.run rfl <| D.ld 1 rfl rfl rfl rfl (v := .int .i64 d.lo) (fun w' hw => (b6.mv0 hw).cell rfl rfl) <| D.ld 5 rfl rfl rfl rfl (v := .int .i64 d.hi) (fun w' hw => (b6.mv0 hw).cellsAll.one 1 rfl rfl) <| D.ld 7 rfl rfl rfl rfl (v := .int .i64 d.lo) (fun w' hw => (b6.mv0 hw).cell rfl rfl) <| D.at_ [35] rfl ?_
  rw [w64 (x := y.tdiv 4) (by omega) (by omega), w64 (x := d.hi - d.lo) (by omega) (by omega), w64 (x := d.hi - d.lo + 1) (by omega) (by omega)]
  refine D.ys 10 rfl rfl rfl (YS.rem rfl (by omega)) <| D.at_ [37] rfl ?_
  rw [w64 (x := d.lo + (y.tdiv 4).tmod (d.hi - d.lo + 1)) (by omega) (by omega)]
  have hn : d.lo ≤ d.lo + (y.tdiv 4).tmod (d.hi - d.lo + 1) ∧ d.lo + (y.tdiv 4).tmod (d.hi - d.lo + 1) ≤ d.hi := by omega
  generalize d.lo + (y.tdiv 4).tmod (d.hi - d.lo + 1) = n at hn
  have tail : ∀ (v : Int), d.lo ≤ v → v ≤ d.hi → ∀ j, j < (t ++ [v]).length → (dAt a j).lo ≤ at0 (t ++ [v]) j ∧ at0 (t ++ [v]) j ≤ (dAt a j).hi := fun v v0 v1 j hj => by
    rw [at0_app]
    by_cases e : j < t.length
    · rw [if_pos e]; exact hin j e
    · simp at hj
      have : j = t.length := by omega
      rw [if_neg e, if_pos this, this, htl, hd]; exact ⟨v0, v1⟩
  have e16 := gr_trans e13 e36
  have hX6 := (hX.mv0 e3).mv0 e36
  have fin : ∀ (v : Int) (w7 : World), True := fun _ _ => trivial
  refine D.run rfl <| D.done_ rfl <| M.run rfl <| M.cond rfl (fun h2 => ?_) (fun h2 => ?_)
  · refine M.run rfl <| M.ld (v := .int .i64 d.lo) rfl (b6.cell rfl rfl) <| M.run rfl <| M.bs rfl fun g7 w7 b7 e7 l7 => M.run rfl ?_
    have hX7 := hX6.mv0 e7
    refine M.app (d := dI) rfl rfl hX7 rfl (by decide) rfl (ys := [_]) rfl rfl (src_one b7 rfl) (gr_trans e16 e7).size (by simp only [List.length_cons, List.length_nil]; omega) (by decide) fun X' x' w8 hX8 e8 hat => ?_
    exact M.run rfl <| M.end_ ⟨(i + 1, _, X', x'), ⟨rfl, rfl, rfl, nxt hlt (by omega), trivial⟩, ⟨by omega, by simp [htl], hX7.gr (gr_trans e16 e7) e8 (Nat.le_refl _), hX8, tail d.lo (by omega) (by omega)⟩, by simp; omega⟩
  refine M.run rfl <| M.cond rfl (fun h3 => ?_) (fun h3 => ?_)
  · refine M.run rfl <| M.ld (v := .int .i64 d.hi) rfl (b6.cellsAll.one 1 rfl rfl) <| M.run rfl <| M.bs rfl fun g7 w7 b7 e7 l7 => M.run rfl ?_
    have hX7 := hX6.mv0 e7
    refine M.app (d := dI) rfl rfl hX7 rfl (by decide) rfl (ys := [_]) rfl rfl (src_one b7 rfl) (gr_trans e16 e7).size (by simp only [List.length_cons, List.length_nil]; omega) (by decide) fun X' x' w8 hX8 e8 hat => ?_
    exact M.run rfl <| M.end_ ⟨(i + 1, _, X', x'), ⟨rfl, rfl, rfl, nxt hlt (by omega), trivial⟩, ⟨by omega, by simp [htl], hX7.gr (gr_trans e16 e7) e8 (Nat.le_refl _), hX8, tail d.hi (by omega) (by omega)⟩, by simp; omega⟩
  · refine M.run rfl <| M.bs rfl fun g7 w7 b7 e7 l7 => M.run rfl ?_
    have hX7 := hX6.mv0 e7
    refine M.app (d := dI) rfl rfl hX7 rfl (by decide) rfl (ys := [_]) rfl rfl (src_one b7 rfl) (gr_trans e16 e7).size (by simp only [List.length_cons, List.length_nil]; omega) (by decide) fun X' x' w8 hX8 e8 hat => ?_
    exact M.run rfl <| M.end_ ⟨(i + 1, _, X', x'), ⟨rfl, rfl, rfl, nxt hlt (by omega), trivial⟩, ⟨by omega, by simp [htl], hX7.gr (gr_trans e16 e7) e8 (Nat.le_refl _), hX8, tail n hn.1 hn.2⟩, by simp; omega⟩
end Go.Proofs.Yteeikpmoboehdaa
end

section
/- Walks: the laws PayFewest and PayApart. -/
set_option linter.unusedVariables false
namespace Py
/-- the fewest payments -/
def fewN (l : List Int) : Int := l.length - zeros l - (best l).length
theorem fewN_le {l : List Int} (h64 : l.length ≤ 64) {m : Nat} (h : Settles l m) : fewN l ≤ m := by
  have := fewest_low h64 h
  have h2 : bestN l = (best l).length := rfl
  unfold fewN; omega
theorem at0_appL {l m : List Int} {i : Nat} (h : i < l.length) : at0 (l ++ m) i = at0 l i := by
  unfold at0; rw [List.getD_eq_getElem?_getD, List.getElem?_append_left h, ← List.getD_eq_getElem?_getD]
theorem at0_appR {l m : List Int} {i : Nat} (h : l.length ≤ i) : at0 (l ++ m) i = at0 m (i - l.length) := by
  unfold at0; rw [List.getD_eq_getElem?_getD, List.getElem?_append_right h, ← List.getD_eq_getElem?_getD]
theorem Settles.right {m : List Int} {b : Nat} (h : Settles m b) : ∀ {l : List Int}, (∀ i, i < l.length → at0 l i = 0) → Settles (l ++ m) b := by
  induction h with
  | @nil m hm =>
    intro l hl
    refine .nil fun i hi => ?_
    by_cases e : i < l.length
    · rw [at0_appL e]; exact hl i e
    · rw [at0_appR (by omega)]; exact hm _ (by simp at hi; omega)
  | @cons m m' a b x k ha hb hp h ih =>
    intro l hl
    refine .cons (a := l.length + a) (b := l.length + b) (x := x) (by simp; omega) (by simp; omega) ⟨by simp [hp.1], fun i hi => ?_⟩ (ih hl)
    by_cases e : i < l.length
    · rw [at0_appL e, at0_appL e, if_neg (by omega), if_neg (by omega)]; omega
    · simp at hi
      rw [at0_appR (by omega), at0_appR (by omega), hp.2 _ (by omega)]
      congr 1
      · congr 1
        by_cases c : i - l.length = a
        · rw [if_pos c, if_pos (by omega)]
        · rw [if_neg c, if_neg (by omega)]
      · by_cases c : i - l.length = b
        · rw [if_pos c, if_pos (by omega)]
        · rw [if_neg c, if_neg (by omega)]
theorem Settles.app {l m : List Int} {a b : Nat} (h : Settles l a) (k : Settles m b) : Settles (l ++ m) (a + b) := by
  induction h with
  | @nil l hl => rw [Nat.zero_add]; exact k.right hl
  | @cons l l' p q x n hp hq hd h ih =>
    rw [Nat.add_right_comm]
    refine .cons (a := p) (b := q) (x := x) (by simp; omega) (by simp; omega) ⟨by simp [hd.1], fun i hi => ?_⟩ ih
    by_cases e : i < l.length
    · rw [at0_appL (l := l') (by rw [hd.1]; exact e), at0_appL e, hd.2 i e]
    · rw [at0_appR (l := l') (by rw [hd.1]; omega), at0_appR (l := l) (by omega), hd.1, if_neg (by omega), if_neg (by omega)]; omega
def negL (l : List Int) : List Int := l.map fun x => -x
theorem negL_at (l : List Int) {i : Nat} (h : i < l.length) : at0 (negL l) i = - at0 l i := by
  unfold negL at0; simp [h]
theorem negL_len (l : List Int) : (negL l).length = l.length := by simp [negL]
theorem negL_neg (l : List Int) : negL (negL l) = l := by simp [negL, Function.comp_def]
theorem Settles.neg {l : List Int} {a : Nat} (h : Settles l a) : Settles (negL l) a := by
  induction h with
  | @nil l hl => exact .nil fun i hi => by rw [negL_len] at hi; rw [negL_at l hi, hl i hi]; rfl
  | @cons l l' p q x n hp hq hd h ih =>
    refine .cons (a := p) (b := q) (x := -x) (by rw [negL_len]; exact hp) (by rw [negL_len]; exact hq) ⟨by rw [negL_len, negL_len]; exact hd.1, fun i hi => ?_⟩ ih
    rw [negL_len] at hi
    rw [negL_at l hi, negL_at l' (by rw [hd.1]; exact hi), hd.2 i hi]
    split <;> split <;> omega
theorem sumTo_neg (f : Nat → Int) : ∀ n, sumTo (fun i => - f i) n = - sumTo f n
  | 0 => rfl
  | n + 1 => by simp only [sumTo, sumTo_neg f n]; omega
theorem negL_bal {l : List Int} (h : balF l = 0) : balF (negL l) = 0 := by
  obtain ⟨h7, h0, hd, hs⟩ := balF_ok h
  unfold balF
  rw [negL_len, if_neg (by omega), if_neg (by
    rintro (h | h)
    · omega
    · have : debt (negL l) = true := all_true fun i hi => by
        rw [negL_len] at hi
        rw [at0_get (by rw [negL_len]; exact hi), negL_at l hi]
        have := debt_at hd hi
        exact within_iff.2 (by omega)
      rw [h] at this; cases this), if_neg]
  rw [sumTo_congr (g := fun i => - at0 l i) _ (fun i hi => negL_at l hi), sumTo_neg, hs]; simp
end Py
namespace Go.Proofs.Yteeikpmoboehdaa
open Go Go.Vc Go.RowKit Py
set_option maxHeartbeats 4000000 in
set_option maxRecDepth 100000 in
theorem PayFewest_go (wl : List Int) (mq : Int) (ps : List Pmt) (gs : List (List Int)) (U : Option Addr) (u : Nat) (B : Option Addr) (b : Nat) (C : Option Addr) (cc : Nat) (w : World) (hU : Rd dW w U u wl) (hb : ∀ x ∈ wl, 0 ≤ x ∧ x ≤ 65535) (m0 : 0 ≤ mq) (m1 : mq ≤ 255) (hB : Rd dPmt w B b ps) (hC : Rd dL w C cc gs) :
    Calls Try.prog 14 #[.slice U wl.length u, .int .u8 mq, .slice B ps.length b, .slice C gs.length cc] w fun e w' => e = .returned (.bool true) ∧ w.grownBy w' none := by
  refine calls (G := G) (args := [.slice U wl.length u, .int .u8 mq, .slice B ps.length b, .slice C gs.length cc]) Try.func14 rfl rfl rfl ?_
  refine M.run rfl <| M.cl rfl (Owed_go wl mq U u w hU hb m0 m1) ?_
  rintro e w1 ⟨l, X, x, rfl, hX, e1, hl1, hl7⟩
  have hXr : Rd dI w1 X x l := hX.rd (by decide)
  refine ⟨_, rfl, M.run rfl <| M.cl rfl (BalancesFault_go l X x w1 hXr) ?_⟩
  rintro e w2 ⟨rfl, e2⟩
  have e02 := gr_trans e1 e2
  refine ⟨_, rfl, M.at_ [23] rfl <| M.case 23 rfl (fun h => ?_) (fun h => ?_)⟩
  · refine M.run rfl <| M.condT rfl rfl <| M.run rfl <| M.cl rfl (awake_go w2) ?_
    rintro e w3 ⟨rfl, e3⟩
    exact ⟨_, rfl, M.run rfl <| M.retF rfl rfl ⟨rfl, gr_trans e02 e3⟩⟩
  have hz : balF l = 0 := by simpa using h
  refine M.at_ [28] rfl <| M.case 28 rfl (fun h => ?_) (fun h => ?_)
  · refine M.run rfl <| M.condT rfl rfl <| M.run rfl <| M.cl rfl (awake_go w2) ?_
    rintro e w3 ⟨rfl, e3⟩
    exact ⟨_, rfl, M.run rfl <| M.retF rfl rfl ⟨rfl, gr_trans e02 e3⟩⟩
  have hp12 := of_decide_eq_false h
  refine M.run rfl <| M.cond rfl (fun h => ?_) (fun h => ?_)
  · refine M.run rfl <| M.cl rfl (awake_go w2) ?_
    rintro e w3 ⟨rfl, e3⟩
    exact ⟨_, rfl, M.run rfl <| M.retF rfl rfl ⟨rfl, gr_trans e02 e3⟩⟩
  have hg9 := of_decide_eq_false h
  refine M.run rfl <| M.loop (σ := Nat) (fun i => [(2, .slice B ps.length b), (3, .slice C gs.length cc), (9, .slice X l.length x), (10, .int .i64 (i : Int))]) (fun i w' => i ≤ gs.length ∧ w' = w2 ∧ ∀ j, (hj : j < gs.length) → j < i → gs[j].length ≤ 9) (fun i => gs.length - i) 0 ⟨rfl, rfl, rfl, rfl, trivial⟩ ⟨Nat.zero_le _, rfl, fun j _ hj => by omega⟩ ?_
  rintro i w0 ⟨hi, rfl, hsm⟩
  refine M.run rfl <| M.cond rfl (fun h => ?_) (fun h => ?_)
  · have hlt : i < gs.length := by have := of_decide_eq_true h; omega
    obtain ⟨hC1, D', dd, hD', hCc⟩ := rd_el hC hlt
    refine M.run rfl <| M.ix rfl (by omega) (by omega) hC1 <| M.ld rfl ((hCc w0 (gr_below e02)).one 0 rfl rfl) <| M.run rfl <| M.cond rfl (fun h2 => ?_) (fun h2 => ?_)
    · refine M.run rfl <| M.cl rfl (awake_go w0) ?_
      rintro e w3 ⟨rfl, e3⟩
      exact ⟨_, rfl, M.run rfl <| M.retF rfl rfl ⟨rfl, gr_trans e02 e3⟩⟩
    · have h2' := of_decide_eq_false h2
      exact M.run rfl <| M.end_ ⟨i + 1, ⟨rfl, rfl, rfl, nxt hlt (by omega), trivial⟩, ⟨by omega, rfl, fun j hj hji => by
        by_cases e : j = i
        · subst e; omega
        · exact hsm j hj (by omega)⟩, by omega⟩
  have hin : i = gs.length := by have := of_decide_eq_false h; omega
  subst hin
  have hgs : ∀ g ∈ gs, g.length ≤ 1000000 := fun g hg => by
    obtain ⟨j, hj, rfl⟩ := List.mem_iff_getElem.1 hg
    have := hsm j hj hj; omega
  have hX2 : Rd dI w0 X x l := hXr.mv e2
  refine M.run rfl <| M.cl rfl (list_go l X x w0 hX2 (by omega)) ?_
  rintro e w3 ⟨X3, x3, rfl, hX3, e3⟩
  refine ⟨_, rfl, M.run rfl <| M.cl rfl (Settle_go l X3 x3 w3 (hX3.rd (by decide))) ?_⟩
  rintro e w4 ⟨xs, Z, z, rfl, hZ, e4, _, hgood⟩
  have hg := hgood hz
  have hlen := hg.len hz
  have e24 := gr_trans e3 e4
  refine ⟨_, rfl, M.run rfl <| M.cl rfl (list_go l X x w4 (hX2.mv e24) (by omega)) ?_⟩
  rintro e w5 ⟨X5, x5, rfl, hX5, e5⟩
  refine ⟨_, rfl, M.run rfl <| M.cl rfl (Groups_go l X5 x5 w5 (hX5.rd (by decide))) ?_⟩
  rintro e w6 ⟨Y, y, rfl, hY, e6⟩
  have e26 := gr_trans (gr_trans e24 e5) e6
  have e06 := gr_trans e02 e26
  obtain ⟨h7, h0, hd, hsum⟩ := balF_ok hz
  have hbs := best_small h7
  obtain ⟨R, hR, hRl, hRs, hare⟩ : ∃ R : List (List Int), groupsR l = R ∧ R.length = (best l).length ∧ (∀ g ∈ R, g.length ≤ 1000000) ∧ areG l R = true :=
    ⟨(best l).map setL, if_pos hz, by simp, fun g hg => by
      obtain ⟨s, _, rfl⟩ := List.mem_map.1 hg
      have := setL_len s; omega, groups_are hz⟩
  rw [hR] at hY ⊢
  rw [hz]
  have hZ6 : Rd dPmt w6 Z z xs := Rd.mv (hZ.rd (by decide)) (gr_trans e5 e6)
  have hX6 : Rd dI w6 X x l := hX2.mv e26
  have hB6 : Rd dPmt w6 B b ps := hB.mv e06
  have hC6 : Rd dL w6 C cc gs := hC.mv e06
  have hnz := nzc_all l
  have hnb := nzc_bd l l.length
  have hxl : xs.length ≤ 1000000 := by omega
  refine ⟨_, rfl, M.run rfl <| M.loop (σ := Nat) (fun i => [(2, .slice B ps.length b), (3, .slice C gs.length cc), (9, .slice X l.length x), (11, .slice Z xs.length z), (12, .int .i64 0), (13, .slice Y R.length y), (14, .int .i64 0), (15, .int .i64 (nzc l i)), (16, .int .i64 (i : Int))]) (fun i w' => i ≤ l.length ∧ w' = w6) (fun i => l.length - i) 0 ⟨rfl, rfl, rfl, rfl, rfl, rfl, rfl, rfl, rfl, trivial⟩ ⟨Nat.zero_le _, rfl⟩ ?_⟩
  rintro i w7 ⟨hi, rfl⟩
  have hnbi := nzc_bd l i
  refine M.run rfl <| M.cond rfl (fun h => ?_) (fun h => ?_)
  · have hlt : i < l.length := by have := of_decide_eq_true h; omega
    obtain ⟨hX1, hXc⟩ := rd_flat hX6 hlt
    rw [at0_get hlt] at hXc
    refine M.run rfl <| M.ix rfl (by omega) (by omega) hX1 <| M.ld rfl ((hXc w7 (gr_below (gr_refl _ _))).one 0 rfl rfl) <| M.run rfl <| M.cond rfl (fun h2 => ?_) (fun h2 => ?_)
    · have h2' : at0 l i ≠ 0 := by simpa using h2
      refine M.run rfl <| M.end_ ⟨i + 1, ⟨rfl, rfl, rfl, rfl, rfl, rfl, rfl, ?_, nxt hlt (by omega), trivial⟩, ⟨by omega, rfl⟩, by omega⟩
      show some (Value.int .i64 (IntKind.i64.wrap (nzc l i + 1))) = _
      rw [w64 (by omega) (by omega)]
      unfold nzc; simp only [sumTo]; rw [if_neg h2']
    · have h2' : at0 l i = 0 := by simpa using h2
      refine M.run rfl <| M.end_ ⟨i + 1, ⟨rfl, rfl, rfl, rfl, rfl, rfl, rfl, ?_, nxt hlt (by omega), trivial⟩, ⟨by omega, rfl⟩, by omega⟩
      show some (Value.int .i64 (nzc l i)) = _
      unfold nzc; simp only [sumTo]; rw [if_pos h2', Int.add_zero]
  have hin : i = l.length := by have := of_decide_eq_false h; omega
  subst hin
  refine M.at_ [74] rfl <| M.caseF 74 rfl rfl <| M.at_ [78] rfl <| M.caseF 78 rfl rfl <| M.at_ [84] rfl ?_
  rw [w64 (x := nzc l l.length - (R.length : Int)) (by omega) (by omega)]
  refine M.at_ [87] rfl <| M.caseF 87 rfl (by simp; omega) <| M.run rfl <| M.cl rfl (list_go l X x w7 hX6 (by omega)) ?_
  rintro e w8 ⟨X8, x8, rfl, hX8, e8⟩
  have hc := ProveSettled_go l xs (xs.length : Int) X8 x8 Z z w8 (hX8.rd (by decide)) (hZ6.mv e8) hxl
  rw [show proveS l xs (xs.length : Int) = true by unfold proveS; rw [hz, hg.1]; simp] at hc
  refine ⟨_, rfl, M.run rfl <| M.cl rfl hc ?_⟩
  rintro e w9 ⟨rfl, e9⟩
  have f9 := gr_trans e8 e9
  refine ⟨_, rfl, M.at_ [96] rfl <| M.caseF 96 rfl rfl <| M.run rfl <| M.cl rfl (list_go l X x w9 (hX6.mv f9) (by omega)) ?_⟩
  rintro e wa ⟨Xa, xa, rfl, hXa, ea⟩
  have fa := gr_trans f9 ea
  have hc := ProveSettled_go l xs ((xs.length : Int) - 1) Xa xa Z z wa (hXa.rd (by decide)) (hZ6.mv fa) hxl
  rw [show proveS l xs ((xs.length : Int) - 1) = false by unfold proveS; rw [show decide ((xs.length : Int) ≤ (xs.length : Int) - 1) = false by simp; omega]; simp] at hc
  refine ⟨_, rfl, M.at_ [102] rfl ?_⟩
  rw [w64 (x := (xs.length : Int) - 1) (by omega) (by omega)]
  refine M.run rfl <| M.cl rfl hc ?_
  rintro e wb ⟨rfl, eb⟩
  have fb := gr_trans fa eb
  refine ⟨_, rfl, M.at_ [105] rfl <| M.caseF 105 rfl rfl <| M.run rfl <| M.cl rfl (list_go l X x wb (hX6.mv fb) (by omega)) ?_⟩
  rintro e wc ⟨Xc, xc, rfl, hXc, ec⟩
  have fc := gr_trans fb ec
  have hc := ProveGroups_go l R (R.length : Int) Xc xc Y y wc (hXc.rd (by decide)) (hY.mv fc) hRs
  rw [show proveG l R (R.length : Int) = true by unfold proveG; rw [hz, hare]; simp] at hc
  refine ⟨_, rfl, M.run rfl <| M.cl rfl hc ?_⟩
  rintro e wd ⟨rfl, ed⟩
  have fd := gr_trans fc ed
  refine ⟨_, rfl, M.at_ [114] rfl <| M.caseF 114 rfl rfl <| M.run rfl <| M.cl rfl (list_go l X x wd (hX6.mv fd) (by omega)) ?_⟩
  rintro e we ⟨Xe, xe, rfl, hXe, ee⟩
  have fe := gr_trans fd ee
  have hc := ProveGroups_go l R ((R.length : Int) + 1) Xe xe Y y we (hXe.rd (by decide)) (hY.mv fe) hRs
  rw [show proveG l R ((R.length : Int) + 1) = false by unfold proveG; rw [show decide ((R.length : Int) + 1 ≤ (R.length : Int)) = false by simp; omega]; simp] at hc
  refine ⟨_, rfl, M.at_ [120] rfl ?_⟩
  rw [w64 (x := (R.length : Int) + 1) (by omega) (by omega)]
  refine M.run rfl <| M.cl rfl hc ?_
  rintro e wf ⟨rfl, ef⟩
  have ff := gr_trans fe ef
  refine ⟨_, rfl, M.run rfl <| M.condF rfl rfl <| M.run rfl <| M.cl rfl (list_go l X x wf (hX6.mv ff) (by omega)) ?_⟩
  rintro e wg ⟨Xg, xg, rfl, hXg, eg⟩
  have fg := gr_trans ff eg
  refine ⟨_, rfl, M.run rfl <| M.cl rfl (Payments_go ps B b wg (hB6.mv fg) (by omega)) ?_⟩
  rintro e wh ⟨Xh, xh, rfl, hXh, eh⟩
  have fh := gr_trans fg eh
  have hc := ProveSettled_go l ps ((xs.length : Int) - 1) Xg xg Xh xh wh (Rd.mv (hXg.rd (by decide)) eh) (hXh.rd (by decide)) (by omega)
  rw [show proveS l ps ((xs.length : Int) - 1) = false by
    cases hS : settlesB l ps with
    | false => unfold proveS; rw [hS, Bool.and_false]
    | true =>
      have := settlesB_low hz hS
      unfold proveS; rw [show decide ((ps.length : Int) ≤ (xs.length : Int) - 1) = false by simp; omega]; simp] at hc
  refine ⟨_, rfl, M.at_ [129] rfl ?_⟩
  rw [w64 (x := (xs.length : Int) - 1) (by omega) (by omega)]
  refine M.run rfl <| M.cl rfl hc ?_
  rintro e wi ⟨rfl, ei⟩
  have fi := gr_trans fh ei
  refine ⟨_, rfl, M.at_ [132] rfl <| M.caseT 132 rfl rfl <| M.run rfl <| M.cl rfl (list_go l X x wi (hX6.mv fi) (by omega)) ?_⟩
  rintro e wj ⟨Xj, xj, rfl, hXj, ej⟩
  have fj := gr_trans fi ej
  refine ⟨_, rfl, M.run rfl <| M.cl rfl (lists_go gs C cc wj (hC6.mv fj) (by omega) hgs) ?_⟩
  rintro e wk ⟨Xk, xk, rfl, hXk, ek⟩
  have fk := gr_trans fj ek
  have hc := ProveGroups_go l gs ((R.length : Int) + 1) Xj xj Xk xk wk (Rd.mv (hXj.rd (by decide)) ek) hXk hgs
  rw [show proveG l gs ((R.length : Int) + 1) = false by
    cases hS : areG l gs with
    | false => unfold proveG; rw [hS, Bool.and_false]
    | true =>
      have := groups_most hz hS
      unfold proveG; rw [show decide ((R.length : Int) + 1 ≤ (gs.length : Int)) = false by simp; omega]; simp] at hc
  refine ⟨_, rfl, M.at_ [139] rfl ?_⟩
  rw [w64 (x := (R.length : Int) + 1) (by omega) (by omega)]
  refine M.run rfl <| M.cl rfl hc ?_
  rintro e wl' ⟨rfl, el⟩
  have fl := gr_trans fk el
  refine ⟨_, rfl, M.at_ [143] rfl <| M.caseT 143 rfl rfl <| M.run rfl <| M.cl rfl (awake_go wl') ?_⟩
  rintro e wm ⟨rfl, em⟩
  exact ⟨_, rfl, M.run rfl <| M.retF rfl rfl ⟨rfl, gr_trans (gr_trans e06 fl) em⟩⟩
end Go.Proofs.Yteeikpmoboehdaa
end

section
/- Walk: the law PayApart. -/
set_option linter.unusedVariables false
namespace Py
theorem GoodS.few {l : List Int} (hb : balF l = 0) {ps : List Pmt} (h : GoodS l ps) : (ps.length : Int) = fewN l ∧ Settles l ps.length := ⟨h.len hb, settlesB_of h.1⟩
theorem few_apart {l m : List Int} (hl : balF l = 0) (hm : balF m = 0) (hlm : balF (l ++ m) = 0) {x y z : List Pmt} (hx : GoodS l x) (hy : GoodS m y) (hz : GoodS (l ++ m) z) : z.length ≤ x.length + y.length := by
  have h1 := (hz.few hlm).1
  have h2 := fewN_le (by have := (balF_ok hlm).1; omega) ((hx.few hl).2.app (hy.few hm).2)
  omega
theorem few_neg {l : List Int} (hl : balF l = 0) {x y : List Pmt} (hx : GoodS l x) (hy : GoodS (negL l) y) : y.length = x.length := by
  have hn := negL_bal hl
  have h7 := (balF_ok hl).1
  have h1 := hx.few hl
  have h2 := hy.few hn
  have h3 := fewN_le (by rw [negL_len]; omega) h1.2.neg
  have h4 := h2.2.neg
  rw [negL_neg] at h4
  have h5 := fewN_le (by omega) h4
  omega
end Py
namespace Go.Proofs.Yteeikpmoboehdaa
open Go Go.Vc Go.RowKit Py
set_option maxHeartbeats 4000000 in
set_option maxRecDepth 100000 in
theorem PayApart_go (wl1 wl2 : List Int) (m1 m2 : Int) (U : Option Addr) (u : Nat) (V : Option Addr) (v : Nat) (w : World) (hU : Rd dW w U u wl1) (hb1 : ∀ x ∈ wl1, 0 ≤ x ∧ x ≤ 65535) (hV : Rd dW w V v wl2) (hb2 : ∀ x ∈ wl2, 0 ≤ x ∧ x ≤ 65535) (m10 : 0 ≤ m1) (m11 : m1 ≤ 255) (m20 : 0 ≤ m2) (m21 : m2 ≤ 255) :
    Calls Try.prog 10 #[.slice U wl1.length u, .slice V wl2.length v, .int .u8 m1, .int .u8 m2] w fun e w' => e = .returned (.bool true) ∧ w.grownBy w' none := by
  refine calls (G := G) (args := [.slice U wl1.length u, .slice V wl2.length v, .int .u8 m1, .int .u8 m2]) Try.func10 rfl rfl rfl ?_
  refine M.run rfl <| M.cl rfl (Owed_go wl1 m1 U u w hU hb1 m10 m11) ?_
  rintro e w1 ⟨l, X, x, rfl, hX, e1, hl1, hl7⟩
  refine ⟨_, rfl, M.run rfl <| M.cl rfl (Owed_go wl2 m2 V v w1 (hV.mv e1) hb2 m20 m21) ?_⟩
  rintro e w2 ⟨m, Y, y, rfl, hY, e2, hm1, hm7⟩
  have e02 := gr_trans e1 e2
  have rX : Rd dI w2 X x l := Rd.mv (hX.rd (by decide)) e2
  have rY : Rd dI w2 Y y m := hY.rd (by decide)
  refine ⟨_, rfl, M.run rfl <| M.cl rfl (list_go l X x w2 rX (by omega)) ?_⟩
  rintro e w3 ⟨Q, q, rfl, hQ, e3⟩
  refine ⟨_, rfl, M.run rfl <| M.appS (d := dI) rfl rfl hQ rfl (by decide) rfl (ys := m) rfl (rd_nil (rY.mv e3)) (rd_src (rY.mv e3)) e3.size (by show (l.length + m.length) * 8 ≤ _; omega) (by decide) fun Z z w4 hZ e4 hat => ?_⟩
  have e24 := hQ.gr e3 e4 (Nat.le_refl _)
  have e04 := gr_trans e02 e24
  have rX4 : Rd dI w4 X x l := rX.mv e24
  have rY4 : Rd dI w4 Y y m := rY.mv e24
  have rZ4 : Rd dI w4 Z z (l ++ m) := hZ.rd (by decide)
  refine M.run rfl <| M.cl rfl (BalancesFault_go l X x w4 rX4) ?_
  rintro e w5 ⟨rfl, e5⟩
  have e05 := gr_trans e04 e5
  refine ⟨_, rfl, M.at_ [35] rfl <| M.case 35 rfl (fun h => ?_) (fun h => ?_)⟩
  · refine M.run rfl <| M.condT rfl rfl <| M.run rfl <| M.cl rfl (awake_go w5) ?_
    rintro e w6 ⟨rfl, e6⟩
    exact ⟨_, rfl, M.run rfl <| M.retF rfl rfl ⟨rfl, gr_trans e05 e6⟩⟩
  have hzl : balF l = 0 := by simpa using h
  refine M.run rfl <| M.cl rfl (BalancesFault_go m Y y w5 (rY4.mv e5)) ?_
  rintro e w6 ⟨rfl, e6⟩
  have e46 := gr_trans e5 e6
  have e06 := gr_trans e04 e46
  refine ⟨_, rfl, M.at_ [40] rfl <| M.case 40 rfl (fun h => ?_) (fun h => ?_)⟩
  · refine M.run rfl <| M.condT rfl rfl <| M.run rfl <| M.cl rfl (awake_go w6) ?_
    rintro e w7 ⟨rfl, e7⟩
    exact ⟨_, rfl, M.run rfl <| M.retF rfl rfl ⟨rfl, gr_trans e06 e7⟩⟩
  have hzm : balF m = 0 := by simpa using h
  refine M.run rfl <| M.cl rfl (BalancesFault_go (l ++ m) Z z w6 (rZ4.mv e46)) ?_
  rintro e w7 ⟨rfl, e7⟩
  have e47 := gr_trans e46 e7
  have e07 := gr_trans e04 e47
  refine ⟨_, rfl, M.run rfl <| M.cond rfl (fun h => ?_) (fun h => ?_)⟩
  · refine M.run rfl <| M.cl rfl (awake_go w7) ?_
    rintro e w8 ⟨rfl, e8⟩
    exact ⟨_, rfl, M.run rfl <| M.retF rfl rfl ⟨rfl, gr_trans e07 e8⟩⟩
  have hzz : balF (l ++ m) = 0 := by simpa using h
  obtain ⟨_, _, hd, _⟩ := balF_ok hzl
  have hnl := negL_len l
  refine M.run rfl <| M.loop (σ := Nat × Option Addr × Nat) (fun (i, N, n) => [(9, .slice X l.length x), (10, .slice Y m.length y), (11, .slice Z (l ++ m).length z), (12, .slice N ((negL l).take i).length n), (13, .int .i64 (i : Int))])
    (fun (i, N, n) w' => i ≤ l.length ∧ w7.grownBy w' none ∧ Vc.Own dI 3 w' w7.heap.size no N n ((negL l).take i)) (fun (i, _) => l.length - i) (0, none, 0) ⟨rfl, rfl, rfl, rfl, rfl, trivial⟩ ⟨Nat.zero_le _, gr_refl _ _, Vc.Own.nil _ _ _ _ _⟩ ?_
  rintro ⟨i, N, n⟩ w8 ⟨hi, e8, hN⟩
  have e48 := gr_trans e47 e8
  refine M.run rfl <| M.cond rfl (fun h => ?_) (fun h => ?_)
  · have hlt : i < l.length := by have := of_decide_eq_true h; omega
    have hlt' : i < (negL l).length := by omega
    obtain ⟨hX1, hXc⟩ := rd_flat rX4 hlt
    rw [at0_get hlt] at hXc
    have hdi := debt_at hd hlt
    have htk : (negL l).take (i + 1) = (negL l).take i ++ [0 - at0 l i] := by
      rw [List.take_add_one, List.getElem?_eq_getElem hlt', at0_get hlt', negL_at l hlt, Int.zero_sub]; rfl
    have hln : ((negL l).take i).length ≤ 7 := by rw [List.length_take]; omega
    refine M.run rfl <| M.ix rfl (by omega) (by omega) hX1 <| M.ld rfl ((hXc w8 (gr_below e48)).one 0 rfl rfl) <| M.at_ [57] rfl ?_
    rw [w64 (x := 0 - at0 l i) (by omega) (by omega)]
    refine M.run rfl <| M.bs rfl fun g9 w9 b9 e9 l9 => M.run rfl ?_
    have hN9 := hN.mv0 e9
    refine M.app (d := dI) rfl rfl hN9 rfl (by decide) rfl (ys := [_]) rfl rfl (src_one b9 rfl) (gr_trans e8 e9).size (by simp only [List.length_cons, List.length_nil]; omega) (by decide) fun N' n' wa hNa ea hat => ?_
    refine M.run rfl <| M.end_ ⟨(i + 1, N', n'), ⟨rfl, rfl, rfl, ?_, nxt hlt (by omega), trivial⟩, ⟨by omega, hN9.gr (gr_trans e8 e9) ea (Nat.le_refl _), by rw [htk]; exact hNa⟩, by simp; omega⟩
    show some (Value.slice N' ((negL l).take i ++ [0 - at0 l i]).length n') = _
    rw [htk]
  have hin : i = l.length := by have := of_decide_eq_false h; omega
  subst hin
  have htake : (negL l).take l.length = negL l := List.take_of_length_le (by omega)
  rw [htake] at hN
  have hlen : (negL l).length = ((negL l).take l.length).length := by rw [htake]
  have rX8 : Rd dI w8 X x l := rX4.mv e48
  have e08 := gr_trans e04 e48
  refine M.run rfl <| M.cl rfl (list_go l X x w8 rX8 (by omega)) ?_
  rintro e w9 ⟨P1, p1, rfl, hP1, e9⟩
  refine ⟨_, rfl, M.run rfl <| M.cl rfl (Settle_go l P1 p1 w9 (hP1.rd (by decide))) ?_⟩
  rintro e wa ⟨s1, S1, c1, rfl, _, ea, _, g1⟩
  have f1 := gr_trans e9 ea
  refine ⟨_, rfl, M.run rfl <| M.cl rfl (list_go m Y y wa (rY4.mv (gr_trans e48 f1)) (by omega)) ?_⟩
  rintro e wb ⟨P2, p2, rfl, hP2, eb⟩
  refine ⟨_, rfl, M.run rfl <| M.cl rfl (Settle_go m P2 p2 wb (hP2.rd (by decide))) ?_⟩
  rintro e wc ⟨s2, S2, c2, rfl, _, ec, _, g2⟩
  have f2 := gr_trans (gr_trans f1 eb) ec
  refine ⟨_, rfl, M.run rfl <| M.cl rfl (Settle_go (l ++ m) Z z wc (rZ4.mv (gr_trans e48 f2))) ?_⟩
  rintro e wd ⟨s3, S3, c3, rfl, _, ed, _, g3⟩
  have f3 := gr_trans f2 ed
  have hc := Settle_go (negL l) N n wd (Rd.mv (hN.rd (by decide)) f3)
  rw [hlen] at hc
  refine ⟨_, rfl, M.run rfl <| M.cl rfl hc ?_⟩
  rintro e we ⟨s4, S4, c4, rfl, _, ee, _, g4⟩
  have f4 := gr_trans f3 ee
  have hzn := negL_bal hzl
  have k1 := few_apart hzl hzm hzz (g1 hzl) (g2 hzm) (g3 hzz)
  have k2 := few_neg hzl (g1 hzl) (g4 hzn)
  have hb1' := (g1 hzl).2
  have hb2' := (g2 hzm).2
  have q1 := nzc_all l
  have q2 := nzc_bd l l.length
  have q3 := nzc_all m
  have q4 := nzc_bd m m.length
  rw [hzl, hzm, hzz, hzn]
  refine ⟨_, rfl, M.at_ [84] rfl <| M.caseT 84 rfl rfl <| M.at_ [88] rfl <| M.caseT 88 rfl rfl <| M.at_ [92] rfl <| M.caseT 92 rfl rfl <| M.at_ [96] rfl <| M.caseT 96 rfl rfl <| M.at_ [103] rfl ?_⟩
  rw [w64 (x := (s1.length : Int) + (s2.length : Int)) (by omega) (by omega)]
  refine M.at_ [106] rfl <| M.caseT 106 rfl (by simp; omega) <| M.at_ [113] rfl <| M.caseT 113 rfl (by simp; omega) <| M.run rfl <| M.cl rfl (awake_go we) ?_
  rintro e wf ⟨rfl, ef⟩
  exact ⟨_, rfl, M.run rfl <| M.retF rfl rfl ⟨rfl, gr_trans (gr_trans e08 f4) ef⟩⟩
end Go.Proofs.Yteeikpmoboehdaa
end

section
/- Accounts and balances in another order. -/
set_option linter.unusedVariables false
namespace Py
theorem sumTo_take {α : Type} (g : α → Int) (z : α) (xs : List α) : ∀ m, m ≤ xs.length → sumTo (fun i => g (xs.getD i z)) m = ((xs.take m).map g).sum
  | 0, _ => by simp [sumTo]
  | m + 1, h => by
    have hm : m < xs.length := by omega
    simp only [sumTo]
    rw [sumTo_take g z xs m (by omega), List.take_add_one, List.getElem?_eq_getElem hm, getD_at xs z hm, List.map_append, List.sum_append]
    simp only [Option.toList, List.map_cons, List.map_nil, List.sum_cons, List.sum_nil, Int.add_zero]
theorem sumTo_list {α : Type} (g : α → Int) (z : α) (xs : List α) : sumTo (fun i => g (xs.getD i z)) xs.length = (xs.map g).sum := by
  rw [sumTo_take g z xs _ (Nat.le_refl _), List.take_length]
theorem sum_rot {α : Type} (g : α → Int) (xs : List α) (k : Nat) : ((xs.drop k ++ xs.take k).map g).sum = (xs.map g).sum := by
  have h : ((xs.take k ++ xs.drop k).map g).sum = (xs.map g).sum := by rw [List.take_append_drop]
  rw [← h, List.map_append, List.map_append, List.sum_append, List.sum_append, Int.add_comm]
def rotA (a : Acc) (k : Nat) : Acc := { a with ds := a.ds.drop k ++ a.ds.take k }
theorem rot_len {α : Type} (xs : List α) (k : Nat) : (xs.drop k ++ xs.take k).length = xs.length := by
  rw [List.length_append, List.length_drop, List.length_take]; omega
theorem rot_all {α : Type} (f : α → Bool) (xs : List α) (k : Nat) : (xs.drop k ++ xs.take k).all f = xs.all f := by
  have h : (xs.take k ++ xs.drop k).all f = xs.all f := by rw [List.take_append_drop]
  rw [← h, List.all_append, List.all_append, Bool.and_comm]
theorem rot_fault (a : Acc) (k : Nat) : fault (rotA a k) = fault a := by
  unfold fault Acc.wide Acc.bad rotA
  simp only [rot_len, rot_all]
theorem bnd_sum (a : Acc) (high : Bool) (s : Int) : bal a (truthL a high s a.ds.length) s = (a.ds.map fun d => change a d (firstW a d high s) s).sum := by
  unfold bal balTo
  rw [truthL_len, ← sumTo_list (fun d => change a d (firstW a d high s) s) ⟨0, 0, 0, []⟩ a.ds]
  apply sumTo_congr
  intro i hi
  rw [truthL_at a high s hi]; rfl
theorem rot_bnd (a : Acc) (k : Nat) (m : Nat) : bndL (rotA a k) m = bndL a m := by
  unfold bndL
  apply List.map_congr_left
  intro s _
  unfold bndAt
  rw [bnd_sum, bnd_sum, bnd_sum, bnd_sum]
  show Rng.mk (((a.ds.drop k ++ a.ds.take k).map fun d => change a d (firstW a d false (s : Int)) (s : Int)).sum) (((a.ds.drop k ++ a.ds.take k).map fun d => change a d (firstW a d true (s : Int)) (s : Int)).sum) = _
  rw [sum_rot, sum_rot]
def rotL (l : List Int) (k : Nat) : List Int := l.drop k ++ l.take k
theorem rotL_len (l : List Int) (k : Nat) : (rotL l k).length = l.length := rot_len l k
theorem rotL_at {l : List Int} {k i : Nat} (hk : k ≤ l.length) (hi : i < l.length) : at0 (rotL l k) i = at0 l (if i < l.length - k then i + k else i - (l.length - k)) := by
  unfold rotL
  by_cases h : i < l.length - k
  · rw [if_pos h, at0_appL (by rw [List.length_drop]; exact h)]
    unfold at0
    rw [List.getD_eq_getElem?_getD, List.getElem?_drop, List.getD_eq_getElem?_getD, Nat.add_comm]
  · rw [if_neg h, at0_appR (by rw [List.length_drop]; omega), List.length_drop]
    unfold at0
    rw [List.getD_eq_getElem?_getD, List.getElem?_take, if_pos (by omega), List.getD_eq_getElem?_getD]
theorem rotL_back {l : List Int} {k : Nat} (hk : k ≤ l.length) : rotL (rotL l k) (l.length - k) = l := by
  unfold rotL
  rw [List.drop_left' (by rw [List.length_drop]), List.take_left' (by rw [List.length_drop]), List.take_append_drop]
theorem Settles.rot {l : List Int} {n : Nat} (h : Settles l n) : ∀ k, k ≤ l.length → Settles (rotL l k) n := by
  induction h with
  | @nil l hl =>
    intro k hk
    refine .nil fun i hi => ?_
    rw [rotL_len] at hi
    rw [rotL_at hk hi]
    apply hl
    split <;> omega
  | @cons l l' p q x n hp hq hd h ih =>
    intro k hk
    refine .cons (a := if p < k then p + (l.length - k) else p - k) (b := if q < k then q + (l.length - k) else q - k) (x := x) (by rw [rotL_len]; split <;> omega) (by rw [rotL_len]; split <;> omega) ⟨by rw [rotL_len, rotL_len, hd.1], fun i hi => ?_⟩ (ih k (by rw [hd.1]; exact hk))
    rw [rotL_len] at hi
    rw [rotL_at (l := l') (by rw [hd.1]; exact hk) (by rw [hd.1]; exact hi), rotL_at hk hi, hd.1]
    have hj : (if i < l.length - k then i + k else i - (l.length - k)) < l.length := by split <;> omega
    rw [hd.2 _ hj]
    have key : ∀ r, r < l.length → ((if i < l.length - k then i + k else i - (l.length - k)) = r ↔ i = if r < k then r + (l.length - k) else r - k) := fun r hr => by
      constructor
      · rintro rfl; split <;> split <;> omega
      · rintro rfl; split <;> split <;> omega
    have k1 := key p hp
    have k2 := key q hq
    simp only [k1, k2]
theorem sum_at (l : List Int) : sumTo (at0 l) l.length = l.sum := by
  have := sumTo_list (fun x : Int => x) 0 l
  rw [show (l.map fun x => x) = l from List.map_id' l] at this
  exact this
theorem rotL_bal {l : List Int} {k : Nat} (h : balF l = 0) : balF (rotL l k) = 0 := by
  obtain ⟨h7, h0, hd, hs⟩ := balF_ok h
  unfold balF
  rw [rotL_len, if_neg (by omega), if_neg (by
    rintro (h | h)
    · omega
    · have : debt (rotL l k) = debt l := rot_all _ l k
      rw [this, hd] at h; cases h), if_neg]
  rw [← rotL_len l k, sum_at]
  have := sum_rot (fun x : Int => x) l k
  simp only [List.map_id'] at this
  unfold rotL
  rw [this, ← sum_at, hs]; simp
theorem few_rot {l : List Int} (hl : balF l = 0) {k : Nat} (hk : k ≤ l.length) {x y : List Pmt} (hx : GoodS l x) (hy : GoodS (rotL l k) y) : y.length = x.length := by
  have hn := rotL_bal (k := k) hl
  have h7 := (balF_ok hl).1
  have h1 := hx.few hl
  have h2 := hy.few hn
  have h3 := fewN_le (by rw [rotL_len]; omega) (h1.2.rot k hk)
  have h4 := h2.2.rot (l.length - k) (by rw [rotL_len]; omega)
  rw [rotL_back hk] at h4
  have h5 := fewN_le (by omega) h4
  omega
end Py
namespace Go.Vc
open Go Go.RowKit
/-- the end of a slice -/
theorem Sl.drop {α : Type} {d : Rp α} {w : World} {F : Nat → Prop} {A : Option Addr} {c : Nat} {xs : List α} (h : Sl d w F A c xs) {k : Nat} (hk : k ≤ xs.length) : Sl d w F (A.map (·.add (k * d.sz))) (c - k) (xs.drop k) := by
  have h1 := h.cap
  have h2 := h.big
  refine ⟨by rw [List.length_drop]; omega, by omega, fun j x hj => ?_⟩
  rw [List.getElem?_drop] at hj
  obtain ⟨hA, hF, cs, hk', hc⟩ := h.at_ (k + j) x hj
  rw [hA]
  have e : adOf (Option.map (fun a => a.add (k * d.sz)) (some (adOf A))) = (adOf A).add (k * d.sz) := rfl
  refine ⟨rfl, ?_, cs, hk', ?_⟩
  · rw [e, add_block]; exact hF
  · rw [e, add_add, ← Nat.add_mul]; exact hc
theorem Sl.take {α : Type} {d : Rp α} {w : World} {F : Nat → Prop} {A : Option Addr} {c : Nat} {xs : List α} (h : Sl d w F A c xs) (k : Nat) : Sl d w F A c (xs.take k) := by
  refine ⟨Nat.le_trans (by rw [List.length_take]; omega) h.cap, h.big, fun j x hj => ?_⟩
  rw [List.getElem?_take] at hj
  split at hj
  · exact h.at_ j x hj
  · cases hj
end Go.Vc
namespace Go.Proofs.Yteeikpmoboehdaa
open Go Go.Vc Go.RowKit Py
theorem rd_srcD {w : World} {F : Nat → Prop} {A : Option Addr} {c : Nat} {xs : List Dsp} (h : Sl dDsp w F A c xs) : SrcAt dDsp w F (adOf A) xs := fun j y hj => by
  obtain ⟨_, _, cs, hk, hc⟩ := h.at_ j y hj
  exact ⟨cs, hk, hc⟩
set_option maxHeartbeats 4000000 in
set_option maxRecDepth 100000 in
theorem PayOrder_go (a : Acc) (wl : List Int) (many by_ : Int) (A : Option Addr) (c : Nat) (U : Option Addr) (u : Nat) (w : World) (hA : Rd dDsp w A c a.ds) (hU : Rd dW w U u wl) (hb : ∀ x ∈ wl, 0 ≤ x ∧ x ≤ 65535) (m0 : 0 ≤ many) (m1 : many ≤ 255) (y0 : 0 ≤ by_) (y1 : by_ ≤ 255) :
    Calls Try.prog 9 #[vAcc a A c, .slice U wl.length u, .int .u8 many, .int .u8 by_] w fun e w' => e = .returned (.bool true) ∧ w.grownBy w' none := by
  refine calls (G := G) (args := [vAcc a A c, .slice U wl.length u, .int .u8 many, .int .u8 by_]) Try.func9 rfl rfl rfl ?_
  refine M.run rfl <| M.nw (cs := [.int .i64 a.stations, .int .i64 a.rate, .int .i64 a.keeps, .slice A a.ds.length c]) rfl fun g1 w1 b1 e1 l1 => M.run rfl <| M.ldA rfl rfl b1.cellsAll <| M.run rfl <| M.cl rfl (ready_go a A c w1 (hA.mv e1)) ?_
  rintro e w2 ⟨⟨th, rfl, hth⟩, e2⟩
  have e02 := gr_trans e1 e2
  cases th with
  | false =>
    refine ⟨_, rfl, M.run rfl <| M.condT rfl rfl <| M.run rfl <| M.cl rfl (awake_go w2) ?_⟩
    rintro e w3 ⟨rfl, e3⟩
    exact ⟨_, rfl, M.run rfl <| M.retF rfl rfl ⟨rfl, gr_trans e02 e3⟩⟩
  | true =>
  have hf := hth rfl
  have ha := fault_ok hf
  have h6 := ha.six
  have h8' : ∀ d ∈ a.ds, d.passed.length ≤ 1000000 := fun d hd => by have := (ha.d d hd).five; omega
  refine ⟨_, rfl, M.run rfl <| M.condF rfl rfl <| M.run rfl <| M.ldA rfl rfl (b1.mv0 e2).cellsAll <| M.nw rfl fun g3 w3 b3 e3 l3 => M.run rfl <| M.store rfl rfl b3 rfl rfl fun w4 b4 e4 => ?_⟩
  replace b4 : Blk w4 g3 [.int .i64 a.stations, .int .i64 a.rate, .int .i64 a.keeps, .slice A a.ds.length c] 24 := b4
  have e24 := gr_fresh e3 e4 l3
  have e14 := gr_trans e2 e24
  have e04 := gr_trans e1 e14
  have b14 := b1.mv0 e14
  have n13 : g1 ≠ g3 := by have := (b1.mv0 e2).lt; omega
  have hg3 : w.heap.size ≤ g3 := Nat.le_trans e02.size l3
  -- the account in another order
  refine M.run rfl <| M.ld rfl (b14.cellsAll.one 3 rfl rfl) <| M.run rfl <| M.cond rfl (fun h => ?_) (fun h => ?_)
  have hn0 : 0 < a.ds.length := by have := of_decide_eq_true h; omega
  have k0 : 0 ≤ by_.tmod (a.ds.length : Int) := by rw [Int.tmod_eq_emod_of_nonneg y0]; exact Int.emod_nonneg _ (by omega)
  have k1 : by_.tmod (a.ds.length : Int) < a.ds.length := by rw [Int.tmod_eq_emod_of_nonneg y0]; exact Int.emod_lt_of_pos _ (by omega)
  refine M.at_ [35] rfl ?_
  rw [w64 (x := by_) (by omega) (by omega)]
  refine M.run rfl <| M.ys (YS.rem rfl (by omega)) ?_
  rw [show by_.tmod (a.ds.length : Int) = (((by_.tmod (a.ds.length : Int)).toNat : Nat) : Int) by omega]
  have hkl : (by_.tmod (a.ds.length : Int)).toNat < a.ds.length := by omega
  generalize (by_.tmod (a.ds.length : Int)).toNat = k at hkl
  have hcap := hA.cap
  refine M.run rfl <| M.draw (K2 g1 g3) (fun _ _ => True) [12] [] [] (fun _ _ _ h => h) (fun w => K2.refl _ _ w) (fun a b c h k => h.trans k) (fun _ _ _ => trivial) (fun _ _ _ _ _ => trivial) (by kernel_rfl) ?_
  have e5 := gr_drewN w4 1
  generalize w4.drewN 1 = w5 at e5
  have e05 := gr_trans e04 e5
  have b15 := b14.mv0 e5
  refine D.run rfl <| D.ld 2 rfl rfl rfl rfl (fun w' hw => (hw.blk1 b15).cellsAll.one 3 rfl rfl) <| D.ys 4 rfl rfl rfl (YS.slc rfl (by omega) (by omega) (by omega)) <| D.ld 7 rfl rfl rfl rfl (fun w' hw => (hw.blk1 b15).cellsAll.one 3 rfl rfl) <| D.ys 9 rfl rfl rfl (YS.slcTo rfl (by omega) (by omega)) ?_
  rw [show (if c = ((k : Nat) : Int).toNat then A else A.map (·.add (((k : Nat) : Int).toNat * 4))) = A.map (·.add (k * dDsp.sz)) by rw [Int.toNat_natCast, if_neg (by omega)]; rfl]
  have hF := fun w' (hw : w5.grownBy w' none) => (hA.sinceF (gr_below (gr_trans e05 hw)) : Sl dDsp w' (· < w.heap.size) A c a.ds)
  have hA1 : A = some (adOf A) := (hA.at_ 0 _ (List.getElem?_eq_getElem hn0)).1
  have l15 := b15.lt
  have l35 := (b4.mv0 e5).lt
  refine D.one 0 rfl rfl <| M.bs0 rfl fun gi w6 b6 e6 l6 => M.run rfl <| M.end_ ⟨.inr (K2.of e6 (by simp) (by simp)), ?_⟩
  have hs1 := (hF w6 e6).drop (k := k) (by omega)
  refine D.one 5 rfl rfl <| M.appS (d := dDsp) rfl rfl (own_bs0 dDsp (fun b => b < w.heap.size) b6 l6) rfl (by decide) rfl (ys := a.ds.drop k) (by rw [List.length_drop]; rfl) (fun h => by rw [hA1] at h; cases h) (rd_srcD (hs1.mono (fun b hb => ⟨hb, fun he => by injection he with he; have he' : b = gi := he; have := e05.size; omega⟩))) e6.size (by rw [List.length_drop]; show (0 + (a.ds.length - k)) * 48 ≤ _; omega) (by decide) fun X1 x1 w7 hX1 e7 hat1 =>
    M.run rfl <| M.end_ ⟨.inr (K2.of e7 (fun h => by injection h with h; have h' : gi = g1 := h; omega) (fun h => by injection h with h; have h' : gi = g3 := h; omega)), ?_⟩
  rw [List.nil_append] at hX1 ⊢
  have e57 := (own_bs0 dDsp (fun b => b < w.heap.size) b6 l6).gr e6 e7 (Nat.le_refl _)
  have hX1g := hX1.blkGe
  have hs2 := (hF w7 e57).take k
  refine D.one 10 rfl rfl <| M.appS (d := dDsp) rfl rfl hX1 rfl (by decide) rfl (ys := a.ds.take k) (by rw [List.length_take, Int.toNat_natCast]; omega) (fun h => by rw [hA1] at h; cases h) (rd_srcD (hs2.mono (fun b hb => ⟨hb, fun he => by have := (hX1g b he.symm).1; have := e05.size; omega⟩))) e57.size (by rw [List.length_drop, List.length_take]; show (a.ds.length - k + min k a.ds.length) * 48 ≤ _; omega) (by decide) fun X2 x2 w8 hX2 e8 hat2 =>
    M.run rfl <| M.end_ ⟨.inr (K2.of e8 (fun h => by have := (hX1g g1 h).1; omega) (fun h => by have := (hX1g g3 h).1; omega)), ?_⟩
  have e58 := hX1.gr e57 e8 (Nat.le_refl _)
  have hX2g := hX2.blkGe
  have n2 : g3 < w5.heap.size := l35
  refine D.run rfl <| D.one 12 rfl rfl <| M.storeA (off := 3) (vs := [.slice X2 (a.ds.drop k ++ a.ds.take k).length x2]) rfl rfl rfl ((b4.mv0 e5).mv0 e58) (by simp) rfl fun w9 b9 e9 => M.run rfl <| M.end_ ⟨.inl ⟨rfl, trivial⟩, D.done_ rfl ?_⟩
  have hX9 : Rd dDsp w9 X2 x2 (a.ds.drop k ++ a.ds.take k) := (hX2.mv1 e9 (fun h => by have := (hX2g g3 (by rw [h]; rfl)).1; omega) (fun h => by have h' : g3 < w.heap.size := h; omega)).rd (by decide)
  obtain ⟨x, hxf, hxb, hxs, hx6, hx8, bx, rx⟩ : ∃ x : Acc, fault x = 0 ∧ (∀ m, bndL x m = bndL a m) ∧ x.stations = a.stations ∧ x.ds.length ≤ 6 ∧ (∀ d ∈ x.ds, d.passed.length ≤ 1000000) ∧ Blk w9 g3 [.int .i64 x.stations, .int .i64 x.rate, .int .i64 x.keeps, .slice X2 x.ds.length x2] 24 ∧ Rd dDsp w9 X2 x2 x.ds :=
    ⟨rotA a k, by rw [rot_fault]; exact hf, rot_bnd a k, rfl, by show (a.ds.drop k ++ a.ds.take k).length ≤ 6; rw [rot_len]; exact h6, fun d hd => by
      rcases List.mem_append.1 hd with hd | hd
      · exact h8' d (List.mem_of_mem_drop hd)
      · exact h8' d (List.mem_of_mem_take hd), b9, hX9⟩
  have e09 : w.grownBy w9 none := gr_fresh (gr_trans e05 e58) e9 hg3
  have b19 := (b15.mv0 e58).mv1 e9 (Ne.symm n13)
  rotate_left
  obtain ⟨w9, hw9⟩ : ∃ w9, w9 = w4 := ⟨_, rfl⟩
  obtain ⟨x, X2, x2, hxf, hxb, hxs, hx6, hx8, bx, rx⟩ : ∃ (x : Acc) (X2 : Option Addr) (x2 : Nat), fault x = 0 ∧ (∀ m, bndL x m = bndL a m) ∧ x.stations = a.stations ∧ x.ds.length ≤ 6 ∧ (∀ d ∈ x.ds, d.passed.length ≤ 1000000) ∧ Blk w9 g3 [.int .i64 x.stations, .int .i64 x.rate, .int .i64 x.keeps, .slice X2 x.ds.length x2] 24 ∧ Rd dDsp w9 X2 x2 x.ds :=
    ⟨a, A, c, hf, fun _ => rfl, rfl, h6, h8', by rw [hw9]; exact b4, by rw [hw9]; exact hA.mv e04⟩
  have e09 : w.grownBy w9 none := by rw [hw9]; exact e04
  have b19 : Blk w9 g1 [.int .i64 a.stations, .int .i64 a.rate, .int .i64 a.keeps, .slice A a.ds.length c] 24 := by rw [hw9]; exact b14
  rw [← hw9]
  all_goals
    have hs1' := ha.one
    have hs7' := ha.seven
    refine M.run rfl <| M.ldA rfl rfl b19.cellsAll <| M.run rfl <| M.cl rfl (Account_go a A c w9 (hA.mv e09) (by omega) h8') ?_
    rintro e wa ⟨P1, p1, rfl, hP1, ea⟩
    refine ⟨_, rfl, M.run rfl <| M.cl rfl (Bounds_go a P1 p1 wa hP1) ?_⟩
    rintro e wb ⟨B1, b1', rfl, hB1, eb⟩
    have e9b := gr_trans ea eb
    refine ⟨_, rfl, M.run rfl <| M.ldA rfl rfl (bx.mv0 e9b).cellsAll <| M.run rfl <| M.cl rfl (Account_go x X2 x2 wb (rx.mv e9b) (by omega) hx8) ?_⟩
    rintro e wc ⟨P2, p2, rfl, hP2, ec⟩
    refine ⟨_, rfl, M.run rfl <| M.cl rfl (Bounds_go x P2 p2 wc hP2) ?_⟩
    rintro e wd ⟨B2, b2', rfl, hB2, ed⟩
    have e9d := gr_trans (gr_trans e9b ec) ed
    have e0d := gr_trans e09 e9d
    have hbx : boundsR x = boundsR a := by rw [boundsR_ok hxf, boundsR_ok hf, hxb, hxs]
    rw [hbx] at hB2 ⊢
    rw [hxf, hf]
    have rB1 : Rd dRng wd B1 b1' (boundsR a) := Rd.mv (hB1.rd (by decide)) (gr_trans ec ed)
    have rB2 : Rd dRng wd B2 b2' (boundsR a) := hB2.rd (by decide)
    have hbl : (boundsR a).length ≤ 7 := by rw [boundsR_ok hf, bndL_len]; omega
    generalize boundsR a = R at hB2 rB1 rB2 hbl
    refine ⟨_, rfl, M.at_ [64] rfl <| M.caseF 64 rfl rfl <| M.at_ [68] rfl <| M.caseF 68 rfl rfl <| M.run rfl <| M.condF rfl (by simp) <| M.run rfl <| M.loop (σ := Nat) (fun s => [(1, .slice U wl.length u), (2, .int .u8 many), (3, .int .u8 by_), (12, .slice B1 R.length b1'), (14, .slice B2 R.length b2'), (16, .int .i64 (s : Int))]) (fun s w' => s ≤ R.length ∧ wd.grownBy w' none) (fun s => R.length - s) 0 ⟨rfl, rfl, rfl, rfl, rfl, rfl, trivial⟩ ⟨Nat.zero_le _, gr_refl _ _⟩ ?_⟩
    rintro s we ⟨hs, ee⟩
    refine M.run rfl <| M.cond rfl (fun h => ?_) (fun h => ?_)
    · have hlt : s < R.length := by have := of_decide_eq_true h; omega
      obtain ⟨hR1, hRc1⟩ := rd_flat rB1 hlt
      obtain ⟨hR2, hRc2⟩ := rd_flat rB2 hlt
      refine M.run rfl <| M.drawG [] (by kernel_rfl) fun wf ef => ?_
      have edf := gr_trans ee ef
      refine D.run rfl <| D.ys 2 rfl rfl rfl (YS.ix rfl (by omega) (by omega) hR1) <| D.ldA 3 rfl rfl rfl rfl rfl (fun w' hw => hRc1 w' (gr_below (gr_trans edf hw))) <| D.ys 6 rfl rfl rfl (YS.ix rfl (by omega) (by omega) hR2) <| D.ldA 7 rfl rfl rfl rfl rfl (fun w' hw => hRc2 w' (gr_below (gr_trans edf hw))) <|
        D.ys 8 rfl rfl rfl (YS.neII (k := .i64) rfl Try.eqGuardType74 Try.underlying74 ⟨rfl, rfl, by decide⟩ ⟨rfl, rfl, by decide⟩ Try.underlying3 Try.stoodInHeld74) <| D.run rfl <| D.done_ rfl <| M.run rfl <| M.condF rfl (by simp) <| M.run rfl <| M.end_ ⟨s + 1, ⟨rfl, rfl, rfl, rfl, rfl, nxt hlt (by omega), trivial⟩, ⟨by omega, edf⟩, by omega⟩
    have e0e := gr_trans e0d ee
    refine M.run rfl <| M.cl rfl (Owed_go wl many U u we (hU.mv e0e) hb m0 m1) ?_
    rintro e wf ⟨l, X, xc, rfl, hX, ef, hl1, hl7⟩
    have e0f := gr_trans e0e ef
    have rX : Rd dI wf X xc l := hX.rd (by decide)
    refine ⟨_, rfl, M.run rfl <| M.cl rfl (BalancesFault_go l X xc wf rX) ?_⟩
    rintro e wg ⟨rfl, eg⟩
    have e0g := gr_trans e0f eg
    refine ⟨_, rfl, M.run rfl <| M.cond rfl (fun h => ?_) (fun h => ?_)⟩
    · refine M.run rfl <| M.cl rfl (awake_go wg) ?_
      rintro e wh ⟨rfl, eh⟩
      exact ⟨_, rfl, M.run rfl <| M.retF rfl rfl ⟨rfl, gr_trans e0g eh⟩⟩
    have hzl : balF l = 0 := by simpa using h
    have rXg : Rd dI wg X xc l := rX.mv eg
    have q0 : 0 ≤ by_.tmod (l.length : Int) := by rw [Int.tmod_eq_emod_of_nonneg y0]; exact Int.emod_nonneg _ (by omega)
    have q1 : by_.tmod (l.length : Int) < l.length := by rw [Int.tmod_eq_emod_of_nonneg y0]; exact Int.emod_lt_of_pos _ (by omega)
    refine M.at_ [98] rfl ?_
    rw [w64 (x := by_) (by omega) (by omega)]
    refine M.run rfl <| M.ys (YS.rem rfl (by omega)) ?_
    rw [show by_.tmod (l.length : Int) = (((by_.tmod (l.length : Int)).toNat : Nat) : Int) by omega]
    have hql : (by_.tmod (l.length : Int)).toNat < l.length := by omega
    generalize (by_.tmod (l.length : Int)).toNat = q at hql
    have hXcap := rXg.cap
    have hX0 : X = some (adOf X) := (rXg.at_ 0 _ (List.getElem?_eq_getElem (show 0 < l.length by omega))).1
    refine M.run rfl <| M.drawN wg.heap.size (by kernel_rfl) fun wh eh => ?_
    refine D.run rfl <| D.ys 2 rfl rfl rfl (YS.slc rfl (by omega) (by omega) (by omega)) <| D.ys 6 rfl rfl rfl (YS.slcTo rfl (by omega) (by omega)) ?_
    rw [show (if xc = ((q : Nat) : Int).toNat then X else X.map (·.add (((q : Nat) : Int).toNat * 1))) = X.map (·.add (q * dI.sz)) by rw [Int.toNat_natCast, if_neg (by omega)]; rfl]
    have rXh : Rd dI wh X xc l := rXg.mv eh
    have hc := list_go (l.drop q) (X.map (·.add (q * dI.sz))) (xc - q) wh (rXh.drop (by omega)) (by rw [List.length_drop]; omega)
    rw [show (l.drop q).length = ((l.length : Int)).toNat - ((q : Nat) : Int).toNat by rw [List.length_drop]; rfl] at hc
    refine D.one 3 rfl rfl <| M.cl rfl hc ?_
    rintro e wi ⟨Q, qc, rfl, hQ, ei⟩
    refine ⟨_, rfl, M.run rfl <| M.end_ ⟨.inr (Keep.of0 ei), ?_⟩⟩
    refine D.one 7 rfl rfl <| M.appS (d := dI) rfl (by rw [List.length_drop]; rfl) hQ rfl (by decide) rfl (ys := l.take q) (by rw [List.length_take, Int.toNat_natCast]; omega) (fun h => by rw [hX0] at h; cases h) (rd_src ((rXh.mv ei).take q)) ei.size (by rw [List.length_drop, List.length_take]; show (l.length - q + min q l.length) * 8 ≤ _; omega) (by decide) fun Z z wj hZ ej hat =>
      M.run rfl <| M.end_ ⟨.inr (Keep.of ej (fun g hg => Nat.le_trans eh.size (hQ.blkGe g hg).1)), ?_⟩
    have ehj := hQ.gr ei ej (Nat.le_refl _)
    have egj := gr_trans eh ehj
    have e0j := gr_trans e0g egj
    have rZ : Rd dI wj Z z (rotL l q) := hZ.rd (by decide)
    refine D.run rfl <| D.done_ rfl <| M.run rfl <| M.cl rfl (list_go l X xc wj (rXg.mv egj) (by omega)) ?_
    rintro e wk ⟨V1, v1, rfl, hV1, ek⟩
    refine ⟨_, rfl, M.run rfl <| M.cl rfl (Settle_go l V1 v1 wk (hV1.rd (by decide))) ?_⟩
    rintro e wl2 ⟨s1, S1, c1, rfl, _, el, _, g1'⟩
    refine ⟨_, rfl, M.run rfl <| M.cl rfl (Settle_go (rotL l q) Z z wl2 (rZ.mv (gr_trans ek el))) ?_⟩
    rintro e wm ⟨s2, S2, c2, rfl, _, em, _, g2'⟩
    have e0m := gr_trans (gr_trans (gr_trans e0j ek) el) em
    have hzr := rotL_bal (k := q) hzl
    have hfew := few_rot hzl (by omega) (g1' hzl) (g2' hzr)
    rw [hzl, hzr]
    refine ⟨_, rfl, M.at_ [123] rfl <| M.caseT 123 rfl rfl <| M.at_ [127] rfl <| M.caseT 127 rfl rfl <| M.at_ [134] rfl <| M.caseT 134 rfl (by simp [hfew]) <| M.run rfl <| M.cl rfl (awake_go wm) ?_⟩
    rintro e wn ⟨rfl, en⟩
    exact ⟨_, rfl, M.run rfl <| M.retF rfl rfl ⟨rfl, gr_trans e0m en⟩⟩
end Go.Proofs.Yteeikpmoboehdaa
end

section
/- The arguments, as they come in: opened to what the walks read. -/
set_option linter.unusedVariables false
namespace Go.Vc
open Go Go.RowKit Go.ChangeShapes Go.WideShapes Go.Deep
section
variable {H : Type} {enc : TypeId × Value → H} {P : Program} {w : World} {base : Nat} {spare : Nat → Bool} {held : Bool}
/-- a slice whose elements lead to other rows -/
theorem open_rowsK {α : Type} {d : Rp α} {t e : TypeId} {ks : List CK} (fuel : Nat) (x0 : α) (hk : flatK P fuel e = some ks) (hdec : ∀ cs, All2 enc P w base spare held ks cs → ∃ x, d.K w (· < w.heap.size) x cs)
    (hsz : P.cellsOf e = d.sz) (hpos : 0 < d.sz) {v : Value} (h : okK enc P w base spare held (.slice t e) v) :
    ∃ A xs c, v = .slice A xs.length c ∧ Sl d w (· < w.heap.size) A c xs := by
  obtain ⟨ht, n, y, hy⟩ := h
  rcases open_slice ht hy with ⟨hcs, _⟩ | ⟨a, len, cap, m, n', _, _, hcs, _, hlc, hcm, hm, _, hi⟩
  · cases hcs
    exact ⟨none, [], 0, rfl, ⟨Nat.le_refl _, Nat.zero_le _, fun j x hj => by simp at hj⟩⟩
  · cases hcs
    have hml : len ≤ m := by rw [hm]; split <;> omega
    have key : ∀ i, ∃ x : α, i < len → ∃ cs', w.cells? base (a.add (i * P.cellsOf e)) (P.cellsOf e) = some cs' ∧ d.K w (· < w.heap.size) x cs' := fun i => by
      by_cases hi' : i < len
      · obtain ⟨cs', h1, h2⟩ := hi i (by omega)
        obtain ⟨x, hx⟩ := hdec _ (flatK_ok fuel e ks hk _ _ _ h2)
        exact ⟨x, fun _ => ⟨cs', h1, hx⟩⟩
      · exact ⟨x0, fun h => absurd h hi'⟩
    let f : Nat → α := fun i => Classical.choose (key i)
    have hf : ∀ i, i < len → ∃ cs', w.cells? base (a.add (i * P.cellsOf e)) (P.cellsOf e) = some cs' ∧ d.K w (· < w.heap.size) (f i) cs' := fun i hi' => Classical.choose_spec (key i) hi'
    refine ⟨some a, (List.range len).map f, cap, by simp, ⟨by simpa using hlc, hcm, fun j x hj => ?_⟩⟩
    have hlt : j < len := by
      have := (List.getElem?_eq_some_iff.1 hj).1
      simpa using this
    have hx : x = f j := by
      rw [List.getElem?_map, List.getElem?_range hlt] at hj
      simpa using hj.symm
    obtain ⟨cs', h1, h2⟩ := hf j hlt
    rw [hsz] at h1
    obtain ⟨_, hlen, hc⟩ := World.cells?_some h1
    have hC : Cells w ((adOf (some a)).add (j * d.sz)) cs' := fun q u hq => by
      have hql : q < d.sz := by rw [← hlen]; exact (List.getElem?_eq_some_iff.1 hq).1
      show w.cell? ((a.add (j * d.sz)).add q) = some u
      rw [hc q hql]; exact hq
    refine ⟨rfl, ?_, cs', by rw [hx]; exact h2, hC⟩
    have := hC.lt (by omega)
    rw [add_block] at this
    exact this
end
end Go.Vc
namespace Go.Proofs.Yteeikpmoboehdaa
open Go Go.Vc Go.RowKit Py Go.ChangeShapes Go.WideShapes Go.ChangeAt
theorem own : ownKnob Try.prog.godebug = none := by kernel_rfl
theorem laidOut : laidOutB Try.prog = true := by kernel_rfl
section
variable {H : Type} {enc : TypeId × Value → H} {w : World} {base : Nat} {spare : Nat → Bool} {held : Bool} {r : Reach} {b0 : Nat} {v : Value} {d : DataW H} {p : List MemPlace}
theorem open_ints {t e : TypeId} (he : flatK Try.prog 8 e = some [.int .i64]) (hc : Try.prog.cellsOf e = 1) (h : okK enc Try.prog w base spare held (.slice t e) v) : ∃ A xs c, v = .slice A xs.length c ∧ Rd dI w A c xs := by
  obtain ⟨A, xs, c, h1, h2, _⟩ := open_rows (α := Int) (en := fun x => [.int .i64 x]) (sz := 1) (hl := fun _ => rfl) (hp := fun _ c h => by simp at h; subst h; rfl) 8 (fun cs => match cs with | [.int _ n] => n | _ => 0) he
    (fun cs h => by
      simp only [All2.cons_iff, All2.nil_iff, okK_int] at h
      obtain ⟨_, _, rfl, ⟨n, rfl, _⟩, rfl⟩ := h
      rfl) hc (by decide) h
  exact ⟨A, xs, c, h1, h2⟩
theorem open_pmts0 {t e : TypeId} (he : flatK Try.prog 8 e = some [.int .i64, .int .i64, .int .i64]) (hc : Try.prog.cellsOf e = 3) (h : okK enc Try.prog w base spare held (.slice t e) v) : ∃ A xs c, v = .slice A xs.length c ∧ Rd dPmt w A c xs := by
  obtain ⟨A, xs, c, h1, h2, _⟩ := open_rows (α := Pmt) (en := encPmt) (sz := 3) (hl := fun _ => rfl) (hp := fun x c h => by simp [encPmt] at h; rcases h with rfl | rfl | rfl <;> rfl) 8
    (fun cs => match cs with | [.int _ a, .int _ b, .int _ c] => ⟨a, b, c⟩ | _ => ⟨0, 0, 0⟩) he
    (fun cs h => by
      simp only [All2.cons_iff, All2.nil_iff, okK_int] at h
      obtain ⟨_, _, rfl, ⟨n0, rfl, _⟩, _, _, rfl, ⟨n1, rfl, _⟩, _, _, rfl, ⟨n2, rfl, _⟩, rfl⟩ := h
      rfl) hc (by decide) h
  exact ⟨A, xs, c, h1, h2⟩
end
end Go.Proofs.Yteeikpmoboehdaa
end

section
/- The parameters, opened one by one. -/
set_option linter.unusedVariables false
set_option maxRecDepth 100000
namespace Go.Proofs.Yteeikpmoboehdaa
open Go Go.Vc Go.RowKit Py Go.ChangeShapes Go.WideShapes Go.ChangeAt

theorem kDsp : flatK Try.prog 8 43 = some [.int .i64, .int .i64, .int .i64, .slice 25 3] := by kernel_rfl
theorem kPmt : flatK Try.prog 8 113 = some [.int .i64, .int .i64, .int .i64] := by kernel_rfl
theorem kInt : flatK Try.prog 8 3 = some [.int .i64] := by kernel_rfl
theorem kInts : flatK Try.prog 8 25 = some [.slice 25 3] := by kernel_rfl
theorem kWord : flatK Try.prog 8 140 = some [.int .u16] := by kernel_rfl
theorem kAcc : flatK Try.prog 8 24 = some [.int .i64, .int .i64, .int .i64, .slice 22 43] := by kernel_rfl
theorem kClaim : flatK Try.prog 8 50 = some [.int .i64, .int .i64, .int .i64] := by kernel_rfl
section
variable {H : Type} {enc : TypeId × Value → H} {w : World} {base : Nat} {spare : Nat → Bool} {held : Bool} {r : Reach} {b0 : Nat} {v : Value} {d : DataW H} {p : List MemPlace}
theorem open_k {t e : TypeId} (ht : Try.prog.underlying t = some (.slice e)) (hv : Value.okWide Try.prog w r b0 t v) (h : DataW.Trod enc Try.prog w base spare held t v d p) : okK enc Try.prog w base spare held (.slice t e) v := by
  obtain ⟨A, l, c, rfl⟩ := okWide_slice ht hv
  obtain ⟨n, hn⟩ := h
  exact ⟨ht, n, _, hn⟩
theorem open_list (hv : Value.okWide Try.prog w r b0 25 v) (h : DataW.Trod enc Try.prog w base spare held 25 v d p) : ∃ A xs c, v = .slice A xs.length c ∧ Rd dI w A c xs :=
  open_ints kInt (by kernel_rfl) (open_k Try.underlying25 hv h)
theorem open_pmts (hv : Value.okWide Try.prog w r b0 56 v) (h : DataW.Trod enc Try.prog w base spare held 56 v d p) : ∃ A xs c, v = .slice A xs.length c ∧ Rd dPmt w A c xs :=
  open_pmts0 kPmt (by kernel_rfl) (open_k Try.underlying56 hv h)
theorem open_lists (hv : Value.okWide Try.prog w r b0 81 v) (h : DataW.Trod enc Try.prog w base spare held 81 v d p) : ∃ A xs c, v = .slice A xs.length c ∧ Rd dL w A c xs :=
  open_rowsK (d := dL) 8 [] kInts (fun cs h => by
    simp only [All2.cons_iff, All2.nil_iff] at h
    obtain ⟨x, _, rfl, hs, rfl⟩ := h
    obtain ⟨A, xs, k, rfl, hr⟩ := open_ints kInt (by kernel_rfl) hs
    exact ⟨xs, A, k, rfl, hr⟩) (by kernel_rfl) (by decide) (open_k Try.underlying81 hv h)
theorem open_dsps (h : okK enc Try.prog w base spare held (.slice 22 43) v) : ∃ A xs c, v = .slice A xs.length c ∧ Rd dDsp w A c xs :=
  open_rowsK (d := dDsp) 8 ⟨0, 0, 0, []⟩ kDsp (fun cs h => by
    simp only [All2.cons_iff, All2.nil_iff, okK_int] at h
    obtain ⟨_, _, rfl, ⟨a, rfl, _⟩, _, _, rfl, ⟨b, rfl, _⟩, _, _, rfl, ⟨c, rfl, _⟩, x, _, rfl, hs, rfl⟩ := h
    obtain ⟨A, xs, k, rfl, hr⟩ := open_ints kInt (by kernel_rfl) hs
    exact ⟨⟨a, b, c, xs⟩, A, k, rfl, hr⟩) (by kernel_rfl) (by decide) h
theorem open_acc (hv : Value.okWide Try.prog w r b0 24 v) (h : DataW.Trod enc Try.prog w base spare held 24 v d p) : ∃ s A c, v = vAcc s A c ∧ Rd dDsp w A c s.ds := by
  obtain ⟨cs, rfl, hh⟩ := open_agg 8 Try.underlying24 kAcc hv h
  simp only [All2.cons_iff, All2.nil_iff, okK_int] at hh
  obtain ⟨_, _, rfl, ⟨a, rfl, _⟩, _, _, rfl, ⟨b, rfl, _⟩, _, _, rfl, ⟨c, rfl, _⟩, x, _, rfl, hs, rfl⟩ := hh
  obtain ⟨A, xs, k, rfl, hr⟩ := open_dsps hs
  exact ⟨⟨a, b, c, xs⟩, A, k, rfl, hr⟩
theorem open_claim (hv : Value.okWide Try.prog w r b0 50 v) (h : DataW.Trod enc Try.prog w base spare held 50 v d p) : ∃ a b c : Int, v = .agg #[.int .i64 a, .int .i64 b, .int .i64 c] := by
  obtain ⟨cs, rfl, hh⟩ := open_agg 8 Try.underlying50 kClaim hv h
  simp only [All2.cons_iff, All2.nil_iff, okK_int] at hh
  obtain ⟨_, _, rfl, ⟨a, rfl, _⟩, _, _, rfl, ⟨b, rfl, _⟩, _, _, rfl, ⟨c, rfl, _⟩, rfl⟩ := hh
  exact ⟨a, b, c, rfl⟩
theorem open_words (hv : Value.okWide Try.prog w r b0 66 v) (h : DataW.Trod enc Try.prog w base spare held 66 v d p) : ∃ A xs c, v = .slice A xs.length c ∧ Rd (Rp.int .u16) w A c xs ∧ ∀ x ∈ xs, 0 ≤ x ∧ x ≤ 65535 := by
  obtain ⟨A, xs, c, h1, h2, h3⟩ := open_rows (α := Int) (en := fun x => [.int .u16 x]) (sz := 1) (hl := fun _ => rfl) (hp := fun _ c h => by simp at h; subst h; rfl) 8 (fun cs => match cs with | [.int _ n] => n | _ => 0) kWord
    (fun cs h => by
      simp only [All2.cons_iff, All2.nil_iff, okK_int] at h
      obtain ⟨_, _, rfl, ⟨n, rfl, _⟩, rfl⟩ := h
      rfl) (by kernel_rfl) (by decide) (open_k Try.underlying66 hv h)
  refine ⟨A, xs, c, h1, h2, fun x hx => ?_⟩
  have := h3 x hx
  simp only [All2.cons_iff, All2.nil_iff, okK_int] at this
  obtain ⟨_, _, e, ⟨n, e2, hw⟩, e3⟩ := this
  cases e; cases e2
  simp [Lit.wf, IntKind.min, IntKind.max, IntKind.bits, IntKind.signed] at hw
  omega
theorem open_u8 (hv : Value.okWide Try.prog w r b0 5 v) (h : DataW.Trod enc Try.prog w base spare held 5 v d p) : ∃ x : Int, v = .int .u8 x ∧ 0 ≤ x ∧ x ≤ 255 := by
  obtain ⟨x, rfl, _, _, hw⟩ := open_int Try.underlying5 hv h
  simp [Lit.wf, IntKind.min, IntKind.max, IntKind.bits, IntKind.signed] at hw
  exact ⟨x, rfl, by omega, by omega⟩
theorem open_i64 (hv : Value.okWide Try.prog w r b0 3 v) (h : DataW.Trod enc Try.prog w base spare held 3 v d p) : ∃ x : Int, v = .int .i64 x := by
  obtain ⟨x, rfl, _, _, hw⟩ := open_int Try.underlying3 hv h
  exact ⟨x, rfl⟩
theorem open_b (hv : Value.okWide Try.prog w r b0 4 v) (h : DataW.Trod enc Try.prog w base spare held 4 v d p) : ∃ x : Bool, v = .bool x := by
  obtain ⟨x, rfl, _⟩ := open_bool Try.underlying4 hv h
  exact ⟨x, rfl⟩
end
end Go.Proofs.Yteeikpmoboehdaa
end

section
/- Index of the walks and of the row openers. -/
end
