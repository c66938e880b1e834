/- A part of the proof: further walks (merged from several texts: YteeikpmoboehdaaMS). -/
import Derived.Test.YteeikpmoboehdaaZ4
set_option linter.unusedVariables false
set_option linter.unusedSimpArgs false
section
/- Walk: the law PayNames (the document's examples, and errors). -/
set_option linter.unusedVariables false
namespace Py
theorem n_shares10 : sharesE twoA 0 10 = 0 ∧ sharesR twoA 0 10 = [12, 9, 9] := by decide +kernel
theorem n_shares11 : sharesE twoA 0 11 = 0 ∧ sharesR twoA 0 11 = [13, 10, 10] := by decide +kernel
theorem n_shares15 : sharesE twoA 0 15 = 2 ∧ sharesR twoA 0 15 = [] := by decide +kernel
theorem n_reach : reachE twoA 0 = 0 ∧ reachR twoA 0 true = [10, 7] := by decide +kernel
theorem n_reach4 : reachE twoA 4 = 2 ∧ reachR twoA 4 true = [] := by decide +kernel
theorem n_groups : balF [-5, 2, 3, 0] = 0 ∧ groupsR [-5, 2, 3, 0] = [[0, 1, 2]] := by decide +kernel
theorem n_zero : balF [0, 0] = 0 ∧ (best [0, 0]).length = 0 ∧ zeros [0, 0] = 2 := by decide +kernel
theorem n_ps2 : proveS owedL [⟨0, 2, 30⟩, ⟨3, 1, 12⟩] 2 = true := by decide +kernel
theorem n_ps1 : proveS owedL [⟨0, 2, 30⟩, ⟨3, 1, 12⟩] 1 = false := by decide +kernel
theorem n_pg1 : proveG owedL [[0, 1, 2, 3]] 1 = true := by decide +kernel
theorem n_pg2 : proveG owedL [[0, 1], [2, 3]] 2 = false := by decide +kernel
theorem n_bal1 : balanceE twoA [10] = 2 ∧ balanceR twoA [10] = [] := by decide +kernel
theorem n_w7 : wordsE twoA 0 0 9 = 7 ∧ wordsR twoA 0 0 9 = [] := by decide +kernel
theorem n_w11 : wordsE twoA 0 2 14 = 11 ∧ wordsR twoA 0 2 14 = [] := by decide +kernel
theorem n_w2 : wordsE twoA 2 2 14 = 2 ∧ wordsR twoA 2 2 14 = [] := by decide +kernel
theorem n_b1 : balF [1, 2] = 1 := by decide +kernel
theorem n_b3 : balF (List.replicate 8 0) = 3 ∧ groupsR (List.replicate 8 0) = [] := by decide +kernel
theorem n_b0 : balF [] = 1 := by decide +kernel
def twiceA : Acc := ⟨4, 3, 10, [⟨0, 10, 14, [2, 2, 3]⟩, ⟨3, 7, 7, [2]⟩]⟩
def nobodyA : Acc := ⟨4, 3, 10, [⟨0, 10, 14, []⟩, ⟨3, 7, 7, [2]⟩]⟩
def wordA : Acc := ⟨4, 3, 10, [⟨0, 0, 14, [1, 2, 3]⟩, ⟨3, 7, 7, [2]⟩]⟩
def manyA : Acc := ⟨8, 3, 10, [⟨0, 10, 14, [1, 2, 3]⟩, ⟨3, 7, 7, [2]⟩]⟩
def passedA : Acc := ⟨4, 3, 10, [⟨0, 10, 14, [0, 1, 2, 3, 0, 1]⟩, ⟨3, 7, 7, [2]⟩]⟩
theorem n_f1 : fault twiceA = 1 := by decide +kernel
theorem n_f2 : fault nobodyA = 1 := by decide +kernel
theorem n_f3 : fault wordA = 1 := by decide +kernel
theorem n_f4 : fault manyA = 3 := by decide +kernel
theorem n_f5 : fault passedA = 3 := by decide +kernel
theorem n_f0 : fault ⟨0, 0, 0, []⟩ = 1 := by decide +kernel
end Py
namespace Go.Proofs.Yteeikpmoboehdaa
open Go Go.Vc Go.RowKit Py
theorem rd_l1 {w : World} {g e : Nat} {P : Option Addr} {x : List Int} {p : Nat} (hB : Blk w g [.slice P x.length p] e) (h : Rd dI w P p x) : Rd dL w (some ⟨g, 0, none⟩) 1 [x] := by
  refine ⟨by simp, by simp [maxLen], fun j y hj => ?_⟩
  rcases j with _ | j
  · simp at hj; subst hj
    exact ⟨rfl, hB.lt, _, ⟨P, p, rfl, h⟩, hB.cells 0 rfl ⟨[], rfl⟩⟩
  · simp at hj
theorem rd_l2 {w : World} {g e : Nat} {P Q : Option Addr} {x y : List Int} {p q : Nat} (hB : Blk w g [.slice P x.length p, .slice Q y.length q] e) (h : Rd dI w P p x) (h2 : Rd dI w Q q y) : Rd dL w (some ⟨g, 0, none⟩) 2 [x, y] := by
  refine ⟨by simp, by simp [maxLen], fun j z hj => ?_⟩
  rcases j with _ | _ | j
  · simp at hj; subst hj
    exact ⟨rfl, hB.lt, _, ⟨P, p, rfl, h⟩, hB.cells 0 rfl ⟨[_], rfl⟩⟩
  · simp at hj; subst hj
    exact ⟨rfl, hB.lt, _, ⟨Q, q, rfl, h2⟩, hB.cells 1 rfl ⟨[], rfl⟩⟩
  · simp at hj
set_option maxHeartbeats 4000000 in
set_option maxRecDepth 100000 in
theorem PayNames_go (w : World) : Calls Try.prog 15 #[] w fun e w' => e = .returned (.bool true) ∧ w.grownBy w' none := by
  refine calls (G := G) (args := []) Try.func15 rfl rfl rfl ?_
  refine M.run rfl <| M.cl rfl (two_go w) ?_
  rintro e w1 ⟨ga, _, _, rfl, ta, e1⟩
  have hc := Shares_go twoA 0 10 (some ⟨ga, 0, none⟩) 2 w1 ta.rd
  rw [n_shares10.1, n_shares10.2] at hc
  refine ⟨_, rfl, M.run rfl <| M.cl rfl hc ?_⟩
  rintro e w2 ⟨S1, s1, rfl, hS1, e2⟩
  refine ⟨_, rfl, M.run rfl <| M.cl rfl (two_go w2) ?_⟩
  rintro e w3 ⟨gb, _, _, rfl, tb, e3⟩
  have hc := Shares_go twoA 0 11 (some ⟨gb, 0, none⟩) 2 w3 tb.rd
  rw [n_shares11.1, n_shares11.2] at hc
  refine ⟨_, rfl, M.run rfl <| M.cl rfl hc ?_⟩
  rintro e w4 ⟨S2, s2, rfl, hS2, e4⟩
  refine ⟨_, rfl, M.run rfl <| M.cl rfl (two_go w4) ?_⟩
  rintro e w5 ⟨gc, _, _, rfl, tc, e5⟩
  have hc := Reach_go twoA 0 true (some ⟨gc, 0, none⟩) 2 w5 tc.rd
  rw [n_reach.1, n_reach.2] at hc
  refine ⟨_, rfl, M.run rfl <| M.cl rfl hc ?_⟩
  rintro e w6 ⟨S3, s3, rfl, hS3, e6⟩
  refine ⟨_, rfl, M.run rfl <| M.bs rfl fun k1 w7 b7 e7 l7 => M.run rfl ?_⟩
  have hc := Groups_go [-5, 2, 3, 0] (some ⟨k1, 0, none⟩) 4 w7 (rd_lit b7 [-5, 2, 3, 0] rfl (by simp [maxLen]))
  rw [n_groups.1, n_groups.2] at hc
  refine M.cl rfl hc ?_
  rintro e w8 ⟨K, kc, rfl, hK, e8⟩
  refine ⟨_, rfl, M.run rfl <| M.bs rfl fun k2 w9 b9 e9 l9 => M.run rfl ?_⟩
  have hc := Settle_go [0, 0] (some ⟨k2, 0, none⟩) 2 w9 (rd_two w9 k2 3 0 0 b9)
  rw [n_zero.1] at hc
  refine M.cl rfl hc ?_
  rintro e wa ⟨ps, Z, z, rfl, _, ea, _, hgood⟩
  have hpl : ps.length = 0 := by
    have := (hgood rfl).len n_zero.1
    have h1 := n_zero.2.1
    have h2 := n_zero.2.2
    have h3 : ([0, 0] : List Int).length = 2 := rfl
    omega
  have f8 := gr_trans (gr_trans e8 e9) ea
  have f6 := gr_trans (gr_trans e6 e7) f8
  have f4 := gr_trans (gr_trans e4 e5) f6
  have f2 := gr_trans (gr_trans e2 e3) f4
  have f0 := gr_trans e1 f2
  have rS1 : Rd dI wa S1 s1 [12, 9, 9] := Rd.mv (hS1.rd (by decide)) (gr_trans e3 f4)
  have rS2 : Rd dI wa S2 s2 [13, 10, 10] := Rd.mv (hS2.rd (by decide)) (gr_trans e5 f6)
  have rS3 : Rd dI wa S3 s3 [10, 7] := Rd.mv (hS3.rd (by decide)) (gr_trans e7 f8)
  obtain ⟨hK1, K0, k0, hK0, hKc0⟩ := rd_el hK (j := 0) (by decide)
  refine ⟨_, rfl, M.at_ [51] rfl <| M.caseF 51 rfl rfl <| M.run rfl <| M.bs rfl fun h1 u1 q1 x1 y1 => M.run rfl <| M.cl rfl (ints_go [12, 9, 9] [12, 9, 9] S1 s1 (some ⟨h1, 0, none⟩) 3 u1 (rS1.mv x1) (rd_lit q1 [_, _, _] rfl (by simp [maxLen]))) ?_⟩
  rintro e u2 ⟨rfl, x2⟩
  have z2 := gr_trans x1 x2
  refine ⟨_, rfl, M.at_ [57] rfl <| M.caseF 57 rfl rfl <| M.at_ [61] rfl <| M.caseF 61 rfl rfl <| M.run rfl <| M.bs rfl fun h3 u3 q3 x3 y3 => M.run rfl <| M.cl rfl (ints_go [13, 10, 10] [13, 10, 10] S2 s2 (some ⟨h3, 0, none⟩) 3 u3 (rS2.mv (gr_trans z2 x3)) (rd_lit q3 [_, _, _] rfl (by simp [maxLen]))) ?_⟩
  rintro e u4 ⟨rfl, x4⟩
  have z4 := gr_trans (gr_trans z2 x3) x4
  refine ⟨_, rfl, M.at_ [67] rfl <| M.caseF 67 rfl rfl <| M.at_ [71] rfl <| M.caseF 71 rfl rfl <| M.run rfl <| M.bs rfl fun h5 u5 q5 x5 y5 => M.run rfl <| M.cl rfl (ints_go [10, 7] [10, 7] S3 s3 (some ⟨h5, 0, none⟩) 2 u5 (rS3.mv (gr_trans z4 x5)) (rd_lit q5 [_, _] rfl (by simp [maxLen]))) ?_⟩
  rintro e u6 ⟨rfl, x6⟩
  have z6 := gr_trans (gr_trans z4 x5) x6
  refine ⟨_, rfl, M.at_ [77] rfl <| M.caseF 77 rfl rfl <| M.at_ [81] rfl <| M.caseF 81 rfl rfl <| M.at_ [86] rfl <| M.caseF 86 rfl rfl <| M.run rfl <| M.ys (YS.ix rfl (by decide) (by decide) hK1) <| M.ld rfl ((hKc0 u6 (gr_below (gr_trans (gr_trans e9 ea) z6))).one 0 rfl rfl) <| M.bs rfl fun h7 u7 q7 x7 y7 => M.run rfl <| M.cl rfl (ints_go [0, 1, 2] [0, 1, 2] K0 k0 (some ⟨h7, 0, none⟩) 3 u7 (hK0.mv (gr_trans (gr_trans (gr_trans e9 ea) z6) x7)) (rd_lit q7 [_, _, _] rfl (by simp [maxLen]))) ?_⟩
  rintro e u8 ⟨rfl, x8⟩
  have z8 := gr_trans (gr_trans z6 x7) x8
  refine ⟨_, rfl, M.at_ [94] rfl <| M.caseF 94 rfl rfl <| M.at_ [98] rfl <| M.caseF 98 rfl rfl <| M.at_ [103] rfl <| M.caseF 103 rfl (by rw [hpl]; rfl) <| M.run rfl <| M.cl rfl (owed_go u8) ?_⟩
  rintro e u9 ⟨O1, rfl, hO1, x9⟩
  refine ⟨_, rfl, M.run rfl <| M.bs rfl fun ha ua qa xa ya => M.run rfl ?_⟩
  have hc := ProveSettled_go owedL [⟨0, 2, 30⟩, ⟨3, 1, 12⟩] 2 O1 4 (some ⟨ha, 0, none⟩) 2 ua (hO1.mv xa) (rd_lit qa ([⟨0, 2, 30⟩, ⟨3, 1, 12⟩] : List Pmt) rfl (by simp [maxLen])) (by simp)
  rw [n_ps2] at hc
  refine M.cl rfl hc ?_
  rintro e ub ⟨rfl, xb⟩
  have zb := gr_trans (gr_trans (gr_trans z8 x9) xa) xb
  refine ⟨_, rfl, M.at_ [111] rfl <| M.caseF 111 rfl rfl <| M.run rfl <| M.cl rfl (owed_go ub) ?_⟩
  rintro e uc ⟨O2, rfl, hO2, xc⟩
  refine ⟨_, rfl, M.run rfl <| M.bs rfl fun hd ud qd xd yd => M.run rfl ?_⟩
  have hc := ProveSettled_go owedL [⟨0, 2, 30⟩, ⟨3, 1, 12⟩] 1 O2 4 (some ⟨hd, 0, none⟩) 2 ud (hO2.mv xd) (rd_lit qd ([⟨0, 2, 30⟩, ⟨3, 1, 12⟩] : List Pmt) rfl (by simp [maxLen])) (by simp)
  rw [n_ps1] at hc
  refine M.cl rfl hc ?_
  rintro e ue ⟨rfl, xe⟩
  have ze := gr_trans (gr_trans (gr_trans zb xc) xd) xe
  refine ⟨_, rfl, M.at_ [118] rfl <| M.caseF 118 rfl rfl <| M.run rfl <| M.cl rfl (owed_go ue) ?_⟩
  rintro e uf ⟨O3, rfl, hO3, xf⟩
  refine ⟨_, rfl, M.run rfl <| M.bs rfl fun hg ug qg xg yg => M.run rfl <| M.bs rfl fun hh uh qh xh yh => M.run rfl ?_⟩
  have hc := ProveGroups_go owedL [[0, 1, 2, 3]] 1 O3 4 (some ⟨hh, 0, none⟩) 1 uh (hO3.mv (gr_trans xg xh)) (rd_l1 (x := [0, 1, 2, 3]) qh (rd_lit (qg.mv0 xh) [0, 1, 2, 3] rfl (by simp [maxLen]))) (by simp)
  rw [n_pg1] at hc
  refine M.cl rfl hc ?_
  rintro e ui ⟨rfl, xi⟩
  have zi := gr_trans (gr_trans (gr_trans (gr_trans ze xf) xg) xh) xi
  refine ⟨_, rfl, M.at_ [125] rfl <| M.caseF 125 rfl rfl <| M.run rfl <| M.cl rfl (owed_go ui) ?_⟩
  rintro e uj ⟨O4, rfl, hO4, xj⟩
  refine ⟨_, rfl, M.run rfl <| M.bs rfl fun hk uk qk xk yk => M.run rfl <| M.bs rfl fun hl ul ql xl yl => M.run rfl <| M.bs rfl fun hm um qm xm ym => M.run rfl ?_⟩
  have hc := ProveGroups_go owedL [[0, 1], [2, 3]] 2 O4 4 (some ⟨hm, 0, none⟩) 2 um (hO4.mv (gr_trans (gr_trans xk xl) xm)) (rd_l2 (x := [0, 1]) (y := [2, 3]) qm (rd_lit ((qk.mv0 xl).mv0 xm) [0, 1] rfl (by simp [maxLen])) (rd_lit (ql.mv0 xm) [2, 3] rfl (by simp [maxLen]))) (by simp)
  rw [n_pg2] at hc
  refine M.cl rfl hc ?_
  rintro e un ⟨rfl, xn⟩
  have zn := gr_trans (gr_trans (gr_trans (gr_trans (gr_trans zi xj) xk) xl) xm) xn
  have f0n := gr_trans f0 zn
  refine ⟨_, rfl, M.run rfl <| M.condF rfl rfl ?_⟩
  -- errors
  refine M.run rfl <| M.cl rfl (two_go un) ?_
  rintro e v1 ⟨g1, _, _, rfl, t1, e1⟩
  have hc := Shares_go twoA 0 15 (some ⟨g1, 0, none⟩) 2 v1 t1.rd
  rw [n_shares15.1, n_shares15.2] at hc
  refine ⟨_, rfl, M.run rfl <| M.cl rfl hc ?_⟩
  rintro e v2 ⟨_, _, rfl, _, e2⟩
  refine ⟨_, rfl, M.run rfl <| M.cl rfl (two_go v2) ?_⟩
  rintro e v3 ⟨g3, _, _, rfl, t3, e3⟩
  refine ⟨_, rfl, M.run rfl <| M.bs rfl fun j4 v4 b4 e4 l4 => M.run rfl ?_⟩
  have hc := Balance_go twoA [10] (some ⟨g3, 0, none⟩) 2 (some ⟨j4, 0, none⟩) 1 v4 (t3.rd.mv e4) (rd_lit b4 [10] rfl (by simp [maxLen]))
  rw [n_bal1.1, n_bal1.2] at hc
  refine M.cl rfl hc ?_
  rintro e v5 ⟨_, _, rfl, _, e5⟩
  refine ⟨_, rfl, M.run rfl <| M.cl rfl (two_go v5) ?_⟩
  rintro e v6 ⟨g6, _, _, rfl, t6, e6⟩
  have hc := Reach_go twoA 4 true (some ⟨g6, 0, none⟩) 2 v6 t6.rd
  rw [n_reach4.1, n_reach4.2] at hc
  refine ⟨_, rfl, M.run rfl <| M.cl rfl hc ?_⟩
  rintro e v7 ⟨_, _, rfl, _, e7⟩
  have p7 := gr_trans (gr_trans (gr_trans (gr_trans (gr_trans (gr_trans e1 e2) e3) e4) e5) e6) e7
  refine ⟨_, rfl, M.run rfl <| M.cl rfl (two_go v7) ?_⟩
  rintro e v8 ⟨g8, _, _, rfl, t8, e8⟩
  have hc := Words_go twoA 0 0 9 (some ⟨g8, 0, none⟩) 2 v8 t8.rd
  rw [n_w7.1, n_w7.2] at hc
  refine ⟨_, rfl, M.run rfl <| M.cl rfl hc ?_⟩
  rintro e v9 ⟨_, _, rfl, _, e9⟩
  refine ⟨_, rfl, M.run rfl <| M.cl rfl (two_go v9) ?_⟩
  rintro e va ⟨gA, _, _, rfl, tA, ea⟩
  have hc := Words_go twoA 0 2 14 (some ⟨gA, 0, none⟩) 2 va tA.rd
  rw [n_w11.1, n_w11.2] at hc
  refine ⟨_, rfl, M.run rfl <| M.cl rfl hc ?_⟩
  rintro e vb ⟨_, _, rfl, _, eb⟩
  refine ⟨_, rfl, M.run rfl <| M.cl rfl (two_go vb) ?_⟩
  rintro e vc ⟨gC, _, _, rfl, tC, ec⟩
  have hc := Words_go twoA 2 2 14 (some ⟨gC, 0, none⟩) 2 vc tC.rd
  rw [n_w2.1, n_w2.2] at hc
  refine ⟨_, rfl, M.run rfl <| M.cl rfl hc ?_⟩
  rintro e vd ⟨_, _, rfl, _, ed⟩
  have pd := gr_trans (gr_trans (gr_trans (gr_trans (gr_trans (gr_trans p7 e8) e9) ea) eb) ec) ed
  refine ⟨_, rfl, M.run rfl <| M.bs rfl fun je ve be ee le => M.run rfl ?_⟩
  have hc := Settle_go [1, 2] (some ⟨je, 0, none⟩) 2 ve (rd_two ve je 3 1 2 be)
  rw [n_b1] at hc
  refine M.cl rfl hc ?_
  rintro e vf ⟨_, _, _, rfl, _, ef, _, _⟩
  refine ⟨_, rfl, M.run rfl <| M.mk_ rfl (by decide) (by decide) (by decide) (by decide) rfl fun jg vg bg eg lg => M.run rfl ?_⟩
  have hc := Groups_go (List.replicate 8 0) (some ⟨jg, 0, none⟩) 8 vg (rd_lit bg (List.replicate 8 0) rfl (by simp [maxLen]))
  rw [n_b3.1, n_b3.2] at hc
  refine M.cl rfl hc ?_
  rintro e vh ⟨_, _, rfl, _, eh⟩
  have hc := Settle_go [] none 0 vh (rd_empty dI vh)
  rw [n_b0] at hc
  refine ⟨_, rfl, M.run rfl <| M.cl rfl hc ?_⟩
  rintro e vi ⟨_, _, _, rfl, _, ei, _, _⟩
  have pi := gr_trans (gr_trans (gr_trans (gr_trans (gr_trans pd ee) ef) eg) eh) ei
  have f0i := gr_trans f0n pi
  clear e1 e2 e3 e4 e5 e6 e7 e8 e9 ea eb ec ed ee ef eg eh ei
  clear p7 pd pi zn zi ze zb z8 z6 z4 z2
  refine ⟨_, rfl, M.run rfl <| M.cl rfl (two_go vi) ?_⟩
  rintro e w1 ⟨a1, b1, c1, rfl, T1, e1⟩
  refine ⟨_, rfl, M.run rfl <| M.cl rfl (two_go w1) ?_⟩
  rintro e w2 ⟨a2, b2, c2, rfl, T2, e2⟩
  refine ⟨_, rfl, M.run rfl <| M.cl rfl (two_go w2) ?_⟩
  rintro e w3 ⟨a3, b3, c3, rfl, T3, e3⟩
  refine ⟨_, rfl, M.run rfl <| M.cl rfl (two_go w3) ?_⟩
  rintro e w4 ⟨a4, b4, c4, rfl, T4, e4⟩
  refine ⟨_, rfl, M.run rfl <| M.cl rfl (two_go w4) ?_⟩
  rintro e w5 ⟨a5, b5, c5, rfl, T5, e5⟩
  refine ⟨_, rfl, M.run rfl <| M.nw rfl fun h1 u1 B1 x1 y1 => M.run rfl <| M.nw rfl fun h2 u2 B2 x2 y2 => M.run rfl <| M.nw rfl fun h3 u3 B3 x3 y3 => M.run rfl <| M.nw rfl fun h4 u4 B4 x4 y4 => M.run rfl <| M.nw rfl fun h5 u5 B5 x5 y5 => M.run rfl ?_⟩
  have a1l := T1.l; have b1l := T1.l1; have c1l := T1.l2; have a1t := T1.b.lt; have b1t := T1.b1.lt; have c1t := T1.b2.lt; have ab1 := T1.b.ne T1.b1 (by decide); have ac1 := T1.b.ne T1.b2 (by decide)
  have h1t := B1.lt; have e1s := e1.size; have x1s := x1.size
  have a2l := T2.l; have b2l := T2.l1; have c2l := T2.l2; have a2t := T2.b.lt; have b2t := T2.b1.lt; have c2t := T2.b2.lt; have ab2 := T2.b.ne T2.b1 (by decide); have ac2 := T2.b.ne T2.b2 (by decide)
  have h2t := B2.lt; have e2s := e2.size; have x2s := x2.size
  have a3l := T3.l; have b3l := T3.l1; have c3l := T3.l2; have a3t := T3.b.lt; have b3t := T3.b1.lt; have c3t := T3.b2.lt; have ab3 := T3.b.ne T3.b1 (by decide); have ac3 := T3.b.ne T3.b2 (by decide)
  have h3t := B3.lt; have e3s := e3.size; have x3s := x3.size
  have a4l := T4.l; have b4l := T4.l1; have c4l := T4.l2; have a4t := T4.b.lt; have b4t := T4.b1.lt; have c4t := T4.b2.lt; have ab4 := T4.b.ne T4.b1 (by decide); have ac4 := T4.b.ne T4.b2 (by decide)
  have h4t := B4.lt; have e4s := e4.size; have x4s := x4.size
  have a5l := T5.l; have b5l := T5.l1; have c5l := T5.l2; have a5t := T5.b.lt; have b5t := T5.b1.lt; have c5t := T5.b2.lt; have ab5 := T5.b.ne T5.b1 (by decide); have ac5 := T5.b.ne T5.b2 (by decide)
  have h5t := B5.lt; have e5s := e5.size; have x5s := x5.size
  have e15 := gr_trans (gr_trans (gr_trans (gr_trans e1 e2) e3) e4) e5
  have x15 := gr_trans (gr_trans (gr_trans (gr_trans x1 x2) x3) x4) x5
  have v5u := gr_trans e15 x15
  have A1' := (((((T1.b.mv0 e2).mv0 e3).mv0 e4).mv0 e5).mv0 x15)
  have B1' := (((((T1.b1.mv0 e2).mv0 e3).mv0 e4).mv0 e5).mv0 x15)
  have C1' := (((((T1.b2.mv0 e2).mv0 e3).mv0 e4).mv0 e5).mv0 x15)
  have A2' := ((((T2.b.mv0 e3).mv0 e4).mv0 e5).mv0 x15)
  have B2' := ((((T2.b1.mv0 e3).mv0 e4).mv0 e5).mv0 x15)
  have C2' := ((((T2.b2.mv0 e3).mv0 e4).mv0 e5).mv0 x15)
  have A3' := (((T3.b.mv0 e4).mv0 e5).mv0 x15)
  have B3' := (((T3.b1.mv0 e4).mv0 e5).mv0 x15)
  have C3' := (((T3.b2.mv0 e4).mv0 e5).mv0 x15)
  have A4' := ((T4.b.mv0 e5).mv0 x15)
  have B4' := ((T4.b1.mv0 e5).mv0 x15)
  have C4' := ((T4.b2.mv0 e5).mv0 x15)
  have A5' := (T5.b.mv0 x15)
  have B5' := (T5.b1.mv0 x15)
  have C5' := (T5.b2.mv0 x15)
  have H1 := ((((B1.mv0 x2).mv0 x3).mv0 x4).mv0 x5)
  have H2 := (((B2.mv0 x3).mv0 x4).mv0 x5)
  have H3 := ((B3.mv0 x4).mv0 x5)
  have H4 := (B4.mv0 x5)
  have H5 := B5
  clear B1 B2 B3 B4 B5
  refine M.store rfl rfl H1 rfl rfl fun p1 D1 s1 => M.run rfl ?_
  replace D1 : Blk p1 h1 [.int .i64 4, .int .i64 3, .int .i64 10, .slice (some ⟨a1, 0, none⟩) 2 2] 32 := D1
  refine M.store rfl rfl (H2.mv1 s1 (by omega)) rfl rfl fun p2 D2 s2 => M.run rfl ?_
  replace D2 : Blk p2 h2 [.int .i64 4, .int .i64 3, .int .i64 10, .slice (some ⟨a2, 0, none⟩) 2 2] 32 := D2
  refine M.store rfl rfl ((H3.mv1 s1 (by omega)).mv1 s2 (by omega)) rfl rfl fun p3 D3 s3 => M.run rfl ?_
  replace D3 : Blk p3 h3 [.int .i64 4, .int .i64 3, .int .i64 10, .slice (some ⟨a3, 0, none⟩) 2 2] 32 := D3
  refine M.store rfl rfl (((H4.mv1 s1 (by omega)).mv1 s2 (by omega)).mv1 s3 (by omega)) rfl rfl fun p4 D4 s4 => M.run rfl ?_
  replace D4 : Blk p4 h4 [.int .i64 4, .int .i64 3, .int .i64 10, .slice (some ⟨a4, 0, none⟩) 2 2] 32 := D4
  refine M.store rfl rfl ((((H5.mv1 s1 (by omega)).mv1 s2 (by omega)).mv1 s3 (by omega)).mv1 s4 (by omega)) rfl rfl fun p5 D5 s5 => M.run rfl ?_
  replace D5 : Blk p5 h5 [.int .i64 4, .int .i64 3, .int .i64 10, .slice (some ⟨a5, 0, none⟩) 2 2] 32 := D5
  have E1 := ((((D1.mv1 s2 (by omega)).mv1 s3 (by omega)).mv1 s4 (by omega)).mv1 s5 (by omega))
  have E2 := (((D2.mv1 s3 (by omega)).mv1 s4 (by omega)).mv1 s5 (by omega))
  have E3 := ((D3.mv1 s4 (by omega)).mv1 s5 (by omega))
  have E4 := (D4.mv1 s5 (by omega))
  have E5 := D5
  have mvP : ∀ {g : Nat} {cs : List Value} {t : Nat}, Blk u5 g cs t → g < w5.heap.size → Blk p5 g cs t := fun B hg => ((((B.mv1 s1 (by omega)).mv1 s2 (by omega)).mv1 s3 (by omega)).mv1 s4 (by omega)).mv1 s5 (by omega)
  have A1p := mvP A1' (by omega)
  have B1p := mvP B1' (by omega)
  have C1p := mvP C1' (by omega)
  have A2p := mvP A2' (by omega)
  have B2p := mvP B2' (by omega)
  have C2p := mvP C2' (by omega)
  have A3p := mvP A3' (by omega)
  have B3p := mvP B3' (by omega)
  have C3p := mvP C3' (by omega)
  have A4p := mvP A4' (by omega)
  have B4p := mvP B4' (by omega)
  have C4p := mvP C4' (by omega)
  have A5p := mvP A5' (by omega)
  have B5p := mvP B5' (by omega)
  have C5p := mvP C5' (by omega)
  have u5p : vi.grownBy p5 none := gr_fresh (gr_fresh (gr_fresh (gr_fresh (gr_fresh v5u s1 (by omega)) s2 (by omega)) s3 (by omega)) s4 (by omega)) s5 (by omega)
  have bc1 : b1 ≠ c1 := fun h => by
    have q1 := T1.b1
    have q2 := T1.b2
    rw [h] at q1
    unfold Blk at q1 q2
    rw [q1] at q2
    simp at q2
  refine M.ld rfl (E1.cellsAll.one 3 rfl rfl) <| M.run rfl <| M.ys (YS.ix rfl (by decide) (by decide) rfl) <| M.run rfl <| M.ld (v := .slice (some ⟨b1, 0, none⟩) 3 3) rfl (A1p.cellsAll.one 3 rfl rfl) <| M.run rfl <| M.ys (YS.ix rfl (by decide) (by decide) rfl) <| M.run rfl <| M.store (g := b1) (off := 0) rfl rfl B1p rfl rfl fun q1 F1 m1 => ?_
  replace F1 : Blk q1 b1 [.int .i64 2, .int .i64 2, .int .i64 3] 3 := F1
  refine M.run rfl <| M.ld rfl ((E2.mv1 m1 (by omega)).cellsAll.one 3 rfl rfl) <| M.run rfl <| M.ys (YS.ix rfl (by decide) (by decide) rfl) <| M.run rfl <| M.store (g := a2) (off := 3) rfl rfl (A2p.mv1 m1 (by omega)) rfl rfl fun q2 F2 m2 => ?_
  replace F2 : Blk q2 a2 (encDsp ⟨0, 10, 14, []⟩ none 0 ++ encDsp ⟨3, 7, 7, [2]⟩ (some ⟨c2, 0, none⟩) 1) 93 := F2
  refine M.run rfl <| M.ld rfl (((E3.mv1 m1 (by omega)).mv1 m2 (by omega)).cellsAll.one 3 rfl rfl) <| M.run rfl <| M.ys (YS.ix rfl (by decide) (by decide) rfl) <| M.run rfl <| M.store (g := a3) (off := 1) rfl rfl ((A3p.mv1 m1 (by omega)).mv1 m2 (by omega)) rfl rfl fun q3 F3 m3 => ?_
  replace F3 : Blk q3 a3 (encDsp ⟨0, 0, 14, [1, 2, 3]⟩ (some ⟨b3, 0, none⟩) 3 ++ encDsp ⟨3, 7, 7, [2]⟩ (some ⟨c3, 0, none⟩) 1) 93 := F3
  refine M.run rfl <| M.store (g := h4) (off := 0) rfl rfl (((E4.mv1 m1 (by omega)).mv1 m2 (by omega)).mv1 m3 (by omega)) rfl rfl fun q4 F4 m4 => ?_
  replace F4 : Blk q4 h4 [.int .i64 8, .int .i64 3, .int .i64 10, .slice (some ⟨a4, 0, none⟩) 2 2] 32 := F4
  refine M.run rfl <| M.ld rfl ((((E5.mv1 m1 (by omega)).mv1 m2 (by omega)).mv1 m3 (by omega)).mv1 m4 (by omega) |>.cellsAll.one 3 rfl rfl) <| M.run rfl <| M.bs rfl fun gx q5 X m5 yx => M.run rfl <| M.ys (YS.ix rfl (by decide) (by decide) rfl) <| M.run rfl <| M.store (g := a5) (off := 3) rfl rfl (((((A5p.mv1 m1 (by omega)).mv1 m2 (by omega)).mv1 m3 (by omega)).mv1 m4 (by omega)).mv0 m5) rfl rfl fun q6 F5 m6 => ?_
  replace F5 : Blk q6 a5 (encDsp ⟨0, 10, 14, [0, 1, 2, 3, 0, 1]⟩ (some ⟨gx, 0, none⟩) 6 ++ encDsp ⟨3, 7, 7, [2]⟩ (some ⟨c5, 0, none⟩) 1) 93 := F5
  have mvQ : ∀ {g : Nat} {cs : List Value} {t : Nat}, Blk p5 g cs t → b1 ≠ g → a2 ≠ g → a3 ≠ g → h4 ≠ g → a5 ≠ g → Blk q6 g cs t := fun B n1 n2 n3 n4 n5 => (((((B.mv1 m1 n1).mv1 m2 n2).mv1 m3 n3).mv1 m4 n4).mv0 m5).mv1 m6 n5
  have sX : u5.heap.size ≤ gx := by
    have := s1.size; have := s2.size; have := s3.size; have := s4.size; have := s5.size; have := m1.size; have := m2.size; have := m3.size; have := m4.size; omega
  have R1 : Rd dDsp q6 (some ⟨a1, 0, none⟩) 2 twiceA.ds := rd_dsp2 (mvQ A1p (by omega) (by omega) (by omega) (by omega) (by omega)) (rd_lit (((((F1.mv1 m2 (by omega)).mv1 m3 (by omega)).mv1 m4 (by omega)).mv0 m5).mv1 m6 (by omega)) [2, 2, 3] rfl (by simp [maxLen])) (rd_lit (mvQ C1p (by omega) (by omega) (by omega) (by omega) (by omega)) [2] rfl (by simp [maxLen]))
  have R2 : Rd dDsp q6 (some ⟨a2, 0, none⟩) 2 nobodyA.ds := rd_dsp2 ((((F2.mv1 m3 (by omega)).mv1 m4 (by omega)).mv0 m5).mv1 m6 (by omega)) (rd_empty dI q6) (rd_lit (mvQ C2p (by omega) (by omega) (by omega) (by omega) (by omega)) [2] rfl (by simp [maxLen]))
  have R3 : Rd dDsp q6 (some ⟨a3, 0, none⟩) 2 wordA.ds := rd_dsp2 (((F3.mv1 m4 (by omega)).mv0 m5).mv1 m6 (by omega)) (rd_lit (mvQ B3p (by omega) (by omega) (by omega) (by omega) (by omega)) [1, 2, 3] rfl (by simp [maxLen])) (rd_lit (mvQ C3p (by omega) (by omega) (by omega) (by omega) (by omega)) [2] rfl (by simp [maxLen]))
  have R4 : Rd dDsp q6 (some ⟨a4, 0, none⟩) 2 manyA.ds := rd_dsp2 (mvQ A4p (by omega) (by omega) (by omega) (by omega) (by omega)) (rd_lit (mvQ B4p (by omega) (by omega) (by omega) (by omega) (by omega)) [1, 2, 3] rfl (by simp [maxLen])) (rd_lit (mvQ C4p (by omega) (by omega) (by omega) (by omega) (by omega)) [2] rfl (by simp [maxLen]))
  have R5 : Rd dDsp q6 (some ⟨a5, 0, none⟩) 2 passedA.ds := rd_dsp2 F5 (rd_lit (X.mv1 m6 (by omega)) [0, 1, 2, 3, 0, 1] rfl (by simp [maxLen])) (rd_lit (mvQ C5p (by omega) (by omega) (by omega) (by omega) (by omega)) [2] rfl (by simp [maxLen]))
  have G1 := mvQ E1 (by omega) (by omega) (by omega) (by omega) (by omega)
  have G2 := mvQ E2 (by omega) (by omega) (by omega) (by omega) (by omega)
  have G3 := mvQ E3 (by omega) (by omega) (by omega) (by omega) (by omega)
  have G4 := (F4.mv0 m5).mv1 m6 (by omega)
  have G5 := mvQ E5 (by omega) (by omega) (by omega) (by omega) (by omega)
  have vq : vi.grownBy q6 none := gr_fresh (gr_trans (gr_fresh (gr_fresh (gr_fresh (gr_fresh u5p m1 (by omega)) m2 (by omega)) m3 (by omega)) m4 (by omega)) m5) m6 (by omega)
  have f0q := gr_trans f0i vq
  refine M.at_ [208] rfl <| M.caseT 208 rfl rfl <| M.at_ [212] rfl <| M.caseT 212 rfl rfl <| M.at_ [216] rfl <| M.caseT 216 rfl rfl <| M.at_ [220] rfl <| M.caseT 220 rfl rfl <| M.at_ [224] rfl <| M.caseT 224 rfl rfl <| M.at_ [228] rfl <| M.caseT 228 rfl rfl <| M.at_ [232] rfl <| M.caseT 232 rfl rfl <| M.at_ [236] rfl <| M.caseT 236 rfl rfl <| M.at_ [240] rfl <| M.caseT 240 rfl rfl ?_

  have hc := CheckAccount_go twiceA (some ⟨a1, 0, none⟩) 2 q6 R1
  rw [n_f1] at hc
  refine M.run rfl <| M.ldA rfl rfl G1.cellsAll <| M.run rfl <| M.cl rfl hc ?_
  rintro e r1 ⟨rfl, d1⟩
  refine ⟨_, rfl, M.at_ [245] rfl <| M.caseT 245 rfl rfl ?_⟩
  have hc := CheckAccount_go nobodyA (some ⟨a2, 0, none⟩) 2 r1 (R2.mv d1)
  rw [n_f2] at hc
  refine M.run rfl <| M.ldA rfl rfl (G2.mv0 d1).cellsAll <| M.run rfl <| M.cl rfl hc ?_
  rintro e r2 ⟨rfl, d2⟩
  have d12 := gr_trans d1 d2
  refine ⟨_, rfl, M.at_ [250] rfl <| M.caseT 250 rfl rfl ?_⟩
  have hc := CheckAccount_go wordA (some ⟨a3, 0, none⟩) 2 r2 (R3.mv d12)
  rw [n_f3] at hc
  refine M.run rfl <| M.ldA rfl rfl (G3.mv0 d12).cellsAll <| M.run rfl <| M.cl rfl hc ?_
  rintro e r3 ⟨rfl, d3⟩
  have d13 := gr_trans d12 d3
  refine ⟨_, rfl, M.at_ [255] rfl <| M.caseT 255 rfl rfl ?_⟩
  have hc := CheckAccount_go manyA (some ⟨a4, 0, none⟩) 2 r3 (R4.mv d13)
  rw [n_f4] at hc
  refine M.run rfl <| M.ldA rfl rfl (G4.mv0 d13).cellsAll <| M.run rfl <| M.cl rfl hc ?_
  rintro e r4 ⟨rfl, d4⟩
  have d14 := gr_trans d13 d4
  refine ⟨_, rfl, M.at_ [260] rfl <| M.caseT 260 rfl rfl ?_⟩
  have hc := CheckAccount_go passedA (some ⟨a5, 0, none⟩) 2 r4 (R5.mv d14)
  rw [n_f5] at hc
  refine M.run rfl <| M.ldA rfl rfl (G5.mv0 d14).cellsAll <| M.run rfl <| M.cl rfl hc ?_
  rintro e r5 ⟨rfl, d5⟩
  have d15 := gr_trans d14 d5
  refine ⟨_, rfl, M.at_ [265] rfl <| M.caseT 265 rfl rfl ?_⟩
  have hc := CheckAccount_go ⟨0, 0, 0, []⟩ none 0 r5 (rd_empty dDsp r5)
  rw [n_f0] at hc
  refine M.run rfl <| M.cl rfl hc ?_
  rintro e r6 ⟨rfl, d6⟩
  refine ⟨_, rfl, M.at_ [270] rfl <| M.caseT 270 rfl rfl <| M.run rfl <| M.cl rfl (awake_go r6) ?_⟩
  rintro e r7 ⟨rfl, d7⟩
  exact ⟨_, rfl, M.run rfl <| M.retF rfl rfl ⟨rfl, gr_trans (gr_trans (gr_trans f0q d15) d6) d7⟩⟩
end Go.Proofs.Yteeikpmoboehdaa
end
