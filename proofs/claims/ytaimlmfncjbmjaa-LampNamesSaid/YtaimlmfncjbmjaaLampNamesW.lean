/- Walk of the law LampNames. -/
import Derived.Test.YtaimlmfncjbmjaaLampNamesE
set_option linter.unusedVariables false
namespace Go.Proofs.Ytaimlmfncjbmjaa
open Go Go.Vc Go.RowKit Lp
theorem tankB_go (w : World) : Calls Try.prog 55 #[] w fun e w' => ∃ g, e = .returned (vStore tankS (some ⟨g, 0, none⟩) 2) ∧ Blk w' g (tankS.nights.flatMap encNight) 105 ∧ w.heap.size ≤ g ∧ w.grownBy w' none := by
  refine calls (G := G) (args := []) Try.func55 rfl rfl rfl ?_
  refine M.run rfl (M.nw rfl fun g1 w1 b1 e1 l1 => M.run rfl (M.cl rfl (between_go 20 30 w1) ?_))
  rintro e w2 ⟨rfl, e2⟩
  refine ⟨_, rfl, M.run rfl (M.cl rfl (between_go 2 3 w2) ?_)⟩
  rintro e w3 ⟨rfl, e3⟩
  refine ⟨_, rfl, M.run rfl (M.cl rfl (between_go 2 2 w3) ?_)⟩
  rintro e w4 ⟨rfl, e4⟩
  refine ⟨_, rfl, M.run rfl (M.bs rfl fun g5 w5 b5 e5 l5 => M.run rfl (M.store rfl rfl ((((b1.mv0 e2).mv0 e3).mv0 e4).mv0 e5) rfl rfl fun w6 b6 e6 => M.run rfl ?_))⟩
  have e15 := gr_trans (gr_trans (gr_trans e2 e3) e4) e5
  have n5 : g1 ≠ g5 := by have := b1.lt; have := (gr_trans (gr_trans e2 e3) e4).size; omega
  exact M.retC (.cellA rfl rfl rfl rfl (b6.cells 0 rfl ⟨[], rfl⟩ : Cells _ _ [_, _, _, _, _]) .nil) ⟨_, rfl, b5.mv1 e6 n5, by have := (gr_trans e1 (gr_trans (gr_trans e2 e3) e4)).size; omega, gr_fresh (gr_trans e1 e15) e6 l1⟩
theorem rdN {w : World} {g : Nat} (l : List Night) (h : Blk w g (l.flatMap encNight) 105) (hn : l.length ≤ maxLen) : Rd dNight w (some ⟨g, 0, none⟩) l.length l := rd_lit h l rfl hn
theorem rdD {w : World} {g : Nat} (l : List Dip) (h : Blk w g (l.flatMap encDip) 103) (hn : l.length ≤ maxLen) : Rd dDip w (some ⟨g, 0, none⟩) l.length l := rd_lit h l rfl hn
theorem rdD7 {w : World} {g : Nat} (h : Blk w g ((List.replicate 7 (⟨0, 0, 0⟩ : Dip)).flatMap encDip) 103) : Rd dDip w (some ⟨g, 0, none⟩) 7 (List.replicate 7 ⟨0, 0, 0⟩) := rdD _ h (by simp [maxLen])
theorem rdN7 {w : World} {g : Nat} (h : Blk w g ((List.replicate 7 (⟨0, 0, 0, 0, 0⟩ : Night)).flatMap encNight) 105) : Rd dNight w (some ⟨g, 0, none⟩) 7 (List.replicate 7 ⟨0, 0, 0, 0, 0⟩) := rdN _ h (by simp [maxLen])
theorem rdT {w : World} {g : Nat} (h : Blk w g (tankS.nights.flatMap encNight) 105) : Rd dNight w (some ⟨g, 0, none⟩) 2 tankS.nights := rdN tankS.nights h (by simp [maxLen, tankS])

set_option maxHeartbeats 8000000 in
set_option maxRecDepth 100000 in
theorem LampNames_go (w : World) : Calls Try.prog 13 #[] w fun e w' => e = .returned (.bool true) ∧ w.grownBy w' none := by
  refine calls (G := G) (args := []) Try.func13 rfl rfl rfl ?_
  have E : w.grownBy w none := gr_refl _ _
  refine M.run rfl <| M.cl rfl (tankB_go w) ?_
  rintro e w1 ⟨x1, rfl, n1, m1, e1⟩
  replace E := gr_trans E e1
  refine ⟨_, rfl, M.run rfl <| M.cl rfl (planF_go 0 1 1 2 w1) ?_⟩
  rintro e w2 ⟨P2, Q2, rfl, rp2, rq2, e2⟩
  replace E := gr_trans E e2
  replace n1 := n1.mv0 e2
  refine ⟨_, rfl, M.run rfl <| M.cl rfl (between_go 16 20 w2) ?_⟩
  rintro e w3 ⟨rfl, e3⟩
  replace E := gr_trans E e3
  replace n1 := n1.mv0 e3
  replace rp2 := Rd.mv rp2 e3
  replace rq2 := Rd.mv rq2 e3
  refine ⟨_, rfl, M.run rfl <| M.bs rfl fun h4 w4 k4 e4 l4 => ?_⟩
  replace E := gr_trans E e4
  replace n1 := n1.mv0 e4
  replace rp2 := Rd.mv rp2 e4
  replace rq2 := Rd.mv rq2 e4
  have hc := Oil_go tankS (planP 0 1 1 2) dipA (some ⟨x1, 0, none⟩) 2 P2 2 Q2 2 (some ⟨h4, 0, none⟩) 1 w4 (rdT n1) rp2 rq2 (rd_lit k4 dipA rfl (by simp [maxLen, dipA]))
  rw [nm_oil.1, nm_oil.2] at hc
  refine M.run rfl <| M.cl rfl hc ?_
  clear hc
  rintro e w5 ⟨R5, c5, rfl, hR5, e5⟩
  replace E := gr_trans E e5
  replace n1 := n1.mv0 e5
  replace rp2 := Rd.mv rp2 e5
  replace rq2 := Rd.mv rq2 e5
  replace k4 := k4.mv0 e5
  have r5 := hR5.rd (by decide)
  refine ⟨_, rfl, M.run rfl <| M.cl rfl (tankB_go w5) ?_⟩
  rintro e w6 ⟨x6, rfl, n6, m6, e6⟩
  replace E := gr_trans E e6
  replace r5 := Rd.mv r5 e6
  refine ⟨_, rfl, M.run rfl <| M.bs rfl fun h7 w7 k7 e7 l7 => ?_⟩
  replace E := gr_trans E e7
  replace r5 := Rd.mv r5 e7
  replace n6 := n6.mv0 e7
  have hc := Deliver_go tankS [2, 2] (some ⟨x6, 0, none⟩) 2 (some ⟨h7, 0, none⟩) 2 w7 (rdT n6) (rd_two _ h7 3 2 2 k7)
  rw [nm_deliver.1, nm_deliver.2.1, nm_deliver.2.2] at hc
  refine M.run rfl <| M.cl rfl hc ?_
  clear hc
  rintro e w8 ⟨R8, c8, rfl, hR8, e8⟩
  replace E := gr_trans E e8
  replace r5 := Rd.mv r5 e8
  replace n6 := n6.mv0 e8
  replace k7 := k7.mv0 e8
  have r8 := hR8.rd (by decide)
  refine ⟨_, rfl, M.run rfl <| M.cl rfl (tankB_go w8) ?_⟩
  rintro e w9 ⟨x9, rfl, n9, m9, e9⟩
  replace E := gr_trans E e9
  replace r5 := Rd.mv r5 e9
  replace r8 := Rd.mv r8 e9
  refine ⟨_, rfl, M.run rfl <| M.bs rfl fun h10 w10 k10 e10 l10 => ?_⟩
  replace E := gr_trans E e10
  replace r5 := Rd.mv r5 e10
  replace r8 := Rd.mv r8 e10
  replace n9 := n9.mv0 e10
  have hc := Trim_go tankS [0, 1] (some ⟨x9, 0, none⟩) 2 (some ⟨h10, 0, none⟩) 2 w10 (rdT n9) (rd_two _ h10 3 0 1 k10)
  rw [nm_trim.1, nm_trim.2.1, nm_trim.2.2] at hc
  refine M.run rfl <| M.cl rfl hc ?_
  clear hc
  rintro e w11 ⟨R11, c11, rfl, hR11, e11⟩
  replace E := gr_trans E e11
  replace r5 := Rd.mv r5 e11
  replace r8 := Rd.mv r8 e11
  replace n9 := n9.mv0 e11
  replace k10 := k10.mv0 e11
  have r11 := hR11.rd (by decide)
  refine ⟨_, rfl, M.run rfl <| M.cl rfl (tankB_go w11) ?_⟩
  rintro e w12 ⟨x12, rfl, n12, m12, e12⟩
  replace E := gr_trans E e12
  replace r5 := Rd.mv r5 e12
  replace r8 := Rd.mv r8 e12
  replace r11 := Rd.mv r11 e12
  refine ⟨_, rfl, M.run rfl <| M.cl rfl (planF_go 0 1 1 2 w12) ?_⟩
  rintro e w13 ⟨P13, Q13, rfl, rp13, rq13, e13⟩
  replace E := gr_trans E e13
  replace r5 := Rd.mv r5 e13
  replace r8 := Rd.mv r8 e13
  replace r11 := Rd.mv r11 e13
  replace n12 := n12.mv0 e13
  have hc := Leave_go tankS (planP 0 1 1 2) [] (some ⟨x12, 0, none⟩) 2 P13 2 Q13 2 none 0 w13 (rdT n12) rp13 rq13 (rd_empty dDip _)
  rw [nm_leave.1, nm_leave.2] at hc
  refine ⟨_, rfl, M.run rfl <| M.cl rfl hc ?_⟩
  clear hc
  rintro e w14 ⟨R14, c14, rfl, hR14, e14⟩
  replace E := gr_trans E e14
  replace r5 := Rd.mv r5 e14
  replace r8 := Rd.mv r8 e14
  replace r11 := Rd.mv r11 e14
  replace n12 := n12.mv0 e14
  replace rp13 := Rd.mv rp13 e14
  replace rq13 := Rd.mv rq13 e14
  refine ⟨_, rfl, M.run rfl <| M.drawG [] (by kernel_rfl) fun w15 e15 => ?_⟩
  replace E := gr_trans E e15
  replace r5 := Rd.mv r5 e15
  replace r8 := Rd.mv r8 e15
  replace r11 := Rd.mv r11 e15
  obtain ⟨hI0, hC0⟩ := rd_flat r5 (j := 0) (by decide)
  refine D.at_ [55] rfl <| D.caseF 55 rfl rfl <| D.at_ [60] rfl <| D.caseF 60 rfl rfl <| D.run rfl <| D.ys 9 rfl rfl rfl (YS.ix rfl (by decide) (by decide) hI0) <| D.ldA 10 rfl rfl rfl rfl rfl (fun u hu => hC0 u (gr_below hu)) <| D.run rfl <| D.one 11 rfl rfl <| M.cl rfl (between_go 16 20 w15) ?_
  rintro e w16 ⟨rfl, e16⟩
  replace E := gr_trans E e16
  replace r5 := Rd.mv r5 e16
  replace r8 := Rd.mv r8 e16
  replace r11 := Rd.mv r11 e16
  refine ⟨_, rfl, M.run rfl <| M.end_ ⟨.inr e16, D.run rfl <| D.ys 12 rfl rfl rfl (YS.neII (k := .i64) rfl Try.eqGuardType36 Try.underlying36 ⟨rfl, rfl, by decide⟩ ⟨rfl, rfl, by decide⟩ Try.underlying3 Try.stoodInHeld36) ?_⟩⟩
  obtain ⟨hI1, hC1⟩ := rd_flat r5 (j := 1) (by decide)
  refine D.at_ [67] rfl <| D.caseF 67 rfl rfl <| D.run rfl <| D.ys 16 rfl rfl rfl (YS.ix rfl (by decide) (by decide) hI1) <| D.ldA 17 rfl rfl rfl rfl rfl (fun u hu => hC1 u (gr_below hu)) <| D.run rfl <| D.one 18 rfl rfl <| M.cl rfl (between_go 50 54 w16) ?_
  rintro e w17 ⟨rfl, e17⟩
  replace E := gr_trans E e17
  replace r5 := Rd.mv r5 e17
  replace r8 := Rd.mv r8 e17
  replace r11 := Rd.mv r11 e17
  refine ⟨_, rfl, M.run rfl <| M.end_ ⟨.inr e17, D.run rfl <| D.ys 19 rfl rfl rfl (YS.neII (k := .i64) rfl Try.eqGuardType36 Try.underlying36 ⟨rfl, rfl, by decide⟩ ⟨rfl, rfl, by decide⟩ Try.underlying3 Try.stoodInHeld36) ?_⟩⟩
  refine D.at_ [74] rfl <| D.caseF 74 rfl rfl <| D.at_ [78] rfl <| D.caseF 78 rfl rfl <| D.at_ [82] rfl <| D.caseF 82 rfl rfl <| D.run rfl <| D.one 31 rfl rfl <| M.bs rfl fun h18 w18 k18 e18 l18 => M.run rfl <| M.end_ ⟨.inr e18, ?_⟩
  replace E := gr_trans E e18
  replace r5 := Rd.mv r5 e18
  replace r8 := Rd.mv r8 e18
  replace r11 := Rd.mv r11 e18
  refine D.run rfl <| D.one 32 rfl rfl <| M.cl rfl (Same_go [1, 0] [1, 0] R8 c8 (some ⟨h18, 0, none⟩) 2 w18 r8 (rd_two _ h18 3 1 0 k18)) ?_
  rintro e w19 ⟨rfl, e19⟩
  replace E := gr_trans E e19
  replace r5 := Rd.mv r5 e19
  replace r8 := Rd.mv r8 e19
  replace r11 := Rd.mv r11 e19
  replace k18 := k18.mv0 e19
  refine ⟨_, rfl, M.run rfl <| M.end_ ⟨.inr e19, D.at_ [88] rfl <| D.caseF 88 rfl rfl <| D.at_ [92] rfl <| D.caseF 92 rfl rfl <| D.at_ [96] rfl <| D.caseF 96 rfl rfl <| D.run rfl <| D.one 45 rfl rfl <| M.bs rfl fun h20 w20 k20 e20 l20 => M.run rfl <| M.end_ ⟨.inr e20, ?_⟩⟩⟩
  replace E := gr_trans E e20
  replace r5 := Rd.mv r5 e20
  replace r8 := Rd.mv r8 e20
  replace r11 := Rd.mv r11 e20
  replace k18 := k18.mv0 e20
  refine D.run rfl <| D.one 46 rfl rfl <| M.cl rfl (Same_go [1, 2] [1, 2] R11 c11 (some ⟨h20, 0, none⟩) 2 w20 r11 (rd_two _ h20 3 1 2 k20)) ?_
  rintro e w21 ⟨rfl, e21⟩
  replace E := gr_trans E e21
  replace r5 := Rd.mv r5 e21
  replace r8 := Rd.mv r8 e21
  replace r11 := Rd.mv r11 e21
  replace k18 := k18.mv0 e21
  replace k20 := k20.mv0 e21
  refine ⟨_, rfl, M.run rfl <| M.end_ ⟨.inr e21, D.at_ [102] rfl <| D.caseF 102 rfl rfl <| D.at_ [106] rfl <| D.caseF 106 rfl rfl <| D.at_ [111] rfl <| D.caseF 111 rfl rfl <| D.run rfl <| D.one 59 rfl rfl <| M.cl rfl (tankB_go w21) ?_⟩⟩
  rintro e w22 ⟨x22, rfl, n22, m22, e22⟩
  replace E := gr_trans E e22
  refine ⟨_, rfl, M.run rfl <| M.end_ ⟨.inr e22, D.run rfl <| D.one 60 rfl rfl <| M.cl rfl (planF_go 0 1 1 2 w22) ?_⟩⟩
  rintro e w23 ⟨P23, Q23, rfl, rp23, rq23, e23⟩
  replace E := gr_trans E e23
  replace n22 := n22.mv0 e23
  have hc := ProvePlan_go tankS (planP 0 1 1 2) (some ⟨x22, 0, none⟩) 2 P23 2 Q23 2 w23 (rdT n22) rp23 rq23
  rw [nm_prove.1] at hc
  refine ⟨_, rfl, M.run rfl <| M.end_ ⟨.inr e23, D.run rfl <| D.one 61 rfl rfl <| M.cl rfl (hc) ?_⟩⟩
  rintro e w24 ⟨rfl, e24⟩
  replace E := gr_trans E e24
  replace n22 := n22.mv0 e24
  replace rp23 := Rd.mv rp23 e24
  replace rq23 := Rd.mv rq23 e24
  clear hc
  refine ⟨_, rfl, M.run rfl <| M.end_ ⟨.inr e24, D.at_ [117] rfl <| D.caseF 117 rfl rfl <| D.run rfl <| D.one 65 rfl rfl <| M.cl rfl (tankB_go w24) ?_⟩⟩
  rintro e w25 ⟨x25, rfl, n25, m25, e25⟩
  replace E := gr_trans E e25
  refine ⟨_, rfl, M.run rfl <| M.end_ ⟨.inr e25, D.run rfl <| D.one 66 rfl rfl <| M.cl rfl (planF_go 0 0 1 2 w25) ?_⟩⟩
  rintro e w26 ⟨P26, Q26, rfl, rp26, rq26, e26⟩
  replace E := gr_trans E e26
  replace n25 := n25.mv0 e26
  have hc := ProvePlan_go tankS (planP 0 0 1 2) (some ⟨x25, 0, none⟩) 2 P26 2 Q26 2 w26 (rdT n25) rp26 rq26
  rw [nm_prove.2.1] at hc
  refine ⟨_, rfl, M.run rfl <| M.end_ ⟨.inr e26, D.run rfl <| D.one 67 rfl rfl <| M.cl rfl (hc) ?_⟩⟩
  rintro e w27 ⟨rfl, e27⟩
  replace E := gr_trans E e27
  replace n25 := n25.mv0 e27
  replace rp26 := Rd.mv rp26 e27
  replace rq26 := Rd.mv rq26 e27
  clear hc
  refine ⟨_, rfl, M.run rfl <| M.end_ ⟨.inr e27, D.at_ [122] rfl <| D.caseF 122 rfl rfl <| D.run rfl <| D.one 70 rfl rfl <| M.cl rfl (tankB_go w27) ?_⟩⟩
  rintro e w28 ⟨x28, rfl, n28, m28, e28⟩
  replace E := gr_trans E e28
  refine ⟨_, rfl, M.run rfl <| M.end_ ⟨.inr e28, D.run rfl <| D.one 71 rfl rfl <| M.cl rfl (planF_go 0 3 1 2 w28) ?_⟩⟩
  rintro e w29 ⟨P29, Q29, rfl, rp29, rq29, e29⟩
  replace E := gr_trans E e29
  replace n28 := n28.mv0 e29
  have hc := ProvePlan_go tankS (planP 0 3 1 2) (some ⟨x28, 0, none⟩) 2 P29 2 Q29 2 w29 (rdT n28) rp29 rq29
  rw [nm_prove.2.2] at hc
  refine ⟨_, rfl, M.run rfl <| M.end_ ⟨.inr e29, D.run rfl <| D.one 72 rfl rfl <| M.cl rfl (hc) ?_⟩⟩
  rintro e w30 ⟨rfl, e30⟩
  replace E := gr_trans E e30
  replace n28 := n28.mv0 e30
  replace rp29 := Rd.mv rp29 e30
  replace rq29 := Rd.mv rq29 e30
  clear hc
  refine ⟨_, rfl, M.run rfl <| M.end_ ⟨.inr e30, D.run rfl <| D.done_ rfl <| M.run rfl ?_⟩⟩
  refine M.condF rfl rfl <| M.run rfl <| M.cl rfl (tankB_go w30) ?_
  rintro e w32 ⟨x32, rfl, n32, m32, e32⟩
  have y32 := Nat.le_trans E.size m32
  replace E := gr_trans E e32
  refine ⟨_, rfl, M.run rfl <| M.cl rfl (tankB_go w32) ?_⟩
  rintro e w33 ⟨x33, rfl, n33, m33, e33⟩
  have y33 := Nat.le_trans E.size m33
  have q_x32_x33 : x32 ≠ x33 := by have := n32.lt; omega
  replace E := gr_trans E e33
  replace n32 := n32.mv0 e33
  refine ⟨_, rfl, M.run rfl <| M.cl rfl (tankB_go w33) ?_⟩
  rintro e w34 ⟨x34, rfl, n34, m34, e34⟩
  have y34 := Nat.le_trans E.size m34
  have q_x32_x34 : x32 ≠ x34 := by have := n32.lt; omega
  have q_x33_x34 : x33 ≠ x34 := by have := n33.lt; omega
  replace E := gr_trans E e34
  replace n32 := n32.mv0 e34
  replace n33 := n33.mv0 e34
  refine ⟨_, rfl, M.run rfl <| M.cl rfl (tankB_go w34) ?_⟩
  rintro e w35 ⟨x35, rfl, n35, m35, e35⟩
  have y35 := Nat.le_trans E.size m35
  have q_x32_x35 : x32 ≠ x35 := by have := n32.lt; omega
  have q_x33_x35 : x33 ≠ x35 := by have := n33.lt; omega
  have q_x34_x35 : x34 ≠ x35 := by have := n34.lt; omega
  replace E := gr_trans E e35
  replace n32 := n32.mv0 e35
  replace n33 := n33.mv0 e35
  replace n34 := n34.mv0 e35
  refine ⟨_, rfl, M.run rfl <| M.cl rfl (tankB_go w35) ?_⟩
  rintro e w36 ⟨x36, rfl, n36, m36, e36⟩
  have y36 := Nat.le_trans E.size m36
  have q_x32_x36 : x32 ≠ x36 := by have := n32.lt; omega
  have q_x33_x36 : x33 ≠ x36 := by have := n33.lt; omega
  have q_x34_x36 : x34 ≠ x36 := by have := n34.lt; omega
  have q_x35_x36 : x35 ≠ x36 := by have := n35.lt; omega
  replace E := gr_trans E e36
  replace n32 := n32.mv0 e36
  replace n33 := n33.mv0 e36
  replace n34 := n34.mv0 e36
  replace n35 := n35.mv0 e36
  refine ⟨_, rfl, M.run rfl <| M.nw rfl fun g37 w37 b37 e37 l37 => ?_⟩
  have q_x32_g37 : x32 ≠ g37 := by have := n32.lt; omega
  have q_x33_g37 : x33 ≠ g37 := by have := n33.lt; omega
  have q_x34_g37 : x34 ≠ g37 := by have := n34.lt; omega
  have q_x35_g37 : x35 ≠ g37 := by have := n35.lt; omega
  have q_x36_g37 : x36 ≠ g37 := by have := n36.lt; omega
  have z37 := Nat.le_trans E.size l37
  replace E := gr_trans E e37
  replace n32 := n32.mv0 e37
  replace n33 := n33.mv0 e37
  replace n34 := n34.mv0 e37
  replace n35 := n35.mv0 e37
  replace n36 := n36.mv0 e37
  refine M.run rfl <| M.nw rfl fun g38 w38 b38 e38 l38 => ?_
  have q_x32_g38 : x32 ≠ g38 := by have := n32.lt; omega
  have q_x33_g38 : x33 ≠ g38 := by have := n33.lt; omega
  have q_x34_g38 : x34 ≠ g38 := by have := n34.lt; omega
  have q_x35_g38 : x35 ≠ g38 := by have := n35.lt; omega
  have q_x36_g38 : x36 ≠ g38 := by have := n36.lt; omega
  have q_g37_g38 : g37 ≠ g38 := by have := b37.lt; omega
  have z38 := Nat.le_trans E.size l38
  replace E := gr_trans E e38
  replace n32 := n32.mv0 e38
  replace n33 := n33.mv0 e38
  replace n34 := n34.mv0 e38
  replace n35 := n35.mv0 e38
  replace n36 := n36.mv0 e38
  replace b37 := b37.mv0 e38
  refine M.run rfl <| M.nw rfl fun g39 w39 b39 e39 l39 => ?_
  have q_x32_g39 : x32 ≠ g39 := by have := n32.lt; omega
  have q_x33_g39 : x33 ≠ g39 := by have := n33.lt; omega
  have q_x34_g39 : x34 ≠ g39 := by have := n34.lt; omega
  have q_x35_g39 : x35 ≠ g39 := by have := n35.lt; omega
  have q_x36_g39 : x36 ≠ g39 := by have := n36.lt; omega
  have q_g37_g39 : g37 ≠ g39 := by have := b37.lt; omega
  have q_g38_g39 : g38 ≠ g39 := by have := b38.lt; omega
  have z39 := Nat.le_trans E.size l39
  replace E := gr_trans E e39
  replace n32 := n32.mv0 e39
  replace n33 := n33.mv0 e39
  replace n34 := n34.mv0 e39
  replace n35 := n35.mv0 e39
  replace n36 := n36.mv0 e39
  replace b37 := b37.mv0 e39
  replace b38 := b38.mv0 e39
  refine M.run rfl <| M.nw rfl fun g40 w40 b40 e40 l40 => ?_
  have q_x32_g40 : x32 ≠ g40 := by have := n32.lt; omega
  have q_x33_g40 : x33 ≠ g40 := by have := n33.lt; omega
  have q_x34_g40 : x34 ≠ g40 := by have := n34.lt; omega
  have q_x35_g40 : x35 ≠ g40 := by have := n35.lt; omega
  have q_x36_g40 : x36 ≠ g40 := by have := n36.lt; omega
  have q_g37_g40 : g37 ≠ g40 := by have := b37.lt; omega
  have q_g38_g40 : g38 ≠ g40 := by have := b38.lt; omega
  have q_g39_g40 : g39 ≠ g40 := by have := b39.lt; omega
  have z40 := Nat.le_trans E.size l40
  replace E := gr_trans E e40
  replace n32 := n32.mv0 e40
  replace n33 := n33.mv0 e40
  replace n34 := n34.mv0 e40
  replace n35 := n35.mv0 e40
  replace n36 := n36.mv0 e40
  replace b37 := b37.mv0 e40
  replace b38 := b38.mv0 e40
  replace b39 := b39.mv0 e40
  refine M.run rfl <| M.nw rfl fun g41 w41 b41 e41 l41 => ?_
  have q_x32_g41 : x32 ≠ g41 := by have := n32.lt; omega
  have q_x33_g41 : x33 ≠ g41 := by have := n33.lt; omega
  have q_x34_g41 : x34 ≠ g41 := by have := n34.lt; omega
  have q_x35_g41 : x35 ≠ g41 := by have := n35.lt; omega
  have q_x36_g41 : x36 ≠ g41 := by have := n36.lt; omega
  have q_g37_g41 : g37 ≠ g41 := by have := b37.lt; omega
  have q_g38_g41 : g38 ≠ g41 := by have := b38.lt; omega
  have q_g39_g41 : g39 ≠ g41 := by have := b39.lt; omega
  have q_g40_g41 : g40 ≠ g41 := by have := b40.lt; omega
  have z41 := Nat.le_trans E.size l41
  replace E := gr_trans E e41
  replace n32 := n32.mv0 e41
  replace n33 := n33.mv0 e41
  replace n34 := n34.mv0 e41
  replace n35 := n35.mv0 e41
  replace n36 := n36.mv0 e41
  replace b37 := b37.mv0 e41
  replace b38 := b38.mv0 e41
  replace b39 := b39.mv0 e41
  replace b40 := b40.mv0 e41
  refine M.run rfl <| M.store rfl rfl b37 rfl rfl fun w42 s42 e42 => ?_
  replace E := gr_fresh E e42 z37
  replace n32 := n32.mv1 e42 (fun h => q_x32_g37 h.symm)
  replace n33 := n33.mv1 e42 (fun h => q_x33_g37 h.symm)
  replace n34 := n34.mv1 e42 (fun h => q_x34_g37 h.symm)
  replace n35 := n35.mv1 e42 (fun h => q_x35_g37 h.symm)
  replace n36 := n36.mv1 e42 (fun h => q_x36_g37 h.symm)
  replace b37 : Blk w42 g37 [.int .i64 100, .int .i64 50, .int .i64 20, .int .i64 30, .slice (some ⟨x32, 0, none⟩) 2 2] 39 := s42
  replace b38 := b38.mv1 e42 q_g37_g38
  replace b39 := b39.mv1 e42 q_g37_g39
  replace b40 := b40.mv1 e42 q_g37_g40
  replace b41 := b41.mv1 e42 q_g37_g41
  clear s42
  refine M.run rfl <| M.store rfl rfl b38 rfl rfl fun w43 s43 e43 => ?_
  replace E := gr_fresh E e43 z38
  replace n32 := n32.mv1 e43 (fun h => q_x32_g38 h.symm)
  replace n33 := n33.mv1 e43 (fun h => q_x33_g38 h.symm)
  replace n34 := n34.mv1 e43 (fun h => q_x34_g38 h.symm)
  replace n35 := n35.mv1 e43 (fun h => q_x35_g38 h.symm)
  replace n36 := n36.mv1 e43 (fun h => q_x36_g38 h.symm)
  replace b37 := b37.mv1 e43 (fun h => q_g37_g38 h.symm)
  replace b38 : Blk w43 g38 [.int .i64 100, .int .i64 50, .int .i64 20, .int .i64 30, .slice (some ⟨x33, 0, none⟩) 2 2] 39 := s43
  replace b39 := b39.mv1 e43 q_g38_g39
  replace b40 := b40.mv1 e43 q_g38_g40
  replace b41 := b41.mv1 e43 q_g38_g41
  clear s43
  refine M.run rfl <| M.store rfl rfl b39 rfl rfl fun w44 s44 e44 => ?_
  replace E := gr_fresh E e44 z39
  replace n32 := n32.mv1 e44 (fun h => q_x32_g39 h.symm)
  replace n33 := n33.mv1 e44 (fun h => q_x33_g39 h.symm)
  replace n34 := n34.mv1 e44 (fun h => q_x34_g39 h.symm)
  replace n35 := n35.mv1 e44 (fun h => q_x35_g39 h.symm)
  replace n36 := n36.mv1 e44 (fun h => q_x36_g39 h.symm)
  replace b37 := b37.mv1 e44 (fun h => q_g37_g39 h.symm)
  replace b38 := b38.mv1 e44 (fun h => q_g38_g39 h.symm)
  replace b39 : Blk w44 g39 [.int .i64 100, .int .i64 50, .int .i64 20, .int .i64 30, .slice (some ⟨x34, 0, none⟩) 2 2] 39 := s44
  replace b40 := b40.mv1 e44 q_g39_g40
  replace b41 := b41.mv1 e44 q_g39_g41
  clear s44
  refine M.run rfl <| M.store rfl rfl b40 rfl rfl fun w45 s45 e45 => ?_
  replace E := gr_fresh E e45 z40
  replace n32 := n32.mv1 e45 (fun h => q_x32_g40 h.symm)
  replace n33 := n33.mv1 e45 (fun h => q_x33_g40 h.symm)
  replace n34 := n34.mv1 e45 (fun h => q_x34_g40 h.symm)
  replace n35 := n35.mv1 e45 (fun h => q_x35_g40 h.symm)
  replace n36 := n36.mv1 e45 (fun h => q_x36_g40 h.symm)
  replace b37 := b37.mv1 e45 (fun h => q_g37_g40 h.symm)
  replace b38 := b38.mv1 e45 (fun h => q_g38_g40 h.symm)
  replace b39 := b39.mv1 e45 (fun h => q_g39_g40 h.symm)
  replace b40 : Blk w45 g40 [.int .i64 100, .int .i64 50, .int .i64 20, .int .i64 30, .slice (some ⟨x35, 0, none⟩) 2 2] 39 := s45
  replace b41 := b41.mv1 e45 q_g40_g41
  clear s45
  refine M.run rfl <| M.store rfl rfl b41 rfl rfl fun w46 s46 e46 => ?_
  replace E := gr_fresh E e46 z41
  replace n32 := n32.mv1 e46 (fun h => q_x32_g41 h.symm)
  replace n33 := n33.mv1 e46 (fun h => q_x33_g41 h.symm)
  replace n34 := n34.mv1 e46 (fun h => q_x34_g41 h.symm)
  replace n35 := n35.mv1 e46 (fun h => q_x35_g41 h.symm)
  replace n36 := n36.mv1 e46 (fun h => q_x36_g41 h.symm)
  replace b37 := b37.mv1 e46 (fun h => q_g37_g41 h.symm)
  replace b38 := b38.mv1 e46 (fun h => q_g38_g41 h.symm)
  replace b39 := b39.mv1 e46 (fun h => q_g39_g41 h.symm)
  replace b40 := b40.mv1 e46 (fun h => q_g40_g41 h.symm)
  replace b41 : Blk w46 g41 [.int .i64 100, .int .i64 50, .int .i64 20, .int .i64 30, .slice (some ⟨x36, 0, none⟩) 2 2] 39 := s46
  clear s46
  refine M.run rfl <| M.store rfl rfl b37 rfl rfl fun w47 s47 e47 => ?_
  replace E := gr_fresh E e47 z37
  replace n32 := n32.mv1 e47 (fun h => q_x32_g37 h.symm)
  replace n33 := n33.mv1 e47 (fun h => q_x33_g37 h.symm)
  replace n34 := n34.mv1 e47 (fun h => q_x34_g37 h.symm)
  replace n35 := n35.mv1 e47 (fun h => q_x35_g37 h.symm)
  replace n36 := n36.mv1 e47 (fun h => q_x36_g37 h.symm)
  replace b37 : Blk w47 g37 [.int .i64 401, .int .i64 50, .int .i64 20, .int .i64 30, .slice (some ⟨x32, 0, none⟩) 2 2] 39 := s47
  replace b38 := b38.mv1 e47 q_g37_g38
  replace b39 := b39.mv1 e47 q_g37_g39
  replace b40 := b40.mv1 e47 q_g37_g40
  replace b41 := b41.mv1 e47 q_g37_g41
  clear s47
  refine M.run rfl <| M.store rfl rfl b38 rfl rfl fun w48 s48 e48 => ?_
  replace E := gr_fresh E e48 z38
  replace n32 := n32.mv1 e48 (fun h => q_x32_g38 h.symm)
  replace n33 := n33.mv1 e48 (fun h => q_x33_g38 h.symm)
  replace n34 := n34.mv1 e48 (fun h => q_x34_g38 h.symm)
  replace n35 := n35.mv1 e48 (fun h => q_x35_g38 h.symm)
  replace n36 := n36.mv1 e48 (fun h => q_x36_g38 h.symm)
  replace b37 := b37.mv1 e48 (fun h => q_g37_g38 h.symm)
  replace b38 : Blk w48 g38 [.int .i64 100, .int .i64 0, .int .i64 20, .int .i64 30, .slice (some ⟨x33, 0, none⟩) 2 2] 39 := s48
  replace b39 := b39.mv1 e48 q_g38_g39
  replace b40 := b40.mv1 e48 q_g38_g40
  replace b41 := b41.mv1 e48 q_g38_g41
  clear s48
  refine M.run rfl <| M.cl rfl (between_go 20 101 w48) ?_
  rintro e w49 ⟨rfl, e49⟩
  replace E := gr_trans E e49
  replace n32 := n32.mv0 e49
  replace n33 := n33.mv0 e49
  replace n34 := n34.mv0 e49
  replace n35 := n35.mv0 e49
  replace n36 := n36.mv0 e49
  replace b37 := b37.mv0 e49
  replace b38 := b38.mv0 e49
  replace b39 := b39.mv0 e49
  replace b40 := b40.mv0 e49
  replace b41 := b41.mv0 e49
  refine ⟨_, rfl, M.run rfl <| M.store rfl rfl b39 rfl rfl fun w50 s50 e50 => ?_⟩
  replace E := gr_fresh E e50 z39
  replace n32 := n32.mv1 e50 (fun h => q_x32_g39 h.symm)
  replace n33 := n33.mv1 e50 (fun h => q_x33_g39 h.symm)
  replace n34 := n34.mv1 e50 (fun h => q_x34_g39 h.symm)
  replace n35 := n35.mv1 e50 (fun h => q_x35_g39 h.symm)
  replace n36 := n36.mv1 e50 (fun h => q_x36_g39 h.symm)
  replace b37 := b37.mv1 e50 (fun h => q_g37_g39 h.symm)
  replace b38 := b38.mv1 e50 (fun h => q_g38_g39 h.symm)
  replace b39 : Blk w50 g39 [.int .i64 100, .int .i64 50, .int .i64 20, .int .i64 101, .slice (some ⟨x34, 0, none⟩) 2 2] 39 := s50
  replace b40 := b40.mv1 e50 q_g39_g40
  replace b41 := b41.mv1 e50 q_g39_g41
  clear s50
  refine M.run rfl <| M.ld rfl (b40.cell rfl rfl) <| M.run rfl <| M.ix rfl (by decide) (by decide) rfl <| M.run rfl <| M.store rfl rfl n35 rfl rfl fun w51 s51 e51 => ?_
  replace E := gr_fresh E e51 y35
  replace n32 := n32.mv1 e51 (fun h => q_x32_x35 h.symm)
  replace n33 := n33.mv1 e51 (fun h => q_x33_x35 h.symm)
  replace n34 := n34.mv1 e51 (fun h => q_x34_x35 h.symm)
  replace n35 : Blk w51 x35 (([⟨15, 1, 3, 2, 3⟩, ⟨4, 1, 2, 2, 2⟩] : List Night).flatMap encNight) 105 := s51
  replace n36 := n36.mv1 e51 q_x35_x36
  replace b37 := b37.mv1 e51 q_x35_g37
  replace b38 := b38.mv1 e51 q_x35_g38
  replace b39 := b39.mv1 e51 q_x35_g39
  replace b40 := b40.mv1 e51 q_x35_g40
  replace b41 := b41.mv1 e51 q_x35_g41
  clear s51
  refine M.run rfl <| M.ld rfl (b41.cell rfl rfl) <| M.run rfl <| M.ix rfl (by decide) (by decide) rfl <| M.run rfl <| M.store rfl rfl n36 rfl rfl fun w52 s52 e52 => ?_
  replace E := gr_fresh E e52 y36
  replace n32 := n32.mv1 e52 (fun h => q_x32_x36 h.symm)
  replace n33 := n33.mv1 e52 (fun h => q_x33_x36 h.symm)
  replace n34 := n34.mv1 e52 (fun h => q_x34_x36 h.symm)
  replace n35 := n35.mv1 e52 (fun h => q_x35_x36 h.symm)
  replace n36 : Blk w52 x36 (([⟨5, 4, 3, 2, 3⟩, ⟨4, 1, 2, 2, 2⟩] : List Night).flatMap encNight) 105 := s52
  replace b37 := b37.mv1 e52 q_x36_g37
  replace b38 := b38.mv1 e52 q_x36_g38
  replace b39 := b39.mv1 e52 q_x36_g39
  replace b40 := b40.mv1 e52 q_x36_g40
  replace b41 := b41.mv1 e52 q_x36_g41
  clear s52
  refine M.run rfl <| M.cl rfl (tankB_go w52) ?_
  rintro e w53 ⟨x53, rfl, n53, m53, e53⟩
  replace E := gr_trans E e53
  replace n32 := n32.mv0 e53
  replace n33 := n33.mv0 e53
  replace n34 := n34.mv0 e53
  replace n35 := n35.mv0 e53
  replace n36 := n36.mv0 e53
  replace b37 := b37.mv0 e53
  replace b38 := b38.mv0 e53
  replace b39 := b39.mv0 e53
  replace b40 := b40.mv0 e53
  replace b41 := b41.mv0 e53
  refine ⟨_, rfl, M.run rfl <| M.nw rfl fun g54 w54 b54 e54 l54 => ?_⟩
  have q_x32_g54 : x32 ≠ g54 := by have := n32.lt; omega
  have q_x33_g54 : x33 ≠ g54 := by have := n33.lt; omega
  have q_x34_g54 : x34 ≠ g54 := by have := n34.lt; omega
  have q_x35_g54 : x35 ≠ g54 := by have := n35.lt; omega
  have q_x36_g54 : x36 ≠ g54 := by have := n36.lt; omega
  have q_g37_g54 : g37 ≠ g54 := by have := b37.lt; omega
  have q_g38_g54 : g38 ≠ g54 := by have := b38.lt; omega
  have q_g39_g54 : g39 ≠ g54 := by have := b39.lt; omega
  have q_g40_g54 : g40 ≠ g54 := by have := b40.lt; omega
  have q_g41_g54 : g41 ≠ g54 := by have := b41.lt; omega
  have q_x53_g54 : x53 ≠ g54 := by have := n53.lt; omega
  have z54 := Nat.le_trans E.size l54
  replace E := gr_trans E e54
  replace n32 := n32.mv0 e54
  replace n33 := n33.mv0 e54
  replace n34 := n34.mv0 e54
  replace n35 := n35.mv0 e54
  replace n36 := n36.mv0 e54
  replace b37 := b37.mv0 e54
  replace b38 := b38.mv0 e54
  replace b39 := b39.mv0 e54
  replace b40 := b40.mv0 e54
  replace b41 := b41.mv0 e54
  replace n53 := n53.mv0 e54
  refine M.run rfl <| M.store rfl rfl b54 rfl rfl fun w55 s55 e55 => ?_
  replace E := gr_fresh E e55 z54
  replace n32 := n32.mv1 e55 (fun h => q_x32_g54 h.symm)
  replace n33 := n33.mv1 e55 (fun h => q_x33_g54 h.symm)
  replace n34 := n34.mv1 e55 (fun h => q_x34_g54 h.symm)
  replace n35 := n35.mv1 e55 (fun h => q_x35_g54 h.symm)
  replace n36 := n36.mv1 e55 (fun h => q_x36_g54 h.symm)
  replace b37 := b37.mv1 e55 (fun h => q_g37_g54 h.symm)
  replace b38 := b38.mv1 e55 (fun h => q_g38_g54 h.symm)
  replace b39 := b39.mv1 e55 (fun h => q_g39_g54 h.symm)
  replace b40 := b40.mv1 e55 (fun h => q_g40_g54 h.symm)
  replace b41 := b41.mv1 e55 (fun h => q_g41_g54 h.symm)
  replace n53 := n53.mv1 e55 (fun h => q_x53_g54 h.symm)
  replace b54 : Blk w55 g54 [.int .i64 100, .int .i64 50, .int .i64 20, .int .i64 30, .slice (some ⟨x53, 0, none⟩) 2 2] 39 := s55
  clear s55
  refine M.run rfl <| M.mk_ rfl (by decide) (by decide) (by decide) (by decide) rfl fun h56 w56 k56 e56 l56 => ?_
  have q_g54_h56 : g54 ≠ h56 := by have := b54.lt; omega
  have q_x32_h56 : x32 ≠ h56 := by have := n32.lt; omega
  have q_x33_h56 : x33 ≠ h56 := by have := n33.lt; omega
  have q_x34_h56 : x34 ≠ h56 := by have := n34.lt; omega
  have q_x35_h56 : x35 ≠ h56 := by have := n35.lt; omega
  have q_x36_h56 : x36 ≠ h56 := by have := n36.lt; omega
  have q_g37_h56 : g37 ≠ h56 := by have := b37.lt; omega
  have q_g38_h56 : g38 ≠ h56 := by have := b38.lt; omega
  have q_g39_h56 : g39 ≠ h56 := by have := b39.lt; omega
  have q_g40_h56 : g40 ≠ h56 := by have := b40.lt; omega
  have q_g41_h56 : g41 ≠ h56 := by have := b41.lt; omega
  have q_x53_h56 : x53 ≠ h56 := by have := n53.lt; omega
  have k56' : Blk w56 h56 ((List.replicate 7 (⟨0, 0, 0, 0, 0⟩ : Night)).flatMap encNight) 105 := k56
  replace k56 := k56'
  clear k56'
  replace E := gr_trans E e56
  replace n32 := n32.mv0 e56
  replace n33 := n33.mv0 e56
  replace n34 := n34.mv0 e56
  replace n35 := n35.mv0 e56
  replace n36 := n36.mv0 e56
  replace b37 := b37.mv0 e56
  replace b38 := b38.mv0 e56
  replace b39 := b39.mv0 e56
  replace b40 := b40.mv0 e56
  replace b41 := b41.mv0 e56
  replace n53 := n53.mv0 e56
  replace b54 := b54.mv0 e56
  refine M.run rfl <| M.store rfl rfl b54 rfl rfl fun w57 s57 e57 => ?_
  replace E := gr_fresh E e57 z54
  replace n32 := n32.mv1 e57 (fun h => q_x32_g54 h.symm)
  replace n33 := n33.mv1 e57 (fun h => q_x33_g54 h.symm)
  replace n34 := n34.mv1 e57 (fun h => q_x34_g54 h.symm)
  replace n35 := n35.mv1 e57 (fun h => q_x35_g54 h.symm)
  replace n36 := n36.mv1 e57 (fun h => q_x36_g54 h.symm)
  replace b37 := b37.mv1 e57 (fun h => q_g37_g54 h.symm)
  replace b38 := b38.mv1 e57 (fun h => q_g38_g54 h.symm)
  replace b39 := b39.mv1 e57 (fun h => q_g39_g54 h.symm)
  replace b40 := b40.mv1 e57 (fun h => q_g40_g54 h.symm)
  replace b41 := b41.mv1 e57 (fun h => q_g41_g54 h.symm)
  replace b54 : Blk w57 g54 [.int .i64 100, .int .i64 50, .int .i64 20, .int .i64 30, .slice (some ⟨h56, 0, none⟩) 7 7] 39 := s57
  replace k56 := k56.mv1 e57 q_g54_h56
  clear s57
  refine M.run rfl <| M.cl rfl (tankB_go w57) ?_
  rintro e w58 ⟨x58, rfl, n58, m58, e58⟩
  replace E := gr_trans E e58
  replace n32 := n32.mv0 e58
  replace n33 := n33.mv0 e58
  replace n34 := n34.mv0 e58
  replace n35 := n35.mv0 e58
  replace n36 := n36.mv0 e58
  replace b37 := b37.mv0 e58
  replace b38 := b38.mv0 e58
  replace b39 := b39.mv0 e58
  replace b40 := b40.mv0 e58
  replace b41 := b41.mv0 e58
  replace b54 := b54.mv0 e58
  replace k56 := k56.mv0 e58
  refine ⟨_, rfl, M.run rfl <| M.bs rfl fun h59 w59 k59 e59 l59 => ?_⟩
  replace E := gr_trans E e59
  replace n32 := n32.mv0 e59
  replace n33 := n33.mv0 e59
  replace n34 := n34.mv0 e59
  replace n35 := n35.mv0 e59
  replace n36 := n36.mv0 e59
  replace b37 := b37.mv0 e59
  replace b38 := b38.mv0 e59
  replace b39 := b39.mv0 e59
  replace b40 := b40.mv0 e59
  replace b41 := b41.mv0 e59
  replace b54 := b54.mv0 e59
  replace k56 := k56.mv0 e59
  replace n58 := n58.mv0 e59
  have hc := Trim_go tankS [0, 0] (some ⟨x58, 0, none⟩) 2 (some ⟨h59, 0, none⟩) 2 w59 (rdT n58) (rd_two _ h59 3 0 0 k59)
  rw [nm_trimE] at hc
  generalize trimR tankS [0, 0] = lr at hc
  generalize trimC tankS [0, 0] = lc at hc
  refine M.run rfl <| M.cl rfl hc ?_
  clear hc
  rintro e w60 ⟨R60, c60, rfl, -, e60⟩
  replace E := gr_trans E e60
  replace n32 := n32.mv0 e60
  replace n33 := n33.mv0 e60
  replace n34 := n34.mv0 e60
  replace n35 := n35.mv0 e60
  replace n36 := n36.mv0 e60
  replace b37 := b37.mv0 e60
  replace b38 := b38.mv0 e60
  replace b39 := b39.mv0 e60
  replace b40 := b40.mv0 e60
  replace b41 := b41.mv0 e60
  replace b54 := b54.mv0 e60
  replace k56 := k56.mv0 e60
  replace n58 := n58.mv0 e60
  replace k59 := k59.mv0 e60
  refine ⟨_, rfl, M.run rfl <| M.cl rfl (tankB_go w60) ?_⟩
  rintro e w61 ⟨x61, rfl, n61, m61, e61⟩
  replace E := gr_trans E e61
  replace n32 := n32.mv0 e61
  replace n33 := n33.mv0 e61
  replace n34 := n34.mv0 e61
  replace n35 := n35.mv0 e61
  replace n36 := n36.mv0 e61
  replace b37 := b37.mv0 e61
  replace b38 := b38.mv0 e61
  replace b39 := b39.mv0 e61
  replace b40 := b40.mv0 e61
  replace b41 := b41.mv0 e61
  replace b54 := b54.mv0 e61
  replace k56 := k56.mv0 e61
  refine ⟨_, rfl, M.run rfl <| M.cl rfl (planF_go 0 1 1 2 w61) ?_⟩
  rintro e w62 ⟨P62, Q62, rfl, rp62, rq62, e62⟩
  replace E := gr_trans E e62
  replace n32 := n32.mv0 e62
  replace n33 := n33.mv0 e62
  replace n34 := n34.mv0 e62
  replace n35 := n35.mv0 e62
  replace n36 := n36.mv0 e62
  replace b37 := b37.mv0 e62
  replace b38 := b38.mv0 e62
  replace b39 := b39.mv0 e62
  replace b40 := b40.mv0 e62
  replace b41 := b41.mv0 e62
  replace b54 := b54.mv0 e62
  replace k56 := k56.mv0 e62
  replace n61 := n61.mv0 e62
  refine ⟨_, rfl, M.run rfl <| M.cl rfl (between_go 0 4 w62) ?_⟩
  rintro e w63 ⟨rfl, e63⟩
  replace E := gr_trans E e63
  replace n32 := n32.mv0 e63
  replace n33 := n33.mv0 e63
  replace n34 := n34.mv0 e63
  replace n35 := n35.mv0 e63
  replace n36 := n36.mv0 e63
  replace b37 := b37.mv0 e63
  replace b38 := b38.mv0 e63
  replace b39 := b39.mv0 e63
  replace b40 := b40.mv0 e63
  replace b41 := b41.mv0 e63
  replace b54 := b54.mv0 e63
  replace k56 := k56.mv0 e63
  replace n61 := n61.mv0 e63
  replace rp62 := Rd.mv rp62 e63
  replace rq62 := Rd.mv rq62 e63
  refine ⟨_, rfl, M.run rfl <| M.bs rfl fun h64 w64 k64 e64 l64 => ?_⟩
  replace E := gr_trans E e64
  replace n32 := n32.mv0 e64
  replace n33 := n33.mv0 e64
  replace n34 := n34.mv0 e64
  replace n35 := n35.mv0 e64
  replace n36 := n36.mv0 e64
  replace b37 := b37.mv0 e64
  replace b38 := b38.mv0 e64
  replace b39 := b39.mv0 e64
  replace b40 := b40.mv0 e64
  replace b41 := b41.mv0 e64
  replace b54 := b54.mv0 e64
  replace k56 := k56.mv0 e64
  replace n61 := n61.mv0 e64
  replace rp62 := Rd.mv rp62 e64
  replace rq62 := Rd.mv rq62 e64
  have hc := Oil_go tankS (planP 0 1 1 2) dipB (some ⟨x61, 0, none⟩) 2 P62 2 Q62 2 (some ⟨h64, 0, none⟩) 1 w64 (rdT n61) rp62 rq62 (rd_lit k64 dipB rfl (by simp [maxLen, dipB]))
  rw [nm_bad] at hc
  generalize oilR tankS (planP 0 1 1 2) dipB = lo at hc
  refine M.run rfl <| M.cl rfl hc ?_
  clear hc
  rintro e w65 ⟨R65, c65, rfl, -, e65⟩
  replace E := gr_trans E e65
  replace n32 := n32.mv0 e65
  replace n33 := n33.mv0 e65
  replace n34 := n34.mv0 e65
  replace n35 := n35.mv0 e65
  replace n36 := n36.mv0 e65
  replace b37 := b37.mv0 e65
  replace b38 := b38.mv0 e65
  replace b39 := b39.mv0 e65
  replace b40 := b40.mv0 e65
  replace b41 := b41.mv0 e65
  replace b54 := b54.mv0 e65
  replace k56 := k56.mv0 e65
  replace n61 := n61.mv0 e65
  replace rp62 := Rd.mv rp62 e65
  replace rq62 := Rd.mv rq62 e65
  replace k64 := k64.mv0 e65
  refine ⟨_, rfl, M.run rfl <| M.cl rfl (tankB_go w65) ?_⟩
  rintro e w66 ⟨x66, rfl, n66, m66, e66⟩
  replace E := gr_trans E e66
  replace n32 := n32.mv0 e66
  replace n33 := n33.mv0 e66
  replace n34 := n34.mv0 e66
  replace n35 := n35.mv0 e66
  replace n36 := n36.mv0 e66
  replace b37 := b37.mv0 e66
  replace b38 := b38.mv0 e66
  replace b39 := b39.mv0 e66
  replace b40 := b40.mv0 e66
  replace b41 := b41.mv0 e66
  replace b54 := b54.mv0 e66
  replace k56 := k56.mv0 e66
  refine ⟨_, rfl, M.run rfl <| M.cl rfl (planF_go 0 1 1 2 w66) ?_⟩
  rintro e w67 ⟨P67, Q67, rfl, rp67, rq67, e67⟩
  replace E := gr_trans E e67
  replace n32 := n32.mv0 e67
  replace n33 := n33.mv0 e67
  replace n34 := n34.mv0 e67
  replace n35 := n35.mv0 e67
  replace n36 := n36.mv0 e67
  replace b37 := b37.mv0 e67
  replace b38 := b38.mv0 e67
  replace b39 := b39.mv0 e67
  replace b40 := b40.mv0 e67
  replace b41 := b41.mv0 e67
  replace b54 := b54.mv0 e67
  replace k56 := k56.mv0 e67
  replace n66 := n66.mv0 e67
  refine ⟨_, rfl, M.run rfl <| M.bs rfl fun h68 w68 k68 e68 l68 => ?_⟩
  replace E := gr_trans E e68
  replace n32 := n32.mv0 e68
  replace n33 := n33.mv0 e68
  replace n34 := n34.mv0 e68
  replace n35 := n35.mv0 e68
  replace n36 := n36.mv0 e68
  replace b37 := b37.mv0 e68
  replace b38 := b38.mv0 e68
  replace b39 := b39.mv0 e68
  replace b40 := b40.mv0 e68
  replace b41 := b41.mv0 e68
  replace b54 := b54.mv0 e68
  replace k56 := k56.mv0 e68
  replace n66 := n66.mv0 e68
  replace rp67 := Rd.mv rp67 e68
  replace rq67 := Rd.mv rq67 e68
  have hc := Play_go tankS (planP 0 1 1 2) ⟨31, [3, 2]⟩ (some ⟨x66, 0, none⟩) 2 P67 2 Q67 2 (some ⟨h68, 0, none⟩) 2 w68 (rdT n66) rp67 rq67 (rd_two _ h68 3 3 2 k68)
  rw [nm_playE] at hc
  generalize playL tankS (planP 0 1 1 2) ⟨31, [3, 2]⟩ = l1 at hc
  generalize playB tankS (planP 0 1 1 2) ⟨31, [3, 2]⟩ = l2 at hc
  generalize playI tankS (planP 0 1 1 2) ⟨31, [3, 2]⟩ = l3 at hc
  refine M.run rfl <| M.cl rfl hc ?_
  clear hc
  rintro e w69 ⟨X69, x_, Y69, y_, Z69, z_, rfl, -, -, -, e69⟩
  replace E := gr_trans E e69
  replace n32 := n32.mv0 e69
  replace n33 := n33.mv0 e69
  replace n34 := n34.mv0 e69
  replace n35 := n35.mv0 e69
  replace n36 := n36.mv0 e69
  replace b37 := b37.mv0 e69
  replace b38 := b38.mv0 e69
  replace b39 := b39.mv0 e69
  replace b40 := b40.mv0 e69
  replace b41 := b41.mv0 e69
  replace b54 := b54.mv0 e69
  replace k56 := k56.mv0 e69
  replace n66 := n66.mv0 e69
  replace rp67 := Rd.mv rp67 e69
  replace rq67 := Rd.mv rq67 e69
  replace k68 := k68.mv0 e69
  refine ⟨_, rfl, M.run rfl <| M.cl rfl (tankB_go w69) ?_⟩
  rintro e w70 ⟨x70, rfl, n70, m70, e70⟩
  replace E := gr_trans E e70
  replace n32 := n32.mv0 e70
  replace n33 := n33.mv0 e70
  replace n34 := n34.mv0 e70
  replace n35 := n35.mv0 e70
  replace n36 := n36.mv0 e70
  replace b37 := b37.mv0 e70
  replace b38 := b38.mv0 e70
  replace b39 := b39.mv0 e70
  replace b40 := b40.mv0 e70
  replace b41 := b41.mv0 e70
  replace b54 := b54.mv0 e70
  replace k56 := k56.mv0 e70
  refine ⟨_, rfl, M.run rfl <| M.cl rfl (planF_go 0 1 4 2 w70) ?_⟩
  rintro e w71 ⟨P71, Q71, rfl, rp71, rq71, e71⟩
  replace E := gr_trans E e71
  replace n32 := n32.mv0 e71
  replace n33 := n33.mv0 e71
  replace n34 := n34.mv0 e71
  replace n35 := n35.mv0 e71
  replace n36 := n36.mv0 e71
  replace b37 := b37.mv0 e71
  replace b38 := b38.mv0 e71
  replace b39 := b39.mv0 e71
  replace b40 := b40.mv0 e71
  replace b41 := b41.mv0 e71
  replace b54 := b54.mv0 e71
  replace k56 := k56.mv0 e71
  replace n70 := n70.mv0 e71
  have hc := Dark_go tankS (planP 0 1 4 2) (some ⟨x70, 0, none⟩) 2 P71 2 Q71 2 w71 (rdT n70) rp71 rq71
  rw [nm_darkE] at hc
  generalize darkR tankS (planP 0 1 4 2) = l4 at hc
  refine ⟨_, rfl, M.run rfl <| M.cl rfl hc ?_⟩
  clear hc
  rintro e w72 ⟨R72, c72, rfl, -, e72⟩
  replace E := gr_trans E e72
  replace n32 := n32.mv0 e72
  replace n33 := n33.mv0 e72
  replace n34 := n34.mv0 e72
  replace n35 := n35.mv0 e72
  replace n36 := n36.mv0 e72
  replace b37 := b37.mv0 e72
  replace b38 := b38.mv0 e72
  replace b39 := b39.mv0 e72
  replace b40 := b40.mv0 e72
  replace b41 := b41.mv0 e72
  replace b54 := b54.mv0 e72
  replace k56 := k56.mv0 e72
  replace n70 := n70.mv0 e72
  replace rp71 := Rd.mv rp71 e72
  replace rq71 := Rd.mv rq71 e72
  refine ⟨_, rfl, M.run rfl <| M.drawG [] (by kernel_rfl) fun w73 e73 => ?_⟩
  replace E := gr_trans E e73
  replace n32 := n32.mv0 e73
  replace n33 := n33.mv0 e73
  replace n34 := n34.mv0 e73
  replace n35 := n35.mv0 e73
  replace n36 := n36.mv0 e73
  replace b37 := b37.mv0 e73
  replace b38 := b38.mv0 e73
  replace b39 := b39.mv0 e73
  replace b40 := b40.mv0 e73
  replace b41 := b41.mv0 e73
  replace b54 := b54.mv0 e73
  replace k56 := k56.mv0 e73
  refine D.meet (σ := Nat × (Option Addr × Option Addr) × Nat) 6 [2, 1, 0] (fun (x, (X, Y), z) => [(2, .int .i64 10), (5, .int .i64 9), (8, .int .i64 2), (10, .int .i64 2), (11, .pointer (some ⟨g37, 0, none⟩)), (12, .pointer (some ⟨g38, 0, none⟩)), (13, .pointer (some ⟨g39, 0, none⟩)), (14, .pointer (some ⟨g40, 0, none⟩)), (15, .pointer (some ⟨g41, 0, none⟩)), (16, .pointer (some ⟨g54, 0, none⟩)), (180, vStore tankS (some ⟨x, 0, none⟩) 2), (181, .agg #[.slice X 2 2, .slice Y 2 2]), (182, .slice (some ⟨z, 0, none⟩) 7 7)]) (fun (x, (X, Y), z) w' => w73.grownBy w' none ∧ Blk w' x (tankS.nights.flatMap encNight) 105 ∧ Rd dI w' X 2 [0, 1] ∧ Rd dI w' Y 2 [1, 2] ∧ Blk w' z ((List.replicate 7 (⟨0, 0, 0⟩ : Dip)).flatMap encDip) 103) (fun H21 => ?_) ?_
  · refine D.meet (σ := Nat × (Option Addr × Option Addr) × Nat) 7 [1, 0] (fun (x, (X, Y), z) => [(2, .int .i64 10), (5, .int .i64 9), (8, .int .i64 2), (10, .int .i64 2), (11, .pointer (some ⟨g37, 0, none⟩)), (12, .pointer (some ⟨g38, 0, none⟩)), (13, .pointer (some ⟨g39, 0, none⟩)), (14, .pointer (some ⟨g40, 0, none⟩)), (15, .pointer (some ⟨g41, 0, none⟩)), (16, .pointer (some ⟨g54, 0, none⟩)), (180, vStore tankS (some ⟨x, 0, none⟩) 2), (181, .agg #[.slice X 2 2, .slice Y 2 2])]) (fun (x, (X, Y), z) w' => w73.grownBy w' none ∧ Blk w' x (tankS.nights.flatMap encNight) 105 ∧ Rd dI w' X 2 [0, 1] ∧ Rd dI w' Y 2 [1, 2]) (fun H20 => ?_) ?_
    rotate_left
    · rintro ⟨x, ⟨X, Y⟩, z⟩ w' ⟨eg, fx, rX, rY⟩
      refine D.one 2 rfl rfl ?_
      refine M.mk_ rfl (by decide) (by decide) (by decide) (by decide) rfl fun gn wn bn en ln => M.run rfl <| M.end_ ⟨.inr en, D.weak rfl ?_ (H21 (x, (X, Y), gn) wn ⟨gr_trans eg en, fx.mv0 en, Rd.mv rX en, Rd.mv rY en, bn⟩)⟩
      exact ⟨rfl, rfl, rfl, rfl, rfl, rfl, rfl, rfl, rfl, rfl, rfl, rfl, rfl, trivial⟩
    refine D.meet (σ := Nat × (Option Addr × Option Addr) × Nat) 7 [2, 0] (fun (x, (X, Y), z) => [(2, .int .i64 10), (5, .int .i64 9), (8, .int .i64 2), (10, .int .i64 2), (11, .pointer (some ⟨g37, 0, none⟩)), (12, .pointer (some ⟨g38, 0, none⟩)), (13, .pointer (some ⟨g39, 0, none⟩)), (14, .pointer (some ⟨g40, 0, none⟩)), (15, .pointer (some ⟨g41, 0, none⟩)), (16, .pointer (some ⟨g54, 0, none⟩)), (180, vStore tankS (some ⟨x, 0, none⟩) 2), (182, .slice (some ⟨z, 0, none⟩) 7 7)]) (fun (x, (X, Y), z) w' => w73.grownBy w' none ∧ Blk w' x (tankS.nights.flatMap encNight) 105 ∧ Blk w' z ((List.replicate 7 (⟨0, 0, 0⟩ : Dip)).flatMap encDip) 103) (fun H11 => ?_) ?_
    rotate_left
    · rintro ⟨x, ⟨X, Y⟩, z⟩ w' ⟨eg, fx, fz⟩
      refine D.one 1 rfl rfl ?_
      refine M.cl rfl (planF_go 0 1 1 2 w') ?_
      rintro e wn ⟨X', Y', rfl, rX', rY', en⟩
      refine ⟨_, rfl, M.run rfl <| M.end_ ⟨.inr en, D.weak rfl ?_ (H21 (x, (X', Y'), z) wn ⟨gr_trans eg en, fx.mv0 en, rX', rY', fz.mv0 en⟩)⟩⟩
      exact ⟨rfl, rfl, rfl, rfl, rfl, rfl, rfl, rfl, rfl, rfl, rfl, rfl, rfl, trivial⟩
    refine D.meet (σ := Nat × (Option Addr × Option Addr) × Nat) 8 [0] (fun (x, (X, Y), z) => [(2, .int .i64 10), (5, .int .i64 9), (8, .int .i64 2), (10, .int .i64 2), (11, .pointer (some ⟨g37, 0, none⟩)), (12, .pointer (some ⟨g38, 0, none⟩)), (13, .pointer (some ⟨g39, 0, none⟩)), (14, .pointer (some ⟨g40, 0, none⟩)), (15, .pointer (some ⟨g41, 0, none⟩)), (16, .pointer (some ⟨g54, 0, none⟩)), (180, vStore tankS (some ⟨x, 0, none⟩) 2)]) (fun (x, (X, Y), z) w' => w73.grownBy w' none ∧ Blk w' x (tankS.nights.flatMap encNight) 105) (fun H10 => ?_) ?_
    rotate_left
    · rintro ⟨x, ⟨X, Y⟩, z⟩ w' ⟨eg, fx⟩
      refine D.two 1 2 rfl rfl rfl ?_ ?_
      · refine M.cl rfl (planF_go 0 1 1 2 w') ?_
        rintro e wn ⟨X', Y', rfl, rX', rY', en⟩
        refine ⟨_, rfl, M.run rfl <| M.end_ ⟨.inr en, D.weak rfl ?_ (H20 (x, (X', Y'), z) wn ⟨gr_trans eg en, fx.mv0 en, rX', rY'⟩)⟩⟩
        exact ⟨rfl, rfl, rfl, rfl, rfl, rfl, rfl, rfl, rfl, rfl, rfl, rfl, trivial⟩
      · refine M.mk_ rfl (by decide) (by decide) (by decide) (by decide) rfl fun gn wn bn en ln => M.run rfl <| M.end_ ⟨.inr en, D.weak rfl ?_ (H11 (x, (X, Y), gn) wn ⟨gr_trans eg en, fx.mv0 en, bn⟩)⟩
        exact ⟨rfl, rfl, rfl, rfl, rfl, rfl, rfl, rfl, rfl, rfl, rfl, rfl, trivial⟩
    refine D.meet (σ := Nat × (Option Addr × Option Addr) × Nat) 8 [2] (fun (x, (X, Y), z) => [(2, .int .i64 10), (5, .int .i64 9), (8, .int .i64 2), (10, .int .i64 2), (11, .pointer (some ⟨g37, 0, none⟩)), (12, .pointer (some ⟨g38, 0, none⟩)), (13, .pointer (some ⟨g39, 0, none⟩)), (14, .pointer (some ⟨g40, 0, none⟩)), (15, .pointer (some ⟨g41, 0, none⟩)), (16, .pointer (some ⟨g54, 0, none⟩)), (182, .slice (some ⟨z, 0, none⟩) 7 7)]) (fun (x, (X, Y), z) w' => w73.grownBy w' none ∧ Blk w' z ((List.replicate 7 (⟨0, 0, 0⟩ : Dip)).flatMap encDip) 103) (fun H01 => ?_) ?_
    rotate_left
    · rintro ⟨x, ⟨X, Y⟩, z⟩ w' ⟨eg, fz⟩
      refine D.one 0 rfl rfl ?_
      refine M.cl rfl (tankB_go w') ?_
      rintro e wn ⟨gn, rfl, bn, -, en⟩
      refine ⟨_, rfl, M.run rfl <| M.end_ ⟨.inr en, D.weak rfl ?_ (H11 (gn, (X, Y), z) wn ⟨gr_trans eg en, bn, fz.mv0 en⟩)⟩⟩
      exact ⟨rfl, rfl, rfl, rfl, rfl, rfl, rfl, rfl, rfl, rfl, rfl, rfl, trivial⟩
    obtain ⟨x, X, Y, z⟩ : Nat × Option Addr × Option Addr × Nat := (0, none, none, 0)
    obtain ⟨w', hw'⟩ : ∃ w' : World, w' = w73 := ⟨w73, rfl⟩
    have eg : w73.grownBy w' none := by rw [hw']; exact gr_refl _ _
    rw [← hw']
    refine D.two 0 2 rfl rfl rfl ?_ ?_
    · refine M.cl rfl (tankB_go w') ?_
      rintro e wn ⟨gn, rfl, bn, -, en⟩
      refine ⟨_, rfl, M.run rfl <| M.end_ ⟨.inr en, D.weak rfl ?_ (H10 (gn, (X, Y), z) wn ⟨gr_trans eg en, bn⟩)⟩⟩
      exact ⟨rfl, rfl, rfl, rfl, rfl, rfl, rfl, rfl, rfl, rfl, rfl, trivial⟩
    · refine M.mk_ rfl (by decide) (by decide) (by decide) (by decide) rfl fun gn wn bn en ln => M.run rfl <| M.end_ ⟨.inr en, D.weak rfl ?_ (H01 (x, (X, Y), gn) wn ⟨gr_trans eg en, bn⟩)⟩
      exact ⟨rfl, rfl, rfl, rfl, rfl, rfl, rfl, rfl, rfl, rfl, rfl, trivial⟩
  rintro ⟨x, ⟨X, Y⟩, z⟩ w74 ⟨e74, fx, rX, rY, fz⟩
  replace E := gr_trans E e74
  replace n32 := n32.mv0 e74
  replace n33 := n33.mv0 e74
  replace n34 := n34.mv0 e74
  replace n35 := n35.mv0 e74
  replace n36 := n36.mv0 e74
  replace b37 := b37.mv0 e74
  replace b38 := b38.mv0 e74
  replace b39 := b39.mv0 e74
  replace b40 := b40.mv0 e74
  replace b41 := b41.mv0 e74
  replace b54 := b54.mv0 e74
  replace k56 := k56.mv0 e74
  have hc := Leave_go tankS (planP 0 1 1 2) (List.replicate 7 ⟨0, 0, 0⟩) (some ⟨x, 0, none⟩) 2 X 2 Y 2 (some ⟨z, 0, none⟩) 7 w74 (rdT fx) rX rY (rdD7 fz)
  rw [nm_leave7] at hc
  generalize leaveR tankS (planP 0 1 1 2) (List.replicate 7 ⟨0, 0, 0⟩) = l5 at hc
  refine D.one 3 rfl rfl <| M.cl rfl hc ?_
  clear hc
  rintro e w75 ⟨R75, c75, rfl, -, e75⟩
  replace E := gr_trans E e75
  replace n32 := n32.mv0 e75
  replace n33 := n33.mv0 e75
  replace n34 := n34.mv0 e75
  replace n35 := n35.mv0 e75
  replace n36 := n36.mv0 e75
  replace b37 := b37.mv0 e75
  replace b38 := b38.mv0 e75
  replace b39 := b39.mv0 e75
  replace b40 := b40.mv0 e75
  replace b41 := b41.mv0 e75
  replace b54 := b54.mv0 e75
  replace k56 := k56.mv0 e75
  refine ⟨_, rfl, M.run rfl <| M.end_ ⟨.inr e75, D.run rfl <| D.done_ rfl <| M.run rfl <| M.cl rfl (tankB_go w75) ?_⟩⟩
  rintro e w76 ⟨x76, rfl, n76, m76, e76⟩
  replace E := gr_trans E e76
  replace n32 := n32.mv0 e76
  replace n33 := n33.mv0 e76
  replace n34 := n34.mv0 e76
  replace n35 := n35.mv0 e76
  replace n36 := n36.mv0 e76
  replace b37 := b37.mv0 e76
  replace b38 := b38.mv0 e76
  replace b39 := b39.mv0 e76
  replace b40 := b40.mv0 e76
  replace b41 := b41.mv0 e76
  replace b54 := b54.mv0 e76
  replace k56 := k56.mv0 e76
  refine ⟨_, rfl, M.run rfl <| M.cl rfl (planF_go 0 1 1 2 w76) ?_⟩
  rintro e w77 ⟨P77, Q77, rfl, rp77, rq77, e77⟩
  replace E := gr_trans E e77
  replace n32 := n32.mv0 e77
  replace n33 := n33.mv0 e77
  replace n34 := n34.mv0 e77
  replace n35 := n35.mv0 e77
  replace n36 := n36.mv0 e77
  replace b37 := b37.mv0 e77
  replace b38 := b38.mv0 e77
  replace b39 := b39.mv0 e77
  replace b40 := b40.mv0 e77
  replace b41 := b41.mv0 e77
  replace b54 := b54.mv0 e77
  replace k56 := k56.mv0 e77
  replace n76 := n76.mv0 e77
  refine ⟨_, rfl, M.run rfl <| M.bs rfl fun h78 w78 k78 e78 l78 => ?_⟩
  replace E := gr_trans E e78
  replace n32 := n32.mv0 e78
  replace n33 := n33.mv0 e78
  replace n34 := n34.mv0 e78
  replace n35 := n35.mv0 e78
  replace n36 := n36.mv0 e78
  replace b37 := b37.mv0 e78
  replace b38 := b38.mv0 e78
  replace b39 := b39.mv0 e78
  replace b40 := b40.mv0 e78
  replace b41 := b41.mv0 e78
  replace b54 := b54.mv0 e78
  replace k56 := k56.mv0 e78
  replace n76 := n76.mv0 e78
  replace rp77 := Rd.mv rp77 e78
  replace rq77 := Rd.mv rq77 e78
  have hc := Leave_go tankS (planP 0 1 1 2) [⟨2, 0, 0⟩] (some ⟨x76, 0, none⟩) 2 P77 2 Q77 2 (some ⟨h78, 0, none⟩) 1 w78 (rdT n76) rp77 rq77 (rdD [⟨2, 0, 0⟩] k78 (by simp [maxLen]))
  rw [nm_leave2] at hc
  generalize leaveR tankS (planP 0 1 1 2) [⟨2, 0, 0⟩] = l6 at hc
  refine M.run rfl <| M.cl rfl hc ?_
  clear hc
  rintro e w79 ⟨R79, c79, rfl, -, e79⟩
  replace E := gr_trans E e79
  replace n32 := n32.mv0 e79
  replace n33 := n33.mv0 e79
  replace n34 := n34.mv0 e79
  replace n35 := n35.mv0 e79
  replace n36 := n36.mv0 e79
  replace b37 := b37.mv0 e79
  replace b38 := b38.mv0 e79
  replace b39 := b39.mv0 e79
  replace b40 := b40.mv0 e79
  replace b41 := b41.mv0 e79
  replace b54 := b54.mv0 e79
  replace k56 := k56.mv0 e79
  replace n76 := n76.mv0 e79
  replace rp77 := Rd.mv rp77 e79
  replace rq77 := Rd.mv rq77 e79
  replace k78 := k78.mv0 e79
  refine ⟨_, rfl, M.run rfl <| M.cl rfl (tankB_go w79) ?_⟩
  rintro e w80 ⟨x80, rfl, n80, m80, e80⟩
  replace E := gr_trans E e80
  replace n32 := n32.mv0 e80
  replace n33 := n33.mv0 e80
  replace n34 := n34.mv0 e80
  replace n35 := n35.mv0 e80
  replace n36 := n36.mv0 e80
  replace b37 := b37.mv0 e80
  replace b38 := b38.mv0 e80
  replace b39 := b39.mv0 e80
  replace b40 := b40.mv0 e80
  replace b41 := b41.mv0 e80
  replace b54 := b54.mv0 e80
  replace k56 := k56.mv0 e80
  refine ⟨_, rfl, M.run rfl <| M.bs rfl fun h81 w81 k81 e81 l81 => ?_⟩
  replace E := gr_trans E e81
  replace n32 := n32.mv0 e81
  replace n33 := n33.mv0 e81
  replace n34 := n34.mv0 e81
  replace n35 := n35.mv0 e81
  replace n36 := n36.mv0 e81
  replace b37 := b37.mv0 e81
  replace b38 := b38.mv0 e81
  replace b39 := b39.mv0 e81
  replace b40 := b40.mv0 e81
  replace b41 := b41.mv0 e81
  replace b54 := b54.mv0 e81
  replace k56 := k56.mv0 e81
  replace n80 := n80.mv0 e81
  have hc := Deliver_go tankS [1] (some ⟨x80, 0, none⟩) 2 (some ⟨h81, 0, none⟩) 1 w81 (rdT n80) (rd_lit k81 [1] rfl (by simp [maxLen]))
  rw [nm_deliverE] at hc
  generalize deliverR tankS [1] = l7 at hc
  generalize deliverC tankS [1] = l8 at hc
  refine M.run rfl <| M.cl rfl hc ?_
  clear hc
  rintro e w82 ⟨R82, c82, rfl, -, e82⟩
  replace E := gr_trans E e82
  replace n32 := n32.mv0 e82
  replace n33 := n33.mv0 e82
  replace n34 := n34.mv0 e82
  replace n35 := n35.mv0 e82
  replace n36 := n36.mv0 e82
  replace b37 := b37.mv0 e82
  replace b38 := b38.mv0 e82
  replace b39 := b39.mv0 e82
  replace b40 := b40.mv0 e82
  replace b41 := b41.mv0 e82
  replace b54 := b54.mv0 e82
  replace k56 := k56.mv0 e82
  replace n80 := n80.mv0 e82
  replace k81 := k81.mv0 e82
  have hc := checkStore_go ⟨401, 50, 20, 30, tankS.nights⟩ (some ⟨x32, 0, none⟩) 2 w82 (rdT n32)
  rw [nm_check.1] at hc
  refine ⟨_, rfl, M.run rfl <| M.ldA rfl rfl b37.cellsAll <| M.run rfl <| M.cl rfl hc ?_⟩
  clear hc
  rintro e w83 ⟨rfl, e83⟩
  replace E := gr_trans E e83
  replace n32 := n32.mv0 e83
  replace n33 := n33.mv0 e83
  replace n34 := n34.mv0 e83
  replace n35 := n35.mv0 e83
  replace n36 := n36.mv0 e83
  replace b37 := b37.mv0 e83
  replace b38 := b38.mv0 e83
  replace b39 := b39.mv0 e83
  replace b40 := b40.mv0 e83
  replace b41 := b41.mv0 e83
  replace b54 := b54.mv0 e83
  replace k56 := k56.mv0 e83
  have hc := checkStore_go ⟨100, 0, 20, 30, tankS.nights⟩ (some ⟨x33, 0, none⟩) 2 w83 (rdT n33)
  rw [nm_check.2.1] at hc
  refine ⟨_, rfl, M.run rfl <| M.ldA rfl rfl b38.cellsAll <| M.run rfl <| M.cl rfl hc ?_⟩
  clear hc
  rintro e w84 ⟨rfl, e84⟩
  replace E := gr_trans E e84
  replace n32 := n32.mv0 e84
  replace n33 := n33.mv0 e84
  replace n34 := n34.mv0 e84
  replace n35 := n35.mv0 e84
  replace n36 := n36.mv0 e84
  replace b37 := b37.mv0 e84
  replace b38 := b38.mv0 e84
  replace b39 := b39.mv0 e84
  replace b40 := b40.mv0 e84
  replace b41 := b41.mv0 e84
  replace b54 := b54.mv0 e84
  replace k56 := k56.mv0 e84
  have hc := checkStore_go ⟨100, 50, 20, 101, tankS.nights⟩ (some ⟨x34, 0, none⟩) 2 w84 (rdT n34)
  rw [nm_check.2.2.1] at hc
  refine ⟨_, rfl, M.run rfl <| M.ldA rfl rfl b39.cellsAll <| M.run rfl <| M.cl rfl hc ?_⟩
  clear hc
  rintro e w85 ⟨rfl, e85⟩
  replace E := gr_trans E e85
  replace n32 := n32.mv0 e85
  replace n33 := n33.mv0 e85
  replace n34 := n34.mv0 e85
  replace n35 := n35.mv0 e85
  replace n36 := n36.mv0 e85
  replace b37 := b37.mv0 e85
  replace b38 := b38.mv0 e85
  replace b39 := b39.mv0 e85
  replace b40 := b40.mv0 e85
  replace b41 := b41.mv0 e85
  replace b54 := b54.mv0 e85
  replace k56 := k56.mv0 e85
  have hc := checkStore_go ⟨100, 50, 20, 30, [⟨15, 1, 3, 2, 3⟩, ⟨4, 1, 2, 2, 2⟩]⟩ (some ⟨x35, 0, none⟩) 2 w85 (rdN [⟨15, 1, 3, 2, 3⟩, ⟨4, 1, 2, 2, 2⟩] n35 (by simp [maxLen]))
  rw [nm_check.2.2.2.1] at hc
  refine ⟨_, rfl, M.run rfl <| M.ldA rfl rfl b40.cellsAll <| M.run rfl <| M.cl rfl hc ?_⟩
  clear hc
  rintro e w86 ⟨rfl, e86⟩
  replace E := gr_trans E e86
  replace n32 := n32.mv0 e86
  replace n33 := n33.mv0 e86
  replace n34 := n34.mv0 e86
  replace n35 := n35.mv0 e86
  replace n36 := n36.mv0 e86
  replace b37 := b37.mv0 e86
  replace b38 := b38.mv0 e86
  replace b39 := b39.mv0 e86
  replace b40 := b40.mv0 e86
  replace b41 := b41.mv0 e86
  replace b54 := b54.mv0 e86
  replace k56 := k56.mv0 e86
  have hc := checkStore_go ⟨100, 50, 20, 30, [⟨5, 4, 3, 2, 3⟩, ⟨4, 1, 2, 2, 2⟩]⟩ (some ⟨x36, 0, none⟩) 2 w86 (rdN [⟨5, 4, 3, 2, 3⟩, ⟨4, 1, 2, 2, 2⟩] n36 (by simp [maxLen]))
  rw [nm_check.2.2.2.2.1] at hc
  refine ⟨_, rfl, M.run rfl <| M.ldA rfl rfl b41.cellsAll <| M.run rfl <| M.cl rfl hc ?_⟩
  clear hc
  rintro e w87 ⟨rfl, e87⟩
  replace E := gr_trans E e87
  replace n32 := n32.mv0 e87
  replace n33 := n33.mv0 e87
  replace n34 := n34.mv0 e87
  replace n35 := n35.mv0 e87
  replace n36 := n36.mv0 e87
  replace b37 := b37.mv0 e87
  replace b38 := b38.mv0 e87
  replace b39 := b39.mv0 e87
  replace b40 := b40.mv0 e87
  replace b41 := b41.mv0 e87
  replace b54 := b54.mv0 e87
  replace k56 := k56.mv0 e87
  have hc := checkStore_go ⟨100, 50, 20, 30, List.replicate 7 ⟨0, 0, 0, 0, 0⟩⟩ (some ⟨h56, 0, none⟩) 7 w87 (rdN7 k56)
  rw [nm_check.2.2.2.2.2.1] at hc
  refine ⟨_, rfl, M.run rfl <| M.ldA rfl rfl b54.cellsAll <| M.run rfl <| M.cl rfl hc ?_⟩
  clear hc
  rintro e w88 ⟨rfl, e88⟩
  replace E := gr_trans E e88
  replace n32 := n32.mv0 e88
  replace n33 := n33.mv0 e88
  replace n34 := n34.mv0 e88
  replace n35 := n35.mv0 e88
  replace n36 := n36.mv0 e88
  replace b37 := b37.mv0 e88
  replace b38 := b38.mv0 e88
  replace b39 := b39.mv0 e88
  replace b40 := b40.mv0 e88
  replace b41 := b41.mv0 e88
  replace b54 := b54.mv0 e88
  replace k56 := k56.mv0 e88
  have hc := checkStore_go ⟨0, 0, 0, 0, []⟩ none 0 w88 (rd_empty dNight _)
  rw [nm_check.2.2.2.2.2.2] at hc
  refine ⟨_, rfl, M.run rfl <| M.cl rfl hc ?_⟩
  clear hc
  rintro e w89 ⟨rfl, e89⟩
  replace E := gr_trans E e89
  replace n32 := n32.mv0 e89
  replace n33 := n33.mv0 e89
  replace n34 := n34.mv0 e89
  replace n35 := n35.mv0 e89
  replace n36 := n36.mv0 e89
  replace b37 := b37.mv0 e89
  replace b38 := b38.mv0 e89
  replace b39 := b39.mv0 e89
  replace b40 := b40.mv0 e89
  replace b41 := b41.mv0 e89
  replace b54 := b54.mv0 e89
  replace k56 := k56.mv0 e89
  refine ⟨_, rfl, M.run rfl <| M.cl rfl (awake_go w89) ?_⟩
  rintro e w90 ⟨rfl, e90⟩
  exact ⟨_, rfl, M.run rfl <| M.retF rfl rfl ⟨rfl, gr_trans E e90⟩⟩
end Go.Proofs.Ytaimlmfncjbmjaa
