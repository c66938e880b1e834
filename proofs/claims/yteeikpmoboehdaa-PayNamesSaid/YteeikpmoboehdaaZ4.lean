/- A part of the proof: further walks (merged from several texts: YteeikpmoboehdaaMO, YteeikpmoboehdaaMP, YteeikpmoboehdaaMQ, YteeikpmoboehdaaMR). -/
import Derived.Test.YteeikpmoboehdaaZ3
set_option linter.unusedVariables false
set_option linter.unusedSimpArgs false
section
/- Walk: the law PayMore. -/
set_option linter.unusedVariables false
namespace Py
theorem set_at {t : List Int} {i : Nat} {v : Int} (hi : i < t.length) (j : Nat) : at0 (t.set i v) j = if j = i then v else at0 t j := at0_set hi j
theorem truth_set {a : Acc} {t : List Int} (ht : truthOk a t = true) (ha : Ok a) {i : Nat} (hi : i < t.length) {v : Int} (h1 : (dAt a i).lo ≤ v) (h2 : v ≤ (dAt a i).hi) : truthOk a (t.set i v) = true := by
  obtain ⟨hl, hin⟩ := Go.Proofs.Yteeikpmoboehdaa.truth_in ha ht
  refine truthOk_of (by rw [List.length_set, hl]) fun j hj => ?_
  rw [List.length_set] at hj
  rw [set_at hi]
  by_cases h : j = i
  · subst h; rw [if_pos rfl]; exact ⟨h1, h2⟩
  · rw [if_neg h]; exact (hin j hj).1
theorem bal_more {a : Acc} (ha : Ok a) {t : List Int} (ht : truthOk a t = true) {i : Nat} (hi : i < t.length) {v : Int} (h1 : at0 t i ≤ v) {s : Int} (hp : (dAt a i).payer ≠ s) : bal a t s ≤ bal a (t.set i v) s := by
  unfold bal balTo
  rw [List.length_set]
  refine sumTo_le _ fun j hj => ?_
  show change a (dAt a j) (at0 t j) s ≤ change a (dAt a j) (at0 (t.set i v) j) s
  rw [set_at hi]
  by_cases h : j = i
  · subst h; rw [if_pos rfl]; exact change_mono ha _ hp h1
  · rw [if_neg h]; exact Int.le_refl _
theorem bal_less {a : Acc} (ha : Ok a) {t : List Int} (ht : truthOk a t = true) {i : Nat} (hi : i < t.length) {v : Int} (h1 : at0 t i ≤ v) {s : Int} (hp : (dAt a i).payer = s) : bal a (t.set i v) s ≤ bal a t s := by
  obtain ⟨hl, hin⟩ := Go.Proofs.Yteeikpmoboehdaa.truth_in ha ht
  unfold bal balTo
  rw [List.length_set]
  refine sumTo_le _ fun j hj => ?_
  show change a (dAt a j) (at0 (t.set i v) j) s ≤ change a (dAt a j) (at0 t j) s
  rw [set_at hi]
  by_cases h : j = i
  · subst h; rw [if_pos rfl]; exact change_anti ha _ hp (hin j hj).2.1 h1
  · rw [if_neg h]; exact Int.le_refl _
theorem balL_at (a : Acc) (t : List Int) {m s : Nat} (h : s < m) : (balL a t m)[s]'(by rw [balL_len]; exact h) = bal a t (s : Int) := by simp [balL]
end Py
namespace Go.Proofs.Yteeikpmoboehdaa
open Go Go.Vc Go.RowKit Py
set_option maxHeartbeats 4000000 in
set_option maxRecDepth 100000 in
theorem PayMore_go (a : Acc) (wl : List Int) (which by_ : Int) (A : Option Addr) (c : Nat) (U : Option Addr) (u : Nat) (w : World) (hA : Rd dDsp w A c a.ds) (hU : Rd dW w U u wl) (hb : ∀ x ∈ wl, 0 ≤ x ∧ x ≤ 65535) (m0 : 0 ≤ which) (m1 : which ≤ 255) (y0 : 0 ≤ by_) (y1 : by_ ≤ 255) :
    Calls Try.prog 7 #[vAcc a A c, .slice U wl.length u, .int .u8 which, .int .u8 by_] w fun e w' => e = .returned (.bool true) ∧ w.grownBy w' none := by
  refine calls (G := G) (args := [vAcc a A c, .slice U wl.length u, .int .u8 which, .int .u8 by_]) Try.func7 rfl rfl rfl ?_
  refine M.run rfl <| M.nw (cs := [.int .i64 a.stations, .int .i64 a.rate, .int .i64 a.keeps, .slice A a.ds.length c]) rfl fun g1 w1 b1 e1 l1 => M.run rfl <| M.ldA rfl rfl b1.cellsAll <| M.run rfl <| M.cl rfl (ready_go a A c w1 (hA.mv e1)) ?_
  rintro e w2 ⟨⟨th, rfl, hth⟩, e2⟩
  have e02 := gr_trans e1 e2
  cases th with
  | false =>
    refine ⟨_, rfl, M.at_ [25] rfl <| M.caseT 25 rfl rfl <| M.run rfl <| M.condT rfl rfl <| M.run rfl <| M.cl rfl (awake_go w2) ?_⟩
    rintro e w3 ⟨rfl, e3⟩
    exact ⟨_, rfl, M.run rfl <| M.retF rfl rfl ⟨rfl, gr_trans e02 e3⟩⟩
  | true =>
  have hf := hth rfl
  have ha := fault_ok hf
  have h6 := ha.six
  have h8' : ∀ d ∈ a.ds, d.passed.length ≤ 1000000 := fun d hd => by have := (ha.d d hd).five; omega
  refine ⟨_, rfl, M.at_ [25] rfl <| M.caseF 25 rfl rfl <| M.run rfl <| M.ld rfl ((b1.mv0 e2).cellsAll.one 3 rfl rfl) <| M.run rfl <| M.cond rfl (fun h => ?_) (fun h => ?_)⟩
  · refine M.run rfl <| M.cl rfl (awake_go w2) ?_
    rintro e w3 ⟨rfl, e3⟩
    exact ⟨_, rfl, M.run rfl <| M.retF rfl rfl ⟨rfl, gr_trans e02 e3⟩⟩
  have hn0 : 0 < a.ds.length := by have := of_decide_eq_false h; omega
  have q0 : 0 ≤ which.tmod (a.ds.length : Int) := by rw [Int.tmod_eq_emod_of_nonneg m0]; exact Int.emod_nonneg _ (by omega)
  have q1 : which.tmod (a.ds.length : Int) < a.ds.length := by rw [Int.tmod_eq_emod_of_nonneg m0]; exact Int.emod_lt_of_pos _ (by omega)
  refine M.run rfl <| M.ld rfl ((b1.mv0 e2).cellsAll.one 3 rfl rfl) <| M.at_ [37] rfl ?_
  rw [w64 (x := which) (by omega) (by omega)]
  refine M.run rfl <| M.ys (YS.rem rfl (by omega)) ?_
  rw [show which.tmod (a.ds.length : Int) = (((which.tmod (a.ds.length : Int)).toNat : Nat) : Int) by omega]
  have hkl : (which.tmod (a.ds.length : Int)).toNat < a.ds.length := by omega
  generalize (which.tmod (a.ds.length : Int)).toNat = i at hkl
  refine M.run rfl <| M.ldA rfl rfl (b1.mv0 e2).cellsAll <| M.run rfl <| M.cl rfl (Picked_go a ha wl A c U u w2 (hA.mv e02) (hU.mv e02) hb) ?_
  rintro e w3 ⟨t, T, tc, rfl, hT, e3, ht⟩
  obtain ⟨htl, htin⟩ := Go.Proofs.Yteeikpmoboehdaa.truth_in ha ht
  have hit : i < t.length := by omega
  have hti := htin i hit
  have e13 := gr_trans e2 e3
  have e03 := gr_trans e1 e13
  have rT : Rd dI w3 T tc t := hT.rd (by decide)
  refine ⟨_, rfl, M.run rfl <| M.cl rfl (list_go t T tc w3 rT (by omega)) ?_⟩
  rintro e w4 ⟨V, vc, rfl, hV, e4⟩
  have e14 := gr_trans e13 e4
  have e04 := gr_trans e1 e14
  have rT4 := rT.mv e4
  obtain ⟨hA1, P, p, hP, hdc⟩ := rd_dsp hA hkl
  have hdo := dAt_ok ha hkl
  have hp5 := hdo.five
  rw [dAt_get hkl] at hdc
  obtain ⟨hT1, hTc⟩ := rd_flat rT4 hit
  rw [at0_get hit] at hTc
  obtain ⟨gv, cv, rfl, hgv, bV, hlV, _, hset⟩ := own_int hV hit
  refine ⟨_, rfl, M.run rfl <| M.drawG [19] (by kernel_rfl) fun w5 e5 => ?_⟩
  have e15 := gr_trans e14 e5
  have e05 := gr_trans e1 e15
  have hby : by_.tmod 8 = by_ % 8 := Int.tmod_eq_emod_of_nonneg y0
  refine D.run rfl <| D.ld 3 rfl rfl rfl rfl (fun w' hw => ((b1.mv0 e15).mv0 hw).cellsAll.one 3 rfl rfl) <| D.ys 5 rfl rfl rfl (YS.ix rfl (by omega) (by omega) hA1) <| D.run rfl <| D.ld 8 rfl rfl rfl rfl (v := .int .i64 (dAt a i).hi) (fun w' hw => (hdc w' (gr_below (gr_trans e05 hw))).one 2 rfl rfl) <|
    D.ys 11 rfl rfl rfl (YS.ix rfl (by omega) (by omega) hT1) <| D.ld 12 rfl rfl rfl rfl (v := .int .i64 (at0 t i)) (fun w' hw => (hTc w' (gr_below (gr_trans e5 hw))).one 0 rfl rfl) <| D.at_ [60] rfl ?_
  rw [w64 (x := by_) (by omega) (by omega), w64 (x := at0 t i + by_.tmod 8) (by omega) (by omega), hby]
  obtain ⟨v, hv⟩ : ∃ v, v = (if at0 t i + by_ % 8 < (dAt a i).hi then at0 t i + by_ % 8 else (dAt a i).hi) := ⟨_, rfl⟩
  have hv1 : at0 t i ≤ v ∧ v ≤ (dAt a i).hi := by rw [hv]; split <;> omega
  have hv0 : (dAt a i).lo ≤ v := by omega
  refine D.run rfl ?_
  rw [← hv]
  clear hv
  refine D.ys 18 rfl rfl rfl (YS.ix rfl (by omega) (by omega) rfl) <| D.one 19 rfl rfl <| M.storeA (cs := cv) (off := i) (vs := [.int .i64 v]) rfl rfl (by exact ad1 gv i) (bV.mv0 e5) (by simp; omega) rfl fun w6 b6 e6 => M.run rfl <| M.end_ ⟨.inl ⟨rfl, trivial⟩, D.done_ rfl ?_⟩
  have e06 := gr_fresh e05 e6 (Nat.le_trans (gr_trans e1 e13).size hgv)
  have e36 : w3.grownBy w6 none := gr_fresh (gr_trans e4 e5) e6 hgv
  have rV6 : Rd dI w6 (some ⟨gv, 0, none⟩) vc (t.set i v) := (hset v w6 b6).rd (by decide)
  have e16 := gr_trans e13 e36
  have rT6 := rT.mv e36
  have ht2 := truth_set ht ha hit hv0 hv1.2
  have hvt : at0 (t.set i v) i = v := by rw [set_at hit, if_pos rfl]
  have hul : (t.set i v).length = t.length := List.length_set ..
  have hmore := fun s (hp : (dAt a i).payer ≠ s) => bal_more ha ht hit hv1.1 (s := s) hp
  have hless := fun s (hp : (dAt a i).payer = s) => bal_less ha ht hit hv1.1 (s := s) hp
  have hit2 : i < (t.set i v).length := by omega
  have htl2 : (t.set i v).length = a.ds.length := by omega
  generalize t.set i v = t2 at *
  have hacc := fun w' (hw : w.grownBy w' none) => Account_go a A c w' (hA.mv hw) (by omega) h8'
  have hin : within (i : Int) 0 ((a.ds.length : Int) - 1) = true := Py.within_iff.2 (by omega)
  have s1 := sharesE_ok (n := at0 t i) hf hin (by rw [Int.toNat_natCast]; exact Py.within_iff.2 (htin i hit).1)
  have s2 := sharesE_ok (n := v) hf hin (by rw [Int.toNat_natCast]; exact Py.within_iff.2 ⟨hv0, hv1.2⟩)
  rw [Int.toNat_natCast] at s1 s2
  obtain ⟨k1, k2⟩ := balanceE_ok hf ht
  obtain ⟨k3, k4⟩ := balanceE_ok hf ht2
  obtain ⟨hT1, hTc⟩ := rd_flat rT6 hit
  rw [at0_get hit] at hTc
  obtain ⟨_, hVc⟩ := rd_flat rV6 hit2
  rw [at0_get hit2, hvt] at hVc
  -- the shares
  refine M.run rfl <| M.drawG [] (by kernel_rfl) fun w7 e7 => ?_
  refine D.run rfl <| D.ldA 0 rfl rfl rfl rfl rfl (fun w' hw => ((b1.mv0 e16).mv0 (gr_trans e7 hw)).cellsAll) <| D.run rfl <| D.ys 5 rfl rfl rfl (YS.ix rfl (by omega) (by omega) hT1) <| D.ld 6 rfl rfl rfl rfl (v := .int .i64 (at0 t i)) (fun w' hw => (hTc w' (gr_below (gr_trans e7 hw))).one 0 rfl rfl) ?_
  refine D.one 1 rfl rfl <| M.cl rfl (hacc w7 (gr_trans e06 e7)) ?_
  rintro e w8 ⟨X8, x8, rfl, hX8, e8⟩
  refine ⟨_, rfl, M.run rfl <| M.end_ ⟨.inr e8, ?_⟩⟩
  refine D.one 7 rfl rfl <| M.cl rfl (Shares_go a i (at0 t i) X8 x8 w8 hX8) ?_
  rintro e w9 ⟨S, s, rfl, hS, e9⟩
  rw [s1.1, s1.2] at *
  rw [s1.2] at hS
  refine ⟨_, rfl, M.run rfl <| M.end_ ⟨.inr e9, D.run rfl <| D.done_ rfl ?_⟩⟩
  have e69 := gr_trans (gr_trans e7 e8) e9
  have rS9 : Rd dI w9 S s (share a (dAt a i) (at0 t i)) := hS.rd (by decide)
  refine M.run rfl <| M.drawG [] (by kernel_rfl) fun wa ea => ?_
  have e6a := gr_trans e69 ea
  refine D.run rfl <| D.ldA 0 rfl rfl rfl rfl rfl (fun w' hw => ((b1.mv0 e16).mv0 (gr_trans e6a hw)).cellsAll) <| D.run rfl <| D.ys 5 rfl rfl rfl (YS.ix rfl (by omega) (by omega) rfl) <| D.ld 6 rfl rfl rfl rfl (v := .int .i64 v) (fun w' hw => (hVc w' (gr_below (gr_trans e6a hw))).one 0 rfl rfl) ?_
  refine D.one 1 rfl rfl <| M.cl rfl (hacc wa (gr_trans e06 e6a)) ?_
  rintro e wb ⟨Xb, xb, rfl, hXb, eb⟩
  refine ⟨_, rfl, M.run rfl <| M.end_ ⟨.inr eb, ?_⟩⟩
  refine D.one 7 rfl rfl <| M.cl rfl (Shares_go a i v Xb xb wb hXb) ?_
  rintro e wc ⟨S2, s2', rfl, hS2, ec⟩
  rw [s2.2] at hS2
  rw [s2.1, s2.2]
  refine ⟨_, rfl, M.run rfl <| M.end_ ⟨.inr ec, D.run rfl <| D.done_ rfl ?_⟩⟩
  have e9c := gr_trans (gr_trans ea eb) ec
  have e6c := gr_trans e69 e9c
  have rSc := rS9.mv e9c
  have rS2c : Rd dI wc S2 s2' (share a (dAt a i) v) := hS2.rd (by decide)
  -- the balances
  refine M.run rfl <| M.ldA rfl rfl ((b1.mv0 e16).mv0 e6c).cellsAll <| M.run rfl <| M.cl rfl (hacc wc (gr_trans e06 e6c)) ?_
  rintro e wd ⟨Xd, xd, rfl, hXd, ed⟩
  refine ⟨_, rfl, M.run rfl <| M.cl rfl (list_go t T tc wd ((rT6.mv e6c).mv ed) (by omega)) ?_⟩
  rintro e we ⟨Q, q, rfl, hQ, ee⟩
  refine ⟨_, rfl, M.run rfl <| M.cl rfl (Balance_go a t Xd xd Q q we (hXd.mv ee) (hQ.rd (by decide))) ?_⟩
  rintro e wf ⟨B1, c1, rfl, hB1, ef⟩
  rw [k2] at hB1
  rw [k1, k2]
  have ecf := gr_trans (gr_trans ed ee) ef
  have e6f := gr_trans e6c ecf
  have rB1f : Rd dI wf B1 c1 (balL a t a.stations.toNat) := hB1.rd (by decide)
  refine ⟨_, rfl, M.run rfl <| M.ldA rfl rfl ((b1.mv0 e16).mv0 e6f).cellsAll <| M.run rfl <| M.cl rfl (hacc wf (gr_trans e06 e6f)) ?_⟩
  rintro e wg ⟨Xg, xg, rfl, hXg, eg⟩
  have hlc := list_go t2 _ vc wg ((rV6.mv e6f).mv eg) (by omega)
  rw [hul] at hlc
  refine ⟨_, rfl, M.run rfl <| M.cl rfl hlc ?_⟩
  rintro e wh ⟨Q2, q2, rfl, hQ2, eh⟩
  have hbc := Balance_go a t2 Xg xg Q2 q2 wh (hXg.mv eh) (hQ2.rd (by decide))
  rw [hul] at hbc
  refine ⟨_, rfl, M.run rfl <| M.cl rfl hbc ?_⟩
  rintro e wi ⟨B2, c2, rfl, hB2, ei⟩
  rw [k4] at hB2
  rw [k3, k4]
  have efi := gr_trans (gr_trans eg eh) ei
  have e6i := gr_trans e6f efi
  have e0i := gr_trans e06 e6i
  have e1i := gr_trans e16 e6i
  have b1i := b1.mv0 e1i
  have rB1 := rB1f.mv efi
  have rB2 : Rd dI wi B2 c2 (balL a t2 a.stations.toNat) := hB2.rd (by decide)
  have rS := rSc.mv (gr_trans ecf efi)
  have rS2 := rS2c.mv (gr_trans ecf efi)
  have hst1 := ha.one
  have hst7 := ha.seven
  have hbl := balL_len a t a.stations.toNat
  have hbl2 := balL_len a t2 a.stations.toNat
  have hsl := share_len a (dAt a i) (at0 t i)
  have hsl2 := share_len a (dAt a i) v
  refine ⟨_, rfl, M.at_ [102] rfl <| M.caseF 102 rfl rfl <| M.at_ [106] rfl <| M.caseF 106 rfl rfl <| M.at_ [110] rfl <| M.caseF 110 rfl rfl <| M.at_ [114] rfl <| M.caseF 114 rfl rfl <| M.at_ [121] rfl <| M.caseF 121 rfl (by simp [hsl, hsl2]) <| M.run rfl <| M.ld rfl (b1i.cellsAll.one 0 rfl rfl) <| M.at_ [128] rfl <| M.caseF 128 rfl (by simp [hbl]; omega) <| M.run rfl <| M.ld rfl (b1i.cellsAll.one 0 rfl rfl) <| M.run rfl <| M.condF rfl (by simp [hbl2]; omega) ?_⟩
  -- no share is smaller
  refine M.run rfl <| M.loop (σ := Nat) (fun z => [(4, .pointer (some ⟨g1, 0, none⟩)), (9, .int .i64 (i : Int)), (12, .slice S (share a (dAt a i) (at0 t i)).length s), (14, .slice S2 (share a (dAt a i) v).length s2'), (16, .slice B1 (balL a t a.stations.toNat).length c1), (18, .slice B2 (balL a t2 a.stations.toNat).length c2), (20, .int .i64 (z : Int))]) (fun s w' => s ≤ (dAt a i).passed.length ∧ wi.grownBy w' none) (fun s => (dAt a i).passed.length - s) 0 ⟨rfl, rfl, rfl, rfl, rfl, rfl, rfl, trivial⟩ ⟨Nat.zero_le _, gr_refl _ _⟩ ?_
  rintro k wj ⟨hk, ej⟩
  refine M.run rfl <| M.cond rfl (fun h => ?_) (fun h => ?_)
  · have hlt : k < (dAt a i).passed.length := by have := of_decide_eq_true h; omega
    obtain ⟨hS1, hSc⟩ := rd_flat rS (j := k) (by omega)
    obtain ⟨hS3, hSc2⟩ := rd_flat rS2 (j := k) (by omega)
    rw [at0_get (by omega), share_at _ _ _ hlt] at hSc hSc2
    have hle := shr_mono ha (dAt a i).passed.length hv1.1 k
    refine M.run rfl <| M.drawG [] (by kernel_rfl) fun wk ek => ?_
    have eik := gr_trans ej ek
    refine D.run rfl <| D.ys 2 rfl rfl rfl (YS.ix rfl (by omega) (by omega) hS3) <| D.ld 3 rfl rfl rfl rfl (v := .int .i64 (shr a (dAt a i).passed.length v k)) (fun w' hw => (hSc2 w' (gr_below (gr_trans eik hw))).one 0 rfl rfl) <| D.ys 6 rfl rfl rfl (YS.ix rfl (by omega) (by omega) hS1) <| D.ld 7 rfl rfl rfl rfl (v := .int .i64 (shr a (dAt a i).passed.length (at0 t i) k)) (fun w' hw => (hSc w' (gr_below (gr_trans eik hw))).one 0 rfl rfl) <|
      D.run rfl <| D.done_ rfl <| M.run rfl <| M.condF rfl (decide_eq_false (by omega)) <| M.run rfl <| M.end_ ⟨k + 1, ⟨rfl, rfl, rfl, rfl, rfl, rfl, nxt hlt (by omega), trivial⟩, ⟨by omega, eik⟩, by omega⟩
  -- the balances
  refine M.run rfl <| M.loop (σ := Nat) (fun s => [(4, .pointer (some ⟨g1, 0, none⟩)), (9, .int .i64 (i : Int)), (16, .slice B1 (balL a t a.stations.toNat).length c1), (18, .slice B2 (balL a t2 a.stations.toNat).length c2), (21, .int .i64 (s : Int))]) (fun s w' => s ≤ a.stations.toNat ∧ wi.grownBy w' none) (fun s => a.stations.toNat - s) 0 ⟨rfl, rfl, rfl, rfl, rfl, trivial⟩ ⟨Nat.zero_le _, ej⟩ ?_
  rintro s wl2 ⟨hs, el⟩
  have e1l := gr_trans e1i el
  have e0l := gr_trans e0i el
  refine M.run rfl <| M.ld rfl ((b1.mv0 e1l).cellsAll.one 0 rfl rfl) <| M.run rfl <| M.cond rfl (fun h => ?_) (fun h => ?_)
  rotate_left
  · refine M.run rfl <| M.cl rfl (awake_go wl2) ?_
    rintro e wm ⟨rfl, em⟩
    exact ⟨_, rfl, M.run rfl <| M.retF rfl rfl ⟨rfl, gr_trans e0l em⟩⟩
  have hlt : s < a.stations.toNat := by have := of_decide_eq_true h; omega
  obtain ⟨hb1, hbc1⟩ := rd_flat rB1 (j := s) (by omega)
  obtain ⟨hb2, hbc2⟩ := rd_flat rB2 (j := s) (by omega)
  rw [balL_at a _ hlt] at hbc1 hbc2
  refine M.run rfl <| M.drawG [] (by kernel_rfl) fun wm em => ?_
  have e1m := gr_trans e1l em
  have e0m := gr_trans e0l em
  have eim := gr_trans el em
  refine D.run rfl <| D.ld 2 rfl rfl rfl rfl (fun w' hw => ((b1.mv0 e1m).mv0 hw).cellsAll.one 3 rfl rfl) <| D.ys 4 rfl rfl rfl (YS.ix rfl (by omega) (by omega) hA1) <| D.run rfl <| D.ld 6 rfl rfl rfl rfl (v := .int .i64 (dAt a i).payer) (fun w' hw => (hdc w' (gr_below (gr_trans e0m hw))).one 0 rfl rfl) <| D.at_ [164] rfl <| D.case 164 rfl (fun h => ?_) (fun h => ?_)
  · have hle := hless (s : Int) (of_decide_eq_true h).symm
    refine D.run rfl <| D.ys 11 rfl rfl rfl (YS.ix rfl (by omega) (by omega) hb2) <| D.ld 12 rfl rfl rfl rfl (v := .int .i64 (bal a t2 (s : Int))) (fun w' hw => (hbc2 w' (gr_below (gr_trans eim hw))).one 0 rfl rfl) <| D.ys 15 rfl rfl rfl (YS.ix rfl (by omega) (by omega) hb1) <| D.ld 16 rfl rfl rfl rfl (v := .int .i64 (bal a t (s : Int))) (fun w' hw => (hbc1 w' (gr_below (gr_trans eim hw))).one 0 rfl rfl) <|
      D.at_ [175] rfl <| D.caseF 175 rfl (decide_eq_false (by omega)) ?_
    refine D.run rfl <| D.ld 22 rfl rfl rfl rfl (fun w' hw => ((b1.mv0 e1m).mv0 hw).cellsAll.one 3 rfl rfl) <| D.ys 24 rfl rfl rfl (YS.ix rfl (by omega) (by omega) hA1) <| D.run rfl <| D.ld 26 rfl rfl rfl rfl (v := .int .i64 (dAt a i).payer) (fun w' hw => (hdc w' (gr_below (gr_trans e0m hw))).one 0 rfl rfl) <| D.at_ [184] rfl <| D.caseF 184 rfl (by simpa using h) <| D.run rfl <|
      D.done_ rfl <| M.run rfl <| M.condF rfl rfl <| M.run rfl <| M.end_ ⟨s + 1, ⟨rfl, rfl, rfl, rfl, nxt hlt (by omega), trivial⟩, ⟨by omega, eim⟩, by omega⟩
  · have hle := hmore (s : Int) (fun he => of_decide_eq_false h he.symm)
    refine D.run rfl <| D.ld 22 rfl rfl rfl rfl (fun w' hw => ((b1.mv0 e1m).mv0 hw).cellsAll.one 3 rfl rfl) <| D.ys 24 rfl rfl rfl (YS.ix rfl (by omega) (by omega) hA1) <| D.run rfl <| D.ld 26 rfl rfl rfl rfl (v := .int .i64 (dAt a i).payer) (fun w' hw => (hdc w' (gr_below (gr_trans e0m hw))).one 0 rfl rfl) <| D.at_ [184] rfl <| D.caseT 184 rfl (by simpa using h) <|
      D.run rfl <| D.ys 31 rfl rfl rfl (YS.ix rfl (by omega) (by omega) hb2) <| D.ld 32 rfl rfl rfl rfl (v := .int .i64 (bal a t2 (s : Int))) (fun w' hw => (hbc2 w' (gr_below (gr_trans eim hw))).one 0 rfl rfl) <| D.ys 35 rfl rfl rfl (YS.ix rfl (by omega) (by omega) hb1) <| D.ld 36 rfl rfl rfl rfl (v := .int .i64 (bal a t (s : Int))) (fun w' hw => (hbc1 w' (gr_below (gr_trans eim hw))).one 0 rfl rfl) <| D.run rfl <|
      D.done_ rfl <| M.run rfl <| M.condF rfl (decide_eq_false (by omega)) <| M.run rfl <| M.end_ ⟨s + 1, ⟨rfl, rfl, rfl, rfl, nxt hlt (by omega), trivial⟩, ⟨by omega, eim⟩, by omega⟩
end Go.Proofs.Yteeikpmoboehdaa
end
section
/- Walk: the law PayAlone. -/
set_option linter.unusedVariables false
namespace Py
theorem fault_iff {a : Acc} : fault a = 0 ↔ (decide (a.stations > 7) = false ∧ decide ((a.ds.length : Int) > 6) = false ∧ (a.ds.all fun d => decide ((d.passed.length : Int) ≤ 5)) = true) ∧ decide (a.stations < 1) = false ∧ within a.rate 0 20 = true ∧ within a.keeps 0 100 = true ∧ a.ds.all (dispatchOk a.stations) = true := by
  unfold fault Acc.wide Acc.bad
  cases decide (a.stations > 7) <;> cases decide ((a.ds.length : Int) > 6) <;> cases (a.ds.all fun d => decide ((d.passed.length : Int) ≤ 5)) <;> cases decide (a.stations < 1) <;> cases within a.rate 0 20 <;> cases within a.keeps 0 100 <;> cases a.ds.all (dispatchOk a.stations) <;> simp
theorem all_set {α : Type} {f : α → Bool} {l : List α} {i : Nat} {x : α} (h : l.all f = true) (hx : f x = true) : (l.set i x).all f = true := by
  rw [List.all_eq_true] at h ⊢
  intro y hy
  rcases List.mem_or_eq_of_mem_set hy with hy | rfl
  · exact h y hy
  · exact hx
def cutD (d : Dsp) : Dsp := { d with passed := d.passed.take 1 }
def oneA (a : Acc) (i : Nat) : Acc := { a with ds := a.ds.set i (cutD (dAt a i)) }
def eqA (a : Acc) : Acc := { a with keeps := 0 }
theorem cut_len {st : Int} {d : Dsp} (hd : DOk st d) : (cutD d).passed.length = 1 := by show (d.passed.take 1).length = 1; rw [List.length_take]; have := hd.some_; omega
theorem cut_ok {st : Int} {d : Dsp} (hd : DOk st d) (h : dispatchOk st d = true) : dispatchOk st (cutD d) = true := by
  have h0 := hd.some_
  have hp := hd.inside 0 h0
  have e : at0 (d.passed.take 1) 0 = at0 d.passed 0 := take_at0 d.passed (by omega) (by omega)
  unfold dispatchOk at h ⊢
  have hl : (cutD d).passed.length = 1 := cut_len hd
  rw [hl]
  simp only [Bool.and_eq_true, decide_eq_true_eq] at h ⊢
  refine ⟨?_, ⟨⟨⟨h.2.1.1.1.1, h.2.1.1.1.2⟩, h.2.1.1.2⟩, h.2.1.2⟩, by decide⟩
  refine passedOk_true fun k hk => ?_
  rw [hl] at hk
  obtain rfl : k = 0 := by omega
  refine ⟨?_, by simp⟩
  show station st (at0 (d.passed.take 1) 0) = true
  rw [e]; unfold station; exact within_iff.2 (by omega)
theorem one_fault {a : Acc} (h : fault a = 0) {i : Nat} (hi : i < a.ds.length) : fault (oneA a i) = 0 := by
  have ha := fault_ok h
  have hd := dAt_ok ha hi
  obtain ⟨⟨h1, h2, h3⟩, h4, h5, h6, h7⟩ := fault_iff.1 h
  refine fault_iff.2 ⟨⟨h1, by show decide (((a.ds.set i _).length : Int) > 6) = false; rw [List.length_set]; exact h2, all_set h3 (by rw [cut_len hd]; decide)⟩, h4, h5, h6, all_set h7 (cut_ok hd ?_)⟩
  rw [← dAt_get hi]
  exact List.all_eq_true.1 h7 _ (List.getElem_mem hi)
theorem eq_fault {a : Acc} (h : fault a = 0) : fault (eqA a) = 0 := by
  obtain ⟨⟨h1, h2, h3⟩, h4, h5, h6, h7⟩ := fault_iff.1 h
  exact fault_iff.2 ⟨⟨h1, h2, h3⟩, h4, h5, by show within 0 0 100 = true; decide, h7⟩
theorem one_at {a : Acc} {i : Nat} (hi : i < a.ds.length) : dAt (oneA a i) i = cutD (dAt a i) := by
  show (a.ds.set i (cutD (dAt a i))).getD i _ = _
  rw [List.getD_eq_getElem?_getD, List.getElem?_set_self hi]; rfl
theorem one_share {a : Acc} {d : Dsp} (h : d.passed.length = 1) (n : Int) : share a d n = [price a n] := by
  unfold share
  rw [h]
  show [shr a 1 n 0] = _
  unfold shr
  simp only [if_pos]
  congr 1
  simp
theorem eq_shr {a : Acc} {L : Nat} (hL : 0 < L) {n : Int} (k : Nat) : shr (eqA a) L n k = (price a n + k) / (L : Int) := by
  unfold shr kept
  show (price a n - price a n * 0 / 100 + k) / (L : Int) + (if k = 0 then price a n * 0 / 100 else 0) = _
  simp
theorem eq_up {a : Acc} {L : Nat} (hL : 0 < L) {n : Int} {k m : Nat} (h : k ≤ m) : shr (eqA a) L n k ≤ shr (eqA a) L n m := by
  rw [eq_shr hL, eq_shr hL]
  exact Int.ediv_le_ediv (by omega) (by omega)
theorem eq_near {a : Acc} {L : Nat} (hL : 0 < L) {n : Int} {k : Nat} (h : k < L) : shr (eqA a) L n k ≤ shr (eqA a) L n 0 + 1 := by
  have e : (price a n + ((0 : Nat) : Int)) / (L : Int) + 1 = (price a n + L) / (L : Int) := by
    rw [Int.add_ediv_of_dvd_right (Int.dvd_refl _), Int.ediv_self (by omega)]; simp
  rw [eq_shr hL, eq_shr hL, e]
  exact Int.ediv_le_ediv (by omega) (by omega)
end Py
namespace Go.Vc
open Go Go.RowKit Py
theorem seg_set (cs : List Value) (k i sz : Nat) (v : Value) : seg (cs.set k v) i sz = if k < i * sz then seg cs i sz else (seg cs i sz).set (k - i * sz) v := by
  unfold seg
  rw [List.drop_set]
  split
  · rfl
  · rw [List.take_set]
theorem set_over {cs : List Value} {k : Nat} {v : Value} (h : k < cs.length) : cs.take k ++ [v] ++ cs.drop (k + 1) = cs.set k v := by
  rw [List.set_eq_take_append_cons_drop, if_pos h, List.append_assoc]; rfl
/-- a dispatch of an own row, its stations cut short -/
theorem own_cut {e : Nat} {w : World} {base : Nat} {F : Nat → Prop} {A : Option Addr} {c : Nat} {ds : List Dsp} (h : Own dDsp e w base F A c ds) {j : Nat} (hj : j < ds.length) (hn : 1 ≤ ds[j].passed.length) :
    ∃ g cur P p, A = some ⟨g, 0, none⟩ ∧ base ≤ g ∧ Blk w g cur e ∧ (j + 1) * 4 ≤ cur.length ∧ p ≠ 0 ∧ (∀ w', w'.heap[g]? = w.heap[g]? → Cells w' ((adOf A).add (j * 4)) (encDsp ds[j] P p)) ∧
      ∀ w', (∀ b, F b → b ≠ g → w'.heap[b]? = w.heap[b]?) → Blk w' g (cur.take (j * 4 + 3) ++ [.slice P 1 p] ++ cur.drop (j * 4 + 3 + 1)) e → Own dDsp e w' base F A c (ds.set j (cutD ds[j])) := by
  rcases h with ⟨_, hx, _⟩ | ⟨g, cur, rfl, hb, hB, hlc, hm, hs, hx⟩
  · subst hx; simp at hj
  · have hs' : cur.length = c * 4 := hs
    have hjl : (j + 1) * 4 ≤ cur.length := by rw [hs']; exact Nat.mul_le_mul_right 4 (by omega)
    obtain ⟨P, p, hk, hsl⟩ := hx j _ (List.getElem?_eq_getElem hj)
    have hk' : seg cur j 4 = encDsp ds[j] P p := hk
    have hcap := hsl.cap
    refine ⟨g, cur, P, p, rfl, hb, hB, hjl, by omega, fun w' hw' => ?_, fun w' hF hw' => .inr ⟨g, _, rfl, hb, hw', by simpa using hlc, hm, ?_, fun i x hi => ?_⟩⟩
    · have hB' : Blk w' g cur e := hw'.trans hB
      rw [← hk']
      exact hB'.cells (j * 4) (a := (⟨g, 0, none⟩ : Addr).add (j * 4)) (by rw [add_plain, Nat.zero_add]) ⟨(cur.drop (j * 4)).drop 4, by unfold seg; rw [List.take_append_drop]⟩
    · rw [set_over (by omega), List.length_set, hs]
    · rw [set_over (by omega)]
      rw [List.getElem?_set] at hi
      have hlen : ∀ i x, ds[i]? = some x → (seg cur i 4).length = 4 := fun i x h => dDsp.len (hx i x h)
      show dDsp.K w' _ x (seg _ i 4)
      rw [seg_set]
      by_cases hji : j = i
      · subst hji
        rw [if_pos rfl, if_pos hj] at hi
        injection hi with hi
        subst hi
        rw [if_neg (by omega), hk', show j * 4 + 3 - j * 4 = 3 by omega]
        have hl1 : (ds[j].passed.take 1).length = 1 := by rw [List.length_take]; omega
        refine ⟨P, p, ?_, (hsl.take 1).move fun b hb => hF b hb.1 hb.2⟩
        unfold encDsp cutD
        simp only [List.set_cons_succ, List.set_cons_zero, hl1]
      · rw [if_neg hji] at hi
        have hk2 := hx i x hi
        have key : (if j * 4 + 3 < i * 4 then seg cur i 4 else (seg cur i 4).set (j * 4 + 3 - i * 4) (.slice P 1 p)) = seg cur i 4 := by
          split
          · rfl
          · rw [List.set_eq_of_length_le (by rw [hlen i x hi]; omega)]
        rw [key]
        exact dDsp.move hk2 fun b hb => hF b hb.1 hb.2
end Go.Vc
namespace Go.Proofs.Yteeikpmoboehdaa
open Go Go.Vc Go.RowKit Py
set_option maxHeartbeats 4000000 in
set_option maxRecDepth 100000 in
theorem PayAlone_go (a : Acc) (wl : List Int) (which : Int) (A : Option Addr) (c : Nat) (U : Option Addr) (u : Nat) (w : World) (hA : Rd dDsp w A c a.ds) (hU : Rd dW w U u wl) (hb : ∀ x ∈ wl, 0 ≤ x ∧ x ≤ 65535) (m0 : 0 ≤ which) (m1 : which ≤ 255) :
    Calls Try.prog 8 #[vAcc a A c, .slice U wl.length u, .int .u8 which] w fun e w' => e = .returned (.bool true) ∧ w.grownBy w' none := by
  refine calls (G := G) (args := [vAcc a A c, .slice U wl.length u, .int .u8 which]) Try.func8 rfl rfl rfl ?_
  refine M.run rfl <| M.nw (cs := [.int .i64 a.stations, .int .i64 a.rate, .int .i64 a.keeps, .slice A a.ds.length c]) rfl fun g1 w1 b1 e1 l1 => M.run rfl <| M.ldA rfl rfl b1.cellsAll <| M.run rfl <| M.cl rfl (ready_go a A c w1 (hA.mv e1)) ?_
  rintro e w2 ⟨⟨th, rfl, hth⟩, e2⟩
  have e02 := gr_trans e1 e2
  cases th with
  | false =>
    refine ⟨_, rfl, M.at_ [19] rfl <| M.caseT 19 rfl rfl <| M.run rfl <| M.condT rfl rfl <| M.run rfl <| M.cl rfl (awake_go w2) ?_⟩
    rintro e w3 ⟨rfl, e3⟩
    exact ⟨_, rfl, M.run rfl <| M.retF rfl rfl ⟨rfl, gr_trans e02 e3⟩⟩
  | true =>
  have hf := hth rfl
  have ha := fault_ok hf
  have h6 := ha.six
  refine ⟨_, rfl, M.at_ [19] rfl <| M.caseF 19 rfl rfl <| M.run rfl <| M.ld rfl ((b1.mv0 e2).cellsAll.one 3 rfl rfl) <| M.run rfl <| M.cond rfl (fun h => ?_) (fun h => ?_)⟩
  · refine M.run rfl <| M.cl rfl (awake_go w2) ?_
    rintro e w3 ⟨rfl, e3⟩
    exact ⟨_, rfl, M.run rfl <| M.retF rfl rfl ⟨rfl, gr_trans e02 e3⟩⟩
  have hn0 : 0 < a.ds.length := by have := of_decide_eq_false h; omega
  have q0 : 0 ≤ which.tmod (a.ds.length : Int) := by rw [Int.tmod_eq_emod_of_nonneg m0]; exact Int.emod_nonneg _ (by omega)
  have q1 : which.tmod (a.ds.length : Int) < a.ds.length := by rw [Int.tmod_eq_emod_of_nonneg m0]; exact Int.emod_lt_of_pos _ (by omega)
  refine M.run rfl <| M.ld rfl ((b1.mv0 e2).cellsAll.one 3 rfl rfl) <| M.at_ [31] rfl ?_
  rw [w64 (x := which) (by omega) (by omega)]
  refine M.run rfl <| M.ys (YS.rem rfl (by omega)) ?_
  rw [show which.tmod (a.ds.length : Int) = (((which.tmod (a.ds.length : Int)).toNat : Nat) : Int) by omega]
  have hkl : (which.tmod (a.ds.length : Int)).toNat < a.ds.length := by omega
  generalize (which.tmod (a.ds.length : Int)).toNat = i at hkl
  refine M.run rfl <| M.ldA rfl rfl (b1.mv0 e2).cellsAll <| M.run rfl <| M.cl rfl (Picked_go a ha wl A c U u w2 (hA.mv e02) (hU.mv e02) hb) ?_
  rintro e w3 ⟨t, T, tc, rfl, hT, e3, ht⟩
  obtain ⟨htl, htin⟩ := truth_in ha ht
  have hit : i < t.length := by omega
  have hti := htin i hit
  have e13 := gr_trans e2 e3
  have e03 := gr_trans e1 e13
  have rT : Rd dI w3 T tc t := hT.rd (by decide)
  obtain ⟨hT1, hTc⟩ := rd_flat rT hit
  rw [at0_get hit] at hTc
  refine ⟨_, rfl, M.run rfl <| M.ys (YS.ix rfl (by omega) (by omega) hT1) <| M.ld (v := .int .i64 (at0 t i)) rfl ((hTc w3 (Below.refl _ _)).one 0 rfl rfl) ?_⟩
  have hdo := dAt_ok ha hkl
  generalize hn : at0 t i = n at *
  -- two accounts
  have b13 := b1.mv0 e13
  refine M.run rfl <| M.drawN w3.heap.size (by kernel_rfl) fun w4 e4 => ?_
  have b14 := b13.mv0 e4
  have l14 := b13.lt
  refine D.run rfl <| D.ldA 0 rfl rfl rfl rfl rfl (fun w' hw => (hw.blk b14 l14).cellsAll) <| D.ldA 1 rfl rfl rfl rfl rfl (fun w' hw => (hw.blk b14 l14).cellsAll) ?_
  have e14 := gr_trans e13 e4
  have e04 := gr_trans e1 e14
  refine D.meet (σ := Nat × Nat) 2 [3, 2, 1, 0] (fun (g2, g3) => [(1, .slice U wl.length u), (2, .int .u8 which), (3, .pointer (some ⟨g1, 0, none⟩)), (7, .int .i64 (i : Int)), (8, .int .i64 n), (9, .pointer (some ⟨g2, 0, none⟩)), (10, .pointer (some ⟨g3, 0, none⟩)), (38, vAcc a A c), (39, vAcc a A c)])
    (fun (g2, g3) w' => w4.grownBy w' none ∧ Blk w' g2 [.int .i64 0, .int .i64 0, .int .i64 0, .slice none 0 0] 24 ∧ Blk w' g3 [.int .i64 0, .int .i64 0, .int .i64 0, .slice none 0 0] 24 ∧ w4.heap.size ≤ g2 ∧ w4.heap.size ≤ g3 ∧ g2 ≠ g3) (fun hcont => ?_) ?_
  · refine D.two 2 3 rfl rfl rfl ?_ ?_
    · exact M.nw rfl fun g2 w5 b5 e5 l5 => M.run rfl <| M.end_ ⟨.inr (Keep.of0 e5), D.one 3 rfl rfl <| M.nw rfl fun g3 w6 b6 e6 l6 => M.run rfl <| M.end_ ⟨.inr (Keep.of0 e6), D.weak rfl (by exact ⟨rfl, rfl, rfl, rfl, rfl, rfl, rfl, rfl, rfl, trivial⟩) (hcont (g2, g3) w6 ⟨gr_trans e5 e6, b5.mv0 e6, b6, l5, Nat.le_trans e5.size l6, by have := b5.lt; omega⟩)⟩⟩
    · exact M.nw rfl fun g3 w5 b5 e5 l5 => M.run rfl <| M.end_ ⟨.inr (Keep.of0 e5), D.one 2 rfl rfl <| M.nw rfl fun g2 w6 b6 e6 l6 => M.run rfl <| M.end_ ⟨.inr (Keep.of0 e6), D.weak rfl (by exact ⟨rfl, rfl, rfl, rfl, rfl, rfl, rfl, rfl, rfl, trivial⟩) (hcont (g2, g3) w6 ⟨gr_trans e5 e6, b6, b5.mv0 e6, Nat.le_trans e5.size l6, l5, by have := b5.lt; omega⟩)⟩⟩
  rintro ⟨g2, g3⟩ w5 ⟨e5, b2, b3, l2, l3, n23⟩
  have k2 : w3.heap.size ≤ g2 := Nat.le_trans e4.size l2
  have k3 : w3.heap.size ≤ g3 := Nat.le_trans e4.size l3
  refine D.one 4 rfl rfl <| M.store rfl rfl b2 rfl rfl fun w6 b6 e6 => M.run rfl <| M.end_ ⟨.inr (Keep.of e6 (fun g hg => by injection hg with hg; omega)), ?_⟩
  replace b6 : Blk w6 g2 [.int .i64 a.stations, .int .i64 a.rate, .int .i64 a.keeps, .slice A a.ds.length c] 24 := b6
  refine D.one 5 rfl rfl <| M.store rfl rfl (b3.mv1 e6 n23) rfl rfl fun w7 b7 e7 => M.run rfl <| M.end_ ⟨.inr (Keep.of e7 (fun g hg => by injection hg with hg; omega)), ?_⟩
  replace b7 : Blk w7 g3 [.int .i64 a.stations, .int .i64 a.rate, .int .i64 a.keeps, .slice A a.ds.length c] 24 := b7
  have b27 := b6.mv1 e7 (Ne.symm n23)
  have e47 : w4.grownBy w7 none := gr_fresh (gr_fresh e5 e6 l2) e7 l3
  have e17 := gr_trans e14 e47
  have e07 := gr_trans e1 e17
  have b17 := b1.mv0 e17
  have hA1 : A = some (adOf A) := (hA.at_ 0 _ (List.getElem?_eq_getElem hn0)).1
  have hcap := hA.cap
  have hA7 : Rd dDsp w7 A c a.ds := hA.mv e07
  -- a copy of the list
  refine D.run rfl <| D.done_ rfl <| M.run rfl <| M.bs0 rfl fun gi w8 b8 e8 l8 => M.run rfl <| M.ld rfl ((b17.mv0 e8).cellsAll.one 3 rfl rfl) <| M.run rfl <| M.appS (d := dDsp) rfl rfl (own_bs0 dDsp (fun b => b < w.heap.size) b8 l8) rfl (by decide) rfl (ys := a.ds) rfl (fun h => by rw [hA1] at h; cases h) (rd_srcD (((hA.sinceF (gr_below (gr_trans e07 e8)) : Sl dDsp w8 (· < w.heap.size) A c a.ds)).mono (fun b hb => ⟨hb, fun he => by injection he with he; have he' : b = gi := he; have := e07.size; omega⟩))) e8.size (by show (0 + a.ds.length) * 48 ≤ _; omega) (by decide) fun X x w9 hX e9 hat1 => ?_
  rw [List.nil_append] at hX ⊢
  have e79 := (own_bs0 dDsp (fun b => b < w.heap.size) b8 l8).gr e8 e9 (Nat.le_refl _)
  have hXg := hX.blkGe
  refine M.run rfl <| M.storeA (off := 3) (vs := [.slice X a.ds.length x]) rfl rfl rfl (b27.mv0 e79) (by simp) rfl fun w10 b10 e10 => ?_
  replace b10 : Blk w10 g2 [.int .i64 a.stations, .int .i64 a.rate, .int .i64 a.keeps, .slice X a.ds.length x] 24 := b10
  have l27 := b27.lt
  have l37 := b7.lt
  have e4a : w4.grownBy w10 none := gr_fresh (gr_trans e47 e79) e10 l2
  have e0a := gr_trans e04 e4a
  have b3a : Blk w10 g3 [.int .i64 a.stations, .int .i64 a.rate, .int .i64 a.keeps, .slice A a.ds.length c] 24 := (b7.mv0 e79).mv1 e10 n23
  have hd1 := hdo.some_
  have l02 : w.heap.size ≤ g2 := Nat.le_trans e03.size k2
  have l03 : w.heap.size ≤ g3 := Nat.le_trans e03.size k3
  have hXa := hX.mv1 e10 (fun h => by have := (hXg g2 (by rw [h]; rfl)).1; omega) (fun h => by have h' : g2 < w.heap.size := h; omega)
  rw [← dAt_get hkl] at hd1
  obtain ⟨g, cur, P, p, rfl, hg, bX, hlX, hp0, hcX, hset⟩ := own_cut hXa hkl hd1
  rw [dAt_get hkl] at hcX hset
  have n2 : g2 ≠ g := by omega
  refine M.run rfl <| M.drawG [12] (by kernel_rfl) fun w11 e11 => ?_
  refine D.run rfl <| D.ld 1 rfl rfl rfl rfl (fun w' hw => ((b10.mv0 e11).mv0 hw).cellsAll.one 3 rfl rfl) <| D.run rfl <| D.ld 4 rfl rfl rfl rfl (fun w' hw => ((b10.mv0 e11).mv0 hw).cellsAll.one 3 rfl rfl) <| D.ys 6 rfl rfl rfl (YS.ix rfl (by omega) (by omega) rfl) <| D.run rfl <| D.ld 8 rfl rfl rfl rfl (v := .slice P (dAt a i).passed.length p) (fun w' hw => (hcX w' ((gr_trans e11 hw).block g bX.lt (by simp))).one 3 rfl rfl) <| D.ys 9 rfl rfl rfl (YS.slcTo rfl (by omega) (by omega)) ?_
  refine D.ys 10 rfl rfl rfl (YS.ix rfl (by omega) (by omega) rfl) <| D.run rfl <| D.one 12 rfl rfl <| M.storeA (cs := cur) (off := i * 4 + 3) (vs := [.slice P 1 p]) rfl rfl (by show ((Addr.add ⟨g, 0, none⟩ _).add _) = _; rw [add_plain, add_plain]; simp [Nat.add_comm]) (bX.mv0 e11) (by simp; omega) rfl fun w12 b12 e12 => M.run rfl <| M.end_ ⟨.inl ⟨rfl, trivial⟩, D.done_ rfl ?_⟩
  have hX12 := hset w12 (fun b hb hne => (e12.block b (by have := e0a.size; have := e11.size; have h' : b < w.heap.size := hb; omega) (by simp; omega)).trans (e11.block b (by have := e0a.size; have h' : b < w.heap.size := hb; omega) (by simp))) b12
  have hl1 : (oneA a i).ds.length = a.ds.length := List.length_set ..
  have lg : w.heap.size ≤ g := by have := e07.size; omega
  have e4c : w4.grownBy w12 none := gr_fresh (gr_trans e4a e11) e12 (by have := e47.size; omega)
  have b2c : Blk w12 g2 [.int .i64 (oneA a i).stations, .int .i64 (oneA a i).rate, .int .i64 (oneA a i).keeps, .slice (some ⟨g, 0, none⟩) (oneA a i).ds.length x] 24 := by rw [hl1]; exact (b10.mv0 e11).mv1 e12 (Ne.symm n2)
  have b3c := (b3a.mv0 e11).mv1 e12 (show g ≠ g3 by omega)
  refine M.run rfl <| M.storeA (off := 2) (vs := [.int .i64 0]) rfl rfl rfl b3c (by simp) rfl fun w13 b13 e13' => ?_
  have b3d : Blk w13 g3 [.int .i64 (eqA a).stations, .int .i64 (eqA a).rate, .int .i64 (eqA a).keeps, .slice A (eqA a).ds.length c] 24 := b13
  have e4d : w4.grownBy w13 none := gr_fresh e4c e13' l3
  have e1d := gr_trans e14 e4d
  have e0d := gr_trans e1 e1d
  have b2d := b2c.mv1 e13' (Ne.symm n23)
  have rX : Rd dDsp w13 (some ⟨g, 0, none⟩) x (oneA a i).ds := (hX12.mv1 e13' (fun h => by injection h with h; injection h with h; have h' : g = g3 := h; omega) (fun h => by have h' : g3 < w.heap.size := h; omega)).rd (by decide)
  have hf1 := one_fault hf hkl
  have hf2 := eq_fault hf
  have ha1 := fault_ok hf1
  have ha2 := fault_ok hf2
  have hin1 : within (i : Int) 0 (((oneA a i).ds.length : Int) - 1) = true := by rw [hl1]; exact Py.within_iff.2 (by omega)
  have hin2 : within (i : Int) 0 (((eqA a).ds.length : Int) - 1) = true := Py.within_iff.2 (by show 0 ≤ (i : Int) ∧ (i : Int) ≤ (a.ds.length : Int) - 1; omega)
  have s1 := sharesE_ok (n := n) hf1 hin1 (by rw [Int.toNat_natCast, one_at hkl]; exact Py.within_iff.2 hti.1)
  have s2 := sharesE_ok (n := n) hf2 hin2 (by rw [Int.toNat_natCast]; exact Py.within_iff.2 hti.1)
  rw [Int.toNat_natCast, one_at hkl, one_share (cut_len hdo)] at s1
  rw [Int.toNat_natCast] at s2
  have hpr : price (oneA a i) n = n * a.rate := rfl
  rw [hpr] at s1
  have hpb := price_bd ha hti.2
  -- the shares
  refine M.run rfl <| M.ldA rfl rfl b2d.cellsAll <| M.run rfl <| M.cl rfl (Account_go (oneA a i) _ x w13 rX (by omega) (fun d hd => by have := (ha1.d d hd).five; omega)) ?_
  rintro e w14 ⟨X1, x1, rfl, hX1, e14'⟩
  refine ⟨_, rfl, M.run rfl <| M.cl rfl (Shares_go (oneA a i) i n X1 x1 w14 hX1) ?_⟩
  rintro e w15 ⟨S, sc, rfl, hS, e15⟩
  rw [s1.2] at hS
  rw [s1.1, s1.2]
  have edf := gr_trans e14' e15
  refine ⟨_, rfl, M.run rfl <| M.ldA rfl rfl (b3d.mv0 edf).cellsAll <| M.run rfl <| M.cl rfl (Account_go (eqA a) A c w15 (hA.mv (gr_trans e0d edf)) (by show a.ds.length ≤ 1000000; omega) (fun d hd => by have := (ha2.d d hd).five; omega)) ?_⟩
  rintro e w16 ⟨X2, x2, rfl, hX2, e16⟩
  refine ⟨_, rfl, M.run rfl <| M.cl rfl (Shares_go (eqA a) i n X2 x2 w16 hX2) ?_⟩
  rintro e w17 ⟨S2, sc2, rfl, hS2, e17⟩
  rw [s2.2] at hS2
  rw [s2.1, s2.2]
  have e57 := gr_trans e16 e17
  have edh := gr_trans edf e57
  have e1h := gr_trans e1d edh
  have e0h := gr_trans e1 e1h
  have rS : Rd dI w17 S sc [n * a.rate] := Rd.mv (hS.rd (by decide)) e57
  have rS2 : Rd dI w17 S2 sc2 (share (eqA a) (dAt (eqA a) i) n) := hS2.rd (by decide)
  have hL : (share (eqA a) (dAt (eqA a) i) n).length = (dAt a i).passed.length := share_len ..
  have hat := fun k (hk : k < (dAt a i).passed.length) => share_at (eqA a) (dAt (eqA a) i) n (k := k) hk
  have hL0 := hdo.some_
  have hL5 := hdo.five
  have hup := fun k m h => eq_up (a := a) hL0 (n := n) (k := k) (m := m) h
  have hnear := fun k h => eq_near (a := a) hL0 (n := n) (k := k) h
  have hsb := fun k (hk : k < (dAt a i).passed.length) => shr_le ha2 hti.2.1 (k := k) hk
  have hsn := fun k => shr_nonneg ha2 (dAt a i).passed.length hti.2.1 k
  have hpe : price (eqA a) n = n * a.rate := rfl
  change ∀ k, k < (dAt a i).passed.length → at0 _ k = shr (eqA a) (dAt a i).passed.length n k at hat
  obtain ⟨hS1, hSc⟩ := rd_flat rS (j := 0) (by simp)
  refine ⟨_, rfl, M.run rfl <| M.drawG [] (by kernel_rfl) fun w18 e18 => ?_⟩
  have e1i := gr_trans e1h e18
  refine D.at_ [76] rfl <| D.caseF 76 rfl rfl <| D.at_ [81] rfl <| D.caseF 81 rfl (by simp) <| D.run rfl <| D.ys 9 rfl rfl rfl (YS.ix rfl (by omega) (by simp) hS1) <| D.ld 10 rfl rfl rfl rfl (v := .int .i64 (n * a.rate)) (fun w' hw => (hSc w' (gr_below (gr_trans e18 hw))).one 0 rfl rfl) <| D.run rfl <| D.ld 13 rfl rfl rfl rfl (v := .int .i64 a.rate) (fun w' hw => ((b1.mv0 e1i).mv0 hw).cellsAll.one 1 rfl rfl) <| D.at_ [89] rfl ?_
  rw [w64 (x := n * a.rate) (by have := hpb; unfold price at this; omega) (by have := hpb; unfold price at this; omega)]
  refine D.at_ [91] rfl <| D.caseF 91 rfl (by simp) <| D.at_ [95] rfl <| D.caseF 95 rfl rfl <| D.run rfl <| D.done_ rfl <| M.run rfl <| M.condF rfl (decide_eq_false (by rw [hL]; omega)) ?_
  generalize share (eqA a) (dAt (eqA a) i) n = Y at *
  have rS3 := rS2.mv e18
  have e0i := gr_trans e1 e1i
  refine M.run rfl <| M.loop (σ := Nat) (fun k => [(13, .slice S2 Y.length sc2), (15, .int .i64 (k : Int))]) (fun k w' => 1 ≤ k ∧ k ≤ Y.length ∧ w18.grownBy w' none) (fun k => Y.length - k) 1 ⟨rfl, rfl, trivial⟩ ⟨Nat.le_refl _, by omega, gr_refl _ _⟩ ?_
  rintro k w19 ⟨k1, hk, e19⟩
  refine M.run rfl <| M.cond rfl (fun h => ?_) (fun h => ?_)
  rotate_left
  · refine M.run rfl <| M.cl rfl (awake_go w19) ?_
    rintro e w20 ⟨rfl, e20⟩
    exact ⟨_, rfl, M.run rfl <| M.retF rfl rfl ⟨rfl, gr_trans (gr_trans e0i e19) e20⟩⟩
  have hlt : k < Y.length := by have := of_decide_eq_true h; omega
  obtain ⟨hY1, hYk⟩ := rd_flat rS3 hlt
  obtain ⟨_, hYp⟩ := rd_flat rS3 (j := k - 1) (by omega)
  obtain ⟨_, hY0⟩ := rd_flat rS3 (j := 0) (by omega)
  rw [at0_get (by omega)] at hYk hYp hY0
  have u1 := hup (k - 1) k (by omega)
  have u2 := hnear k (by omega)
  have u3 := hsb 0 hL0
  have u4 := hsn 0
  rw [← hat 0 hL0] at u2 u3 u4
  rw [← hat k (by omega)] at u1 u2
  rw [← hat (k - 1) (by omega)] at u1
  rw [hpe] at u3
  have hpb2 : n * a.rate ≤ 4000 := hpb.2
  refine M.run rfl <| M.drawG [] (by kernel_rfl) fun w20 e20 => ?_
  have e8k := gr_trans e19 e20
  refine D.run rfl <| D.ys 2 rfl rfl rfl (YS.ix rfl (by omega) (by omega) hY1) <| D.ld 3 rfl rfl rfl rfl (v := .int .i64 (at0 Y k)) (fun w' hw => (hYk w' (gr_below (gr_trans e8k hw))).one 0 rfl rfl) <| D.at_ [113] rfl ?_
  rw [w64 (x := (k : Int) - 1) (by omega) (by omega), show (k : Int) - 1 = ((k - 1 : Nat) : Int) by omega]
  refine D.ys 7 rfl rfl rfl (YS.ix rfl (by omega) (by omega) hY1) <| D.ld 8 rfl rfl rfl rfl (v := .int .i64 (at0 Y (k - 1))) (fun w' hw => (hYp w' (gr_below (gr_trans e8k hw))).one 0 rfl rfl) <| D.at_ [116] rfl <| D.caseF 116 rfl (decide_eq_false (by omega)) <| D.run rfl <|
    D.ys 13 rfl rfl rfl (YS.ix rfl (by omega) (by omega) hY1) <| D.ld 14 rfl rfl rfl rfl (v := .int .i64 (at0 Y k)) (fun w' hw => (hYk w' (gr_below (gr_trans e8k hw))).one 0 rfl rfl) <| D.run rfl <| D.ys 16 rfl rfl rfl (YS.ix rfl (by omega) (by simp; omega) hY1) <| D.ld 17 rfl rfl rfl rfl (v := .int .i64 (at0 Y 0)) (fun w' hw => (hY0 w' (gr_below (gr_trans e8k hw))).one 0 rfl rfl) <| D.at_ [125] rfl ?_
  rw [w64 (x := at0 Y 0 + 1) (by omega) (by omega)]
  exact D.run rfl <| D.done_ rfl <| M.run rfl <| M.condF rfl (decide_eq_false (by omega)) <| M.run rfl <| M.end_ ⟨k + 1, ⟨rfl, nxt hlt (by omega), trivial⟩, ⟨by omega, by omega, e8k⟩, by omega⟩
end Go.Proofs.Yteeikpmoboehdaa
end
section
/- Walk: the law PayTruth. -/
set_option linter.unusedVariables false
namespace Py
theorem firstEq_val {f : Int → Int} {v : Int} : ∀ (k : Nat) (n r : Int), n ≤ r → r ≤ n + k → f r = v → f (firstEq f v k n) = v
  | 0, n, r, h1, h2, hv => by unfold firstEq; rw [show n = r by omega]; exact hv
  | k + 1, n, r, h1, h2, hv => by
    unfold firstEq
    split
    · rename_i h; exact h
    · rename_i h
      have : n ≠ r := fun e => h (by rw [e]; exact hv)
      exact firstEq_val k (n + 1) r (by omega) (by omega) hv
theorem firstW_val {a : Acc} {d : Dsp} (h : d.lo ≤ d.hi) (high : Bool) (s : Int) : change a d (firstW a d high s) s = change a d (endW d high s) s := by
  obtain ⟨e1, e2⟩ := endW_in h high s
  exact firstEq_val (f := fun n => change a d n s) _ _ _ e1 (by omega) rfl
theorem truthL_truth {a : Acc} (ha : Ok a) (high : Bool) (s : Int) : truthOk a (truthL a high s a.ds.length) = true := by
  refine truthOk_of (truthL_len ..) fun i hi => ?_
  rw [truthL_len] at hi
  rw [truthL_at a high s hi]
  exact firstW_in (dAt_ok ha hi).lohi high s
theorem bal_in {a : Acc} (ha : Ok a) {t : List Int} (ht : truthOk a t = true) (s : Int) : (bndAt a s).lo ≤ bal a t s ∧ bal a t s ≤ (bndAt a s).hi := by
  obtain ⟨hl, hin⟩ := Go.Proofs.Yteeikpmoboehdaa.truth_in ha ht
  show bal a (truthL a false s a.ds.length) s ≤ bal a t s ∧ bal a t s ≤ bal a (truthL a true s a.ds.length) s
  unfold bal balTo
  rw [truthL_len, truthL_len, hl]
  constructor
  all_goals
    refine sumTo_le _ fun j hj => ?_
    have hd := dAt_ok ha hj
    have hb := endW_best ha hd.lo hd.lohi s (hin j (by omega)).1.1 (hin j (by omega)).1.2
    simp only [truthL_at a _ s hj, firstW_val hd.lohi]
    omega
theorem sumTo_swap (f : Nat → Nat → Int) (m : Nat) : ∀ n, sumTo (fun i => sumTo (fun j => f i j) m) n = sumTo (fun j => sumTo (fun i => f i j) n) m
  | 0 => by simp only [sumTo]; rw [sumTo_zero]
  | n + 1 => by
    simp only [sumTo]
    rw [sumTo_swap f m n, ← sumTo_add]
theorem sum_pick {x v : Int} {n : Nat} (h0 : 0 ≤ x) (h1 : x < n) : sumTo (fun s => if x = (s : Int) then v else 0) n = v := by
  have e := sumTo_single (fun _ => v) x.toNat n
  rw [if_pos (by omega)] at e
  refine Eq.trans (sumTo_congr _ fun i hi => ?_) e
  by_cases h : x = (i : Int)
  · rw [if_pos h, if_pos (by omega)]
  · rw [if_neg h, if_neg (by omega)]
theorem change_all {a : Acc} (ha : Ok a) {d : Dsp} (hd : DOk a.stations d) {n : Int} (hn : 0 ≤ n) : sumTo (fun s => change a d n (s : Int)) a.stations.toNat = 0 := by
  have e : sumTo (fun s => change a d n (s : Int)) a.stations.toNat = sumTo (fun s => sumTo (fun k => (if at0 d.passed k = (s : Int) then shr a d.passed.length n k else 0) - if d.payer = (s : Int) then shr a d.passed.length n k else 0) d.passed.length) a.stations.toNat :=
    sumTo_congr _ fun s _ => (part_all ha hd hn (s : Int)).symm
  rw [e, sumTo_swap (fun s k => (if at0 d.passed k = (s : Int) then shr a d.passed.length n k else 0) - if d.payer = (s : Int) then shr a d.passed.length n k else 0)]
  refine Eq.trans (sumTo_congr _ fun k hk => ?_) (sumTo_zero d.passed.length)
  have hi := hd.inside k hk
  have hp := hd.payer
  rw [sumTo_sub (fun s => if at0 d.passed k = (s : Int) then shr a d.passed.length n k else 0) (fun s => if d.payer = (s : Int) then shr a d.passed.length n k else 0), sum_pick hi.1 (by omega), sum_pick hp.1 (by omega), Int.sub_self]
theorem bal_all {a : Acc} (ha : Ok a) {t : List Int} (ht : truthOk a t = true) : sumTo (fun s => bal a t (s : Int)) a.stations.toNat = 0 := by
  obtain ⟨hl, hin⟩ := Go.Proofs.Yteeikpmoboehdaa.truth_in ha ht
  show sumTo (fun s => sumTo (fun i => change a (dAt a i) (at0 t i) (s : Int)) t.length) a.stations.toNat = 0
  rw [sumTo_swap (fun s i => change a (dAt a i) (at0 t i) (s : Int))]
  exact Eq.trans (sumTo_congr _ fun i hi => change_all ha (dAt_ok ha (by omega)) (hin i hi).2.1) (sumTo_zero t.length)
theorem sumTo_bd {f : Nat → Int} {B : Int} (h : ∀ i, -B ≤ f i ∧ f i ≤ B) : ∀ n : Nat, -(B * (n : Int)) ≤ sumTo f n ∧ sumTo f n ≤ B * (n : Int)
  | 0 => by simp [sumTo]
  | n + 1 => by
    have ih := sumTo_bd h n
    have := h n
    simp only [sumTo, Int.natCast_add, Int.natCast_one, Int.mul_add, Int.mul_one]
    omega
theorem bal_bd6 {a : Acc} (ha : Ok a) {t : List Int} (ht : truthOk a t = true) (s : Int) : -24000 ≤ bal a t s ∧ bal a t s ≤ 24000 := by
  obtain ⟨hl, hin⟩ := Go.Proofs.Yteeikpmoboehdaa.truth_in ha ht
  have := Go.Proofs.Yteeikpmoboehdaa.bal_bd ha (t := t) (fun i hi => (hin i hi).2) s t.length (Nat.le_refl _)
  have h6 := ha.six
  unfold bal
  omega
theorem balsum_bd {a : Acc} (ha : Ok a) {t : List Int} (ht : truthOk a t = true) {m : Nat} (hm : m ≤ 7) : -168000 ≤ sumTo (fun s => bal a t (s : Int)) m ∧ sumTo (fun s => bal a t (s : Int)) m ≤ 168000 := by
  have := sumTo_bd (f := fun s => bal a t (s : Int)) (B := 24000) (fun i => bal_bd6 ha ht (i : Int)) m
  omega
end Py
namespace Go.Proofs.Yteeikpmoboehdaa
open Go Go.Vc Go.RowKit Py
set_option maxHeartbeats 4000000 in
set_option maxRecDepth 100000 in
theorem PayTruth_go (a : Acc) (wl : List Int) (which : Int) (A : Option Addr) (c : Nat) (U : Option Addr) (u : Nat) (w : World) (hA : Rd dDsp w A c a.ds) (hU : Rd dW w U u wl) (hb : ∀ x ∈ wl, 0 ≤ x ∧ x ≤ 65535) (m0 : 0 ≤ which) (m1 : which ≤ 255) :
    Calls Try.prog 12 #[vAcc a A c, .slice U wl.length u, .int .u8 which] w fun e w' => e = .returned (.bool true) ∧ w.grownBy w' none := by
  refine calls (G := G) (args := [vAcc a A c, .slice U wl.length u, .int .u8 which]) Try.func12 rfl rfl rfl ?_
  refine M.run rfl <| M.nw (cs := [.int .i64 a.stations, .int .i64 a.rate, .int .i64 a.keeps, .slice A a.ds.length c]) rfl fun g1 w1 b1 e1 l1 => M.run rfl <| M.ldA rfl rfl b1.cellsAll <| M.run rfl <| M.cl rfl (ready_go a A c w1 (hA.mv e1)) ?_
  rintro e w2 ⟨⟨th, rfl, hth⟩, e2⟩
  have e02 := gr_trans e1 e2
  cases th with
  | false =>
    refine ⟨_, rfl, M.run rfl <| M.condT rfl rfl <| M.run rfl <| M.cl rfl (awake_go w2) ?_⟩
    rintro e w3 ⟨rfl, e3⟩
    exact ⟨_, rfl, M.run rfl <| M.retF rfl rfl ⟨rfl, gr_trans e02 e3⟩⟩
  | true =>
  have hf := hth rfl
  have ha := fault_ok hf
  have h6 := ha.six
  have hs1 := ha.one
  have hs7 := ha.seven
  have hacc := fun w' (hw : w.grownBy w' none) => Account_go a A c w' (hA.mv hw) (by omega) (fun d hd => by have := (ha.d d hd).five; omega)
  refine ⟨_, rfl, M.run rfl <| M.condF rfl rfl <| M.run rfl <| M.ldA rfl rfl (b1.mv0 e2).cellsAll <| M.run rfl <| M.cl rfl (Picked_go a ha wl A c U u w2 (hA.mv e02) (hU.mv e02) hb) ?_⟩
  rintro e w3 ⟨t, T, tc, rfl, hT, e3, ht⟩
  obtain ⟨htl, htin⟩ := truth_in ha ht
  have e13 := gr_trans e2 e3
  have e03 := gr_trans e1 e13
  have rT : Rd dI w3 T tc t := hT.rd (by decide)
  -- balances and bounds
  refine ⟨_, rfl, M.run rfl <| M.ldA rfl rfl (b1.mv0 e13).cellsAll <| M.run rfl <| M.cl rfl (hacc w3 e03) ?_⟩
  rintro e w4 ⟨X4, x4, rfl, hX4, e4⟩
  refine ⟨_, rfl, M.run rfl <| M.cl rfl (list_go t T tc w4 (rT.mv e4) (by omega)) ?_⟩
  rintro e w5 ⟨V, vc, rfl, hV, e5⟩
  refine ⟨_, rfl, M.run rfl <| M.cl rfl (Balance_go a t X4 x4 V vc w5 (hX4.mv e5) (hV.rd (by decide))) ?_⟩
  rintro e w6 ⟨L, lc, rfl, hL, e6⟩
  obtain ⟨k1, k2⟩ := balanceE_ok hf ht
  rw [k2] at hL
  rw [k1, k2]
  have e36 := gr_trans (gr_trans e4 e5) e6
  have e06 := gr_trans e03 e36
  have e16 := gr_trans e13 e36
  refine ⟨_, rfl, M.run rfl <| M.ldA rfl rfl (b1.mv0 e16).cellsAll <| M.run rfl <| M.cl rfl (hacc w6 e06) ?_⟩
  rintro e w7 ⟨X7, x7, rfl, hX7, e7⟩
  refine ⟨_, rfl, M.run rfl <| M.cl rfl (Bounds_go a X7 x7 w7 hX7) ?_⟩
  rintro e w8 ⟨B, bc, rfl, hB, e8⟩
  rw [boundsR_ok hf] at hB
  rw [hf, boundsR_ok hf]
  have e68 := gr_trans e7 e8
  have e18 := gr_trans e16 e68
  have e08 := gr_trans e1 e18
  have b18 := b1.mv0 e18
  have rL : Rd dI w8 L lc (balL a t a.stations.toNat) := Rd.mv (hL.rd (by decide)) e68
  have rB : Rd dRng w8 B bc (bndL a a.stations.toNat) := hB.rd (by decide)
  have rT8 := rT.mv (gr_trans e36 e68)
  have hbl := balL_len a t a.stations.toNat
  have hnl := bndL_len a a.stations.toNat
  refine ⟨_, rfl, M.at_ [51] rfl <| M.caseF 51 rfl rfl <| M.at_ [55] rfl <| M.caseF 55 rfl rfl <| M.run rfl <| M.ld rfl (b18.cellsAll.one 0 rfl rfl) <| M.at_ [62] rfl <| M.caseF 62 rfl (by simp [hbl]; omega) <| M.run rfl <| M.ld rfl (b18.cellsAll.one 0 rfl rfl) <| M.run rfl <| M.condF rfl (by simp [hnl]; omega) ?_⟩
  refine M.run rfl <| M.loop (σ := Nat) (fun s => [(2, .int .u8 which), (3, .pointer (some ⟨g1, 0, none⟩)), (7, .slice T t.length tc), (8, .slice L (balL a t a.stations.toNat).length lc), (10, .slice B (bndL a a.stations.toNat).length bc), (12, .int .i64 (sumTo (fun s => bal a t (s : Int)) s)), (13, .int .i64 (s : Int))]) (fun s w' => s ≤ a.stations.toNat ∧ w8.grownBy w' none) (fun s => a.stations.toNat - s) 0 ⟨rfl, rfl, rfl, rfl, rfl, rfl, rfl, trivial⟩ ⟨Nat.zero_le _, gr_refl _ _⟩ ?_
  rintro s w9 ⟨hs, e9⟩
  have e19 := gr_trans e18 e9
  have e09 := gr_trans e1 e19
  refine M.run rfl <| M.ld rfl ((b1.mv0 e19).cellsAll.one 0 rfl rfl) <| M.run rfl <| M.cond rfl (fun h => ?_) (fun h => ?_)
  · have hlt : s < a.stations.toNat := by have := of_decide_eq_true h; omega
    obtain ⟨hL1, hLc⟩ := rd_flat rL (j := s) (by omega)
    obtain ⟨hB1, hBc⟩ := rd_flat rB (j := s) (by omega)
    rw [balL_at a _ hlt] at hLc
    rw [bndL_at a hlt] at hBc
    obtain ⟨i1, i2⟩ := bal_in ha ht (s : Int)
    have q1 := balsum_bd ha ht (m := s) (by omega)
    have q2 := bal_bd6 ha ht (s : Int)
    refine M.run rfl <| M.drawG [] (by kernel_rfl) fun w10 e10 => ?_
    have e8a := gr_trans e9 e10
    refine D.run rfl <| D.ys 2 rfl rfl rfl (YS.ix rfl (by omega) (by omega) hL1) <| D.ld 3 rfl rfl rfl rfl (v := .int .i64 (bal a t (s : Int))) (fun w' hw => (hLc w' (gr_below (gr_trans e8a hw))).one 0 rfl rfl) <| D.ys 6 rfl rfl rfl (YS.ix rfl (by omega) (by omega) hB1) <| D.run rfl <| D.ld 8 rfl rfl rfl rfl (v := .int .i64 (bndAt a (s : Int)).lo) (fun w' hw => (hBc w' (gr_below (gr_trans e8a hw))).one 0 rfl rfl) <| D.at_ [85] rfl <| D.caseF 85 rfl (decide_eq_false (by omega)) <|
      D.run rfl <| D.ys 13 rfl rfl rfl (YS.ix rfl (by omega) (by omega) hL1) <| D.ld 14 rfl rfl rfl rfl (v := .int .i64 (bal a t (s : Int))) (fun w' hw => (hLc w' (gr_below (gr_trans e8a hw))).one 0 rfl rfl) <| D.ys 17 rfl rfl rfl (YS.ix rfl (by omega) (by omega) hB1) <| D.run rfl <| D.ld 19 rfl rfl rfl rfl (v := .int .i64 (bndAt a (s : Int)).hi) (fun w' hw => (hBc w' (gr_below (gr_trans e8a hw))).one 1 rfl rfl) <| D.run rfl <| D.done_ rfl <| M.run rfl <| M.condF rfl (decide_eq_false (by omega)) <|
      M.run rfl <| M.ys (YS.ix rfl (by omega) (by omega) hL1) <| M.ld (v := .int .i64 (bal a t (s : Int))) rfl ((hLc w10 (gr_below e8a)).one 0 rfl rfl) <| M.at_ [12] rfl ?_
    rw [w64 (x := sumTo (fun s => bal a t (s : Int)) s + bal a t (s : Int)) (by omega) (by omega)]
    exact M.run rfl <| M.end_ ⟨s + 1, ⟨rfl, rfl, rfl, rfl, rfl, rfl, nxt hlt (by omega), trivial⟩, ⟨by omega, e8a⟩, by omega⟩
  have hse : s = a.stations.toNat := by have := of_decide_eq_false h; omega
  subst hse
  have hall := bal_all ha ht
  rw [hall]
  refine M.run rfl <| M.loop (σ := Nat) (fun i => [(2, .int .u8 which), (3, .pointer (some ⟨g1, 0, none⟩)), (7, .slice T t.length tc), (10, .slice B (bndL a a.stations.toNat).length bc), (12, .int .i64 0), (14, .int .i64 (i : Int))]) (fun i w' => i ≤ t.length ∧ w8.grownBy w' none) (fun i => t.length - i) 0 ⟨rfl, rfl, rfl, rfl, rfl, rfl, trivial⟩ ⟨Nat.zero_le _, e9⟩ ?_
  clear h hs e19 e09
  clear e9 w9
  rintro i w9 ⟨hi, e9⟩
  have e19 := gr_trans e18 e9
  have e09 := gr_trans e1 e19
  refine M.run rfl <| M.cond rfl (fun h => ?_) (fun h => ?_)
  · have hlt : i < t.length := by have := of_decide_eq_true h; omega
    have hia : i < a.ds.length := by omega
    have hti := htin i hlt
    obtain ⟨hT1, hTc⟩ := rd_flat rT8 hlt
    rw [at0_get hlt] at hTc
    obtain ⟨hA1, P, p, hP, hdc⟩ := rd_dsp hA hia
    rw [dAt_get hia] at hdc
    have hdo := dAt_ok ha hia
    have hL0 := hdo.some_
    have hL5 := hdo.five
    have hin : within (i : Int) 0 ((a.ds.length : Int) - 1) = true := Py.within_iff.2 (by omega)
    have s1 := sharesE_ok (n := at0 t i) hf hin (by rw [Int.toNat_natCast]; exact Py.within_iff.2 hti.1)
    rw [Int.toNat_natCast] at s1
    refine M.run rfl <| M.drawG [] (by kernel_rfl) fun wa ea => ?_
    have e8a := gr_trans e9 ea
    refine D.run rfl <| D.ldA 0 rfl rfl rfl rfl rfl (fun w' hw => (b18.mv0 (gr_trans e8a hw)).cellsAll) <| D.run rfl <| D.ys 5 rfl rfl rfl (YS.ix rfl (by omega) (by omega) hT1) <| D.ld 6 rfl rfl rfl rfl (v := .int .i64 (at0 t i)) (fun w' hw => (hTc w' (gr_below (gr_trans e8a hw))).one 0 rfl rfl) ?_
    refine D.one 1 rfl rfl <| M.cl rfl (hacc wa (gr_trans e08 e8a)) ?_
    rintro e wb ⟨Xb, xb, rfl, hXb, eb⟩
    refine ⟨_, rfl, M.run rfl <| M.end_ ⟨.inr eb, ?_⟩⟩
    refine D.one 7 rfl rfl <| M.cl rfl (Shares_go a i (at0 t i) Xb xb wb hXb) ?_
    rintro e wc ⟨S, sc, rfl, hS, ec⟩
    rw [s1.2] at hS
    rw [s1.1, s1.2]
    refine ⟨_, rfl, M.run rfl <| M.end_ ⟨.inr ec, D.run rfl <| D.done_ rfl ?_⟩⟩
    have e8c := gr_trans (gr_trans e8a eb) ec
    have e1c := gr_trans e18 e8c
    have e0c := gr_trans e1 e1c
    have rS : Rd dI wc S sc (share a (dAt a i) (at0 t i)) := hS.rd (by decide)
    have hsl := share_len a (dAt a i) (at0 t i)
    refine M.at_ [122] rfl <| M.caseF 122 rfl rfl <| M.run rfl <| M.ld rfl ((b1.mv0 e1c).cellsAll.one 3 rfl rfl) <| M.run rfl <| M.ys (YS.ix rfl (by omega) (by omega) hA1) <| M.run rfl <| M.ld (v := .slice P (dAt a i).passed.length p) rfl ((hdc wc (gr_below e0c)).one 3 rfl rfl) <| M.run rfl <| M.condF rfl (by simp [hsl]) ?_
    have hsum := shr_sum ha hL0 hti.2.1
    have hpb := price_bd ha hti.2
    have hshn := fun k => shr_nonneg ha (dAt a i).passed.length hti.2.1 k
    have hshl := fun k (hk : k < (dAt a i).passed.length) => shr_le ha hti.2.1 (k := k) hk
    have hpart : ∀ k, k ≤ (dAt a i).passed.length → 0 ≤ sumTo (shr a (dAt a i).passed.length (at0 t i)) k ∧ sumTo (shr a (dAt a i).passed.length (at0 t i)) k ≤ 20000 := fun k hk => by
      have q1 := sumTo_le (f := fun _ => 0) (g := shr a (dAt a i).passed.length (at0 t i)) k (fun j _ => hshn j)
      rw [sumTo_zero] at q1
      have q2 := sumTo_le (f := shr a (dAt a i).passed.length (at0 t i)) (g := fun _ => 4000) k (fun j hj => by have := hshl j (by omega); omega)
      have q3 := (sumTo_bd (f := fun _ => 4000) (B := 4000) (fun _ => by decide) k).2
      omega
    refine M.run rfl <| M.loop (σ := Nat) (fun k => [(2, .int .u8 which), (3, .pointer (some ⟨g1, 0, none⟩)), (7, .slice T t.length tc), (10, .slice B (bndL a a.stations.toNat).length bc), (12, .int .i64 0), (14, .int .i64 (i : Int)), (15, .slice S (share a (dAt a i) (at0 t i)).length sc), (17, .int .i64 (sumTo (shr a (dAt a i).passed.length (at0 t i)) k)), (18, .int .i64 (k : Int))]) (fun k w' => k ≤ (dAt a i).passed.length ∧ wc.grownBy w' none) (fun k => (dAt a i).passed.length - k) 0 ⟨rfl, rfl, rfl, rfl, rfl, rfl, rfl, rfl, rfl, trivial⟩ ⟨Nat.zero_le _, gr_refl _ _⟩ ?_
    rintro k wd ⟨hk, ed⟩
    refine M.run rfl <| M.cond rfl (fun h => ?_) (fun h => ?_)
    · have hkl : k < (dAt a i).passed.length := by have := of_decide_eq_true h; omega
      obtain ⟨hS1, hSc⟩ := rd_flat rS (j := k) (by omega)
      rw [at0_get (by omega), share_at _ _ _ hkl] at hSc
      have q1 := hpart k hk
      have q2 := hpart (k + 1) hkl
      have q3 := hshn k
      have q4 : sumTo (shr a (dAt a i).passed.length (at0 t i)) (k + 1) = sumTo (shr a (dAt a i).passed.length (at0 t i)) k + shr a (dAt a i).passed.length (at0 t i) k := rfl
      refine M.run rfl <| M.ys (YS.ix rfl (by omega) (by omega) hS1) <| M.ld (v := .int .i64 (shr a (dAt a i).passed.length (at0 t i) k)) rfl ((hSc wd (gr_below ed)).one 0 rfl rfl) <| M.run rfl <| M.condF rfl (decide_eq_false (by omega)) <|
        M.run rfl <| M.ys (YS.ix rfl (by omega) (by omega) hS1) <| M.ld (v := .int .i64 (shr a (dAt a i).passed.length (at0 t i) k)) rfl ((hSc wd (gr_below ed)).one 0 rfl rfl) <| M.at_ [17] rfl ?_
      rw [w64 (x := sumTo (shr a (dAt a i).passed.length (at0 t i)) k + shr a (dAt a i).passed.length (at0 t i) k) (by omega) (by omega)]
      exact M.run rfl <| M.end_ ⟨k + 1, ⟨rfl, rfl, rfl, rfl, rfl, rfl, rfl, rfl, nxt hkl (by omega), trivial⟩, ⟨by omega, ed⟩, by omega⟩
    have hke : k = (dAt a i).passed.length := by have := of_decide_eq_false h; omega
    subst hke
    rw [hsum]
    have e8d := gr_trans e8c ed
    refine M.run rfl <| M.drawG [] (by kernel_rfl) fun we ee => ?_
    have e8e := gr_trans e8d ee
    refine D.run rfl <| D.ys 3 rfl rfl rfl (YS.ix rfl (by omega) (by omega) hT1) <| D.ld 4 rfl rfl rfl rfl (v := .int .i64 (at0 t i)) (fun w' hw => (hTc w' (gr_below (gr_trans e8e hw))).one 0 rfl rfl) <| D.run rfl <| D.ld 6 rfl rfl rfl rfl (v := .int .i64 a.rate) (fun w' hw => (b18.mv0 (gr_trans e8e hw)).cellsAll.one 1 rfl rfl) <| D.at_ [159] rfl ?_
    have hpb2 : 0 ≤ at0 t i * a.rate ∧ at0 t i * a.rate ≤ 4000 := hpb
    rw [w64 (x := at0 t i * a.rate) (by omega) (by omega)]
    exact D.run rfl <| D.done_ rfl <| M.run rfl <| M.condF rfl (by unfold price; simp) <| M.run rfl <| M.end_ ⟨i + 1, ⟨rfl, rfl, rfl, rfl, rfl, nxt hlt (by omega), trivial⟩, ⟨by omega, e8e⟩, by omega⟩
  -- one station
  have q0 : 0 ≤ which.tmod a.stations := by rw [Int.tmod_eq_emod_of_nonneg m0]; exact Int.emod_nonneg _ (by omega)
  have q1 : which.tmod a.stations < a.stations := by rw [Int.tmod_eq_emod_of_nonneg m0]; exact Int.emod_lt_of_pos _ (by omega)
  refine M.run rfl <| M.ld rfl ((b1.mv0 e19).cellsAll.one 0 rfl rfl) <| M.at_ [164] rfl ?_
  rw [w64 (x := which) (by omega) (by omega)]
  refine M.run rfl <| M.ys (YS.rem rfl (by omega)) ?_
  rw [show which.tmod a.stations = (((which.tmod a.stations).toNat : Nat) : Int) by omega]
  have hkl : (which.tmod a.stations).toNat < a.stations.toNat := by omega
  generalize (which.tmod a.stations).toNat = s at hkl
  have hst : within (s : Int) 0 (a.stations - 1) = true := Py.within_iff.2 (by omega)
  obtain ⟨r1, r2⟩ := reachE_ok (high := false) hf hst
  obtain ⟨r3, r4⟩ := reachE_ok (high := true) hf hst
  have b19 := b1.mv0 e19
  refine M.run rfl <| M.ldA rfl rfl b19.cellsAll <| M.run rfl <| M.cl rfl (hacc w9 e09) ?_
  rintro e wa ⟨Xa, xa, rfl, hXa, ea⟩
  refine ⟨_, rfl, M.run rfl <| M.cl rfl (Reach_go a (s : Int) false Xa xa wa hXa) ?_⟩
  rintro e wb ⟨P1, p1, rfl, hP1, eb⟩
  rw [r2] at hP1
  rw [r1, r2]
  have e9b := gr_trans ea eb
  refine ⟨_, rfl, M.run rfl <| M.ldA rfl rfl (b19.mv0 e9b).cellsAll <| M.run rfl <| M.cl rfl (hacc wb (gr_trans e09 e9b)) ?_⟩
  rintro e wc ⟨Xc, xc, rfl, hXc, ec⟩
  refine ⟨_, rfl, M.run rfl <| M.cl rfl (Reach_go a (s : Int) true Xc xc wc hXc) ?_⟩
  rintro e wd ⟨P2, p2, rfl, hP2, ed⟩
  rw [r4] at hP2
  rw [r3, r4]
  have ebd := gr_trans ec ed
  have e9d := gr_trans e9b ebd
  have e0d := gr_trans e09 e9d
  have rP1 : Rd dI wd P1 p1 (truthL a false (s : Int) a.ds.length) := Rd.mv (hP1.rd (by decide)) ebd
  have rP2 : Rd dI wd P2 p2 (truthL a true (s : Int) a.ds.length) := hP2.rd (by decide)
  have t1 := truthL_truth ha false (s : Int)
  have t2 := truthL_truth ha true (s : Int)
  have b1s : (bndAt a (s : Int)).lo = bal a (truthL a false (s : Int) a.ds.length) (s : Int) := rfl
  have b2s : (bndAt a (s : Int)).hi = bal a (truthL a true (s : Int) a.ds.length) (s : Int) := rfl
  have n1 := truthL_len a false (s : Int) a.ds.length
  have n2 := truthL_len a true (s : Int) a.ds.length
  generalize truthL a false (s : Int) a.ds.length = u1 at *
  generalize truthL a true (s : Int) a.ds.length = u2 at *
  refine ⟨_, rfl, M.at_ [181] rfl <| M.caseF 181 rfl rfl <| M.at_ [185] rfl <| M.caseF 185 rfl rfl <| M.at_ [189] rfl <| M.caseF 189 rfl rfl <| M.run rfl <| M.ldA rfl rfl (b19.mv0 e9d).cellsAll <| M.run rfl <| M.cl rfl (IsTruth_go a u1 A c P1 p1 wd (hA.mv e0d) rP1) ?_⟩
  rintro e we ⟨rfl, ee⟩
  rw [t1]
  refine ⟨_, rfl, M.at_ [195] rfl <| M.caseF 195 rfl rfl <| M.run rfl <| M.ldA rfl rfl ((b19.mv0 e9d).mv0 ee).cellsAll <| M.run rfl <| M.cl rfl (IsTruth_go a u2 A c P2 p2 we (hA.mv (gr_trans e0d ee)) (rP2.mv ee)) ?_⟩
  rintro e wf ⟨rfl, ef⟩
  rw [t2]
  have edf := gr_trans ee ef
  have e9f := gr_trans e9d edf
  have e0f := gr_trans e09 e9f
  obtain ⟨k3, k4⟩ := balanceE_ok hf t1
  obtain ⟨k5, k6⟩ := balanceE_ok hf t2
  refine ⟨_, rfl, M.run rfl <| M.condF rfl rfl <| M.run rfl <| M.ldA rfl rfl (b19.mv0 e9f).cellsAll <| M.run rfl <| M.cl rfl (hacc wf e0f) ?_⟩
  rintro e wg ⟨Xg, xg, rfl, hXg, eg⟩
  refine ⟨_, rfl, M.run rfl <| M.cl rfl (list_go u1 P1 p1 wg (rP1.mv (gr_trans edf eg)) (by omega)) ?_⟩
  rintro e wh ⟨Vh, vh, rfl, hVh, eh⟩
  refine ⟨_, rfl, M.run rfl <| M.cl rfl (Balance_go a u1 Xg xg Vh vh wh (hXg.mv eh) (hVh.rd (by decide))) ?_⟩
  rintro e wi ⟨L1, c1, rfl, hL1, ei⟩
  rw [k4] at hL1
  rw [k3, k4]
  have efi := gr_trans (gr_trans eg eh) ei
  have e9i := gr_trans e9f efi
  refine ⟨_, rfl, M.run rfl <| M.ldA rfl rfl (b19.mv0 e9i).cellsAll <| M.run rfl <| M.cl rfl (hacc wi (gr_trans e09 e9i)) ?_⟩
  rintro e wj ⟨Xj, xj, rfl, hXj, ej⟩
  refine ⟨_, rfl, M.run rfl <| M.cl rfl (list_go u2 P2 p2 wj (rP2.mv (gr_trans (gr_trans edf efi) ej)) (by omega)) ?_⟩
  rintro e wk ⟨Vk, vk, rfl, hVk, ek⟩
  refine ⟨_, rfl, M.run rfl <| M.cl rfl (Balance_go a u2 Xj xj Vk vk wk (hXj.mv ek) (hVk.rd (by decide))) ?_⟩
  rintro e wm ⟨L2, c2, rfl, hL2, em⟩
  rw [k6] at hL2
  rw [k5, k6]
  have eim := gr_trans (gr_trans ej ek) em
  have e9m := gr_trans e9i eim
  have e8m := gr_trans e9 e9m
  have e0m := gr_trans e09 e9m
  have rL1 : Rd dI wm L1 c1 (balL a u1 a.stations.toNat) := Rd.mv (hL1.rd (by decide)) eim
  have rL2 : Rd dI wm L2 c2 (balL a u2 a.stations.toNat) := hL2.rd (by decide)
  have z1 := balL_len a u1 a.stations.toNat
  have z2 := balL_len a u2 a.stations.toNat
  obtain ⟨hx1, hxc1⟩ := rd_flat rL1 (j := s) (by omega)
  obtain ⟨hx2, hxc2⟩ := rd_flat rL2 (j := s) (by omega)
  obtain ⟨hB1, hBc⟩ := rd_flat rB (j := s) (by omega)
  rw [balL_at a _ hkl] at hxc1 hxc2
  rw [bndL_at a hkl] at hBc
  refine ⟨_, rfl, M.run rfl <| M.drawG [] (by kernel_rfl) fun wn en => ?_⟩
  have e9n := gr_trans e9m en
  have e8n := gr_trans e8m en
  refine D.at_ [219] rfl <| D.caseT 219 rfl rfl <| D.at_ [223] rfl <| D.caseT 223 rfl rfl <| D.run rfl <| D.ld 10 rfl rfl rfl rfl (v := .int .i64 a.stations) (fun w' hw => (b19.mv0 (gr_trans e9n hw)).cellsAll.one 0 rfl rfl) <| D.at_ [230] rfl <| D.caseT 230 rfl (by simp [z1]; omega) <| D.run rfl <| D.ld 17 rfl rfl rfl rfl (v := .int .i64 a.stations) (fun w' hw => (b19.mv0 (gr_trans e9n hw)).cellsAll.one 0 rfl rfl) <| D.at_ [237] rfl <| D.caseT 237 rfl (by simp [z2]; omega) ?_
  refine D.run rfl <| D.ys 23 rfl rfl rfl (YS.ix rfl (by omega) (by omega) hx1) <| D.ld 24 rfl rfl rfl rfl (v := .int .i64 (bal a u1 (s : Int))) (fun w' hw => (hxc1 w' (gr_below (gr_trans en hw))).one 0 rfl rfl) <| D.ys 27 rfl rfl rfl (YS.ix rfl (by omega) (by omega) hB1) <| D.run rfl <| D.ld 29 rfl rfl rfl rfl (v := .int .i64 (bndAt a (s : Int)).lo) (fun w' hw => (hBc w' (gr_below (gr_trans e8n hw))).one 0 rfl rfl) <| D.at_ [249] rfl <| D.caseT 249 rfl (by simp [b1s]) ?_
  refine D.run rfl <| D.ys 35 rfl rfl rfl (YS.ix rfl (by omega) (by omega) hx2) <| D.ld 36 rfl rfl rfl rfl (v := .int .i64 (bal a u2 (s : Int))) (fun w' hw => (hxc2 w' (gr_below (gr_trans en hw))).one 0 rfl rfl) <| D.ys 39 rfl rfl rfl (YS.ix rfl (by omega) (by omega) hB1) <| D.run rfl <| D.ld 41 rfl rfl rfl rfl (v := .int .i64 (bndAt a (s : Int)).hi) (fun w' hw => (hBc w' (gr_below (gr_trans e8n hw))).one 1 rfl rfl) <| D.at_ [261] rfl <| D.caseT 261 rfl (by simp [b2s]) ?_
  refine D.one 45 rfl rfl <| M.cl rfl (awake_go wn) ?_
  rintro e wo ⟨rfl, eo⟩
  exact ⟨_, rfl, M.run rfl <| M.end_ ⟨.inr eo, D.run rfl <| D.done_ rfl <| M.run rfl <| M.retF rfl rfl ⟨rfl, gr_trans (gr_trans e0m en) eo⟩⟩⟩
end Go.Proofs.Yteeikpmoboehdaa
end
section
/- Walk: the law PayClaims. -/
set_option linter.unusedVariables false
namespace Py
theorem fit_mem {a : Acc} {d : Dsp} {k : Nat} {p : Int} {x : Int} : ∀ {M : Nat}, x ∈ fitL a d k p M ↔ (d.lo ≤ x ∧ x < d.lo + M) ∧ shr a d.passed.length x k = p
  | 0 => by simp [fitL]; omega
  | M + 1 => by
    unfold fitL
    have ih := fit_mem (a := a) (d := d) (k := k) (p := p) (x := x) (M := M)
    split
    · rename_i h
      rw [List.mem_append, ih, List.mem_singleton]
      constructor
      · rintro (h1 | rfl)
        · exact ⟨by omega, h1.2⟩
        · exact ⟨by omega, h⟩
      · rintro ⟨h1, h2⟩
        by_cases e : x = d.lo + M
        · exact .inr e
        · exact .inl ⟨by omega, h2⟩
    · rename_i h
      rw [ih]
      constructor
      · rintro h1; exact ⟨by omega, h1.2⟩
      · rintro ⟨h1, h2⟩
        refine ⟨⟨h1.1, ?_⟩, h2⟩
        have : x ≠ d.lo + M := fun e => h (by rw [← e]; exact h2)
        omega
theorem fit_rise (a : Acc) (d : Dsp) (k : Nat) (p : Int) : ∀ M, (fitL a d k p M).Pairwise (· < ·)
  | 0 => by simp [fitL]
  | M + 1 => by
    unfold fitL
    split
    · rw [List.pairwise_append]
      refine ⟨fit_rise a d k p M, List.pairwise_singleton _ _, fun x hx y hy => ?_⟩
      rw [List.mem_singleton] at hy
      have := (fit_mem.1 hx).1.2
      omega
    · exact fit_rise a d k p M
theorem fit_up {a : Acc} {d : Dsp} {k : Nat} {p : Int} {M i : Nat} (h0 : 0 < i) (hi : i < (fitL a d k p M).length) : at0 (fitL a d k p M) (i - 1) < at0 (fitL a d k p M) i := by
  have := List.pairwise_iff_getElem.1 (fit_rise a d k p M) (i - 1) i (by omega) hi (by omega)
  rw [at0_get (by omega), at0_get hi] at this
  exact this
theorem fit_count {a : Acc} {d : Dsp} {k : Nat} {p : Int} {M : Nat} (x : Int) : (fitL a d k p M).count x = if (d.lo ≤ x ∧ x < d.lo + M) ∧ shr a d.passed.length x k = p then 1 else 0 := by
  have hn : (fitL a d k p M).Nodup := (fit_rise a d k p M).imp (fun h => by omega)
  rw [hn.count]
  have := fit_mem (a := a) (d := d) (k := k) (p := p) (x := x) (M := M)
  simp only [this]
/-- the words that fit the claims of the first stations, one list after the other -/
def fitsL (a : Acc) (d : Dsp) (n : Int) (M : Nat) : Nat → List Int
  | 0 => []
  | k + 1 => fitsL a d n M k ++ fitL a d k (shr a d.passed.length n k) M
theorem fits_len (a : Acc) (d : Dsp) (n : Int) (M : Nat) : ∀ k, (fitsL a d n M k).length ≤ k * M
  | 0 => by simp [fitsL]
  | k + 1 => by
    have h1 := fits_len a d n M k
    have h2 := fitL_len a d k (shr a d.passed.length n k) M
    unfold fitsL
    rw [List.length_append, Nat.add_mul, Nat.one_mul]
    omega
theorem fits_count {a : Acc} {d : Dsp} {n : Int} {M : Nat} {x : Int} (h1 : d.lo ≤ x) (h2 : x < d.lo + M) : ∀ k, (fitsL a d n M k).count x ≤ k ∧ ((fitsL a d n M k).count x = k ↔ ∀ j, j < k → shr a d.passed.length x j = shr a d.passed.length n j)
  | 0 => by simp [fitsL]
  | k + 1 => by
    obtain ⟨h3, h4⟩ := fits_count (a := a) (n := n) h1 h2 k
    unfold fitsL
    rw [List.count_append, fit_count]
    by_cases hs : shr a d.passed.length x k = shr a d.passed.length n k
    · rw [if_pos ⟨⟨h1, h2⟩, hs⟩]
      refine ⟨by omega, ?_⟩
      constructor
      · intro h j hj
        by_cases e : j = k
        · subst e; exact hs
        · exact h4.1 (by omega) j (by omega)
      · intro h
        have := h4.2 fun j hj => h j (by omega)
        omega
    · rw [if_neg (fun h => hs h.2)]
      refine ⟨by omega, ?_⟩
      constructor
      · intro h; omega
      · intro h; exact absurd (h k (by omega)) hs
theorem same_words {a : Acc} (ha : Ok a) {L : Nat} (hL : 0 < L) {n m : Int} (hn : 0 ≤ n) (hm : 0 ≤ m) : (∀ j, j < L → shr a L m j = shr a L n j) ↔ (m = n ∨ a.rate = 0) := by
  constructor
  · intro h
    have e : sumTo (shr a L m) L = sumTo (shr a L n) L := sumTo_congr _ h
    rw [shr_sum ha hL hm, shr_sum ha hL hn] at e
    unfold price at e
    by_cases hr : a.rate = 0
    · exact .inr hr
    · exact .inl (Int.eq_of_mul_eq_mul_right hr e)
  · rintro (rfl | h) j hj
    · rfl
    · unfold shr kept price
      rw [h]; simp
theorem words_own {a : Acc} (hf : fault a = 0) {i : Nat} (hi : i < a.ds.length) {n : Int} (h1 : (dAt a i).lo ≤ n) (h2 : n ≤ (dAt a i).hi) {k : Nat} (hk : k < (dAt a i).passed.length) :
    wordsE a i (at0 (dAt a i).passed k) (shr a (dAt a i).passed.length n k) = 0 ∧ wordsR a i (at0 (dAt a i).passed k) (shr a (dAt a i).passed.length n k) = fitL a (dAt a i) k (shr a (dAt a i).passed.length n k) ((dAt a i).hi - (dAt a i).lo + 1).toNat := by
  have ha := fault_ok hf
  have hd := dAt_ok ha hi
  have hx := idx_eq hk hd.once
  have hF : fitAll a (i : Int).toNat (at0 (dAt a i).passed k) (shr a (dAt a i).passed.length n k) = fitL a (dAt a i) k (shr a (dAt a i).passed.length n k) ((dAt a i).hi - (dAt a i).lo + 1).toNat := by
    show fitL a (dAt a i) ((dAt a i).passed.idxOf (at0 (dAt a i).passed k)) _ _ = _
    rw [hx]; rfl
  have hm : n ∈ fitL a (dAt a i) k (shr a (dAt a i).passed.length n k) ((dAt a i).hi - (dAt a i).lo + 1).toNat := fit_mem.2 ⟨by omega, rfl⟩
  have hE : wordsE a i (at0 (dAt a i).passed k) (shr a (dAt a i).passed.length n k) = 0 := by
    unfold wordsE
    rw [if_neg (by simp [hf]), if_neg (by rw [Py.within_iff.2 (by omega)]; decide), hF, if_neg, if_neg]
    · have := List.length_pos_of_mem hm; omega
    · show ¬ idxI (dAt a i).passed (at0 (dAt a i).passed k) < 0
      unfold idxI
      rw [hx, if_pos hk]; omega
  exact ⟨hE, by unfold wordsR; rw [if_pos hE, hF]⟩
end Py
namespace Go.Vc
open Go Go.RowKit Py
/-- an array of numbers -/
def cntCells (f : Int → Nat) : List Value := (List.range 201).map fun (m : Nat) => Value.int .i64 (f (m : Int))
theorem cnt_zero : List.replicate 201 (Value.int .i64 0) = cntCells (fun x => ([] : List Int).count x) := by
  unfold cntCells
  simp only [List.count_nil]
  rw [List.map_const', List.length_range]; rfl
theorem cnt_len (f : Int → Nat) : (cntCells f).length = 201 := by simp [cntCells]
theorem cnt_get (f : Int → Nat) {m : Nat} (h : m < 201) : (cntCells f)[m]? = some (Value.int .i64 (f (m : Int))) := by
  unfold cntCells; rw [List.getElem?_map, List.getElem?_range h]; rfl
theorem cnt_set (l : List Int) {m : Nat} (h : m < 201) : (cntCells fun x => l.count x).take m ++ [Value.int .i64 ((l.count (m : Int) : Nat) + 1 : Int)] ++ (cntCells fun x => l.count x).drop (m + 1) = cntCells fun x => (l ++ [(m : Int)]).count x := by
  rw [set_over (by rw [cnt_len]; exact h)]
  apply List.ext_getElem?
  intro j
  rw [List.getElem?_set]
  by_cases hj : j < 201
  · rw [cnt_get _ hj, cnt_len]
    by_cases e : m = j
    · subst e
      rw [if_pos rfl, if_pos h, cnt_get _ h, List.count_append]; simp
    · rw [if_neg e, cnt_get _ hj, List.count_append]
      have : ¬ ((m : Int) = (j : Int)) := by omega
      simp [this]
  · rw [if_neg (by omega), List.getElem?_eq_none (by rw [cnt_len]; omega), List.getElem?_eq_none (by rw [cnt_len]; omega)]
end Go.Vc
namespace Go.Proofs.Yteeikpmoboehdaa
open Go Go.Vc Go.RowKit Py
set_option maxHeartbeats 4000000 in
set_option maxRecDepth 100000 in
theorem PayClaims_go (a : Acc) (wl : List Int) (which : Int) (A : Option Addr) (c : Nat) (U : Option Addr) (u : Nat) (w : World) (hA : Rd dDsp w A c a.ds) (hU : Rd dW w U u wl) (hb : ∀ x ∈ wl, 0 ≤ x ∧ x ≤ 65535) (m0 : 0 ≤ which) (m1 : which ≤ 255) :
    Calls Try.prog 6 #[vAcc a A c, .slice U wl.length u, .int .u8 which] w fun e w' => e = .returned (.bool true) ∧ w.grownBy w' none := by
  refine calls (G := G) (args := [vAcc a A c, .slice U wl.length u, .int .u8 which]) Try.func6 rfl rfl rfl ?_
  refine M.run rfl <| M.nw (cs := [.int .i64 a.stations, .int .i64 a.rate, .int .i64 a.keeps, .slice A a.ds.length c]) rfl fun g1 w1 b1 e1 l1 => M.run rfl <| M.ldA rfl rfl b1.cellsAll <| M.run rfl <| M.cl rfl (ready_go a A c w1 (hA.mv e1)) ?_
  rintro e w2 ⟨⟨th, rfl, hth⟩, e2⟩
  have e02 := gr_trans e1 e2
  cases th with
  | false =>
    refine ⟨_, rfl, M.at_ [22] rfl <| M.caseT 22 rfl rfl <| M.run rfl <| M.condT rfl rfl <| M.run rfl <| M.cl rfl (awake_go w2) ?_⟩
    rintro e w3 ⟨rfl, e3⟩
    exact ⟨_, rfl, M.run rfl <| M.retF rfl rfl ⟨rfl, gr_trans e02 e3⟩⟩
  | true =>
  have hf := hth rfl
  have ha := fault_ok hf
  have h6 := ha.six
  have hacc := fun w' (hw : w.grownBy w' none) => Account_go a A c w' (hA.mv hw) (by omega) (fun d hd => by have := (ha.d d hd).five; omega)
  refine ⟨_, rfl, M.at_ [22] rfl <| M.caseF 22 rfl rfl <| M.run rfl <| M.ld rfl ((b1.mv0 e2).cellsAll.one 3 rfl rfl) <| M.run rfl <| M.cond rfl (fun h => ?_) (fun h => ?_)⟩
  · refine M.run rfl <| M.cl rfl (awake_go w2) ?_
    rintro e w3 ⟨rfl, e3⟩
    exact ⟨_, rfl, M.run rfl <| M.retF rfl rfl ⟨rfl, gr_trans e02 e3⟩⟩
  have hn0 : 0 < a.ds.length := by have := of_decide_eq_false h; omega
  have q0 : 0 ≤ which.tmod (a.ds.length : Int) := by rw [Int.tmod_eq_emod_of_nonneg m0]; exact Int.emod_nonneg _ (by omega)
  have q1 : which.tmod (a.ds.length : Int) < a.ds.length := by rw [Int.tmod_eq_emod_of_nonneg m0]; exact Int.emod_lt_of_pos _ (by omega)
  refine M.run rfl <| M.ld rfl ((b1.mv0 e2).cellsAll.one 3 rfl rfl) <| M.at_ [34] rfl ?_
  rw [w64 (x := which) (by omega) (by omega)]
  refine M.run rfl <| M.ys (YS.rem rfl (by omega)) ?_
  rw [show which.tmod (a.ds.length : Int) = (((which.tmod (a.ds.length : Int)).toNat : Nat) : Int) by omega]
  have hkl : (which.tmod (a.ds.length : Int)).toNat < a.ds.length := by omega
  generalize (which.tmod (a.ds.length : Int)).toNat = i at hkl
  refine M.run rfl <| M.ldA rfl rfl (b1.mv0 e2).cellsAll <| M.run rfl <| M.cl rfl (Picked_go a ha wl A c U u w2 (hA.mv e02) (hU.mv e02) hb) ?_
  rintro e w3 ⟨t, T, tc, rfl, hT, e3, ht⟩
  obtain ⟨htl, htin⟩ := truth_in ha ht
  have hit : i < t.length := by omega
  have hti := htin i hit
  have e13 := gr_trans e2 e3
  have e03 := gr_trans e1 e13
  have rT : Rd dI w3 T tc t := hT.rd (by decide)
  obtain ⟨hT1, hTc⟩ := rd_flat rT hit
  rw [at0_get hit] at hTc
  refine ⟨_, rfl, M.run rfl <| M.ys (YS.ix rfl (by omega) (by omega) hT1) <| M.ld (v := .int .i64 (at0 t i)) rfl ((hTc w3 (Below.refl _ _)).one 0 rfl rfl) ?_⟩
  obtain ⟨hA1, P, p, hP, hdc⟩ := rd_dsp hA hkl
  rw [dAt_get hkl] at hdc hP
  have hdo := dAt_ok ha hkl
  have hin : within (i : Int) 0 ((a.ds.length : Int) - 1) = true := Py.within_iff.2 (by omega)
  have s1 := sharesE_ok (n := at0 t i) hf hin (by rw [Int.toNat_natCast]; exact Py.within_iff.2 hti.1)
  rw [Int.toNat_natCast] at s1
  have hwo := fun k (hk : k < (dAt a i).passed.length) => words_own hf hkl (n := at0 t i) hti.1.1 hti.1.2 hk
  generalize hn : at0 t i = n at *
  generalize hd : dAt a i = d at *
  have hL0 := hdo.some_
  have hL5 := hdo.five
  have hlo := hdo.lo
  have hhi := hdo.hi
  have hlh := hdo.lohi
  have b13 := b1.mv0 e13
  refine M.run rfl <| M.ld rfl (b13.cellsAll.one 3 rfl rfl) <| M.run rfl <| M.ys (YS.ix rfl (by omega) (by omega) hA1) <| M.ldA (cs := encDsp d P p) rfl rfl (hdc w3 (gr_below e03)) <| M.nw rfl fun g2 w4 b4 e4 l4 => M.run rfl <| M.store rfl rfl b4 rfl rfl fun w5 b5 e5 => ?_
  replace b5 : Blk w5 g2 (encDsp d P p) 43 := b5
  have e35 := gr_fresh e4 e5 l4
  have e05 := gr_trans e03 e35
  have b15 := b13.mv0 e35
  -- the shares
  refine M.run rfl <| M.ldA rfl rfl b15.cellsAll <| M.run rfl <| M.cl rfl (hacc w5 e05) ?_
  rintro e w6 ⟨X6, x6, rfl, hX6, e6⟩
  refine ⟨_, rfl, M.run rfl <| M.cl rfl (Shares_go a i n X6 x6 w6 hX6) ?_⟩
  rintro e w7 ⟨S, sc, rfl, hS, e7⟩
  rw [s1.2] at hS
  rw [s1.1, s1.2]
  have e57 := gr_trans e6 e7
  have e07 := gr_trans e05 e57
  have b17 := b15.mv0 e57
  have b27 := b5.mv0 e57
  have rS : Rd dI w7 S sc (share a d n) := hS.rd (by decide)
  have hsl := share_len a d n
  refine ⟨_, rfl, M.at_ [56] rfl <| M.caseF 56 rfl rfl <| M.run rfl <| M.ld (v := .slice P d.passed.length p) rfl (b27.cellsAll.one 3 rfl rfl) <| M.run rfl <| M.condF rfl (by simp [hsl]) ?_⟩
  refine M.run rfl <| M.nw (cs := List.replicate 201 (.int .i64 0)) rfl fun gf w8 bf e8 l8 => ?_
  rw [cnt_zero] at bf
  obtain ⟨Mx, hM⟩ : ∃ Mx, Mx = (d.hi - d.lo + 1).toNat := ⟨_, rfl⟩
  rw [← hM] at hwo
  have hM2 : d.lo + (Mx : Int) = d.hi + 1 := by omega
  have l17 := b17.lt
  have l27 := b27.lt
  refine M.run rfl <| M.loop (σ := Nat) (fun k => [(3, .pointer (some ⟨g1, 0, none⟩)), (7, .int .i64 (i : Int)), (8, .int .i64 n), (9, .pointer (some ⟨g2, 0, none⟩)), (10, .slice S (share a d n).length sc), (12, .pointer (some ⟨gf, 0, none⟩)), (13, .int .i64 (k : Int))]) (fun k w' => k ≤ d.passed.length ∧ w7.grownBy w' none ∧ Blk w' gf (cntCells fun x => (fitsL a d n Mx k).count x) 68) (fun k => d.passed.length - k) 0 ⟨rfl, rfl, rfl, rfl, rfl, rfl, rfl, trivial⟩ ⟨Nat.zero_le _, e8, bf⟩ ?_
  rintro k w9 ⟨hk, e9, bf9⟩
  refine M.run rfl <| M.cond rfl (fun h => ?_) (fun h => ?_)
  · have hlt : k < d.passed.length := by have := of_decide_eq_true h; omega
    obtain ⟨hP1, hPc⟩ := rd_flat hP hlt
    obtain ⟨hS1, hSc⟩ := rd_flat rS (j := k) (by omega)
    rw [at0_get hlt] at hPc
    rw [at0_get (by omega), share_at _ _ _ hlt] at hSc
    obtain ⟨h1, h2⟩ := hwo k hlt
    refine M.run rfl <| M.drawG [] (by kernel_rfl) fun wa ea => ?_
    have e7a := gr_trans e9 ea
    have e0a := gr_trans e07 e7a
    refine D.run rfl <| D.ldA 0 rfl rfl rfl rfl rfl (fun w' hw => (b17.mv0 (gr_trans e7a hw)).cellsAll) <| D.run rfl <| D.ld 4 rfl rfl rfl rfl (v := .slice P d.passed.length p) (fun w' hw => (b27.mv0 (gr_trans e7a hw)).cellsAll.one 3 rfl rfl) <| D.ys 6 rfl rfl rfl (YS.ix rfl (by omega) (by omega) hP1) <| D.ld 7 rfl rfl rfl rfl (v := .int .i64 (at0 d.passed k)) (fun w' hw => (hPc w' (gr_below (gr_trans e0a hw))).one 0 rfl rfl) <| D.ys 10 rfl rfl rfl (YS.ix rfl (by omega) (by omega) hS1) <| D.ld 11 rfl rfl rfl rfl (v := .int .i64 (shr a d.passed.length n k)) (fun w' hw => (hSc w' (gr_below (gr_trans e7a hw))).one 0 rfl rfl) <| D.run rfl ?_
    refine D.one 1 rfl rfl <| M.cl rfl (hacc wa e0a) ?_
    rintro e wb ⟨Xb, xb, rfl, hXb, eb⟩
    refine ⟨_, rfl, M.run rfl <| M.end_ ⟨.inr eb, ?_⟩⟩
    refine D.one 13 rfl rfl <| M.cl rfl (Words_go a i (at0 d.passed k) (shr a d.passed.length n k) Xb xb wb hXb) ?_
    rintro e wc ⟨X, x, rfl, hX, ec⟩
    rw [h2] at hX
    rw [h1, h2]
    refine ⟨_, rfl, M.run rfl <| M.end_ ⟨.inr ec, D.run rfl <| D.done_ rfl ?_⟩⟩
    have e9c := gr_trans (gr_trans ea eb) ec
    have e7c := gr_trans e9 e9c
    have bfc := bf9.mv0 e9c
    have hfl := fitL_len a d k (shr a d.passed.length n k) Mx
    have hfs := fits_len a d n Mx k
    have hmem := fun x => fit_mem (a := a) (d := d) (k := k) (p := shr a d.passed.length n k) (x := x) (M := Mx)
    have hup := fun j h h' => fit_up (a := a) (d := d) (k := k) (p := shr a d.passed.length n k) (M := Mx) (i := j) h h'
    have hnext : fitsL a d n Mx (k + 1) = fitsL a d n Mx k ++ fitL a d k (shr a d.passed.length n k) Mx := rfl
    generalize fitL a d k (shr a d.passed.length n k) Mx = l at *
    have hkM : k * Mx ≤ 1000 := by
      have := Nat.mul_le_mul (show k ≤ 5 by omega) (show Mx ≤ 200 by omega); omega
    have lb : gf < wb.heap.size := by have := bf9.lt; have := (gr_trans ea eb).size; omega
    refine M.run rfl <| M.condF rfl rfl <| M.run rfl <| M.loop (σ := Nat) (fun j => [(3, .pointer (some ⟨g1, 0, none⟩)), (7, .int .i64 (i : Int)), (8, .int .i64 n), (9, .pointer (some ⟨g2, 0, none⟩)), (10, .slice S (share a d n).length sc), (12, .pointer (some ⟨gf, 0, none⟩)), (13, .int .i64 (k : Int)), (14, .slice X l.length x), (16, .int .i64 (j : Int))]) (fun j w' => j ≤ l.length ∧ w7.grownBy w' none ∧ Vc.Own dI 3 w' wb.heap.size no X x l ∧ Blk w' gf (cntCells fun x => (fitsL a d n Mx k ++ l.take j).count x) 68) (fun j => l.length - j) 0 ⟨rfl, rfl, rfl, rfl, rfl, rfl, rfl, rfl, rfl, trivial⟩ ⟨Nat.zero_le _, e7c, hX, by simpa using bfc⟩ ?_
    rintro j wd ⟨hj, ed, hXd, bfd⟩
    refine M.run rfl <| M.cond rfl (fun h => ?_) (fun h => ?_)
    rotate_left
    · have hje : j = l.length := by have := of_decide_eq_false h; omega
      subst hje
      rw [List.take_length, ← hnext] at bfd
      exact M.run rfl <| M.end_ ⟨k + 1, ⟨rfl, rfl, rfl, rfl, rfl, rfl, nxt hlt (by omega), trivial⟩, ⟨by omega, ed, bfd⟩, by omega⟩
    have hjl : j < l.length := by have := of_decide_eq_true h; omega
    have rX : Rd dI wd X x l := hXd.rd (by decide)
    obtain ⟨hX1, hXc⟩ := rd_flat rX hjl
    have hmj := (hmem l[j]).1 (List.getElem_mem hjl)
    rw [at0_get hjl] at hXc hmj
    have hwi : within (at0 l j) d.lo d.hi = true := Py.within_iff.2 (by omega)
    have htk : l.take (j + 1) = l.take j ++ [at0 l j] := by rw [List.take_add_one, List.getElem?_eq_getElem hjl, at0_get hjl]; rfl
    have hcb : (fitsL a d n Mx k ++ l.take j).count (at0 l j) ≤ 2000 := by
      refine Nat.le_trans List.count_le_length ?_
      rw [List.length_append, List.length_take]; omega
    obtain ⟨v, hv⟩ : ∃ v : Nat, at0 l j = (v : Int) := ⟨(at0 l j).toNat, by omega⟩
    rw [hv] at hXc hmj hwi htk hcb
    refine M.run rfl <| M.drawG [] (by kernel_rfl) fun we ee => ?_
    have e7e := gr_trans ed ee
    refine D.run rfl <| D.ys 2 rfl rfl rfl (YS.ix rfl (by omega) (by omega) hX1) <| D.ld 3 rfl rfl rfl rfl (v := .int .i64 (v : Int)) (fun w' hw => (hXc w' (gr_below (gr_trans ee hw))).one 0 rfl rfl) <| D.run rfl <| D.ld 6 rfl rfl rfl rfl (v := .int .i64 d.lo) (fun w' hw => (b27.mv0 (gr_trans e7e hw)).cellsAll.one 1 rfl rfl) <| D.run rfl <| D.ld 9 rfl rfl rfl rfl (v := .int .i64 d.hi) (fun w' hw => (b27.mv0 (gr_trans e7e hw)).cellsAll.one 2 rfl rfl) <|
      D.one 10 rfl rfl <| M.cl rfl (In_go (v : Int) d.lo d.hi we) ?_
    rintro e wf ⟨rfl, ef⟩
    rw [hwi]
    have edf := gr_trans ee ef
    have e7f := gr_trans ed edf
    have bff := bfd.mv0 edf
    have hXf := hXd.mv0 edf
    refine ⟨_, rfl, M.run rfl <| M.end_ ⟨.inr ef, D.at_ [107] rfl <| D.caseF 107 rfl rfl <| D.at_ [110] rfl <| D.case 110 rfl (fun h0 => ?_) (fun h0 => ?_)⟩⟩
    · have hj0 : 0 < j := by have := of_decide_eq_true h0; omega
      have hlt2 := hup j hj0 hjl
      rw [hv] at hlt2
      obtain ⟨_, hXp⟩ := rd_flat rX (j := j - 1) (by omega)
      rw [at0_get (by omega)] at hXp
      refine D.run rfl <| D.ys 18 rfl rfl rfl (YS.ix rfl (by omega) (by omega) hX1) <| D.ld 19 rfl rfl rfl rfl (v := .int .i64 (v : Int)) (fun w' hw => (hXc w' (gr_below (gr_trans edf hw))).one 0 rfl rfl) <| D.at_ [118] rfl ?_
      rw [w64 (x := (j : Int) - 1) (by omega) (by omega), show (j : Int) - 1 = ((j - 1 : Nat) : Int) by omega]
      refine D.ys 23 rfl rfl rfl (YS.ix rfl (by omega) (by omega) hX1) <| D.ld 24 rfl rfl rfl rfl (v := .int .i64 (at0 l (j - 1))) (fun w' hw => (hXp w' (gr_below (gr_trans edf hw))).one 0 rfl rfl) <| D.run rfl <| D.done_ rfl <| M.run rfl <| M.condF rfl (decide_eq_false (by omega)) ?_
      have hcell : wf.cell? (Addr.add ⟨gf, 0, none⟩ (((v : Int)).toNat * 1)) = some (.int .i64 ((fitsL a d n Mx k ++ l.take j).count (v : Int) : Nat)) :=
        bff.cellsAll.one v (cnt_get _ (by omega)) (by rw [Int.toNat_natCast, Nat.mul_one])
      refine M.run rfl <| M.ys (YS.ix rfl (by omega) (by omega) hX1) <| M.ld (v := .int .i64 (v : Int)) rfl ((hXc wf (gr_below edf)).one 0 rfl rfl) <| M.run rfl <| M.ixA rfl (by omega) (by omega) <| M.ld rfl hcell <| M.at_ [130] rfl ?_
      rw [w64 (x := (((fitsL a d n Mx k ++ l.take j).count (v : Int) : Nat) : Int) + 1) (by omega) (by omega)]
      refine M.ixA rfl (by omega) (by omega) <| M.storeA (cs := cntCells fun x => (fitsL a d n Mx k ++ l.take j).count x) (off := v) (vs := [.int .i64 (((fitsL a d n Mx k ++ l.take j).count (v : Int) : Nat) + 1 : Int)]) rfl rfl (by exact ad1 gf v) bff (by rw [cnt_len]; simp; omega) rfl fun wg bg eg => ?_
      rw [show v + [Value.int .i64 (((fitsL a d n Mx k ++ l.take j).count (v : Int) : Nat) + 1 : Int)].length = v + 1 from rfl, cnt_set _ (by omega), List.append_assoc, ← htk] at bg
      have hXg := hXf.mv1 eg (fun h => by have := (hXf.blkGe gf (by rw [h]; rfl)).1; omega) (fun h => h)
      exact M.run rfl <| M.end_ ⟨j + 1, ⟨rfl, rfl, rfl, rfl, rfl, rfl, rfl, rfl, nxt hjl (by omega), trivial⟩, ⟨by omega, gr_fresh e7f eg l8, hXg, bg⟩, by omega⟩
    · refine D.run rfl <| D.done_ rfl <| M.run rfl <| M.condF rfl rfl ?_
      have hcell : wf.cell? (Addr.add ⟨gf, 0, none⟩ (((v : Int)).toNat * 1)) = some (.int .i64 ((fitsL a d n Mx k ++ l.take j).count (v : Int) : Nat)) :=
        bff.cellsAll.one v (cnt_get _ (by omega)) (by rw [Int.toNat_natCast, Nat.mul_one])
      refine M.run rfl <| M.ys (YS.ix rfl (by omega) (by omega) hX1) <| M.ld (v := .int .i64 (v : Int)) rfl ((hXc wf (gr_below edf)).one 0 rfl rfl) <| M.run rfl <| M.ixA rfl (by omega) (by omega) <| M.ld rfl hcell <| M.at_ [130] rfl ?_
      rw [w64 (x := (((fitsL a d n Mx k ++ l.take j).count (v : Int) : Nat) : Int) + 1) (by omega) (by omega)]
      refine M.ixA rfl (by omega) (by omega) <| M.storeA (cs := cntCells fun x => (fitsL a d n Mx k ++ l.take j).count x) (off := v) (vs := [.int .i64 (((fitsL a d n Mx k ++ l.take j).count (v : Int) : Nat) + 1 : Int)]) rfl rfl (by exact ad1 gf v) bff (by rw [cnt_len]; simp; omega) rfl fun wg bg eg => ?_
      rw [show v + [Value.int .i64 (((fitsL a d n Mx k ++ l.take j).count (v : Int) : Nat) + 1 : Int)].length = v + 1 from rfl, cnt_set _ (by omega), List.append_assoc, ← htk] at bg
      have hXg := hXf.mv1 eg (fun h => by have := (hXf.blkGe gf (by rw [h]; rfl)).1; omega) (fun h => h)
      exact M.run rfl <| M.end_ ⟨j + 1, ⟨rfl, rfl, rfl, rfl, rfl, rfl, rfl, rfl, nxt hjl (by omega), trivial⟩, ⟨by omega, gr_fresh e7f eg l8, hXg, bg⟩, by omega⟩
  -- no other words
  have hke : k = d.passed.length := by have := of_decide_eq_false h; omega
  subst hke
  have e09 := gr_trans e07 e9
  refine M.run rfl <| M.ld (v := .int .i64 d.lo) rfl ((b27.mv0 e9).cellsAll.one 1 rfl rfl) <| M.run rfl <| M.loop (σ := Nat) (fun j => [(3, .pointer (some ⟨g1, 0, none⟩)), (8, .int .i64 n), (9, .pointer (some ⟨g2, 0, none⟩)), (10, .slice S (share a d n).length sc), (12, .pointer (some ⟨gf, 0, none⟩)), (17, .int .i64 (d.lo + (j : Int)))]) (fun j w' => j ≤ Mx ∧ w9.grownBy w' none) (fun j => Mx - j) 0 ⟨rfl, rfl, rfl, rfl, rfl, by simp; rfl, trivial⟩ ⟨Nat.zero_le _, gr_refl _ _⟩ ?_
  rintro j wa ⟨hj, ea⟩
  have e7a := gr_trans e9 ea
  have bfa := bf9.mv0 ea
  refine M.run rfl <| M.ld (v := .int .i64 d.hi) rfl ((b27.mv0 e7a).cellsAll.one 2 rfl rfl) <| M.run rfl <| M.cond rfl (fun h => ?_) (fun h => ?_)
  rotate_left
  · refine M.run rfl <| M.cl rfl (awake_go wa) ?_
    rintro e wb ⟨rfl, eb⟩
    exact ⟨_, rfl, M.run rfl <| M.retF rfl rfl ⟨rfl, gr_trans (gr_trans e07 e7a) eb⟩⟩
  have hjM : j < Mx := by have := of_decide_eq_true h; omega
  obtain ⟨v, hv⟩ : ∃ v : Nat, d.lo + (j : Int) = (v : Int) := ⟨(d.lo + (j : Int)).toNat, by omega⟩
  have hnx : IntKind.i64.wrap (d.lo + (j : Int) + 1) = d.lo + ((j + 1 : Nat) : Int) := by rw [w64 (by omega) (by omega)]; omega
  have hcnt := (fits_count (a := a) (d := d) (n := n) (M := Mx) (x := d.lo + (j : Int)) (by omega) (by omega) d.passed.length).2
  rw [same_words ha hL0 hti.2.1 (show 0 ≤ d.lo + (j : Int) by omega)] at hcnt
  have hcell : wa.cell? (Addr.add ⟨gf, 0, none⟩ ((d.lo + (j : Int)).toNat * 1)) = some (.int .i64 ((fitsL a d n Mx d.passed.length).count (d.lo + (j : Int)) : Nat)) := by
    rw [hv]; exact bfa.cellsAll.one v (cnt_get _ (by omega)) (by rw [Int.toNat_natCast, Nat.mul_one])
  refine M.run rfl <| M.ixA rfl (by omega) (by omega) <| M.ld rfl hcell <| M.at_ [151] rfl <| M.case 151 rfl (fun h2 => ?_) (fun h2 => ?_)
  · have hm : d.lo + (j : Int) = n := of_decide_eq_true h2
    have hc := hcnt.2 (.inl hm)
    refine M.run rfl <| M.condF rfl ?_ <| M.run rfl <| M.end_ ⟨j + 1, ⟨rfl, rfl, rfl, rfl, rfl, by rw [← hnx]; rfl, trivial⟩, ⟨by omega, ea⟩, by omega⟩
    rw [hc, hsl]; simp
  · have hm : d.lo + (j : Int) ≠ n := of_decide_eq_false h2
    refine M.run rfl <| M.ld (v := .int .i64 a.rate) rfl ((b17.mv0 e7a).cellsAll.one 1 rfl rfl) <| M.run rfl <| M.condF rfl ?_ <| M.run rfl <| M.end_ ⟨j + 1, ⟨rfl, rfl, rfl, rfl, rfl, by rw [← hnx]; rfl, trivial⟩, ⟨by omega, ea⟩, by omega⟩
    have hc : ((fitsL a d n Mx d.passed.length).count (d.lo + (j : Int)) = d.passed.length) ↔ a.rate = 0 := hcnt.trans ⟨fun h => h.resolve_left hm, .inr⟩
    by_cases hr : a.rate = 0
    · rw [hc.2 hr, hsl, hr]; simp
    · have hne := fun h => hr (hc.1 h)
      rw [hsl, beq_eq_false_iff_ne.2 (show (((fitsL a d n Mx d.passed.length).count (d.lo + (j : Int)) : Nat) : Int) ≠ (d.passed.length : Int) by omega), beq_eq_false_iff_ne.2 hr]; rfl
end Go.Proofs.Yteeikpmoboehdaa
end
