/- The row, its walks and what they need (merged from several texts: YtaimlmfncjbmjaaLW, YtaimlmfncjbmjaaLX, YtaimlmfncjbmjaaLY, YtaimlmfncjbmjaaM0, YtaimlmfncjbmjaaM1, YtaimlmfncjbmjaaM2, YtaimlmfncjbmjaaM3, YtaimlmfncjbmjaaAE, YtaimlmfncjbmjaaM4, YtaimlmfncjbmjaaM5, YtaimlmfncjbmjaaM6, YtaimlmfncjbmjaaBase). -/
import Derived.Test.YtaimlmfncjbmjaaW2
import Derived.Test.YtaimlmfncjbmjaaW0
import Derived.Test.YtaimlmfncjbmjaaW1
set_option linter.unusedVariables false
set_option linter.unusedSimpArgs false
section
/- Walk of the law: LampDips. -/
set_option linter.unusedVariables false
namespace Go.Proofs.Ytaimlmfncjbmjaa
open Go Go.Vc Go.RowKit Lp
end Go.Proofs.Ytaimlmfncjbmjaa
namespace Lp
theorem rngs_more {s : Store} {p : Plan} {l l' : List Dip} (hf : Fine s p) (h : levelsOk s p l' = true) (hsub : ∀ d ∈ l, d ∈ l') {i : Nat} (hi : i < s.nights.length) :
    (ends (levelAt s p l s.nights.length i)).lo ≤ (ends (levelAt s p l' s.nights.length i)).lo ∧ (ends (levelAt s p l' s.nights.length i)).hi ≤ (ends (levelAt s p l s.nights.length i)).hi := by
  obtain ⟨⟨t1, a1, a2⟩, ⟨t2, c1, c2⟩, _⟩ := range_spec hf h hi
  have h3 := (range_spec hf (ok_sub hf hsub h) hi).2.2
  have k1 := h3 t1 (fits_sub hsub a1)
  have k2 := h3 t2 (fits_sub hsub c1)
  omega
end Lp
namespace Go.Proofs.Ytaimlmfncjbmjaa
open Go Go.Vc Go.RowKit Lp
def Keep (N : Nat) (a b : World) : Prop := a.heap.size ≤ b.heap.size ∧ ∀ g, g < N → g < a.heap.size → b.heap[g]? = a.heap[g]?
theorem Keep.refl (N : Nat) (w : World) : Keep N w w := ⟨Nat.le_refl _, fun _ _ _ => rfl⟩
theorem Keep.trans {N : Nat} {a b c : World} (h : Keep N a b) (k : Keep N b c) : Keep N a c := ⟨Nat.le_trans h.1 k.1, fun g h1 h2 => (k.2 g h1 (Nat.lt_of_lt_of_le h2 h.1)).trans (h.2 g h1 h2)⟩
theorem Keep.of {N : Nat} {a b : World} {r : Option Nat} (h : a.grownBy b r) (hr : ∀ g, r = some g → N ≤ g) : Keep N a b := ⟨h.size, fun g h1 h2 => h.block g h2 (fun e => by have := hr g e.symm; omega)⟩
theorem Keep.of0 {N : Nat} {a b : World} (h : a.grownBy b none) : Keep N a b := Keep.of h (by simp)
theorem Keep.blk {N : Nat} {a b : World} (h : Keep N a b) {g : Nat} {cs : List Value} {t : Nat} (hB : Blk a g cs t) (hg : g < N) : Blk b g cs t := (h.2 g hg hB.lt).trans hB
set_option maxHeartbeats 1000000 in
set_option maxRecDepth 100000 in
theorem LampDips_go (s : Store) (p : Plan) (wl : List Int) (many bits : Int) (mr : Dip) (A : Option Addr) (c : Nat) (B : Option Addr) (b : Nat) (U : Option Addr) (d : Nat) (V : Option Addr) (v : Nat) (w : World) (hA : Rd dNight w A c s.nights) (hB : Rd dI w B b p.cans) (hD : Rd dI w U d p.wicks) (hV : Rd dW w V v wl) (hwl : ∀ x ∈ wl, 0 ≤ x ∧ x ≤ 65535) (q0 : 0 ≤ many) (q1 : many ≤ 255) (q2 : 0 ≤ bits) (q3 : bits ≤ 255) :
    Calls Try.prog 9 #[vStore s A c, vPlan p B b U d, .slice V wl.length v, .int .u8 many, .int .u8 bits, .agg #[.int .i64 mr.night, .int .i64 mr.lo, .int .i64 mr.hi]] w fun e w' => e = .returned (.bool true) ∧ w.grownBy w' none := by
  refine calls (G := G) (args := [vStore s A c, vPlan p B b U d, .slice V wl.length v, .int .u8 many, .int .u8 bits, .agg #[.int .i64 mr.night, .int .i64 mr.lo, .int .i64 mr.hi]]) Try.func9 rfl rfl rfl ?_
  refine M.run rfl <| M.nw rfl fun g1 w1 b1 e1 l1 => M.run rfl <| M.nw rfl fun g2 w2 b2 e2 l2 => M.run rfl <| M.nw rfl fun g3 w2' b3 e2' l3 => M.run rfl <| M.ldA rfl rfl ((b1.mv0 e2).mv0 e2').cellsAll <| M.run rfl <| M.ldA rfl rfl (b2.mv0 e2').cellsAll <| M.run rfl ?_
  have e02 := gr_trans (gr_trans e1 e2) e2'
  replace b1 := (b1.mv0 e2).mv0 e2'
  replace b2 := b2.mv0 e2'
  refine M.cl rfl (ready_go s p A c B b U d w2' (hA.mv e02) (hB.mv e02) (hD.mv e02)) ?_
  rintro e w3 ⟨rfl, e3⟩
  have e03 := gr_trans e02 e3
  replace b1 := b1.mv0 e3
  replace b2 := b2.mv0 e3
  replace b3 := b3.mv0 e3
  have fin : ∀ (wk : World), w.grownBy wk none → Calls Try.prog 17 #[] wk fun e w' => e = .returned (.bool true) ∧ w.grownBy w' none := fun wk hk => (awake_go wk).mono fun e w' ⟨h1, h2⟩ => ⟨h1, gr_trans hk h2⟩
  refine ⟨_, rfl, M.run rfl <| M.cond rfl (fun h => ?_) (fun h => ?_)⟩
  · refine M.run rfl <| M.cl rfl (fin w3 e03) ?_
    rintro e wz ⟨rfl, ez⟩
    exact ⟨_, rfl, M.run rfl <| M.retF rfl rfl ⟨rfl, ez⟩⟩
  have hr : readyB s p = true := by simpa using h
  have hck := ready_check hr
  have hf := check_fine hck
  have hfew := hf.ok.few
  have hsome := hf.ok.some_
  have hcl := hf.cl
  have hwkl := hf.wl
  refine M.run rfl <| M.drawG [] (by kernel_rfl) fun w4 e4 => ?_
  have e04 := gr_trans e03 e4
  replace b1 := b1.mv0 e4
  replace b2 := b2.mv0 e4
  refine D.run rfl <| D.ldA 0 rfl rfl rfl rfl rfl (fun w' hw => (b1.mv0 hw).cellsAll) <| D.ldA 1 rfl rfl rfl rfl rfl (fun w' hw => (b2.mv0 hw).cellsAll) <| D.ldA 2 rfl rfl rfl rfl rfl (fun w' hw => (b1.mv0 hw).cellsAll) <| D.one 4 rfl rfl <| M.cl rfl (Picked_go s wl A c V v w4 (hA.mv e04) (hV.mv e04) hwl hf.ok) ?_
  rintro e w5 ⟨t, T, tc, rfl, hT, ht, e5⟩
  have e05 := gr_trans e04 e5
  refine ⟨_, rfl, M.run rfl <| M.end_ ⟨.inr e5, D.run rfl <| D.one 8 rfl rfl <| M.cl rfl (Dipped_go s p t wl many bits A c B b U d T tc V v w5 (hA.mv e05) (hB.mv e05) (hD.mv e05) hT (hV.mv e05) hwl hf ht ⟨q0, q1⟩ ⟨q2, q3⟩) ?_⟩⟩
  rintro e w6 ⟨ds, E, ec, rfl, hE, hdl, hdok, hdag, e6⟩
  have e06 := gr_trans e05 e6
  have e46 := gr_trans e5 e6
  replace b1 := b1.mv0 e46
  replace b2 := b2.mv0 e46
  have hEr : Rd dDip w6 E ec ds := hE.rd (by decide)
  have hd0 := dipped_ok hck (by omega) hdok
  replace b3 := (b3.mv0 e4).mv0 e46
  refine ⟨_, rfl, M.run rfl <| M.end_ ⟨.inr e6, D.run rfl <| D.done_ rfl <| M.run rfl <| M.draw (Keep w6.heap.size) (fun _ _ => True) [] [] [] (fun _ _ _ h => h) (fun w => Keep.refl _ w) (fun a b c h k => h.trans k) (fun _ _ _ => trivial) (fun _ _ _ _ _ => trivial) (by kernel_rfl) ?_⟩⟩
  have ed := gr_drewN w6 1
  have e6d := ed
  have b3d := b3.mv0 ed
  refine D.run rfl <| D.ldA 3 rfl rfl rfl rfl rfl (fun w' hw => ((hw.blk b3d b3.lt).cellsAll : Cells _ _ [_, _, _])) ?_
  have hEd := hEr.mv ed
  have hN : w6.heap.size = (w6.drewN 1).heap.size := rfl
  refine D.meet (σ := Option Addr × Nat × Nat) 2 [4, 3, 2, 1, 0] (fun (Y, y, gk) => [(6, .pointer (some ⟨g1, 0, none⟩)), (7, .pointer (some ⟨g2, 0, none⟩)), (13, .slice E ds.length ec), (40, .slice Y ds.length y), (42, .slice (some ⟨gk, 0, none⟩) 1 1)])
    (fun (Y, y, gk) w' => w6.grownBy w' none ∧ Vc.Own dDip 85 w' w6.heap.size no Y y ds ∧ Blk w' gk [.int .i64 mr.night, .int .i64 mr.lo, .int .i64 mr.hi] 85 ∧ w6.heap.size ≤ gk) (fun hcont => ?_) ?_
  · refine D.two 0 4 rfl rfl rfl ?_ ?_
    · refine M.bs0 rfl fun gi wi bi ei li => M.run rfl <| M.end_ ⟨.inr (Keep.of0 ei), ?_⟩
      have hEi := hEd.mv ei
      refine D.two 2 4 rfl rfl rfl ?_ ?_
      · refine M.appS (d := dDip) rfl rfl (own_bs0 dDip no bi li) rfl (by decide) rfl (ys := ds) rfl (rd_nil hEi) (rd_src rfl hEi) ei.size (by simp; omega) (by decide) fun Y y wj hY ej hatj => M.run rfl <| M.end_ ⟨.inr (Keep.of ej (by rintro g ⟨⟩; exact li)), ?_⟩
        have e0j := (own_bs0 dDip no bi li).gr (gr_trans ed ei) ej (Nat.le_refl _)
        rw [List.nil_append] at hY
        refine D.one 4 rfl rfl <| M.bs rfl fun gk wk bk ek lk => M.run rfl <| M.end_ ⟨.inr (Keep.of0 ek), D.weak rfl ?_ (hcont (Y, y, gk) wk ⟨gr_trans e0j ek, hY.mv0 ek, bk, Nat.le_trans e0j.size lk⟩)⟩
        exact ⟨rfl, rfl, rfl, rfl, rfl, trivial⟩
      · refine M.bs rfl fun gk wk bk ek lk => M.run rfl <| M.end_ ⟨.inr (Keep.of0 ek), ?_⟩
        have hOi := (own_bs0 dDip (w := wi) no bi li).mv0 ek
        refine D.one 2 rfl rfl <| M.appS (d := dDip) rfl rfl hOi rfl (by decide) rfl (ys := ds) rfl (rd_nil hEi) (rd_src rfl (hEi.mv ek)) (gr_trans ei ek).size (by simp; omega) (by decide) fun Y y wj hY ej hatj => M.run rfl <| M.end_ ⟨.inr (Keep.of ej (by rintro g ⟨⟩; exact li)), ?_⟩
        have e0j := hOi.gr (gr_trans (gr_trans ed ei) ek) ej (Nat.le_refl _)
        rw [List.nil_append] at hY
        refine D.weak rfl ?_ (hcont (Y, y, gk) wj ⟨e0j, hY, bk.mv ej (fun hh => by have h' : gi = gk := (by injection hh); have := bi.lt; omega), Nat.le_trans ei.size lk⟩)
        exact ⟨rfl, rfl, rfl, rfl, rfl, trivial⟩
    · refine M.bs rfl fun gk wk bk ek lk => M.run rfl <| M.end_ ⟨.inr (Keep.of0 ek), D.one 0 rfl rfl <| M.bs0 rfl fun gi wi bi ei li => M.run rfl <| M.end_ ⟨.inr (Keep.of0 ei), ?_⟩⟩
      have hOi := own_bs0 dDip (w := wi) no bi (Nat.le_trans ek.size li)
      have hEi := (hEd.mv ek).mv ei
      refine D.one 2 rfl rfl <| M.appS (d := dDip) rfl rfl hOi rfl (by decide) rfl (ys := ds) rfl (rd_nil hEi) (rd_src rfl hEi) (gr_trans ek ei).size (by simp; omega) (by decide) fun Y y wj hY ej hatj => M.run rfl <| M.end_ ⟨.inr (Keep.of ej (by rintro g ⟨⟩; exact Nat.le_trans ek.size li)), ?_⟩
      have e0j := hOi.gr (gr_trans (gr_trans ed ek) ei) ej (Nat.le_refl _)
      rw [List.nil_append] at hY
      refine D.weak rfl ?_ (hcont (Y, y, gk) wj ⟨e0j, hY, (bk.mv0 ei).mv ej (fun hh => by have h' : gi = gk := (by injection hh); have := bk.lt; omega), lk⟩)
      exact ⟨rfl, rfl, rfl, rfl, rfl, trivial⟩
  rintro ⟨Y, y, gk⟩ w7 ⟨e67, hY, bk, lk⟩
  refine D.one 5 rfl rfl <| M.app (d := dDip) rfl rfl hY rfl (by decide) rfl (ys := [mr]) rfl rfl (src_one bk rfl) e67.size (by simp; omega) (by decide) fun Z z w8 hZ e8 hat8 => M.run rfl <| M.end_ ⟨.inr (Keep.of e8 (fun g hg => (hY.blkGe g hg).1)), D.run rfl <| D.done_ rfl <| M.run rfl ?_⟩
  have e68 := hY.gr e67 e8 (Nat.le_refl _)
  have e08 := gr_trans e06 e68
  replace b1 := b1.mv0 e68
  replace b2 := b2.mv0 e68
  replace hEr := hEr.mv e68
  have hml : (ds ++ [mr]).length = ds.length + 1 := by simp
  have hsub : ∀ q ∈ ds, q ∈ ds ++ [mr] := fun q hq => by simp [hq]
  have hlv2 : dippedE s p (ds ++ [mr]) = 0 → (leaveR s p ds).length ≤ (leaveR s p (ds ++ [mr])).length ∧ (leaveR s p (ds ++ [mr])).length ≤ (leaveR s p ds).length + 1 := leave_more hf hd0
  generalize (ds ++ [mr]) = ms at *
  have hZr : Rd dDip w8 Z z ms := hZ.rd (by decide)
  refine M.ldA rfl rfl b1.cellsAll <| M.run rfl <| M.ldA rfl rfl b2.cellsAll <| M.run rfl <| M.cl rfl (dippedL_go s p ms A c B b U d Z z w8 (hA.mv e08) (hB.mv e08) (hD.mv e08) hZr) ?_
  rintro e w9 ⟨rfl, e9⟩
  have e09 := gr_trans e08 e9
  replace b1 := b1.mv0 e9
  replace b2 := b2.mv0 e9
  replace hEr := hEr.mv e9
  replace hZr := hZr.mv e9
  refine ⟨_, rfl, M.run rfl <| M.cond rfl (fun k1 => ?_) (fun k1 => ?_)⟩
  · refine M.run rfl <| M.cl rfl (fin w9 e09) ?_
    rintro e wz ⟨rfl, ez⟩
    exact ⟨_, rfl, M.run rfl <| M.retF rfl rfl ⟨rfl, ez⟩⟩
  have hm0 : dippedE s p ms = 0 := by simpa using k1
  obtain ⟨hv1, hv2⟩ := hlv2 hm0
  refine M.run rfl <| M.drawG [] (by kernel_rfl) fun x8 xe8 => ?_
  have x0 := gr_trans e09 xe8
  refine D.run rfl <| D.ldA 0 rfl rfl rfl rfl rfl (fun w' hw => ((b1.mv0 xe8).mv0 hw).cellsAll) <| D.ldA 2 rfl rfl rfl rfl rfl (fun w' hw => ((b2.mv0 xe8).mv0 hw).cellsAll) <| D.one 1 rfl rfl <| M.cl rfl (StoreC_go s A c x8 (hA.mv x0) (by omega)) ?_
  rintro e x9 ⟨A1, a1, rfl, hA1, xe9⟩
  refine ⟨_, rfl, M.run rfl <| M.end_ ⟨.inr xe9, D.one 3 rfl rfl <| M.cl rfl (PlanC_go p B b U d x9 (hB.mv (gr_trans x0 xe9)) (hD.mv (gr_trans x0 xe9)) (by omega) (by omega)) ?_⟩⟩
  rintro e xa ⟨B1, b1', U1, u1, rfl, hB1, hU1, xea⟩
  have x7a := gr_trans (gr_trans xe8 xe9) xea
  refine ⟨_, rfl, M.run rfl <| M.end_ ⟨.inr xea, D.one 5 rfl rfl <| M.cl rfl (Dips_go ds E ec xa (hEr.mv x7a) (by omega)) ?_⟩⟩
  rintro e xb ⟨E1, ec2, rfl, hE1, xeb⟩
  refine ⟨_, rfl, M.run rfl <| M.end_ ⟨.inr xeb, D.one 6 rfl rfl <| M.cl rfl (Oil_go s p ds A1 a1 B1 b1' U1 u1 E1 ec2 xb (hA1.mv (gr_trans xea xeb)) (hB1.mv xeb) (hU1.mv xeb) (hE1.rd (by decide))) ?_⟩⟩
  rintro e xw ⟨R, r, rfl, hR, xew⟩
  have xB := gr_trans x7a (gr_trans xeb xew)
  refine ⟨_, rfl, M.run rfl <| M.end_ ⟨.inr xew, D.run rfl <| D.done_ rfl <| M.run rfl <| M.drawG [] (by kernel_rfl) fun y8 ye8 => ?_⟩⟩
  have y0 := gr_trans (gr_trans e09 xB) ye8
  refine D.run rfl <| D.ldA 0 rfl rfl rfl rfl rfl (fun w' hw => (((b1.mv0 xB).mv0 ye8).mv0 hw).cellsAll) <| D.ldA 2 rfl rfl rfl rfl rfl (fun w' hw => (((b2.mv0 xB).mv0 ye8).mv0 hw).cellsAll) <| D.one 1 rfl rfl <| M.cl rfl (StoreC_go s A c y8 (hA.mv y0) (by omega)) ?_
  rintro e y9 ⟨A1, a1, rfl, hA1, ye9⟩
  refine ⟨_, rfl, M.run rfl <| M.end_ ⟨.inr ye9, D.one 3 rfl rfl <| M.cl rfl (PlanC_go p B b U d y9 (hB.mv (gr_trans y0 ye9)) (hD.mv (gr_trans y0 ye9)) (by omega) (by omega)) ?_⟩⟩
  rintro e ya ⟨B1, b1', U1, u1, rfl, hB1, hU1, yea⟩
  have y7a := gr_trans (gr_trans ye8 ye9) yea
  refine ⟨_, rfl, M.run rfl <| M.end_ ⟨.inr yea, D.one 5 rfl rfl <| M.cl rfl (Dips_go ms Z z ya ((hZr.mv xB).mv y7a) (by omega)) ?_⟩⟩
  rintro e yb ⟨E1, ec2, rfl, hE1, yeb⟩
  refine ⟨_, rfl, M.run rfl <| M.end_ ⟨.inr yeb, D.one 6 rfl rfl <| M.cl rfl (Oil_go s p ms A1 a1 B1 b1' U1 u1 E1 ec2 yb (hA1.mv (gr_trans yea yeb)) (hB1.mv yeb) (hU1.mv yeb) (hE1.rd (by decide))) ?_⟩⟩
  rintro e yw ⟨R2, r2, rfl, hR2, yew⟩
  have yB := gr_trans y7a (gr_trans yeb yew)
  have e9y := gr_trans xB yB
  refine ⟨_, rfl, M.run rfl <| M.end_ ⟨.inr yew, D.run rfl <| D.done_ rfl <| M.run rfl <| M.drawG [] (by kernel_rfl) fun z8 ze8 => ?_⟩⟩
  have z0 := gr_trans (gr_trans e09 e9y) ze8
  refine D.run rfl <| D.ldA 0 rfl rfl rfl rfl rfl (fun w' hw => (((b1.mv0 e9y).mv0 ze8).mv0 hw).cellsAll) <| D.ldA 2 rfl rfl rfl rfl rfl (fun w' hw => (((b2.mv0 e9y).mv0 ze8).mv0 hw).cellsAll) <| D.one 1 rfl rfl <| M.cl rfl (StoreC_go s A c z8 (hA.mv z0) (by omega)) ?_
  rintro e z9 ⟨A1, a1, rfl, hA1, ze9⟩
  refine ⟨_, rfl, M.run rfl <| M.end_ ⟨.inr ze9, D.one 3 rfl rfl <| M.cl rfl (PlanC_go p B b U d z9 (hB.mv (gr_trans z0 ze9)) (hD.mv (gr_trans z0 ze9)) (by omega) (by omega)) ?_⟩⟩
  rintro e za ⟨B1, b1', U1, u1, rfl, hB1, hU1, zea⟩
  have z7a := gr_trans (gr_trans ze8 ze9) zea
  refine ⟨_, rfl, M.run rfl <| M.end_ ⟨.inr zea, D.one 5 rfl rfl <| M.cl rfl (Dips_go ds E ec za ((hEr.mv e9y).mv z7a) (by omega)) ?_⟩⟩
  rintro e zb ⟨E1, ec2, rfl, hE1, zeb⟩
  refine ⟨_, rfl, M.run rfl <| M.end_ ⟨.inr zeb, D.one 6 rfl rfl <| M.cl rfl (Leave_go s p ds A1 a1 B1 b1' U1 u1 E1 ec2 zb (hA1.mv (gr_trans zea zeb)) (hB1.mv zeb) (hU1.mv zeb) (hE1.rd (by decide))) ?_⟩⟩
  rintro e zw ⟨O, o, rfl, hO, zew⟩
  have zB := gr_trans z7a (gr_trans zeb zew)
  have e9z := gr_trans e9y zB
  refine ⟨_, rfl, M.run rfl <| M.end_ ⟨.inr zew, D.run rfl <| D.done_ rfl <| M.run rfl <| M.drawG [] (by kernel_rfl) fun v8 ve8 => ?_⟩⟩
  have v0 := gr_trans (gr_trans e09 e9z) ve8
  refine D.run rfl <| D.ldA 0 rfl rfl rfl rfl rfl (fun w' hw => (((b1.mv0 e9z).mv0 ve8).mv0 hw).cellsAll) <| D.ldA 2 rfl rfl rfl rfl rfl (fun w' hw => (((b2.mv0 e9z).mv0 ve8).mv0 hw).cellsAll) <| D.one 1 rfl rfl <| M.cl rfl (StoreC_go s A c v8 (hA.mv v0) (by omega)) ?_
  rintro e v9 ⟨A1, a1, rfl, hA1, ve9⟩
  refine ⟨_, rfl, M.run rfl <| M.end_ ⟨.inr ve9, D.one 3 rfl rfl <| M.cl rfl (PlanC_go p B b U d v9 (hB.mv (gr_trans v0 ve9)) (hD.mv (gr_trans v0 ve9)) (by omega) (by omega)) ?_⟩⟩
  rintro e va ⟨B1, b1', U1, u1, rfl, hB1, hU1, vea⟩
  have v7a := gr_trans (gr_trans ve8 ve9) vea
  refine ⟨_, rfl, M.run rfl <| M.end_ ⟨.inr vea, D.one 5 rfl rfl <| M.cl rfl (Dips_go ms Z z va ((hZr.mv e9z).mv v7a) (by omega)) ?_⟩⟩
  rintro e vb ⟨E1, ec2, rfl, hE1, veb⟩
  refine ⟨_, rfl, M.run rfl <| M.end_ ⟨.inr veb, D.one 6 rfl rfl <| M.cl rfl (Leave_go s p ms A1 a1 B1 b1' U1 u1 E1 ec2 vb (hA1.mv (gr_trans vea veb)) (hB1.mv veb) (hU1.mv veb) (hE1.rd (by decide))) ?_⟩⟩
  rintro e vw ⟨O2, o2, rfl, hO2, vew⟩
  have vB := gr_trans v7a (gr_trans veb vew)
  have e0v := gr_trans e09 (gr_trans e9z vB)
  have hl0 : leaveE s p ds = 0 := hd0
  have hl1 : leaveE s p ms = 0 := hm0
  have hn0 := leave_nil hf hd0
  have hn1 := leave_nil hf hm0
  have rR : Rd dRng vw R r _ := Rd.mv (hR.rd (by decide)) (gr_trans (gr_trans yB zB) vB)
  have rR2 : Rd dRng vw R2 r2 _ := Rd.mv (hR2.rd (by decide)) (gr_trans zB vB)
  rw [hl0, hl1]
  have hlen : ((leaveR s p ds).length : Int) + 1 ≤ 9223372036854775807 := by
    have := (hO.rd (by decide) : Rd dI zw O o _).bd
    have h6 := (leave_spec hf hd0).1.len (Nat.zero_le _)
    omega
  refine ⟨_, rfl, M.run rfl <| M.end_ ⟨.inr vew, D.run rfl <| D.done_ rfl <| M.at_ [103] rfl <| M.caseF 103 rfl (decide_eq_false (by omega)) <| M.at_ [111] rfl <| M.caseF 111 rfl (by rw [w64 (x := ((leaveR s p ds).length : Int) + 1) (by omega) hlen]; exact decide_eq_false (by omega)) <| M.at_ [119] rfl ?_⟩⟩
  have hA9 : oilE s p ds = 0 ∨ oilE s p ds = 9 := by
    cases h : levelsOk s p ds with
    | true => exact .inl ((oil_fine hd0).1 h).1
    | false => exact .inr ((oil_fine hd0).2 h).1
  have hds : ((oilE s p ds == 0) != (((leaveR s p ds).length : Int) == 0)) = false := by
    cases h : levelsOk s p ds with
    | true => rw [((oil_fine hd0).1 h).1, hn0.2 h]; rfl
    | false =>
      rw [((oil_fine hd0).2 h).1]
      have : leaveR s p ds ≠ [] := fun hx => by rw [hn0.1 hx] at h; cases h
      have : (leaveR s p ds).length ≠ 0 := fun hx => this (List.eq_nil_of_length_eq_zero hx)
      have h9 : (((leaveR s p ds).length : Int) == 0) = false := by rw [beq_eq_false_iff_ne]; omega
      rw [h9]; rfl
  have hms : ((oilE s p ms == 0) != (((leaveR s p ms).length : Int) == 0)) = false := by
    cases h : levelsOk s p ms with
    | true => rw [((oil_fine hm0).1 h).1, hn1.2 h]; rfl
    | false =>
      rw [((oil_fine hm0).2 h).1]
      have : leaveR s p ms ≠ [] := fun hx => by rw [hn1.1 hx] at h; cases h
      have : (leaveR s p ms).length ≠ 0 := fun hx => this (List.eq_nil_of_length_eq_zero hx)
      have h9 : (((leaveR s p ms).length : Int) == 0) = false := by rw [beq_eq_false_iff_ne]; omega
      rw [h9]; rfl
  refine M.caseF 119 rfl hds <| M.run rfl <| M.condF rfl hms <| M.run rfl <| M.cond rfl (fun k2 => ?_) (fun k2 => ?_)
  · have h9 : oilE s p ms = 9 := by
      have hne : oilE s p ms ≠ 0 := by simpa using k2
      cases h : levelsOk s p ms with
      | true => exact absurd ((oil_fine hm0).1 h).1 hne
      | false => exact ((oil_fine hm0).2 h).1
    rw [h9]
    refine M.run rfl <| M.cl rfl (fin vw e0v) ?_
    rintro e wz ⟨rfl, ez⟩
    exact ⟨_, rfl, M.run rfl <| M.retF rfl rfl ⟨rfl, ez⟩⟩
  have h0 : oilE s p ms = 0 := by simpa using k2
  have hlm : levelsOk s p ms = true := by
    cases h : levelsOk s p ms with
    | true => rfl
    | false => have := ((oil_fine hm0).2 h).1; omega
  have hld := ok_sub hf hsub hlm
  obtain ⟨f1, f2⟩ := (oil_fine hd0).1 hld
  obtain ⟨f3, f4⟩ := (oil_fine hm0).1 hlm
  rw [f1, f2, f4]
  rw [f2] at rR
  rw [f4] at rR2
  have n1 := rngs_len s p ds
  have n2 := rngs_len s p ms
  refine M.run rfl <| M.condF rfl (by rw [n1, n2]; simp) <| M.run rfl ?_
  have hrel : ∀ i, (h1 : i < (rngs s p ds).length) → (h2 : i < (rngs s p ms).length) → (rngs s p ds)[i].lo ≤ (rngs s p ms)[i].lo ∧ (rngs s p ms)[i].hi ≤ (rngs s p ds)[i].hi := fun i h1 h2 => by
    rw [rngs_get s p ds (by omega), rngs_get s p ms (by omega)]
    exact rngs_more hf hlm hsub (by omega)
  clear f2 f4 hR hR2
  generalize rngs s p ds = LR at *
  generalize rngs s p ms = LM at *
  refine M.loop (σ := Nat) (fun i => [(15, .slice R LR.length r), (17, .slice R2 LM.length r2), (23, .int .i64 (i : Int))]) (fun i w' => i ≤ LR.length ∧ vw.grownBy w' none) (fun i => LR.length - i) 0 ⟨rfl, rfl, rfl, trivial⟩ ⟨Nat.zero_le _, gr_refl _ _⟩ ?_
  rintro i wg ⟨hi, eg⟩
  refine M.run rfl <| M.cond rfl (fun h => ?_) (fun h => ?_)
  rotate_left
  · refine M.run rfl <| M.cl rfl (fin wg (gr_trans e0v eg)) ?_
    rintro e wz ⟨rfl, ez⟩
    exact ⟨_, rfl, M.run rfl <| M.retF rfl rfl ⟨rfl, ez⟩⟩
  have hlt : i < LR.length := by have := of_decide_eq_true h; omega
  have hlt2 : i < LM.length := by omega
  obtain ⟨hR1, hRC⟩ := rd_flat rR hlt
  obtain ⟨hM1, hMC⟩ := rd_flat rR2 hlt2
  have hb := hrel i hlt hlt2
  generalize LR[i] = x1 at hRC hb
  generalize LM[i] = x2 at hMC hb
  have bw : ∀ {w'}, wg.grownBy w' none → Below vw.heap.size vw w' := fun hw => gr_below (gr_trans eg hw)
  refine M.run rfl <| M.quiet (by kernel_rfl) <| LQ.run rfl <| LQ.ix rfl (by omega) (by omega) hM1 <| LQ.run rfl <| LQ.ld rfl (fun w' hw => (hMC w' (bw hw)).one 0 rfl rfl) <| LQ.run rfl <| LQ.ix rfl (by omega) (by omega) hR1 <| LQ.run rfl <| LQ.ld rfl (fun w' hw => (hRC w' (bw hw)).one 0 rfl rfl) <| LQ.at_ [160] rfl <| LQ.caseF 160 rfl (decide_eq_false (by omega)) <| LQ.run rfl <|
    LQ.ix rfl (by omega) (by omega) hM1 <| LQ.run rfl <| LQ.ld rfl (fun w' hw => (hMC w' (bw hw)).one 1 rfl rfl) <| LQ.run rfl <| LQ.ix rfl (by omega) (by omega) hR1 <| LQ.run rfl <| LQ.ld rfl (fun w' hw => (hRC w' (bw hw)).one 1 rfl rfl) <| LQ.run rfl <| LQ.nil fun wh eh => ?_
  exact M.run rfl <| M.condF rfl (decide_eq_false (by omega)) <| M.run rfl <| M.end_ ⟨i + 1, ⟨rfl, rfl, nxt (by omega), trivial⟩, ⟨by omega, gr_trans eg eh⟩, by omega⟩
end Go.Proofs.Ytaimlmfncjbmjaa
end

section
/- Walks: some, and the law LampLeft. -/
set_option linter.unusedVariables false
namespace Go.Proofs.Ytaimlmfncjbmjaa
open Go Go.Vc Go.RowKit Lp
end Go.Proofs.Ytaimlmfncjbmjaa
namespace Lp
open Go
/-- the bit is 0 -/
def bitZ (b : Int) (i : Nat) : Bool := (b.fdiv (2 ^ min ((i : Int).toNat) IntKind.i64.bits)).tmod 2 == 0
theorem bitZ_nat (S i : Nat) (hi : i ≤ 64) : bitZ (S : Int) i = !S.testBit i := by
  unfold bitZ
  have h1 : min ((i : Int).toNat) IntKind.i64.bits = i := by rw [Int.toNat_natCast]; exact Nat.min_eq_left hi
  rw [h1, Int.fdiv_eq_ediv_of_nonneg _ (Int.pow_nonneg (by decide))]
  have h2 : (S : Int) / 2 ^ i = ((S / 2 ^ i : Nat) : Int) := by rw [Int.natCast_ediv]; simp
  rw [h2, Nat.testBit_eq_decide_div_mod_eq]
  generalize S / 2 ^ i = q
  have h3 : ((q : Nat) : Int).tmod 2 = ((q % 2 : Nat) : Int) := rfl
  rw [h3]
  by_cases h : q % 2 = 1
  · rw [h]; rfl
  · have : q % 2 = 0 := by omega
    rw [this]; rfl
theorem or_nat {S k : Nat} (hS : S < 64) (hk : k < 6) : IntKind.i64.wrap (BitVec.ofInt IntKind.i64.bits (S : Int) ||| BitVec.ofInt IntKind.i64.bits (IntKind.i64.wrap (1 * 2 ^ min ((k : Int).toNat) IntKind.i64.bits))).toNat = ((S ||| 2 ^ k : Nat) : Int) := by
  have hp : 2 ^ k < 64 := by
    have : 2 ^ k < 2 ^ 6 := Nat.pow_lt_pow_right (by decide) hk
    exact this
  have h1 : min ((k : Int).toNat) IntKind.i64.bits = k := by rw [Int.toNat_natCast]; exact Nat.min_eq_left (by show k ≤ 64; omega)
  have h2 : (1 : Int) * 2 ^ k = ((2 ^ k : Nat) : Int) := by rw [Int.one_mul, Int.natCast_pow]; rfl
  have h3 : ∀ x : Nat, x < 64 → (BitVec.ofInt IntKind.i64.bits (x : Int)).toNat = x := fun x hx => by
    rw [BitVec.ofInt_natCast, BitVec.toNat_ofNat]
    exact Nat.mod_eq_of_lt (Nat.lt_trans hx (by decide))
  have h4 : ∀ x : Nat, x < 64 → IntKind.i64.wrap (x : Int) = x := fun x hx => w64 (by omega) (by omega)
  rw [h1, h2, h4 _ hp, BitVec.toNat_or, h3 _ hS, h3 _ hp]
  exact h4 _ (Nat.or_lt_two_pow (n := 6) hS hp)
def someIn (l : List Dip) (b : Int) (m : Nat) : List Dip := ((l.take m).zipIdx.filter fun x => bitZ b x.2).map (·.1)
def someOut (b : Int) (m : Nat) : List Int := ((List.range m).filter fun i => !bitZ b i).map Int.ofNat
theorem someIn_succ (l : List Dip) (b : Int) (m : Nat) (h : m < l.length) : someIn l b (m + 1) = if bitZ b m then someIn l b m ++ [l[m]] else someIn l b m := by
  unfold someIn
  have hz : (l.take (m + 1)).zipIdx = (l.take m).zipIdx ++ [(l[m], m)] := by
    rw [List.take_add_one, List.getElem?_eq_getElem h, List.zipIdx_append]
    simp [Nat.min_eq_left (Nat.le_of_lt h)]
  rw [hz, List.filter_append, List.map_append]
  cases hc : bitZ b m <;> simp [hc]
theorem someOut_succ (b : Int) (m : Nat) : someOut b (m + 1) = if bitZ b m then someOut b m else someOut b m ++ [(m : Int)] := by
  unfold someOut
  rw [List.range_succ, List.filter_append, List.map_append]
  cases hc : bitZ b m <;> simp [hc]
theorem someIn_len (l : List Dip) (b : Int) (m : Nat) : (someIn l b m).length ≤ m := by
  unfold someIn
  rw [List.length_map]
  exact Nat.le_trans (List.length_filter_le _ _) (by simp; omega)
theorem someOut_len (b : Int) (m : Nat) : (someOut b m).length ≤ m := by
  unfold someOut
  rw [List.length_map]
  exact Nat.le_trans (List.length_filter_le _ _) (by simp)
theorem someOut_inc (b : Int) : ∀ m, Inc m 0 (someOut b m)
  | 0 => trivial
  | m + 1 => by
    rw [someOut_succ]
    have ih := someOut_inc b m
    split
    · exact ih.weak (by omega)
    · exact Inc.snoc (by omega) (Nat.zero_le _) ih
theorem someOut_mem (b : Int) (m k : Nat) : (k : Int) ∈ someOut b m ↔ k < m ∧ bitZ b k = false := by
  simp only [someOut, List.mem_map, List.mem_filter, List.mem_range, Bool.not_eq_true']
  constructor
  · rintro ⟨a, h, e⟩
    have : a = k := by have : (a : Int) = (k : Int) := e; omega
    subst this; exact h
  · intro h; exact ⟨k, h, rfl⟩
theorem someIn_kept {l : List Dip} {b : Int} {out : List Int} (h : ∀ k, k < l.length → bitZ b k = !out.contains (k : Int)) : someIn l b l.length = kept l out := by
  unfold someIn kept keptN
  congr 1
  apply List.filter_congr
  rintro ⟨x, k⟩ hx
  rw [List.mem_zipIdx_iff_getElem?, List.take_length] at hx
  exact h k (List.getElem?_eq_some_iff.1 hx).1
theorem someIn_some (l : List Dip) (b : Int) : someIn l b l.length = kept l (someOut b l.length) := someIn_kept fun k hk => by
  cases hb : bitZ b k with
  | false =>
    have : (someOut b l.length).contains (k : Int) = true := by rw [List.contains_iff_mem, someOut_mem]; exact ⟨hk, hb⟩
    rw [this]; rfl
  | true =>
    have : (someOut b l.length).contains (k : Int) = false := by
      cases hc : (someOut b l.length).contains (k : Int) with
      | false => rfl
      | true => rw [List.contains_iff_mem, someOut_mem] at hc; rw [hb] at hc; cases hc.2
    rw [this]; rfl
theorem Inc.get {n : Nat} : ∀ {js : List Int} {i : Nat}, Inc n i js → ∀ j, (h : j < js.length) → ∃ k : Nat, js[j] = (k : Int) ∧ k < n ∧ (∀ (h2 : 0 < j), js[j - 1]'(by omega) < js[j])
  | [], _, _, j, h => by simp at h
  | x :: js, i, ⟨k, e, h1, h2, h3⟩, 0, _ => ⟨k, e, h2, fun h => by omega⟩
  | x :: js, i, ⟨k, e, h1, h2, h3⟩, j + 1, h => by
    have hj : j < js.length := by simpa using h
    obtain ⟨m, a, b, c⟩ := h3.get j hj
    refine ⟨m, a, b, fun _ => ?_⟩
    cases j with
    | zero =>
      obtain ⟨m', e', g1, _⟩ := h3.mem js[0] (List.getElem_mem hj)
      simp only [Nat.add_sub_cancel, List.getElem_cons_zero, List.getElem_cons_succ]
      rw [e, e']; omega
    | succ j =>
      have := c (by omega)
      simpa using this
theorem kept_sub {l : List Dip} {out : List Int} : ∀ d ∈ kept l out, d ∈ l := fun d hd => by
  obtain ⟨k, hk, _⟩ := mem_kept.1 hd
  exact List.mem_of_getElem? hk
theorem kept_len (l : List Dip) (out : List Int) : (kept l out).length ≤ l.length := keptN_len l out l.length
theorem kept_fine {s : Store} {p : Plan} {l : List Dip} (h : dippedE s p l = 0) (out : List Int) : dippedE s p (kept l out) = 0 := by
  obtain ⟨h1, h2, h3⟩ := dipped_parts h
  refine dipped_ok h1 (Nat.le_trans (kept_len l out) h2) ?_
  rw [List.all_eq_true] at *
  exact fun d hd => h3 d (kept_sub d hd)
end Lp
namespace Go.Proofs.Ytaimlmfncjbmjaa
open Go Go.Vc Go.RowKit Lp
set_option maxHeartbeats 1000000 in
theorem some_go (l : List Dip) (bits : Int) (U : Option Addr) (d : Nat) (w : World) (hU : Rd dDip w U d l) (hn : l.length ≤ 60) :
    Calls Try.prog 48 #[.slice U l.length d, .int .i64 bits] w fun e w' => ∃ X x Y y, e = .returned (.tuple #[.slice X (someIn l bits l.length).length x, .slice Y (someOut bits l.length).length y]) ∧ Vc.Own dDip 85 w' w.heap.size no X x (someIn l bits l.length) ∧ Vc.Own dI 3 w' w.heap.size no Y y (someOut bits l.length) ∧ w.grownBy w' none := by
  refine calls (G := G) (args := [.slice U l.length d, .int .i64 bits]) Try.func48 rfl rfl rfl ?_
  refine M.run rfl ?_
  refine M.loop (σ := Nat × (Option Addr × Nat) × (Option Addr × Nat)) (fun (i, (X, x), (Y, y)) => [(0, .slice U l.length d), (1, .int .i64 bits), (6, .slice X (someIn l bits i).length x), (7, .slice Y (someOut bits i).length y), (8, .int .i64 (i : Int))])
    (fun (i, (X, x), (Y, y)) w' => i ≤ l.length ∧ w.grownBy w' none ∧ Vc.Own dDip 85 w' w.heap.size no X x (someIn l bits i) ∧ Vc.Own dI 3 w' w.heap.size no Y y (someOut bits i)) (fun (i, _) => l.length - i) (0, (none, 0), (none, 0))
    ⟨rfl, rfl, rfl, rfl, rfl, trivial⟩ ⟨Nat.zero_le _, gr_refl _ _, Vc.Own.nil _ _ _ _ _, Vc.Own.nil _ _ _ _ _⟩ ?_
  rintro ⟨i, ⟨X, x⟩, ⟨Y, y⟩⟩ w2 ⟨hi, e2, hX, hY⟩
  refine M.run rfl <| M.cond rfl (fun h => ?_) (fun h => ?_)
  · have hlt : i < l.length := by have := of_decide_eq_true h; omega
    obtain ⟨hU1, hUC⟩ := rd_flat hU hlt
    have hl1 := someIn_len l bits i
    have hl2 := someOut_len bits i
    refine M.run rfl ?_
    rw [wu64 (x := (i : Int)) (by omega) (by omega)]
    refine M.ys (YS.shr rfl (by omega)) <| M.run rfl <| M.cond rfl (fun k1 => ?_) (fun k1 => ?_)
    · have hb : bitZ bits i = true := k1
      have hs1 := someIn_succ l bits i hlt
      have hs2 := someOut_succ bits i
      rw [hb, if_pos rfl] at hs1 hs2
      refine M.run rfl <| M.ix rfl (by omega) (by omega) hU1 <| M.run rfl <| M.ldA rfl rfl (hUC w2 (gr_below e2)) <| M.run rfl <| M.bs rfl fun gk wk bk ek lk => M.run rfl <| M.app (d := dDip) rfl rfl (hX.mv0 ek) rfl (by decide) rfl (ys := [l[i]]) rfl rfl (src_one bk rfl) (gr_trans e2 ek).size (by simp; omega) (by decide) fun X' x' wb hXb eb hat => ?_
      have e0b := (hX.mv0 ek).gr (gr_trans e2 ek) eb (Nat.le_refl _)
      refine M.run rfl <| M.end_ ⟨(i + 1, (X', x'), (Y, y)), ⟨rfl, rfl, ?_, ?_, nxt (by omega), trivial⟩, ⟨by omega, e0b, by rw [hs1]; exact hXb, ?_⟩, by simp; omega⟩
      · rw [hs1]; rfl
      · rw [hs2]; rfl
      · rw [hs2]; exact (hY.mv0 ek).mvN eb (Vc.Own.ne_tag (hY.mv0 ek) (hX.mv0 ek) (by decide))
    · have hb : bitZ bits i = false := k1
      have hs1 := someIn_succ l bits i hlt
      have hs2 := someOut_succ bits i
      rw [hb, if_neg (by simp)] at hs1 hs2
      refine M.run rfl <| M.bs rfl fun gk wk bk ek lk => M.run rfl <| M.app (d := dI) rfl rfl (hY.mv0 ek) rfl (by decide) rfl (ys := [(i : Int)]) rfl rfl (src_one bk rfl) (gr_trans e2 ek).size (by simp; omega) (by decide) fun Y' y' wb hYb eb hat => ?_
      have e0b := (hY.mv0 ek).gr (gr_trans e2 ek) eb (Nat.le_refl _)
      refine M.run rfl <| M.end_ ⟨(i + 1, (X, x), (Y', y')), ⟨rfl, rfl, ?_, ?_, nxt (by omega), trivial⟩, ⟨by omega, e0b, ?_, by rw [hs2]; exact hYb⟩, by simp; omega⟩
      · rw [hs1]; rfl
      · rw [hs2]; rfl
      · rw [hs1]; exact (hX.mv0 ek).mvN eb (Vc.Own.ne_tag (hX.mv0 ek) (hY.mv0 ek) (by decide))
  · have hin : i = l.length := by have := of_decide_eq_false h; omega
    subst hin
    exact M.run rfl <| M.retF rfl rfl ⟨X, x, Y, y, rfl, hX, hY, e2⟩

set_option maxHeartbeats 1000000 in
set_option maxRecDepth 100000 in
theorem LampLeft_go (s : Store) (p : Plan) (wl : List Int) (many bits tried : Int) (A : Option Addr) (c : Nat) (B : Option Addr) (b : Nat) (U : Option Addr) (d : Nat) (V : Option Addr) (v : Nat) (w : World) (hA : Rd dNight w A c s.nights) (hB : Rd dI w B b p.cans) (hD : Rd dI w U d p.wicks) (hV : Rd dW w V v wl) (hwl : ∀ x ∈ wl, 0 ≤ x ∧ x ≤ 65535) (q0 : 0 ≤ many) (q1 : many ≤ 255) (q2 : 0 ≤ bits) (q3 : bits ≤ 255) (q4 : 0 ≤ tried) (q5 : tried ≤ 255) :
    Calls Try.prog 10 #[vStore s A c, vPlan p B b U d, .slice V wl.length v, .int .u8 many, .int .u8 bits, .int .u8 tried] w fun e w' => e = .returned (.bool true) ∧ w.grownBy w' none := by
  refine calls (G := G) (args := [vStore s A c, vPlan p B b U d, .slice V wl.length v, .int .u8 many, .int .u8 bits, .int .u8 tried]) Try.func10 rfl rfl rfl ?_
  refine M.run rfl <| M.nw rfl fun g1 w1 b1 e1 l1 => M.run rfl <| M.nw rfl fun g2 w2 b2 e2 l2 => M.run rfl <| M.ldA rfl rfl (b1.mv0 e2).cellsAll <| M.run rfl <| M.ldA rfl rfl b2.cellsAll <| M.run rfl ?_
  have e02 := gr_trans e1 e2
  replace b1 := b1.mv0 e2
  refine M.cl rfl (ready_go s p A c B b U d w2 (hA.mv e02) (hB.mv e02) (hD.mv e02)) ?_
  rintro e w3 ⟨rfl, e3⟩
  have e03 := gr_trans e02 e3
  replace b1 := b1.mv0 e3
  replace b2 := b2.mv0 e3
  have fin : ∀ (wk : World), w.grownBy wk none → Calls Try.prog 17 #[] wk fun e w' => e = .returned (.bool true) ∧ w.grownBy w' none := fun wk hk => (awake_go wk).mono fun e w' ⟨h1, h2⟩ => ⟨h1, gr_trans hk h2⟩
  refine ⟨_, rfl, M.run rfl <| M.cond rfl (fun h => ?_) (fun h => ?_)⟩
  · refine M.run rfl <| M.cl rfl (fin w3 e03) ?_
    rintro e wz ⟨rfl, ez⟩
    exact ⟨_, rfl, M.run rfl <| M.retF rfl rfl ⟨rfl, ez⟩⟩
  have hr : readyB s p = true := by simpa using h
  have hck := ready_check hr
  have hf := check_fine hck
  have hfew := hf.ok.few
  have hsome := hf.ok.some_
  have hcl := hf.cl
  have hwkl := hf.wl
  refine M.run rfl <| M.drawG [] (by kernel_rfl) fun w4 e4 => ?_
  have e04 := gr_trans e03 e4
  replace b1 := b1.mv0 e4
  replace b2 := b2.mv0 e4
  refine D.run rfl <| D.ldA 0 rfl rfl rfl rfl rfl (fun w' hw => (b1.mv0 hw).cellsAll) <| D.ldA 1 rfl rfl rfl rfl rfl (fun w' hw => (b2.mv0 hw).cellsAll) <| D.ldA 2 rfl rfl rfl rfl rfl (fun w' hw => (b1.mv0 hw).cellsAll) <| D.one 4 rfl rfl <| M.cl rfl (Picked_go s wl A c V v w4 (hA.mv e04) (hV.mv e04) hwl hf.ok) ?_
  rintro e w5 ⟨t, T, tc, rfl, hT, ht, e5⟩
  have e05 := gr_trans e04 e5
  refine ⟨_, rfl, M.run rfl <| M.end_ ⟨.inr e5, D.run rfl <| D.one 8 rfl rfl <| M.cl rfl (Dipped_go s p t wl many bits A c B b U d T tc V v w5 (hA.mv e05) (hB.mv e05) (hD.mv e05) hT (hV.mv e05) hwl hf ht ⟨q0, q1⟩ ⟨q2, q3⟩) ?_⟩⟩
  rintro e w6 ⟨ds, E, ec, rfl, hE, hdl, hdok, hdag, e6⟩
  have e06 := gr_trans e05 e6
  have e46 := gr_trans e5 e6
  replace b1 := b1.mv0 e46
  replace b2 := b2.mv0 e46
  have hEr : Rd dDip w6 E ec ds := hE.rd (by decide)
  have hd0 := dipped_ok hck (by omega) hdok
  refine ⟨_, rfl, M.run rfl <| M.end_ ⟨.inr e6, D.run rfl <| D.done_ rfl <| M.run rfl <| M.drawG [] (by kernel_rfl) fun x8 xe8 => ?_⟩⟩
  have x0 := gr_trans e06 xe8
  refine D.run rfl <| D.ldA 0 rfl rfl rfl rfl rfl (fun w' hw => ((b1.mv0 xe8).mv0 hw).cellsAll) <| D.ldA 2 rfl rfl rfl rfl rfl (fun w' hw => ((b2.mv0 xe8).mv0 hw).cellsAll) <| D.one 1 rfl rfl <| M.cl rfl (StoreC_go s A c x8 (hA.mv x0) (by omega)) ?_
  rintro e x9 ⟨A1, a1, rfl, hA1, xe9⟩
  refine ⟨_, rfl, M.run rfl <| M.end_ ⟨.inr xe9, D.one 3 rfl rfl <| M.cl rfl (PlanC_go p B b U d x9 (hB.mv (gr_trans x0 xe9)) (hD.mv (gr_trans x0 xe9)) (by omega) (by omega)) ?_⟩⟩
  rintro e xa ⟨B1, b1', U1, u1, rfl, hB1, hU1, xea⟩
  have x7a := gr_trans (gr_trans xe8 xe9) xea
  refine ⟨_, rfl, M.run rfl <| M.end_ ⟨.inr xea, D.one 5 rfl rfl <| M.cl rfl (Dips_go ds E ec xa (hEr.mv x7a) (by omega)) ?_⟩⟩
  rintro e xb ⟨E1, ec2, rfl, hE1, xeb⟩
  refine ⟨_, rfl, M.run rfl <| M.end_ ⟨.inr xeb, D.one 6 rfl rfl <| M.cl rfl (Leave_go s p ds A1 a1 B1 b1' U1 u1 E1 ec2 xb (hA1.mv (gr_trans xea xeb)) (hB1.mv xeb) (hU1.mv xeb) (hE1.rd (by decide))) ?_⟩⟩
  rintro e xw ⟨O, o, rfl, hO, xew⟩
  have xB := gr_trans x7a (gr_trans xeb xew)
  have hl0 : leaveE s p ds = 0 := hd0
  rw [hl0]
  obtain ⟨hinc, hgood, hmin⟩ := leave_spec hf hd0
  have e0x := gr_trans e06 xB
  replace b1 := b1.mv0 xB
  replace b2 := b2.mv0 xB
  replace hEr := hEr.mv xB
  have rO : Rd dI xw O o (leaveR s p ds) := hO.rd (by decide)
  clear hO
  generalize leaveR s p ds = L at *
  have hLl := hinc.len (Nat.zero_le _)
  refine ⟨_, rfl, M.run rfl <| M.end_ ⟨.inr xew, D.run rfl <| D.done_ rfl <| M.run rfl ?_⟩⟩
  refine M.loop (σ := Nat × Nat) (fun (i, S) => [(5, .int .u8 tried), (6, .pointer (some ⟨g1, 0, none⟩)), (7, .pointer (some ⟨g2, 0, none⟩)), (13, .slice E ds.length ec), (14, .slice O L.length o), (15, .int .i64 0), (16, .int .i64 (S : Int)), (17, .int .i64 (i : Int))])
    (fun (i, S) w' => i ≤ L.length ∧ xw.grownBy w' none ∧ S < 64 ∧ ∀ k : Nat, S.testBit k = true ↔ (k : Int) ∈ L.take i) (fun (i, _) => L.length - i) (0, 0) ⟨rfl, rfl, rfl, rfl, rfl, rfl, rfl, rfl, trivial⟩ ⟨Nat.zero_le _, gr_refl _ _, by decide, fun k => by simp⟩ ?_
  rintro ⟨i, S⟩ wg ⟨hi, eg, hS, hbits⟩
  have e0g := gr_trans e0x eg
  have c1 := b1.mv0 eg
  have c2 := b2.mv0 eg
  refine M.run rfl <| M.cond rfl (fun h => ?_) (fun h => ?_)
  · have hlt : i < L.length := by have := of_decide_eq_true h; omega
    obtain ⟨hO1, hOC⟩ := rd_flat rO hlt
    obtain ⟨k, hk, hkn, hprev⟩ := hinc.get i hlt
    rw [hk] at hOC hprev
    have bw : ∀ {w'}, wg.grownBy w' none → Below xw.heap.size xw w' := fun hw => gr_below (gr_trans eg hw)
    have tail : ∀ wh, wg.grownBy wh none → (S ||| 2 ^ k) < 64 ∧ (∀ j : Nat, (S ||| 2 ^ k).testBit j = true ↔ (j : Int) ∈ L.take (i + 1)) := fun wh _ => by
      refine ⟨Nat.or_lt_two_pow (n := 6) hS (Nat.pow_lt_pow_right (by decide) (by omega)), fun j => ?_⟩
      rw [Nat.testBit_or, Bool.or_eq_true, hbits, take_snoc _ _ hlt, List.mem_append, Nat.testBit_two_pow, hk]
      simp only [List.mem_singleton, decide_eq_true_eq]
      constructor
      · rintro (h | h)
        · exact .inl h
        · exact .inr (by omega)
      · rintro (h | h)
        · exact .inl h
        · exact .inr (by omega)
    refine M.run rfl <| M.quiet (by kernel_rfl) <| LQ.run rfl <| LQ.ix rfl (by omega) (by omega) hO1 <| LQ.run rfl <| LQ.ld rfl (fun w' hw => (hOC w' (bw hw)).one 0 rfl rfl) <| LQ.at_ [61] rfl <| LQ.caseF 61 rfl (decide_eq_false (by omega)) <| LQ.run rfl <| LQ.ix rfl (by omega) (by omega) hO1 <| LQ.run rfl <| LQ.ld rfl (fun w' hw => (hOC w' (bw hw)).one 0 rfl rfl) <|
      LQ.at_ [70] rfl <| LQ.caseF 70 rfl (decide_eq_false (by omega)) <| LQ.at_ [73] rfl <| LQ.case 73 rfl (fun k1 => ?_) (fun k1 => ?_)
    · have hi0 : 0 < i := by have := of_decide_eq_true k1; omega
      obtain ⟨_, hPC⟩ := rd_flat rO (show i - 1 < L.length by omega)
      have hpl := hprev hi0
      have hw1 : IntKind.i64.wrap ((i : Int) - 1) = ((i - 1 : Nat) : Int) := by rw [w64 (by omega) (by omega)]; omega
      refine LQ.run rfl <| LQ.ix rfl (by omega) (by omega) hO1 <| LQ.run rfl <| LQ.ld rfl (fun w' hw => (hOC w' (bw hw)).one 0 rfl rfl) <| LQ.run rfl ?_
      rw [hw1]
      refine LQ.ix rfl (by omega) (by omega) hO1 <| LQ.run rfl <| LQ.ld rfl (fun w' hw => (hPC w' (bw hw)).one 0 rfl rfl) <| LQ.run rfl <| LQ.nil fun wh eh => ?_
      obtain ⟨t1, t2⟩ := tail wh eh
      refine M.run rfl <| M.condF rfl (decide_eq_false (by omega)) <| M.run rfl <| M.ix rfl (by omega) (by omega) hO1 <| M.run rfl <| M.ld rfl ((hOC wh (bw eh)).one 0 rfl rfl) <| M.run rfl ?_
      rw [wu64 (x := (k : Int)) (by omega) (by omega)]
      refine M.ys (YS.shl rfl (by omega)) <| M.run rfl <| M.end_ ⟨(i + 1, S ||| 2 ^ k), ⟨rfl, rfl, rfl, rfl, rfl, rfl, ?_, nxt (by omega), trivial⟩, ⟨by omega, gr_trans eg eh, t1, t2⟩, by simp; omega⟩
      exact congrArg (fun z => some (Value.int .i64 z)) (or_nat hS (by omega))
    · refine LQ.run rfl <| LQ.nil fun wh eh => ?_
      obtain ⟨t1, t2⟩ := tail wh eh
      refine M.run rfl <| M.condF rfl rfl <| M.run rfl <| M.ix rfl (by omega) (by omega) hO1 <| M.run rfl <| M.ld rfl ((hOC wh (bw eh)).one 0 rfl rfl) <| M.run rfl ?_
      rw [wu64 (x := (k : Int)) (by omega) (by omega)]
      refine M.ys (YS.shl rfl (by omega)) <| M.run rfl <| M.end_ ⟨(i + 1, S ||| 2 ^ k), ⟨rfl, rfl, rfl, rfl, rfl, rfl, ?_, nxt (by omega), trivial⟩, ⟨by omega, gr_trans eg eh, t1, t2⟩, by simp; omega⟩
      exact congrArg (fun z => some (Value.int .i64 z)) (or_nat hS (by omega))
  have hin : i = L.length := by have := of_decide_eq_false h; omega
  subst hin
  rw [List.take_length] at hbits
  have hkeep : someIn ds (S : Int) ds.length = kept ds L := someIn_kept fun k hk => by
    rw [bitZ_nat S k (by omega)]
    congr 1
    rw [Bool.eq_iff_iff, hbits, List.contains_iff_mem]
  have hoth : someIn ds tried ds.length = kept ds (someOut tried ds.length) := someIn_some ds tried
  refine M.run rfl <| M.cl rfl (some_go ds (S : Int) E ec wg (hEr.mv eg) (by omega)) ?_
  rintro e wh ⟨K1, k1, K2, k2, rfl, hK1, hK2, eh⟩
  rw [hkeep] at hK1
  rw [hkeep]
  refine ⟨_, rfl, M.run rfl ?_⟩
  rw [w64 (x := tried) (by omega) (by omega)]
  refine M.cl rfl (some_go ds tried E ec wh (hEr.mv (gr_trans eg eh)) (by omega)) ?_
  rintro e wi ⟨K3, k3, K4, k4, rfl, hK3, hK4, ei⟩
  rw [hoth] at hK3
  rw [hoth]
  have egi := gr_trans eh ei
  have e0i := gr_trans e0g egi
  replace c1 := c1.mv0 egi
  replace c2 := c2.mv0 egi
  have hf1 := kept_fine hd0 L
  have hf2 := kept_fine hd0 (someOut tried ds.length)
  have hn1 := kept_len ds L
  have hn2 := kept_len ds (someOut tried ds.length)
  have hg1 : oilE s p (kept ds L) = 0 := ((oil_fine hf1).1 hgood).1
  have hxinc := someOut_inc tried ds.length
  have hg2 : oilE s p (kept ds (someOut tried ds.length)) = 9 ∨ (oilE s p (kept ds (someOut tried ds.length)) = 0 ∧ shorterB (someOut tried ds.length) L = false) := by
    cases hx : levelsOk s p (kept ds (someOut tried ds.length)) with
    | false => exact .inl ((oil_fine hf2).2 hx).1
    | true => exact .inr ⟨((oil_fine hf2).1 hx).1, hmin _ hxinc hx⟩
  have rK4 : Rd dI wi K4 k4 (someOut tried ds.length) := hK4.rd (by decide)
  have rK1 : Rd dDip wi K1 k1 (kept ds L) := Rd.mv (hK1.rd (by decide)) ei
  have rK3 : Rd dDip wi K3 k3 (kept ds (someOut tried ds.length)) := hK3.rd (by decide)
  clear hK1 hK2 hK3 hK4 hkeep hoth
  generalize someOut tried ds.length = xs at *
  generalize kept ds L = kl at *
  generalize kept ds xs = kx at *
  refine ⟨_, rfl, M.run rfl <| M.drawG [] (by kernel_rfl) fun y8 ye8 => ?_⟩
  have y0 := gr_trans e0i ye8
  refine D.run rfl <| D.ldA 0 rfl rfl rfl rfl rfl (fun w' hw => ((c1.mv0 ye8).mv0 hw).cellsAll) <| D.ldA 2 rfl rfl rfl rfl rfl (fun w' hw => ((c2.mv0 ye8).mv0 hw).cellsAll) <| D.one 1 rfl rfl <| M.cl rfl (StoreC_go s A c y8 (hA.mv y0) (by omega)) ?_
  rintro e y9 ⟨A1, a1, rfl, hA1, ye9⟩
  refine ⟨_, rfl, M.run rfl <| M.end_ ⟨.inr ye9, D.one 3 rfl rfl <| M.cl rfl (PlanC_go p B b U d y9 (hB.mv (gr_trans y0 ye9)) (hD.mv (gr_trans y0 ye9)) (by omega) (by omega)) ?_⟩⟩
  rintro e ya ⟨B1, b1', U1, u1, rfl, hB1, hU1, yea⟩
  have y7a := gr_trans (gr_trans ye8 ye9) yea
  refine ⟨_, rfl, M.run rfl <| M.end_ ⟨.inr yea, D.one 5 rfl rfl <| M.cl rfl (Dips_go kl K1 k1 ya (rK1.mv y7a) (by omega)) ?_⟩⟩
  rintro e yb ⟨E1, ec2, rfl, hE1, yeb⟩
  refine ⟨_, rfl, M.run rfl <| M.end_ ⟨.inr yeb, D.one 6 rfl rfl <| M.cl rfl (Oil_go s p kl A1 a1 B1 b1' U1 u1 E1 ec2 yb (hA1.mv (gr_trans yea yeb)) (hB1.mv yeb) (hU1.mv yeb) (hE1.rd (by decide))) ?_⟩⟩
  rintro e yw ⟨R1, r1, rfl, hR1, yew⟩
  have yB := gr_trans y7a (gr_trans yeb yew)
  rw [hg1]
  refine ⟨_, rfl, M.run rfl <| M.end_ ⟨.inr yew, D.run rfl <| D.done_ rfl <| M.run rfl <| M.drawG [] (by kernel_rfl) fun z8 ze8 => ?_⟩⟩
  have z0 := gr_trans (gr_trans e0i yB) ze8
  refine D.run rfl <| D.ldA 0 rfl rfl rfl rfl rfl (fun w' hw => (((c1.mv0 yB).mv0 ze8).mv0 hw).cellsAll) <| D.ldA 2 rfl rfl rfl rfl rfl (fun w' hw => (((c2.mv0 yB).mv0 ze8).mv0 hw).cellsAll) <| D.one 1 rfl rfl <| M.cl rfl (StoreC_go s A c z8 (hA.mv z0) (by omega)) ?_
  rintro e z9 ⟨A1, a1, rfl, hA1, ze9⟩
  refine ⟨_, rfl, M.run rfl <| M.end_ ⟨.inr ze9, D.one 3 rfl rfl <| M.cl rfl (PlanC_go p B b U d z9 (hB.mv (gr_trans z0 ze9)) (hD.mv (gr_trans z0 ze9)) (by omega) (by omega)) ?_⟩⟩
  rintro e za ⟨B1, b1', U1, u1, rfl, hB1, hU1, zea⟩
  have z7a := gr_trans (gr_trans ze8 ze9) zea
  refine ⟨_, rfl, M.run rfl <| M.end_ ⟨.inr zea, D.one 5 rfl rfl <| M.cl rfl (Dips_go kx K3 k3 za ((rK3.mv yB).mv z7a) (by omega)) ?_⟩⟩
  rintro e zb ⟨E1, ec2, rfl, hE1, zeb⟩
  refine ⟨_, rfl, M.run rfl <| M.end_ ⟨.inr zeb, D.one 6 rfl rfl <| M.cl rfl (Oil_go s p kx A1 a1 B1 b1' U1 u1 E1 ec2 zb (hA1.mv (gr_trans zea zeb)) (hB1.mv zeb) (hU1.mv zeb) (hE1.rd (by decide))) ?_⟩⟩
  rintro e zw ⟨R2, r2, rfl, hR2, zew⟩
  have zB := gr_trans z7a (gr_trans zeb zew)
  have e0z := gr_trans e0i (gr_trans yB zB)
  have eiz := gr_trans yB zB
  have egz := gr_trans egi eiz
  refine ⟨_, rfl, M.run rfl <| M.end_ ⟨.inr zew, D.run rfl <| D.done_ rfl <| M.at_ [136] rfl ?_⟩⟩
  rcases hg2 with hg2 | ⟨hg2, hsh⟩
  · rw [hg2]
    refine M.caseT 136 rfl rfl ?_
    refine M.run rfl <| M.cl rfl (fin zw e0z) ?_
    rintro e wz ⟨rfl, ez⟩
    exact ⟨_, rfl, M.run rfl <| M.retF rfl rfl ⟨rfl, ez⟩⟩
  · rw [hg2]
    refine M.caseF 136 rfl rfl <| M.run rfl <| M.cl rfl (Shorter_go xs L K4 k4 O o zw (rK4.mv eiz) (rO.mv (gr_trans eg egz))) ?_
    rintro e wq ⟨rfl, eq⟩
    refine ⟨_, rfl, M.at_ [147] rfl <| M.caseT 147 rfl (by rw [hsh]; rfl) ?_⟩
    refine M.run rfl <| M.cl rfl (fin wq (gr_trans e0z eq)) ?_
    rintro e wz ⟨rfl, ez⟩
    exact ⟨_, rfl, M.run rfl <| M.retF rfl rfl ⟨rfl, ez⟩⟩
end Go.Proofs.Ytaimlmfncjbmjaa
end

section
/- Walks of the reference: Nth, Agrees. -/
set_option linter.unusedVariables false
namespace Go.Vc
open Go.RowKit
variable {G : Ctx} {n : Nat} {all : Array Oper} {R RL : World → World → Prop} {late ex sk : List Nat} {k : List It} {Q : QT} {m : Nat} {done : List Nat} {ρ : Env} {w : World} {d : Tmp} {op : Op} {ty : TypeId} {pos : String} {after : Array Edge} {gd : Option (Nat × Bool)} {v : Value}
theorem D.ysX (i : Nat) (ho : all[i]? = some ⟨some d, op, ty, pos, after, gd⟩) (ht : takeB all done sk i = true) (hx : memN i ex = true) (hy : YS G n all ρ ⟨some d, op, ty, pos, after, gd⟩ (fun w' => RL w w') v)
    (h : D G n all R RL late ex sk k Q m (i :: done) ((d, v) :: ρ) w) : D G n all R RL late ex sk k Q (m + 1) done ρ w := D.takeX ho ht hx hy h
theorem seg_rep (zs : List Value) : ∀ (n j : Nat), j < n → seg ((List.replicate n zs).flatten) j zs.length = zs
  | 0, j, h => by omega
  | n + 1, 0, _ => by
    unfold seg
    rw [List.replicate_succ, List.flatten_cons, Nat.zero_mul, List.drop_zero, List.take_left']
    rfl
  | n + 1, j + 1, h => by
    have ih := seg_rep zs n j (by omega)
    unfold seg at ih ⊢
    rw [List.replicate_succ, List.flatten_cons, Nat.add_mul, Nat.one_mul, Nat.add_comm (j * zs.length), List.drop_length_add_append]
    exact ih
theorem rep_len (zs : List Value) : ∀ n, ((List.replicate n zs).flatten).length = n * zs.length
  | 0 => by simp
  | n + 1 => by rw [List.replicate_succ, List.flatten_cons, List.length_append, rep_len zs n, Nat.add_mul, Nat.one_mul, Nat.add_comm]
theorem own_mk {α : Type} {enc : α → List Value} {sz : Nat} {hl : ∀ x, (enc x).length = sz} {hp : ∀ x, ∀ c ∈ enc x, c.oneCell' = true} {w : World} {g e base : Nat} (F : Nat → Prop) {zs : List Value} {cnt : Nat} (x : α) (hz : zs = enc x) (hB : Blk w g ((List.replicate cnt zs).flatten) e) (hb : base ≤ g) (hn : cnt ≤ maxLen) :
    Own (Rp.flat enc sz hl hp) e w base F (some ⟨g, 0, none⟩) cnt (List.replicate cnt x) := by
  refine .inr ⟨g, _, rfl, hb, hB, by simp, hn, ?_, fun j y hj => ?_⟩
  · have : zs.length = sz := by rw [hz]; exact hl x
    show _ = cnt * sz
    rw [rep_len, this]
  · have hj' := List.getElem?_eq_some_iff.1 hj
    obtain ⟨hlt, he⟩ := hj'
    simp at hlt he
    subst he
    have := seg_rep zs cnt j hlt
    show seg _ j sz = enc x
    rw [show sz = zs.length by rw [hz]; exact (hl x).symm, this, hz]
theorem seg_over {cs vs : List Value} {j sz : Nat} (hv : vs.length = sz) (hl : (j + 1) * sz ≤ cs.length) : seg (cs.take (j * sz) ++ vs ++ cs.drop (j * sz + vs.length)) j sz = vs ∧ ∀ i, i ≠ j → seg (cs.take (j * sz) ++ vs ++ cs.drop (j * sz + vs.length)) i sz = seg cs i sz := by
  have hl' : j * sz + sz ≤ cs.length := by rw [Nat.add_mul, Nat.one_mul] at hl; exact hl
  have htk : (cs.take (j * sz)).length = j * sz := by rw [List.length_take]; exact Nat.min_eq_left (by omega)
  constructor
  · unfold seg
    rw [List.append_assoc, List.drop_left' htk, List.take_left' hv]
  · intro i hi
    unfold seg
    apply List.ext_getElem?
    intro q
    rw [List.getElem?_take, List.getElem?_take]
    by_cases hq : q < sz
    · rw [if_pos hq, if_pos hq, List.getElem?_drop, List.getElem?_drop, List.append_assoc]
      by_cases hij : i < j
      · have : i * sz + sz ≤ j * sz := by have := Nat.mul_le_mul_right sz (show i + 1 ≤ j by omega); rw [Nat.add_mul, Nat.one_mul] at this; exact this
        rw [List.getElem?_append_left (by omega), List.getElem?_take, if_pos (by omega)]
      · have : j * sz + sz ≤ i * sz := by have := Nat.mul_le_mul_right sz (show j + 1 ≤ i by omega); rw [Nat.add_mul, Nat.one_mul] at this; exact this
        rw [List.getElem?_append_right (by omega), htk, List.getElem?_append_right (by omega), List.getElem?_drop]
        congr 1; omega
    · rw [if_neg hq, if_neg hq]
/-- an element of an own row is written as a whole -/
theorem own_setE {α : Type} {enc : α → List Value} {sz : Nat} {hl : ∀ x, (enc x).length = sz} {hp : ∀ x, ∀ c ∈ enc x, c.oneCell' = true} {e : Nat} {w : World} {base : Nat} {F : Nat → Prop} {A : Option Addr} {c : Nat} {xs : List α} (h : Own (Rp.flat enc sz hl hp) e w base F A c xs) {j : Nat} (hj : j < xs.length) :
    ∃ g cur, A = some ⟨g, 0, none⟩ ∧ base ≤ g ∧ Blk w g cur e ∧ (j + 1) * sz ≤ cur.length ∧ ∀ (y : α) (w' : World), Blk w' g (cur.take (j * sz) ++ enc y ++ cur.drop (j * sz + (enc y).length)) e → Own (Rp.flat enc sz hl hp) e w' base F A c (xs.set j y) := by
  rcases h with ⟨_, hx, _⟩ | ⟨g, cur, rfl, hb, hB, hlc, hm, hs, hx⟩
  · subst hx; simp at hj
  · have hs' : cur.length = c * sz := hs
    have hjl : (j + 1) * sz ≤ cur.length := by rw [hs']; exact Nat.mul_le_mul_right sz (by omega)
    refine ⟨g, cur, rfl, hb, hB, hjl, fun y w' hw' => .inr ⟨g, _, rfl, hb, hw', by simpa using hlc, hm, ?_, fun i x hi => ?_⟩⟩
    · have h1 : (j + 1) * sz = j * sz + sz := by rw [Nat.add_mul, Nat.one_mul]
      show (cur.take (j * sz) ++ enc y ++ cur.drop (j * sz + (enc y).length)).length = c * sz
      rw [hl y]
      simp only [List.length_append, List.length_take, List.length_drop, hl y]
      omega
    · obtain ⟨s1, s2⟩ := seg_over (cs := cur) (hl y) hjl
      rw [List.getElem?_set] at hi
      by_cases hji : j = i
      · subst hji
        rw [if_pos rfl, if_pos hj] at hi
        injection hi with hi
        subst hi
        exact s1
      · rw [if_neg hji] at hi
        have hk := hx i x hi
        have hk' : seg cur i sz = enc x := hk
        show seg _ i sz = enc x
        rw [s2 i (fun e => hji e.symm)]
        exact hk'
end Go.Vc
namespace Go.Proofs.Ytaimlmfncjbmjaa
open Go Go.Vc Go.RowKit Lp

set_option maxHeartbeats 1000000 in
theorem Nth_go (s : Store) (n : Nat) (A : Option Addr) (c : Nat) (w : World) (hA : Rd dNight w A c s.nights) (hs : s.Ok) (hn : (n : Int) < manyI s) :
    Calls Try.prog 93 #[vStore s A c, .int .i64 (n : Int)] w fun e w' => ∃ X x, e = .returned (vTruth (nthT s n) X x) ∧ Rd dI w' X x (nthT s n).burn ∧ w.grownBy w' none := by
  have hst := hs.start
  have hcap := hs.cap
  have hfew := hs.few
  have hsome := hs.some_
  have hmany := (manyAt_le hs s.nights.length (Nat.le_refl _)).2
  have hn' : n ≤ 710395961 := by unfold manyI at hn; omega
  refine calls (G := G) (args := [vStore s A c, .int .i64 (n : Int)]) Try.func93 rfl rfl rfl ?_
  refine M.run rfl <| M.nw rfl fun g1 w1 b1 e1 l1 => M.run rfl <| M.nw rfl fun g2 w2 b2 e2 l2 => M.run rfl <| M.ld rfl ((b1.mv0 e2).cell rfl rfl) <| M.run rfl <|
    M.mk_ rfl (by omega) (Int.le_refl _) (by simp; omega) (by omega) rfl fun gb w3 bb e3 l3 => M.run rfl <| M.nw rfl fun g5 w4 b5' e4 l4 => M.run rfl <| M.store rfl rfl b5' rfl rfl fun w5 b5 e5 => M.run rfl <| M.ld rfl ((((((b1.mv0 e2).mv0 e3).mv0 e4).mv1 e5 (by have := b1.lt; have := e2.size; have := e3.size; omega))).cell rfl rfl) <| M.run rfl ?_
  have e35 : w3.grownBy w5 none := gr_fresh e4 e5 l4
  have e05 := gr_trans (gr_trans (gr_trans e1 e2) e3) e35
  have n52 : g5 ≠ g2 := by have := b2.lt; have := e3.size; omega
  replace b1 := ((b1.mv0 e2).mv0 e3).mv0 e35
  replace b2 := (b2.mv0 e3).mv0 e35
  replace bb := bb.mv0 e35
  clear b5'
  have hl2 : w.heap.size ≤ g2 := Nat.le_trans e1.size l2
  have hlb : w.heap.size ≤ gb := Nat.le_trans (gr_trans e1 e2).size l3
  have hl5 : w.heap.size ≤ g5 := Nat.le_trans (gr_trans (gr_trans e1 e2) e3).size l4
  have hO : Vc.Own dI 3 w5 w.heap.size no (some ⟨gb, 0, none⟩) s.nights.length (nthL s n s.nights.length) := by
    rw [nthL_top]
    exact own_mk (α := Int) no (0 : Int) rfl bb hlb (by unfold maxLen; omega)
  have n51 : g5 ≠ g1 := fun hh => by subst hh; exact absurd (b5.ne b1 (by decide)) (by simp)
  have n5b : g5 ≠ gb := fun hh => by subst hh; exact absurd (b5.ne bb (by decide)) (by simp)
  have nb1 : gb ≠ g1 := fun hh => by subst hh; exact absurd (bb.ne b1 (by decide)) (by simp)
  have nb2 : gb ≠ g2 := fun hh => by subst hh; exact absurd (bb.ne b2 (by decide)) (by simp)
  have hlast : IntKind.i64.wrap ((s.nights.length : Int) - 1) = (s.nights.length : Int) - 1 := w64 (by omega) (by omega)
  rw [hlast]
  refine M.loop (σ := Nat) (fun j => [(1, .int .i64 (nthQ s n (s.nights.length - j) : Int)), (2, .pointer (some ⟨g1, 0, none⟩)), (4, .pointer (some ⟨g2, 0, none⟩)), (5, .pointer (some ⟨g5, 0, none⟩)), (6, .int .i64 ((j : Int) - 1))])
    (fun j w' => j ≤ s.nights.length ∧ w.grownBy w' none ∧ Blk w' g1 (vStore s A c).cells.toList 26 ∧ (∃ cs, cs.length = 2 ∧ Blk w' g2 cs 31) ∧ Blk w' g5 [.int .i64 0, .slice (some ⟨gb, 0, none⟩) s.nights.length s.nights.length] 31 ∧ Vc.Own dI 3 w' w.heap.size no (some ⟨gb, 0, none⟩) s.nights.length (nthL s n j)) (fun j => j) s.nights.length
    ⟨?_, rfl, rfl, rfl, rfl, trivial⟩ ⟨Nat.le_refl _, e05, b1, ⟨_, rfl, b2⟩, b5, hO⟩ ?_
  · rw [Nat.sub_self]; rfl
  rintro j w6 ⟨hj, e06, c1, ⟨cs2, hcs2, c2⟩, c5, hX⟩
  refine M.run rfl <| M.cond rfl (fun h => ?_) (fun h => ?_)
  · have hj0 : 0 < j := by have := of_decide_eq_true h; omega
    obtain ⟨j', rfl⟩ : ∃ j', j = j' + 1 := ⟨j - 1, by omega⟩
    have hlt : j' < s.nights.length := by omega
    have hji : ((j' + 1 : Nat) : Int) - 1 = (j' : Int) := by omega
    rw [hji]
    obtain ⟨hA1, hAC⟩ := rd_flat hA hlt
    rw [nt_get hlt] at hAC
    have hnt := hs.nt hlt
    obtain ⟨wp, wi⟩ := wid_pos hs hlt
    have hq := nthQ_le s n (s.nights.length - (j' + 1))
    have hqs : nthQ s n (s.nights.length - j') = nthQ s n (s.nights.length - (j' + 1)) / wid s j' := by
      rw [show s.nights.length - j' = (s.nights.length - (j' + 1)) + 1 by omega]
      simp only [nthQ]
      rw [show s.nights.length - 1 - (s.nights.length - (j' + 1)) = j' by omega]
    have hv : (nt s j').lo + ((nthQ s n (s.nights.length - (j' + 1)) % wid s j' : Nat) : Int) = nthV s n j' := by
      unfold nthV
      rw [show s.nights.length - 1 - j' = s.nights.length - (j' + 1) by omega]
    generalize nthQ s n (s.nights.length - (j' + 1)) = q at *
    have hml := Nat.mod_lt q wp
    have hdl := Nat.div_le_self q (wid s j')
    refine M.run rfl <| M.ld rfl (c1.cell rfl rfl) <| M.run rfl <| M.ix rfl (by omega) (by omega) hA1 <| M.run rfl <| M.ldA rfl rfl ((hAC w6 (gr_below e06)).sub 3 rfl ⟨[], rfl⟩ : Cells _ _ [_, _]) <| M.run rfl <| M.nw rfl fun g7 w7 b7' e7 l7 => M.run rfl <| M.store rfl rfl b7' rfl rfl fun w8 b7 e8 => M.run rfl ?_
    have e68 : w6.grownBy w8 none := gr_fresh e7 e8 l7
    have d1 := c1.mv0 e68
    have d5 := c5.mv0 e68
    have d2 := c2.mv0 e68
    have hX8 := hX.mv0 e68
    obtain ⟨gb', cur, hgb, _, bY, hlY, hcY, hsetY⟩ := own_int hX8 (j := j') (by rw [nthL_len]; exact hlt)
    have hgb' : gb = gb' := by injection hgb with hgb; injection hgb
    subst hgb'
    have n7b : g7 ≠ gb := fun hh => by subst hh; exact absurd (b7.ne bY (by decide)) (by simp)
    have hw1 : IntKind.i64.wrap (IntKind.i64.wrap ((nt s j').hi - (nt s j').lo) + 1) = (wid s j' : Int) := by
      rw [w64 (x := (nt s j').hi - (nt s j').lo) (by omega) (by omega), w64 (by omega) (by omega)]; omega
    refine M.drawL gb [23] [14, 15, 16, 17, 18, 19, 20, 21] [] (by kernel_rfl) fun w9 e9 => ?_
    have f5 := d5.mv0 e9
    have f7 := b7.mv0 e9
    refine D.run rfl <| D.ld 1 rfl rfl rfl rfl (fun w' hw => (f5.mv0 hw).cell rfl rfl) <| D.ld 4 rfl rfl rfl rfl (fun w' hw => (f7.mv0 hw).cell rfl rfl) <| D.ld 7 rfl rfl rfl rfl (fun w' hw => (f7.mv0 hw).cell rfl rfl) <| D.ld 9 rfl rfl rfl rfl (fun w' hw => (f7.mv0 hw).cell rfl rfl) <|
      D.ldX 16 rfl rfl rfl rfl (fun w' hw => (f7.mv1 hw (fun e => n7b e.symm)).cell rfl rfl) <| D.ldX 18 rfl rfl rfl rfl (fun w' hw => (f7.mv1 hw (fun e => n7b e.symm)).cell rfl rfl) <| D.run rfl ?_
    rw [hw1]
    refine D.ys 12 rfl rfl rfl (YS.rem rfl (by omega)) <| D.ysX 21 rfl rfl rfl (YS.quo rfl (by omega)) <| D.run rfl <| D.ys 22 rfl rfl rfl (YS.ix rfl (by omega) (by omega) rfl) ?_
    have hr1 : ((q : Nat) : Int).tmod ((wid s j' : Nat) : Int) = ((q % wid s j' : Nat) : Int) := rfl
    have hr2 : ((q : Nat) : Int).tdiv ((wid s j' : Nat) : Int) = ((q / wid s j' : Nat) : Int) := rfl
    rw [hr1, hr2, w64 (x := (nt s j').lo + ((q % wid s j' : Nat) : Int)) (by omega) (by omega), w64 (x := ((q / wid s j' : Nat) : Int)) (by omega) (by omega), hv]
    refine D.one 23 rfl rfl <| M.store rfl (ad1 gb j') (bY.mv0 e9) (Nat.ble_eq_true_of_le hlY) rfl fun wa ba ea => M.run rfl <| M.end_ ⟨.inl ⟨rfl, ea⟩, D.run rfl <| D.done_ rfl <| M.run rfl ?_⟩
    have e6a : w6.grownBy wa (some gb) := gr_transR (gr_weak (gr_trans e68 e9)) ea
    have e0a : w.grownBy wa none := gr_fresh (gr_trans e06 (gr_trans e68 e9)) ea hlb
    have hdec : IntKind.i64.wrap ((j' : Int) - 1) = (j' : Int) - 1 := w64 (by omega) (by omega)
    refine M.end_ ⟨j', ⟨?_, rfl, rfl, rfl, ?_, trivial⟩, ⟨by omega, e0a, (d1.mv0 e9).mv1 ea nb1, ⟨cs2, hcs2, (d2.mv0 e9).mv1 ea nb2⟩, f5.mv1 ea (fun e => n5b e.symm), ?_⟩, by omega⟩
    · rw [hqs]; rfl
    · exact congrArg (fun z => some (Value.int .i64 z)) hdec
    · rw [nthL_step s n j' hlt]; exact hsetY _ wa ba
  · have hj0 : j = 0 := by have := of_decide_eq_false h; omega
    subst hj0
    rw [Nat.sub_zero]
    have hq := nthQ_le s n s.nights.length
    have hw1 : IntKind.i64.wrap (s.lo + (nthQ s n s.nights.length : Int)) = s.lo + (nthQ s n s.nights.length : Int) := w64 (by omega) (by omega)
    refine M.run rfl <| M.ld rfl (c1.cell rfl rfl) <| M.run rfl ?_
    rw [hw1]
    refine M.store rfl rfl c5 rfl rfl fun w7 b7 e7 => ?_
    have e07 : w.grownBy w7 none := gr_fresh e06 e7 hl5
    refine M.run rfl <| M.ldA rfl rfl (b7.cellsAll : Cells _ _ [_, _]) <| M.run rfl <| M.storeA rfl rfl rfl (c2.mv1 e7 n52) (by rw [hcs2]; exact Nat.le_refl 2) rfl fun w8 b8 e8 => M.run rfl ?_
    have b8' : Blk w8 g2 [.int .i64 (s.lo + (nthQ s n s.nights.length : Int)), .slice (some ⟨gb, 0, none⟩) s.nights.length s.nights.length] 31 := blk_all (by rw [hcs2]; rfl) b8
    have hX8 : Vc.Own dI 3 w8 w.heap.size no (some ⟨gb, 0, none⟩) s.nights.length (nthL s n 0) := (hX.mvB (B := some ⟨g5, 0, none⟩) e7 (by rintro k ⟨⟩ ⟨⟩; exact n5b rfl) (fun _ _ h => h)).mvB (B := some ⟨g2, 0, none⟩) e8 (by rintro k ⟨⟩ ⟨⟩; exact nb2 rfl) (fun _ _ h => h)
    have hlen : s.nights.length = (nthT s n).burn.length := (nthL_len s n 0).symm
    refine M.retC (.cellA rfl rfl rfl rfl b8'.cellsAll .nil) ⟨some ⟨gb, 0, none⟩, s.nights.length, ?_, hX8.rd (by decide), gr_fresh e07 e8 hl2⟩
    show _ = Ending.returned (Value.agg #[.int .i64 (nthT s n).start, .slice _ (nthT s n).burn.length _])
    rw [← hlen]; rfl

theorem someIn_mem {l : List Dip} {b : Int} {m : Nat} {d : Dip} : d ∈ someIn l b m ↔ ∃ k, k < m ∧ l[k]? = some d ∧ bitZ b k = true := by
  simp only [someIn, List.mem_map, List.mem_filter]
  constructor
  · rintro ⟨⟨x, k⟩, ⟨h1, h2⟩, rfl⟩
    rw [List.mem_zipIdx_iff_getElem?, List.getElem?_take] at h1
    split at h1
    · exact ⟨k, by assumption, h1, h2⟩
    · cases h1
  · rintro ⟨k, h1, h2, h3⟩
    refine ⟨(d, k), ⟨List.mem_zipIdx_iff_getElem?.2 ?_, h3⟩, rfl⟩
    rw [List.getElem?_take, if_pos h1]; exact h2
set_option maxHeartbeats 1000000 in
theorem Agrees_go (l : List Dip) (L : List Int) (out : Int) (U : Option Addr) (d : Nat) (V : Option Addr) (v : Nat) (w : World) (hU : Rd dDip w U d l) (hV : Rd dI w V v L) (hn : l.length ≤ 60) (hd : ∀ q ∈ l, 0 ≤ q.night ∧ q.night < L.length) :
    Calls Try.prog 94 #[.slice U l.length d, .slice V L.length v, .int .i64 out] w fun e w' => e = .returned (.bool (agreeL (someIn l out l.length) L)) ∧ w.grownBy w' none := by
  refine calls (G := G) (args := [.slice U l.length d, .slice V L.length v, .int .i64 out]) Try.func94 rfl rfl rfl ?_
  refine M.run rfl ?_
  refine M.loop (σ := Nat) (fun i => [(0, .slice U l.length d), (1, .slice V L.length v), (2, .int .i64 out), (7, .int .i64 (i : Int))]) (fun i w' => i ≤ l.length ∧ w.grownBy w' none ∧ ∀ k q, k < i → l[k]? = some q → bitZ out k = true → within (at0 L q.night.toNat) q.lo q.hi = true) (fun i => l.length - i) 0
    ⟨rfl, rfl, rfl, rfl, trivial⟩ ⟨Nat.zero_le _, gr_refl _ _, fun k q h => by omega⟩ ?_
  rintro i w2 ⟨hi, e2, hok⟩
  refine M.run rfl <| M.cond rfl (fun h => ?_) (fun h => ?_)
  · have hlt : i < l.length := by have := of_decide_eq_true h; omega
    obtain ⟨hU1, hUC⟩ := rd_flat hU hlt
    have hgx : l[i]? = some l[i] := List.getElem?_eq_getElem hlt
    have hdn := hd _ (List.getElem_mem hlt)
    generalize l[i] = q at hUC hgx hdn
    have hqn : q.night.toNat < L.length := by omega
    obtain ⟨hV1, hVC⟩ := rd_flat hV hqn
    rw [at0_get hqn] at hVC
    have step : ∀ b : Bool, (bitZ out i = true → within (at0 L q.night.toNat) q.lo q.hi = true) → ∀ k q', k < i + 1 → l[k]? = some q' → bitZ out k = true → within (at0 L q'.night.toNat) q'.lo q'.hi = true := fun _ hb k q' hk hq' hz => by
      by_cases e : k < i
      · exact hok k q' e hq' hz
      · have : k = i := by omega
        subst this
        rw [hgx] at hq'
        injection hq' with hq'
        subst hq'
        exact hb hz
    refine M.run rfl <| M.ix rfl (by omega) (by omega) hU1 <| M.run rfl <| M.ldA rfl rfl (hUC w2 (gr_below e2)) <| M.run rfl <| M.nw rfl fun g8 w3 b8' e3 l3 => M.run rfl <| M.store rfl rfl b8' rfl rfl fun w4 b8 e4 => M.run rfl ?_
    have e24 : w2.grownBy w4 none := gr_fresh e3 e4 l3
    have e04 := gr_trans e2 e24
    refine M.quiet (by kernel_rfl) <| LQ.run rfl ?_
    rw [wu64 (x := (i : Int)) (by omega) (by omega)]
    refine LQ.ys (YS.shr rfl (by omega)) <| LQ.at_ [25] rfl <| LQ.case 25 rfl (fun k1 => ?_) (fun k1 => ?_)
    · have hz : bitZ out i = true := k1
      have hin := In_go (at0 L q.night.toNat) q.lo q.hi
      refine LQ.run rfl <| LQ.ld rfl (fun w' hw => (b8.mv0 hw).cell rfl rfl) <| LQ.run rfl <| LQ.ix rfl (by omega) (by omega) hV1 <| LQ.run rfl <| LQ.ld rfl (fun w' hw => (hVC w' (gr_below (gr_trans e04 hw))).one 0 rfl rfl) <| LQ.run rfl <| LQ.ld rfl (fun w' hw => (b8.mv0 hw).cell rfl rfl) <| LQ.run rfl <|
        LQ.ld rfl (fun w' hw => (b8.mv0 hw).cell rfl rfl) <| LQ.run rfl <| LQ.clG rfl (fun w' hw => hin w') <| LQ.run rfl <| LQ.nil fun w5 e5 => M.run rfl <| M.cond rfl (fun k2 => ?_) (fun k2 => ?_)
      · have k2' : within (at0 L q.night.toNat) q.lo q.hi = false := by simpa using k2
        refine M.run rfl <| M.retF rfl rfl ⟨?_, gr_trans e04 e5⟩
        have : agreeL (someIn l out l.length) L = false := by
          unfold agreeL
          exact List.all_eq_false.2 ⟨q, someIn_mem.2 ⟨i, hlt, hgx, hz⟩, by rw [k2']; simp⟩
        rw [this]; rfl
      · have k2' : within (at0 L q.night.toNat) q.lo q.hi = true := by simpa using k2
        exact M.run rfl <| M.end_ ⟨i + 1, ⟨rfl, rfl, rfl, nxt (by omega), trivial⟩, ⟨by omega, gr_trans e04 e5, step true (fun _ => k2')⟩, by omega⟩
    · have hz : bitZ out i = false := k1
      refine LQ.run rfl <| LQ.nil fun w5 e5 => M.run rfl <| M.condF rfl rfl <| M.run rfl <| M.end_ ⟨i + 1, ⟨rfl, rfl, rfl, nxt (by omega), trivial⟩, ⟨by omega, gr_trans e04 e5, step true (fun h => by rw [hz] at h; cases h)⟩, by omega⟩
  · refine M.run rfl <| M.retF rfl rfl ⟨?_, e2⟩
    have : agreeL (someIn l out l.length) L = true := by
      unfold agreeL
      rw [List.all_eq_true]
      intro q hq
      obtain ⟨k, k1, k2, k3⟩ := someIn_mem.1 hq
      have := of_decide_eq_false h
      exact hok k q (by omega) k2 k3
    rw [this]; rfl
end Go.Proofs.Ytaimlmfncjbmjaa
end

section
/- Walks of the reference: Oil, Dark. -/
set_option linter.unusedVariables false
namespace Lp
/-- while a truth is entered night by night -/
structure Mid (s : Store) (p : Plan) (l : List Dip) (n : Nat) (fb : Bool) (i : Nat) (r : List Rng) : Prop where
  len : r.length = if fb then i else s.nights.length
  old : ∀ q y, q < i → r[q]? = some y → RngOf s p l (n + 1) q y
  rest : fb = false → ∀ q y, i ≤ q → r[q]? = some y → RngOf s p l n q y
structure Pre (s : Store) (p : Plan) (l : List Dip) (n : Nat) (fb : Bool) (i : Nat) (x : Int) (r : List Rng) : Prop where
  len : r.length = if fb then i + 1 else s.nights.length
  old : ∀ q y, q < i → r[q]? = some y → RngOf s p l (n + 1) q y
  now : ∀ y, r[i]? = some y → RngOf s p l (n + 1) i ⟨if x < y.lo then x else y.lo, if x > y.hi then x else y.hi⟩
  rest : fb = false → ∀ q y, i < q → r[q]? = some y → RngOf s p l n q y
theorem Mid.first {s : Store} {p : Plan} {l : List Dip} {n i : Nat} {r : List Rng} {x : Int} (h : Mid s p l n true i r) (hn : ∀ k, k < n → agreeL l (leftL s p (nthT s k) s.nights.length) = false) (ha : agreeL l (leftL s p (nthT s n) s.nights.length) = true)
    (hx : oilAt s p (nthT s n) (i + 1) = x) : Pre s p l n true i x (r ++ [⟨x, x⟩]) := by
  have hl : r.length = i := h.len
  refine ⟨by simp [hl], fun q y hq hy => ?_, fun y hy => ?_, fun h => by cases h⟩
  · rw [List.getElem?_append_left (by omega)] at hy; exact h.old q y hq hy
  · rw [List.getElem?_append_right (by omega), hl] at hy
    simp at hy
    subst hy
    have := RngOf.first (q := i) hn ha
    rw [hx] at this
    simpa using this
theorem Mid.more {s : Store} {p : Plan} {l : List Dip} {n i : Nat} {r : List Rng} {x : Int} (h : Mid s p l n false i r) (ha : agreeL l (leftL s p (nthT s n) s.nights.length) = true) (hx : oilAt s p (nthT s n) (i + 1) = x) : Pre s p l n false i x r :=
  ⟨h.len, h.old, fun y hy => (h.rest rfl i y (Nat.le_refl _) hy).more ha hx, fun _ q y hq hy => h.rest rfl q y (by omega) hy⟩
theorem Pre.step {s : Store} {p : Plan} {l : List Dip} {n i : Nat} {fb : Bool} {r : List Rng} {x : Int} (h : Pre s p l n fb i x r) {y : Rng} (hy : r[i]? = some y) : Mid s p l n fb (i + 1) (r.set i ⟨if x < y.lo then x else y.lo, if x > y.hi then x else y.hi⟩) := by
  have hlt := (List.getElem?_eq_some_iff.1 hy).1
  refine ⟨by rw [List.length_set, h.len], fun q z hq hz => ?_, fun hb q z hq hz => ?_⟩
  · rw [List.getElem?_set] at hz
    split at hz
    · rename_i e
      subst e
      first | rw [if_pos hlt] at hz | skip
      injection hz with hz
      subst hz
      exact h.now y hy
    · exact h.old q z (by omega) hz
  · rw [List.getElem?_set, if_neg (by omega)] at hz
    exact h.rest hb q z (by omega) hz
theorem Mid.done {s : Store} {p : Plan} {l : List Dip} {n : Nat} {fb : Bool} {r : List Rng} (h : Mid s p l n fb s.nights.length r) : IsRng s p l (n + 1) r := by
  have hl : r.length = s.nights.length := by rw [h.len]; split <;> rfl
  exact .inr ⟨hl, fun q y hy => h.old q y (by have := (List.getElem?_eq_some_iff.1 hy).1; omega) hy⟩
end Lp
namespace Go.Proofs.Ytaimlmfncjbmjaa
open Go Go.Vc Go.RowKit Lp
theorem adS (g j sz : Nat) : (adOf (some (⟨g, 0, none⟩ : Addr))).add (j * sz) = ⟨g, j * sz, none⟩ := by
  show Addr.add ⟨g, 0, none⟩ (j * sz) = _
  rw [add_plain]; simp
theorem own_el {α : Type} {enc : α → List Value} {sz : Nat} {hl : ∀ x, (enc x).length = sz} {hp : ∀ x, ∀ c ∈ enc x, c.oneCell' = true} {e : Nat} {w : World} {base : Nat} {F : Nat → Prop} {A : Option Addr} {c : Nat} {xs : List α} (h : Vc.Own (Rp.flat enc sz hl hp) e w base F A c xs) {j : Nat} (hj : j < xs.length) :
    ∃ g cur, A = some ⟨g, 0, none⟩ ∧ base ≤ g ∧ Blk w g cur e ∧ (j + 1) * sz ≤ cur.length ∧ (∀ w', Blk w' g cur e → Cells w' ((adOf (some (⟨g, 0, none⟩ : Addr))).add (j * sz)) (enc xs[j])) ∧ ∀ (y : α) (w' : World), Blk w' g (cur.take (j * sz) ++ enc y ++ cur.drop (j * sz + (enc y).length)) e → Vc.Own (Rp.flat enc sz hl hp) e w' base F A c (xs.set j y) := by
  obtain ⟨g, cur, hA, hb, hB, hle, hset⟩ := own_setE h hj
  subst hA
  obtain ⟨g', cur', hA', _, hB', _, _, hseg, _⟩ := h.at_flat (List.getElem?_eq_getElem hj)
  have hg : g = g' := by injection hA' with hA'; injection hA'
  subst hg
  have hc : cur = cur' := by
    unfold Blk at hB hB'
    rw [hB] at hB'
    injection hB' with hB'
    injection hB' with hB' _
    have := congrArg Array.toList hB'
    simpa using this
  subst hc
  refine ⟨g, cur, rfl, hb, hB, hle, fun w' hw' => ?_, hset⟩
  have := seg_cells hw' j sz
  rw [hseg] at this
  exact this

set_option maxHeartbeats 4000000 in
set_option maxRecDepth 100000 in
theorem OilRef_go (s : Store) (p : Plan) (l : List Dip) (out : Int) (A : Option Addr) (c : Nat) (B : Option Addr) (b : Nat) (U : Option Addr) (d : Nat) (E : Option Addr) (f : Nat) (w : World) (hA : Rd dNight w A c s.nights) (hB : Rd dI w B b p.cans) (hD : Rd dI w U d p.wicks) (hE : Rd dDip w E f l)
    (hf : Fine s p) (hn : l.length ≤ 60) (hd : ∀ q ∈ l, 0 ≤ q.night ∧ q.night < s.nights.length) :
    Calls Try.prog 53 #[vStore s A c, vPlan p B b U d, .slice E l.length f, .int .i64 out] w fun e w' => ∃ X x r, e = .returned (.tuple #[.slice X r.length x, .bool (decide ((r.length : Int) > 0))]) ∧ Rd dRng w' X x r ∧ (∃ m : Nat, (m : Int) = manyI s ∧ IsRng s p (someIn l out l.length) m r) ∧ w.grownBy w' none := by
  have hfew := hf.ok.few
  have hmany := manyAt_le hf.ok s.nights.length (Nat.le_refl _)
  have hmI : 1 ≤ manyI s ∧ manyI s ≤ 710395961 := hmany
  refine calls (G := G) (args := [vStore s A c, vPlan p B b U d, .slice E l.length f, .int .i64 out]) Try.func53 rfl rfl rfl ?_
  refine M.run rfl <| M.nw rfl fun g1 w1 b1 e1 l1 => M.run rfl <| M.nw rfl fun g2 w2 b2 e2 l2 => M.run rfl ?_
  have e02 := gr_trans e1 e2
  replace b1 := b1.mv0 e2
  generalize hkl : someIn l out l.length = kl
  refine M.loop (σ := Nat × List Rng × Option Addr × Nat) (fun (n, r, X, x) => [(2, .slice E l.length f), (3, .int .i64 out), (4, .pointer (some ⟨g1, 0, none⟩)), (5, .pointer (some ⟨g2, 0, none⟩)), (10, .slice X r.length x), (11, .int .i64 (n : Int))])
    (fun (n, r, X, x) w' => (n : Int) ≤ manyI s ∧ w2.grownBy w' none ∧ Vc.Own dRng 23 w' w2.heap.size no X x r ∧ IsRng s p kl n r) (fun (n, _) => (manyI s).toNat - n) (0, [], none, 0) ⟨rfl, rfl, rfl, rfl, rfl, rfl, trivial⟩ ⟨by omega, gr_refl _ _, Vc.Own.nil _ _ _ _ _, .inl ⟨rfl, fun k h => by omega⟩⟩ ?_
  rintro ⟨n, r, X, x⟩ w3 ⟨hnm, e23, hX, hr⟩
  have e03 := gr_trans e02 e23
  have c1 := b1.mv0 e23
  have c2 := b2.mv0 e23
  refine M.run rfl <| M.ldA rfl rfl c1.cellsAll <| M.run rfl <| M.cl rfl (Many_go s A c w3 (hA.mv e03) hf.ok) ?_
  rintro e w4 ⟨rfl, e4⟩
  have e24 := gr_trans e23 e4
  have e04 := gr_trans e02 e24
  replace c1 := c1.mv0 e4
  replace c2 := c2.mv0 e4
  replace hX := hX.mv0 e4
  refine ⟨_, rfl, M.run rfl <| M.cond rfl (fun h => ?_) (fun h => ?_)⟩
  rotate_left
  · have : (n : Int) = manyI s := by have := of_decide_eq_false h; omega
    exact M.run rfl <| M.retF rfl rfl ⟨X, x, r, rfl, hX.rd (by decide), ⟨n, this, hr⟩, e04⟩
  have hlt := of_decide_eq_true h
  have htr := nth_ok hf.ok hlt
  refine M.run rfl <| M.drawG [] (by kernel_rfl) fun w5 e5 => ?_
  have e05 := gr_trans e04 e5
  refine D.run rfl <| D.ldA 0 rfl rfl rfl rfl rfl (fun w' hw => ((c1.mv0 e5).mv0 hw).cellsAll) <| D.ldA 1 rfl rfl rfl rfl rfl (fun w' hw => ((c2.mv0 e5).mv0 hw).cellsAll) <| D.ldA 2 rfl rfl rfl rfl rfl (fun w' hw => ((c1.mv0 e5).mv0 hw).cellsAll) <| D.run rfl <| D.one 4 rfl rfl <| M.cl rfl (Nth_go s n A c w5 (hA.mv e05) hf.ok hlt) ?_
  rintro e w6 ⟨T, tc, rfl, hT, e6⟩
  have e06 := gr_trans e05 e6
  refine ⟨_, rfl, M.run rfl <| M.end_ ⟨.inr e6, D.one 5 rfl rfl <| M.cl rfl (PlayRef_go s p (nthT s n) A c B b U d T tc w6 (hA.mv e06) (hB.mv e06) (hD.mv e06) hT hf htr) ?_⟩⟩
  rintro e w7 ⟨L, lc, Y, y, Z, z, rfl, hL, hY, hZ, e7⟩
  have e47 := gr_trans (gr_trans e5 e6) e7
  have e27 := gr_trans e24 e47
  have e07 := gr_trans e04 e47
  replace c1 := c1.mv0 e47
  replace c2 := c2.mv0 e47
  replace hX := hX.mv0 e47
  have hll : (leftL s p (nthT s n) s.nights.length).length = s.nights.length := by simp [leftL]
  have hlg : ∀ i, (hi : i < (leftL s p (nthT s n) s.nights.length).length) → (leftL s p (nthT s n) s.nights.length)[i] = oilAt s p (nthT s n) (i + 1) := fun i hi => by simp [leftL]
  refine ⟨_, rfl, M.run rfl <| M.end_ ⟨.inr e7, D.run rfl <| D.done_ rfl <| M.run rfl <| M.cl rfl (Agrees_go l (leftL s p (nthT s n) s.nights.length) out E f L lc w7 (hE.mv e07) (hL.rd (by decide)) hn (fun q hq => by rw [hll]; exact hd q hq)) ?_⟩⟩
  rintro e w8 ⟨rfl, e8⟩
  rw [hkl]
  have e28 := gr_trans e27 e8
  have hnx : n < 1000000000 := by omega
  refine ⟨_, rfl, M.run rfl <| M.cond rfl (fun k1 => ?_) (fun k1 => ?_)⟩
  · have k1' : agreeL kl (leftL s p (nthT s n) s.nights.length) = false := by simpa using k1
    exact M.run rfl <| M.end_ ⟨(n + 1, r, X, x), ⟨rfl, rfl, rfl, rfl, rfl, nxt hnx, trivial⟩, ⟨by omega, e28, hX.mv0 e8, hr.skip k1'⟩, by simp; omega⟩
  have ha : agreeL kl (leftL s p (nthT s n) s.nights.length) = true := by simpa using k1
  replace hL := (hL.weaken (Nat.le_trans e24.size (gr_trans e5 e6).size) (fun _ h => h)).mv0 e8
  replace hX := hX.mv0 e8
  replace c1 := c1.mv0 e8
  replace c2 := c2.mv0 e8
  generalize hfb : ((r.length : Int) == 0) = fb
  have hmid : Mid s p kl n fb 0 r := by
    rcases hr with ⟨h1, h2⟩ | ⟨h1, h2⟩
    · subst h1
      have : fb = true := by rw [← hfb]; rfl
      subst this
      exact ⟨rfl, fun q y hq => by omega, fun hh => by cases hh⟩
    · have : fb = false := by rw [← hfb, beq_eq_false_iff_ne]; have := hf.ok.some_; omega
      subst this
      exact ⟨h1, fun q y hq => by omega, fun _ q y _ hy => h2 q y hy⟩
  have hfirst : fb = true → ∀ k, k < n → agreeL kl (leftL s p (nthT s k) s.nights.length) = false := fun hb => by
    rcases hr with ⟨h1, h2⟩ | ⟨h1, h2⟩
    · exact h2
    · rw [← hfb] at hb
      have : (r.length : Int) = 0 := by simpa using hb
      have := hf.ok.some_
      omega
  clear hY hZ
  refine M.run rfl ?_
  rw [hfb]
  generalize leftL s p (nthT s n) s.nights.length = LX at hL hll hlg
  refine M.loop (σ := Nat × List Rng × Option Addr × Nat) (fun (i, r, X, x) => [(2, .slice E l.length f), (3, .int .i64 out), (4, .pointer (some ⟨g1, 0, none⟩)), (5, .pointer (some ⟨g2, 0, none⟩)), (10, .slice X r.length x), (11, .int .i64 (n : Int)), (12, .slice L LX.length lc), (15, .bool fb), (16, .int .i64 (i : Int))])
    (fun (i, r, X, x) w' => i ≤ s.nights.length ∧ w2.grownBy w' none ∧ Vc.Own dRng 23 w' w2.heap.size no X x r ∧ Vc.Own dI 3 w' w2.heap.size no L lc LX ∧ Mid s p kl n fb i r) (fun (i, _) => s.nights.length - i) (0, r, X, x)
    ⟨rfl, rfl, rfl, rfl, rfl, rfl, rfl, rfl, rfl, trivial⟩ ⟨Nat.zero_le _, e28, hX, hL, hmid⟩ ?_
  clear hX hL hmid hr hfb hnm
  rintro ⟨i, r, X, x⟩ w9 ⟨hi, e29, hX, hL, hmid⟩
  refine M.run rfl <| M.cond rfl (fun h2 => ?_) (fun h2 => ?_)
  rotate_left
  · have hin : i = s.nights.length := by have := of_decide_eq_false h2; omega
    subst hin
    exact M.run rfl <| M.end_ ⟨(n + 1, r, X, x), ⟨rfl, rfl, rfl, rfl, rfl, nxt hnx, trivial⟩, ⟨by omega, e29, hX, hmid.done⟩, by simp; omega⟩
  have hlt2 : i < LX.length := by have := of_decide_eq_true h2; omega
  have hiN : i < s.nights.length := by omega
  have hox : oilAt s p (nthT s n) (i + 1) = LX[i] := (hlg i hlt2).symm
  have hrl := hmid.len
  obtain ⟨gL, curL, rfl, hgL, bL, hlL, hCL, _⟩ := own_el hL hlt2
  generalize LX[i] = xv at hox hCL
  refine M.run rfl <| M.cutC (σ := List Rng × Option Addr × Nat) (fun (r, X, x) => [(2, .slice E l.length f), (3, .int .i64 out), (4, .pointer (some ⟨g1, 0, none⟩)), (5, .pointer (some ⟨g2, 0, none⟩)), (10, .slice X r.length x), (11, .int .i64 (n : Int)), (12, .slice (some ⟨gL, 0, none⟩) LX.length lc), (15, .bool fb), (16, .int .i64 (i : Int))])
    (fun (r, X, x) w' => w2.grownBy w' none ∧ Vc.Own dRng 23 w' w2.heap.size no X x r ∧ Vc.Own dI 3 w' w2.heap.size no (some ⟨gL, 0, none⟩) lc LX ∧ Blk w' gL curL 3 ∧ Pre s p kl n fb i xv r) ?_ ?_ post_weak
  · refine M.cond rfl (fun h3 => ?_) (fun h3 => ?_)
    · subst h3
      have hrl' : r.length = i := hrl
      have hne : Ne2 (some ⟨gL, 0, none⟩) X := Vc.Own.ne_tag hL hX (by decide)
      refine M.run rfl <| M.draw (fun w w' => w.grownBy w' (blkOf X)) (fun _ _ => True) [] [] [] (fun _ _ _ h => h) (fun w => gr_refl w _) (fun a b c h k => gr_transR h k) (fun _ _ _ => trivial) (fun _ _ _ _ _ => trivial) (by kernel_rfl) ?_
      have ed := gr_drewN w9 1
      have bLd : ∀ w', (w9.drewN 1).grownBy w' (blkOf X) → Blk w' gL curL 3 := fun w' hw => (bL.mv0 ed).mv hw (fun e => hne gL rfl e)
      refine D.run rfl <| D.ys 3 rfl rfl rfl (YS.ix rfl (by omega) (by omega) rfl) <| D.ld 4 rfl rfl rfl rfl (fun w' hw => (hCL w' (bLd w' hw)).one 0 rfl rfl) <| D.run rfl <| D.ys 7 rfl rfl rfl (YS.ix rfl (by omega) (by omega) rfl) <| D.ld 8 rfl rfl rfl rfl (fun w' hw => (hCL w' (bLd w' hw)).one 0 rfl rfl) <| D.run rfl <|
        D.one 10 rfl rfl <| M.bs rfl fun ga wa ba ea la => M.run rfl <| M.end_ ⟨.inr (gr_weak ea), ?_⟩
      have e9a := gr_trans ed ea
      refine D.one 11 rfl rfl <| M.app (d := dRng) rfl rfl (hX.mv0 e9a) rfl (by decide) rfl (ys := [⟨xv, xv⟩]) rfl rfl (src_one ba rfl) (gr_trans e29 e9a).size (by simp; omega) (by decide) fun X' x' wb hXb eb hat => M.run rfl <| M.end_ ⟨.inr eb, ?_⟩
      have e2b := (hX.mv0 e9a).gr (gr_trans e29 e9a) eb (Nat.le_refl _)
      have hLb := (hL.mv0 e9a).mvN eb hne
      have bLb : Blk wb gL curL 3 := (bL.mv0 e9a).mv eb (fun e => hne gL rfl e)
      exact D.run rfl <| D.done_ rfl <| M.run rfl <| M.end_ ⟨(r ++ [⟨xv, xv⟩], X', x'), ⟨rfl, rfl, rfl, rfl, rfl, rfl, rfl, rfl, rfl, trivial⟩, e2b, hXb, hLb, bLb, hmid.first (hfirst rfl) ha hox⟩
    · subst h3
      exact M.run rfl <| M.end_ ⟨(r, X, x), ⟨rfl, rfl, rfl, rfl, rfl, rfl, rfl, rfl, rfl, trivial⟩, e29, hX, hL, bL, hmid.more ha hox⟩
  clear hX hL bL e29 hmid hrl
  rintro ⟨r, X, x⟩ wa ⟨e2a, hX, hL, bL, hpre⟩
  have hrl := hpre.len
  have hir : i < r.length := by rw [hrl]; split <;> omega
  have hry : r[i]? = some r[i] := List.getElem?_eq_getElem hir
  have hne : Ne2 (some ⟨gL, 0, none⟩) X := Vc.Own.ne_tag hL hX (by decide)
  obtain ⟨gX, curX, rfl, hgX, bX, hlX, hCX, hsetX⟩ := own_el hX hir
  have hstep := hpre.step hry
  generalize r[i] = yv at hry hCX hstep
  refine M.run rfl <| M.drawG [24] (by kernel_rfl) fun wb eb => ?_
  have bXb := bX.mv0 eb
  have bLb := bL.mv0 eb
  refine D.run rfl <| D.ys 4 rfl rfl rfl (YS.ix rfl (by omega) (by omega) rfl) <| D.run rfl <| D.ld 6 rfl rfl rfl rfl (fun w' hw => (hCX w' (bXb.mv0 hw)).one 0 rfl rfl) <| D.run rfl <| D.ys 9 rfl rfl rfl (YS.ix rfl (by omega) (by omega) rfl) <| D.ld 10 rfl rfl rfl rfl (fun w' hw => (hCL w' (bLb.mv0 hw)).one 0 rfl rfl) <| D.run rfl <|
    D.ys 14 rfl rfl rfl (YS.ix rfl (by omega) (by omega) rfl) <| D.run rfl <| D.ld 16 rfl rfl rfl rfl (fun w' hw => (hCX w' (bXb.mv0 hw)).one 1 rfl rfl) <| D.run rfl <| D.ys 19 rfl rfl rfl (YS.ix rfl (by omega) (by omega) rfl) <| D.ld 20 rfl rfl rfl rfl (fun w' hw => (hCL w' (bLb.mv0 hw)).one 0 rfl rfl) <| D.run rfl <|
    D.ys 23 rfl rfl rfl (YS.ix rfl (by omega) (by omega) rfl) <| D.one 24 rfl rfl <| M.store rfl (adS gX i 2) bXb (Nat.ble_eq_true_of_le (by show i * 2 + 2 ≤ curX.length; omega)) rfl fun wc bc ec => M.run rfl <| M.end_ ⟨.inl ⟨rfl, trivial⟩, D.done_ rfl <| M.run rfl ?_⟩
  have hXc := hsetX ⟨if xv < yv.lo then xv else yv.lo, if xv > yv.hi then xv else yv.hi⟩ wc bc
  have hLc : Vc.Own dI 3 wc w2.heap.size no (some ⟨gL, 0, none⟩) lc LX := (hL.mv0 eb).mvN (B := some ⟨gX, 0, none⟩) ec hne
  have e2c : w2.grownBy wc none := gr_fresh (gr_trans e2a eb) ec hgX
  refine M.end_ ⟨(i + 1, _, _, x), ⟨rfl, rfl, rfl, rfl, ?_, rfl, rfl, rfl, nxt (by omega), trivial⟩, ⟨by omega, e2c, hXc, hLc, hstep⟩, by simp; omega⟩
  rw [List.length_set]; rfl
end Go.Proofs.Ytaimlmfncjbmjaa
end

section
/- Walk of the reference's Dark, and of the law LampOils. -/
set_option linter.unusedVariables false
namespace Go.Proofs.Ytaimlmfncjbmjaa
open Go Go.Vc Go.RowKit Lp
end Go.Proofs.Ytaimlmfncjbmjaa
namespace Lp
def darkN (s : Store) (p : Plan) (n i : Nat) : Bool := (List.range n).any fun k => !litAt s p (nthT s k) i
theorem darkN_succ (s : Store) (p : Plan) (n i : Nat) : darkN s p (n + 1) i = (darkN s p n i || !litAt s p (nthT s n) i) := by
  unfold darkN
  rw [List.range_succ, List.any_append]
  simp
theorem darkN_all {s : Store} {p : Plan} {m : Nat} (hf : Fine s p) (hm : (m : Int) = manyI s) {i : Nat} (hi : i < s.nights.length) : darkN s p m i = !litAt s p (lowT s) i := by
  rw [Bool.eq_iff_iff, Bool.not_eq_true', ← dark_all hf hm hi]
  unfold darkN
  rw [List.any_eq_true]
  constructor
  · rintro ⟨k, hk, hl⟩; exact ⟨k, List.mem_range.1 hk, by simpa using hl⟩
  · rintro ⟨k, hk, hl⟩; exact ⟨k, List.mem_range.2 hk, by simpa using hl⟩
end Lp
namespace Go.Proofs.Ytaimlmfncjbmjaa
open Go Go.Vc Go.RowKit Lp
def bc (f : Nat → Bool) : List Value := (List.range 6).map fun i => .bool (f i)
theorem bc_len (f : Nat → Bool) : (bc f).length = 6 := by simp [bc]
theorem bc_get (f : Nat → Bool) {i : Nat} (hi : i < 6) : (bc f)[i]? = some (.bool (f i)) := by simp [bc, hi]
theorem bc_set (f : Nat → Bool) {i : Nat} (hi : i < 6) (v : Bool) : (bc f).take i ++ [.bool v] ++ (bc f).drop (i + 1) = bc (fun q => if q = i then v else f q) := by
  rw [over_set _ _ _ (by rw [bc_len]; exact hi)]
  apply List.ext_getElem?
  intro q
  rw [List.getElem?_set]
  by_cases hq : q < 6
  · rw [bc_get _ hq, bc_get _ hq, bc_len]
    by_cases e : i = q
    · subst e; simp [hi]
    · rw [if_neg e, if_neg (fun h => e h.symm)]
  · rw [List.getElem?_eq_none (by rw [bc_len]; omega), List.getElem?_eq_none (by rw [bc_len]; omega)]
    split
    · rename_i e; subst e; omega
    · rfl
theorem bc_congr {f g : Nat → Bool} (h : ∀ i, i < 6 → f i = g i) : bc f = bc g := by
  unfold bc
  apply List.map_congr_left
  intro i hi
  rw [h i (List.mem_range.1 hi)]
theorem adA (g j : Nat) : (⟨g, 0, none⟩ : Addr).add (j * 1) = ⟨g, j, none⟩ := by rw [add_plain]; simp
set_option maxHeartbeats 2000000 in
set_option maxRecDepth 100000 in
theorem DarkRef_go (s : Store) (p : Plan) (A : Option Addr) (c : Nat) (B : Option Addr) (b : Nat) (U : Option Addr) (d : Nat) (w : World) (hA : Rd dNight w A c s.nights) (hB : Rd dI w B b p.cans) (hD : Rd dI w U d p.wicks) (hf : Fine s p) :
    Calls Try.prog 52 #[vStore s A c, vPlan p B b U d] w fun e w' => ∃ X x, e = .returned (.slice X (darkL s p s.nights.length).length x) ∧ Vc.Own dI 3 w' w.heap.size no X x (darkL s p s.nights.length) ∧ w.grownBy w' none := by
  have hfew := hf.ok.few
  have hmI : 1 ≤ manyI s ∧ manyI s ≤ 710395961 := manyAt_le hf.ok s.nights.length (Nat.le_refl _)
  refine calls (G := G) (args := [vStore s A c, vPlan p B b U d]) Try.func52 rfl rfl rfl ?_
  refine M.run rfl <| M.nw rfl fun g1 w1 b1 e1 l1 => M.run rfl <| M.nw rfl fun g2 w2 b2 e2 l2 => M.run rfl <| M.nw rfl fun g5 w3 b5 e3 l3 => M.run rfl ?_
  have e03 := gr_trans (gr_trans e1 e2) e3
  replace b1 := (b1.mv0 e2).mv0 e3
  replace b2 := b2.mv0 e3
  have hl5 : w.heap.size ≤ g5 := Nat.le_trans (gr_trans e1 e2).size l3
  have n51 : g5 ≠ g1 := fun hh => by subst hh; exact absurd (b5.ne b1 (by decide)) (by simp)
  have n52 : g5 ≠ g2 := fun hh => by subst hh; exact absurd (b5.ne b2 (by decide)) (by simp)
  have hg5 := b5.lt
  refine M.loop (σ := Nat) (fun n => [(2, .pointer (some ⟨g1, 0, none⟩)), (3, .pointer (some ⟨g2, 0, none⟩)), (5, .pointer (some ⟨g5, 0, none⟩)), (6, .int .i64 (n : Int))])
    (fun n w' => (n : Int) ≤ manyI s ∧ w.grownBy w' none ∧ w3.heap.size ≤ w'.heap.size ∧ Blk w' g1 (vStore s A c).cells.toList 26 ∧ Blk w' g2 (vPlan p B b U d).cells.toList 29 ∧ Blk w' g5 (bc fun q => decide (q < s.nights.length) && darkN s p n q) 143) (fun n => (manyI s).toNat - n) 0 ⟨rfl, rfl, rfl, rfl, trivial⟩ ⟨by omega, e03, Nat.le_refl _, b1, b2, ?_⟩ ?_
  · have : bc (fun q => decide (q < s.nights.length) && darkN s p 0 q) = bc fun _ => false := bc_congr fun i _ => by simp [darkN]
    rw [this]; exact b5
  rintro n w4 ⟨hnm, e04, hsz, c1, c2, c5⟩
  refine M.run rfl <| M.ldA rfl rfl c1.cellsAll <| M.run rfl <| M.cl rfl (Many_go s A c w4 (hA.mv e04) hf.ok) ?_
  rintro e w5 ⟨rfl, e5⟩
  have e05 := gr_trans e04 e5
  replace c1 := c1.mv0 e5
  replace c2 := c2.mv0 e5
  replace c5 := c5.mv0 e5
  refine ⟨_, rfl, M.run rfl <| M.cond rfl (fun h => ?_) (fun h => ?_)⟩
  · have hlt := of_decide_eq_true h
    have htr := nth_ok hf.ok hlt
    refine M.run rfl <| M.drawG [] (by kernel_rfl) fun w6 e6 => ?_
    have e06 := gr_trans e05 e6
    refine D.run rfl <| D.ldA 0 rfl rfl rfl rfl rfl (fun w' hw => ((c1.mv0 e6).mv0 hw).cellsAll) <| D.ldA 1 rfl rfl rfl rfl rfl (fun w' hw => ((c2.mv0 e6).mv0 hw).cellsAll) <| D.ldA 2 rfl rfl rfl rfl rfl (fun w' hw => ((c1.mv0 e6).mv0 hw).cellsAll) <| D.run rfl <| D.one 4 rfl rfl <| M.cl rfl (Nth_go s n A c w6 (hA.mv e06) hf.ok hlt) ?_
    rintro e w7 ⟨T, tc, rfl, hT, e7⟩
    have e07 := gr_trans e06 e7
    refine ⟨_, rfl, M.run rfl <| M.end_ ⟨.inr e7, D.one 5 rfl rfl <| M.cl rfl (PlayRef_go s p (nthT s n) A c B b U d T tc w7 (hA.mv e07) (hB.mv e07) (hD.mv e07) hT hf htr) ?_⟩⟩
    rintro e w8 ⟨L, lc, Y, y, Z, z, rfl, hL, hY, hZ, e8⟩
    have e58 := gr_trans (gr_trans e6 e7) e8
    have e08 := gr_trans e05 e58
    replace c1 := c1.mv0 e58
    replace c2 := c2.mv0 e58
    replace c5 := c5.mv0 e58
    replace hZ := hZ.weaken (base' := w3.heap.size) (Nat.le_trans hsz (gr_trans (gr_trans e5 e6) e7).size) (fun _ h => h)
    have hzl : (litL s p (nthT s n) s.nights.length).length = s.nights.length := by simp [litL]
    have hzg : ∀ i, (hi : i < (litL s p (nthT s n) s.nights.length).length) → (litL s p (nthT s n) s.nights.length)[i] = litAt s p (nthT s n) i := fun i hi => by simp [litL]
    clear hL hY
    refine ⟨_, rfl, M.run rfl <| M.end_ ⟨.inr e8, D.run rfl <| D.done_ rfl <| M.run rfl ?_⟩⟩
    generalize litL s p (nthT s n) s.nights.length = LZ at hZ hzl hzg
    refine M.loop (σ := Nat) (fun i => [(2, .pointer (some ⟨g1, 0, none⟩)), (3, .pointer (some ⟨g2, 0, none⟩)), (5, .pointer (some ⟨g5, 0, none⟩)), (6, .int .i64 (n : Int)), (9, .slice Z LZ.length z), (10, .int .i64 (i : Int))])
      (fun i w' => i ≤ s.nights.length ∧ w.grownBy w' none ∧ w3.heap.size ≤ w'.heap.size ∧ Blk w' g1 (vStore s A c).cells.toList 26 ∧ Blk w' g2 (vPlan p B b U d).cells.toList 29 ∧ Blk w' g5 (bc fun q => decide (q < s.nights.length) && darkN s p (if q < i then n + 1 else n) q) 143 ∧ Vc.Own dB 4 w' w3.heap.size no Z z LZ) (fun i => s.nights.length - i) 0
      ⟨rfl, rfl, rfl, rfl, rfl, rfl, trivial⟩ ⟨Nat.zero_le _, e08, Nat.le_trans hsz (gr_trans e5 e58).size, c1, c2, by simpa using c5, hZ⟩ ?_
    clear c1 c2 c5 hZ
    rintro i w9 ⟨hi, e09, hsz9, c1, c2, c5, hZ⟩
    refine M.run rfl <| M.cond rfl (fun h2 => ?_) (fun h2 => ?_)
    · have hlt2 : i < LZ.length := by have := of_decide_eq_true h2; omega
      have hi6 : i < 6 := by omega
      obtain ⟨gZ, curZ, rfl, hgZ, bZ, hlZ, hCZ, _⟩ := own_el hZ hlt2
      have n5Z : g5 ≠ gZ := fun hh => by subst hh; exact absurd (c5.ne bZ (by decide)) (by simp)
      have hli := hzg i hlt2
      generalize LZ[i] = lv at hCZ hli
      have hcell : w9.cell? ⟨g5, i, none⟩ = some (.bool (decide (i < s.nights.length) && darkN s p (if i < i then n + 1 else n) i)) := c5.cell rfl (bc_get _ hi6)
      rw [if_neg (Nat.lt_irrefl i), decide_eq_true (show i < s.nights.length by omega), Bool.true_and] at hcell
      have hfin : ∀ (v : Bool) (wa : World), v = darkN s p (n + 1) i → Blk wa g5 ((bc fun q => decide (q < s.nights.length) && darkN s p (if q < i then n + 1 else n) q).take i ++ [.bool v] ++ (bc fun q => decide (q < s.nights.length) && darkN s p (if q < i then n + 1 else n) q).drop (i + 1)) 143 → Blk wa g5 (bc fun q => decide (q < s.nights.length) && darkN s p (if q < i + 1 then n + 1 else n) q) 143 := fun v wa hv hb => by
        rw [bc_set _ hi6] at hb
        have : bc (fun q => if q = i then v else decide (q < s.nights.length) && darkN s p (if q < i then n + 1 else n) q) = bc fun q => decide (q < s.nights.length) && darkN s p (if q < i + 1 then n + 1 else n) q := bc_congr fun q hq => by
          by_cases e : q = i
          · subst e
            rw [if_pos rfl, if_pos (by omega), decide_eq_true (show q < s.nights.length by omega), Bool.true_and, hv]
          · rw [if_neg e]
            by_cases e2 : q < i
            · rw [if_pos e2, if_pos (by omega)]
            · rw [if_neg e2, if_neg (by omega)]
        rwa [this] at hb
      have hds := darkN_succ s p n i
      refine M.run rfl <| M.ixA rfl (by omega) (by omega) <| M.run rfl <| M.ld rfl (by rw [← hcell]; exact congrArg _ (adA g5 i)) <| M.at_ [39] rfl <| M.case 39 rfl (fun k1 => ?_) (fun k1 => ?_)
      · refine M.run rfl <| M.ixA rfl (by omega) (by omega) <| M.run rfl <| M.store rfl (adA g5 i) c5 (Nat.ble_eq_true_of_le (by rw [bc_len]; show i + 1 ≤ 6; omega)) rfl fun wa ba ea => M.run rfl ?_
        refine M.end_ ⟨i + 1, ⟨rfl, rfl, rfl, rfl, rfl, nxt (by omega), trivial⟩, ⟨by omega, gr_fresh e09 ea hl5, Nat.le_trans hsz9 ea.size, c1.mv1 ea n51, c2.mv1 ea n52, hfin true wa (by rw [hds, k1]; rfl) ba, hZ.mvB (B := some ⟨g5, 0, none⟩) ea (by rintro k ⟨⟩ ⟨⟩; exact n5Z rfl) (fun _ _ h => h)⟩, by omega⟩
      · refine M.run rfl <| M.ix rfl (by omega) (by omega) rfl <| M.run rfl <| M.ld rfl ((hCZ w9 bZ).one 0 rfl rfl) <| M.run rfl <| M.ixA rfl (by omega) (by omega) <| M.run rfl <| M.store rfl (adA g5 i) c5 (Nat.ble_eq_true_of_le (by rw [bc_len]; show i + 1 ≤ 6; omega)) rfl fun wa ba ea => M.run rfl ?_
        refine M.end_ ⟨i + 1, ⟨rfl, rfl, rfl, rfl, rfl, nxt (by omega), trivial⟩, ⟨by omega, gr_fresh e09 ea hl5, Nat.le_trans hsz9 ea.size, c1.mv1 ea n51, c2.mv1 ea n52, hfin (!lv) wa (by rw [hds, k1, hli]; rfl) ba, hZ.mvB (B := some ⟨g5, 0, none⟩) ea (by rintro k ⟨⟩ ⟨⟩; exact n5Z rfl) (fun _ _ h => h)⟩, by omega⟩
    · have hin : i = s.nights.length := by have := of_decide_eq_false h2; omega
      subst hin
      refine M.run rfl <| M.end_ ⟨n + 1, ⟨rfl, rfl, rfl, nxt (by omega), trivial⟩, ⟨by omega, e09, hsz9, c1, c2, ?_⟩, by omega⟩
      have : bc (fun q => decide (q < s.nights.length) && darkN s p (if q < s.nights.length then n + 1 else n) q) = bc fun q => decide (q < s.nights.length) && darkN s p (n + 1) q := bc_congr fun q _ => by
        by_cases e : q < s.nights.length
        · rw [if_pos e]
        · rw [decide_eq_false e]; rfl
      rw [← this]; exact c5
  have hm : (n : Int) = manyI s := by have := of_decide_eq_false h; omega
  refine M.run rfl <| M.loop (σ := Nat × Option Addr × Nat) (fun (i, X, x) => [(2, .pointer (some ⟨g1, 0, none⟩)), (5, .pointer (some ⟨g5, 0, none⟩)), (11, .slice X (darkL s p i).length x), (12, .int .i64 (i : Int))])
    (fun (i, X, x) w' => i ≤ s.nights.length ∧ w5.grownBy w' none ∧ Vc.Own dI 3 w' w5.heap.size no X x (darkL s p i)) (fun (i, _) => s.nights.length - i) (0, none, 0) ⟨rfl, rfl, rfl, rfl, trivial⟩ ⟨Nat.zero_le _, gr_refl _ _, Vc.Own.nil _ _ _ _ _⟩ ?_
  rintro ⟨i, X, x⟩ w6 ⟨hi, e56, hX⟩
  have k1' := c1.mv0 e56
  have k5 := c5.mv0 e56
  refine M.run rfl <| M.ld rfl (k1'.cell rfl rfl) <| M.run rfl <| M.cond rfl (fun h2 => ?_) (fun h2 => ?_)
  · have hlt : i < s.nights.length := by have := of_decide_eq_true h2; omega
    have hcell : w6.cell? ⟨g5, i, none⟩ = some (.bool (!litAt s p (lowT s) i)) := by
      have := k5.cell (a := ⟨g5, i, none⟩) rfl (bc_get _ (show i < 6 by omega))
      rw [decide_eq_true hlt, Bool.true_and, darkN_all hf hm hlt] at this
      exact this
    have hds := darkL_succ s p i
    have hdl := darkL_len s p i
    refine M.run rfl <| M.ixA rfl (by omega) (by omega) <| M.run rfl <| M.ld rfl (by rw [← hcell]; exact congrArg _ (adA g5 i)) <| M.run rfl <| M.cond rfl (fun h3 => ?_) (fun h3 => ?_)
    · have h3' : litAt s p (lowT s) i = false := by simpa using h3
      rw [h3', if_neg (by simp)] at hds
      refine M.run rfl <| M.bs rfl fun ga wa ba ea la => M.run rfl <| M.app (d := dI) rfl rfl (hX.mv0 ea) rfl (by decide) rfl (ys := [(i : Int)]) rfl rfl (src_one ba rfl) (gr_trans e56 ea).size (by simp; omega) (by decide) fun X' x' wb hXb eb hat => M.run rfl ?_
      have e5b := (hX.mv0 ea).gr (gr_trans e56 ea) eb (Nat.le_refl _)
      refine M.end_ ⟨(i + 1, X', x'), ⟨rfl, rfl, ?_, nxt (by omega), trivial⟩, ⟨by omega, e5b, by rw [hds]; exact hXb⟩, by simp; omega⟩
      rw [hds]; rfl
    · have h3' : litAt s p (lowT s) i = true := by simpa using h3
      rw [h3', if_pos rfl] at hds
      refine M.run rfl <| M.end_ ⟨(i + 1, X, x), ⟨rfl, rfl, ?_, nxt (by omega), trivial⟩, ⟨by omega, e56, by rw [hds]; exact hX⟩, by simp; omega⟩
      rw [hds]; rfl
  · have hin : i = s.nights.length := by have := of_decide_eq_false h2; omega
    subst hin
    exact M.run rfl <| M.retF rfl rfl ⟨X, x, rfl, hX.weaken e05.size (fun _ h => h), gr_trans e05 e56⟩
end Go.Proofs.Ytaimlmfncjbmjaa
end

section
/- Walk of the law LampOils. -/
set_option linter.unusedVariables false
namespace Go.Proofs.Ytaimlmfncjbmjaa
open Go Go.Vc Go.RowKit Lp
theorem someIn_zero (l : List Dip) (hn : l.length ≤ 60) : someIn l 0 l.length = l := by
  have h : someIn l 0 l.length = kept l [] := someIn_kept fun k hk => by
    have := bitZ_nat 0 k (by omega)
    rw [show ((0 : Nat) : Int) = 0 from rfl] at this
    rw [this]; simp
  rw [h, kept_nil]
theorem dip_nights {s : Store} {p : Plan} {l : List Dip} (h : dippedE s p l = 0) : ∀ q ∈ l, 0 ≤ q.night ∧ q.night < s.nights.length := fun q hq => by
  obtain ⟨_, _, h3⟩ := dipped_parts h
  have := List.all_eq_true.1 h3 q hq
  unfold dipOk at this
  rw [Bool.and_eq_true, Lp.within_iff] at this
  omega
set_option maxHeartbeats 2000000 in
set_option maxRecDepth 100000 in
theorem LampOils_go (s : Store) (p : Plan) (l : List Dip) (A : Option Addr) (c : Nat) (B : Option Addr) (b : Nat) (U : Option Addr) (d : Nat) (E : Option Addr) (f : Nat) (w : World) (hA : Rd dNight w A c s.nights) (hB : Rd dI w B b p.cans) (hD : Rd dI w U d p.wicks) (hE : Rd dDip w E f l) :
    Calls Try.prog 12 #[vStore s A c, vPlan p B b U d, .slice E l.length f] w fun e w' => e = .returned (.bool true) ∧ w.grownBy w' none := by
  refine calls (G := G) (args := [vStore s A c, vPlan p B b U d, .slice E l.length f]) Try.func12 rfl rfl rfl ?_
  refine M.run rfl <| M.nw rfl fun g1 w1 b1 e1 l1 => M.run rfl <| M.nw rfl fun g2 w2 b2 e2 l2 => M.run rfl <| M.ldA rfl rfl (b1.mv0 e2).cellsAll <| M.run rfl <| M.ldA rfl rfl b2.cellsAll <| M.run rfl <| M.cl rfl (Thin_go s p A c B b U d w2) ?_
  rintro e w3 ⟨rfl, e3⟩
  have e03 := gr_trans (gr_trans e1 e2) e3
  replace b1 := (b1.mv0 e2).mv0 e3
  replace b2 := b2.mv0 e3
  have fin : ∀ (wk : World), w.grownBy wk none → Calls Try.prog 17 #[] wk fun e w' => e = .returned (.bool true) ∧ w.grownBy w' none := fun wk hk => (awake_go wk).mono fun e w' ⟨h1, h2⟩ => ⟨h1, gr_trans hk h2⟩
  refine ⟨_, rfl, M.at_ [22] rfl <| M.case 22 rfl (fun h1 => ?_) (fun h1 => ?_)⟩
  · refine M.run rfl <| M.condT rfl rfl ?_
    refine M.run rfl <| M.cl rfl (fin w3 e03) ?_
    rintro e wz ⟨rfl, ez⟩
    exact ⟨_, rfl, M.run rfl <| M.retF rfl rfl ⟨rfl, ez⟩⟩
  have hthin : thin s p = true := by simpa using h1
  unfold thin at hthin
  simp only [Bool.and_eq_true, decide_eq_true_eq] at hthin
  obtain ⟨hn9, hc9, hw9⟩ := hthin
  refine M.at_ [27] rfl <| M.case 27 rfl (fun h2 => ?_) (fun h2 => ?_)
  · refine M.run rfl <| M.condT rfl rfl ?_
    refine M.run rfl <| M.cl rfl (fin w3 e03) ?_
    rintro e wz ⟨rfl, ez⟩
    exact ⟨_, rfl, M.run rfl <| M.retF rfl rfl ⟨rfl, ez⟩⟩
  have hd9 : l.length ≤ 9 := by have := of_decide_eq_false h2; omega
  refine M.run rfl <| M.ldA rfl rfl b1.cellsAll <| M.run rfl <| M.cl rfl (few_go s A c 4000 w3 (hA.mv e03)) ?_
  rintro e w4 ⟨rfl, e4⟩
  have e04 := gr_trans e03 e4
  replace b1 := b1.mv0 e4
  replace b2 := b2.mv0 e4
  refine ⟨_, rfl, M.run rfl <| M.cond rfl (fun h3 => ?_) (fun h3 => ?_)⟩
  · refine M.run rfl <| M.cl rfl (fin w4 e04) ?_
    rintro e wz ⟨rfl, ez⟩
    exact ⟨_, rfl, M.run rfl <| M.retF rfl rfl ⟨rfl, ez⟩⟩
  have hErr := hE.mv e04
  refine M.run rfl <| M.drawG [] (by kernel_rfl) fun x8 xe8 => ?_
  have x0 := gr_trans e04 xe8
  refine D.run rfl <| D.ldA 0 rfl rfl rfl rfl rfl (fun w' hw => ((b1.mv0 xe8).mv0 hw).cellsAll) <| D.ldA 2 rfl rfl rfl rfl rfl (fun w' hw => ((b2.mv0 xe8).mv0 hw).cellsAll) <| D.one 1 rfl rfl <| M.cl rfl (StoreC_go s A c x8 (hA.mv x0) (by omega)) ?_
  rintro e x9 ⟨A1, a1, rfl, hA1, xe9⟩
  refine ⟨_, rfl, M.run rfl <| M.end_ ⟨.inr xe9, D.one 3 rfl rfl <| M.cl rfl (PlanC_go p B b U d x9 (hB.mv (gr_trans x0 xe9)) (hD.mv (gr_trans x0 xe9)) (by omega) (by omega)) ?_⟩⟩
  rintro e xa ⟨B1, b1', U1, u1, rfl, hB1, hU1, xea⟩
  have x7a := gr_trans (gr_trans xe8 xe9) xea
  refine ⟨_, rfl, M.run rfl <| M.end_ ⟨.inr xea, D.one 5 rfl rfl <| M.cl rfl (Dips_go l E f xa (hErr.mv x7a) (by omega)) ?_⟩⟩
  rintro e xb ⟨E1, ec2, rfl, hE1, xeb⟩
  refine ⟨_, rfl, M.run rfl <| M.end_ ⟨.inr xeb, D.one 6 rfl rfl <| M.cl rfl (Oil_go s p l A1 a1 B1 b1' U1 u1 E1 ec2 xb (hA1.mv (gr_trans xea xeb)) (hB1.mv xeb) (hU1.mv xeb) (hE1.rd (by decide))) ?_⟩⟩
  rintro e xw ⟨R, r, rfl, hR, xew⟩
  have xB := gr_trans x7a (gr_trans xeb xew)
  refine ⟨_, rfl, M.run rfl <| M.end_ ⟨.inr xew, D.run rfl <| D.done_ rfl <| M.run rfl <| M.drawG [] (by kernel_rfl) fun y8 ye8 => ?_⟩⟩
  have y0 := gr_trans (gr_trans e04 xB) ye8
  refine D.run rfl <| D.ldA 0 rfl rfl rfl rfl rfl (fun w' hw => (((b1.mv0 xB).mv0 ye8).mv0 hw).cellsAll) <| D.ldA 2 rfl rfl rfl rfl rfl (fun w' hw => (((b2.mv0 xB).mv0 ye8).mv0 hw).cellsAll) <| D.one 1 rfl rfl <| M.cl rfl (StoreC_go s A c y8 (hA.mv y0) (by omega)) ?_
  rintro e y9 ⟨A1, a1, rfl, hA1, ye9⟩
  refine ⟨_, rfl, M.run rfl <| M.end_ ⟨.inr ye9, D.one 3 rfl rfl <| M.cl rfl (PlanC_go p B b U d y9 (hB.mv (gr_trans y0 ye9)) (hD.mv (gr_trans y0 ye9)) (by omega) (by omega)) ?_⟩⟩
  rintro e ya ⟨B1, b1', U1, u1, rfl, hB1, hU1, yea⟩
  have y7a := gr_trans (gr_trans ye8 ye9) yea
  refine ⟨_, rfl, M.run rfl <| M.end_ ⟨.inr yea, D.one 4 rfl rfl <| M.cl rfl (Dark_go s p A1 a1 B1 b1' U1 u1 ya (hA1.mv yea) hB1 hU1) ?_⟩⟩
  rintro e yw ⟨K, k, rfl, hK, yew⟩
  have yB := gr_trans y7a yew
  have e4y := gr_trans xB yB
  refine ⟨_, rfl, M.run rfl <| M.end_ ⟨.inr yew, D.run rfl <| D.done_ rfl <| M.run rfl <| M.drawG [] (by kernel_rfl) fun z8 ze8 => ?_⟩⟩
  have z0 := gr_trans (gr_trans e04 e4y) ze8
  refine D.run rfl <| D.ldA 0 rfl rfl rfl rfl rfl (fun w' hw => (((b1.mv0 e4y).mv0 ze8).mv0 hw).cellsAll) <| D.ldA 2 rfl rfl rfl rfl rfl (fun w' hw => (((b2.mv0 e4y).mv0 ze8).mv0 hw).cellsAll) <| D.one 1 rfl rfl <| M.cl rfl (StoreC_go s A c z8 (hA.mv z0) (by omega)) ?_
  rintro e z9 ⟨A1, a1, rfl, hA1, ze9⟩
  refine ⟨_, rfl, M.run rfl <| M.end_ ⟨.inr ze9, D.one 3 rfl rfl <| M.cl rfl (PlanC_go p B b U d z9 (hB.mv (gr_trans z0 ze9)) (hD.mv (gr_trans z0 ze9)) (by omega) (by omega)) ?_⟩⟩
  rintro e za ⟨B1, b1', U1, u1, rfl, hB1, hU1, zea⟩
  have z7a := gr_trans (gr_trans ze8 ze9) zea
  refine ⟨_, rfl, M.run rfl <| M.end_ ⟨.inr zea, D.one 4 rfl rfl <| M.cl rfl (ProvePlan_go s p A1 a1 B1 b1' U1 u1 za (hA1.mv zea) hB1 hU1) ?_⟩⟩
  rintro e zw ⟨rfl, zew⟩
  have zB := gr_trans z7a zew
  have e4z := gr_trans e4y zB
  have e0z := gr_trans e04 e4z
  replace b1 := b1.mv0 e4z
  replace b2 := b2.mv0 e4z
  have rR : Rd dRng zw R r _ := Rd.mv (hR.rd (by decide)) (gr_trans yB zB)
  have rK : Rd dI zw K k _ := Rd.mv (hK.rd (by decide)) zB
  refine ⟨_, rfl, M.run rfl <| M.end_ ⟨.inr zew, D.run rfl <| D.done_ rfl <| M.run rfl <| M.drawG [] (by kernel_rfl) fun w5 e5 => ?_⟩⟩
  have e05 := gr_trans e0z e5
  replace b1 := b1.mv0 e5
  replace b2 := b2.mv0 e5
  refine D.run rfl <| D.ldA 0 rfl rfl rfl rfl rfl (fun w' hw => (b1.mv0 hw).cellsAll) <| D.ldA 1 rfl rfl rfl rfl rfl (fun w' hw => (b2.mv0 hw).cellsAll) <| D.ldA 4 rfl rfl rfl rfl rfl (fun w' hw => (b1.mv0 hw).cellsAll) <| D.ldA 5 rfl rfl rfl rfl rfl (fun w' hw => (b2.mv0 hw).cellsAll) <| D.run rfl <|
    D.one 3 rfl rfl <| M.cl rfl (dippedL_go s p l A c B b U d E f w5 (hA.mv e05) (hB.mv e05) (hD.mv e05) (hE.mv e05)) ?_
  rintro e w6 ⟨rfl, e6⟩
  have e06 := gr_trans e05 e6
  refine ⟨_, rfl, M.run rfl <| M.end_ ⟨.inr e6, D.one 6 rfl rfl <| M.cl rfl (planned_go s p A c B b U d w6 (hA.mv e06) (hB.mv e06) (hD.mv e06)) ?_⟩⟩
  rintro e w7 ⟨rfl, e7⟩
  have e07 := gr_trans e06 e7
  have ez7 := gr_trans e5 (gr_trans e6 e7)
  have e57 := gr_trans e6 e7
  replace b1 := b1.mv0 e57
  replace b2 := b2.mv0 e57
  replace rR := rR.mv ez7
  replace rK := rK.mv ez7
  refine ⟨_, rfl, M.run rfl <| M.end_ ⟨.inr e7, D.run rfl <| D.done_ rfl <| M.at_ [66] rfl <| M.caseF 66 rfl (by simp) <| M.at_ [69] rfl ?_⟩⟩
  have hdark : (check s p ≠ 0 → darkR s p = [] ∧ provePlan s p = false ∧ dippedE s p l = check s p) ∧ (check s p = 0 → darkR s p = darkL s p s.nights.length) := by
    refine ⟨fun h => ⟨by simp [darkR, h], ?_, by simp [dippedE, h]⟩, fun h => by simp [darkR, h]⟩
    cases hp : provePlan s p with
    | false => rfl
    | true => exact absurd ((prove_iff s p).1 hp).1 h
  have bad : dippedE s p l ≠ 0 → oilE s p l = dippedE s p l ∧ oilR s p l = [] := fun h => by
    have h1 : oilE s p l = dippedE s p l := by unfold oilE; rw [if_pos h]
    exact ⟨h1, by unfold oilR; rw [if_neg (by rw [h1]; exact h)]⟩
  refine M.case 69 rfl (fun h4 => ?_) (fun h4 => ?_)
  · have hck : check s p ≠ 0 := by simpa using h4
    obtain ⟨hd1, hd2, hd3⟩ := hdark.1 hck
    have hde : dippedE s p l ≠ 0 := by rw [hd3]; exact hck
    obtain ⟨ho1, ho2⟩ := bad hde
    rw [hd1, hd2, ho1, ho2]
    refine M.run rfl <| M.condF rfl rfl <| M.run rfl <| M.condF rfl (by simpa using hck) <| M.run rfl <| M.condF rfl (by simpa using hde) <| M.at_ [108] rfl <| M.caseF 108 rfl (by simp) <| M.run rfl <| M.condF rfl rfl <| M.run rfl ?_
    refine M.loop (σ := Unit) (fun _ => [(7, .slice R ([] : List Rng).length r), (17, .int .i64 0)]) (fun _ w' => w7.grownBy w' none) (fun _ => 0) () ⟨rfl, rfl, trivial⟩ (gr_refl _ _) ?_
    rintro _ w8 e8
    refine M.run rfl <| M.condF rfl rfl ?_
    refine M.run rfl <| M.cl rfl (fin w8 (gr_trans e07 e8)) ?_
    rintro e wz ⟨rfl, ez⟩
    exact ⟨_, rfl, M.run rfl <| M.retF rfl rfl ⟨rfl, ez⟩⟩
  have hck : check s p = 0 := by simpa using h4
  have hf := check_fine hck
  have hd1 := hdark.2 hck
  rw [hd1] at rK
  rw [hd1, hck]
  refine M.run rfl <| M.condF rfl rfl <| M.run rfl <| M.condT rfl rfl <| M.run rfl <| M.ldA rfl rfl b1.cellsAll <| M.run rfl <| M.ldA rfl rfl b2.cellsAll <| M.run rfl <| M.cl rfl (DarkRef_go s p A c B b U d w7 (hA.mv e07) (hB.mv e07) (hD.mv e07) hf) ?_
  rintro e w8 ⟨K2, k2, rfl, hK2, e8⟩
  have e08 := gr_trans e07 e8
  refine ⟨_, rfl, M.run rfl <| M.cl rfl (Same_go _ _ K k K2 k2 w8 (rK.mv e8) (hK2.rd (by decide))) ?_⟩
  rintro e w9 ⟨rfl, e9⟩
  have e79 := gr_trans e8 e9
  have e09 := gr_trans e07 e79
  replace b1 := b1.mv0 e79
  replace b2 := b2.mv0 e79
  replace rR := rR.mv e79
  have hpr : (provePlan s p != (((darkL s p s.nights.length).length : Int) == 0)) = false := by
    unfold provePlan
    rw [decide_eq_true hck, Bool.true_and]
    cases hx : darkL s p s.nights.length with
    | nil => rfl
    | cons y ys =>
      have : (((y :: ys).length : Int) == 0) = false := by rw [beq_eq_false_iff_ne]; simp; omega
      rw [this]; rfl
  refine ⟨_, rfl, M.at_ [87] rfl <| M.caseF 87 rfl (by simp) <| M.run rfl <| M.condF rfl hpr <| M.run rfl ?_⟩
  refine M.cutC (σ := Option Addr × Nat) (fun (RR, rc) => [(7, .slice R (oilR s p l).length r), (8, .int .i64 (oilE s p l)), (12, .int .i64 (oilE s p l)), (15, .slice RR (oilR s p l).length rc)]) (fun (RR, rc) w' => w9.grownBy w' none ∧ Rd dRng w' RR rc (oilR s p l)) ?_ ?_ post_weak
  · refine M.cond rfl (fun h5 => ?_) (fun h5 => ?_)
    · have hd0 : dippedE s p l = 0 := by simpa using h5
      refine M.run rfl <| M.ldA rfl rfl b1.cellsAll <| M.run rfl <| M.ldA rfl rfl b2.cellsAll <| M.run rfl <| M.cl rfl (OilRef_go s p l 0 A c B b U d E f w9 (hA.mv e09) (hB.mv e09) (hD.mv e09) (hE.mv e09) hf (by omega) (dip_nights hd0)) ?_
      rintro e wa ⟨RR, rc, rr, rfl, hRR, ⟨m, hm, hrng⟩, ea⟩
      rw [someIn_zero l (by omega)] at hrng
      rcases rng_all hf (dip_nights hd0) hm hrng with ⟨hl, hrr, hne⟩ | ⟨hl, hrr⟩
      · obtain ⟨f1, f2⟩ := (oil_fine hd0).1 hl
        have hpos : 0 < rr.length := List.length_pos_iff.2 hne
        have hr2 : rr = oilR s p l := by rw [f2]; exact hrr
        subst hr2
        refine ⟨_, rfl, M.run rfl <| M.condF rfl (by rw [decide_eq_true (by omega)]; rfl) <| M.run rfl <| M.end_ ⟨(RR, rc), ⟨rfl, rfl, ?_, rfl, trivial⟩, ea, hRR⟩⟩
        rw [f1, ← hd0]; rfl
      · obtain ⟨f1, f2⟩ := (oil_fine hd0).2 hl
        subst hrr
        refine ⟨_, rfl, M.run rfl <| M.condT rfl rfl <| M.run rfl <| M.end_ ⟨(RR, rc), ⟨rfl, rfl, ?_, ?_, trivial⟩, ea, by rw [f2]; exact hRR⟩⟩
        · rw [f1]; rfl
        · rw [f2]; rfl
    · have hde : dippedE s p l ≠ 0 := by simpa using h5
      obtain ⟨ho1, ho2⟩ := bad hde
      refine M.run rfl <| M.end_ ⟨(none, 0), ⟨rfl, rfl, ?_, ?_, trivial⟩, gr_refl _ _, by rw [ho2]; exact rd_empty dRng w9⟩
      · rw [ho1]; rfl
      · rw [ho2]; rfl
  rintro ⟨RR, rc⟩ wb ⟨eb, hRR⟩
  have e0b := gr_trans e09 eb
  replace rR := rR.mv eb
  generalize oilR s p l = LR at *
  refine M.at_ [108] rfl <| M.caseF 108 rfl (by simp) <| M.run rfl <| M.condF rfl (by simp) <| M.run rfl ?_
  refine M.loop (σ := Nat) (fun i => [(7, .slice R LR.length r), (15, .slice RR LR.length rc), (17, .int .i64 (i : Int))]) (fun i w' => i ≤ LR.length ∧ wb.grownBy w' none) (fun i => LR.length - i) 0 ⟨rfl, rfl, rfl, trivial⟩ ⟨Nat.zero_le _, gr_refl _ _⟩ ?_
  rintro i wc ⟨hi, ec⟩
  refine M.run rfl <| M.cond rfl (fun h6 => ?_) (fun h6 => ?_)
  · have hlt : i < LR.length := by have := of_decide_eq_true h6; omega
    obtain ⟨hR1, hRC⟩ := rd_flat rR hlt
    obtain ⟨hS1, hSC⟩ := rd_flat hRR hlt
    have hbd := rR.bd
    generalize LR[i] = y at hRC hSC
    refine M.run rfl <| M.drawG [] (by kernel_rfl) fun wd ed => ?_
    have ebd := gr_trans ec ed
    refine D.run rfl <| D.ys 2 rfl rfl rfl (YS.ix rfl (by omega) (by omega) hR1) <| D.ldA 3 rfl rfl rfl rfl rfl (fun w' hw => hRC w' (gr_below (gr_trans ebd hw))) <| D.run rfl <| D.ys 6 rfl rfl rfl (YS.ix rfl (by omega) (by omega) hS1) <| D.ldA 7 rfl rfl rfl rfl rfl (fun w' hw => hSC w' (gr_below (gr_trans ebd hw))) <|
      D.one 8 rfl rfl <| M.cl rfl (toR_go y.lo y.hi wd) ?_
    rintro e we ⟨rfl, ee⟩
    refine ⟨_, rfl, M.run rfl <| M.end_ ⟨.inr ee, D.ys 9 rfl rfl rfl (YS.neII (k := .i64) rfl Try.eqGuardType36 Try.underlying36 ⟨rfl, rfl, by decide⟩ ⟨rfl, rfl, by decide⟩ Try.underlying3 Try.stoodInHeld36) <| D.run rfl <| D.done_ rfl <| M.run rfl <| M.condF rfl (by simp) <| M.run rfl <| M.end_ ⟨i + 1, ⟨rfl, rfl, nxtL hlt hbd, trivial⟩, ⟨by omega, gr_trans ebd ee⟩, by omega⟩⟩⟩
  · refine M.run rfl <| M.cl rfl (fin wc (gr_trans e0b ec)) ?_
    rintro e wz ⟨rfl, ez⟩
    exact ⟨_, rfl, M.run rfl <| M.retF rfl rfl ⟨rfl, ez⟩⟩
end Go.Proofs.Ytaimlmfncjbmjaa
end

section
/- Walks of the reference's Bits, Leave, and of the law LampLeaves. -/
set_option linter.unusedVariables false
namespace Go.Proofs.Ytaimlmfncjbmjaa
open Go Go.Vc Go.RowKit Lp
end Go.Proofs.Ytaimlmfncjbmjaa
namespace Lp
open Go
theorem lexB_trans : ∀ {a b c : List Int}, lexB a b = true → lexB b c = true → lexB a c = true
  | [], [], _, h, _ => by simp [lexB] at h
  | [], _ :: _, [], _, h => by simp [lexB] at h
  | [], _ :: _, _ :: _, _, _ => rfl
  | _ :: _, [], _, h, _ => by simp [lexB] at h
  | _ :: _, _ :: _, [], _, h => by simp [lexB] at h
  | x :: a, y :: b, z :: c, h1, h2 => by
    simp only [lexB] at *
    by_cases e1 : x = y
    · subst e1
      rw [if_pos rfl] at h1
      by_cases e2 : x = z
      · subst e2
        rw [if_pos rfl] at h2 ⊢
        exact lexB_trans h1 h2
      · rw [if_neg e2] at h2 ⊢; exact h2
    · rw [if_neg e1] at h1
      have h1' := of_decide_eq_true h1
      by_cases e2 : y = z
      · subst e2
        rw [if_neg e1]; exact h1
      · rw [if_neg e2] at h2
        have h2' := of_decide_eq_true h2
        rw [if_neg (by omega)]
        exact decide_eq_true (by omega)
theorem shorterB_trans {a b c : List Int} (h1 : shorterB a b = true) (h2 : shorterB b c = true) : shorterB a c = true := by
  unfold shorterB at *
  simp only [Bool.or_eq_true, Bool.and_eq_true, decide_eq_true_eq] at *
  rcases h1 with h1 | ⟨h1, h1'⟩ <;> rcases h2 with h2 | ⟨h2, h2'⟩
  · left; omega
  · left; omega
  · left; omega
  · right; exact ⟨by omega, lexB_trans h1' h2'⟩
def bitsN (S m : Nat) : List Int := ((List.range m).filter fun k => S.testBit k).map Int.ofNat
def bitsL (S : Nat) : List Int := bitsN S 6
theorem bitsN_succ (S m : Nat) : bitsN S (m + 1) = if S.testBit m then bitsN S m ++ [(m : Int)] else bitsN S m := by
  unfold bitsN
  rw [List.range_succ, List.filter_append, List.map_append]
  cases h : S.testBit m <;> simp [h]
theorem bitsN_len (S m : Nat) : (bitsN S m).length ≤ m := by
  unfold bitsN
  rw [List.length_map]
  exact Nat.le_trans (List.length_filter_le _ _) (by simp)
theorem bitsN_end {S p : Nat} (h : S < 2 ^ p) (hp : p ≤ 6) : bitsL S = bitsN S p := by
  have key : ∀ d, bitsN S (p + d) = bitsN S p := by
    intro d
    induction d with
    | zero => rfl
    | succ d ih =>
      rw [← Nat.add_assoc, bitsN_succ, Nat.testBit_lt_two_pow (Nat.lt_of_lt_of_le h (Nat.pow_le_pow_right (by decide) (by omega)))]
      simpa using ih
  have := key (6 - p)
  rw [show p + (6 - p) = 6 by omega] at this
  exact this
theorem bitsN_inc (S : Nat) : ∀ m, Inc m 0 (bitsN S m)
  | 0 => trivial
  | m + 1 => by
    rw [bitsN_succ]
    have ih := bitsN_inc S m
    split
    · exact Inc.snoc (by omega) (Nat.zero_le _) ih
    · exact ih.weak (by omega)
theorem bitsN_mem (S m k : Nat) : (k : Int) ∈ bitsN S m ↔ k < m ∧ S.testBit k = true := by
  simp only [bitsN, List.mem_map, List.mem_filter, List.mem_range]
  constructor
  · rintro ⟨a, h, e⟩
    have : a = k := by have : (a : Int) = (k : Int) := e; omega
    subst this; exact h
  · intro h; exact ⟨k, h, rfl⟩
theorem bits_inc {S n : Nat} (h : S < 2 ^ n) (hn : n ≤ 6) : Inc n 0 (bitsL S) := by rw [bitsN_end h hn]; exact bitsN_inc S n
theorem bits_mem {S n k : Nat} (h : S < 2 ^ n) (hn : n ≤ 6) : (k : Int) ∈ bitsL S ↔ S.testBit k = true := by
  rw [bitsN_end h hn, bitsN_mem]
  constructor
  · exact fun h => h.2
  · intro hb
    refine ⟨?_, hb⟩
    apply Classical.byContradiction
    intro hk
    rw [Nat.testBit_lt_two_pow (Nat.lt_of_lt_of_le h (Nat.pow_le_pow_right (by decide) (by omega)))] at hb
    cases hb
theorem Inc.ext {n : Nat} : ∀ {a b : List Int} {i j : Nat}, Inc n i a → Inc n j b → (∀ x, x ∈ a ↔ x ∈ b) → a = b
  | [], [], _, _, _, _, _ => rfl
  | [], y :: b, _, _, _, _, h => by have := (h y).2 (by simp); simp at this
  | x :: a, [], _, _, _, _, h => by have := (h x).1 (by simp); simp at this
  | x :: a, y :: b, i, j, ⟨k, e1, h1, h2, h3⟩, ⟨m, e2, g1, g2, g3⟩, h => by
    have hxy : x = y := by
      rcases List.mem_cons.1 ((h x).1 (by simp)) with h' | h'
      · exact h'
      · rcases List.mem_cons.1 ((h y).2 (by simp)) with h'' | h''
        · exact h''.symm
        · obtain ⟨k1, f1, f2, _⟩ := g3.mem x h'
          obtain ⟨k2, f3, f4, _⟩ := h3.mem y h''
          omega
    subst hxy
    have : a = b := Inc.ext h3 g3 fun z => by
      constructor
      · intro hz
        rcases List.mem_cons.1 ((h z).1 (by simp [hz])) with h' | h'
        · obtain ⟨k1, f1, f2, _⟩ := h3.mem z hz; omega
        · exact h'
      · intro hz
        rcases List.mem_cons.1 ((h z).2 (by simp [hz])) with h' | h'
        · obtain ⟨k1, f1, f2, _⟩ := g3.mem z hz; omega
        · exact h'
    rw [this]
/-- each rising list is one of bits -/
theorem bits_all {n : Nat} (hn : n ≤ 6) {js : List Int} (h : Inc n 0 js) : ∃ S, S < 2 ^ n ∧ bitsL S = js := by
  have key : ∀ js : List Int, (∀ j ∈ js, ∃ k : Nat, j = (k : Int) ∧ k < n) → ∃ S : Nat, S < 2 ^ n ∧ ∀ k : Nat, S.testBit k = true ↔ (k : Int) ∈ js := by
    intro js
    induction js with
    | nil => intro _; exact ⟨0, Nat.two_pow_pos n, fun k => by simp⟩
    | cons x js ih =>
      intro hm
      obtain ⟨S, h1, h2⟩ := ih (fun j hj => hm j (by simp [hj]))
      obtain ⟨k, rfl, hk⟩ := hm x (by simp)
      refine ⟨S ||| 2 ^ k, Nat.or_lt_two_pow h1 (Nat.pow_lt_pow_right (by decide) hk), fun j => ?_⟩
      rw [Nat.testBit_or, Bool.or_eq_true, h2, Nat.testBit_two_pow, List.mem_cons]
      simp only [decide_eq_true_eq]
      constructor
      · rintro (h | h)
        · exact .inr h
        · exact .inl (by omega)
      · rintro (h | h)
        · exact .inr (by omega)
        · exact .inl h
  obtain ⟨S, h1, h2⟩ := key js (fun j hj => by obtain ⟨k, e, _, hk⟩ := h.mem j hj; exact ⟨k, e, hk⟩)
  refine ⟨S, h1, Inc.ext (bits_inc h1 hn) h fun x => ?_⟩
  constructor
  · intro hx
    obtain ⟨k, e, _, _⟩ := (bits_inc h1 hn).mem x hx
    subst e
    exact (h2 k).1 ((bits_mem h1 hn).1 hx)
  · intro hx
    obtain ⟨k, e, _, _⟩ := h.mem x hx
    subst e
    exact (bits_mem h1 hn).2 ((h2 k).2 hx)
theorem someIn_bits {l : List Dip} {S : Nat} (hS : S < 2 ^ l.length) (hn : l.length ≤ 6) : someIn l (S : Int) l.length = kept l (bitsL S) := someIn_kept fun k hk => by
  rw [bitZ_nat S k (by omega)]
  congr 1
  rw [Bool.eq_iff_iff, List.contains_iff_mem, bits_mem hS hn]
theorem shr_nat (S p : Nat) (hp : p ≤ 64) : (S : Int).fdiv (2 ^ min ((p : Int).toNat) IntKind.i64.bits) = ((S / 2 ^ p : Nat) : Int) := by
  have h1 : min ((p : Int).toNat) IntKind.i64.bits = p := by rw [Int.toNat_natCast]; exact Nat.min_eq_left hp
  rw [h1, Int.fdiv_eq_ediv_of_nonneg _ (Int.pow_nonneg (by decide)), Int.natCast_ediv]; simp
theorem shl_nat {n : Nat} (hn : n < 6) : IntKind.i64.wrap (1 * 2 ^ min ((n : Int).toNat) IntKind.i64.bits) = ((2 ^ n : Nat) : Int) := by
  have hp : 2 ^ n < 64 := Nat.pow_lt_pow_right (by decide : 1 < 2) hn
  have h1 : min ((n : Int).toNat) IntKind.i64.bits = n := by rw [Int.toNat_natCast]; exact Nat.min_eq_left (by show n ≤ 64; omega)
  have h2 : (1 : Int) * 2 ^ n = ((2 ^ n : Nat) : Int) := by rw [Int.one_mul, Int.natCast_pow]; rfl
  have h4 : ∀ x : Nat, x < 64 → IntKind.i64.wrap (x : Int) = x := fun x hx => w64 (by omega) (by omega)
  rw [h1, h2]
  exact h4 _ hp
end Lp
namespace Go.Proofs.Ytaimlmfncjbmjaa
open Go Go.Vc Go.RowKit Lp
set_option maxHeartbeats 1000000 in
theorem Bits_go (S : Nat) (w : World) (hS : S < 64) : Calls Try.prog 76 #[.int .i64 (S : Int)] w fun e w' => ∃ X x, e = .returned (.slice X (bitsL S).length x) ∧ Vc.Own dI 3 w' w.heap.size no X x (bitsL S) ∧ w.grownBy w' none := by
  refine calls (G := G) (args := [.int .i64 (S : Int)]) Try.func76 rfl rfl rfl ?_
  refine M.run rfl <| M.loop (σ := Nat × Option Addr × Nat) (fun (p, X, x) => [(0, .int .i64 (S : Int)), (3, .slice X (bitsN S p).length x), (4, .int .i64 (p : Int))])
    (fun (p, X, x) w' => p ≤ 6 ∧ w.grownBy w' none ∧ Vc.Own dI 3 w' w.heap.size no X x (bitsN S p)) (fun (p, _) => 7 - p) (0, none, 0) ⟨rfl, rfl, rfl, trivial⟩ ⟨by omega, gr_refl _ _, Vc.Own.nil _ _ _ _ _⟩ ?_
  rintro ⟨p, X, x⟩ w2 ⟨hp, e2, hX⟩
  refine M.run rfl ?_
  rw [wu64 (x := (p : Int)) (by omega) (by omega)]
  refine M.ys (YS.shr rfl (by omega)) <| M.run rfl ?_
  rw [shr_nat S p (by omega)]
  refine M.cond rfl (fun h => ?_) (fun h => ?_)
  · have hpos : 0 < S / 2 ^ p := by have := of_decide_eq_true h; omega
    have hp6 : p < 6 := by
      apply Classical.byContradiction
      intro hne
      have : p = 6 := by omega
      subst this
      rw [Nat.div_eq_of_lt hS] at hpos; omega
    have hbs := bitsN_succ S p
    have hbl := bitsN_len S p
    refine M.run rfl ?_
    rw [wu64 (x := (p : Int)) (by omega) (by omega)]
    refine M.ys (YS.shr rfl (by omega)) <| M.run rfl ?_
    rw [shr_nat S p (by omega)]
    have htb : ((((S / 2 ^ p : Nat) : Int).tmod 2) == 1) = S.testBit p := by
      rw [Nat.testBit_eq_decide_div_mod_eq]
      have h3 : ((S / 2 ^ p : Nat) : Int).tmod 2 = ((S / 2 ^ p % 2 : Nat) : Int) := rfl
      rw [h3]
      by_cases h4 : S / 2 ^ p % 2 = 1
      · rw [h4]; rfl
      · have : S / 2 ^ p % 2 = 0 := by omega
        rw [this]; rfl
    rw [htb]
    refine M.cond rfl (fun k1 => ?_) (fun k1 => ?_)
    · rw [k1, if_pos rfl] at hbs
      refine M.run rfl <| M.bs rfl fun ga wa ba ea la => M.run rfl <| M.app (d := dI) rfl rfl (hX.mv0 ea) rfl (by decide) rfl (ys := [(p : Int)]) rfl rfl (src_one ba rfl) (gr_trans e2 ea).size (by simp; omega) (by decide) fun X' x' wb hXb eb hat => M.run rfl ?_
      have e0b := (hX.mv0 ea).gr (gr_trans e2 ea) eb (Nat.le_refl _)
      refine M.end_ ⟨(p + 1, X', x'), ⟨rfl, ?_, nxt (by omega), trivial⟩, ⟨by omega, e0b, by rw [hbs]; exact hXb⟩, by simp; omega⟩
      rw [hbs]; rfl
    · rw [k1, if_neg (by simp)] at hbs
      refine M.run rfl <| M.end_ ⟨(p + 1, X, x), ⟨rfl, ?_, nxt (by omega), trivial⟩, ⟨by omega, e2, by rw [hbs]; exact hX⟩, by simp; omega⟩
      rw [hbs]; rfl
  · have hz : S / 2 ^ p = 0 := by
      generalize S / 2 ^ p = q at h
      have := of_decide_eq_false h
      omega
    have hlt : S < 2 ^ p := by
      have := Nat.div_eq_zero_iff.1 hz
      rcases this with h' | h'
      · have := Nat.two_pow_pos p; omega
      · exact h'
    have hbe := bitsN_end hlt hp
    refine M.run rfl <| M.retF rfl rfl ⟨X, x, ?_, by rw [hbe]; exact hX, e2⟩
    rw [hbe]; rfl

set_option maxHeartbeats 2000000 in
theorem LeaveRef_go (s : Store) (p : Plan) (l : List Dip) (A : Option Addr) (c : Nat) (B : Option Addr) (b : Nat) (U : Option Addr) (d : Nat) (E : Option Addr) (f : Nat) (w : World) (hA : Rd dNight w A c s.nights) (hB : Rd dI w B b p.cans) (hD : Rd dI w U d p.wicks) (hE : Rd dDip w E f l)
    (hf : Fine s p) (hd0 : dippedE s p l = 0) (hn : l.length ≤ 4) :
    Calls Try.prog 32 #[vStore s A c, vPlan p B b U d, .slice E l.length f] w fun e w' => ∃ X x, e = .returned (.slice X (leaveR s p l).length x) ∧ Rd dI w' X x (leaveR s p l) ∧ w.grownBy w' none := by
  refine calls (G := G) (args := [vStore s A c, vPlan p B b U d, .slice E l.length f]) Try.func32 rfl rfl rfl ?_
  refine M.run rfl <| M.nw rfl fun g1 w1 b1 e1 l1 => M.run rfl <| M.nw rfl fun g2 w2 b2 e2 l2 => M.run rfl ?_
  have e02 := gr_trans e1 e2
  replace b1 := b1.mv0 e2
  have hp16 : 2 ^ l.length ≤ 16 := Nat.pow_le_pow_right (n := 2) (by decide) hn
  have hp1 := Nat.two_pow_pos l.length
  rw [wu64 (x := (l.length : Int)) (by omega) (by omega)]
  refine M.ys (YS.shl rfl (by omega)) <| M.run rfl ?_
  rw [shl_nat (by omega)]
  have hall : IntKind.i64.wrap (((2 ^ l.length : Nat) : Int) - 1) = ((2 ^ l.length - 1 : Nat) : Int) := by rw [w64 (by omega) (by omega)]; omega
  rw [hall]
  generalize hal : 2 ^ l.length - 1 = al
  have halt : al < 2 ^ l.length := by omega
  refine M.cl rfl (Bits_go al w2 (by omega)) ?_
  rintro e w3 ⟨X, x, rfl, hX, e3⟩
  have e03 := gr_trans e02 e3
  replace b1 := b1.mv0 e3
  replace b2 := b2.mv0 e3
  have hgood0 : Lp.Good s p l (bitsL al) := by
    have : kept l (bitsL al) = [] := by
      apply List.eq_nil_iff_forall_not_mem.2
      intro q hq
      obtain ⟨k, hk, hnk⟩ := mem_kept.1 hq
      have hkl := (List.getElem?_eq_some_iff.1 hk).1
      apply hnk
      rw [bits_mem halt (by omega), ← hal]
      rw [Nat.testBit_two_pow_sub_one]
      exact decide_eq_true hkl
    unfold Lp.Good
    rw [this]
    exact free_ok hf
  refine ⟨_, rfl, M.run rfl ?_⟩
  refine M.loop (σ := Nat × List Int × Option Addr × Nat) (fun (n, best, X, x) => [(2, .slice E l.length f), (3, .pointer (some ⟨g1, 0, none⟩)), (4, .pointer (some ⟨g2, 0, none⟩)), (7, .int .i64 (al : Int)), (8, .slice X best.length x), (9, .int .i64 (n : Int))])
    (fun (n, best, X, x) w' => n ≤ al ∧ w3.grownBy w' none ∧ Rd dI w' X x best ∧ Inc l.length 0 best ∧ Lp.Good s p l best ∧ shorterB (bitsL al) best = false ∧ ∀ S, S < n → Lp.Good s p l (bitsL S) → shorterB (bitsL S) best = false) (fun (n, _) => al - n) (0, bitsL al, X, x)
    ⟨rfl, rfl, rfl, rfl, rfl, rfl, trivial⟩ ⟨Nat.zero_le _, gr_refl _ _, hX.rd (by decide), bits_inc halt (by omega), hgood0, by simp [shorterB, lexB_self], fun S h => by omega⟩ ?_
  rintro ⟨n, best, X, x⟩ w4 ⟨hna, e34, hX, hinc, hgood, hle, hmin⟩
  have e04 := gr_trans e03 e34
  refine M.run rfl <| M.cond rfl (fun h => ?_) (fun h => ?_)
  · have hlt : n < al := by have := of_decide_eq_true h; omega
    have hn2 : n < 2 ^ l.length := by omega
    refine M.run rfl <| M.cl rfl (Bits_go n w4 (by omega)) ?_
    rintro e w5 ⟨Y, y, rfl, hY, e5⟩
    have hYr : Rd dI w5 Y y (bitsL n) := hY.rd (by decide)
    have e35 := gr_trans e34 e5
    refine ⟨_, rfl, M.run rfl <| M.cl rfl (Shorter_go (bitsL n) best Y y X x w5 hYr (hX.mv e5)) ?_⟩
    rintro e w6 ⟨rfl, e6⟩
    have e36 := gr_trans e35 e6
    have e06 := gr_trans e03 e36
    have keep : (Lp.Good s p l (bitsL n) → shorterB (bitsL n) best = false) → ∀ S, S < n + 1 → Lp.Good s p l (bitsL S) → shorterB (bitsL S) best = false := fun hk S hS hg => by
      by_cases e : S = n
      · subst e; exact hk hg
      · exact hmin S (by omega) hg
    refine ⟨_, rfl, M.run rfl <| M.cond rfl (fun k1 => ?_) (fun k1 => ?_)⟩
    · refine M.run rfl <| M.ldA rfl rfl (b1.mv0 e36).cellsAll <| M.run rfl <| M.ldA rfl rfl (b2.mv0 e36).cellsAll <| M.run rfl <| M.cl rfl (OilRef_go s p l (n : Int) A c B b U d E f w6 (hA.mv e06) (hB.mv e06) (hD.mv e06) (hE.mv e06) hf (by omega) (dip_nights hd0)) ?_
      rintro e w7 ⟨RR, rc, rr, rfl, hRR, ⟨m, hm, hrng⟩, e7⟩
      have e37 := gr_trans e36 e7
      rw [someIn_bits hn2 (by omega)] at hrng
      have hall := rng_all hf (fun q hq => dip_nights hd0 q (kept_sub q hq)) hm hrng
      refine ⟨_, rfl, M.run rfl <| M.cond rfl (fun k2 => ?_) (fun k2 => ?_)⟩
      · have hne : rr ≠ [] := fun hz => by subst hz; simp at k2
        have hg : Lp.Good s p l (bitsL n) := by
          rcases hall with ⟨h1, _⟩ | ⟨_, h1⟩
          · exact h1
          · exact absurd h1 hne
        have tr : ∀ q, shorterB q best = false → shorterB q (bitsL n) = false := fun q hq => by
          cases hx : shorterB q (bitsL n) with
          | false => rfl
          | true => rw [shorterB_trans hx k1] at hq; cases hq
        refine M.run rfl <| M.end_ ⟨(n + 1, bitsL n, Y, y), ⟨rfl, rfl, rfl, rfl, rfl, nxt (by omega), trivial⟩, ⟨by omega, e37, (hYr.mv e6).mv e7, bits_inc hn2 (by omega), hg, tr _ hle, fun S hS hgS => ?_⟩, by simp; omega⟩
        by_cases e : S = n
        · subst e; simp [shorterB, lexB_self]
        · exact tr _ (hmin S (by omega) hgS)
      · have hnil : rr = [] := by
          have := of_decide_eq_false k2
          exact List.eq_nil_of_length_eq_zero (by omega)
        refine M.run rfl <| M.end_ ⟨(n + 1, best, X, x), ⟨rfl, rfl, rfl, rfl, rfl, nxt (by omega), trivial⟩, ⟨by omega, e37, ((hX.mv e5).mv e6).mv e7, hinc, hgood, hle, keep fun hg => ?_⟩, by simp; omega⟩
        rcases hall with ⟨_, _, h1⟩ | ⟨h1, _⟩
        · exact absurd hnil h1
        · unfold Lp.Good at hg; rw [h1] at hg; cases hg
    · exact M.run rfl <| M.end_ ⟨(n + 1, best, X, x), ⟨rfl, rfl, rfl, rfl, rfl, nxt (by omega), trivial⟩, ⟨by omega, e36, (hX.mv e5).mv e6, hinc, hgood, hle, keep fun _ => k1⟩, by simp; omega⟩
  · have hna' : n = al := by have := of_decide_eq_false h; omega
    obtain ⟨q1, q2, q3⟩ := leave_spec hf hd0
    have hbest : best = leaveR s p l := by
      refine shorter_uniq (q3 best hinc hgood) ?_
      obtain ⟨S, hS, hSL⟩ := bits_all (by omega) q1
      rw [← hSL]
      by_cases e : S = al
      · subst e; exact hle
      · exact hmin S (by omega) (by rw [hSL]; exact q2)
    subst hbest
    exact M.run rfl <| M.retF rfl rfl ⟨X, x, rfl, hX, e04⟩

set_option maxHeartbeats 2000000 in
set_option maxRecDepth 100000 in
theorem LampLeaves_go (s : Store) (p : Plan) (l : List Dip) (A : Option Addr) (c : Nat) (B : Option Addr) (b : Nat) (U : Option Addr) (d : Nat) (E : Option Addr) (f : Nat) (w : World) (hA : Rd dNight w A c s.nights) (hB : Rd dI w B b p.cans) (hD : Rd dI w U d p.wicks) (hE : Rd dDip w E f l) :
    Calls Try.prog 4 #[vStore s A c, vPlan p B b U d, .slice E l.length f] w fun e w' => e = .returned (.bool true) ∧ w.grownBy w' none := by
  refine calls (G := G) (args := [vStore s A c, vPlan p B b U d, .slice E l.length f]) Try.func4 rfl rfl rfl ?_
  refine M.run rfl <| M.nw rfl fun g1 w1 b1 e1 l1 => M.run rfl <| M.nw rfl fun g2 w2 b2 e2 l2 => M.run rfl <| M.ldA rfl rfl (b1.mv0 e2).cellsAll <| M.run rfl <| M.ldA rfl rfl b2.cellsAll <| M.run rfl <| M.cl rfl (Thin_go s p A c B b U d w2) ?_
  rintro e w3 ⟨rfl, e3⟩
  have e03 := gr_trans (gr_trans e1 e2) e3
  replace b1 := (b1.mv0 e2).mv0 e3
  replace b2 := b2.mv0 e3
  have fin : ∀ (wk : World), w.grownBy wk none → Calls Try.prog 17 #[] wk fun e w' => e = .returned (.bool true) ∧ w.grownBy w' none := fun wk hk => (awake_go wk).mono fun e w' ⟨h1, h2⟩ => ⟨h1, gr_trans hk h2⟩
  refine ⟨_, rfl, M.at_ [14] rfl <| M.case 14 rfl (fun h1 => ?_) (fun h1 => ?_)⟩
  · refine M.run rfl <| M.condT rfl rfl ?_
    refine M.run rfl <| M.cl rfl (fin w3 e03) ?_
    rintro e wz ⟨rfl, ez⟩
    exact ⟨_, rfl, M.run rfl <| M.retF rfl rfl ⟨rfl, ez⟩⟩
  have hthin : thin s p = true := by simpa using h1
  unfold thin at hthin
  simp only [Bool.and_eq_true, decide_eq_true_eq] at hthin
  obtain ⟨hn9, hc9, hw9⟩ := hthin
  refine M.at_ [19] rfl <| M.case 19 rfl (fun h2 => ?_) (fun h2 => ?_)
  · refine M.run rfl <| M.condT rfl rfl ?_
    refine M.run rfl <| M.cl rfl (fin w3 e03) ?_
    rintro e wz ⟨rfl, ez⟩
    exact ⟨_, rfl, M.run rfl <| M.retF rfl rfl ⟨rfl, ez⟩⟩
  have hd9 : l.length ≤ 9 := by have := of_decide_eq_false h2; omega
  refine M.run rfl <| M.ldA rfl rfl b1.cellsAll <| M.run rfl <| M.cl rfl (few_go s A c 500 w3 (hA.mv e03)) ?_
  rintro e w4 ⟨rfl, e4⟩
  have e04 := gr_trans e03 e4
  replace b1 := b1.mv0 e4
  replace b2 := b2.mv0 e4
  refine ⟨_, rfl, M.at_ [24] rfl <| M.case 24 rfl (fun h3 => ?_) (fun h3 => ?_)⟩
  · refine M.run rfl <| M.condT rfl rfl ?_
    refine M.run rfl <| M.cl rfl (fin w4 e04) ?_
    rintro e wz ⟨rfl, ez⟩
    exact ⟨_, rfl, M.run rfl <| M.retF rfl rfl ⟨rfl, ez⟩⟩
  refine M.run rfl <| M.ldA rfl rfl b1.cellsAll <| M.run rfl <| M.ldA rfl rfl b2.cellsAll <| M.run rfl <| M.cl rfl (dippedL_go s p l A c B b U d E f w4 (hA.mv e04) (hB.mv e04) (hD.mv e04) (hE.mv e04)) ?_
  rintro e w5 ⟨rfl, e5⟩
  have e05 := gr_trans e04 e5
  replace b1 := b1.mv0 e5
  replace b2 := b2.mv0 e5
  have hEr := hE.mv e05
  refine ⟨_, rfl, M.at_ [30] rfl <| M.case 30 rfl (fun h4 => ?_) (fun h4 => ?_)⟩
  · have hd0 : dippedE s p l = 0 := by simpa using h4
    refine M.run rfl <| M.cond rfl (fun h5 => ?_) (fun h5 => ?_)
    · skip
      refine M.run rfl <| M.cl rfl (fin w5 e05) ?_
      rintro e wz ⟨rfl, ez⟩
      exact ⟨_, rfl, M.run rfl <| M.retF rfl rfl ⟨rfl, ez⟩⟩
    have hd4 : l.length ≤ 4 := by have := of_decide_eq_false h5; omega
    have hf := check_fine (dipped_parts hd0).1
    refine M.run rfl <| M.run rfl <| M.drawG [] (by kernel_rfl) fun x8 xe8 => ?_
    have x0 := gr_trans e05 xe8
    refine D.run rfl <| D.ldA 0 rfl rfl rfl rfl rfl (fun w' hw => ((b1.mv0 xe8).mv0 hw).cellsAll) <| D.ldA 2 rfl rfl rfl rfl rfl (fun w' hw => ((b2.mv0 xe8).mv0 hw).cellsAll) <| D.one 1 rfl rfl <| M.cl rfl (StoreC_go s A c x8 (hA.mv x0) (by omega)) ?_
    rintro e x9 ⟨A1, a1, rfl, hA1, xe9⟩
    refine ⟨_, rfl, M.run rfl <| M.end_ ⟨.inr xe9, D.one 3 rfl rfl <| M.cl rfl (PlanC_go p B b U d x9 (hB.mv (gr_trans x0 xe9)) (hD.mv (gr_trans x0 xe9)) (by omega) (by omega)) ?_⟩⟩
    rintro e xa ⟨B1, b1', U1, u1, rfl, hB1, hU1, xea⟩
    have x7a := gr_trans (gr_trans xe8 xe9) xea
    refine ⟨_, rfl, M.run rfl <| M.end_ ⟨.inr xea, D.one 5 rfl rfl <| M.cl rfl (Dips_go l E f xa (hEr.mv x7a) (by omega)) ?_⟩⟩
    rintro e xb ⟨E1, ec2, rfl, hE1, xeb⟩
    refine ⟨_, rfl, M.run rfl <| M.end_ ⟨.inr xeb, D.one 6 rfl rfl <| M.cl rfl (Leave_go s p l A1 a1 B1 b1' U1 u1 E1 ec2 xb (hA1.mv (gr_trans xea xeb)) (hB1.mv xeb) (hU1.mv xeb) (hE1.rd (by decide))) ?_⟩⟩
    rintro e xw ⟨O, o, rfl, hO, xew⟩
    have xB := gr_trans x7a (gr_trans xeb xew)
    have hl0 : leaveE s p l = 0 := hd0
    rw [hl0]
    have e0x := gr_trans e05 xB
    replace b1 := b1.mv0 xB
    replace b2 := b2.mv0 xB
    refine ⟨_, rfl, M.run rfl <| M.end_ ⟨.inr xew, D.run rfl <| D.done_ rfl <| M.run rfl <| M.ldA rfl rfl b1.cellsAll <| M.run rfl <| M.ldA rfl rfl b2.cellsAll <| M.run rfl <| M.cl rfl (dippedL_go s p l A c B b U d E f xw (hA.mv e0x) (hB.mv e0x) (hD.mv e0x) (hE.mv e0x)) ?_⟩⟩
    rintro e w6 ⟨rfl, e6⟩
    have e06 := gr_trans e0x e6
    replace b1 := b1.mv0 e6
    replace b2 := b2.mv0 e6
    rw [hd0]
    refine ⟨_, rfl, M.run rfl <| M.condF rfl rfl <| M.run rfl <| M.ldA rfl rfl b1.cellsAll <| M.run rfl <| M.ldA rfl rfl b2.cellsAll <| M.run rfl <| M.cl rfl (LeaveRef_go s p l A c B b U d E f w6 (hA.mv e06) (hB.mv e06) (hD.mv e06) (hE.mv e06) hf hd0 hd4) ?_⟩
    rintro e w7 ⟨O2, o2, rfl, hO2, e7⟩
    refine ⟨_, rfl, M.run rfl <| M.cl rfl (Same_go _ _ O o O2 o2 w7 (Rd.mv (hO.rd (by decide)) (gr_trans e6 e7)) hO2) ?_⟩
    rintro e w8 ⟨rfl, e8⟩
    refine ⟨_, rfl, M.at_ [74] rfl <| M.caseT 74 rfl (by simp) ?_⟩
    refine M.run rfl <| M.cl rfl (fin w8 (gr_trans (gr_trans e06 e7) e8)) ?_
    rintro e wz ⟨rfl, ez⟩
    exact ⟨_, rfl, M.run rfl <| M.retF rfl rfl ⟨rfl, ez⟩⟩
  · have hd0 : dippedE s p l ≠ 0 := by simpa using h4
    have hlR : leaveR s p l = [] := by unfold leaveR; rw [if_neg hd0]
    refine M.run rfl <| M.condF rfl rfl ?_
    refine M.run rfl <| M.run rfl <| M.drawG [] (by kernel_rfl) fun x8 xe8 => ?_
    have x0 := gr_trans e05 xe8
    refine D.run rfl <| D.ldA 0 rfl rfl rfl rfl rfl (fun w' hw => ((b1.mv0 xe8).mv0 hw).cellsAll) <| D.ldA 2 rfl rfl rfl rfl rfl (fun w' hw => ((b2.mv0 xe8).mv0 hw).cellsAll) <| D.one 1 rfl rfl <| M.cl rfl (StoreC_go s A c x8 (hA.mv x0) (by omega)) ?_
    rintro e x9 ⟨A1, a1, rfl, hA1, xe9⟩
    refine ⟨_, rfl, M.run rfl <| M.end_ ⟨.inr xe9, D.one 3 rfl rfl <| M.cl rfl (PlanC_go p B b U d x9 (hB.mv (gr_trans x0 xe9)) (hD.mv (gr_trans x0 xe9)) (by omega) (by omega)) ?_⟩⟩
    rintro e xa ⟨B1, b1', U1, u1, rfl, hB1, hU1, xea⟩
    have x7a := gr_trans (gr_trans xe8 xe9) xea
    refine ⟨_, rfl, M.run rfl <| M.end_ ⟨.inr xea, D.one 5 rfl rfl <| M.cl rfl (Dips_go l E f xa (hEr.mv x7a) (by omega)) ?_⟩⟩
    rintro e xb ⟨E1, ec2, rfl, hE1, xeb⟩
    refine ⟨_, rfl, M.run rfl <| M.end_ ⟨.inr xeb, D.one 6 rfl rfl <| M.cl rfl (Leave_go s p l A1 a1 B1 b1' U1 u1 E1 ec2 xb (hA1.mv (gr_trans xea xeb)) (hB1.mv xeb) (hU1.mv xeb) (hE1.rd (by decide))) ?_⟩⟩
    rintro e xw ⟨O, o, rfl, hO, xew⟩
    have xB := gr_trans x7a (gr_trans xeb xew)
    have e0x := gr_trans e05 xB
    replace b1 := b1.mv0 xB
    replace b2 := b2.mv0 xB
    rw [hlR]
    refine ⟨_, rfl, M.run rfl <| M.end_ ⟨.inr xew, D.run rfl <| D.done_ rfl <| M.run rfl <| M.ldA rfl rfl b1.cellsAll <| M.run rfl <| M.ldA rfl rfl b2.cellsAll <| M.run rfl <| M.cl rfl (dippedL_go s p l A c B b U d E f xw (hA.mv e0x) (hB.mv e0x) (hD.mv e0x) (hE.mv e0x)) ?_⟩⟩
    rintro e w6 ⟨rfl, e6⟩
    refine ⟨_, rfl, M.run rfl <| M.condT rfl (by simpa using hd0) <| M.at_ [56] rfl <| M.caseT 56 rfl (by simp [leaveE]) <| M.at_ [61] rfl <| M.caseT 61 rfl rfl ?_⟩
    refine M.run rfl <| M.cl rfl (fin w6 (gr_trans e0x e6)) ?_
    rintro e wz ⟨rfl, ez⟩
    exact ⟨_, rfl, M.run rfl <| M.retF rfl rfl ⟨rfl, ez⟩⟩
end Go.Proofs.Ytaimlmfncjbmjaa
end

section
/- All lists with a number for each night, in lexicographic order; the first best one. -/
set_option linter.unusedVariables false
namespace Lp
def rowN (lo : Int) (xs : List Int) (m : Nat) : List (List Int) := (List.range m).map fun (k : Nat) => xs ++ [lo + (k : Int)]
def wd (lo hi : Int) : Nat := (hi - lo + 1).toNat
def stepN (LL : List (List Int)) (lo hi : Int) (k : Nat) : List (List Int) := (LL.take k).flatMap fun xs => rowN lo xs (wd lo hi)
def stepL (LL : List (List Int)) (lo hi : Int) : List (List Int) := stepN LL lo hi LL.length
def listsN (lo hi : List Int) : Nat → List (List Int)
  | 0 => [[]]
  | i + 1 => stepL (listsN lo hi i) (at0 lo i) (at0 hi i)
theorem rowN_succ (lo : Int) (xs : List Int) (m : Nat) : rowN lo xs (m + 1) = rowN lo xs m ++ [xs ++ [lo + (m : Int)]] := by simp [rowN, List.range_succ]
theorem rowN_len (lo : Int) (xs : List Int) (m : Nat) : (rowN lo xs m).length = m := by simp [rowN]
theorem stepN_succ (LL : List (List Int)) (lo hi : Int) (k : Nat) (h : k < LL.length) : stepN LL lo hi (k + 1) = stepN LL lo hi k ++ rowN lo LL[k] (wd lo hi) := by
  unfold stepN
  rw [List.take_add_one, List.getElem?_eq_getElem h, List.flatMap_append]
  simp
theorem stepN_len (LL : List (List Int)) (lo hi : Int) : ∀ k, k ≤ LL.length → (stepN LL lo hi k).length = k * wd lo hi
  | 0, _ => by simp [stepN]
  | k + 1, h => by rw [stepN_succ _ _ _ _ (by omega), List.length_append, stepN_len LL lo hi k (by omega), rowN_len, Nat.add_mul, Nat.one_mul]
theorem listsN_len {lo hi : List Int} {n : Nat} (h : ∀ i, i < n → wd (at0 lo i) (at0 hi i) ≤ 5) : ∀ i, i ≤ n → (listsN lo hi i).length ≤ 5 ^ i
  | 0, _ => by simp [listsN]
  | i + 1, hi' => by
    have ih := listsN_len h i (by omega)
    simp only [listsN, stepL]
    rw [stepN_len _ _ _ _ (Nat.le_refl _), Nat.pow_succ]
    exact Nat.mul_le_mul ih (h i (by omega))
theorem mem_row {lo : Int} {xs ys : List Int} {m : Nat} : ys ∈ rowN lo xs m ↔ ∃ k : Nat, k < m ∧ ys = xs ++ [lo + (k : Int)] := by
  simp only [rowN, List.mem_map, List.mem_range]
  exact ⟨fun ⟨k, h1, h2⟩ => ⟨k, h1, h2.symm⟩, fun ⟨k, h1, h2⟩ => ⟨k, h1, h2.symm⟩⟩
theorem mem_lists {lo hi : List Int} : ∀ (n : Nat) (ys : List Int), ys ∈ listsN lo hi n ↔ ys.length = n ∧ ∀ i, i < n → at0 lo i ≤ at0 ys i ∧ at0 ys i ≤ at0 hi i
  | 0, ys => by
    simp only [listsN, List.mem_singleton]
    constructor
    · rintro rfl; exact ⟨rfl, fun i h => by omega⟩
    · rintro ⟨h, _⟩; exact List.eq_nil_of_length_eq_zero h
  | n + 1, ys => by
    have ih := mem_lists (lo := lo) (hi := hi) n
    have at_l : ∀ (xs : List Int) (z : Int) (i : Nat), i < xs.length → at0 (xs ++ [z]) i = at0 xs i := fun xs z i hi => by
      unfold at0; rw [List.getD_eq_getElem?_getD, List.getElem?_append_left hi, ← List.getD_eq_getElem?_getD]
    have at_e : ∀ (xs : List Int) (z : Int), at0 (xs ++ [z]) xs.length = z := fun xs z => by
      unfold at0; rw [List.getD_eq_getElem?_getD, List.getElem?_append_right (Nat.le_refl _)]; simp
    simp only [listsN, stepL, stepN, List.take_length, List.mem_flatMap]
    constructor
    · rintro ⟨xs, hx, hy⟩
      obtain ⟨k, hk, rfl⟩ := mem_row.1 hy
      obtain ⟨h1, h2⟩ := (ih xs).1 hx
      refine ⟨by simp [h1], fun i hi' => ?_⟩
      by_cases e : i = n
      · subst e
        have := at_e xs (at0 lo i + (k : Int))
        rw [h1] at this
        rw [this]
        unfold wd at hk; omega
      · rw [at_l _ _ _ (by omega)]; exact h2 i (by omega)
    · rintro ⟨h1, h2⟩
      have hne : ys ≠ [] := fun e => by subst e; simp at h1
      obtain ⟨xs, z, rfl⟩ : ∃ xs z, ys = xs ++ [z] := ⟨ys.dropLast, ys.getLast hne, (List.dropLast_concat_getLast hne).symm⟩
      have hl : xs.length = n := by simpa using h1
      have hz := h2 n (by omega)
      have := at_e xs z
      rw [hl] at this
      rw [this] at hz
      refine ⟨xs, (ih xs).2 ⟨hl, fun i hi' => ?_⟩, mem_row.2 ⟨(z - at0 lo n).toNat, by unfold wd; omega, by congr 2; omega⟩⟩
      have := h2 i (by omega)
      rwa [at_l _ _ _ (by omega)] at this
theorem lexB_snoc : ∀ {a b : List Int} (x y : Int), a.length = b.length → lexB a b = true → lexB (a ++ [x]) (b ++ [y]) = true
  | [], [], _, _, _, h => by simp [lexB] at h
  | u :: a, v :: b, x, y, hl, h => by
    simp only [lexB, List.cons_append] at *
    by_cases e : u = v
    · rw [if_pos e] at h ⊢; exact lexB_snoc x y (by simpa using hl) h
    · rw [if_neg e] at h ⊢; exact h
  | [], _ :: _, _, _, hl, _ => by simp at hl
  | _ :: _, [], _, _, hl, _ => by simp at hl
theorem lexB_last : ∀ (a : List Int) {x y : Int}, x < y → lexB (a ++ [x]) (a ++ [y]) = true
  | [], x, y, h => by simp only [List.nil_append, lexB]; rw [if_neg (by omega)]; exact decide_eq_true h
  | u :: a, x, y, h => by simp only [lexB, List.cons_append, if_pos]; exact lexB_last a h
theorem lists_sorted (lo hi : List Int) : ∀ n, (listsN lo hi n).Pairwise fun a b => lexB a b = true
  | 0 => by simp [listsN]
  | n + 1 => by
    have ih := lists_sorted lo hi n
    simp only [listsN, stepL, stepN, List.take_length]
    have hlen : ∀ xs ∈ listsN lo hi n, xs.length = n := fun xs hx => ((mem_lists n xs).1 hx).1
    generalize listsN lo hi n = LL at ih hlen
    induction LL with
    | nil => simp
    | cons xs LL ih2 =>
      rw [List.flatMap_cons, List.pairwise_append]
      rw [List.pairwise_cons] at ih
      refine ⟨?_, ih2 ih.2 (fun y hy => hlen y (by simp [hy])), fun a ha b hb => ?_⟩
      · unfold rowN
        rw [List.pairwise_map]
        refine List.Pairwise.imp ?_ (List.pairwise_lt_range (n := wd (at0 lo n) (at0 hi n)))
        intro p q hpq
        exact lexB_last xs (by omega)
      · obtain ⟨k, _, rfl⟩ := mem_row.1 ha
        obtain ⟨ys, hy, hb⟩ := List.mem_flatMap.1 hb
        obtain ⟨m, _, rfl⟩ := mem_row.1 hb
        exact lexB_snoc _ _ (by rw [hlen xs (by simp), hlen ys (by simp [hy])]) (ih.1 ys hy)
/-- the first best one of so many lists -/
def IsBest (all : List (List Int)) (cost : List Int → Int) (ok : List Int → Prop) (k : Nat) (best : List Int) : Prop :=
  (best = [] ∧ ∀ (j : Nat) (x : List Int), j < k → all[j]? = some x → ¬ ok x) ∨ (∃ j : Nat, j < k ∧ all[j]? = some best ∧ ok best ∧ ∀ (j' : Nat) (x : List Int), j' < k → all[j']? = some x → ok x → cost best ≤ cost x ∧ (cost x = cost best → j ≤ j'))
theorem IsBest.skip {all : List (List Int)} {cost : List Int → Int} {ok : List Int → Prop} {k : Nat} {best : List Int} (h : IsBest all cost ok k best) {x : List Int} (hx : all[k]? = some x) (hno : ok x → best ≠ [] ∧ cost best ≤ cost x) : IsBest all cost ok (k + 1) best := by
  rcases h with ⟨h1, h2⟩ | ⟨j, h1, h2, h3, h4⟩
  · refine .inl ⟨h1, fun j y hj hy hok => ?_⟩
    by_cases e : j = k
    · subst e; rw [hx] at hy; injection hy with hy; subst hy; exact (hno hok).1 h1
    · exact h2 j y (by omega) hy hok
  · refine .inr ⟨j, by omega, h2, h3, fun j' y hj hy hok => ?_⟩
    by_cases e : j' = k
    · subst e; rw [hx] at hy; injection hy with hy; subst hy; exact ⟨(hno hok).2, fun _ => by omega⟩
    · exact h4 j' y (by omega) hy hok
theorem IsBest.take {all : List (List Int)} {cost : List Int → Int} {ok : List Int → Prop} {k : Nat} {best : List Int} (h : IsBest all cost ok k best) {x : List Int} (hx : all[k]? = some x) (hok : ok x) (hlt : best = [] ∨ cost x < cost best) (hne : ∀ (j : Nat) (y : List Int), all[j]? = some y → y ≠ []) : IsBest all cost ok (k + 1) x := by
  refine .inr ⟨k, by omega, hx, hok, fun j' y hj hy hoky => ?_⟩
  by_cases e : j' = k
  · subst e; rw [hx] at hy; injection hy with hy; subst hy; exact ⟨Int.le_refl _, fun _ => Nat.le_refl _⟩
  · rcases h with ⟨_, h2⟩ | ⟨j, h1, h2, _, h4⟩
    · exact absurd hoky (h2 j' y (by omega) hy)
    · rcases hlt with h | h
      · exact absurd h (hne j best h2)
      · have := h4 j' y (by omega) hy hoky
        exact ⟨by omega, fun he => by omega⟩
/-- the first best one of all is the lexicographically first -/
theorem IsBest.all {lo hi : List Int} {n : Nat} {cost : List Int → Int} {ok : List Int → Prop} {best : List Int} (h : IsBest (listsN lo hi n) cost ok (listsN lo hi n).length best) :
    (best = [] ∧ ∀ x, x ∈ listsN lo hi n → ¬ ok x) ∨ (best ∈ listsN lo hi n ∧ ok best ∧ ∀ x, x ∈ listsN lo hi n → ok x → cost best ≤ cost x ∧ (cost x = cost best → lexB x best = false)) := by
  rcases h with ⟨h1, h2⟩ | ⟨j, h1, h2, h3, h4⟩
  · refine .inl ⟨h1, fun x hx => ?_⟩
    obtain ⟨j, hj⟩ := List.mem_iff_getElem?.1 hx
    exact h2 j x (List.getElem?_eq_some_iff.1 hj).1 hj
  · refine .inr ⟨List.mem_of_getElem? h2, h3, fun x hx hok => ?_⟩
    obtain ⟨j', hj'⟩ := List.mem_iff_getElem?.1 hx
    have hlt := (List.getElem?_eq_some_iff.1 hj').1
    obtain ⟨a1, a2⟩ := h4 j' x hlt hj' hok
    refine ⟨a1, fun he => ?_⟩
    have hle := a2 he
    have hself : ∀ a : List Int, lexB a a = false := fun a => by
      induction a with
      | nil => rfl
      | cons u a ih => simp only [lexB, if_pos]; exact ih
    by_cases e : j = j'
    · subst e
      rw [h2] at hj'
      injection hj' with hj'
      subst hj'
      exact hself best
    · have hs := List.pairwise_iff_getElem.1 (lists_sorted lo hi n) j j' h1 hlt (by omega)
      have e1 := (List.getElem?_eq_some_iff.1 h2).2
      have e2 := (List.getElem?_eq_some_iff.1 hj').2
      rw [e1, e2] at hs
      have anti : ∀ a b : List Int, lexB a b = true → lexB b a = false := by
        intro a
        induction a with
        | nil => intro b hb; cases b with
          | nil => rfl
          | cons => rfl
        | cons u a ih =>
          intro b hb
          cases b with
          | nil => simp [lexB] at hb
          | cons v b =>
            simp only [lexB] at *
            by_cases e : u = v
            · subst e; rw [if_pos rfl] at *; exact ih b hb
            · rw [if_neg e] at hb
              rw [if_neg (fun h => e h.symm)]
              have := of_decide_eq_true hb
              exact decide_eq_false (by omega)
      exact anti _ _ hs
end Lp
end

section
/- Walk of the reference's Lists. -/
set_option linter.unusedVariables false
namespace Go.Proofs.Ytaimlmfncjbmjaa
open Go Go.Vc Go.RowKit Lp
/-- lists of numbers, in a row -/
abbrev dL : Rp (List Int) := Rp.slice dI (by decide)
theorem rd_el {w : World} {A : Option Addr} {c : Nat} {LL : List (List Int)} (h : Rd dL w A c LL) {j : Nat} (hj : j < LL.length) :
    A = some (adOf A) ∧ ∃ B b, Rd dI w B b LL[j] ∧ ∀ w', Below w.heap.size w w' → Cells w' ((adOf A).add (j * 1)) [.slice B LL[j].length b] := by
  obtain ⟨h1, h2, cs, ⟨B, b, hcs, hk⟩, hc⟩ := h.at_ j _ (List.getElem?_eq_getElem hj)
  subst hcs
  exact ⟨h1, B, b, hk, fun w' hb => hc.move (by rw [add_block]; exact hb.block _ h2)⟩
set_option maxHeartbeats 2000000 in
theorem Lists_go (lo hi : List Int) (U : Option Addr) (d : Nat) (V : Option Addr) (v : Nat) (w : World) (hU : Rd dI w U d lo) (hV : Rd dI w V v hi) (hlen : hi.length = lo.length) (hn : lo.length ≤ 6) (hb : ∀ i, i < lo.length → 0 ≤ at0 lo i ∧ at0 lo i ≤ 4 ∧ 0 ≤ at0 hi i ∧ at0 hi i ≤ 4) :
    Calls Try.prog 83 #[.slice U lo.length d, .slice V hi.length v] w fun e w' => ∃ X x, e = .returned (.slice X (listsN lo hi lo.length).length x) ∧ Rd dL w' X x (listsN lo hi lo.length) ∧ w.grownBy w' none := by
  have hwd : ∀ i, i < lo.length → wd (at0 lo i) (at0 hi i) ≤ 5 := fun i h => by have := hb i h; unfold wd; omega
  have hsz : ∀ i, i ≤ lo.length → (listsN lo hi i).length ≤ 15625 := fun i h => by
    have h1 := listsN_len hwd i h
    have : 5 ^ i ≤ 5 ^ 6 := Nat.pow_le_pow_right (by decide) (by omega)
    exact Nat.le_trans h1 this
  refine calls (G := G) (args := [.slice U lo.length d, .slice V hi.length v]) Try.func83 rfl rfl rfl ?_
  refine M.run rfl <| M.bs rfl fun g1 w1 b1 e1 l1 => M.run rfl ?_
  have hX0 : Rd dL w1 (some ⟨g1, 0, none⟩) 1 [[]] := ⟨Nat.le_refl _, by simp [maxLen], fun j x hj => by
    have hj0 : j = 0 := by have := (List.getElem?_eq_some_iff.1 hj).1; simp at this; exact this
    subst hj0
    simp at hj
    subst hj
    exact ⟨rfl, b1.lt, [.slice none 0 0], ⟨none, 0, rfl, Sl.nil _ _ _ _ _ (by simp [maxLen])⟩, b1.cells 0 rfl ⟨[], rfl⟩⟩⟩
  refine M.loop (σ := Nat × Option Addr × Nat) (fun (i, X, x) => [(0, .slice U lo.length d), (1, .slice V hi.length v), (5, .slice X (listsN lo hi i).length x), (6, .int .i64 (i : Int))])
    (fun (i, X, x) w' => i ≤ lo.length ∧ w1.grownBy w' none ∧ Rd dL w' X x (listsN lo hi i)) (fun (i, _) => lo.length - i) (0, some ⟨g1, 0, none⟩, 1) ⟨rfl, rfl, rfl, rfl, trivial⟩ ⟨Nat.zero_le _, gr_refl _ _, hX0⟩ ?_
  rintro ⟨i, X, x⟩ w2 ⟨hi', e12, hX⟩
  have e02 := gr_trans e1 e12
  refine M.run rfl <| M.cond rfl (fun h => ?_) (fun h => ?_)
  rotate_left
  · have hin : i = lo.length := by have := of_decide_eq_false h; omega
    subst hin
    exact M.run rfl <| M.retF rfl rfl ⟨X, x, rfl, hX, e02⟩
  have hlt : i < lo.length := by have := of_decide_eq_true h; omega
  have hbi := hb i hlt
  have hsi := hsz i (by omega)
  have hwi := hwd i hlt
  obtain ⟨hU1, hUC⟩ := rd_flat hU hlt
  obtain ⟨hV1, hVC⟩ := rd_flat hV (show i < hi.length by omega)
  rw [at0_get hlt] at hUC
  rw [at0_get (show i < hi.length by omega)] at hVC
  have hst : listsN lo hi (i + 1) = stepL (listsN lo hi i) (at0 lo i) (at0 hi i) := rfl
  have hmem : ∀ k, (h : k < (listsN lo hi i).length) → (listsN lo hi i)[k].length = i := fun k h => ((mem_lists i _).1 (List.getElem_mem h)).1
  obtain ⟨LL, hLL⟩ : ∃ LL, listsN lo hi i = LL := ⟨_, rfl⟩
  have hLL5 : some (Value.slice X (listsN lo hi i).length x) = some (Value.slice X LL.length x) := by rw [hLL]
  simp only [hLL] at hX hsi hst hmem
  generalize at0 lo i = l at hUC hbi hwi hst
  generalize at0 hi i = hh at hVC hbi hwi hst
  refine M.run rfl <| M.loop (σ := Nat × Option Addr × Nat) (fun (k, Y, y) => [(0, .slice U lo.length d), (1, .slice V hi.length v), (5, .slice X LL.length x), (6, .int .i64 (i : Int)), (7, .slice Y (stepN LL l hh k).length y), (8, .int .i64 (k : Int))])
    (fun (k, Y, y) w' => k ≤ LL.length ∧ w2.grownBy w' none ∧ Vc.Own dL 27 w' w2.heap.size (fun b => w2.heap.size ≤ b ∨ b < w2.heap.size) Y y (stepN LL l hh k)) (fun (k, _) => LL.length - k) (0, none, 0) ⟨rfl, rfl, hLL5, rfl, rfl, rfl, trivial⟩ ⟨Nat.zero_le _, gr_refl _ _, Vc.Own.nil _ _ _ _ _⟩ ?_
  clear hLL5
  rintro ⟨k, Y, y⟩ w3 ⟨hk', e23, hY⟩
  have hskl := stepN_len LL l hh k hk'
  refine M.run rfl <| M.cond rfl (fun h2 => ?_) (fun h2 => ?_)
  rotate_left
  · have hin : k = LL.length := by have := of_decide_eq_false h2; omega
    subst hin
    refine M.run rfl <| M.end_ ⟨(i + 1, Y, y), ⟨rfl, rfl, ?_, nxt (by omega), trivial⟩, ⟨by omega, gr_trans e12 e23, by rw [hst]; exact hY.rd (by decide)⟩, by simp; omega⟩
    rw [hst]; rfl
  have hk : k < LL.length := by have := of_decide_eq_true h2; omega
  have hsucc := stepN_succ LL l hh k hk
  obtain ⟨hX1, P, pc, hP, hXC⟩ := rd_el hX hk
  have hskb : k * wd l hh ≤ 15625 * 5 := Nat.mul_le_mul (by omega) hwi
  have hxl := hmem k hk
  generalize LL[k] = xs at hP hXC hsucc hxl
  obtain ⟨NX, hNX⟩ : ∃ NX, stepN LL l hh k = NX := ⟨_, rfl⟩
  have hNX5 : some (Value.slice Y (stepN LL l hh k).length y) = some (Value.slice Y (NX ++ rowN l xs 0).length y) := by rw [hNX]; simp [rowN]
  rw [hNX] at hY hskl hsucc
  have e03 := gr_trans e02 e23
  refine M.run rfl <| M.ix rfl (by omega) (by omega) hU1 <| M.run rfl <| M.ld rfl ((hUC w3 (gr_below e03)).one 0 rfl rfl) <| M.run rfl ?_
  refine M.loop (σ := Nat × Option Addr × Nat) (fun (m, Y, y) => [(0, .slice U lo.length d), (1, .slice V hi.length v), (5, .slice X LL.length x), (6, .int .i64 (i : Int)), (7, .slice Y (NX ++ rowN l xs m).length y), (8, .int .i64 (k : Int)), (9, .int .i64 (l + (m : Int)))])
    (fun (m, Y, y) w' => m ≤ wd l hh ∧ w2.grownBy w' none ∧ Vc.Own dL 27 w' w2.heap.size (fun b => w2.heap.size ≤ b ∨ b < w2.heap.size) Y y (NX ++ rowN l xs m)) (fun (m, _) => wd l hh - m) (0, Y, y) ⟨rfl, rfl, rfl, rfl, hNX5, rfl, ?_, trivial⟩ ⟨Nat.zero_le _, e23, by simpa [rowN] using hY⟩ ?_
  · show some (Value.int .i64 l) = some (Value.int .i64 (l + ((0 : Nat) : Int)))
    congr 2; omega
  clear hY
  rintro ⟨m, Y, y⟩ w4 ⟨hm', e24, hY⟩
  have e04 := gr_trans e02 e24
  have hrl := rowN_len l xs m
  refine M.run rfl <| M.ix rfl (by omega) (by omega) hV1 <| M.run rfl <| M.ld rfl ((hVC w4 (gr_below e04)).one 0 rfl rfl) <| M.run rfl <| M.cond rfl (fun h3 => ?_) (fun h3 => ?_)
  rotate_left
  · have hmw : m = wd l hh := by have := of_decide_eq_false h3; unfold wd at *; omega
    subst hmw
    refine M.run rfl <| M.end_ ⟨(k + 1, Y, y), ⟨rfl, rfl, rfl, rfl, ?_, nxt (by omega), trivial⟩, ⟨by omega, e24, by rw [hsucc]; exact hY⟩, by simp; omega⟩
    rw [hsucc]; rfl
  have hmlt : m < wd l hh := by have := of_decide_eq_true h3; unfold wd; omega
  have hP4 := hP.mv e24
  have hrs := rowN_succ l xs m
  have hNl : (NX ++ rowN l xs m).length ≤ 100000 := by simp; omega
  have happ : NX ++ rowN l xs (m + 1) = (NX ++ rowN l xs m) ++ [xs ++ [l + (m : Int)]] := by rw [hrs, List.append_assoc]
  obtain ⟨NY, hNY⟩ : ∃ NY, NX ++ rowN l xs m = NY := ⟨_, rfl⟩
  have hNYl : (NX ++ rowN l xs m).length = NY.length := by rw [hNY]
  rw [hNY] at hY hNl happ
  refine M.run rfl <| M.bs0 rfl fun gi wi bi ei li => M.run rfl <| M.ix rfl (by omega) (by omega) hX1 <| M.run rfl <| M.ld rfl ((hXC wi (gr_below (gr_trans e24 ei))).one 0 rfl rfl) <| M.run rfl <|
    M.appS (d := dI) rfl rfl (own_bs0 dI no bi li) rfl (by decide) rfl (ys := xs) rfl (rd_nil (hP4.mv ei)) (rd_src rfl (hP4.mv ei)) ei.size (by simp; omega) (by decide) fun Z z wj hZ ej hatj => M.run rfl ?_
  have e4j := (own_bs0 dI no bi li).gr ei ej (Nat.le_refl _)
  rw [List.nil_append] at hZ ⊢
  refine M.bs rfl fun gk wk bk ek lk => M.run rfl <| M.app (d := dI) rfl rfl (hZ.mv0 ek) rfl (by decide) rfl (ys := [l + (m : Int)]) rfl rfl (src_one bk rfl) (gr_trans e4j ek).size (by simp; omega) (by decide) fun Q q wl hQ el hatl => M.run rfl ?_
  have e4l := (hZ.mv0 ek).gr (gr_trans e4j ek) el (Nat.le_refl _)
  have hQn : ∀ g, blkOf Q = some g → w4.heap.size ≤ g ∧ g < wl.heap.size := hQ.blkGe
  generalize (xs ++ [l + (m : Int)]) = zs at hQ happ ⊢
  refine M.bs rfl fun gn wn bn en ln => M.run rfl ?_
  have e4n := gr_trans e4l en
  have hYn := hY.mv0 e4n
  have hYb := hY.blkGe
  have hsrc : SrcAt dL wn (fun b => (w2.heap.size ≤ b ∨ b < w2.heap.size) ∧ some b ≠ blkOf Y) (adOf (some ⟨gn, 0, none⟩)) [zs] := src_one bn ⟨Q, q, rfl, ((hQ.mv0 en).sl).mono (fun b hb => ⟨by omega, fun hh => by
    rcases hb with hb | hb
    · exact hb
    · have := (hYb b hh.symm).2; omega⟩)⟩
  refine M.app (d := dL) rfl hNYl hYn rfl (by decide) rfl (ys := [zs]) rfl rfl hsrc (gr_trans e24 e4n).size (by simp; omega) (by decide) fun Y' y' wo hYo eo hato => M.run rfl ?_
  have e2o : w2.grownBy wo none := hYn.gr (gr_trans e24 e4n) eo (Nat.le_refl _)
  have hw1 : IntKind.i64.wrap (l + (m : Int) + 1) = l + ((m + 1 : Nat) : Int) := by rw [w64 (by unfold wd at hmlt; omega) (by unfold wd at hmlt; omega)]; omega
  refine M.end_ ⟨(m + 1, Y', y'), ⟨rfl, rfl, rfl, rfl, ?_, rfl, congrArg (fun z => some (Value.int .i64 z)) hw1, trivial⟩, ⟨by omega, e2o, by rw [happ]; exact hYo⟩, by simp; omega⟩
  rw [happ]; rfl
end Go.Proofs.Ytaimlmfncjbmjaa
end

section
/- Walks of the reference's Deliver, Trim. -/
set_option linter.unusedVariables false
namespace Go.Proofs.Ytaimlmfncjbmjaa
open Go Go.Vc Go.RowKit Lp
end Go.Proofs.Ytaimlmfncjbmjaa
namespace Lp
def hiN (N i : Nat) : List Int := (List.range N).map fun q => if q < i then 2 else 0
theorem hiN_len (N i : Nat) : (hiN N i).length = N := by simp [hiN]
theorem hiN_zero (N : Nat) : hiN N 0 = List.replicate N 0 := by
  unfold hiN
  apply List.ext_getElem?
  intro q
  simp only [List.getElem?_map, List.getElem?_replicate]
  by_cases h : q < N
  · rw [List.getElem?_range h, if_pos h]; simp
  · rw [if_neg h, List.getElem?_eq_none (by simp; omega)]; rfl
theorem hiN_set (N i : Nat) (h : i < N) : (hiN N i).set i 2 = hiN N (i + 1) := by
  apply List.ext_getElem?
  intro q
  rw [List.getElem?_set, hiN_len]
  by_cases hq : q < N
  · simp only [hiN, List.getElem?_map, List.getElem?_range hq, Option.map_some]
    by_cases e : i = q
    · subst e; rw [if_pos rfl, if_pos h, if_pos (by omega)]
    · rw [if_neg e]
      by_cases e2 : q < i
      · rw [if_pos e2, if_pos (by omega)]
      · rw [if_neg e2, if_neg (by omega)]
  · rw [if_neg (by omega), List.getElem?_eq_none (by rw [hiN_len]; omega), List.getElem?_eq_none (by rw [hiN_len]; omega)]
theorem hiN_at (N q : Nat) (h : q < N) : at0 (hiN N N) q = 2 := by
  rw [← at0_get (l := hiN N N) (by rw [hiN_len]; exact h)]; simp [hiN, h]
theorem rep_at (N q : Nat) : at0 (List.replicate N (0 : Int)) q = 0 := by
  unfold at0
  rw [List.getD_eq_getElem?_getD, List.getElem?_replicate]
  split <;> rfl
def leastN (s : Store) (i : Nat) : List Int := (List.range i).map fun q => (nt s q).least
def mostN (s : Store) (i : Nat) : List Int := (List.range i).map fun q => (nt s q).most
theorem leastN_succ (s : Store) (i : Nat) : leastN s (i + 1) = leastN s i ++ [(nt s i).least] := by simp [leastN, List.range_succ]
theorem mostN_succ (s : Store) (i : Nat) : mostN s (i + 1) = mostN s i ++ [(nt s i).most] := by simp [mostN, List.range_succ]
theorem leastN_len (s : Store) (i : Nat) : (leastN s i).length = i := by simp [leastN]
theorem mostN_len (s : Store) (i : Nat) : (mostN s i).length = i := by simp [mostN]
theorem leastN_at (s : Store) {i q : Nat} (h : q < i) : at0 (leastN s i) q = (nt s q).least := by
  rw [← at0_get (l := leastN s i) (by rw [leastN_len]; exact h)]; simp [leastN]
theorem mostN_at (s : Store) {i q : Nat} (h : q < i) : at0 (mostN s i) q = (nt s q).most := by
  rw [← at0_get (l := mostN s i) (by rw [mostN_len]; exact h)]; simp [mostN]
theorem lists_cans {s : Store} {xs : List Int} : xs ∈ listsN (List.replicate s.nights.length 0) (hiN s.nights.length s.nights.length) s.nights.length ↔ cansOk s xs = true := by
  rw [mem_lists]
  constructor
  · rintro ⟨h1, h2⟩
    refine cansOk_of h1 fun i hi => ?_
    have := h2 i (by omega)
    rw [rep_at, hiN_at _ _ (by omega)] at this
    exact this
  · intro h
    obtain ⟨h1, h2⟩ := cansOk_spec h
    refine ⟨h1, fun i hi => ?_⟩
    rw [rep_at, hiN_at _ _ hi]
    exact h2 i (by omega)
theorem lists_wicks {s : Store} {xs : List Int} : xs ∈ listsN (leastN s s.nights.length) (mostN s s.nights.length) s.nights.length ↔ wicksOk s xs = true := by
  rw [mem_lists]
  constructor
  · rintro ⟨h1, h2⟩
    refine wicksOk_of h1 fun i hi => ?_
    have := h2 i (by omega)
    rw [leastN_at s (by omega), mostN_at s (by omega)] at this
    exact this
  · intro h
    obtain ⟨h1, h2⟩ := wicksOk_spec h
    refine ⟨h1, fun i hi => ?_⟩
    rw [leastN_at s hi, mostN_at s hi]
    exact h2 i (by omega)
end Lp
namespace Go.Proofs.Ytaimlmfncjbmjaa
open Go Go.Vc Go.RowKit Lp
set_option maxHeartbeats 2000000 in
theorem DeliverRef_go (s : Store) (wicks : List Int) (A : Option Addr) (c : Nat) (U : Option Addr) (d : Nat) (w : World) (hA : Rd dNight w A c s.nights) (hU : Rd dI w U d wicks) (h0 : checkStore s = 0) (hw : wicksOk s wicks = true) :
    Calls Try.prog 36 #[vStore s A c, .slice U wicks.length d] w fun e w' => ∃ X x best, e = .returned (.tuple #[.slice X best.length x, .bool (decide ((best.length : Int) > 0))]) ∧ Rd dI w' X x best ∧
      IsBest (listsN (List.replicate s.nights.length 0) (hiN s.nights.length s.nights.length) s.nights.length) sumL (fun l => safe s ⟨l, wicks⟩) (listsN (List.replicate s.nights.length 0) (hiN s.nights.length s.nights.length) s.nights.length).length best ∧ w.grownBy w' none := by
  have hok := checkStore_ok h0
  have hfew := hok.few
  have hsome := hok.some_
  refine calls (G := G) (args := [vStore s A c, .slice U wicks.length d]) Try.func36 rfl rfl rfl ?_
  refine M.run rfl <| M.nw rfl fun g1 w1 b1 e1 l1 => M.run rfl <| M.drawG [] (by kernel_rfl) fun w2 e2 => ?_
  have e02 := gr_trans e1 e2
  replace b1 := b1.mv0 e2
  refine D.run rfl <| D.ld 1 rfl rfl rfl rfl (fun w' hw => (b1.mv0 hw).cell rfl rfl) <| D.ld 5 rfl rfl rfl rfl (fun w' hw => (b1.mv0 hw).cell rfl rfl) <| D.run rfl ?_
  refine D.meet (σ := Nat × Nat) 1 [8, 7, 3, 6, 2, 5, 4, 1, 0] (fun (ga, gb) => [(1, .slice U wicks.length d), (2, .pointer (some ⟨g1, 0, none⟩)), (6, .slice (some ⟨ga, 0, none⟩) s.nights.length s.nights.length), (19, .slice (some ⟨gb, 0, none⟩) s.nights.length s.nights.length)])
    (fun (ga, gb) w' => w2.grownBy w' none ∧ Blk w' ga ((List.replicate s.nights.length [Value.int .i64 0]).flatten) 3 ∧ Blk w' gb ((List.replicate s.nights.length [Value.int .i64 0]).flatten) 3 ∧ w2.heap.size ≤ ga ∧ w2.heap.size ≤ gb ∧ ga ≠ gb) (fun hcont => ?_) ?_
  · refine D.two 3 7 rfl rfl rfl ?_ ?_
    · refine M.mk_ rfl (by omega) (Int.le_refl _) (by simp; omega) (by omega) rfl fun ga wa ba ea la => M.run rfl <| M.end_ ⟨.inr ea, D.run rfl <| D.one 7 rfl rfl <| M.mk_ rfl (by omega) (Int.le_refl _) (by simp; omega) (by omega) rfl fun gb wb bb eb lb => M.run rfl <| M.end_ ⟨.inr eb, D.weak rfl ?_ (hcont (ga, gb) wb ⟨gr_trans ea eb, ba.mv0 eb, bb, la, Nat.le_trans ea.size lb, by have := ba.lt; omega⟩)⟩⟩
      exact ⟨rfl, rfl, rfl, rfl, trivial⟩
    · refine M.mk_ rfl (by omega) (Int.le_refl _) (by simp; omega) (by omega) rfl fun gb wb bb eb lb => M.run rfl <| M.end_ ⟨.inr eb, D.run rfl <| D.one 3 rfl rfl <| M.mk_ rfl (by omega) (Int.le_refl _) (by simp; omega) (by omega) rfl fun ga wa ba ea la => M.run rfl <| M.end_ ⟨.inr ea, D.at_ [6] rfl <| D.weak rfl ?_ (hcont (ga, gb) wa ⟨gr_trans eb ea, ba, bb.mv0 ea, Nat.le_trans eb.size la, lb, by have := bb.lt; omega⟩)⟩⟩
      exact ⟨rfl, rfl, rfl, rfl, trivial⟩
  rintro ⟨ga, gb⟩ w3 ⟨e23, ba, bb, la, lb, nab⟩
  have e03 := gr_trans e02 e23
  have hOa : Vc.Own dI 3 w3 w2.heap.size no (some ⟨ga, 0, none⟩) s.nights.length (List.replicate s.nights.length 0) := own_mk (α := Int) no (0 : Int) rfl ba la (by unfold maxLen; omega)
  have hOb : Vc.Own dI 3 w3 w2.heap.size no (some ⟨gb, 0, none⟩) s.nights.length (hiN s.nights.length 0) := by
    rw [hiN_zero]
    exact own_mk (α := Int) no (0 : Int) rfl bb lb (by unfold maxLen; omega)
  have hg1 := b1.lt
  replace b1 := b1.mv0 e23
  have hlN : ∀ i, some (Value.slice (some ⟨gb, 0, none⟩) s.nights.length s.nights.length) = some (Value.slice (some ⟨gb, 0, none⟩) (hiN s.nights.length i).length s.nights.length) := fun i => by rw [hiN_len]
  refine D.run rfl <| D.done_ rfl <| M.run rfl ?_
  refine M.loop (σ := Nat) (fun i => [(1, .slice U wicks.length d), (2, .pointer (some ⟨g1, 0, none⟩)), (6, .slice (some ⟨ga, 0, none⟩) s.nights.length s.nights.length), (7, .slice (some ⟨gb, 0, none⟩) s.nights.length s.nights.length), (8, .int .i64 (i : Int))])
    (fun i w' => i ≤ s.nights.length ∧ w2.grownBy w' none ∧ Vc.Own dI 3 w' w2.heap.size no (some ⟨ga, 0, none⟩) s.nights.length (List.replicate s.nights.length 0) ∧ Vc.Own dI 3 w' w2.heap.size no (some ⟨gb, 0, none⟩) s.nights.length (hiN s.nights.length i) ∧ Blk w' g1 (vStore s A c).cells.toList 26) (fun i => s.nights.length - i) 0 ⟨rfl, rfl, rfl, rfl, rfl, trivial⟩ ⟨Nat.zero_le _, e23, hOa, hOb, b1⟩ ?_
  clear hOa hOb b1 ba bb
  rintro i w4 ⟨hi, e24, hOa, hOb, b1⟩
  refine M.run rfl <| M.cond rfl (fun h => ?_) (fun h => ?_)
  · have hlt : i < s.nights.length := by have := of_decide_eq_true h; omega
    obtain ⟨gb', cur, hgb, _, bb, hlb, _, hset⟩ := own_int hOb (j := i) (by rw [hiN_len]; exact hlt)
    have hgb' : gb = gb' := by injection hgb with hgb; injection hgb
    subst hgb'
    refine M.run rfl <| M.ix rfl (by omega) (by omega) rfl <| M.run rfl <| M.store rfl (ad1 gb i) bb (Nat.ble_eq_true_of_le hlb) rfl fun w5 b5 e5 => M.run rfl ?_
    have hOb5 := hset 2 w5 b5
    rw [hiN_set _ _ hlt] at hOb5
    exact M.end_ ⟨i + 1, ⟨rfl, rfl, rfl, rfl, nxt (by omega), trivial⟩, ⟨by omega, gr_fresh e24 e5 lb, hOa.mvB (B := some ⟨gb, 0, none⟩) e5 (by rintro k ⟨⟩ ⟨⟩; exact nab rfl) (fun _ _ h => h), hOb5, b1.mv1 e5 (by omega)⟩, by omega⟩
  have hin : i = s.nights.length := by have := of_decide_eq_false h; omega
  subst hin
  have e04 := gr_trans e02 e24
  have hr1 : (List.replicate s.nights.length (0 : Int)).length = s.nights.length := by simp
  have hcall := Lists_go (List.replicate s.nights.length 0) (hiN s.nights.length s.nights.length) (some ⟨ga, 0, none⟩) s.nights.length (some ⟨gb, 0, none⟩) s.nights.length w4 (hOa.rd (by decide)) (hOb.rd (by decide)) (by rw [hr1, hiN_len]) (by rw [hr1]; exact hfew) (fun i hi => by
    rw [hr1] at hi
    rw [rep_at, hiN_at _ _ hi]
    omega)
  rw [hr1, hiN_len] at hcall
  refine M.run rfl <| M.cl rfl hcall ?_
  rintro e wq ⟨X, x0, rfl, hXr, eq⟩
  have e0Q := gr_trans e04 eq
  replace b1 := b1.mv0 eq
  refine ⟨_, rfl, M.run rfl ?_⟩
  obtain ⟨LL, hLL⟩ : ∃ LL, listsN (List.replicate s.nights.length 0) (hiN s.nights.length s.nights.length) s.nights.length = LL := ⟨_, rfl⟩
  have hX9 : some (Value.slice X (listsN (List.replicate s.nights.length 0) (hiN s.nights.length s.nights.length) s.nights.length).length x0) = some (Value.slice X LL.length x0) := by rw [hLL]
  rw [hLL] at hXr
  have hLlen : LL.length ≤ 15625 := by
    rw [← hLL]
    have h1 := listsN_len (lo := List.replicate s.nights.length 0) (hi := hiN s.nights.length s.nights.length) (n := s.nights.length) (fun i hi => by rw [rep_at, hiN_at _ _ hi]; decide) s.nights.length (Nat.le_refl _)
    have : 5 ^ s.nights.length ≤ 5 ^ 6 := Nat.pow_le_pow_right (by decide) (by omega)
    exact Nat.le_trans h1 this
  have hmem : ∀ x, x ∈ LL → cansOk s x = true := fun x hx => by rw [← hLL] at hx; exact lists_cans.1 hx
  have hnonempty : ∀ (j : Nat) (y : List Int), LL[j]? = some y → y ≠ [] := fun j y hy hz => by
    have := (cansOk_spec (hmem y (List.mem_of_getElem? hy))).1
    rw [hz] at this
    simp at this
    omega
  refine M.loop (σ := Nat × List Int × Option Addr × Nat) (fun (k, best, Y, y) => [(1, .slice U wicks.length d), (2, .pointer (some ⟨g1, 0, none⟩)), (9, .slice X LL.length x0), (10, .slice Y best.length y), (11, .int .i64 (k : Int))])
    (fun (k, best, Y, y) w' => k ≤ LL.length ∧ wq.grownBy w' none ∧ Rd dI w' Y y best ∧ IsBest LL sumL (fun l => safe s ⟨l, wicks⟩) k best) (fun (k, _) => LL.length - k) (0, [], none, 0) ⟨rfl, rfl, hX9, rfl, rfl, trivial⟩ ⟨Nat.zero_le _, gr_refl _ _, rd_empty dI wq, .inl ⟨rfl, fun j x h => by omega⟩⟩ ?_
  clear hX9
  rintro ⟨k, best, Y, y⟩ wr ⟨hk', e0k, hY, hbest⟩
  have e0r := gr_trans e0Q e0k
  refine M.run rfl <| M.cond rfl (fun h => ?_) (fun h => ?_)
  rotate_left
  · have hin : k = LL.length := by have := of_decide_eq_false h; omega
    subst hin
    exact M.run rfl <| M.retF rfl rfl ⟨Y, y, best, rfl, hY, by rw [hLL]; exact hbest, e0r⟩
  have hk : k < LL.length := by have := of_decide_eq_true h; omega
  obtain ⟨hX1, P, pc, hP, hXC⟩ := rd_el hXr hk
  have hxk : LL[k]? = some LL[k] := List.getElem?_eq_getElem hk
  have hcx := hmem _ (List.getElem_mem hk)
  generalize LL[k] = x at hP hXC hxk hcx
  have hfx := check_fine (check_of (p := ⟨x, wicks⟩) h0 hcx hw)
  have hxl := (cansOk_spec hcx).1
  have hbl := hY.bd
  have c1 := b1.mv0 e0k
  refine M.run rfl <| M.drawG [] (by kernel_rfl) fun ws es => ?_
  have e0q : w.grownBy wr none := e0r
  refine D.at_ [41] rfl <| D.case 41 rfl (fun k1 => ?_) (fun k1 => ?_)
  · have hlt : best = [] ∨ sumL x < sumL best := .inl (List.eq_nil_of_length_eq_zero (by have h9 : (best.length : Int) = 0 := (by simpa using k1); omega))
    refine D.run rfl <| D.ldA 14 rfl rfl rfl rfl rfl (fun w' hw => ((c1.mv0 es).mv0 hw).cellsAll) <| D.run rfl <| D.ys 17 rfl rfl rfl (YS.ix rfl (by omega) (by omega) hX1) <| D.ld 18 rfl rfl rfl rfl (fun w' hw => (hXC w' (gr_below (gr_trans e0k (gr_trans es hw)))).one 0 rfl rfl) <| D.run rfl <| D.one 21 rfl rfl <| M.cl rfl (DarkRef_go s ⟨x, wicks⟩ A c P pc U d ws (hA.mv (gr_trans e0q es)) (hP.mv (gr_trans e0k es)) (hU.mv (gr_trans e0q es)) hfx) ?_
    rintro e wz ⟨K, k', rfl, hK, ez⟩
    have ekz := gr_trans es ez
    refine ⟨_, rfl, M.run rfl <| M.end_ ⟨.inr ez, D.run rfl <| D.done_ rfl <| M.run rfl <| M.cond rfl (fun k2 => ?_) (fun k2 => ?_)⟩⟩
    · have hsafe : safe s ⟨x, wicks⟩ := by
        have : ((darkL s ⟨x, wicks⟩ s.nights.length).length : Int) = 0 := by simpa using k2
        exact List.eq_nil_of_length_eq_zero (by omega)
      refine M.run rfl <| M.ix rfl (by omega) (by omega) hX1 <| M.run rfl <| M.ld rfl ((hXC wz (gr_below (gr_trans e0k ekz))).one 0 rfl rfl) <| M.run rfl <| M.end_ ⟨(k + 1, x, P, pc), ⟨rfl, rfl, rfl, rfl, nxt (by omega), trivial⟩, ⟨by omega, gr_trans e0k ekz, hP.mv (gr_trans e0k ekz), hbest.take hxk hsafe hlt hnonempty⟩, by simp; omega⟩
    · have hns : ¬ safe s ⟨x, wicks⟩ := fun hs => by
        have hz : darkL s ⟨x, wicks⟩ s.nights.length = [] := hs
        rw [hz] at k2
        simp at k2
      exact M.run rfl <| M.end_ ⟨(k + 1, best, Y, y), ⟨rfl, rfl, rfl, rfl, nxt (by omega), trivial⟩, ⟨by omega, gr_trans e0k ekz, hY.mv ekz, hbest.skip hxk fun hs => absurd hs hns⟩, by simp; omega⟩
  · have hne : best ≠ [] := fun hz => by subst hz; simp at k1
    have hbm : best ∈ LL := by
      rcases hbest with ⟨h1, _⟩ | ⟨j, _, h2, _⟩
      · exact absurd h1 hne
      · exact List.mem_of_getElem? h2
    have hbo := hmem best hbm
    have hbL := (cansOk_spec hbo).1
    refine D.run rfl <| D.ys 6 rfl rfl rfl (YS.ix rfl (by omega) (by omega) hX1) <| D.ld 7 rfl rfl rfl rfl (fun w' hw => (hXC w' (gr_below (gr_trans e0k (gr_trans es hw)))).one 0 rfl rfl) <| D.run rfl <| D.one 8 rfl rfl <| M.cl rfl (Sum_go x P pc ws (hP.mv (gr_trans e0k es)) (small_cans hcx) (by omega)) ?_
    rintro e wt ⟨rfl, et⟩
    have est := gr_trans es et
    refine ⟨_, rfl, M.run rfl <| M.end_ ⟨.inr et, D.run rfl <| D.one 10 rfl rfl <| M.cl rfl (Sum_go best Y y wt (hY.mv est) (small_cans hbo) (by omega)) ?_⟩⟩
    rintro e wu ⟨rfl, eu⟩
    have esu := gr_trans est eu
    refine ⟨_, rfl, M.run rfl <| M.end_ ⟨.inr eu, D.at_ [51] rfl <| D.case 51 rfl (fun k3 => ?_) (fun k3 => ?_)⟩⟩
    · have hlt : best = [] ∨ sumL x < sumL best := .inr (of_decide_eq_true k3)
      refine D.run rfl <| D.ldA 14 rfl rfl rfl rfl rfl (fun w' hw => ((c1.mv0 esu).mv0 hw).cellsAll) <| D.run rfl <| D.ys 17 rfl rfl rfl (YS.ix rfl (by omega) (by omega) hX1) <| D.ld 18 rfl rfl rfl rfl (fun w' hw => (hXC w' (gr_below (gr_trans e0k (gr_trans esu hw)))).one 0 rfl rfl) <| D.run rfl <| D.one 21 rfl rfl <| M.cl rfl (DarkRef_go s ⟨x, wicks⟩ A c P pc U d wu (hA.mv (gr_trans e0q esu)) (hP.mv (gr_trans e0k esu)) (hU.mv (gr_trans e0q esu)) hfx) ?_
      rintro e wz ⟨K, k', rfl, hK, ez⟩
      have ekz := gr_trans esu ez
      refine ⟨_, rfl, M.run rfl <| M.end_ ⟨.inr ez, D.run rfl <| D.done_ rfl <| M.run rfl <| M.cond rfl (fun k2 => ?_) (fun k2 => ?_)⟩⟩
      · have hsafe : safe s ⟨x, wicks⟩ := by
          have : ((darkL s ⟨x, wicks⟩ s.nights.length).length : Int) = 0 := by simpa using k2
          exact List.eq_nil_of_length_eq_zero (by omega)
        refine M.run rfl <| M.ix rfl (by omega) (by omega) hX1 <| M.run rfl <| M.ld rfl ((hXC wz (gr_below (gr_trans e0k ekz))).one 0 rfl rfl) <| M.run rfl <| M.end_ ⟨(k + 1, x, P, pc), ⟨rfl, rfl, rfl, rfl, nxt (by omega), trivial⟩, ⟨by omega, gr_trans e0k ekz, hP.mv (gr_trans e0k ekz), hbest.take hxk hsafe hlt hnonempty⟩, by simp; omega⟩
      · have hns : ¬ safe s ⟨x, wicks⟩ := fun hs => by
          have hz : darkL s ⟨x, wicks⟩ s.nights.length = [] := hs
          rw [hz] at k2
          simp at k2
        exact M.run rfl <| M.end_ ⟨(k + 1, best, Y, y), ⟨rfl, rfl, rfl, rfl, nxt (by omega), trivial⟩, ⟨by omega, gr_trans e0k ekz, hY.mv ekz, hbest.skip hxk fun hs => absurd hs hns⟩, by simp; omega⟩
    · refine D.run rfl <| D.done_ rfl <| M.run rfl <| M.condF rfl rfl <| M.run rfl <| M.end_ ⟨(k + 1, best, Y, y), ⟨rfl, rfl, rfl, rfl, nxt (by omega), trivial⟩, ⟨by omega, gr_trans e0k esu, hY.mv esu, hbest.skip hxk fun _ => ⟨hne, by have := of_decide_eq_false k3; omega⟩⟩, by simp; omega⟩

set_option maxHeartbeats 2000000 in
theorem TrimRef_go (s : Store) (cans : List Int) (A : Option Addr) (c : Nat) (U : Option Addr) (d : Nat) (w : World) (hA : Rd dNight w A c s.nights) (hU : Rd dI w U d cans) (h0 : checkStore s = 0) (hw : cansOk s cans = true) :
    Calls Try.prog 40 #[vStore s A c, .slice U cans.length d] w fun e w' => ∃ X x best, e = .returned (.tuple #[.slice X best.length x, .bool (decide ((best.length : Int) > 0))]) ∧ Rd dI w' X x best ∧
      IsBest (listsN (leastN s s.nights.length) (mostN s s.nights.length) s.nights.length) (fun l => -lightL s l) (fun l => safe s ⟨cans, l⟩) (listsN (leastN s s.nights.length) (mostN s s.nights.length) s.nights.length).length best ∧ w.grownBy w' none := by
  have hok := checkStore_ok h0
  have hfew := hok.few
  have hsome := hok.some_
  refine calls (G := G) (args := [vStore s A c, .slice U cans.length d]) Try.func40 rfl rfl rfl ?_
  refine M.run rfl <| M.nw rfl fun g1 w1 b1 e1 l1 => M.run rfl ?_
  refine M.loop (σ := Nat × (Option Addr × Nat) × (Option Addr × Nat)) (fun (i, (X, x), (Y, y)) => [(1, .slice U cans.length d), (2, .pointer (some ⟨g1, 0, none⟩)), (6, .slice X (leastN s i).length x), (7, .slice Y (mostN s i).length y), (8, .int .i64 (i : Int))])
    (fun (i, (X, x), (Y, y)) w' => i ≤ s.nights.length ∧ w1.grownBy w' none ∧ Vc.Own dI 3 w' w1.heap.size no X x (leastN s i) ∧ Vc.Own dI 3 w' w1.heap.size no Y y (mostN s i) ∧ Ne2 X Y) (fun (i, _) => s.nights.length - i) (0, (none, 0), (none, 0)) ⟨rfl, rfl, rfl, rfl, rfl, trivial⟩ ⟨Nat.zero_le _, gr_refl _ _, Vc.Own.nil _ _ _ _ _, Vc.Own.nil _ _ _ _ _, Ne2.nil _⟩ ?_
  rintro ⟨i, ⟨X, x⟩, ⟨Y, y⟩⟩ w2 ⟨hi, e12, hX, hY, hXY⟩
  have e02 := gr_trans e1 e12
  have c1 := b1.mv0 e12
  have hl1 := leastN_len s i
  have hl2 := mostN_len s i
  refine M.run rfl <| M.ld rfl (c1.cell rfl rfl) <| M.run rfl <| M.cond rfl (fun h => ?_) (fun h => ?_)
  · have hlt : i < s.nights.length := by have := of_decide_eq_true h; omega
    obtain ⟨hA1, hAC⟩ := rd_flat hA hlt
    rw [nt_get hlt] at hAC
    have hs1 := leastN_succ s i
    have hs2 := mostN_succ s i
    have hXg := hX.blkGe
    have hYg := hY.blkGe
    refine M.run rfl <| M.draw (Keep w1.heap.size) (fun _ _ => True) [] [] [] (fun _ _ _ h => h) (fun w => Keep.refl _ w) (fun a b c h k => h.trans k) (fun _ _ _ => trivial) (fun _ _ _ _ _ => trivial) (by kernel_rfl) ?_
    have ed := gr_drewN w2 1
    have c1d := c1.mv0 ed
    have hcell : ∀ w', Keep w1.heap.size (w2.drewN 1) w' → Blk w' g1 (vStore s A c).cells.toList 26 := fun w' hw => hw.blk c1d b1.lt
    have hAk : ∀ w', Keep w1.heap.size (w2.drewN 1) w' → Cells w' ((adOf A).add (i * 5)) (encNight (nt s i)) := fun w' hw => by
      have h2 := hAC (w2.drewN 1) (gr_below (gr_trans e02 ed))
      have hblk : ((adOf A).add (i * 5)).block < w.heap.size := by
        have := (hAC w (gr_below (gr_refl w none))).lt (by simp [encNight])
        exact this
      refine h2.move (hw.2 _ (Nat.lt_of_lt_of_le hblk e1.size) (Nat.lt_of_lt_of_le hblk (gr_trans e02 ed).size))
    refine D.run rfl <| D.ld 2 rfl rfl rfl rfl (fun w' hw => (hcell w' hw).cell rfl rfl) <| D.ld 11 rfl rfl rfl rfl (fun w' hw => (hcell w' hw).cell rfl rfl) <| D.run rfl <| D.ys 4 rfl rfl rfl (YS.ix rfl (by omega) (by omega) hA1) <| D.ys 13 rfl rfl rfl (YS.ix rfl (by omega) (by omega) hA1) <| D.run rfl <|
      D.ld 6 rfl rfl rfl rfl (fun w' hw => (hAk w' hw).one 1 rfl rfl) <| D.ld 15 rfl rfl rfl rfl (fun w' hw => (hAk w' hw).one 2 rfl rfl) ?_
    refine D.meet (σ := (Option Addr × Nat) × Nat) 3 [16, 8, 7, 15, 6, 14, 5, 13, 4, 11, 2, 12, 10, 9, 3, 1, 0] (fun ((X', x'), gk) => [(1, .slice U cans.length d), (2, .pointer (some ⟨g1, 0, none⟩)), (8, .int .i64 (i : Int)), (28, .slice Y (mostN s i).length y), (27, .slice X' (leastN s (i + 1)).length x'), (35, .slice (some ⟨gk, 0, none⟩) 1 1)])
      (fun ((X', x'), gk) w' => w1.grownBy w' none ∧ Vc.Own dI 3 w' w1.heap.size no X' x' (leastN s (i + 1)) ∧ Vc.Own dI 3 w' w1.heap.size no Y y (mostN s i) ∧ Ne2 X' Y ∧ Blk w' gk [.int .i64 (nt s i).most] 3) (fun hcont => ?_) ?_
    · refine D.two 7 16 rfl rfl rfl ?_ ?_
      · refine M.bs rfl fun gi wi bi ei li => M.run rfl <| M.end_ ⟨.inr (Keep.of0 ei), D.two 8 16 rfl rfl rfl ?_ ?_⟩
        · have e1i := gr_trans (gr_trans e12 ed) ei
          refine M.app (d := dI) rfl rfl ((hX.mv0 ed).mv0 ei) rfl (by decide) rfl (ys := [(nt s i).least]) rfl rfl (src_one bi rfl) e1i.size (by simp [hl1]; omega) (by decide) fun X' x' wj hX' ej hat => M.run rfl <| M.end_ ⟨.inr (Keep.of ej (fun g hg => (hXg g hg).1)), ?_⟩
          have e1j := ((hX.mv0 ed).mv0 ei).gr e1i ej (Nat.le_refl _)
          have hYi := (hY.mv0 ed).mv0 ei
          have hYj := hYi.mvN ej hXY.symm
          have hXY' : Ne2 X' Y := hXY.app hat hYi
          refine D.one 16 rfl rfl <| M.bs rfl fun gk wk bk ek lk => M.run rfl <| M.end_ ⟨.inr (Keep.of0 ek), D.weak rfl ?_ (hcont ((X', x'), gk) wk ⟨gr_trans e1j ek, by rw [hs1]; exact hX'.mv0 ek, hYj.mv0 ek, hXY', bk⟩)⟩
          exact ⟨rfl, rfl, rfl, rfl, by rw [hs1]; rfl, rfl, trivial⟩
        · refine M.bs rfl fun gk wk bk ek lk => M.run rfl <| M.end_ ⟨.inr (Keep.of0 ek), ?_⟩
          have e1k := gr_trans (gr_trans (gr_trans e12 ed) ei) ek
          have hXk := ((hX.mv0 ed).mv0 ei).mv0 ek
          refine D.one 8 rfl rfl <| M.app (d := dI) rfl rfl hXk rfl (by decide) rfl (ys := [(nt s i).least]) rfl rfl (src_one (bi.mv0 ek) rfl) e1k.size (by simp [hl1]; omega) (by decide) fun X' x' wj hX' ej hat => M.run rfl <| M.end_ ⟨.inr (Keep.of ej (fun g hg => (hXg g hg).1)), ?_⟩
          have e1j := hXk.gr e1k ej (Nat.le_refl _)
          have hYk := ((hY.mv0 ed).mv0 ei).mv0 ek
          refine D.weak rfl ?_ (hcont ((X', x'), gk) wj ⟨e1j, by rw [hs1]; exact hX', hYk.mvN ej hXY.symm, hXY.app hat hYk, bk.mv ej (fun hh => by have := (hXg gk hh).2; have := (gr_trans ed ei).size; omega)⟩)
          exact ⟨rfl, rfl, rfl, rfl, by rw [hs1]; rfl, rfl, trivial⟩
      · refine M.bs rfl fun gk wk bk ek lk => M.run rfl <| M.end_ ⟨.inr (Keep.of0 ek), D.one 7 rfl rfl <| M.bs rfl fun gi wi bi ei li => M.run rfl <| M.end_ ⟨.inr (Keep.of0 ei), ?_⟩⟩
        have e1i := gr_trans (gr_trans (gr_trans e12 ed) ek) ei
        have hXi := ((hX.mv0 ed).mv0 ek).mv0 ei
        refine D.one 8 rfl rfl <| M.app (d := dI) rfl rfl hXi rfl (by decide) rfl (ys := [(nt s i).least]) rfl rfl (src_one bi rfl) e1i.size (by simp [hl1]; omega) (by decide) fun X' x' wj hX' ej hat => M.run rfl <| M.end_ ⟨.inr (Keep.of ej (fun g hg => (hXg g hg).1)), ?_⟩
        have e1j := hXi.gr e1i ej (Nat.le_refl _)
        have hYi := ((hY.mv0 ed).mv0 ek).mv0 ei
        refine D.weak rfl ?_ (hcont ((X', x'), gk) wj ⟨e1j, by rw [hs1]; exact hX', hYi.mvN ej hXY.symm, hXY.app hat hYi, (bk.mv0 ei).mv ej (fun hh => by have := (hXg gk hh).2; have := ed.size; omega)⟩)
        exact ⟨rfl, rfl, rfl, rfl, by rw [hs1]; rfl, rfl, trivial⟩
    rintro ⟨⟨X', x'⟩, gk⟩ w3 ⟨e13, hX', hY', hXY', bk⟩
    refine D.one 17 rfl rfl <| M.app (d := dI) rfl rfl hY' rfl (by decide) rfl (ys := [(nt s i).most]) rfl rfl (src_one bk rfl) e13.size (by simp [hl2]; omega) (by decide) fun Y' y' wj hY'' ej hat => M.run rfl <| M.end_ ⟨.inr (Keep.of ej (fun g hg => (hYg g hg).1)), ?_⟩
    have e1j := hY'.gr e13 ej (Nat.le_refl _)
    refine D.run rfl <| D.done_ rfl <| M.run rfl <| M.end_ ⟨(i + 1, (X', x'), (Y', y')), ⟨rfl, rfl, rfl, ?_, nxt (by omega), trivial⟩, ⟨by omega, e1j, hX'.mvN ej hXY', by rw [hs2]; exact hY'', (hXY'.symm.app hat hX').symm⟩, by simp; omega⟩
    rw [hs2]; rfl
  have hin : i = s.nights.length := by have := of_decide_eq_false h; omega
  subst hin
  have hcall := Lists_go (leastN s s.nights.length) (mostN s s.nights.length) X x Y y w2 (hX.rd (by decide)) (hY.rd (by decide)) (by rw [hl1, hl2]) (by rw [hl1]; exact hfew) (fun i hi => by
    rw [hl1] at hi
    have := hok.nt hi
    rw [leastN_at s hi, mostN_at s hi]
    omega)
  rw [hl1] at hcall
  refine M.run rfl ?_
  rw [hl1]
  refine M.cl rfl hcall ?_
  rintro e wq ⟨X, x0, rfl, hXr, eq⟩
  have e0Q := gr_trans e02 eq
  replace b1 := c1.mv0 eq
  refine ⟨_, rfl, M.run rfl ?_⟩
  obtain ⟨LL, hLL⟩ : ∃ LL, listsN (leastN s s.nights.length) (mostN s s.nights.length) s.nights.length = LL := ⟨_, rfl⟩
  have hX9 : some (Value.slice X (listsN (leastN s s.nights.length) (mostN s s.nights.length) s.nights.length).length x0) = some (Value.slice X LL.length x0) := by rw [hLL]
  rw [hLL] at hXr
  have hLlen : LL.length ≤ 15625 := by
    rw [← hLL]
    have h1 := listsN_len (lo := leastN s s.nights.length) (hi := mostN s s.nights.length) (n := s.nights.length) (fun i hi => by have := hok.nt hi; rw [leastN_at s hi, mostN_at s hi]; unfold wd; omega) s.nights.length (Nat.le_refl _)
    have : 5 ^ s.nights.length ≤ 5 ^ 6 := Nat.pow_le_pow_right (by decide) (by omega)
    exact Nat.le_trans h1 this
  have hmem : ∀ x, x ∈ LL → wicksOk s x = true := fun x hx => by rw [← hLL] at hx; exact lists_wicks.1 hx
  have hnonempty : ∀ (j : Nat) (y : List Int), LL[j]? = some y → y ≠ [] := fun j y hy hz => by
    have := (wicksOk_spec (hmem y (List.mem_of_getElem? hy))).1
    rw [hz] at this
    simp at this
    omega
  refine M.loop (σ := Nat × List Int × Option Addr × Nat) (fun (k, best, Y, y) => [(1, .slice U cans.length d), (2, .pointer (some ⟨g1, 0, none⟩)), (9, .slice X LL.length x0), (10, .slice Y best.length y), (11, .int .i64 (k : Int))])
    (fun (k, best, Y, y) w' => k ≤ LL.length ∧ wq.grownBy w' none ∧ Rd dI w' Y y best ∧ IsBest LL (fun l => -lightL s l) (fun l => safe s ⟨cans, l⟩) k best) (fun (k, _) => LL.length - k) (0, [], none, 0) ⟨rfl, rfl, hX9, rfl, rfl, trivial⟩ ⟨Nat.zero_le _, gr_refl _ _, rd_empty dI wq, .inl ⟨rfl, fun j x h => by omega⟩⟩ ?_
  clear hX9
  rintro ⟨k, best, Y, y⟩ wr ⟨hk', e0k, hY, hbest⟩
  have e0r := gr_trans e0Q e0k
  refine M.run rfl <| M.cond rfl (fun h => ?_) (fun h => ?_)
  rotate_left
  · have hin : k = LL.length := by have := of_decide_eq_false h; omega
    subst hin
    exact M.run rfl <| M.retF rfl rfl ⟨Y, y, best, rfl, hY, by rw [hLL]; exact hbest, e0r⟩
  have hk : k < LL.length := by have := of_decide_eq_true h; omega
  obtain ⟨hX1, P, pc, hP, hXC⟩ := rd_el hXr hk
  have hxk : LL[k]? = some LL[k] := List.getElem?_eq_getElem hk
  have hcx := hmem _ (List.getElem_mem hk)
  generalize LL[k] = x at hP hXC hxk hcx
  have hfx := check_fine (check_of (p := ⟨cans, x⟩) h0 hw hcx)
  have hxl := (wicksOk_spec hcx).1
  have hbl := hY.bd
  have c1 := b1.mv0 e0k
  refine M.run rfl <| M.drawG [] (by kernel_rfl) fun ws es => ?_
  have e0q : w.grownBy wr none := e0r
  refine D.at_ [49] rfl <| D.case 49 rfl (fun k1 => ?_) (fun k1 => ?_)
  · have hlt : best = [] ∨ (fun l => -lightL s l) x < (fun l => -lightL s l) best := .inl (List.eq_nil_of_length_eq_zero (by have h9 : (best.length : Int) = 0 := (by simpa using k1); omega))
    refine D.run rfl <| D.ldA 16 rfl rfl rfl rfl rfl (fun w' hw => ((c1.mv0 es).mv0 hw).cellsAll) <| D.run rfl <| D.ys 20 rfl rfl rfl (YS.ix rfl (by omega) (by omega) hX1) <| D.ld 21 rfl rfl rfl rfl (fun w' hw => (hXC w' (gr_below (gr_trans e0k (gr_trans es hw)))).one 0 rfl rfl) <| D.run rfl <| D.one 23 rfl rfl <| M.cl rfl (DarkRef_go s ⟨cans, x⟩ A c U d P pc ws (hA.mv (gr_trans e0q es)) (hU.mv (gr_trans e0q es)) (hP.mv (gr_trans e0k es)) hfx) ?_
    rintro e wz ⟨K, k', rfl, hK, ez⟩
    have ekz := gr_trans es ez
    refine ⟨_, rfl, M.run rfl <| M.end_ ⟨.inr ez, D.run rfl <| D.done_ rfl <| M.run rfl <| M.cond rfl (fun k2 => ?_) (fun k2 => ?_)⟩⟩
    · have hsafe : safe s ⟨cans, x⟩ := by
        have : ((darkL s ⟨cans, x⟩ s.nights.length).length : Int) = 0 := by simpa using k2
        exact List.eq_nil_of_length_eq_zero (by omega)
      refine M.run rfl <| M.ix rfl (by omega) (by omega) hX1 <| M.run rfl <| M.ld rfl ((hXC wz (gr_below (gr_trans e0k ekz))).one 0 rfl rfl) <| M.run rfl <| M.end_ ⟨(k + 1, x, P, pc), ⟨rfl, rfl, rfl, rfl, nxt (by omega), trivial⟩, ⟨by omega, gr_trans e0k ekz, hP.mv (gr_trans e0k ekz), hbest.take hxk hsafe hlt hnonempty⟩, by simp; omega⟩
    · have hns : ¬ safe s ⟨cans, x⟩ := fun hs => by
        have hz : darkL s ⟨cans, x⟩ s.nights.length = [] := hs
        rw [hz] at k2
        simp at k2
      exact M.run rfl <| M.end_ ⟨(k + 1, best, Y, y), ⟨rfl, rfl, rfl, rfl, nxt (by omega), trivial⟩, ⟨by omega, gr_trans e0k ekz, hY.mv ekz, hbest.skip hxk fun hs => absurd hs hns⟩, by simp; omega⟩
  · have hne : best ≠ [] := fun hz => by subst hz; simp at k1
    have hbm : best ∈ LL := by
      rcases hbest with ⟨h1, _⟩ | ⟨j, _, h2, _⟩
      · exact absurd h1 hne
      · exact List.mem_of_getElem? h2
    have hbo := hmem best hbm
    have hbL := (wicksOk_spec hbo).1
    refine D.run rfl <| D.ldA 4 rfl rfl rfl rfl rfl (fun w' hw => ((c1.mv0 es).mv0 hw).cellsAll) <| D.ldA 10 rfl rfl rfl rfl rfl (fun w' hw => ((c1.mv0 es).mv0 hw).cellsAll) <| D.run rfl <| D.ys 7 rfl rfl rfl (YS.ix rfl (by omega) (by omega) hX1) <| D.ld 8 rfl rfl rfl rfl (fun w' hw => (hXC w' (gr_below (gr_trans e0k (gr_trans es hw)))).one 0 rfl rfl) <| D.run rfl <| D.one 9 rfl rfl <| M.cl rfl (Light_go s x A c P pc ws (hA.mv (gr_trans e0q es)) (hP.mv (gr_trans e0k es)) hok hcx) ?_
    rintro e wt ⟨rfl, et⟩
    have est := gr_trans es et
    refine ⟨_, rfl, M.run rfl <| M.end_ ⟨.inr et, D.run rfl <| D.one 12 rfl rfl <| M.cl rfl (Light_go s best A c Y y wt (hA.mv (gr_trans e0q est)) (hY.mv est) hok hbo) ?_⟩⟩
    rintro e wu ⟨rfl, eu⟩
    have esu := gr_trans est eu
    refine ⟨_, rfl, M.run rfl <| M.end_ ⟨.inr eu, D.at_ [61] rfl <| D.case 61 rfl (fun k3 => ?_) (fun k3 => ?_)⟩⟩
    · have hlt : best = [] ∨ (fun l => -lightL s l) x < (fun l => -lightL s l) best := .inr (by have h9 := of_decide_eq_true k3; (try simp only); omega)
      refine D.run rfl <| D.ldA 16 rfl rfl rfl rfl rfl (fun w' hw => ((c1.mv0 esu).mv0 hw).cellsAll) <| D.run rfl <| D.ys 20 rfl rfl rfl (YS.ix rfl (by omega) (by omega) hX1) <| D.ld 21 rfl rfl rfl rfl (fun w' hw => (hXC w' (gr_below (gr_trans e0k (gr_trans esu hw)))).one 0 rfl rfl) <| D.run rfl <| D.one 23 rfl rfl <| M.cl rfl (DarkRef_go s ⟨cans, x⟩ A c U d P pc wu (hA.mv (gr_trans e0q esu)) (hU.mv (gr_trans e0q esu)) (hP.mv (gr_trans e0k esu)) hfx) ?_
      rintro e wz ⟨K, k', rfl, hK, ez⟩
      have ekz := gr_trans esu ez
      refine ⟨_, rfl, M.run rfl <| M.end_ ⟨.inr ez, D.run rfl <| D.done_ rfl <| M.run rfl <| M.cond rfl (fun k2 => ?_) (fun k2 => ?_)⟩⟩
      · have hsafe : safe s ⟨cans, x⟩ := by
          have : ((darkL s ⟨cans, x⟩ s.nights.length).length : Int) = 0 := by simpa using k2
          exact List.eq_nil_of_length_eq_zero (by omega)
        refine M.run rfl <| M.ix rfl (by omega) (by omega) hX1 <| M.run rfl <| M.ld rfl ((hXC wz (gr_below (gr_trans e0k ekz))).one 0 rfl rfl) <| M.run rfl <| M.end_ ⟨(k + 1, x, P, pc), ⟨rfl, rfl, rfl, rfl, nxt (by omega), trivial⟩, ⟨by omega, gr_trans e0k ekz, hP.mv (gr_trans e0k ekz), hbest.take hxk hsafe hlt hnonempty⟩, by simp; omega⟩
      · have hns : ¬ safe s ⟨cans, x⟩ := fun hs => by
          have hz : darkL s ⟨cans, x⟩ s.nights.length = [] := hs
          rw [hz] at k2
          simp at k2
        exact M.run rfl <| M.end_ ⟨(k + 1, best, Y, y), ⟨rfl, rfl, rfl, rfl, nxt (by omega), trivial⟩, ⟨by omega, gr_trans e0k ekz, hY.mv ekz, hbest.skip hxk fun hs => absurd hs hns⟩, by simp; omega⟩
    · refine D.run rfl <| D.done_ rfl <| M.run rfl <| M.condF rfl rfl <| M.run rfl <| M.end_ ⟨(k + 1, best, Y, y), ⟨rfl, rfl, rfl, rfl, nxt (by omega), trivial⟩, ⟨by omega, gr_trans e0k esu, hY.mv esu, hbest.skip hxk fun _ => ⟨hne, by have h9 := of_decide_eq_false k3; (try simp only); omega⟩⟩, by simp; omega⟩
end Go.Proofs.Ytaimlmfncjbmjaa
end

section
/- Walks of the laws LampDelivers, LampTrims. -/
set_option linter.unusedVariables false
namespace Go.Proofs.Ytaimlmfncjbmjaa
open Go Go.Vc Go.RowKit Lp
theorem deliver_eq {s : Store} {wicks best : List Int} (h0 : checkStore s = 0) (hw : wicksOk s wicks = true) (h : IsBest (listsN (List.replicate s.nights.length 0) (hiN s.nights.length s.nights.length) s.nights.length) sumL (fun l => safe s ⟨l, wicks⟩) (listsN (List.replicate s.nights.length 0) (hiN s.nights.length s.nights.length) s.nights.length).length best) :
    (deliverE s wicks = 0 ∧ best = deliverR s wicks ∧ best ≠ [] ∧ cansOk s best = true ∧ deliverC s wicks = sumL best) ∨ (deliverE s wicks = 10 ∧ best = [] ∧ deliverR s wicks = [] ∧ deliverC s wicks = 0) := by
  rcases deliver_best h0 hw with ⟨hE, _, _, hco, hsafe, hcost, hbest⟩ | ⟨hE, hR, hC, hno⟩
  · left
    rw [costD] at hcost
    simp only [costD] at hbest
    rcases h.all with ⟨h1, h2⟩ | ⟨h1, h2, h3⟩
    · exact absurd hsafe (h2 _ (lists_cans.2 hco))
    · have hb := lists_cans.1 h1
      obtain ⟨a1, a2⟩ := hbest best hb h2
      obtain ⟨c1, c2⟩ := h3 _ (lists_cans.2 hco) hsafe
      have hl1 := (cansOk_spec hb).1
      have hl2 := (cansOk_spec hco).1
      have heq : best = deliverR s wicks := lexB_tot' _ _ (by omega) (a2 (by omega)) (c2 (by omega))
      refine ⟨hE, heq, fun hz => ?_, hb, by rw [heq, hcost]⟩
      have := (checkStore_ok h0).some_
      rw [hz] at hl1
      simp at hl1
      omega
  · right
    refine ⟨hE, ?_, hR, hC⟩
    rcases h.all with ⟨h1, _⟩ | ⟨h1, h2, _⟩
    · exact h1
    · exact absurd h2 (hno _ (lists_cans.1 h1))
theorem trim_eq {s : Store} {cans best : List Int} (h0 : checkStore s = 0) (hc : cansOk s cans = true) (h : IsBest (listsN (leastN s s.nights.length) (mostN s s.nights.length) s.nights.length) (fun l => -lightL s l) (fun l => safe s ⟨cans, l⟩) (listsN (leastN s s.nights.length) (mostN s s.nights.length) s.nights.length).length best) :
    (trimE s cans = 0 ∧ best = trimR s cans ∧ best ≠ [] ∧ wicksOk s best = true ∧ trimC s cans = lightL s best) ∨ (trimE s cans = 10 ∧ best = [] ∧ trimR s cans = [] ∧ trimC s cans = 0) := by
  rcases trim_best h0 hc with ⟨hE, hwo, hsafe, hcost, hbest⟩ | ⟨hE, hR, hC, hno⟩
  · left
    have hl2 := (wicksOk_spec hwo).1
    rw [costT _ _ _ hl2] at hcost
    rcases h.all with ⟨h1, h2⟩ | ⟨h1, h2, h3⟩
    · exact absurd hsafe (h2 _ (lists_wicks.2 hwo))
    · have hb := lists_wicks.1 h1
      have hl1 := (wicksOk_spec hb).1
      obtain ⟨a1, a2⟩ := hbest best hb h2
      rw [costT _ _ _ hl1] at a1 a2
      obtain ⟨c1, c2⟩ := h3 _ (lists_wicks.2 hwo) hsafe
      (try simp only at c1 c2)
      have heq : best = trimR s cans := lexB_tot' _ _ (by omega) (a2 (by omega)) (c2 (by omega))
      refine ⟨hE, heq, fun hz => ?_, hb, by rw [heq]; omega⟩
      have := (checkStore_ok h0).some_
      rw [hz] at hl1
      simp at hl1
      omega
  · right
    refine ⟨hE, ?_, hR, hC⟩
    rcases h.all with ⟨h1, _⟩ | ⟨h1, h2, _⟩
    · exact h1
    · exact absurd h2 (hno _ (lists_wicks.1 h1))
set_option maxHeartbeats 2000000 in
set_option maxRecDepth 100000 in
theorem LampDelivers_go (s : Store) (wicks : List Int) (A : Option Addr) (c : Nat) (U : Option Addr) (d : Nat) (w : World) (hA : Rd dNight w A c s.nights) (hU : Rd dI w U d wicks) :
    Calls Try.prog 5 #[vStore s A c, .slice U wicks.length d] w fun e w' => e = .returned (.bool true) ∧ w.grownBy w' none := by
  refine calls (G := G) (args := [vStore s A c, .slice U wicks.length d]) Try.func5 rfl rfl rfl ?_
  have fin : ∀ (wk : World), w.grownBy wk none → Calls Try.prog 17 #[] wk fun e w' => e = .returned (.bool true) ∧ w.grownBy w' none := fun wk hk => (awake_go wk).mono fun e w' ⟨h1, h2⟩ => ⟨h1, gr_trans hk h2⟩
  refine M.run rfl <| M.nw rfl fun g1 w1 b1 e1 l1 => M.run rfl <| M.ldA rfl rfl b1.cellsAll <| M.run rfl <| M.cl rfl (Thin_go s ⟨[], wicks⟩ A c none 0 U d w1) ?_
  rintro e w2 ⟨rfl, e2⟩
  have e02 := gr_trans e1 e2
  replace b1 := b1.mv0 e2
  refine ⟨_, rfl, M.at_ [16] rfl <| M.case 16 rfl (fun h1 => ?_) (fun h1 => ?_)⟩
  · refine M.run rfl <| M.condT rfl rfl ?_
    refine M.run rfl <| M.cl rfl (fin w2 e02) ?_
    rintro e wz ⟨rfl, ez⟩
    exact ⟨_, rfl, M.run rfl <| M.retF rfl rfl ⟨rfl, ez⟩⟩
  have hthin : thin s ⟨[], wicks⟩ = true := by simpa using h1
  unfold thin at hthin
  simp only [Bool.and_eq_true, decide_eq_true_eq] at hthin
  obtain ⟨hn9, hc9, hw9⟩ := hthin
  refine M.run rfl <| M.ldA rfl rfl b1.cellsAll <| M.run rfl <| M.cl rfl (few_go s A c 200 w2 (hA.mv e02)) ?_
  rintro e w3 ⟨rfl, e3⟩
  have e03 := gr_trans e02 e3
  replace b1 := b1.mv0 e3
  refine ⟨_, rfl, M.at_ [21] rfl <| M.case 21 rfl (fun h2 => ?_) (fun h2 => ?_)⟩
  · refine M.run rfl <| M.condT rfl rfl ?_
    refine M.run rfl <| M.cl rfl (fin w3 e03) ?_
    rintro e wz ⟨rfl, ez⟩
    exact ⟨_, rfl, M.run rfl <| M.retF rfl rfl ⟨rfl, ez⟩⟩
  refine M.run rfl <| M.ldA rfl rfl b1.cellsAll <| M.run rfl <| M.cl rfl (faultF_go s A c w3 (hA.mv e03)) ?_
  rintro e w4 ⟨rfl, e4⟩
  have e04 := gr_trans e03 e4
  replace b1 := b1.mv0 e4
  refine ⟨_, rfl, M.at_ [25] rfl <| M.case 25 rfl (fun h3 => ?_) (fun h3 => ?_)⟩
  · have h0 : checkStore s = 0 := by simpa using h3
    refine M.run rfl <| M.ld rfl (b1.cell rfl rfl) <| M.run rfl <| M.cond rfl (fun h4 => ?_) (fun h4 => ?_)
    · skip
      refine M.run rfl <| M.cl rfl (fin w4 e04) ?_
      rintro e wz ⟨rfl, ez⟩
      exact ⟨_, rfl, M.run rfl <| M.retF rfl rfl ⟨rfl, ez⟩⟩
    refine M.run rfl <| M.ldA rfl rfl b1.cellsAll <| M.run rfl <| M.cl rfl (StoreC_go s A c w4 (hA.mv e04) (by omega)) ?_
    rintro e w5 ⟨A1, a1, rfl, hA1, e5⟩
    refine ⟨_, rfl, M.run rfl <| M.cl rfl (list_go wicks U d w5 (hU.mv (gr_trans e04 e5)) (by omega)) ?_⟩
    rintro e w6 ⟨U1, u1, rfl, hU1, e6⟩
    refine ⟨_, rfl, M.run rfl <| M.cl rfl (Deliver_go s wicks A1 a1 U1 u1 w6 (hA1.mv e6) (hU1.rd (by decide))) ?_⟩
    rintro e w7 ⟨X, x, rfl, hX, e7⟩
    have e47 := gr_trans (gr_trans e5 e6) e7
    have e07 := gr_trans e04 e47
    replace b1 := b1.mv0 e47
    have hXr : Rd dI w7 X x (deliverR s wicks) := hX.rd (by decide)
    refine ⟨_, rfl, M.run rfl <| M.ldA rfl rfl b1.cellsAll <| M.run rfl <| M.cl rfl (faultF_go s A c w7 (hA.mv e07)) ?_⟩
    rintro e w8 ⟨rfl, e8⟩
    have e08 := gr_trans e07 e8
    replace b1 := b1.mv0 e8
    replace hXr := hXr.mv e8
    rw [h0]
    refine ⟨_, rfl, M.run rfl <| M.ldA rfl rfl b1.cellsAll <| M.run rfl <| M.cl rfl (IsWicks_go s wicks A c U d w8 (hA.mv e08) (hU.mv e08)) ?_⟩
    rintro e w9 ⟨rfl, e9⟩
    have e09 := gr_trans e08 e9
    replace b1 := b1.mv0 e9
    replace hXr := hXr.mv e9
    refine ⟨_, rfl, M.run rfl <| M.cond rfl (fun h5 => ?_) (fun h5 => ?_)⟩
    · have hno : wicksOk s wicks = false := by simpa using h5
      have f1 : deliverE s wicks = 2 := by simp [deliverE, h0, hno]
      have f2 : deliverR s wicks = [] := by simp [deliverR, f1]
      have f3 : deliverC s wicks = 0 := by simp [deliverC, f1]
      rw [f2] at hXr
      rw [f1, f2, f3]
      refine M.run rfl <| M.condF rfl rfl ?_
      refine M.at_ [65] rfl <| M.caseT 65 rfl (by simp) <| M.run rfl <| M.cl rfl (Same_go [] [] X x none 0 w9 hXr (rd_empty dI w9)) ?_
      rintro e wx ⟨rfl, ex⟩
      refine ⟨_, rfl, M.at_ [70] rfl <| M.caseT 70 rfl (by simp) <| M.run rfl <| M.cl rfl (Sum_go [] none 0 wx ((rd_empty dI w9).mv ex) (by simp) (by simp)) ?_⟩
      rintro e wy ⟨rfl, ey⟩
      refine ⟨_, rfl, M.at_ [76] rfl <| M.caseT 76 rfl (by simp [sumL, sumN]) ?_⟩
      refine M.run rfl <| M.cl rfl (fin wy (gr_trans (gr_trans e09 ex) ey)) ?_
      rintro e wz ⟨rfl, ez⟩
      exact ⟨_, rfl, M.run rfl <| M.retF rfl rfl ⟨rfl, ez⟩⟩
    have hyes : wicksOk s wicks = true := by simpa using h5
    refine M.run rfl <| M.condT rfl rfl <| M.run rfl <| M.ldA rfl rfl b1.cellsAll <| M.run rfl <| M.cl rfl (DeliverRef_go s wicks A c U d w9 (hA.mv e09) (hU.mv e09) h0 hyes) ?_
    rintro e wa ⟨Y, y, best, rfl, hY, hbest, ea⟩
    have e0a := gr_trans e09 ea
    replace b1 := b1.mv0 ea
    replace hXr := hXr.mv ea
    rcases deliver_eq h0 hyes hbest with ⟨f1, f2, f3, f4, f5⟩ | ⟨f1, f2, f3, f4⟩
    · have hpos : 0 < best.length := List.length_pos_iff.2 f3
      rw [← f2] at hXr
      rw [f1, ← f2, f5]
      refine ⟨_, rfl, M.run rfl <| M.condF rfl (by rw [decide_eq_true (by omega)]; rfl) ?_⟩
      refine M.at_ [65] rfl <| M.caseT 65 rfl (by simp) <| M.run rfl <| M.cl rfl (Same_go best best X x Y y wa hXr hY) ?_
      rintro e wx ⟨rfl, ex⟩
      refine ⟨_, rfl, M.at_ [70] rfl <| M.caseT 70 rfl (by simp) <| M.run rfl <| M.cl rfl (Sum_go best Y y wx (hY.mv ex) (small_cans f4) (by have := (cansOk_spec f4).1; omega)) ?_⟩
      rintro e wy ⟨rfl, ey⟩
      refine ⟨_, rfl, M.at_ [76] rfl <| M.caseT 76 rfl (by simp) ?_⟩
      refine M.run rfl <| M.cl rfl (fin wy (gr_trans (gr_trans e0a ex) ey)) ?_
      rintro e wz ⟨rfl, ez⟩
      exact ⟨_, rfl, M.run rfl <| M.retF rfl rfl ⟨rfl, ez⟩⟩
    · subst f2
      rw [f3] at hXr
      rw [f1, f3, f4]
      refine ⟨_, rfl, M.run rfl <| M.condT rfl rfl ?_⟩
      refine M.at_ [65] rfl <| M.caseT 65 rfl (by simp) <| M.run rfl <| M.cl rfl (Same_go [] [] X x Y y wa hXr hY) ?_
      rintro e wx ⟨rfl, ex⟩
      refine ⟨_, rfl, M.at_ [70] rfl <| M.caseT 70 rfl (by simp) <| M.run rfl <| M.cl rfl (Sum_go [] Y y wx (hY.mv ex) (by simp) (by simp)) ?_⟩
      rintro e wy ⟨rfl, ey⟩
      refine ⟨_, rfl, M.at_ [76] rfl <| M.caseT 76 rfl (by simp [sumL, sumN]) ?_⟩
      refine M.run rfl <| M.cl rfl (fin wy (gr_trans (gr_trans e0a ex) ey)) ?_
      rintro e wz ⟨rfl, ez⟩
      exact ⟨_, rfl, M.run rfl <| M.retF rfl rfl ⟨rfl, ez⟩⟩
  · have h0 : checkStore s ≠ 0 := by simpa using h3
    have f1 : deliverE s wicks = checkStore s := by simp [deliverE, h0]
    have f2 : deliverR s wicks = [] := by simp [deliverR, f1, h0]
    have f3 : deliverC s wicks = 0 := by simp [deliverC, f1, h0]
    refine M.run rfl <| M.condF rfl rfl ?_
    refine M.run rfl <| M.ldA rfl rfl b1.cellsAll <| M.run rfl <| M.cl rfl (StoreC_go s A c w4 (hA.mv e04) (by omega)) ?_
    rintro e w5 ⟨A1, a1, rfl, hA1, e5⟩
    refine ⟨_, rfl, M.run rfl <| M.cl rfl (list_go wicks U d w5 (hU.mv (gr_trans e04 e5)) (by omega)) ?_⟩
    rintro e w6 ⟨U1, u1, rfl, hU1, e6⟩
    refine ⟨_, rfl, M.run rfl <| M.cl rfl (Deliver_go s wicks A1 a1 U1 u1 w6 (hA1.mv e6) (hU1.rd (by decide))) ?_⟩
    rintro e w7 ⟨X, x, rfl, hX, e7⟩
    have e47 := gr_trans (gr_trans e5 e6) e7
    have e07 := gr_trans e04 e47
    replace b1 := b1.mv0 e47
    have hXr : Rd dI w7 X x (deliverR s wicks) := hX.rd (by decide)
    refine ⟨_, rfl, M.run rfl <| M.ldA rfl rfl b1.cellsAll <| M.run rfl <| M.cl rfl (faultF_go s A c w7 (hA.mv e07)) ?_⟩
    rintro e w8 ⟨rfl, e8⟩
    have e08 := gr_trans e07 e8
    replace b1 := b1.mv0 e8
    replace hXr := hXr.mv e8
    rw [f2] at hXr
    rw [f1, f2, f3]
    refine ⟨_, rfl, M.at_ [46] rfl <| M.caseF 46 rfl (by simpa using h0) <| M.run rfl <| M.condF rfl rfl <| M.run rfl <| M.condF rfl (by simpa using h0) ?_⟩
    refine M.at_ [65] rfl <| M.caseT 65 rfl (by simp) <| M.run rfl <| M.cl rfl (Same_go [] [] X x none 0 w8 hXr (rd_empty dI w8)) ?_
    rintro e wx ⟨rfl, ex⟩
    refine ⟨_, rfl, M.at_ [70] rfl <| M.caseT 70 rfl (by simp) <| M.run rfl <| M.cl rfl (Sum_go [] none 0 wx ((rd_empty dI w8).mv ex) (by simp) (by simp)) ?_⟩
    rintro e wy ⟨rfl, ey⟩
    refine ⟨_, rfl, M.at_ [76] rfl <| M.caseT 76 rfl (by simp [sumL, sumN]) ?_⟩
    refine M.run rfl <| M.cl rfl (fin wy (gr_trans (gr_trans e08 ex) ey)) ?_
    rintro e wz ⟨rfl, ez⟩
    exact ⟨_, rfl, M.run rfl <| M.retF rfl rfl ⟨rfl, ez⟩⟩

set_option maxHeartbeats 2000000 in
set_option maxRecDepth 100000 in
theorem LampTrims_go (s : Store) (cans : List Int) (A : Option Addr) (c : Nat) (U : Option Addr) (d : Nat) (w : World) (hA : Rd dNight w A c s.nights) (hU : Rd dI w U d cans) :
    Calls Try.prog 6 #[vStore s A c, .slice U cans.length d] w fun e w' => e = .returned (.bool true) ∧ w.grownBy w' none := by
  refine calls (G := G) (args := [vStore s A c, .slice U cans.length d]) Try.func6 rfl rfl rfl ?_
  have fin : ∀ (wk : World), w.grownBy wk none → Calls Try.prog 17 #[] wk fun e w' => e = .returned (.bool true) ∧ w.grownBy w' none := fun wk hk => (awake_go wk).mono fun e w' ⟨h1, h2⟩ => ⟨h1, gr_trans hk h2⟩
  refine M.run rfl <| M.nw rfl fun g1 w1 b1 e1 l1 => M.run rfl <| M.ldA rfl rfl b1.cellsAll <| M.run rfl <| M.cl rfl (Thin_go s ⟨cans, []⟩ A c U d none 0 w1) ?_
  rintro e w2 ⟨rfl, e2⟩
  have e02 := gr_trans e1 e2
  replace b1 := b1.mv0 e2
  refine ⟨_, rfl, M.at_ [16] rfl <| M.case 16 rfl (fun h1 => ?_) (fun h1 => ?_)⟩
  · refine M.run rfl <| M.condT rfl rfl ?_
    refine M.run rfl <| M.cl rfl (fin w2 e02) ?_
    rintro e wz ⟨rfl, ez⟩
    exact ⟨_, rfl, M.run rfl <| M.retF rfl rfl ⟨rfl, ez⟩⟩
  have hthin : thin s ⟨cans, []⟩ = true := by simpa using h1
  unfold thin at hthin
  simp only [Bool.and_eq_true, decide_eq_true_eq] at hthin
  obtain ⟨hn9, hc9, hw9⟩ := hthin
  refine M.run rfl <| M.ldA rfl rfl b1.cellsAll <| M.run rfl <| M.cl rfl (few_go s A c 200 w2 (hA.mv e02)) ?_
  rintro e w3 ⟨rfl, e3⟩
  have e03 := gr_trans e02 e3
  replace b1 := b1.mv0 e3
  refine ⟨_, rfl, M.at_ [21] rfl <| M.case 21 rfl (fun h2 => ?_) (fun h2 => ?_)⟩
  · refine M.run rfl <| M.condT rfl rfl ?_
    refine M.run rfl <| M.cl rfl (fin w3 e03) ?_
    rintro e wz ⟨rfl, ez⟩
    exact ⟨_, rfl, M.run rfl <| M.retF rfl rfl ⟨rfl, ez⟩⟩
  refine M.run rfl <| M.ldA rfl rfl b1.cellsAll <| M.run rfl <| M.cl rfl (faultF_go s A c w3 (hA.mv e03)) ?_
  rintro e w4 ⟨rfl, e4⟩
  have e04 := gr_trans e03 e4
  replace b1 := b1.mv0 e4
  refine ⟨_, rfl, M.at_ [25] rfl <| M.case 25 rfl (fun h3 => ?_) (fun h3 => ?_)⟩
  · have h0 : checkStore s = 0 := by simpa using h3
    refine M.run rfl <| M.ld rfl (b1.cell rfl rfl) <| M.run rfl <| M.cond rfl (fun h4 => ?_) (fun h4 => ?_)
    · skip
      refine M.run rfl <| M.cl rfl (fin w4 e04) ?_
      rintro e wz ⟨rfl, ez⟩
      exact ⟨_, rfl, M.run rfl <| M.retF rfl rfl ⟨rfl, ez⟩⟩
    refine M.run rfl <| M.ldA rfl rfl b1.cellsAll <| M.run rfl <| M.cl rfl (StoreC_go s A c w4 (hA.mv e04) (by omega)) ?_
    rintro e w5 ⟨A1, a1, rfl, hA1, e5⟩
    refine ⟨_, rfl, M.run rfl <| M.cl rfl (list_go cans U d w5 (hU.mv (gr_trans e04 e5)) (by omega)) ?_⟩
    rintro e w6 ⟨U1, u1, rfl, hU1, e6⟩
    refine ⟨_, rfl, M.run rfl <| M.cl rfl (Trim_go s cans A1 a1 U1 u1 w6 (hA1.mv e6) (hU1.rd (by decide))) ?_⟩
    rintro e w7 ⟨X, x, rfl, hX, e7⟩
    have e47 := gr_trans (gr_trans e5 e6) e7
    have e07 := gr_trans e04 e47
    replace b1 := b1.mv0 e47
    have hXr : Rd dI w7 X x (trimR s cans) := hX.rd (by decide)
    refine ⟨_, rfl, M.run rfl <| M.ldA rfl rfl b1.cellsAll <| M.run rfl <| M.cl rfl (faultF_go s A c w7 (hA.mv e07)) ?_⟩
    rintro e w8 ⟨rfl, e8⟩
    have e08 := gr_trans e07 e8
    replace b1 := b1.mv0 e8
    replace hXr := hXr.mv e8
    rw [h0]
    refine ⟨_, rfl, M.run rfl <| M.ldA rfl rfl b1.cellsAll <| M.run rfl <| M.cl rfl (IsCans_go s cans A c U d w8 (hU.mv e08)) ?_⟩
    rintro e w9 ⟨rfl, e9⟩
    have e09 := gr_trans e08 e9
    replace b1 := b1.mv0 e9
    replace hXr := hXr.mv e9
    refine ⟨_, rfl, M.run rfl <| M.cond rfl (fun h5 => ?_) (fun h5 => ?_)⟩
    · have hno : cansOk s cans = false := by simpa using h5
      have f1 : trimE s cans = 2 := by simp [trimE, h0, hno]
      have f2 : trimR s cans = [] := by simp [trimR, f1]
      have f3 : trimC s cans = 0 := by simp [trimC, f1]
      rw [f2] at hXr
      rw [f1, f2, f3]
      refine M.run rfl <| M.condT rfl rfl ?_
      refine M.run rfl <| M.cl rfl (fin w9 e09) ?_
      rintro e wz ⟨rfl, ez⟩
      exact ⟨_, rfl, M.run rfl <| M.retF rfl rfl ⟨rfl, ez⟩⟩
    have hyes : cansOk s cans = true := by simpa using h5
    refine M.run rfl <| M.condF rfl rfl <| M.run rfl <| M.ldA rfl rfl b1.cellsAll <| M.run rfl <| M.cl rfl (TrimRef_go s cans A c U d w9 (hA.mv e09) (hU.mv e09) h0 hyes) ?_
    rintro e wa ⟨Y, y, best, rfl, hY, hbest, ea⟩
    have e0a := gr_trans e09 ea
    replace b1 := b1.mv0 ea
    replace hXr := hXr.mv ea
    rcases trim_eq h0 hyes hbest with ⟨f1, f2, f3, f4, f5⟩ | ⟨f1, f2, f3, f4⟩
    · have hpos : 0 < best.length := List.length_pos_iff.2 f3
      rw [← f2] at hXr
      rw [f1, ← f2, f5]
      refine ⟨_, rfl, M.run rfl <| M.condF rfl (by rw [decide_eq_true (by omega)]; rfl) <| M.run rfl <| M.cl rfl (Same_go best best X x Y y wa hXr hY) ?_⟩
      rintro e wx ⟨rfl, ex⟩
      refine ⟨_, rfl, M.at_ [98] rfl <| M.caseT 98 rfl (by simp) <| M.run rfl <| M.ldA rfl rfl (b1.mv0 ex).cellsAll <| M.run rfl <| M.cl rfl (Light_go s best A c Y y wx (hA.mv (gr_trans e0a ex)) (hY.mv ex) (checkStore_ok h0) f4) ?_⟩
      rintro e wy ⟨rfl, ey⟩
      refine ⟨_, rfl, M.at_ [105] rfl <| M.caseT 105 rfl (by simp) ?_⟩
      refine M.run rfl <| M.cl rfl (fin wy (gr_trans (gr_trans e0a ex) ey)) ?_
      rintro e wz ⟨rfl, ez⟩
      exact ⟨_, rfl, M.run rfl <| M.retF rfl rfl ⟨rfl, ez⟩⟩
    · subst f2
      rw [f3] at hXr
      rw [f1, f3, f4]
      refine ⟨_, rfl, M.run rfl <| M.condT rfl rfl ?_⟩
      refine M.run rfl <| M.cl rfl (fin wa e0a) ?_
      rintro e wz ⟨rfl, ez⟩
      exact ⟨_, rfl, M.run rfl <| M.retF rfl rfl ⟨rfl, ez⟩⟩
  · have h0 : checkStore s ≠ 0 := by simpa using h3
    have f1 : trimE s cans = checkStore s := by simp [trimE, h0]
    have f2 : trimR s cans = [] := by simp [trimR, f1, h0]
    have f3 : trimC s cans = 0 := by simp [trimC, f1, h0]
    refine M.run rfl <| M.condF rfl rfl ?_
    refine M.run rfl <| M.ldA rfl rfl b1.cellsAll <| M.run rfl <| M.cl rfl (StoreC_go s A c w4 (hA.mv e04) (by omega)) ?_
    rintro e w5 ⟨A1, a1, rfl, hA1, e5⟩
    refine ⟨_, rfl, M.run rfl <| M.cl rfl (list_go cans U d w5 (hU.mv (gr_trans e04 e5)) (by omega)) ?_⟩
    rintro e w6 ⟨U1, u1, rfl, hU1, e6⟩
    refine ⟨_, rfl, M.run rfl <| M.cl rfl (Trim_go s cans A1 a1 U1 u1 w6 (hA1.mv e6) (hU1.rd (by decide))) ?_⟩
    rintro e w7 ⟨X, x, rfl, hX, e7⟩
    have e47 := gr_trans (gr_trans e5 e6) e7
    have e07 := gr_trans e04 e47
    replace b1 := b1.mv0 e47
    have hXr : Rd dI w7 X x (trimR s cans) := hX.rd (by decide)
    refine ⟨_, rfl, M.run rfl <| M.ldA rfl rfl b1.cellsAll <| M.run rfl <| M.cl rfl (faultF_go s A c w7 (hA.mv e07)) ?_⟩
    rintro e w8 ⟨rfl, e8⟩
    have e08 := gr_trans e07 e8
    replace b1 := b1.mv0 e8
    replace hXr := hXr.mv e8
    rw [f2] at hXr
    rw [f1, f2, f3]
    refine ⟨_, rfl, M.at_ [46] rfl <| M.caseF 46 rfl (by simpa using h0) <| M.run rfl <| M.condF rfl rfl <| M.run rfl <| M.condT rfl (by simpa using h0) <| M.at_ [57] rfl <| M.caseT 57 rfl (by simp) ?_⟩
    refine M.run rfl <| M.cl rfl (fin w8 e08) ?_
    rintro e wz ⟨rfl, ez⟩
    exact ⟨_, rfl, M.run rfl <| M.retF rfl rfl ⟨rfl, ez⟩⟩

end Go.Proofs.Ytaimlmfncjbmjaa
end

section
/- All walks of the lamp's laws (an index, for the merge). -/
end
