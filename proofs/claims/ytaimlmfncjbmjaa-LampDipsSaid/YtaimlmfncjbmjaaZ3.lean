/- The row, its walks and what they need (merged from several texts: YtaimlmfncjbmjaaLX, YtaimlmfncjbmjaaBase). -/
import Derived.Test.YtaimlmfncjbmjaaZ2
import Derived.Test.YtaimlmfncjbmjaaZ0
import Derived.Test.YtaimlmfncjbmjaaZ1
set_option linter.unusedVariables false
set_option linter.unusedSimpArgs false
section
/- Walks: some, and the law LampLeft. -/
set_option linter.unusedVariables false
namespace Go.Proofs.Ytaimlmfncjbmjaa
open Go Go.Vc Go.RowKit Lp
end Go.Proofs.Ytaimlmfncjbmjaa
namespace Lp
open Go
/-- the bit is 0 -/
def bitZ (b : Int) (i : Nat) : Bool := (b.fdiv (2 ^ min ((i : Int).toNat) IntKind.i64.bits)).tmod 2 == 0
theorem bitZ_nat (S i : Nat) (hi : i ≤ 64) : bitZ (S : Int) i = !S.testBit i := by
  unfold bitZ
  have h1 : min ((i : Int).toNat) IntKind.i64.bits = i := by rw [Int.toNat_natCast]; exact Nat.min_eq_left hi
  rw [h1, Int.fdiv_eq_ediv_of_nonneg _ (Int.pow_nonneg (by decide))]
  have h2 : (S : Int) / 2 ^ i = ((S / 2 ^ i : Nat) : Int) := by rw [Int.natCast_ediv]; simp
  rw [h2, Nat.testBit_eq_decide_div_mod_eq]
  generalize S / 2 ^ i = q
  have h3 : ((q : Nat) : Int).tmod 2 = ((q % 2 : Nat) : Int) := rfl
  rw [h3]
  by_cases h : q % 2 = 1
  · rw [h]; rfl
  · have : q % 2 = 0 := by omega
    rw [this]; rfl
theorem or_nat {S k : Nat} (hS : S < 64) (hk : k < 6) : IntKind.i64.wrap (BitVec.ofInt IntKind.i64.bits (S : Int) ||| BitVec.ofInt IntKind.i64.bits (IntKind.i64.wrap (1 * 2 ^ min ((k : Int).toNat) IntKind.i64.bits))).toNat = ((S ||| 2 ^ k : Nat) : Int) := by
  have hp : 2 ^ k < 64 := by
    have : 2 ^ k < 2 ^ 6 := Nat.pow_lt_pow_right (by decide) hk
    exact this
  have h1 : min ((k : Int).toNat) IntKind.i64.bits = k := by rw [Int.toNat_natCast]; exact Nat.min_eq_left (by show k ≤ 64; omega)
  have h2 : (1 : Int) * 2 ^ k = ((2 ^ k : Nat) : Int) := by rw [Int.one_mul, Int.natCast_pow]; rfl
  have h3 : ∀ x : Nat, x < 64 → (BitVec.ofInt IntKind.i64.bits (x : Int)).toNat = x := fun x hx => by
    rw [BitVec.ofInt_natCast, BitVec.toNat_ofNat]
    exact Nat.mod_eq_of_lt (Nat.lt_trans hx (by decide))
  have h4 : ∀ x : Nat, x < 64 → IntKind.i64.wrap (x : Int) = x := fun x hx => w64 (by omega) (by omega)
  rw [h1, h2, h4 _ hp, BitVec.toNat_or, h3 _ hS, h3 _ hp]
  exact h4 _ (Nat.or_lt_two_pow (n := 6) hS hp)
def someIn (l : List Dip) (b : Int) (m : Nat) : List Dip := ((l.take m).zipIdx.filter fun x => bitZ b x.2).map (·.1)
def someOut (b : Int) (m : Nat) : List Int := ((List.range m).filter fun i => !bitZ b i).map Int.ofNat
theorem someIn_succ (l : List Dip) (b : Int) (m : Nat) (h : m < l.length) : someIn l b (m + 1) = if bitZ b m then someIn l b m ++ [l[m]] else someIn l b m := by
  unfold someIn
  have hz : (l.take (m + 1)).zipIdx = (l.take m).zipIdx ++ [(l[m], m)] := by
    rw [List.take_add_one, List.getElem?_eq_getElem h, List.zipIdx_append]
    simp [Nat.min_eq_left (Nat.le_of_lt h)]
  rw [hz, List.filter_append, List.map_append]
  cases hc : bitZ b m <;> simp [hc]
theorem someOut_succ (b : Int) (m : Nat) : someOut b (m + 1) = if bitZ b m then someOut b m else someOut b m ++ [(m : Int)] := by
  unfold someOut
  rw [List.range_succ, List.filter_append, List.map_append]
  cases hc : bitZ b m <;> simp [hc]
theorem someIn_len (l : List Dip) (b : Int) (m : Nat) : (someIn l b m).length ≤ m := by
  unfold someIn
  rw [List.length_map]
  exact Nat.le_trans (List.length_filter_le _ _) (by simp; omega)
theorem someOut_len (b : Int) (m : Nat) : (someOut b m).length ≤ m := by
  unfold someOut
  rw [List.length_map]
  exact Nat.le_trans (List.length_filter_le _ _) (by simp)
theorem someOut_inc (b : Int) : ∀ m, Inc m 0 (someOut b m)
  | 0 => trivial
  | m + 1 => by
    rw [someOut_succ]
    have ih := someOut_inc b m
    split
    · exact ih.weak (by omega)
    · exact Inc.snoc (by omega) (Nat.zero_le _) ih
theorem someOut_mem (b : Int) (m k : Nat) : (k : Int) ∈ someOut b m ↔ k < m ∧ bitZ b k = false := by
  simp only [someOut, List.mem_map, List.mem_filter, List.mem_range, Bool.not_eq_true']
  constructor
  · rintro ⟨a, h, e⟩
    have : a = k := by have : (a : Int) = (k : Int) := e; omega
    subst this; exact h
  · intro h; exact ⟨k, h, rfl⟩
theorem someIn_kept {l : List Dip} {b : Int} {out : List Int} (h : ∀ k, k < l.length → bitZ b k = !out.contains (k : Int)) : someIn l b l.length = kept l out := by
  unfold someIn kept keptN
  congr 1
  apply List.filter_congr
  rintro ⟨x, k⟩ hx
  rw [List.mem_zipIdx_iff_getElem?, List.take_length] at hx
  exact h k (List.getElem?_eq_some_iff.1 hx).1
theorem someIn_some (l : List Dip) (b : Int) : someIn l b l.length = kept l (someOut b l.length) := someIn_kept fun k hk => by
  cases hb : bitZ b k with
  | false =>
    have : (someOut b l.length).contains (k : Int) = true := by rw [List.contains_iff_mem, someOut_mem]; exact ⟨hk, hb⟩
    rw [this]; rfl
  | true =>
    have : (someOut b l.length).contains (k : Int) = false := by
      cases hc : (someOut b l.length).contains (k : Int) with
      | false => rfl
      | true => rw [List.contains_iff_mem, someOut_mem] at hc; rw [hb] at hc; cases hc.2
    rw [this]; rfl
theorem Inc.get {n : Nat} : ∀ {js : List Int} {i : Nat}, Inc n i js → ∀ j, (h : j < js.length) → ∃ k : Nat, js[j] = (k : Int) ∧ k < n ∧ (∀ (h2 : 0 < j), js[j - 1]'(by omega) < js[j])
  | [], _, _, j, h => by simp at h
  | x :: js, i, ⟨k, e, h1, h2, h3⟩, 0, _ => ⟨k, e, h2, fun h => by omega⟩
  | x :: js, i, ⟨k, e, h1, h2, h3⟩, j + 1, h => by
    have hj : j < js.length := by simpa using h
    obtain ⟨m, a, b, c⟩ := h3.get j hj
    refine ⟨m, a, b, fun _ => ?_⟩
    cases j with
    | zero =>
      obtain ⟨m', e', g1, _⟩ := h3.mem js[0] (List.getElem_mem hj)
      simp only [Nat.add_sub_cancel, List.getElem_cons_zero, List.getElem_cons_succ]
      rw [e, e']; omega
    | succ j =>
      have := c (by omega)
      simpa using this
theorem kept_sub {l : List Dip} {out : List Int} : ∀ d ∈ kept l out, d ∈ l := fun d hd => by
  obtain ⟨k, hk, _⟩ := mem_kept.1 hd
  exact List.mem_of_getElem? hk
theorem kept_len (l : List Dip) (out : List Int) : (kept l out).length ≤ l.length := keptN_len l out l.length
theorem kept_fine {s : Store} {p : Plan} {l : List Dip} (h : dippedE s p l = 0) (out : List Int) : dippedE s p (kept l out) = 0 := by
  obtain ⟨h1, h2, h3⟩ := dipped_parts h
  refine dipped_ok h1 (Nat.le_trans (kept_len l out) h2) ?_
  rw [List.all_eq_true] at *
  exact fun d hd => h3 d (kept_sub d hd)
end Lp
namespace Go.Proofs.Ytaimlmfncjbmjaa
open Go Go.Vc Go.RowKit Lp
set_option maxHeartbeats 1000000 in
theorem some_go (l : List Dip) (bits : Int) (U : Option Addr) (d : Nat) (w : World) (hU : Rd dDip w U d l) (hn : l.length ≤ 60) :
    Calls Try.prog 48 #[.slice U l.length d, .int .i64 bits] w fun e w' => ∃ X x Y y, e = .returned (.tuple #[.slice X (someIn l bits l.length).length x, .slice Y (someOut bits l.length).length y]) ∧ Vc.Own dDip 85 w' w.heap.size no X x (someIn l bits l.length) ∧ Vc.Own dI 3 w' w.heap.size no Y y (someOut bits l.length) ∧ w.grownBy w' none := by
  refine calls (G := G) (args := [.slice U l.length d, .int .i64 bits]) Try.func48 rfl rfl rfl ?_
  refine M.run rfl ?_
  refine M.loop (σ := Nat × (Option Addr × Nat) × (Option Addr × Nat)) (fun (i, (X, x), (Y, y)) => [(0, .slice U l.length d), (1, .int .i64 bits), (6, .slice X (someIn l bits i).length x), (7, .slice Y (someOut bits i).length y), (8, .int .i64 (i : Int))])
    (fun (i, (X, x), (Y, y)) w' => i ≤ l.length ∧ w.grownBy w' none ∧ Vc.Own dDip 85 w' w.heap.size no X x (someIn l bits i) ∧ Vc.Own dI 3 w' w.heap.size no Y y (someOut bits i)) (fun (i, _) => l.length - i) (0, (none, 0), (none, 0))
    ⟨rfl, rfl, rfl, rfl, rfl, trivial⟩ ⟨Nat.zero_le _, gr_refl _ _, Vc.Own.nil _ _ _ _ _, Vc.Own.nil _ _ _ _ _⟩ ?_
  rintro ⟨i, ⟨X, x⟩, ⟨Y, y⟩⟩ w2 ⟨hi, e2, hX, hY⟩
  refine M.run rfl <| M.cond rfl (fun h => ?_) (fun h => ?_)
  · have hlt : i < l.length := by have := of_decide_eq_true h; omega
    obtain ⟨hU1, hUC⟩ := rd_flat hU hlt
    have hl1 := someIn_len l bits i
    have hl2 := someOut_len bits i
    refine M.run rfl ?_
    rw [wu64 (x := (i : Int)) (by omega) (by omega)]
    refine M.ys (YS.shr rfl (by omega)) <| M.run rfl <| M.cond rfl (fun k1 => ?_) (fun k1 => ?_)
    · have hb : bitZ bits i = true := k1
      have hs1 := someIn_succ l bits i hlt
      have hs2 := someOut_succ bits i
      rw [hb, if_pos rfl] at hs1 hs2
      refine M.run rfl <| M.ix rfl (by omega) (by omega) hU1 <| M.run rfl <| M.ldA rfl rfl (hUC w2 (gr_below e2)) <| M.run rfl <| M.bs rfl fun gk wk bk ek lk => M.run rfl <| M.app (d := dDip) rfl rfl (hX.mv0 ek) rfl (by decide) rfl (ys := [l[i]]) rfl rfl (src_one bk rfl) (gr_trans e2 ek).size (by simp; omega) (by decide) fun X' x' wb hXb eb hat => ?_
      have e0b := (hX.mv0 ek).gr (gr_trans e2 ek) eb (Nat.le_refl _)
      refine M.run rfl <| M.end_ ⟨(i + 1, (X', x'), (Y, y)), ⟨rfl, rfl, ?_, ?_, nxt (by omega), trivial⟩, ⟨by omega, e0b, by rw [hs1]; exact hXb, ?_⟩, by simp; omega⟩
      · rw [hs1]; rfl
      · rw [hs2]; rfl
      · rw [hs2]; exact (hY.mv0 ek).mvN eb (Vc.Own.ne_tag (hY.mv0 ek) (hX.mv0 ek) (by decide))
    · have hb : bitZ bits i = false := k1
      have hs1 := someIn_succ l bits i hlt
      have hs2 := someOut_succ bits i
      rw [hb, if_neg (by simp)] at hs1 hs2
      refine M.run rfl <| M.bs rfl fun gk wk bk ek lk => M.run rfl <| M.app (d := dI) rfl rfl (hY.mv0 ek) rfl (by decide) rfl (ys := [(i : Int)]) rfl rfl (src_one bk rfl) (gr_trans e2 ek).size (by simp; omega) (by decide) fun Y' y' wb hYb eb hat => ?_
      have e0b := (hY.mv0 ek).gr (gr_trans e2 ek) eb (Nat.le_refl _)
      refine M.run rfl <| M.end_ ⟨(i + 1, (X, x), (Y', y')), ⟨rfl, rfl, ?_, ?_, nxt (by omega), trivial⟩, ⟨by omega, e0b, ?_, by rw [hs2]; exact hYb⟩, by simp; omega⟩
      · rw [hs1]; rfl
      · rw [hs2]; rfl
      · rw [hs1]; exact (hX.mv0 ek).mvN eb (Vc.Own.ne_tag (hX.mv0 ek) (hY.mv0 ek) (by decide))
  · have hin : i = l.length := by have := of_decide_eq_false h; omega
    subst hin
    exact M.run rfl <| M.retF rfl rfl ⟨X, x, Y, y, rfl, hX, hY, e2⟩

set_option maxHeartbeats 1000000 in
set_option maxRecDepth 100000 in
theorem LampLeft_go (s : Store) (p : Plan) (wl : List Int) (many bits tried : Int) (A : Option Addr) (c : Nat) (B : Option Addr) (b : Nat) (U : Option Addr) (d : Nat) (V : Option Addr) (v : Nat) (w : World) (hA : Rd dNight w A c s.nights) (hB : Rd dI w B b p.cans) (hD : Rd dI w U d p.wicks) (hV : Rd dW w V v wl) (hwl : ∀ x ∈ wl, 0 ≤ x ∧ x ≤ 65535) (q0 : 0 ≤ many) (q1 : many ≤ 255) (q2 : 0 ≤ bits) (q3 : bits ≤ 255) (q4 : 0 ≤ tried) (q5 : tried ≤ 255) :
    Calls Try.prog 10 #[vStore s A c, vPlan p B b U d, .slice V wl.length v, .int .u8 many, .int .u8 bits, .int .u8 tried] w fun e w' => e = .returned (.bool true) ∧ w.grownBy w' none := by
  refine calls (G := G) (args := [vStore s A c, vPlan p B b U d, .slice V wl.length v, .int .u8 many, .int .u8 bits, .int .u8 tried]) Try.func10 rfl rfl rfl ?_
  refine M.run rfl <| M.nw rfl fun g1 w1 b1 e1 l1 => M.run rfl <| M.nw rfl fun g2 w2 b2 e2 l2 => M.run rfl <| M.ldA rfl rfl (b1.mv0 e2).cellsAll <| M.run rfl <| M.ldA rfl rfl b2.cellsAll <| M.run rfl ?_
  have e02 := gr_trans e1 e2
  replace b1 := b1.mv0 e2
  refine M.cl rfl (ready_go s p A c B b U d w2 (hA.mv e02) (hB.mv e02) (hD.mv e02)) ?_
  rintro e w3 ⟨rfl, e3⟩
  have e03 := gr_trans e02 e3
  replace b1 := b1.mv0 e3
  replace b2 := b2.mv0 e3
  have fin : ∀ (wk : World), w.grownBy wk none → Calls Try.prog 17 #[] wk fun e w' => e = .returned (.bool true) ∧ w.grownBy w' none := fun wk hk => (awake_go wk).mono fun e w' ⟨h1, h2⟩ => ⟨h1, gr_trans hk h2⟩
  refine ⟨_, rfl, M.run rfl <| M.cond rfl (fun h => ?_) (fun h => ?_)⟩
  · refine M.run rfl <| M.cl rfl (fin w3 e03) ?_
    rintro e wz ⟨rfl, ez⟩
    exact ⟨_, rfl, M.run rfl <| M.retF rfl rfl ⟨rfl, ez⟩⟩
  have hr : readyB s p = true := by simpa using h
  have hck := ready_check hr
  have hf := check_fine hck
  have hfew := hf.ok.few
  have hsome := hf.ok.some_
  have hcl := hf.cl
  have hwkl := hf.wl
  refine M.run rfl <| M.drawG [] (by kernel_rfl) fun w4 e4 => ?_
  have e04 := gr_trans e03 e4
  replace b1 := b1.mv0 e4
  replace b2 := b2.mv0 e4
  refine D.run rfl <| D.ldA 0 rfl rfl rfl rfl rfl (fun w' hw => (b1.mv0 hw).cellsAll) <| D.ldA 1 rfl rfl rfl rfl rfl (fun w' hw => (b2.mv0 hw).cellsAll) <| D.ldA 2 rfl rfl rfl rfl rfl (fun w' hw => (b1.mv0 hw).cellsAll) <| D.one 4 rfl rfl <| M.cl rfl (Picked_go s wl A c V v w4 (hA.mv e04) (hV.mv e04) hwl hf.ok) ?_
  rintro e w5 ⟨t, T, tc, rfl, hT, ht, e5⟩
  have e05 := gr_trans e04 e5
  refine ⟨_, rfl, M.run rfl <| M.end_ ⟨.inr e5, D.run rfl <| D.one 8 rfl rfl <| M.cl rfl (Dipped_go s p t wl many bits A c B b U d T tc V v w5 (hA.mv e05) (hB.mv e05) (hD.mv e05) hT (hV.mv e05) hwl hf ht ⟨q0, q1⟩ ⟨q2, q3⟩) ?_⟩⟩
  rintro e w6 ⟨ds, E, ec, rfl, hE, hdl, hdok, hdag, e6⟩
  have e06 := gr_trans e05 e6
  have e46 := gr_trans e5 e6
  replace b1 := b1.mv0 e46
  replace b2 := b2.mv0 e46
  have hEr : Rd dDip w6 E ec ds := hE.rd (by decide)
  have hd0 := dipped_ok hck (by omega) hdok
  refine ⟨_, rfl, M.run rfl <| M.end_ ⟨.inr e6, D.run rfl <| D.done_ rfl <| M.run rfl <| M.drawG [] (by kernel_rfl) fun x8 xe8 => ?_⟩⟩
  have x0 := gr_trans e06 xe8
  refine D.run rfl <| D.ldA 0 rfl rfl rfl rfl rfl (fun w' hw => ((b1.mv0 xe8).mv0 hw).cellsAll) <| D.ldA 2 rfl rfl rfl rfl rfl (fun w' hw => ((b2.mv0 xe8).mv0 hw).cellsAll) <| D.one 1 rfl rfl <| M.cl rfl (StoreC_go s A c x8 (hA.mv x0) (by omega)) ?_
  rintro e x9 ⟨A1, a1, rfl, hA1, xe9⟩
  refine ⟨_, rfl, M.run rfl <| M.end_ ⟨.inr xe9, D.one 3 rfl rfl <| M.cl rfl (PlanC_go p B b U d x9 (hB.mv (gr_trans x0 xe9)) (hD.mv (gr_trans x0 xe9)) (by omega) (by omega)) ?_⟩⟩
  rintro e xa ⟨B1, b1', U1, u1, rfl, hB1, hU1, xea⟩
  have x7a := gr_trans (gr_trans xe8 xe9) xea
  refine ⟨_, rfl, M.run rfl <| M.end_ ⟨.inr xea, D.one 5 rfl rfl <| M.cl rfl (Dips_go ds E ec xa (hEr.mv x7a) (by omega)) ?_⟩⟩
  rintro e xb ⟨E1, ec2, rfl, hE1, xeb⟩
  refine ⟨_, rfl, M.run rfl <| M.end_ ⟨.inr xeb, D.one 6 rfl rfl <| M.cl rfl (Leave_go s p ds A1 a1 B1 b1' U1 u1 E1 ec2 xb (hA1.mv (gr_trans xea xeb)) (hB1.mv xeb) (hU1.mv xeb) (hE1.rd (by decide))) ?_⟩⟩
  rintro e xw ⟨O, o, rfl, hO, xew⟩
  have xB := gr_trans x7a (gr_trans xeb xew)
  have hl0 : leaveE s p ds = 0 := hd0
  rw [hl0]
  obtain ⟨hinc, hgood, hmin⟩ := leave_spec hf hd0
  have e0x := gr_trans e06 xB
  replace b1 := b1.mv0 xB
  replace b2 := b2.mv0 xB
  replace hEr := hEr.mv xB
  have rO : Rd dI xw O o (leaveR s p ds) := hO.rd (by decide)
  clear hO
  generalize leaveR s p ds = L at *
  have hLl := hinc.len (Nat.zero_le _)
  refine ⟨_, rfl, M.run rfl <| M.end_ ⟨.inr xew, D.run rfl <| D.done_ rfl <| M.run rfl ?_⟩⟩
  refine M.loop (σ := Nat × Nat) (fun (i, S) => [(5, .int .u8 tried), (6, .pointer (some ⟨g1, 0, none⟩)), (7, .pointer (some ⟨g2, 0, none⟩)), (13, .slice E ds.length ec), (14, .slice O L.length o), (15, .int .i64 0), (16, .int .i64 (S : Int)), (17, .int .i64 (i : Int))])
    (fun (i, S) w' => i ≤ L.length ∧ xw.grownBy w' none ∧ S < 64 ∧ ∀ k : Nat, S.testBit k = true ↔ (k : Int) ∈ L.take i) (fun (i, _) => L.length - i) (0, 0) ⟨rfl, rfl, rfl, rfl, rfl, rfl, rfl, rfl, trivial⟩ ⟨Nat.zero_le _, gr_refl _ _, by decide, fun k => by simp⟩ ?_
  rintro ⟨i, S⟩ wg ⟨hi, eg, hS, hbits⟩
  have e0g := gr_trans e0x eg
  have c1 := b1.mv0 eg
  have c2 := b2.mv0 eg
  refine M.run rfl <| M.cond rfl (fun h => ?_) (fun h => ?_)
  · have hlt : i < L.length := by have := of_decide_eq_true h; omega
    obtain ⟨hO1, hOC⟩ := rd_flat rO hlt
    obtain ⟨k, hk, hkn, hprev⟩ := hinc.get i hlt
    rw [hk] at hOC hprev
    have bw : ∀ {w'}, wg.grownBy w' none → Below xw.heap.size xw w' := fun hw => gr_below (gr_trans eg hw)
    have tail : ∀ wh, wg.grownBy wh none → (S ||| 2 ^ k) < 64 ∧ (∀ j : Nat, (S ||| 2 ^ k).testBit j = true ↔ (j : Int) ∈ L.take (i + 1)) := fun wh _ => by
      refine ⟨Nat.or_lt_two_pow (n := 6) hS (Nat.pow_lt_pow_right (by decide) (by omega)), fun j => ?_⟩
      rw [Nat.testBit_or, Bool.or_eq_true, hbits, take_snoc _ _ hlt, List.mem_append, Nat.testBit_two_pow, hk]
      simp only [List.mem_singleton, decide_eq_true_eq]
      constructor
      · rintro (h | h)
        · exact .inl h
        · exact .inr (by omega)
      · rintro (h | h)
        · exact .inl h
        · exact .inr (by omega)
    refine M.run rfl <| M.quiet (by kernel_rfl) <| LQ.run rfl <| LQ.ix rfl (by omega) (by omega) hO1 <| LQ.run rfl <| LQ.ld rfl (fun w' hw => (hOC w' (bw hw)).one 0 rfl rfl) <| LQ.at_ [61] rfl <| LQ.caseF 61 rfl (decide_eq_false (by omega)) <| LQ.run rfl <| LQ.ix rfl (by omega) (by omega) hO1 <| LQ.run rfl <| LQ.ld rfl (fun w' hw => (hOC w' (bw hw)).one 0 rfl rfl) <|
      LQ.at_ [70] rfl <| LQ.caseF 70 rfl (decide_eq_false (by omega)) <| LQ.at_ [73] rfl <| LQ.case 73 rfl (fun k1 => ?_) (fun k1 => ?_)
    · have hi0 : 0 < i := by have := of_decide_eq_true k1; omega
      obtain ⟨_, hPC⟩ := rd_flat rO (show i - 1 < L.length by omega)
      have hpl := hprev hi0
      have hw1 : IntKind.i64.wrap ((i : Int) - 1) = ((i - 1 : Nat) : Int) := by rw [w64 (by omega) (by omega)]; omega
      refine LQ.run rfl <| LQ.ix rfl (by omega) (by omega) hO1 <| LQ.run rfl <| LQ.ld rfl (fun w' hw => (hOC w' (bw hw)).one 0 rfl rfl) <| LQ.run rfl ?_
      rw [hw1]
      refine LQ.ix rfl (by omega) (by omega) hO1 <| LQ.run rfl <| LQ.ld rfl (fun w' hw => (hPC w' (bw hw)).one 0 rfl rfl) <| LQ.run rfl <| LQ.nil fun wh eh => ?_
      obtain ⟨t1, t2⟩ := tail wh eh
      refine M.run rfl <| M.condF rfl (decide_eq_false (by omega)) <| M.run rfl <| M.ix rfl (by omega) (by omega) hO1 <| M.run rfl <| M.ld rfl ((hOC wh (bw eh)).one 0 rfl rfl) <| M.run rfl ?_
      rw [wu64 (x := (k : Int)) (by omega) (by omega)]
      refine M.ys (YS.shl rfl (by omega)) <| M.run rfl <| M.end_ ⟨(i + 1, S ||| 2 ^ k), ⟨rfl, rfl, rfl, rfl, rfl, rfl, ?_, nxt (by omega), trivial⟩, ⟨by omega, gr_trans eg eh, t1, t2⟩, by simp; omega⟩
      exact congrArg (fun z => some (Value.int .i64 z)) (or_nat hS (by omega))
    · refine LQ.run rfl <| LQ.nil fun wh eh => ?_
      obtain ⟨t1, t2⟩ := tail wh eh
      refine M.run rfl <| M.condF rfl rfl <| M.run rfl <| M.ix rfl (by omega) (by omega) hO1 <| M.run rfl <| M.ld rfl ((hOC wh (bw eh)).one 0 rfl rfl) <| M.run rfl ?_
      rw [wu64 (x := (k : Int)) (by omega) (by omega)]
      refine M.ys (YS.shl rfl (by omega)) <| M.run rfl <| M.end_ ⟨(i + 1, S ||| 2 ^ k), ⟨rfl, rfl, rfl, rfl, rfl, rfl, ?_, nxt (by omega), trivial⟩, ⟨by omega, gr_trans eg eh, t1, t2⟩, by simp; omega⟩
      exact congrArg (fun z => some (Value.int .i64 z)) (or_nat hS (by omega))
  have hin : i = L.length := by have := of_decide_eq_false h; omega
  subst hin
  rw [List.take_length] at hbits
  have hkeep : someIn ds (S : Int) ds.length = kept ds L := someIn_kept fun k hk => by
    rw [bitZ_nat S k (by omega)]
    congr 1
    rw [Bool.eq_iff_iff, hbits, List.contains_iff_mem]
  have hoth : someIn ds tried ds.length = kept ds (someOut tried ds.length) := someIn_some ds tried
  refine M.run rfl <| M.cl rfl (some_go ds (S : Int) E ec wg (hEr.mv eg) (by omega)) ?_
  rintro e wh ⟨K1, k1, K2, k2, rfl, hK1, hK2, eh⟩
  rw [hkeep] at hK1
  rw [hkeep]
  refine ⟨_, rfl, M.run rfl ?_⟩
  rw [w64 (x := tried) (by omega) (by omega)]
  refine M.cl rfl (some_go ds tried E ec wh (hEr.mv (gr_trans eg eh)) (by omega)) ?_
  rintro e wi ⟨K3, k3, K4, k4, rfl, hK3, hK4, ei⟩
  rw [hoth] at hK3
  rw [hoth]
  have egi := gr_trans eh ei
  have e0i := gr_trans e0g egi
  replace c1 := c1.mv0 egi
  replace c2 := c2.mv0 egi
  have hf1 := kept_fine hd0 L
  have hf2 := kept_fine hd0 (someOut tried ds.length)
  have hn1 := kept_len ds L
  have hn2 := kept_len ds (someOut tried ds.length)
  have hg1 : oilE s p (kept ds L) = 0 := ((oil_fine hf1).1 hgood).1
  have hxinc := someOut_inc tried ds.length
  have hg2 : oilE s p (kept ds (someOut tried ds.length)) = 9 ∨ (oilE s p (kept ds (someOut tried ds.length)) = 0 ∧ shorterB (someOut tried ds.length) L = false) := by
    cases hx : levelsOk s p (kept ds (someOut tried ds.length)) with
    | false => exact .inl ((oil_fine hf2).2 hx).1
    | true => exact .inr ⟨((oil_fine hf2).1 hx).1, hmin _ hxinc hx⟩
  have rK4 : Rd dI wi K4 k4 (someOut tried ds.length) := hK4.rd (by decide)
  have rK1 : Rd dDip wi K1 k1 (kept ds L) := Rd.mv (hK1.rd (by decide)) ei
  have rK3 : Rd dDip wi K3 k3 (kept ds (someOut tried ds.length)) := hK3.rd (by decide)
  clear hK1 hK2 hK3 hK4 hkeep hoth
  generalize someOut tried ds.length = xs at *
  generalize kept ds L = kl at *
  generalize kept ds xs = kx at *
  refine ⟨_, rfl, M.run rfl <| M.drawG [] (by kernel_rfl) fun y8 ye8 => ?_⟩
  have y0 := gr_trans e0i ye8
  refine D.run rfl <| D.ldA 0 rfl rfl rfl rfl rfl (fun w' hw => ((c1.mv0 ye8).mv0 hw).cellsAll) <| D.ldA 2 rfl rfl rfl rfl rfl (fun w' hw => ((c2.mv0 ye8).mv0 hw).cellsAll) <| D.one 1 rfl rfl <| M.cl rfl (StoreC_go s A c y8 (hA.mv y0) (by omega)) ?_
  rintro e y9 ⟨A1, a1, rfl, hA1, ye9⟩
  refine ⟨_, rfl, M.run rfl <| M.end_ ⟨.inr ye9, D.one 3 rfl rfl <| M.cl rfl (PlanC_go p B b U d y9 (hB.mv (gr_trans y0 ye9)) (hD.mv (gr_trans y0 ye9)) (by omega) (by omega)) ?_⟩⟩
  rintro e ya ⟨B1, b1', U1, u1, rfl, hB1, hU1, yea⟩
  have y7a := gr_trans (gr_trans ye8 ye9) yea
  refine ⟨_, rfl, M.run rfl <| M.end_ ⟨.inr yea, D.one 5 rfl rfl <| M.cl rfl (Dips_go kl K1 k1 ya (rK1.mv y7a) (by omega)) ?_⟩⟩
  rintro e yb ⟨E1, ec2, rfl, hE1, yeb⟩
  refine ⟨_, rfl, M.run rfl <| M.end_ ⟨.inr yeb, D.one 6 rfl rfl <| M.cl rfl (Oil_go s p kl A1 a1 B1 b1' U1 u1 E1 ec2 yb (hA1.mv (gr_trans yea yeb)) (hB1.mv yeb) (hU1.mv yeb) (hE1.rd (by decide))) ?_⟩⟩
  rintro e yw ⟨R1, r1, rfl, hR1, yew⟩
  have yB := gr_trans y7a (gr_trans yeb yew)
  rw [hg1]
  refine ⟨_, rfl, M.run rfl <| M.end_ ⟨.inr yew, D.run rfl <| D.done_ rfl <| M.run rfl <| M.drawG [] (by kernel_rfl) fun z8 ze8 => ?_⟩⟩
  have z0 := gr_trans (gr_trans e0i yB) ze8
  refine D.run rfl <| D.ldA 0 rfl rfl rfl rfl rfl (fun w' hw => (((c1.mv0 yB).mv0 ze8).mv0 hw).cellsAll) <| D.ldA 2 rfl rfl rfl rfl rfl (fun w' hw => (((c2.mv0 yB).mv0 ze8).mv0 hw).cellsAll) <| D.one 1 rfl rfl <| M.cl rfl (StoreC_go s A c z8 (hA.mv z0) (by omega)) ?_
  rintro e z9 ⟨A1, a1, rfl, hA1, ze9⟩
  refine ⟨_, rfl, M.run rfl <| M.end_ ⟨.inr ze9, D.one 3 rfl rfl <| M.cl rfl (PlanC_go p B b U d z9 (hB.mv (gr_trans z0 ze9)) (hD.mv (gr_trans z0 ze9)) (by omega) (by omega)) ?_⟩⟩
  rintro e za ⟨B1, b1', U1, u1, rfl, hB1, hU1, zea⟩
  have z7a := gr_trans (gr_trans ze8 ze9) zea
  refine ⟨_, rfl, M.run rfl <| M.end_ ⟨.inr zea, D.one 5 rfl rfl <| M.cl rfl (Dips_go kx K3 k3 za ((rK3.mv yB).mv z7a) (by omega)) ?_⟩⟩
  rintro e zb ⟨E1, ec2, rfl, hE1, zeb⟩
  refine ⟨_, rfl, M.run rfl <| M.end_ ⟨.inr zeb, D.one 6 rfl rfl <| M.cl rfl (Oil_go s p kx A1 a1 B1 b1' U1 u1 E1 ec2 zb (hA1.mv (gr_trans zea zeb)) (hB1.mv zeb) (hU1.mv zeb) (hE1.rd (by decide))) ?_⟩⟩
  rintro e zw ⟨R2, r2, rfl, hR2, zew⟩
  have zB := gr_trans z7a (gr_trans zeb zew)
  have e0z := gr_trans e0i (gr_trans yB zB)
  have eiz := gr_trans yB zB
  have egz := gr_trans egi eiz
  refine ⟨_, rfl, M.run rfl <| M.end_ ⟨.inr zew, D.run rfl <| D.done_ rfl <| M.at_ [136] rfl ?_⟩⟩
  rcases hg2 with hg2 | ⟨hg2, hsh⟩
  · rw [hg2]
    refine M.caseT 136 rfl rfl ?_
    refine M.run rfl <| M.cl rfl (fin zw e0z) ?_
    rintro e wz ⟨rfl, ez⟩
    exact ⟨_, rfl, M.run rfl <| M.retF rfl rfl ⟨rfl, ez⟩⟩
  · rw [hg2]
    refine M.caseF 136 rfl rfl <| M.run rfl <| M.cl rfl (Shorter_go xs L K4 k4 O o zw (rK4.mv eiz) (rO.mv (gr_trans eg egz))) ?_
    rintro e wq ⟨rfl, eq⟩
    refine ⟨_, rfl, M.at_ [147] rfl <| M.caseT 147 rfl (by rw [hsh]; rfl) ?_⟩
    refine M.run rfl <| M.cl rfl (fin wq (gr_trans e0z eq)) ?_
    rintro e wz ⟨rfl, ez⟩
    exact ⟨_, rfl, M.run rfl <| M.retF rfl rfl ⟨rfl, ez⟩⟩
end Go.Proofs.Ytaimlmfncjbmjaa
end

section
/- All walks of the lamp's laws (an index, for the merge). -/
end
