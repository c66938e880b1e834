/- Part 1 of the proof: the walks and plain laws that the row needs (merged from several texts: YtaimlmfncjbmjaaV7, YtaimlmfncjbmjaaV8, YtaimlmfncjbmjaaA3, YtaimlmfncjbmjaaL7, YtaimlmfncjbmjaaA4, YtaimlmfncjbmjaaA5, YtaimlmfncjbmjaaA6, YtaimlmfncjbmjaaA7, YtaimlmfncjbmjaaA8, YtaimlmfncjbmjaaAA, YtaimlmfncjbmjaaLH, YtaimlmfncjbmjaaLI, YtaimlmfncjbmjaaV9, YtaimlmfncjbmjaaVA, YtaimlmfncjbmjaaVB, YtaimlmfncjbmjaaVC, YtaimlmfncjbmjaaA9, YtaimlmfncjbmjaaLJ, YtaimlmfncjbmjaaLK, YtaimlmfncjbmjaaLL, YtaimlmfncjbmjaaLM, YtaimlmfncjbmjaaL8, YtaimlmfncjbmjaaL9, YtaimlmfncjbmjaaLA). -/
import Derived.Test.YtaimlmfncjbmjaaW0
import Derived.Laws.Cover3
import Derived.RangeFuncWrites
import Derived.RangeFuncLeaves
import Derived.TacticsIn
import Derived.LoopIn
import Derived.ChangeKeysEq
import Derived.Scope
import Derived.MapKept
import Derived.WideKeyRuns
import Derived.Sort.LoopGhostIn
import Derived.RangeFuncNested
set_option linter.unusedVariables false
set_option linter.unusedSimpArgs false
section
/- Operations that yield a value and leave the world ('YS'): loads, addresses, elements, slices of arrays; results that lie in cells. -/
set_option linter.unusedVariables false
set_option linter.unusedSimpArgs false
namespace Go.Vc
open Go.RowKit

section
variable {G : Ctx} {n : Nat} {all : Array Oper} {ρ : Env} {o : Oper} {W : World → Prop} {v : Value}

theorem YS.ld {a : Addr} {s : Nat} (he : evLoad G.T n ρ all o = some (a, s, false)) (hc : ∀ w, W w → w.cell? a = some v) : YS G n all ρ o W v := by
  obtain ⟨hw, hb, t, x, i, ho, hx, hT, rfl, hg⟩ := evLoad_spec he
  refine ⟨hw, hb, fun ac hf w hC => ?_⟩
  simp [execOp, ho, hf.ev hx, Instr.loadAt, Instr.sureAddr, Sem.run_bind, load_run1 hT hg (hc w hC), Result.andThen]
theorem YS.ldA {a : Addr} {s : Nat} {cs : List Value} (he : evLoad G.T n ρ all o = some (a, s, true)) (hl : cs.length = s) (hc : ∀ w, W w → Cells w a cs) : YS G n all ρ o W (.agg cs.toArray) := by
  obtain ⟨hw, hb, t, x, i, ho, hx, hT, rfl, hg⟩ := evLoad_spec he
  refine ⟨hw, hb, fun ac hf w hC => ?_⟩
  simp [execOp, ho, hf.ev hx, Instr.loadAt, Instr.sureAddr, Sem.run_bind, load_runA hT hg hl (hc w hC), Result.andThen]
theorem YS.ix {A : Option Addr} {m : Nat} {i : Int} {s : Nat} (he : evIdx G.T n ρ all o = some (A, m, i, s)) (h0 : 0 ≤ i) (h1 : i < m) (hA : A = some (adOf A)) :
    YS G n all ρ o W (.pointer (some ((adOf A).add (i.toNat * s)))) := by
  unfold evIdx at he
  split at he
  · rename_i t x y hw ho
    split at he
    · rename_i A' m' c ik i' e sz z bz hx hy hT
      split at he
      · rename_i ie hTe
        cases hb : inB n o.dst with
        | false => rw [hb] at he; simp at he
        | true =>
          rw [hb] at he
          simp at he
          obtain ⟨rfl, rfl, rfl, rfl⟩ := he
          obtain ⟨hok, _⟩ := Tab.ok_get G.ok hT
          have hu : G.P.underlying t = some (.slice e) := hok
          refine ⟨hw, hb, fun ac hf w hC => ?_⟩
          rw [show execOp ac.eval o = (do pure (.value (← Instr.indexAt t (ac.eval x) (ac.eval y))) : Sem Next) by simp [execOp, ho]]
          refine run_value ?_
          rw [hf.ev hx, hf.ev hy, hA]
          simp [Instr.indexAt, asIntOf, run_underlying hu, Sem.run_bind, h0, h1, TI.sizeRun hTe, Result.andThen, adOf]
      · simp at he
    · simp at he
  · simp at he
theorem YS.ixA {a : Addr} {m : Nat} {i : Int} {s : Nat} (he : evIdxA G.T n ρ all o = some (a, m, i, s)) (h0 : 0 ≤ i) (h1 : i < m) : YS G n all ρ o W (.pointer (some (a.add (i.toNat * s)))) := by
  unfold evIdxA at he
  split at he
  · rename_i t x y hw ho
    split at he
    · rename_i a' ik i' m' e sz z bz hx hy hT
      split at he
      · rename_i ie hTe
        cases hb : inB n o.dst with
        | false => rw [hb] at he; simp at he
        | true =>
          rw [hb] at he
          simp at he
          obtain ⟨rfl, rfl, rfl, rfl⟩ := he
          obtain ⟨hok, _⟩ := Tab.ok_get G.ok hT
          have hu : G.P.underlying t = some (.array m' e) := hok
          refine ⟨hw, hb, fun ac hf w hC => ?_⟩
          rw [show execOp ac.eval o = (do pure (.value (← Instr.indexAt t (ac.eval x) (ac.eval y))) : Sem Next) by simp [execOp, ho]]
          refine run_value ?_
          rw [hf.ev hx, hf.ev hy]
          simp [Instr.indexAt, asIntOf, Instr.sureAddr, run_underlying hu, Sem.run_bind, h0, h1, TI.sizeRun hTe, Result.andThen]
      · simp at he
    · simp at he
  · simp at he

/-! an element of an array value, one cell each -/
def evIdxV (T : Tab) (n : Nat) (ρ : Env) (all : Array Oper) (o : Oper) : Option (Array Value × Nat × Int) :=
  match wantedE ρ all o, o.op with
  | some true, .index t x y => match ρ.ev x, ρ.ev y, T.get t with
    | some (.agg cs), some (.int _ i), some ⟨.array m e, _, _, _⟩ => match T.get e with
      | some ie => bif inB n o.dst && (!ie.sh.agg && Nat.beq ie.size 1) then some (cs, m, i) else none
      | none => none
    | _, _, _ => none
  | _, _ => none
theorem YS.iv {cs : Array Value} {m : Nat} {i : Int} (he : evIdxV G.T n ρ all o = some (cs, m, i)) (h0 : 0 ≤ i) (h1 : i < m) (hv : cs[i.toNat]? = some v) : YS G n all ρ o W v := by
  unfold evIdxV at he
  split at he
  · rename_i t x y hw ho
    split at he
    · rename_i cs' ik i' m' e sz z bz hx hy hT
      split at he
      · rename_i ie hTe
        cases hb : (inB n o.dst && (!ie.sh.agg && Nat.beq ie.size 1)) with
        | false => rw [hb] at he; simp at he
        | true =>
          rw [hb] at he
          simp at he
          obtain ⟨rfl, rfl, rfl⟩ := he
          simp only [Bool.and_eq_true, Bool.not_eq_true'] at hb
          have hsz := Nat.eq_of_beq_eq_true hb.2.2
          obtain ⟨hok, _⟩ := Tab.ok_get G.ok hT
          have hu : G.P.underlying t = some (.array m' e) := hok
          refine ⟨hw, hb.1, fun ac hf w hC => ?_⟩
          rw [show execOp ac.eval o = (do pure (.value (← Instr.index t (ac.eval x) (ac.eval y))) : Sem Next) by simp [execOp, ho]]
          refine run_value ?_
          rw [hf.ev hx, hf.ev hy]
          simp [Instr.index, asIntOf, run_underlying hu, Sem.run_bind, h0, h1, TI.sizeRun hTe, Result.andThen, hsz, part, TI.aggRun hTe, hb.2.1, hv]
      · simp at he
    · simp at he
  · simp at he

/-! all of an array variable, as a slice -/
def evSlcA (T : Tab) (n : Nat) (ρ : Env) (all : Array Oper) (o : Oper) : Option (Addr × Nat) :=
  match wantedE ρ all o, o.op with
  | some true, .slice t x none none none => match ρ.ev x, T.get t with
    | some (.pointer (some a)), some ⟨.array m e, _, _, _⟩ => match T.get e with
      | some _ => bif inB n o.dst && Nat.blt 0 m then some (a, m) else none
      | none => none
    | _, _ => none
  | _, _ => none
theorem YS.slcA {a : Addr} {m : Nat} (he : evSlcA G.T n ρ all o = some (a, m)) : YS G n all ρ o W (.slice (some a) m m) := by
  unfold evSlcA at he
  split at he
  · rename_i t x hw ho
    split at he
    · rename_i a' m' e sz z bz hx hT
      split at he
      · rename_i ie hTe
        cases hb : (inB n o.dst && Nat.blt 0 m') with
        | false => rw [hb] at he; simp at he
        | true =>
          rw [hb] at he
          simp at he
          obtain ⟨rfl, rfl⟩ := he
          simp only [Bool.and_eq_true] at hb
          have hpos : 0 < m' := Nat.le_of_ble_eq_true (by simpa [Nat.blt] using hb.2)
          obtain ⟨hok, _⟩ := Tab.ok_get G.ok hT
          have hu : G.P.underlying t = some (.array m' e) := hok
          refine ⟨hw, hb.1, fun ac hf w hC => ?_⟩
          rw [show execOp ac.eval o = (do pure (.value (← Instr.sliceAt t (ac.eval x) none none none)) : Sem Next) by simp [execOp, ho]]
          refine run_value ?_
          rw [hf.ev hx]
          have hne : m' ≠ 0 := by omega
          simp [Instr.sliceAt, Instr.sureAddr, Instr.sliceBounds, run_underlying hu, Sem.run_bind, TI.sizeRun hTe, Result.andThen, hne, Addr.add]
      · simp at he
    · simp at he
  · simp at he

/-! a quotient, a remainder, a shift, of an integer that is not a constant -/
def evBin (n : Nat) (ρ : Env) (all : Array Oper) (o : Oper) : Option (BinOp × IntKind × Int × IntKind × Int) :=
  match wantedE ρ all o, o.op with
  | some true, .binOp op _ x y _ => match ρ.ev x, ρ.ev y with
    | some (.int k a), some (.int k' b) => bif inB n o.dst then some (op, k, a, k', b) else none
    | _, _ => none
  | _, _ => none
theorem evBin_spec {op : BinOp} {k k' : IntKind} {a b : Int} (he : evBin n ρ all o = some (op, k, a, k', b)) : wantedE ρ all o = some true ∧ inB n o.dst = true ∧ ∃ t x y u, o.op = .binOp op t x y u ∧ ρ.ev x = some (.int k a) ∧ ρ.ev y = some (.int k' b) := by
  unfold evBin at he
  split at he
  · rename_i op' t x y u hw ho
    split at he
    · rename_i k a k' b hx hy
      cases hb : inB n o.dst with
      | false => rw [hb] at he; simp at he
      | true =>
        rw [hb] at he
        simp at he
        obtain ⟨rfl, rfl, rfl, rfl, rfl⟩ := he
        exact ⟨hw, by first | exact hb | rfl, t, x, y, u, ho, hx, hy⟩
    · simp at he
  · simp at he
theorem YS.bin {op : BinOp} {k k' : IntKind} {a b : Int} (he : evBin n ρ all o = some (op, k, a, k', b)) (h : ∀ t w, (binOp op t (.int k a) (.int k' b)).run G.P w = .ok v w) : YS G n all ρ o W v := by
  obtain ⟨hw, hb, t, x, y, u, ho, hx, hy⟩ := evBin_spec he
  refine ⟨hw, hb, fun ac hf w hC => ?_⟩
  simp only [execOp, ho, hf.ev hx, hf.ev hy]
  simp [Sem.run_bind, eqGuard_int, h, Result.andThen]
theorem YS.quo {k : IntKind} {a b : Int} (he : evBin n ρ all o = some (.quo, k, a, k, b)) (h0 : b ≠ 0) : YS G n all ρ o W (.int k (k.wrap (a.tdiv b))) := YS.bin he fun t w => by simp [binOp, Op.intDiv, h0]
theorem YS.rem {k : IntKind} {a b : Int} (he : evBin n ρ all o = some (.rem, k, a, k, b)) (h0 : b ≠ 0) : YS G n all ρ o W (.int k (a.tmod b)) := YS.bin he fun t w => by simp [binOp, Op.intDiv, h0]
theorem YS.shl {k k' : IntKind} {a b : Int} (he : evBin n ρ all o = some (.shl, k, a, k', b)) (h0 : 0 ≤ b) : YS G n all ρ o W (.int k (k.wrap (a * 2 ^ min b.toNat k.bits))) :=
  YS.bin he fun t w => by
    have h1 : ¬ b < 0 := by omega
    simp [binOp, Op.shift, h1]
theorem YS.shr {k k' : IntKind} {a b : Int} (he : evBin n ρ all o = some (.shr, k, a, k', b)) (h0 : 0 ≤ b) : YS G n all ρ o W (.int k (a.fdiv (2 ^ min b.toNat k.bits))) :=
  YS.bin he fun t w => by
    have h1 : ¬ b < 0 := by omega
    simp [binOp, Op.shift, h1]

section
variable {l : List Oper} {k : List It} {Q : QT} {w : World} {d : Tmp} {op : Op} {ty : TypeId} {pos : String} {after : Array Edge} {gd : Option (Nat × Bool)}
theorem M.ys (hy : YS G n all ρ ⟨some d, op, ty, pos, after, gd⟩ (fun w' => w' = w) v) (h : M G n (.ops all l :: k) Q ((d, v) :: ρ) w) : M G n (.ops all (⟨some d, op, ty, pos, after, gd⟩ :: l) :: k) Q ρ w :=
  M.step hy.1 fun ac hf => ⟨v, w, hy.2.2 ac hf w rfl, hy.2.1, h⟩
theorem LQ.ys {QF : Env → Prop} (hy : YS G n all ρ ⟨some d, op, ty, pos, after, gd⟩ W v) (h : LQ G n all W QF l ((d, v) :: ρ)) : LQ G n all W QF (⟨some d, op, ty, pos, after, gd⟩ :: l) ρ :=
  LQ.step hy.1 hy.2.1 (fun ac hf w' hC => by unfold Oper.quietAt; rw [hy.2.2 ac hf w' hC]; exact ⟨rfl, rfl⟩) h
end

/-! in a region that draws -/
section
variable {R RL : World → World → Prop} {late ex sk : List Nat} {k : List It} {Q : QT} {m : Nat} {done : List Nat} {w : World} {d : Tmp} {op : Op} {ty : TypeId} {pos : String} {after : Array Edge} {gd : Option (Nat × Bool)}
theorem D.ys (i : Nat) (ho : all[i]? = some ⟨some d, op, ty, pos, after, gd⟩) (ht : takeB all done sk i = true) (hx : memN i ex = false) (hy : YS G n all ρ ⟨some d, op, ty, pos, after, gd⟩ (fun w' => R w w') v)
    (h : D G n all R RL late ex sk k Q m (i :: done) ((d, v) :: ρ) w) : D G n all R RL late ex sk k Q (m + 1) done ρ w := D.take ho ht hx hy h
theorem D.ld (i : Nat) (ho : all[i]? = some ⟨some d, op, ty, pos, after, gd⟩) (ht : takeB all done sk i = true) (hx : memN i ex = false) {a : Addr} {s : Nat} (he : evLoad G.T n ρ all ⟨some d, op, ty, pos, after, gd⟩ = some (a, s, false)) (hc : ∀ w', R w w' → w'.cell? a = some v)
    (h : D G n all R RL late ex sk k Q m (i :: done) ((d, v) :: ρ) w) : D G n all R RL late ex sk k Q (m + 1) done ρ w := D.take ho ht hx (YS.ld he hc) h
theorem D.ldA (i : Nat) (ho : all[i]? = some ⟨some d, op, ty, pos, after, gd⟩) (ht : takeB all done sk i = true) (hx : memN i ex = false) {a : Addr} {s : Nat} {cs : List Value} (he : evLoad G.T n ρ all ⟨some d, op, ty, pos, after, gd⟩ = some (a, s, true)) (hl : cs.length = s) (hc : ∀ w', R w w' → Cells w' a cs)
    (h : D G n all R RL late ex sk k Q m (i :: done) ((d, .agg cs.toArray) :: ρ) w) : D G n all R RL late ex sk k Q (m + 1) done ρ w := D.take ho ht hx (YS.ldA he hl hc) h
theorem D.ldX (i : Nat) (ho : all[i]? = some ⟨some d, op, ty, pos, after, gd⟩) (ht : takeB all done sk i = true) (hx : memN i ex = true) {a : Addr} {s : Nat} (he : evLoad G.T n ρ all ⟨some d, op, ty, pos, after, gd⟩ = some (a, s, false)) (hc : ∀ w', RL w w' → w'.cell? a = some v)
    (h : D G n all R RL late ex sk k Q m (i :: done) ((d, v) :: ρ) w) : D G n all R RL late ex sk k Q (m + 1) done ρ w := D.takeX ho ht hx (YS.ld he hc) h
theorem D.ldAX (i : Nat) (ho : all[i]? = some ⟨some d, op, ty, pos, after, gd⟩) (ht : takeB all done sk i = true) (hx : memN i ex = true) {a : Addr} {s : Nat} {cs : List Value} (he : evLoad G.T n ρ all ⟨some d, op, ty, pos, after, gd⟩ = some (a, s, true)) (hl : cs.length = s) (hc : ∀ w', RL w w' → Cells w' a cs)
    (h : D G n all R RL late ex sk k Q m (i :: done) ((d, .agg cs.toArray) :: ρ) w) : D G n all R RL late ex sk k Q (m + 1) done ρ w := D.takeX ho ht hx (YS.ldA he hl hc) h
theorem D.one (i : Nat) (hr : readyGo done 0 all.toList = [i]) {o : Oper} (ho : all[i]? = some o) (h : M G n (.ops all [o] :: .stop (fun ρ' w' => ((memN i late = true ∧ RL w w') ∨ R w w') ∧ D G n all R RL late ex sk k Q m (i :: done) ρ' w') :: k) Q ρ w) :
    D G n all R RL late ex sk k Q (m + 1) done ρ w :=
  D.oneG (fun j hj => by rw [hr] at hj; simp at hj; subst hj; exact ⟨o, ho, h⟩) (by rw [hr]; simp)
theorem D.two (i j : Nat) (hr : readyGo done 0 all.toList = [i, j]) {o p : Oper} (ho : all[i]? = some o) (hp : all[j]? = some p)
    (h1 : M G n (.ops all [o] :: .stop (fun ρ' w' => ((memN i late = true ∧ RL w w') ∨ R w w') ∧ D G n all R RL late ex sk k Q m (i :: done) ρ' w') :: k) Q ρ w)
    (h2 : M G n (.ops all [p] :: .stop (fun ρ' w' => ((memN j late = true ∧ RL w w') ∨ R w w') ∧ D G n all R RL late ex sk k Q m (j :: done) ρ' w') :: k) Q ρ w) :
    D G n all R RL late ex sk k Q (m + 1) done ρ w :=
  D.oneG (fun x hx => by
    rw [hr] at hx; simp at hx
    rcases hx with rfl | rfl
    · exact ⟨o, ho, h1⟩
    · exact ⟨p, hp, h2⟩) (by rw [hr]; simp)
theorem D.case (s : Nat) {b : Bool} (hd : ρ.find s = some (.bool b)) (ht : b = true → D G n all R RL late ex sk k Q m done ((s, .bool true) :: ρ) w) (hf : b = false → D G n all R RL late ex sk k Q m done ((s, .bool false) :: ρ) w) : D G n all R RL late ex sk k Q m done ρ w := by
  have key : ∀ c : Bool, b = c → D G n all R RL late ex sk k Q m done ((s, .bool c) :: ρ) w → D G n all R RL late ex sk k Q m done ρ w := by
    intro c hc h
    refine ⟨fun hR hT hS hL hp hB a hfit => h.out hR hT hS hL hp hB a ⟨hfit.size, hfit.defers, fun i v hi => ?_⟩⟩
    rw [Env.find_cons] at hi
    by_cases e : s = i
    · subst e
      rw [if_pos rfl] at hi
      simp at hi
      subst hi
      exact hfit.get s _ (by rw [hd, hc])
    · rw [if_neg e] at hi
      exact hfit.get i v hi
  cases b with
  | true => exact key true rfl (ht rfl)
  | false => exact key false rfl (hf rfl)
end

/-! ### results, some of which may lie in cells -/
inductive ResR (G : Ctx) (ρ : Env) (w : World) : List ResultVar → List Value → Prop
  | nil : ResR G ρ w [] []
  | tmp {t : Nat} {v : Value} {r : List ResultVar} {vs : List Value} (h : ρ.find t = some v) (hr : ResR G ρ w r vs) : ResR G ρ w (.tmp t :: r) (v :: vs)
  | cell {a t : Nat} {ad : Addr} {i : TI} {v : Value} {r : List ResultVar} {vs : List Value} (h : ρ.find a = some (.pointer (some ad))) (hT : G.T.get t = some i) (hg : i.sh.agg = false) (hc : w.cell? ad = some v) (hr : ResR G ρ w r vs) : ResR G ρ w (.cell a t :: r) (v :: vs)
  | cellA {a t : Nat} {ad : Addr} {i : TI} {cs : List Value} {r : List ResultVar} {vs : List Value} (h : ρ.find a = some (.pointer (some ad))) (hT : G.T.get t = some i) (hg : i.sh.agg = true) (hl : cs.length = i.size) (hc : Cells w ad cs) (hr : ResR G ρ w r vs) : ResR G ρ w (.cell a t :: r) (.agg cs.toArray :: vs)

theorem resR_run {a : Act} (hf : Fits n ρ a) {w : World} {f : ResultVar → Sem Value} (f1 : ∀ t, f (.tmp t) = pure (a.tmps.getD t undef)) (f2 : ∀ x t, f (.cell x t) = do loadVar t (← asAddr (a.tmps.getD x undef))) : ∀ {rs : List ResultVar} {vs : List Value}, ResR G ρ w rs vs →
    (rs.mapM f).run G.P w = .ok vs w := by
  intro rs vs h
  induction h with
  | nil => simp
  | tmp h hr ih => simp only [List.mapM_cons, f1, Sem.run_bind, Sem.run_pure, Result.andThen_ok, ih, hf.get _ _ h]
  | @cell x t ad i v r vs h hT hg hc hr ih =>
    have hx : (asAddr (a.tmps.getD x undef)).run G.P w = .ok ad w := by rw [hf.get _ _ h]; simp [asAddr]
    simp only [List.mapM_cons, f2, Sem.run_bind, hx, load_run1 hT hg hc, Result.andThen_ok, ih, Sem.run_pure]
  | @cellA x t ad i cs r vs h hT hg hl hc hr ih =>
    have hx : (asAddr (a.tmps.getD x undef)).run G.P w = .ok ad w := by rw [hf.get _ _ h]; simp [asAddr]
    simp only [List.mapM_cons, f2, Sem.run_bind, hx, load_runA hT hg hl hc, Result.andThen_ok, ih, Sem.run_pure]

theorem resultsR_run {a : Act} (hf : Fits n ρ a) {w : World} {fn : Func} {vs : List Value} (h : ResR G ρ w fn.results.toList vs) : (results fn a.tmps).run G.P w = .ok (oneOrTuple vs) w := by
  unfold results
  have e : fn.results = fn.results.toList.toArray := by simp
  rw [e, List.mapM_toArray, Sem.run_bind, Sem.run_map, resR_run hf (fun _ => rfl) (fun _ _ => rfl) h]
  cases vs with
  | nil => simp [oneOrTuple, Result.andThen]
  | cons x r =>
    cases r with
    | nil => simp [oneOrTuple, Result.andThen]
    | cons y r => simp [oneOrTuple, Result.andThen]
theorem M.retC {fn : Func} {S : Ending → World → Prop} {vs : List Value} {w : World} {k : List It} (h : ResR G ρ w fn.results.toList vs) (hR : S (.returned (oneOrTuple vs)) w) : M G n (.code .ret :: k) (fin G n fn S) ρ w :=
  M.ret fun a hf => ⟨_, resultsR_run hf h, hR⟩
theorem M.endC {fn : Func} {S : Ending → World → Prop} {vs : List Value} {w : World} (h : ResR G ρ w fn.results.toList vs) (hR : S (.returned (oneOrTuple vs)) w) : M G n [] (fin G n fn S) ρ w :=
  M.done fun a hf => ⟨_, resultsR_run hf h, hR⟩
end
end Go.Vc
end

section
/- More that makes slices: the empty literal, append of a slice that may be empty, make; comparison with nil; arrays of bools. -/
set_option linter.unusedVariables false
set_option linter.unusedSimpArgs false
namespace Go.Vc
open Go.RowKit

section
variable {G : Ctx} {n : Nat} {Q : QT} {ρ : Env} {w : World} {all : Array Oper} {l : List Oper} {k : List It} {dd : Tmp} {op : Op} {ty : TypeId} {pos : String} {after : Array Edge} {gd : Option (Nat × Bool)}

/-- '[]T{}' -/
def evBS0 (T : Tab) (n : Nat) (ρ : Env) (all : Array Oper) (o : Oper) : Option Nat :=
  match wantedE ρ all o, o.op with
  | some true, .buildSlice t 0 parts => match T.get t, parts.toList with
    | some ⟨.slice e, _, _, _⟩, [] => match T.get e with
      | some _ => bif inB n o.dst then some e else none
      | none => none
    | _, _ => none
  | _, _ => none
theorem M.bs0 {e : Nat} (he : evBS0 G.T n ρ all ⟨some dd, op, ty, pos, after, gd⟩ = some e)
    (h : ∀ g w', Blk w' g [] e → w.grownBy w' none → w.heap.size ≤ g → M G n (.ops all l :: k) Q ((dd, .slice (some ⟨g, 0, none⟩) 0 0) :: ρ) w') : M G n (.ops all (⟨some dd, op, ty, pos, after, gd⟩ :: l) :: k) Q ρ w := by
  unfold evBS0 at he
  split at he
  · rename_i t parts hw ho
    split at he
    · rename_i e2 sz z bz hT hparts
      have hp0 : parts = #[] := by apply Array.ext'; simpa using hparts
      subst hp0
      split at he
      · rename_i ie hTe
        cases hb : inB n (some dd) with
        | false => rw [hb] at he; simp at he
        | true =>
          rw [hb] at he
          simp at he
          subst he
          obtain ⟨hok, _⟩ := Tab.ok_get G.ok hT
          have hu : G.P.underlying t = some (.slice e2) := hok
          simp only at ho
          subst ho
          refine M.step hw fun ac hf => ⟨.slice (some ⟨w.heap.size, 0, none⟩) 0 0, w.alloc (.cells #[] e2), ?_, hb, h _ _ (by simpa [Blk] using heap_alloc_new w _) (gr_alloc _ _) (Nat.le_refl _)⟩
          rw [show execOp ac.eval ⟨some dd, .buildSlice t 0 #[], ty, pos, after, gd⟩ = (do pure (.value (← Instr.buildSlice t 0 #[])) : Sem Next) by simp [execOp]]
          refine run_value ?_
          unfold Instr.buildSlice
          simp [Sem.run_bind, run_underlying hu, Result.andThen, TI.sizeRun hTe, newRow, Instr.fill, show Array.range 0 = #[] from rfl]
      · simp at he
    · simp at he
  · simp at he
theorem own_bs0 {α : Type} (d : Rp α) {g e base : Nat} (F : Nat → Prop) (hB : Blk w g [] e) (hb : base ≤ g) : Own d e w base F (some ⟨g, 0, none⟩) 0 [] :=
  .inr ⟨g, [], rfl, hb, hB, Nat.le_refl _, by simp [maxLen], by simp, fun j x h => by simp at h⟩

theorem run_storeCells_nil' (P : Program) (a : Addr) (w : World) : (storeCells a []).run P w = .ok () w := by simp [storeCells]

/-- append of a slice that may be empty -/
theorem M.appS {α : Type} {d : Rp α} {A A' : Option Addr} {m c m' c' e : Nat} {ie : TI} {base : Nat} {F : Nat → Prop} {xs ys : List α}
    (he : evApp G.T n ρ all ⟨some dd, op, ty, pos, after, gd⟩ = some (A, m, c, A', m', c', e, ie)) (hm : m = xs.length) (hO : Own d e w base F A c xs) (hsz : ie.size = d.sz) (hpos : 0 < d.sz) (hzs : ie.zero.cells.size = d.sz)
    (hm' : m' = ys.length) (hA' : A' = none → ys = []) (hs : SrcAt d w (fun b => F b ∧ some b ≠ blkOf A) (adOf A') ys) (hbase : base ≤ w.heap.size) (hbytes : (xs.length + ys.length) * ie.bytes ≤ 140737488355328) (hb0 : 0 < ie.bytes)
    (h : ∀ A1 c1 w', Own d e w' base F A1 c1 (xs ++ ys) → w.grownBy w' (blkOf A) → (blkOf A1 = blkOf A ∨ blkOf A1 = some w.heap.size) → M G n (.ops all l :: k) Q ((dd, .slice A1 (xs ++ ys).length c1) :: ρ) w') :
    M G n (.ops all (⟨some dd, op, ty, pos, after, gd⟩ :: l) :: k) Q ρ w := by
  cases A' with
  | some a => exact M.app he hm hO hsz hpos hzs hm' rfl hs hbase hbytes hb0 h
  | none =>
    have hys := hA' rfl
    subst hys
    have h' := h A c w (by simpa using hO) (gr_refl _ _) (.inl rfl)
    simp only [List.append_nil] at h'
    unfold evApp at he
    split at he
    · rename_i x0 y0 hw ho
      split at he
      · rename_i x y t t' hxs hts
        split at he
        · rename_i A2 m2 c2 A3 m3 c3 e2 sz z bz hx hy hT
          split at he
          · rename_i ie2 hTe
            cases hb : (inB n (some dd) && Nat.beq t t') with
            | false => rw [hb] at he; simp at he
            | true =>
              rw [hb] at he
              simp at he
              obtain ⟨rfl, rfl, rfl, rfl, rfl, rfl, rfl, rfl⟩ := he
              simp only [Bool.and_eq_true] at hb
              obtain ⟨hb1, hb2⟩ := hb
              have hb2 := Nat.eq_of_beq_eq_true hb2
              subst hb2
              obtain ⟨hok, _⟩ := Tab.ok_get G.ok hT
              have hu : G.P.underlying t = some (.slice e2) := hok
              simp only at ho
              have hxa : x0 = #[x, y] := by apply Array.ext'; simp [hxs]
              subst hxa
              have hta : y0 = #[t, t] := by apply Array.ext'; simp [hts]
              subst hta
              subst ho
              have hcap := hO.cap
              simp only [List.length_nil] at hm'
              subst hm'
              subst hm
              refine M.step hw fun ac hf => ⟨_, w, ?_, hb1, h'⟩
              simp only [execOp, resolve, List.map_toArray, List.map_cons, List.map_nil, hf.ev hx, hf.ev hy]
              have : (Builtin.append_ #[t, t] ty #[.slice A2 xs.length c2, .slice none 0 c3]).run G.P w = .ok (.slice A2 xs.length c2) w := by
                cases A2 <;> simp [Builtin.append_, run_underlying hu, Sem.run_bind, Result.andThen, TI.sizeRun hTe, Builtin.lenOf, Builtin.firstCells, hcap.1, run_storeCells_nil']
              simp only [invoke, builtin, Sem.run_bind, Sem.run_pure, Result.andThen_ok, this]
          · simp at he
        · simp at he
      · simp at he
    · simp at he

/-- make([]T, l, c) -/
def evMk (T : Tab) (n : Nat) (ρ : Env) (all : Array Oper) (o : Oper) : Option (Nat × TI × Int × Int) :=
  match wantedE ρ all o, o.op with
  | some true, .makeSlice t x y => match T.get t, ρ.ev x, ρ.ev y with
    | some ⟨.slice e, _, _, _⟩, some (.int _ l), some (.int _ c) => match T.get e with
      | some ie => bif inB n o.dst then some (e, ie, l, c) else none
      | none => none
    | _, _, _ => none
  | _, _ => none
theorem M.mk_ {e : Nat} {ie : TI} {m c : Int} (he : evMk G.T n ρ all ⟨some dd, op, ty, pos, after, gd⟩ = some (e, ie, m, c)) (h0 : 0 ≤ m) (hmc : m ≤ c) (hby : (ie.bytes : Int) * c ≤ 281474976710656) (h63 : c ≤ 9223372036854775807) (hz : ie.zero.cells.size = ie.size)
    (h : ∀ g w', Blk w' g ((List.replicate c.toNat ie.zero.cells.toList).flatten) e → w.grownBy w' none → w.heap.size ≤ g → M G n (.ops all l :: k) Q ((dd, .slice (some ⟨g, 0, none⟩) m.toNat c.toNat) :: ρ) w') :
    M G n (.ops all (⟨some dd, op, ty, pos, after, gd⟩ :: l) :: k) Q ρ w := by
  unfold evMk at he
  split at he
  · rename_i t x y hw ho
    split at he
    · rename_i e2 sz z bz kl m' kc c' hT hx hy
      split at he
      · rename_i ie' hTe
        cases hb : inB n (some dd) with
        | false => rw [hb] at he; simp at he
        | true =>
          rw [hb] at he
          simp at he
          obtain ⟨rfl, rfl, rfl, rfl⟩ := he
          obtain ⟨hok, _⟩ := Tab.ok_get G.ok hT
          have hu : G.P.underlying t = some (.slice e2) := hok
          obtain ⟨_, hinfo⟩ := Tab.ok_get G.ok hTe
          obtain ⟨ti, hti, hts'⟩ := Option.map_eq_some_iff.1 hinfo
          simp only [Prod.mk.injEq] at hts'
          have hr := run_make (P := G.P) w t e2 ti ie'.zero hu hti hts'.2.1 kl kc m' c' h0 hmc (by rw [hts'.2.2]; exact hby) h63
          simp only at ho
          subst ho
          refine M.step hw fun ac hf => ⟨_, _, ?_, hb, h w.heap.size (w.alloc (.cells (madeCells ie'.zero.cells (c'.toNat * ti.size)) e2)) ?_ (gr_alloc _ _) (Nat.le_refl _)⟩
          · rw [show execOp ac.eval ⟨some dd, .makeSlice t x y, ty, pos, after, gd⟩ = (do pure (.value (← Instr.makeSlice t (ac.eval x) (ac.eval y))) : Sem Next) by simp [execOp]]
            refine run_value ?_
            rw [hf.ev hx, hf.ev hy]
            exact hr
          · have : madeCells ie'.zero.cells (c'.toNat * ti.size) = ((List.replicate c'.toNat ie'.zero.cells.toList).flatten).toArray := by
              apply Array.ext'
              rw [hts'.1]
              simp only [madeCells, Array.toList_map, Array.toList_range]
              exact zeros_flat ie'.zero.cells.toList ie'.size (by simpa using hz) c'.toNat
            rw [this]
            simpa [Blk] using heap_alloc_new w _
      · simp at he
    · simp at he
  · simp at he

/-- 's == nil', 's != nil' -/
def evNil (T : Tab) (n : Nat) (ρ : Env) (all : Array Oper) (o : Oper) : Option (BinOp × Option Addr) :=
  match wantedE ρ all o, o.op with
  | some true, .binOp op t x (.const (.slice none 0 0)) _ => match T.get t, ρ.ev x with
    | some ⟨.slice _, _, _, _⟩, some (.slice A _ _) => bif inB n o.dst then some (op, A) else none
    | _, _ => none
  | _, _ => none
theorem YS.eqNil {o : Oper} {W : World → Prop} {A : Option Addr} (he : evNil G.T n ρ all o = some (.eql, A)) : YS G n all ρ o W (.bool A.isNone) := by
  unfold evNil at he
  split at he
  · rename_i op' t x u hw ho
    split at he
    · rename_i e2 sz z bz A' m c hT hx
      cases hb : inB n o.dst with
      | false => rw [hb] at he; simp at he
      | true =>
        rw [hb] at he
        simp at he
        obtain ⟨rfl, rfl⟩ := he
        obtain ⟨hok, _⟩ := Tab.ok_get G.ok hT
        have hu : G.P.underlying t = some (.slice e2) := hok
        refine ⟨hw, hb, fun ac hf w hC => ?_⟩
        have h1 : (binOp .eql t (.slice A' m c) (.slice none 0 0)).run G.P w = .ok (.bool A'.isNone) w := by
          simp only [binOp, Sem.run_bind, run_equal_slice_nil (P := G.P) w t e2 A' m c hu, Result.andThen_ok, Sem.run_pure]
        have h2 : (eqGuard .eql t x (.const (.slice none 0 0)) (.slice A' m c) (.slice none 0 0)).run G.P w = .ok () w := by simp [eqGuard]
        have hk : ac.eval (.const (.slice none 0 0)) = .slice none 0 0 := rfl
        simp only [execOp, ho, hf.ev hx, hk]
        simp only [Sem.run_bind, h1, h2, Result.andThen_ok, Sem.run_pure]
    · simp at he
  · simp at he
end
end Go.Vc
end

section
/- The oil that there can be after each night; its ranges. -/
namespace Lp
/-- the oil after a night, of some oil before it, when the first so many numbers of what a wick burns are taken -/
def nightN (s : Store) (p : Plan) (i : Nat) (oil : Int) (m : Nat) : List Int :=
  (List.range m).map fun (k : Nat) => rest (nt s i) (now s oil (at0 p.cans i)) (at0 p.wicks i) ((nt s i).lo + (k : Int))
def nightL (s : Store) (p : Plan) (i : Nat) (oil : Int) : List Int := nightN s p i oil ((nt s i).hi - (nt s i).lo + 1).toNat
theorem nightN_succ (s : Store) (p : Plan) (i : Nat) (oil : Int) (m : Nat) : nightN s p i oil (m + 1) = nightN s p i oil m ++ [rest (nt s i) (now s oil (at0 p.cans i)) (at0 p.wicks i) ((nt s i).lo + (m : Int))] := by
  simp [nightN, List.range_succ]
theorem night_bd {s : Store} {p : Plan} (h : Fine s p) {i : Nat} (hi : i < s.nights.length) {oil : Int} (h0 : 0 ≤ oil) (x : Int) (hx : x ∈ nightL s p i oil) : 0 ≤ x ∧ x ≤ 400 := by
  simp only [nightL, nightN, List.mem_map, List.mem_range] at hx
  obtain ⟨k, hk, rfl⟩ := hx
  have hn := h.ok.nt hi
  have hw := h.wicks i hi
  have hcap := h.ok.cap
  have a := now_bd h0 (h.add hi).1 (by omega : (0:Int) ≤ s.cap)
  have b := rest_bd (n := nt s i) (w := at0 p.wicks i) (b := (nt s i).lo + (k : Int)) a.1 (need_nn (by omega) (by omega) (by omega))
  omega

def agreesB (l : List Dip) (i : Nat) (x : Int) : Bool := l.all fun d => !decide (d.night = (i : Int)) || within x d.lo d.hi

/-- a level: which numbers of oil there can be, of 0 to 400 -/
abbrev Lev := Nat → Bool
def step0 (s : Store) (p : Plan) (l : List Dip) (i : Nat) (f : Lev) (m : Nat) : Lev := fun x => (List.range m).any fun o => f o && ((nightL s p i (o : Int)).contains (x : Int) && agreesB l i (x : Int))
/-- forwards: after so many nights -/
def fwd (s : Store) (p : Plan) (l : List Dip) : Nat → Lev
  | 0 => fun o => decide (s.lo ≤ (o : Int)) && decide ((o : Int) ≤ s.hi)
  | i + 1 => step0 s p l i (fwd s p l i) 401
def none_ (f : Lev) : Bool := (List.range 401).all fun o => !f o
/-- what can go on: of the night i, when the level behind the next night is g -/
def onB (s : Store) (p : Plan) (i : Nat) (g : Lev) (f : Lev) : Lev := fun o => f o && (nightL s p (i + 1) (o : Int)).any fun x => g x.toNat
/-- backwards: the level of the (k+1)-th night from the end -/
def bwd (s : Store) (p : Plan) (l : List Dip) (n : Nat) : Nat → Lev
  | 0 => fwd s p l n
  | k + 1 => onB s p (n - 2 - k) (bwd s p l n k) (fwd s p l (n - 1 - k))
def levelAt (s : Store) (p : Plan) (l : List Dip) (n i : Nat) : Lev := bwd s p l n (n - 1 - i)
def levelsOk (s : Store) (p : Plan) (l : List Dip) : Bool := (List.range s.nights.length).all fun i => !none_ (fwd s p l (i + 1))
def levels (s : Store) (p : Plan) (l : List Dip) : List Lev := (List.range s.nights.length).map (levelAt s p l s.nights.length)

def bl (f : Lev) : List Bool := (List.range 401).map f
theorem bl_len (f : Lev) : (bl f).length = 401 := by simp [bl]
theorem bl_get (f : Lev) {j : Nat} (h : j < 401) : (bl f)[j]? = some (f j) := by simp [bl, h]
def lowest (f : Lev) : Int := idxOf (fun y => true == y) (bl f)
def hiOf (f : Lev) : Nat → Nat
  | 0 => 0
  | n + 1 => if f (n + 1) then n + 1 else hiOf f n
def highest (f : Lev) : Int := hiOf f 400
def ends (f : Lev) : Rng := ⟨lowest f, highest f⟩
theorem none_iff (f : Lev) : none_ f = true ↔ ∀ x, x ≤ 400 → f x = false := by
  simp only [none_, List.all_eq_true, List.mem_range, Bool.not_eq_true']
  exact ⟨fun h x hx => h x (by omega), fun h x hx => h x (by omega)⟩
theorem some_iff (f : Lev) : none_ f = false ↔ ∃ x, x ≤ 400 ∧ f x = true := by
  constructor
  · intro h
    apply Classical.byContradiction
    intro hn
    have : none_ f = true := (none_iff f).2 fun x hx => by
      cases hf : f x with
      | false => rfl
      | true => exact absurd ⟨x, hx, hf⟩ hn
    rw [h] at this; cases this
  · rintro ⟨x, hx, hf⟩
    cases h : none_ f with
    | false => rfl
    | true => rw [(none_iff f).1 h x hx] at hf; cases hf
theorem lowest_spec {f : Lev} {x : Nat} (hx : x ≤ 400) (hf : f x = true) (hb : ∀ y, y < x → f y = false) : lowest f = x := by
  unfold lowest
  have hlt : x < (bl f).length := by rw [bl_len]; omega
  have hg := bl_get f (show x < 401 by omega)
  rw [List.getElem?_eq_getElem hlt] at hg
  injection hg with hg
  refine idx_at hlt (fun j y hj hy => ?_) ?_
  · rw [bl_get f (by omega)] at hy
    injection hy with hy
    rw [← hy, hb j hj]; rfl
  · rw [hg, hf]; rfl
theorem first_true (f : Lev) : ∀ {x : Nat}, f x = true → ∃ y, y ≤ x ∧ f y = true ∧ ∀ z, z < y → f z = false := by
  intro x
  induction x using Nat.strongRecOn with
  | ind x ih =>
    intro hx
    by_cases h : ∃ y, y < x ∧ f y = true
    · obtain ⟨y, hy, hf⟩ := h
      obtain ⟨z, h1, h2, h3⟩ := ih y hy hf
      exact ⟨z, by omega, h2, h3⟩
    · refine ⟨x, Nat.le_refl _, hx, fun z hz => ?_⟩
      cases hf : f z with
      | false => rfl
      | true => exact absurd ⟨z, hz, hf⟩ h
theorem lowest_some {f : Lev} (h : none_ f = false) : ∃ x : Nat, lowest f = x ∧ x ≤ 400 ∧ f x = true ∧ ∀ y, y < x → f y = false := by
  obtain ⟨x, hx, hf⟩ := (some_iff f).1 h
  obtain ⟨y, h1, h2, h3⟩ := first_true f hf
  exact ⟨y, lowest_spec (by omega) h2 h3, by omega, h2, h3⟩
theorem hiOf_spec {f : Lev} : ∀ {n x : Nat}, x ≤ n → f x = true → (∀ y, x < y → y ≤ n → f y = false) → hiOf f n = x
  | 0, x, hx, hf, hb => by simp [hiOf]; omega
  | n + 1, x, hx, hf, hb => by
    unfold hiOf
    by_cases he : x = n + 1
    · subst he; rw [if_pos hf]
    · rw [if_neg (by rw [hb (n + 1) (by omega) (by omega)]; simp)]
      exact hiOf_spec (by omega) hf (fun y h1 h2 => hb y h1 (by omega))
theorem highest_spec {f : Lev} {x : Nat} (hx : x ≤ 400) (hf : f x = true) (hb : ∀ y, x < y → y ≤ 400 → f y = false) : highest f = x := by
  unfold highest; rw [hiOf_spec hx hf hb]
theorem last_true (f : Lev) : ∀ {n x : Nat}, x ≤ n → f x = true → ∃ y, x ≤ y ∧ y ≤ n ∧ f y = true ∧ ∀ z, y < z → z ≤ n → f z = false
  | 0, x, hx, hf => ⟨x, Nat.le_refl _, hx, hf, fun z h1 h2 => by omega⟩
  | n + 1, x, hx, hf => by
    cases hn : f (n + 1) with
    | true => exact ⟨n + 1, hx, Nat.le_refl _, hn, fun z h1 h2 => by omega⟩
    | false =>
      have hxn : x ≤ n := by
        by_cases h : x = n + 1
        · subst h; rw [hf] at hn; cases hn
        · omega
      obtain ⟨y, h1, h2, h3, h4⟩ := last_true f hxn hf
      refine ⟨y, h1, by omega, h3, fun z h5 h6 => ?_⟩
      by_cases h : z = n + 1
      · subst h; exact hn
      · exact h4 z h5 (by omega)
theorem highest_some {f : Lev} (h : none_ f = false) : ∃ x : Nat, highest f = x ∧ x ≤ 400 ∧ f x = true ∧ ∀ y, x < y → y ≤ 400 → f y = false := by
  obtain ⟨x, hx, hf⟩ := (some_iff f).1 h
  obtain ⟨y, h1, h2, h3, h4⟩ := last_true f hx hf
  exact ⟨y, highest_spec h2 h3 h4, h2, h3, h4⟩

def oilE (s : Store) (p : Plan) (l : List Dip) : Int := if dippedE s p l ≠ 0 then dippedE s p l else if levelsOk s p l then 0 else 9
def oilR (s : Store) (p : Plan) (l : List Dip) : List Rng := if oilE s p l = 0 then (levels s p l).map ends else []
end Lp
end

section
/- Walks: slices.Index, Contains, Clone; night; ends. -/
set_option linter.unusedVariables false
namespace Go.Proofs.Ytaimlmfncjbmjaa
open Go Go.Vc Go.RowKit Lp

theorem index_int (x : Int) (xs : List Int) (A : Option Addr) (c : Nat) (w : World) (hA : Rd dI w A c xs) :
    Calls Try.prog 102 #[.slice A xs.length c, .int .i64 x] w fun e w' => e = .returned (.int .i64 (idxOf (fun y => x == y) xs)) ∧ w.grownBy w' none := by
  refine calls (G := G) (args := [.slice A xs.length c, .int .i64 x]) Try.func102 rfl rfl rfl ?_
  refine M.run rfl ?_
  refine M.loop (σ := Nat) (fun i => [(0, .slice A xs.length c), (1, .int .i64 x), (7, .int .i64 xs.length), (8, .int .i64 (i : Int))]) (fun i w' => i ≤ xs.length ∧ w.grownBy w' none ∧ ∀ j y, j < i → xs[j]? = some y → (x == y) = false)
    (fun i => xs.length - i) 0 ⟨rfl, rfl, rfl, rfl, trivial⟩ ⟨Nat.zero_le _, gr_refl _ _, fun j y h => by omega⟩ ?_
  rintro i w1 ⟨hi, e1, hn⟩
  refine M.run rfl (M.cond rfl (fun h => ?_) (fun h => ?_))
  · have hlt : i < xs.length := by have := of_decide_eq_true h; omega
    obtain ⟨hA1, hC⟩ := rd_flat hA hlt
    refine M.run rfl (M.ix rfl (by omega) (by omega) hA1 (M.run rfl (M.ld rfl ((hC w1 (gr_below e1)).one 0 rfl (by simp [Addr.add])) (M.run rfl (M.cond rfl (fun h2 => ?_) (fun h2 => ?_))))))
    · exact M.run rfl (M.retF rfl rfl ⟨by rw [idx_at hlt hn h2]; rfl, e1⟩)
    · refine M.run rfl (M.end_ ⟨i + 1, ⟨rfl, rfl, rfl, ?_, trivial⟩, ⟨by omega, e1, idx_step hlt hn h2⟩, by omega⟩)
      exact congrArg (fun z => some (Value.int .i64 z)) (w64 (by omega) (by have := hA.bd; omega))
  · refine M.run rfl (M.retF rfl rfl ⟨?_, e1⟩)
    rw [idx_none (fun j x hj => hn j x (by have := of_decide_eq_false h; have := (List.getElem?_eq_some_iff.1 hj).1; omega) hj)]
    rfl

theorem contains_int (x : Int) (xs : List Int) (A : Option Addr) (c : Nat) (w : World) (hA : Rd dI w A c xs) :
    Calls Try.prog 73 #[.slice A xs.length c, .int .i64 x] w fun e w' => e = .returned (.bool (xs.contains x)) ∧ w.grownBy w' none := by
  refine calls (G := G) (args := [.slice A xs.length c, .int .i64 x]) Try.func73 rfl rfl rfl ?_
  refine M.run rfl (M.cl rfl (index_int x xs A c w hA) ?_)
  rintro e w2 ⟨rfl, e2⟩
  refine ⟨_, rfl, M.run rfl (M.retF rfl rfl ⟨?_, e2⟩)⟩
  rw [List.contains_eq_any_beq, ← idx_any]; rfl

theorem index_bool (x : Bool) (xs : List Bool) (A : Option Addr) (c : Nat) (w : World) (hA : Rd dB w A c xs) :
    Calls Try.prog 111 #[.slice A xs.length c, .bool x] w fun e w' => e = .returned (.int .i64 (idxOf (fun y => x == y) xs)) ∧ w.grownBy w' none := by
  refine calls (G := G) (args := [.slice A xs.length c, .bool x]) Try.func111 rfl rfl rfl ?_
  refine M.run rfl ?_
  refine M.loop (σ := Nat) (fun i => [(0, .slice A xs.length c), (1, .bool x), (7, .int .i64 xs.length), (8, .int .i64 (i : Int))]) (fun i w' => i ≤ xs.length ∧ w.grownBy w' none ∧ ∀ j y, j < i → xs[j]? = some y → (x == y) = false)
    (fun i => xs.length - i) 0 ⟨rfl, rfl, rfl, rfl, trivial⟩ ⟨Nat.zero_le _, gr_refl _ _, fun j y h => by omega⟩ ?_
  rintro i w1 ⟨hi, e1, hn⟩
  refine M.run rfl (M.cond rfl (fun h => ?_) (fun h => ?_))
  · have hlt : i < xs.length := by have := of_decide_eq_true h; omega
    obtain ⟨hA1, hC⟩ := rd_flat hA hlt
    refine M.run rfl (M.ix rfl (by omega) (by omega) hA1 (M.run rfl (M.ld rfl ((hC w1 (gr_below e1)).one 0 rfl (by simp [Addr.add])) (M.run rfl (M.cond rfl (fun h2 => ?_) (fun h2 => ?_))))))
    · exact M.run rfl (M.retF rfl rfl ⟨by rw [idx_at hlt hn h2]; rfl, e1⟩)
    · refine M.run rfl (M.end_ ⟨i + 1, ⟨rfl, rfl, rfl, ?_, trivial⟩, ⟨by omega, e1, idx_step hlt hn h2⟩, by omega⟩)
      exact congrArg (fun z => some (Value.int .i64 z)) (w64 (by omega) (by have := hA.bd; omega))
  · refine M.run rfl (M.retF rfl rfl ⟨?_, e1⟩)
    rw [idx_none (fun j x hj => hn j x (by have := of_decide_eq_false h; have := (List.getElem?_eq_some_iff.1 hj).1; omega) hj)]
    rfl

theorem clone_go (xs : List Int) (A : Option Addr) (c : Nat) (w : World) (hA : Rd dI w A c xs) (hs : xs.length ≤ 1000000) (hnil : A = none → xs = []) :
    Calls Try.prog 75 #[.slice A xs.length c] w fun e w' => ∃ X x, e = .returned (.slice X xs.length x) ∧ Vc.Own dI 3 w' w.heap.size no X x xs ∧ w.grownBy w' none := by
  refine calls (G := G) (args := [.slice A xs.length c]) Try.func75 rfl rfl rfl ?_
  refine M.run rfl (M.ys (YS.eqNil rfl) (M.run rfl (M.cond rfl (fun h => ?_) (fun h => ?_))))
  · have : xs = [] := hnil (by simpa using h)
    subst this
    exact M.run rfl (M.retF rfl rfl ⟨none, 0, rfl, Own.nil _ _ _ _ _, gr_refl _ _⟩)
  · refine M.run rfl (M.bs0 rfl fun g w1 b1 e1 l1 => M.run rfl ?_)
    have hsrc : SrcAt dI w1 (fun b => no b ∧ some b ≠ blkOf (some ⟨g, 0, none⟩)) (adOf A) xs := fun j y hj => by
      obtain ⟨_, _, cs, hk, hc⟩ := (hA.mv e1).at_ j y hj
      exact ⟨cs, hk, hc⟩
    refine M.appS (d := dI) rfl rfl (own_bs0 dI no b1 l1) rfl (by decide) rfl (ys := xs) rfl hnil hsrc e1.size (by simp; omega) (by decide) fun X x w2 hX e2 hat => ?_
    have e02 := (own_bs0 dI no b1 l1).gr e1 e2 (Nat.le_refl _)
    exact M.run rfl (M.retF rfl rfl ⟨X, x, rfl, by simpa using hX, e02⟩)
end Go.Proofs.Ytaimlmfncjbmjaa
end

section
/- Levels: what changes at one number; what a partL of the loops has done. -/
namespace Lp
def upd (f : Lev) (i : Nat) (b : Bool) : Lev := fun x => if x = i then b else f x
def startN (s : Store) (k : Nat) : Lev := fun o => decide (s.lo ≤ (o : Int)) && decide ((o : Int) < s.lo + (k : Int))
theorem startN_succ (s : Store) (k : Nat) (h0 : 0 ≤ s.lo) (o : Nat) : startN s (k + 1) o = upd (startN s k) (s.lo + (k : Int)).toNat true o := by
  unfold upd startN
  by_cases h : o = (s.lo + (k : Int)).toNat
  · subst h
    rw [if_pos rfl]
    simp; omega
  · rw [if_neg h]
    congr 1
    simp only [decide_eq_decide]
    omega
theorem startN_all (s : Store) (p : Plan) (l : List Dip) (k : Nat) (h : s.lo + (k : Int) = s.hi + 1) (o : Nat) : startN s k o = fwd s p l 0 o := by
  unfold startN fwd
  congr 1
  simp only [decide_eq_decide]
  omega
/-- in the loop over a night's numbers: so many have been entered -/
def enter (l : List Dip) (i : Nat) (g : Lev) (xs : List Int) : Lev := fun x => g x || (xs.contains (x : Int) && agreesB l i (x : Int))
theorem enter_nil (l : List Dip) (i : Nat) (g : Lev) : enter l i g [] = g := by
  funext x; simp [enter]
theorem enter_snoc (l : List Dip) (i : Nat) (g : Lev) (xs : List Int) (y : Int) (hy : 0 ≤ y) (x : Nat) :
    enter l i g (xs ++ [y]) x = upd (enter l i g xs) y.toNat (enter l i g xs y.toNat || agreesB l i y) x := by
  unfold upd
  have hyy : ((y.toNat : Nat) : Int) = y := by omega
  by_cases h : x = y.toNat
  · subst h
    rw [if_pos rfl]
    unfold enter
    rw [hyy]
    cases g y.toNat <;> cases hc : xs.contains y <;> cases agreesB l i y <;> simp_all
  · rw [if_neg h]
    unfold enter
    have hne : ¬ ((x : Int) = y) := by omega
    simp [hne]
theorem step0_skip {s : Store} {p : Plan} {l : List Dip} {i : Nat} {f : Lev} {m : Nat} (h : f m = false) : step0 s p l i f (m + 1) = step0 s p l i f m := by
  funext x
  unfold step0
  rw [List.range_succ, List.any_append]
  simp [h]
theorem step0_enter {s : Store} {p : Plan} {l : List Dip} {i : Nat} {f : Lev} {m : Nat} (h : f m = true) : step0 s p l i f (m + 1) = enter l i (step0 s p l i f m) (nightL s p i (m : Int)) := by
  funext x
  unfold step0 enter
  rw [List.range_succ, List.any_append]
  simp [h]

/-- in the loop that removes what cannot go on: so many have been looked at -/
def onN (s : Store) (p : Plan) (i : Nat) (g f : Lev) (m : Nat) : Lev := fun o => if o < m then onB s p i g f o else f o
theorem onN_zero (s : Store) (p : Plan) (i : Nat) (g f : Lev) : onN s p i g f 0 = f := by funext o; simp [onN]
theorem onN_all (s : Store) (p : Plan) (i : Nat) (g f : Lev) (o : Nat) (h : o < 401) : onN s p i g f 401 o = onB s p i g f o := by simp [onN, h]
theorem onN_succ (s : Store) (p : Plan) (i : Nat) (g f : Lev) (m : Nat) : onN s p i g f (m + 1) = upd (onN s p i g f m) m (onB s p i g f m) := by
  funext o
  show (if o < m + 1 then onB s p i g f o else f o) = if o = m then onB s p i g f m else if o < m then onB s p i g f o else f o
  by_cases h : o = m
  · subst h; simp
  · rw [if_neg h]
    by_cases h2 : o < m
    · rw [if_pos h2, if_pos (by omega)]
    · rw [if_neg h2, if_neg (by omega)]
/-- the levels when those from j on have been gone through -/
def partL (s : Store) (p : Plan) (l : List Dip) (n j : Nat) : List Lev := (List.range n).map fun i => if j ≤ i then levelAt s p l n i else fwd s p l (i + 1)
theorem partL_all (s : Store) (p : Plan) (l : List Dip) : partL s p l s.nights.length 0 = levels s p l := by simp [partL, levels]
theorem partL_start (s : Store) (p : Plan) (l : List Dip) (n : Nat) (hn : 0 < n) : partL s p l n (n - 1) = (List.range n).map fun i => fwd s p l (i + 1) := by
  unfold partL
  apply List.map_congr_left
  intro i hi
  have := List.mem_range.1 hi
  by_cases h : n - 1 ≤ i
  · have : i = n - 1 := by omega
    subst this
    rw [if_pos (Nat.le_refl _)]
    unfold levelAt
    rw [Nat.sub_self]
    simp only [bwd]
    rw [show n - 1 + 1 = n by omega]
  · rw [if_neg h]
theorem levelAt_step (s : Store) (p : Plan) (l : List Dip) (n i : Nat) (h : i + 1 < n) : levelAt s p l n i = onB s p i (levelAt s p l n (i + 1)) (fwd s p l (i + 1)) := by
  unfold levelAt
  have e : n - 1 - i = (n - 1 - (i + 1)) + 1 := by omega
  rw [e]
  simp only [bwd]
  have e1 : n - 2 - (n - 1 - (i + 1)) = i := by omega
  have e2 : n - 1 - (n - 1 - (i + 1)) = i + 1 := by omega
  rw [e1, e2]
theorem partL_get (s : Store) (p : Plan) (l : List Dip) (n j i : Nat) (h : i < n) : (partL s p l n j)[i]? = some (if j ≤ i then levelAt s p l n i else fwd s p l (i + 1)) := by simp [partL, h]
theorem partL_len (s : Store) (p : Plan) (l : List Dip) (n j : Nat) : (partL s p l n j).length = n := by simp [partL]
/-- the levels while the j-th is gone through -/
def partIn (s : Store) (p : Plan) (l : List Dip) (n j m : Nat) : List Lev := (partL s p l n (j + 1)).set j (onN s p j (levelAt s p l n (j + 1)) (fwd s p l (j + 1)) m)
theorem partIn_len (s : Store) (p : Plan) (l : List Dip) (n j m : Nat) : (partIn s p l n j m).length = n := by simp [partIn, partL_len]
theorem partIn_self (s : Store) (p : Plan) (l : List Dip) (n j m : Nat) (h : j < n) : (partIn s p l n j m)[j]? = some (onN s p j (levelAt s p l n (j + 1)) (fwd s p l (j + 1)) m) := by
  unfold partIn
  rw [List.getElem?_set_self (by rw [partL_len]; exact h)]
theorem partIn_next (s : Store) (p : Plan) (l : List Dip) (n j m : Nat) (h : j + 1 < n) : (partIn s p l n j m)[j + 1]? = some (levelAt s p l n (j + 1)) := by
  unfold partIn
  rw [List.getElem?_set_ne (by omega), partL_get _ _ _ _ _ _ h]
  simp
theorem partIn_zero (s : Store) (p : Plan) (l : List Dip) (n j : Nat) (h : j < n) : partIn s p l n j 0 = partL s p l n (j + 1) := by
  unfold partIn
  rw [onN_zero]
  apply List.ext_getElem?
  intro i
  by_cases e : j = i
  · subst e
    rw [List.getElem?_set_self (by rw [partL_len]; exact h), partL_get _ _ _ _ _ _ h, if_neg (by omega)]
  · rw [List.getElem?_set_ne e]
theorem partIn_succ (s : Store) (p : Plan) (l : List Dip) (n j m : Nat) : partIn s p l n j (m + 1) = (partIn s p l n j m).set j (upd (onN s p j (levelAt s p l n (j + 1)) (fwd s p l (j + 1)) m) m (onB s p j (levelAt s p l n (j + 1)) (fwd s p l (j + 1)) m)) := by
  unfold partIn
  rw [List.set_set, onN_succ]
/-- all numbers of the j-th have been gone through -/
theorem partIn_all {β : Type} (enc : Lev → β) (he : ∀ f g : Lev, (∀ x, x < 401 → f x = g x) → enc f = enc g) (s : Store) (p : Plan) (l : List Dip) (n j : Nat) (h : j + 1 < n) : (partIn s p l n j 401).map enc = (partL s p l n j).map enc := by
  apply List.ext_getElem?
  intro i
  simp only [List.getElem?_map]
  by_cases hi : i < n
  · rw [partL_get _ _ _ _ _ _ hi]
    by_cases hij : j = i
    · subst hij
      rw [partIn_self _ _ _ _ _ _ hi, if_pos (Nat.le_refl _)]
      simp only [Option.map_some, Option.some.injEq]
      refine he _ _ fun x hx => ?_
      rw [onN_all _ _ _ _ _ _ hx, levelAt_step s p l n j h]
    · unfold partIn
      rw [List.getElem?_set_ne hij, partL_get _ _ _ _ _ _ hi]
      by_cases h2 : j + 1 ≤ i
      · rw [if_pos h2, if_pos (by omega)]
      · rw [if_neg h2, if_neg (by omega)]
  · rw [List.getElem?_eq_none (by rw [partIn_len]; omega), List.getElem?_eq_none (by rw [partL_len]; omega)]
theorem partL_old (s : Store) (p : Plan) (l : List Dip) (n j : Nat) (h : j < n) : (partL s p l n (j + 1))[j]? = some (fwd s p l (j + 1)) := by
  rw [partL_get _ _ _ _ _ _ h, if_neg (by omega)]
end Lp
end

section
/- Each level has a number of oil. -/
namespace Lp
theorem levelAt_sub (s : Store) (p : Plan) (l : List Dip) (n i : Nat) (h : i < n) (x : Nat) (hx : levelAt s p l n i x = true) : fwd s p l (i + 1) x = true := by
  by_cases hi : i + 1 < n
  · rw [levelAt_step s p l n i hi] at hx
    unfold onB at hx
    rw [Bool.and_eq_true] at hx
    exact hx.1
  · have : i = n - 1 := by omega
    subst this
    unfold levelAt at hx
    rw [Nat.sub_self] at hx
    simp only [bwd] at hx
    rw [show n - 1 + 1 = n by omega]
    exact hx
theorem fwd_from (s : Store) (p : Plan) (l : List Dip) (i x : Nat) (hx : fwd s p l (i + 1) x = true) : ∃ o, o ≤ 400 ∧ fwd s p l i o = true ∧ (x : Int) ∈ nightL s p i (o : Int) ∧ agreesB l i (x : Int) = true := by
  simp only [fwd, step0, List.any_eq_true, List.mem_range, Bool.and_eq_true] at hx
  obtain ⟨o, ho, h1, h2, h3⟩ := hx
  exact ⟨o, by omega, h1, by simpa using h2, h3⟩
theorem level_some {s : Store} {p : Plan} {l : List Dip} (hok : levelsOk s p l = true) {i : Nat} (hi : i < s.nights.length) : none_ (levelAt s p l s.nights.length i) = false := by
  have hf : ∀ j, j < s.nights.length → none_ (fwd s p l (j + 1)) = false := fun j hj => by
    unfold levelsOk at hok
    have := List.all_eq_true.1 hok j (List.mem_range.2 hj)
    simpa using this
  have key : ∀ k, k < s.nights.length → none_ (levelAt s p l s.nights.length (s.nights.length - 1 - k)) = false := by
    intro k
    induction k with
    | zero =>
      intro hk
      have h := hf (s.nights.length - 1) (by omega)
      unfold levelAt
      rw [show s.nights.length - 1 - (s.nights.length - 1 - 0) = 0 by omega]
      simp only [bwd]
      rw [show s.nights.length - 1 + 1 = s.nights.length by omega] at h
      exact h
    | succ k ih =>
      intro hk
      obtain ⟨x, hx, ht⟩ := (some_iff _).1 (ih (by omega))
      have hsub := levelAt_sub s p l s.nights.length (s.nights.length - 1 - k) (by omega) x ht
      have e : s.nights.length - 1 - k = (s.nights.length - 1 - (k + 1)) + 1 := by omega
      rw [e] at hsub ht
      obtain ⟨o, ho, h1, h2, _⟩ := fwd_from s p l _ x hsub
      refine (some_iff _).2 ⟨o, ho, ?_⟩
      rw [levelAt_step s p l _ _ (by omega)]
      unfold onB
      rw [Bool.and_eq_true]
      refine ⟨h1, List.any_eq_true.2 ⟨_, h2, by simpa using ht⟩⟩
  have := key (s.nights.length - 1 - i) (by omega)
  rwa [show s.nights.length - 1 - (s.nights.length - 1 - i) = i by omega] at this
end Lp
end

section
/- The smallest set of dips that can be left out. -/
namespace Lp
def keptN (l : List Dip) (out : List Int) (m : Nat) : List Dip := ((l.take m).zipIdx.filter fun x => !out.contains (x.2 : Int)).map (·.1)
def kept (l : List Dip) (out : List Int) : List Dip := keptN l out l.length
theorem keptN_succ (l : List Dip) (out : List Int) (m : Nat) (h : m < l.length) : keptN l out (m + 1) = if out.contains (m : Int) then keptN l out m else keptN l out m ++ [l[m]] := by
  unfold keptN
  have hz : (l.take (m + 1)).zipIdx = (l.take m).zipIdx ++ [(l[m], m)] := by
    rw [List.take_add_one, List.getElem?_eq_getElem h, List.zipIdx_append]
    simp [Nat.min_eq_left (Nat.le_of_lt h)]
  rw [hz, List.filter_append, List.map_append]
  cases hc : out.contains (m : Int) <;> simp_all [List.filter_cons]
theorem keptN_len (l : List Dip) (out : List Int) (m : Nat) : (keptN l out m).length ≤ m := by
  unfold keptN
  rw [List.length_map]
  exact Nat.le_trans (List.length_filter_le _ _) (by simp; omega)
def leaveT (s : Store) (p : Plan) (l : List Dip) : Nat → List Int → Nat → Option (List Int)
  | 0, out, _ => if levelsOk s p (kept l out) then some out else none
  | m + 1, out, i => (List.range' i (l.length - i)).findSome? fun (j : Nat) => leaveT s p l m (out ++ [(j : Int)]) (j + 1)
def leaveS (s : Store) (p : Plan) (l : List Dip) : Option (List Int) := (List.range (l.length + 1)).findSome? fun m => leaveT s p l m [] 0
def leaveE (s : Store) (p : Plan) (l : List Dip) : Int := dippedE s p l
def leaveR (s : Store) (p : Plan) (l : List Dip) : List Int := if dippedE s p l = 0 then (leaveS s p l).getD [] else []

theorem findSome_range' {β : Type} (f : Nat → Option β) (i n : Nat) : (List.range' i (n + 1)).findSome? f = ((List.range' i n).findSome? f).or (f (i + n)) := by
  rw [List.range'_concat, List.findSome?_append]
  simp

theorem rest_zero (n : Night) (o w b : Int) : ∃ r, r = rest n o w b := ⟨_, rfl⟩
/-- without dips there is a number of oil after each night -/
theorem fwd_free {s : Store} {p : Plan} (hf : Fine s p) : ∀ i, i ≤ s.nights.length → none_ (fwd s p [] i) = false
  | 0, _ => by
    have h := hf.ok.start
    have hc := hf.ok.cap
    refine (some_iff _).2 ⟨s.lo.toNat, by omega, ?_⟩
    simp only [fwd, Bool.and_eq_true, decide_eq_true_eq]
    omega
  | i + 1, hi => by
    obtain ⟨o, ho, ht⟩ := (some_iff _).1 (fwd_free hf i (by omega))
    have hn := hf.ok.nt (show i < s.nights.length by omega)
    have hmem : rest (nt s i) (now s (o : Int) (at0 p.cans i)) (at0 p.wicks i) ((nt s i).lo + ((0 : Nat) : Int)) ∈ nightL s p i (o : Int) := by
      unfold nightL nightN
      exact List.mem_map.2 ⟨0, List.mem_range.2 (by omega), rfl⟩
    have hb := night_bd hf (show i < s.nights.length by omega) (show (0 : Int) ≤ (o : Int) by omega) _ hmem
    generalize rest (nt s i) (now s (o : Int) (at0 p.cans i)) (at0 p.wicks i) ((nt s i).lo + ((0 : Nat) : Int)) = x at hmem hb
    refine (some_iff _).2 ⟨x.toNat, by omega, ?_⟩
    have hx : ((x.toNat : Nat) : Int) = x := by omega
    simp only [fwd, step0, List.any_eq_true, List.mem_range, Bool.and_eq_true]
    refine ⟨o, by omega, ht, ?_, by simp [agreesB]⟩
    rw [hx]; simpa using hmem
theorem free_ok {s : Store} {p : Plan} (hf : Fine s p) : levelsOk s p [] = true := by
  unfold levelsOk
  rw [List.all_eq_true]
  intro i hi
  have := List.mem_range.1 hi
  rw [fwd_free hf (i + 1) (by omega)]; rfl

/-- all are left out by the list of all numbers -/
theorem leaveT_chain {s : Store} {p : Plan} (hf : Fine s p) (l : List Dip) : ∀ (m i : Nat), i + m = l.length → (leaveT s p l m ((List.range i).map Int.ofNat) i).isSome = true
  | 0, i, h => by
    have hk : kept l ((List.range i).map Int.ofNat) = [] := by
      unfold kept keptN
      rw [List.map_eq_nil_iff, List.filter_eq_nil_iff]
      rintro ⟨x, j⟩ hx
      have hj : j < l.length := by
        rw [List.mem_zipIdx_iff_getElem?] at hx
        simp only [List.getElem?_take] at hx
        split at hx
        · assumption
        · cases hx
      have : ((List.range i).map Int.ofNat).contains (j : Int) = true := by
        rw [List.contains_iff_mem]
        exact List.mem_map.2 ⟨j, List.mem_range.2 (by omega), rfl⟩
      show ¬ (!((List.range i).map Int.ofNat).contains (j : Int)) = true
      rw [this]
      simp
    unfold leaveT
    rw [hk, free_ok hf]; rfl
  | m + 1, i, h => by
    unfold leaveT
    have ih := leaveT_chain hf l m (i + 1) (by omega)
    rw [List.range_succ, List.map_append] at ih
    rw [show l.length - i = m + 1 by omega, List.range'_succ, List.findSome?_cons]
    split
    · rfl
    · rename_i hnone
      have e : (List.range i).map Int.ofNat ++ [(i : Int)] = (List.range i).map Int.ofNat ++ [i].map Int.ofNat := rfl
      rw [e] at hnone
      rw [hnone] at ih
      cases ih
theorem leaveS_some {s : Store} {p : Plan} (hf : Fine s p) (l : List Dip) : (leaveS s p l).isSome = true := by
  unfold leaveS
  rw [List.findSome?_isSome_iff]
  exact ⟨l.length, by simp, leaveT_chain hf l l.length 0 (by omega)⟩
end Lp
end

section
/- The search for the best numbers of all nights. -/
namespace Lp
structure Wk where
  low : Nat → Int
  high : Nat → Int
  cost : Nat → Int → Int
  cans : Nat → Int → Int
  wicks : Nat → Int → Int
def never : Int := 1048576
def Wk.left (W : Wk) (s : Store) (i : Nat) (oil x : Int) : Int := rest (nt s i) (now s oil (W.cans i x)) (W.wicks i x) (nt s i).hi
def Wk.lit (W : Wk) (s : Store) (i : Nat) (oil x : Int) : Bool := litB (nt s i) (now s oil (W.cans i x)) (W.wicks i x) (nt s i).hi
/-- how many numbers a night has -/
def Wk.many (W : Wk) (i : Nat) : Nat := (W.high i - W.low i + 1).toNat
/-- the smallest cost when so many numbers have been tried; g: that of the nights behind -/
def Wk.tryN (W : Wk) (s : Store) (i : Nat) (oil : Int) (g : Int → Int) (m : Nat) : Int :=
  (List.range m).foldl (fun (best : Int) (k : Nat) => if W.lit s i oil (W.low i + (k : Int)) then (if W.cost i (W.low i + (k : Int)) + g (W.left s i oil (W.low i + (k : Int))) < best then W.cost i (W.low i + (k : Int)) + g (W.left s i oil (W.low i + (k : Int))) else best) else best) never
/-- the smallest cost of so many last nights -/
def Wk.cheap (W : Wk) (s : Store) : Nat → Int → Int
  | 0, _ => 0
  | k + 1, oil => W.tryN s (s.nights.length - (k + 1)) oil (W.cheap s k) (W.many (s.nights.length - (k + 1)))
theorem Wk.tryN_succ (W : Wk) (s : Store) (i : Nat) (oil : Int) (g : Int → Int) (m : Nat) : W.tryN s i oil g (m + 1) =
    if W.lit s i oil (W.low i + (m : Int)) then (if W.cost i (W.low i + (m : Int)) + g (W.left s i oil (W.low i + (m : Int))) < W.tryN s i oil g m then W.cost i (W.low i + (m : Int)) + g (W.left s i oil (W.low i + (m : Int))) else W.tryN s i oil g m) else W.tryN s i oil g m := by
  unfold Wk.tryN
  rw [List.range_succ, List.foldl_append]
  rfl
/-- numbers within bounds -/
structure Wk.Ok (W : Wk) (s : Store) : Prop where
  low : ∀ i, i < s.nights.length → 0 ≤ W.low i ∧ W.low i ≤ W.high i ∧ W.high i ≤ 4
  cost : ∀ i, i < s.nights.length → ∀ x, W.low i ≤ x → x ≤ W.high i → -100 ≤ W.cost i x ∧ W.cost i x ≤ 100
  cans : ∀ i, i < s.nights.length → ∀ x, W.low i ≤ x → x ≤ W.high i → 0 ≤ W.cans i x ∧ W.cans i x ≤ 2
  wicks : ∀ i, i < s.nights.length → ∀ x, W.low i ≤ x → x ≤ W.high i → 1 ≤ W.wicks i x ∧ W.wicks i x ≤ 4
theorem Wk.Ok.many {W : Wk} {s : Store} (h : W.Ok s) {i : Nat} (hi : i < s.nights.length) {k : Nat} (hk : k < W.many i) : W.low i ≤ W.low i + (k : Int) ∧ W.low i + (k : Int) ≤ W.high i := by
  have := h.low i hi
  unfold Wk.many at hk
  omega
theorem Wk.tryN_bd {W : Wk} {s : Store} (h : W.Ok s) {i : Nat} (hi : i < s.nights.length) (oil : Int) {g : Int → Int} {b : Int} (hb : 0 ≤ b ∧ b ≤ 1000) (hg : ∀ o, -b ≤ g o) : ∀ m, m ≤ W.many i → -(b + 100) ≤ W.tryN s i oil g m ∧ W.tryN s i oil g m ≤ never
  | 0, _ => by
    have : W.tryN s i oil g 0 = never := rfl
    rw [this]; unfold never; omega
  | m + 1, hm => by
    have ih := Wk.tryN_bd h hi oil hb hg m (by omega)
    have hx := h.many hi (show m < W.many i by omega)
    have hc := h.cost i hi _ hx.1 hx.2
    have := hg (W.left s i oil (W.low i + (m : Int)))
    rw [Wk.tryN_succ]
    split
    · split
      · omega
      · exact ih
    · exact ih
theorem Wk.cheap_bd {W : Wk} {s : Store} (h : W.Ok s) (hn : s.nights.length ≤ 6) : ∀ k, k ≤ s.nights.length → ∀ oil, -(100 * (k : Int)) ≤ W.cheap s k oil ∧ W.cheap s k oil ≤ never
  | 0, _, oil => by unfold Wk.cheap never; omega
  | k + 1, hk, oil => by
    have ih := Wk.cheap_bd h hn k (by omega)
    have := Wk.tryN_bd h (show s.nights.length - (k + 1) < s.nights.length by omega) oil (g := W.cheap s k) (b := 100 * (k : Int)) (by omega) (fun o => (ih o).1) (W.many (s.nights.length - (k + 1))) (Nat.le_refl _)
    unfold Wk.cheap
    omega
/-- what is below never was found at some number -/
theorem Wk.tryN_found {W : Wk} {s : Store} {i : Nat} {oil : Int} {g : Int → Int} : ∀ m, W.tryN s i oil g m < never → ∃ k, k < m ∧ W.lit s i oil (W.low i + (k : Int)) = true ∧ W.cost i (W.low i + (k : Int)) + g (W.left s i oil (W.low i + (k : Int))) = W.tryN s i oil g m
  | 0, h => by
    have : W.tryN s i oil g 0 = never := rfl
    rw [this] at h; omega
  | m + 1, h => by
    rw [Wk.tryN_succ] at h ⊢
    split at h
    · rename_i hl
      rw [if_pos hl]
      split at h
      · rename_i hlt
        rw [if_pos hlt]
        exact ⟨m, by omega, hl, rfl⟩
      · rename_i hge
        rw [if_neg hge]
        obtain ⟨k, h1, h2, h3⟩ := Wk.tryN_found m h
        exact ⟨k, by omega, h2, h3⟩
    · rename_i hl
      rw [if_neg hl]
      obtain ⟨k, h1, h2, h3⟩ := Wk.tryN_found m h
      exact ⟨k, by omega, h2, h3⟩
/-- does the number fit, when so much is left to be paid? -/
def Wk.fits (W : Wk) (s : Store) (i : Nat) (oil : Int) (g : Int → Int) (left : Int) (k : Nat) : Bool := W.lit s i oil (W.low i + (k : Int)) && (W.cost i (W.low i + (k : Int)) + g (W.left s i oil (W.low i + (k : Int))) == left)
def Wk.first (W : Wk) (s : Store) (i : Nat) (oil : Int) (g : Int → Int) (left : Int) : Nat := ((List.range (W.many i)).find? (W.fits s i oil g left)).getD 0
/-- the best numbers of so many last nights -/
def Wk.picks (W : Wk) (s : Store) : Nat → Int → List Int
  | 0, _ => []
  | k + 1, oil =>
    let i := s.nights.length - (k + 1)
    let x := W.low i + (W.first s i oil (W.cheap s k) (W.cheap s (k + 1) oil) : Int)
    x :: W.picks s k (W.left s i oil x)
def Wk.found (W : Wk) (s : Store) : Bool := decide (W.cheap s s.nights.length s.lo < 524288)
def Wk.best (W : Wk) (s : Store) : List Int := if W.found s then W.picks s s.nights.length s.lo else []
def Wk.bestC (W : Wk) (s : Store) : Int := if W.found s then W.cheap s s.nights.length s.lo else 0

theorem find_first {p : Nat → Bool} {n k : Nat} (hk : k < n) (hp : p k = true) : ∃ j, j ≤ k ∧ (List.range n).find? p = some j ∧ p j = true ∧ ∀ i, i < j → p i = false := by
  induction k using Nat.strongRecOn with
  | ind k ih =>
    by_cases h : ∃ j, j < k ∧ p j = true
    · obtain ⟨j, hj, hpj⟩ := h
      obtain ⟨i, h1, h2, h3⟩ := ih j hj (by omega) hpj
      exact ⟨i, by omega, h2, h3⟩
    · have hb : ∀ i, i < k → p i = false := fun i hi => by
        cases hpi : p i with
        | false => rfl
        | true => exact absurd ⟨i, hi, hpi⟩ h
      refine ⟨k, Nat.le_refl _, ?_, hp, hb⟩
      have hsplit : n = k + (n - k - 1 + 1) := by omega
      rw [hsplit, List.range_add, List.find?_append, List.find?_eq_none.2 (by intro x hx; rw [hb x (List.mem_range.1 hx)]; simp), List.range_succ_eq_map]
      simp [hp]
theorem Wk.first_spec {W : Wk} {s : Store} {i : Nat} {oil : Int} {g : Int → Int} (h : W.tryN s i oil g (W.many i) < never) :
    W.first s i oil g (W.tryN s i oil g (W.many i)) < W.many i ∧ W.fits s i oil g (W.tryN s i oil g (W.many i)) (W.first s i oil g (W.tryN s i oil g (W.many i))) = true ∧ ∀ k, k < W.first s i oil g (W.tryN s i oil g (W.many i)) → W.fits s i oil g (W.tryN s i oil g (W.many i)) k = false := by
  obtain ⟨k, hk, h1, h2⟩ := Wk.tryN_found _ h
  obtain ⟨j, hj, hf, hp, hb⟩ := find_first (p := W.fits s i oil g (W.tryN s i oil g (W.many i))) hk (by unfold Wk.fits; rw [h1, h2]; simp)
  unfold Wk.first
  rw [hf]
  exact ⟨by simp; omega, hp, hb⟩
theorem Wk.left_bd {W : Wk} {s : Store} (hs : s.Ok) (h : W.Ok s) {i : Nat} (hi : i < s.nights.length) {oil : Int} (ho : 0 ≤ oil ∧ oil ≤ 400) {x : Int} (h1 : W.low i ≤ x) (h2 : x ≤ W.high i) : 0 ≤ W.left s i oil x ∧ W.left s i oil x ≤ 400 := by
  have hc := h.cans i hi x h1 h2
  have hw := h.wicks i hi x h1 h2
  have hcan := hs.can
  have hcap := hs.cap
  have hn := hs.nt hi
  have hm := mul_bd hc ⟨Int.le_trans (by omega) hcan.1, hcan.2⟩ (by omega : (0 : Int) ≤ 2)
  have a := now_bd (s := s) (oil := oil) (c := W.cans i x) ho.1 hm.1 (by omega)
  have b := rest_bd (n := nt s i) (w := W.wicks i x) (b := (nt s i).hi) a.1 (need_nn (by omega) (by omega) (by omega))
  unfold Wk.left
  omega
end Lp
end

section
/- The best cans, the best wicks. -/
namespace Lp
def wkD (wicks : List Int) : Wk := ⟨fun _ => 0, fun _ => 2, fun _ x => x, fun _ x => x, fun i _ => at0 wicks i⟩
def wkT (s : Store) (cans : List Int) : Wk := ⟨fun i => (nt s i).least, fun i => (nt s i).most, fun i x => -x * (nt s i).hours, fun i _ => at0 cans i, fun _ x => x⟩
def deliverE (s : Store) (wicks : List Int) : Int := if checkStore s ≠ 0 then checkStore s else if wicksOk s wicks then (if (wkD wicks).found s then 0 else 10) else 2
def deliverR (s : Store) (wicks : List Int) : List Int := if deliverE s wicks = 0 then (wkD wicks).best s else []
def deliverC (s : Store) (wicks : List Int) : Int := if deliverE s wicks = 0 then (wkD wicks).bestC s else 0
def trimE (s : Store) (cans : List Int) : Int := if checkStore s ≠ 0 then checkStore s else if cansOk s cans then (if (wkT s cans).found s then 0 else 10) else 2
def trimR (s : Store) (cans : List Int) : List Int := if trimE s cans = 0 then (wkT s cans).best s else []
def trimC (s : Store) (cans : List Int) : Int := if trimE s cans = 0 then -(wkT s cans).bestC s else 0
theorem wkD_ok {s : Store} {wicks : List Int} (hs : s.Ok) (h : wicksOk s wicks = true) : (wkD wicks).Ok s := by
  obtain ⟨hl, hw⟩ := wicksOk_spec h
  refine ⟨fun i hi => ?_, fun i hi x h1 h2 => ?_, fun i hi x h1 h2 => ?_, fun i hi x h1 h2 => ?_⟩
  · simp [wkD]
  · simp only [wkD] at h1 h2 ⊢; omega
  · simp only [wkD] at h1 h2 ⊢; omega
  · have := hw i (by omega)
    have := hs.nt hi
    simp only [wkD]; omega
theorem wkT_ok {s : Store} {cans : List Int} (hs : s.Ok) (h : cansOk s cans = true) : (wkT s cans).Ok s := by
  obtain ⟨hl, hw⟩ := cansOk_spec h
  refine ⟨fun i hi => ?_, fun i hi x h1 h2 => ?_, fun i hi x h1 h2 => ?_, fun i hi x h1 h2 => ?_⟩
  · have := hs.nt hi
    simp only [wkT]; omega
  · have hn := hs.nt hi
    simp only [wkT] at h1 h2 ⊢
    have := mul_bd (a := x) (A := 4) (b := (nt s i).hours) (B := 14) ⟨by omega, by omega⟩ ⟨by omega, by omega⟩ (by omega)
    have e : -x * (nt s i).hours = -(x * (nt s i).hours) := Int.neg_mul _ _
    rw [e]; omega
  · have := hw i (by omega)
    simp only [wkT]; omega
  · have := hs.nt hi
    simp only [wkT] at h1 h2 ⊢; omega
end Lp
end

section
/- The search finds the best numbers: the smallest cost, and the lexicographically first of these. -/
set_option linter.unusedVariables false
namespace Lp
def lexB : List Int → List Int → Bool
  | [], [] => false
  | [], _ :: _ => true
  | _ :: _, [] => false
  | x :: a, y :: b => if x = y then lexB a b else decide (x < y)
def litP (W : Wk) (s : Store) : List Int → Nat → Int → Bool
  | [], _, _ => true
  | x :: xs, i, oil => W.lit s i oil x && litP W s xs (i + 1) (W.left s i oil x)
def costP (W : Wk) : List Int → Nat → Int
  | [], _ => 0
  | x :: xs, i => W.cost i x + costP W xs (i + 1)
def inP (W : Wk) : List Int → Nat → Prop
  | [], _ => True
  | x :: xs, i => (W.low i ≤ x ∧ x ≤ W.high i) ∧ inP W xs (i + 1)

section
variable {W : Wk} {s : Store}
theorem tryN_le {i : Nat} {oil : Int} {g : Int → Int} : ∀ (m k : Nat), k < m → W.lit s i oil (W.low i + (k : Int)) = true → W.tryN s i oil g m ≤ W.cost i (W.low i + (k : Int)) + g (W.left s i oil (W.low i + (k : Int)))
  | 0, k, h, _ => by omega
  | m + 1, k, h, hl => by
    rw [Wk.tryN_succ]
    by_cases e : k = m
    · subst e
      rw [if_pos hl]
      split <;> omega
    · have ih := tryN_le (g := g) m k (by omega) hl
      split
      · split <;> omega
      · exact ih
theorem many_at (h : W.Ok s) {i : Nat} (hi : i < s.nights.length) {x : Int} (h1 : W.low i ≤ x) (h2 : x ≤ W.high i) : ∃ k, k < W.many i ∧ x = W.low i + (k : Int) := by
  have := h.low i hi
  refine ⟨(x - W.low i).toNat, ?_, by omega⟩
  unfold Wk.many
  omega
/-- no path is cheaper -/
theorem cheap_le (h : W.Ok s) : ∀ (k : Nat) (xs : List Int) (oil : Int), k ≤ s.nights.length → xs.length = k → inP W xs (s.nights.length - k) → litP W s xs (s.nights.length - k) oil = true → W.cheap s k oil ≤ costP W xs (s.nights.length - k)
  | 0, xs, oil, _, hl, _, _ => by
    have : xs = [] := List.eq_nil_of_length_eq_zero hl
    subst this
    simp [Wk.cheap, costP]
  | k + 1, [], oil, _, hl, _, _ => by simp at hl
  | k + 1, x :: xs, oil, hk, hl, hin, hlit => by
    simp only [inP] at hin
    simp only [litP, Bool.and_eq_true] at hlit
    obtain ⟨j, hj, rfl⟩ := many_at h (show s.nights.length - (k + 1) < s.nights.length by omega) hin.1.1 hin.1.2
    have e : s.nights.length - (k + 1) + 1 = s.nights.length - k := by omega
    have ih := cheap_le h k xs _ (by omega) (by simpa using hl) (by rw [← e]; exact hin.2) (by rw [← e]; exact hlit.2)
    have := tryN_le (g := W.cheap s k) (W.many (s.nights.length - (k + 1))) j hj hlit.1
    simp only [Wk.cheap, costP]
    rw [e]
    omega
/-- a cost is a true one, or near to never -/
theorem cheap_two (h : W.Ok s) : ∀ (k : Nat) (oil : Int), k ≤ s.nights.length → W.cheap s k oil ≤ 100 * (k : Int) ∨ never - 100 * (k : Int) ≤ W.cheap s k oil
  | 0, oil, _ => by left; simp [Wk.cheap]
  | k + 1, oil, hk => by
    have hi : s.nights.length - (k + 1) < s.nights.length := by omega
    by_cases hn : W.cheap s (k + 1) oil < never
    · have hn' : W.tryN s (s.nights.length - (k + 1)) oil (W.cheap s k) (W.many (s.nights.length - (k + 1))) < never := hn
      obtain ⟨j, hj, hl, he⟩ := Wk.tryN_found _ hn'
      have hx := h.many hi hj
      have hc := h.cost _ hi _ hx.1 hx.2
      have he' : W.cheap s (k + 1) oil = W.cost (s.nights.length - (k + 1)) (W.low (s.nights.length - (k + 1)) + (j : Int)) + W.cheap s k (W.left s (s.nights.length - (k + 1)) oil (W.low (s.nights.length - (k + 1)) + (j : Int))) := he.symm
      rcases cheap_two h k (W.left s (s.nights.length - (k + 1)) oil (W.low (s.nights.length - (k + 1)) + (j : Int))) (by omega) with h1 | h1
      · left; omega
      · right; omega
    · right; omega
/-- what is picked has the cost -/
theorem picks_spec (h : W.Ok s) (hn : s.nights.length ≤ 6) : ∀ (k : Nat) (oil : Int), k ≤ s.nights.length → W.cheap s k oil < 524288 →
    (W.picks s k oil).length = k ∧ inP W (W.picks s k oil) (s.nights.length - k) ∧ litP W s (W.picks s k oil) (s.nights.length - k) oil = true ∧ costP W (W.picks s k oil) (s.nights.length - k) = W.cheap s k oil
  | 0, oil, _, _ => by simp [Wk.picks, inP, litP, costP, Wk.cheap]
  | k + 1, oil, hk, hc => by
    have hi : s.nights.length - (k + 1) < s.nights.length := by omega
    have hlt : W.tryN s (s.nights.length - (k + 1)) oil (W.cheap s k) (W.many (s.nights.length - (k + 1))) < never := by unfold never; exact Int.lt_trans hc (by omega)
    obtain ⟨hf1, hf2, _⟩ := Wk.first_spec hlt
    have ec : W.cheap s (k + 1) oil = W.tryN s (s.nights.length - (k + 1)) oil (W.cheap s k) (W.many (s.nights.length - (k + 1))) := rfl
    rw [← ec] at hf1 hf2
    have hx := h.many hi hf1
    unfold Wk.fits at hf2
    simp only [Bool.and_eq_true, beq_iff_eq] at hf2
    have hco := h.cost _ hi _ hx.1 hx.2
    simp only [Wk.picks]
    generalize W.low (s.nights.length - (k + 1)) + (W.first s (s.nights.length - (k + 1)) oil (W.cheap s k) (W.cheap s (k + 1) oil) : Int) = x at hx hf2 hco
    have h2 := cheap_two h (k + 1) oil hk
    have h3 := cheap_two h k (W.left s (s.nights.length - (k + 1)) oil x) (by omega)
    unfold never at h2 h3
    obtain ⟨i1, i2, i3, i4⟩ := picks_spec h hn k (W.left s (s.nights.length - (k + 1)) oil x) (by omega) (by omega)
    have e : s.nights.length - (k + 1) + 1 = s.nights.length - k := by omega
    simp only [inP, litP, costP, List.length_cons, Bool.and_eq_true]
    rw [e]
    exact ⟨by omega, ⟨hx, i2⟩, ⟨hf2.1, i3⟩, by omega⟩
/-- no path of this cost is before it -/
theorem picks_lex (h : W.Ok s) (hn : s.nights.length ≤ 6) : ∀ (k : Nat) (xs : List Int) (oil : Int), k ≤ s.nights.length → W.cheap s k oil < 524288 → xs.length = k → inP W xs (s.nights.length - k) → litP W s xs (s.nights.length - k) oil = true →
    costP W xs (s.nights.length - k) = W.cheap s k oil → lexB xs (W.picks s k oil) = false
  | 0, xs, oil, _, _, hl, _, _, _ => by
    have : xs = [] := List.eq_nil_of_length_eq_zero hl
    subst this
    rfl
  | k + 1, [], oil, _, _, hl, _, _, _ => by simp at hl
  | k + 1, x :: xs, oil, hk, hc, hl, hin, hlit, hcost => by
    have hi : s.nights.length - (k + 1) < s.nights.length := by omega
    have hlt : W.tryN s (s.nights.length - (k + 1)) oil (W.cheap s k) (W.many (s.nights.length - (k + 1))) < never := by unfold never; exact Int.lt_trans hc (by omega)
    obtain ⟨hf1, hf2, hf3⟩ := Wk.first_spec hlt
    have ec : W.cheap s (k + 1) oil = W.tryN s (s.nights.length - (k + 1)) oil (W.cheap s k) (W.many (s.nights.length - (k + 1))) := rfl
    rw [← ec] at hf1 hf2 hf3
    simp only [inP] at hin
    simp only [litP, Bool.and_eq_true] at hlit
    simp only [costP] at hcost
    have e : s.nights.length - (k + 1) + 1 = s.nights.length - k := by omega
    rw [e] at hin hlit hcost
    obtain ⟨j, hj, rfl⟩ := many_at h hi hin.1.1 hin.1.2
    have hle := cheap_le h k xs _ (by omega) (by simpa using hl) hin.2 hlit.2
    have hle2 := tryN_le (g := W.cheap s k) (W.many (s.nights.length - (k + 1))) j hj hlit.1
    rw [← ec] at hle2
    have hco := h.cost _ hi _ hin.1.1 hin.1.2
    have hfit : W.fits s (s.nights.length - (k + 1)) oil (W.cheap s k) (W.cheap s (k + 1) oil) j = true := by
      unfold Wk.fits
      rw [hlit.1, Bool.true_and, beq_iff_eq]
      omega
    have hjf : W.first s (s.nights.length - (k + 1)) oil (W.cheap s k) (W.cheap s (k + 1) oil) ≤ j := by
      apply Classical.byContradiction
      intro hne
      have := hf3 j (by omega)
      rw [hfit] at this
      cases this
    have h2 := cheap_two h (k + 1) oil hk
    simp only [Wk.picks, lexB]
    by_cases he : j = W.first s (s.nights.length - (k + 1)) oil (W.cheap s k) (W.cheap s (k + 1) oil)
    · rw [if_pos (by rw [← he])]
      rw [← he]
      have h3 := cheap_two h k (W.left s (s.nights.length - (k + 1)) oil (W.low (s.nights.length - (k + 1)) + (j : Int))) (by omega)
      unfold never at h2 h3
      exact picks_lex h hn k xs _ (by omega) (by omega) (by simpa using hl) hin.2 hlit.2 (by omega)
    · rw [if_neg (by omega)]
      exact decide_eq_false (by omega)
end

/-! ### plans -/
theorem dark_nil (s : Store) (p : Plan) : ∀ n, darkL s p n = [] ↔ ∀ i, i < n → litAt s p (lowT s) i = true
  | 0 => by simp [darkL]
  | n + 1 => by
    rw [darkL_succ]
    have ih := dark_nil s p n
    constructor
    · intro h i hi
      split at h
      · rename_i hl
        by_cases e : i = n
        · subst e; exact hl
        · exact ih.1 h i (by omega)
      · simp at h
    · intro h
      rw [if_pos (h n (by omega))]
      exact ih.2 fun i hi => h i (by omega)
theorem lowT_burn (s : Store) {i : Nat} (hi : i < s.nights.length) : at0 (lowT s).burn i = (nt s i).hi := by
  rw [← at0_get (l := (lowT s).burn) (by simp [lowT]; exact hi), ← nt_get hi]
  simp [lowT]
theorem litP_dark {W : Wk} {s : Store} {p : Plan} {xs : List Int} (hl : xs.length = s.nights.length) (hc : ∀ i, i < s.nights.length → W.cans i (at0 xs i) = at0 p.cans i) (hw : ∀ i, i < s.nights.length → W.wicks i (at0 xs i) = at0 p.wicks i) :
    litP W s xs 0 s.lo = true ↔ darkL s p s.nights.length = [] := by
  rw [dark_nil]
  have key : ∀ (m i : Nat), i + m = s.nights.length → (litP W s (xs.drop i) i (oilAt s p (lowT s) i) = true ↔ ∀ j, i ≤ j → j < s.nights.length → litAt s p (lowT s) j = true) := by
    intro m
    induction m with
    | zero =>
      intro i hi
      rw [List.drop_eq_nil_of_le (by omega)]
      simp only [litP, true_iff]
      intro j h1 h2
      omega
    | succ m ih =>
      intro i hi
      have hlt : i < xs.length := by omega
      have hin : i < s.nights.length := by omega
      rw [List.drop_eq_getElem_cons hlt, at0_get hlt]
      have e1 : W.lit s i (oilAt s p (lowT s) i) (at0 xs i) = litAt s p (lowT s) i := by
        unfold Wk.lit litAt nowAt
        rw [hc i hin, hw i hin, lowT_burn s hin]
      have e2 : W.left s i (oilAt s p (lowT s) i) (at0 xs i) = oilAt s p (lowT s) (i + 1) := by
        unfold Wk.left
        rw [hc i hin, hw i hin, oilAt, lowT_burn s hin]
      simp only [litP, Bool.and_eq_true]
      rw [e1, e2, ih (i + 1) (by omega)]
      constructor
      · rintro ⟨h1, h2⟩ j h3 h4
        by_cases e : i = j
        · subst e; exact h1
        · exact h2 j (by omega) h4
      · intro h
        exact ⟨h i (Nat.le_refl _) hin, fun j h1 h2 => h j (by omega) h2⟩
  have := key s.nights.length 0 (by omega)
  rw [List.drop_zero] at this
  rw [show s.lo = oilAt s p (lowT s) 0 from rfl, this]
  exact ⟨fun h i hi => h i (Nat.zero_le _) hi, fun h i _ hi => h i hi⟩
theorem inP_iff {W : Wk} : ∀ (xs : List Int) (i : Nat), inP W xs i ↔ ∀ j, j < xs.length → W.low (i + j) ≤ at0 xs j ∧ at0 xs j ≤ W.high (i + j)
  | [], i => by simp [inP]
  | x :: xs, i => by
    simp only [inP]
    rw [inP_iff xs (i + 1)]
    constructor
    · rintro ⟨h1, h2⟩ j hj
      cases j with
      | zero => exact h1
      | succ j =>
        have := h2 j (by simpa using hj)
        rw [show i + (j + 1) = i + 1 + j by omega]
        exact this
    · intro h
      refine ⟨h 0 (by simp), fun j hj => ?_⟩
      have := h (j + 1) (by simpa using hj)
      rw [show i + 1 + j = i + (j + 1) by omega]
      exact this
theorem check_of {s : Store} {p : Plan} (h0 : checkStore s = 0) (h1 : cansOk s p.cans = true) (h2 : wicksOk s p.wicks = true) : check s p = 0 := by
  unfold check
  rw [if_neg (by omega), h1, h2]
  rfl
theorem check_parts {s : Store} {p : Plan} (h : check s p = 0) : checkStore s = 0 ∧ cansOk s p.cans = true ∧ wicksOk s p.wicks = true := by
  unfold check at h
  split at h
  · rename_i h0; exact absurd h h0
  · rename_i h0
    split at h
    · omega
    · rename_i h1
      simp only [Bool.or_eq_true, Bool.not_eq_true', not_or, Bool.not_eq_false] at h1
      exact ⟨Classical.not_not.1 h0, h1.1, h1.2⟩
theorem cansOk_of {s : Store} {l : List Int} (hl : l.length = s.nights.length) (h : ∀ i, i < l.length → 0 ≤ at0 l i ∧ at0 l i ≤ 2) : cansOk s l = true := by
  simp only [cansOk, Bool.and_eq_true, decide_eq_true_eq, List.all_eq_true, within_iff]
  refine ⟨by omega, fun x hx => ?_⟩
  obtain ⟨i, hi, rfl⟩ := List.mem_iff_getElem.1 hx
  rw [at0_get hi]
  exact h i hi
theorem wicksOk_of {s : Store} {l : List Int} (hl : l.length = s.nights.length) (h : ∀ i, i < l.length → (nt s i).least ≤ at0 l i ∧ at0 l i ≤ (nt s i).most) : wicksOk s l = true := by
  simp only [wicksOk, Bool.and_eq_true, decide_eq_true_eq, List.all_eq_true, within_iff]
  refine ⟨by omega, fun x hx => ?_⟩
  obtain ⟨i, hi, rfl⟩ := List.mem_iff_getElem.1 hx
  have h1 : i < l.length := by simp at hi; omega
  have h2 : i < s.nights.length := by omega
  simp only [List.getElem_zip]
  rw [at0_get h1, nt_get h2]
  exact h i h1
def safe (s : Store) (p : Plan) : Prop := darkL s p s.nights.length = []
theorem prove_iff (s : Store) (p : Plan) : provePlan s p = true ↔ check s p = 0 ∧ safe s p := by simp [provePlan, safe]

/-- the best cans -/
theorem deliver_best {s : Store} {wicks : List Int} (h0 : checkStore s = 0) (hw : wicksOk s wicks = true) :
    (deliverE s wicks = 0 ∧ deliverR s wicks = (wkD wicks).picks s s.nights.length s.lo ∧ deliverC s wicks = (wkD wicks).cheap s s.nights.length s.lo ∧ cansOk s (deliverR s wicks) = true ∧ safe s ⟨deliverR s wicks, wicks⟩ ∧ costP (wkD wicks) (deliverR s wicks) 0 = deliverC s wicks ∧
      ∀ cans, cansOk s cans = true → safe s ⟨cans, wicks⟩ → deliverC s wicks ≤ costP (wkD wicks) cans 0 ∧ (deliverC s wicks = costP (wkD wicks) cans 0 → lexB cans (deliverR s wicks) = false)) ∨
    (deliverE s wicks = 10 ∧ deliverR s wicks = [] ∧ deliverC s wicks = 0 ∧ ∀ cans, cansOk s cans = true → ¬ safe s ⟨cans, wicks⟩) := by
  have hok := checkStore_ok h0
  have hW := wkD_ok hok hw
  have h6 := hok.few
  have path : ∀ cans, cansOk s cans = true → cans.length = s.nights.length ∧ inP (wkD wicks) cans 0 ∧ (litP (wkD wicks) s cans 0 s.lo = true ↔ safe s ⟨cans, wicks⟩) := by
    intro cans hc
    obtain ⟨hl, hb⟩ := cansOk_spec hc
    refine ⟨hl, (inP_iff _ _).2 fun j hj => ?_, litP_dark hl (fun i _ => rfl) (fun i _ => rfl)⟩
    have := hb j hj
    simp only [wkD]; omega
  by_cases hf : (wkD wicks).found s = true
  · left
    have hE : deliverE s wicks = 0 := by unfold deliverE; rw [if_neg (by omega), if_pos hw, if_pos hf]
    have hR : deliverR s wicks = (wkD wicks).picks s s.nights.length s.lo := by unfold deliverR Wk.best; rw [if_pos hE, if_pos hf]
    have hC : deliverC s wicks = (wkD wicks).cheap s s.nights.length s.lo := by unfold deliverC Wk.bestC; rw [if_pos hE, if_pos hf]
    have hlt : (wkD wicks).cheap s s.nights.length s.lo < 524288 := by unfold Wk.found at hf; exact of_decide_eq_true hf
    obtain ⟨p1, p2, p3, p4⟩ := picks_spec hW h6 s.nights.length s.lo (Nat.le_refl _) hlt
    rw [Nat.sub_self] at p2 p3 p4
    rw [← hR] at p1 p2 p3 p4
    rw [← hC] at p4
    have hcan : cansOk s (deliverR s wicks) = true := cansOk_of p1 fun i hi => by
      have := (inP_iff _ _).1 p2 i hi
      simp only [wkD] at this
      exact this
    refine ⟨hE, hR, hC, hcan, (path _ hcan).2.2.1 p3, p4, fun cans hc hs => ?_⟩
    obtain ⟨q1, q2, q3⟩ := path cans hc
    have hle := cheap_le hW s.nights.length cans s.lo (Nat.le_refl _) q1 (by rw [Nat.sub_self]; exact q2) (by rw [Nat.sub_self]; exact q3.2 hs)
    rw [Nat.sub_self] at hle
    refine ⟨by rw [hC]; exact hle, fun he => ?_⟩
    rw [hR]
    exact picks_lex hW h6 s.nights.length cans s.lo (Nat.le_refl _) hlt q1 (by rw [Nat.sub_self]; exact q2) (by rw [Nat.sub_self]; exact q3.2 hs) (by rw [Nat.sub_self, ← he, hC])
  · right
    have hE : deliverE s wicks = 10 := by unfold deliverE; rw [if_neg (by omega), if_pos hw, if_neg hf]
    refine ⟨hE, by unfold deliverR; rw [if_neg (by omega)], by unfold deliverC; rw [if_neg (by omega)], fun cans hc hs => hf ?_⟩
    obtain ⟨q1, q2, q3⟩ := path cans hc
    have hle := cheap_le hW s.nights.length cans s.lo (Nat.le_refl _) q1 (by rw [Nat.sub_self]; exact q2) (by rw [Nat.sub_self]; exact q3.2 hs)
    rw [Nat.sub_self] at hle
    have hcost : ∀ (xs : List Int) (i : Nat), inP (wkD wicks) xs i → i + xs.length ≤ s.nights.length → costP (wkD wicks) xs i ≤ 100 * (xs.length : Int) := by
      intro xs
      induction xs with
      | nil => intro i _ _; simp [costP]
      | cons x xs ih =>
        intro i h1 h2
        simp only [inP] at h1
        simp only [List.length_cons] at h2
        have := ih (i + 1) h1.2 (by omega)
        have := hW.cost i (by omega) x h1.1.1 h1.1.2
        simp only [costP, List.length_cons]
        omega
    have := hcost cans 0 q2 (by omega)
    unfold Wk.found
    exact decide_eq_true (by omega)

/-- the best wicks -/
theorem trim_best {s : Store} {cans : List Int} (h0 : checkStore s = 0) (hc : cansOk s cans = true) :
    (trimE s cans = 0 ∧ wicksOk s (trimR s cans) = true ∧ safe s ⟨cans, trimR s cans⟩ ∧ -costP (wkT s cans) (trimR s cans) 0 = trimC s cans ∧
      ∀ wicks, wicksOk s wicks = true → safe s ⟨cans, wicks⟩ → -costP (wkT s cans) wicks 0 ≤ trimC s cans ∧ (-costP (wkT s cans) wicks 0 = trimC s cans → lexB wicks (trimR s cans) = false)) ∨
    (trimE s cans = 10 ∧ trimR s cans = [] ∧ trimC s cans = 0 ∧ ∀ wicks, wicksOk s wicks = true → ¬ safe s ⟨cans, wicks⟩) := by
  have hok := checkStore_ok h0
  have hW := wkT_ok hok hc
  have h6 := hok.few
  have path : ∀ wicks, wicksOk s wicks = true → wicks.length = s.nights.length ∧ inP (wkT s cans) wicks 0 ∧ (litP (wkT s cans) s wicks 0 s.lo = true ↔ safe s ⟨cans, wicks⟩) := by
    intro wicks hw
    obtain ⟨hl, hb⟩ := wicksOk_spec hw
    refine ⟨hl, (inP_iff _ _).2 fun j hj => ?_, litP_dark hl (fun i _ => rfl) (fun i _ => rfl)⟩
    have := hb j hj
    rw [Nat.zero_add]
    exact this
  by_cases hf : (wkT s cans).found s = true
  · left
    have hE : trimE s cans = 0 := by unfold trimE; rw [if_neg (by omega), if_pos hc, if_pos hf]
    have hR : trimR s cans = (wkT s cans).picks s s.nights.length s.lo := by unfold trimR Wk.best; rw [if_pos hE, if_pos hf]
    have hC : trimC s cans = -(wkT s cans).cheap s s.nights.length s.lo := by unfold trimC Wk.bestC; rw [if_pos hE, if_pos hf]
    have hlt : (wkT s cans).cheap s s.nights.length s.lo < 524288 := by unfold Wk.found at hf; exact of_decide_eq_true hf
    obtain ⟨p1, p2, p3, p4⟩ := picks_spec hW h6 s.nights.length s.lo (Nat.le_refl _) hlt
    rw [Nat.sub_self] at p2 p3 p4
    rw [← hR] at p1 p2 p3 p4
    have hwk : wicksOk s (trimR s cans) = true := wicksOk_of p1 fun i hi => by
      have := (inP_iff _ _).1 p2 i hi
      rw [Nat.zero_add] at this
      exact this
    refine ⟨hE, hwk, (path _ hwk).2.2.1 p3, by rw [hC, p4], fun wicks hw hs => ?_⟩
    obtain ⟨q1, q2, q3⟩ := path wicks hw
    have hle := cheap_le hW s.nights.length wicks s.lo (Nat.le_refl _) q1 (by rw [Nat.sub_self]; exact q2) (by rw [Nat.sub_self]; exact q3.2 hs)
    rw [Nat.sub_self] at hle
    refine ⟨by rw [hC]; omega, fun he => ?_⟩
    rw [hR]
    exact picks_lex hW h6 s.nights.length wicks s.lo (Nat.le_refl _) hlt q1 (by rw [Nat.sub_self]; exact q2) (by rw [Nat.sub_self]; exact q3.2 hs) (by rw [Nat.sub_self]; rw [hC] at he; omega)
  · right
    have hE : trimE s cans = 10 := by unfold trimE; rw [if_neg (by omega), if_pos hc, if_neg hf]
    refine ⟨hE, by unfold trimR; rw [if_neg (by omega)], by unfold trimC; rw [if_neg (by omega)], fun wicks hw hs => hf ?_⟩
    obtain ⟨q1, q2, q3⟩ := path wicks hw
    have hle := cheap_le hW s.nights.length wicks s.lo (Nat.le_refl _) q1 (by rw [Nat.sub_self]; exact q2) (by rw [Nat.sub_self]; exact q3.2 hs)
    rw [Nat.sub_self] at hle
    have hcost : ∀ (xs : List Int) (i : Nat), inP (wkT s cans) xs i → i + xs.length ≤ s.nights.length → costP (wkT s cans) xs i ≤ 100 * (xs.length : Int) := by
      intro xs
      induction xs with
      | nil => intro i _ _; simp [costP]
      | cons x xs ih =>
        intro i h1 h2
        simp only [inP] at h1
        simp only [List.length_cons] at h2
        have := ih (i + 1) h1.2 (by omega)
        have := hW.cost i (by omega) x h1.1.1 h1.1.2
        simp only [costP, List.length_cons]
        omega
    have := hcost wicks 0 q2 (by omega)
    unfold Wk.found
    exact decide_eq_true (by omega)
end Lp
end

section
/- Walks of the reference: In, Span, Fault, IsCans, IsWicks, IsTruth, Before, Same, Sum. -/
set_option linter.unusedVariables false
namespace Lp
theorem rto_span (lo hi m : Int) : rto lo hi m = (within lo 0 hi && decide (hi ≤ m)) := by
  unfold rto within
  cases decide (0 ≤ lo) <;> cases decide (lo ≤ hi) <;> rfl
theorem lexB_drop : ∀ (i : Nat) (a b : List Int) (hi : i < a.length) (hj : i < b.length), (∀ k, k < i → a[k]? = b[k]?) → lexB a b = if a[i] = b[i] then lexB (a.drop (i + 1)) (b.drop (i + 1)) else decide (a[i] < b[i])
  | 0, x :: a, y :: b, _, _, _ => by simp [lexB]
  | i + 1, x :: a, y :: b, hi, hj, h => by
    have h0 := h 0 (by omega)
    simp at h0
    subst h0
    simp only [lexB, if_pos]
    rw [lexB_drop i a b (by simpa using hi) (by simpa using hj) (fun k hk => by have := h (k + 1) (by omega); simpa using this)]
    simp
theorem lexB_end : ∀ (a b : List Int), (∀ k, k < a.length → k < b.length → a[k]? = b[k]?) → lexB a b = decide (a.length < b.length)
  | [], [], _ => rfl
  | [], _ :: _, _ => by simp [lexB]
  | _ :: _, [], _ => by simp [lexB]
  | x :: a, y :: b, h => by
    have h0 := h 0 (by simp) (by simp)
    simp at h0
    subst h0
    simp only [lexB, if_pos]
    rw [lexB_end a b (fun k h1 h2 => by have := h (k + 1) (by simpa using h1) (by simpa using h2); simpa using this)]
    simp
theorem lexB_self : ∀ (a : List Int), lexB a a = false
  | [] => rfl
  | x :: a => by simp [lexB, lexB_self a]
theorem lexB_tot : ∀ (a b : List Int), a.length = b.length → lexB a b = false → lexB b a = false → a = b
  | [], [], _, _, _ => rfl
  | x :: a, y :: b, hl, h1, h2 => by
    simp only [lexB] at h1 h2
    by_cases hxy : x = y
    · subst hxy
      rw [if_pos rfl] at h1 h2
      rw [lexB_tot a b (by simpa using hl) h1 h2]
    · rw [if_neg hxy] at h1
      rw [if_neg (fun h => hxy h.symm)] at h2
      simp at h1 h2
      omega
theorem same_iff (a b : List Int) : (decide (a.length = b.length) && (!lexB a b && !lexB b a)) = decide (a = b) := by
  by_cases h : a = b
  · subst h; simp [lexB_self]
  · rw [decide_eq_false h]
    by_cases hl : a.length = b.length
    · rw [decide_eq_true hl]
      cases h1 : lexB a b with
      | true => rfl
      | false =>
        cases h2 : lexB b a with
        | true => rfl
        | false => exact absurd (lexB_tot a b hl h1 h2) h
    · rw [decide_eq_false hl]; rfl
end Lp
namespace Go.Proofs.Ytaimlmfncjbmjaa
open Go Go.Vc Go.RowKit Lp

theorem In_go (x lo hi : Int) (w : World) : Calls Try.prog 68 #[.int .i64 x, .int .i64 lo, .int .i64 hi] w fun e w' => e = .returned (.bool (within x lo hi)) ∧ w.grownBy w' none := by
  refine calls (G := G) (args := [.int .i64 x, .int .i64 lo, .int .i64 hi]) Try.func68 rfl rfl rfl ?_
  refine M.at_ [10] rfl (M.case 10 rfl (fun h1 => ?_) (fun h1 => ?_))
  · exact M.run rfl (M.retF rfl rfl ⟨by simp [within, h1, oneOrTuple], gr_refl _ _⟩)
  · exact M.run rfl (M.retF rfl rfl ⟨by simp [within, h1, oneOrTuple], gr_refl _ _⟩)

theorem Span_go (lo hi m : Int) (w : World) : Calls Try.prog 99 #[.agg #[.int .i64 lo, .int .i64 hi], .int .i64 m] w fun e w' => e = .returned (.bool (rto lo hi m)) ∧ w.grownBy w' none := by
  refine calls (G := G) (args := [.agg #[.int .i64 lo, .int .i64 hi], .int .i64 m]) Try.func99 rfl rfl rfl ?_
  refine M.run rfl (M.nw rfl fun g w1 b1 e1 l1 => M.run rfl (M.ld rfl (b1.cell rfl rfl) (M.run rfl (M.ld rfl (b1.cell rfl rfl) (M.run rfl (M.cl rfl (In_go lo 0 hi w1) ?_))))))
  rintro e w2 ⟨rfl, e2⟩
  rw [rto_span]
  refine ⟨_, rfl, M.at_ [10] rfl (M.case 10 rfl (fun h => ?_) (fun h => ?_))⟩
  · exact M.run rfl (M.ld rfl ((b1.mv0 e2).cell rfl rfl) (M.run rfl (M.retF rfl rfl ⟨by rw [h]; rfl, gr_trans e1 e2⟩)))
  · exact M.run rfl (M.retF rfl rfl ⟨by rw [h]; rfl, gr_trans e1 e2⟩)

set_option maxHeartbeats 1000000 in
theorem Fault_go (s : Store) (A : Option Addr) (c : Nat) (w : World) (hA : Rd dNight w A c s.nights) :
    Calls Try.prog 67 #[vStore s A c] w fun e w' => e = .returned (.int .i64 (checkStore s)) ∧ w.grownBy w' none := by
  refine calls (G := G) (args := [vStore s A c]) Try.func67 rfl rfl rfl ?_
  refine M.run rfl (M.nw rfl fun g w1 b1 e1 l1 => M.run rfl (M.ld rfl (b1.cell rfl rfl) (M.run rfl (M.cond rfl (fun h => ?_) (fun h => ?_)))))
  · have h' := of_decide_eq_true h
    exact M.run rfl (M.retF rfl rfl ⟨by simp [checkStore, h', oneOrTuple], e1⟩)
  have h' : ¬ (s.nights.length : Int) > 6 := of_decide_eq_false h
  have hC : checkStore s = if s.bad then 1 else 0 := by unfold checkStore; rw [if_neg h']
  refine M.run rfl (M.ld rfl (b1.cell rfl rfl) (M.run rfl (M.cl rfl (In_go s.cap 1 400 w1) ?_)))
  rintro e w2 ⟨rfl, e2⟩
  replace b1 := b1.mv0 e2
  have e02 := gr_trans e1 e2
  refine ⟨_, rfl, M.at_ [13] rfl (M.case 13 rfl (fun h1 => ?_) (fun h1 => ?_))⟩
  · have : s.bad = true := by unfold Store.bad; rw [h1]; rfl
    exact M.run rfl (M.condT rfl rfl (M.run rfl (M.retF rfl rfl ⟨by rw [hC, this]; rfl, e02⟩)))
  refine M.run rfl (M.ld rfl (b1.cell rfl rfl) (M.run rfl (M.cl rfl (In_go s.can 1 200 w2) ?_)))
  rintro e w3 ⟨rfl, e3⟩
  replace b1 := b1.mv0 e3
  have e03 := gr_trans e02 e3
  refine ⟨_, rfl, M.at_ [19] rfl (M.case 19 rfl (fun h2 => ?_) (fun h2 => ?_))⟩
  · have : s.bad = true := by unfold Store.bad; rw [h1, h2]; rfl
    exact M.run rfl (M.condT rfl rfl (M.run rfl (M.retF rfl rfl ⟨by rw [hC, this]; rfl, e03⟩)))
  refine M.run rfl (M.ldA rfl rfl (b1.cells 2 rfl ⟨[_], rfl⟩ : Cells _ _ [_, _]) (M.run rfl (M.ld rfl (b1.cell rfl rfl) (M.run rfl (M.cl rfl (Span_go s.lo s.hi s.cap w3) ?_)))))
  rintro e w4 ⟨rfl, e4⟩
  replace b1 := b1.mv0 e4
  have e04 := gr_trans e03 e4
  refine ⟨_, rfl, M.at_ [27] rfl (M.case 27 rfl (fun h3 => ?_) (fun h3 => ?_))⟩
  · have : s.bad = true := by unfold Store.bad; rw [h1, h2, h3]; rfl
    exact M.run rfl (M.condT rfl rfl (M.run rfl (M.retF rfl rfl ⟨by rw [hC, this]; rfl, e04⟩)))
  refine M.run rfl (M.ld rfl (b1.cell rfl rfl) (M.run rfl (M.cond rfl (fun h4 => ?_) (fun h4 => ?_))))
  · have h4' : decide ((s.nights.length : Int) = 0) = true := by simpa using h4
    have : s.bad = true := by unfold Store.bad; rw [h1, h2, h3, h4']; rfl
    exact M.run rfl (M.retF rfl rfl ⟨by rw [hC, this]; rfl, e04⟩)
  have h4' : decide ((s.nights.length : Int) = 0) = false := by simpa using h4
  have hbad : s.bad = !s.nights.all Night.valid := by unfold Store.bad; rw [h1, h2, h3, h4']; rfl
  refine M.run rfl ?_
  refine M.loop (σ := Nat) (fun i => [(1, .pointer (some ⟨g, 0, none⟩)), (3, .int .i64 (i : Int))]) (fun i w' => i ≤ s.nights.length ∧ w4.grownBy w' none ∧ ∀ (j : Nat) x, j < i → s.nights[j]? = some x → x.valid = true)
    (fun i => s.nights.length - i) 0 ⟨rfl, rfl, trivial⟩ ⟨Nat.zero_le _, gr_refl _ _, fun j x h => by omega⟩ ?_
  rintro i w5 ⟨hi, e5, hn⟩
  have e05 := gr_trans e04 e5
  have b15 := b1.mv0 e5
  refine M.run rfl (M.ld rfl (b15.cell rfl rfl) (M.run rfl (M.cond rfl (fun h5 => ?_) (fun h5 => ?_))))
  · have hlt : i < s.nights.length := by have := of_decide_eq_true h5; omega
    obtain ⟨hA1, hAC⟩ := rd_flat hA hlt
    generalize hx : s.nights[i] = x at hAC
    have hgx : s.nights[i]? = some x := by rw [List.getElem?_eq_getElem hlt, hx]
    have hinv : x.valid = false → s.bad = true := fun hv => by
      rw [hbad]
      have : s.nights.all Night.valid = false := List.all_eq_false.2 ⟨x, List.mem_of_getElem? hgx, by simp [hv]⟩
      rw [this]; rfl
    refine M.run rfl (M.ld rfl (b15.cell rfl rfl) (M.run rfl (M.ix rfl (by omega) (by omega) hA1 (M.run rfl (M.ldA rfl rfl (hAC w5 (gr_below e05)) (M.run rfl (M.nw rfl fun g6 w6 b6 e6 l6 => M.run rfl (M.store rfl rfl b6 rfl rfl fun w7 b7 e7 => M.run rfl ?_))))))))
    have e57 : w5.grownBy w7 none := gr_fresh e6 e7 l6
    have e07 := gr_trans e05 e57
    refine M.ld rfl (b7.cell rfl rfl) (M.run rfl (M.cl rfl (In_go x.hours 1 14 w7) ?_))
    rintro e w8 ⟨rfl, e8⟩
    have e08 := gr_trans e07 e8
    replace b7 := b7.mv0 e8
    refine ⟨_, rfl, M.at_ [49] rfl (M.case 49 rfl (fun k1 => ?_) (fun k1 => ?_))⟩
    · have k1' : within x.hours 1 14 = false := by simpa using k1
      have hv : x.valid = false := by unfold Night.valid; rw [k1']; rfl
      exact M.run rfl (M.condT rfl rfl (M.run rfl (M.retF rfl rfl ⟨by rw [hC, hinv hv]; rfl, e08⟩)))
    have k1' : within x.hours 1 14 = true := by simpa using k1
    refine M.run rfl (M.ld rfl (b7.cell rfl rfl) (M.run rfl (M.ld rfl (b7.cell rfl rfl) (M.run rfl (M.cl rfl (In_go x.least 1 x.most w8) ?_)))))
    rintro e w9 ⟨rfl, e9⟩
    have e09 := gr_trans e08 e9
    replace b7 := b7.mv0 e9
    refine ⟨_, rfl, M.at_ [57] rfl (M.case 57 rfl (fun k2 => ?_) (fun k2 => ?_))⟩
    · have k2' : within x.least 1 x.most = false := by simpa using k2
      have hv : x.valid = false := by
        unfold Night.valid; rw [k1']
        simp [within] at k2' ⊢
        omega
      exact M.run rfl (M.condT rfl rfl (M.run rfl (M.retF rfl rfl ⟨by rw [hC, hinv hv]; rfl, e09⟩)))
    have k2' : within x.least 1 x.most = true := by simpa using k2
    refine M.run rfl (M.ld rfl (b7.cell rfl rfl) (M.at_ [62] rfl (M.case 62 rfl (fun k3 => ?_) (fun k3 => ?_))))
    · have k3' := of_decide_eq_true k3
      have hv : x.valid = false := by
        unfold Night.valid; rw [k1']
        simp
        omega
      exact M.run rfl (M.condT rfl rfl (M.run rfl (M.retF rfl rfl ⟨by rw [hC, hinv hv]; rfl, e09⟩)))
    have k3' := of_decide_eq_false k3
    refine M.run rfl (M.ldA rfl rfl (b7.cells 3 rfl ⟨[], rfl⟩ : Cells _ _ [_, _]) (M.run rfl (M.cl rfl (Span_go x.lo x.hi 10 w9) ?_)))
    rintro e wa ⟨rfl, ea⟩
    have e0a := gr_trans e09 ea
    refine ⟨_, rfl, M.run rfl (M.cond rfl (fun k4 => ?_) (fun k4 => ?_))⟩
    · have k4' : rto x.lo x.hi 10 = false := by simpa using k4
      have hv : x.valid = false := by unfold Night.valid; rw [k4']; simp
      exact M.run rfl (M.retF rfl rfl ⟨by rw [hC, hinv hv]; rfl, e0a⟩)
    · have k4' : rto x.lo x.hi 10 = true := by simpa using k4
      have hv : x.valid = true := by
        unfold Night.valid; rw [k1', k4']
        rw [Lp.within_iff] at k2'
        simp
        omega
      refine M.run rfl (M.end_ ⟨i + 1, ⟨rfl, ?_, trivial⟩, ⟨by omega, gr_trans e5 (gr_trans e57 (gr_trans e8 (gr_trans e9 ea))), fun j y hj hy => ?_⟩, by omega⟩)
      · exact congrArg (fun z => some (Value.int .i64 z)) (w64 (by omega) (by omega))
      · by_cases hji : j < i
        · exact hn j y hji hy
        · have : j = i := by omega
          subst this
          rw [hgx] at hy
          injection hy with hy
          rw [← hy]; exact hv
  · have hall : s.nights.all Night.valid = true := by
      rw [List.all_eq_true]
      intro x hx
      obtain ⟨j, hj⟩ := List.mem_iff_getElem?.1 hx
      refine hn j x ?_ hj
      have := (List.getElem?_eq_some_iff.1 hj).1
      have := of_decide_eq_false h5
      omega
    exact M.run rfl (M.retF rfl rfl ⟨by rw [hC, hbad, hall]; rfl, e05⟩)
end Go.Proofs.Ytaimlmfncjbmjaa
end

section
/- Walks of the reference: IsCans, IsWicks, IsTruth, Before, Same, Sum. -/
set_option linter.unusedVariables false
namespace Go.Proofs.Ytaimlmfncjbmjaa
open Go Go.Vc Go.RowKit Lp

theorem len_eqB (a b : Nat) : (((a : Int)) == ((b : Int))) = decide ((a : Int) = (b : Int)) := by
  by_cases h : (a : Int) = (b : Int)
  · rw [decide_eq_true h]; simp [h]
  · rw [decide_eq_false h]; simp; omega

theorem IsCans_go (s : Store) (l : List Int) (A : Option Addr) (c : Nat) (U : Option Addr) (d : Nat) (w : World) (hU : Rd dI w U d l) :
    Calls Try.prog 39 #[vStore s A c, .slice U l.length d] w fun e w' => e = .returned (.bool (cansOk s l)) ∧ w.grownBy w' none := by
  refine calls (G := G) (args := [vStore s A c, .slice U l.length d]) Try.func39 rfl rfl rfl ?_
  refine M.run rfl (M.nw rfl fun g w1 b1 e1 l1 => M.run rfl ?_)
  refine M.loop (σ := Nat) (fun i => [(1, .slice U l.length d), (2, .pointer (some ⟨g, 0, none⟩)), (5, .int .i64 (i : Int))]) (fun i w' => i ≤ l.length ∧ w1.grownBy w' none ∧ ∀ (j : Nat) x, j < i → l[j]? = some x → within x 0 2 = true)
    (fun i => l.length - i) 0 ⟨rfl, rfl, rfl, trivial⟩ ⟨Nat.zero_le _, gr_refl _ _, fun j x h => by omega⟩ ?_
  rintro i w2 ⟨hi, e2, hn⟩
  have e02 := gr_trans e1 e2
  refine M.run rfl (M.cond rfl (fun h => ?_) (fun h => ?_))
  · have hlt : i < l.length := by have := of_decide_eq_true h; omega
    obtain ⟨hU1, hUC⟩ := rd_flat hU hlt
    refine M.run rfl (M.ix rfl (by omega) (by omega) hU1 (M.run rfl (M.ld rfl ((hUC w2 (gr_below e02)).one 0 rfl rfl) (M.run rfl (M.cl rfl (In_go l[i] 0 2 w2) ?_)))))
    rintro e w3 ⟨rfl, e3⟩
    refine ⟨_, rfl, M.run rfl (M.cond rfl (fun h2 => ?_) (fun h2 => ?_))⟩
    · have h2' : within l[i] 0 2 = false := by simpa using h2
      refine M.run rfl (M.retF rfl rfl ⟨?_, gr_trans e02 e3⟩)
      have : cansOk s l = false := by
        unfold cansOk
        rw [List.all_eq_false.2 ⟨l[i], List.getElem_mem hlt, by simp [h2']⟩, Bool.and_false]
      rw [this]; rfl
    · have h2' : within l[i] 0 2 = true := by simpa using h2
      refine M.run rfl (M.end_ ⟨i + 1, ⟨rfl, rfl, ?_, trivial⟩, ⟨by omega, gr_trans e2 e3, fun j x hj hx => ?_⟩, by omega⟩)
      · exact congrArg (fun z => some (Value.int .i64 z)) (w64 (by omega) (by have := hU.bd; omega))
      · by_cases hji : j < i
        · exact hn j x hji hx
        · have : j = i := by omega
          subst this
          rw [List.getElem?_eq_getElem hlt] at hx
          injection hx with hx
          rw [← hx]; exact h2'
  · refine M.run rfl (M.ld rfl ((b1.mv0 e2).cell rfl rfl) (M.run rfl (M.retF rfl rfl ⟨?_, e02⟩)))
    have hall : (l.all fun n => within n 0 2) = true := by
      rw [List.all_eq_true]
      intro x hx
      obtain ⟨j, hj⟩ := List.mem_iff_getElem?.1 hx
      refine hn j x ?_ hj
      have := (List.getElem?_eq_some_iff.1 hj).1
      have := of_decide_eq_false h
      omega
    unfold cansOk
    rw [hall, Bool.and_true, ← len_eqB]; rfl

theorem IsWicks_go (s : Store) (l : List Int) (A : Option Addr) (c : Nat) (U : Option Addr) (d : Nat) (w : World) (hA : Rd dNight w A c s.nights) (hU : Rd dI w U d l) :
    Calls Try.prog 35 #[vStore s A c, .slice U l.length d] w fun e w' => e = .returned (.bool (wicksOk s l)) ∧ w.grownBy w' none := by
  refine calls (G := G) (args := [vStore s A c, .slice U l.length d]) Try.func35 rfl rfl rfl ?_
  refine M.run rfl (M.nw rfl fun g w1 b1 e1 l1 => M.run rfl ?_)
  refine M.loop (σ := Nat) (fun i => [(1, .slice U l.length d), (2, .pointer (some ⟨g, 0, none⟩)), (5, .int .i64 (i : Int))]) (fun i w' => i ≤ l.length ∧ i ≤ s.nights.length ∧ w1.grownBy w' none ∧ ∀ (j : Nat) x, j < i → (l.zip s.nights)[j]? = some x → within x.1 x.2.least x.2.most = true)
    (fun i => l.length - i) 0 ⟨rfl, rfl, rfl, trivial⟩ ⟨Nat.zero_le _, Nat.zero_le _, gr_refl _ _, fun j x h => by omega⟩ ?_
  rintro i w2 ⟨hi, hi', e2, hn⟩
  have e02 := gr_trans e1 e2
  have b2 := b1.mv0 e2
  have hfin : (¬ (i : Int) < l.length ∨ ¬ (i : Int) < s.nights.length) → wicksOk s l = decide ((l.length : Int) = (s.nights.length : Int)) := fun h => by
    have hall : ((l.zip s.nights).all fun p => within p.1 p.2.least p.2.most) = true := by
      rw [List.all_eq_true]
      intro x hx
      obtain ⟨j, hj⟩ := List.mem_iff_getElem?.1 hx
      refine hn j x ?_ hj
      have := (List.getElem?_eq_some_iff.1 hj).1
      simp at this
      omega
    unfold wicksOk
    rw [hall, Bool.and_true]
  refine M.at_ [10] rfl (M.case 10 rfl (fun h => ?_) (fun h => ?_))
  · have hlt : i < l.length := by have := of_decide_eq_true h; omega
    refine M.run rfl (M.ld rfl (b2.cell rfl rfl) (M.run rfl (M.cond rfl (fun h1 => ?_) (fun h1 => ?_))))
    · have hlt' : i < s.nights.length := by have := of_decide_eq_true h1; omega
      obtain ⟨hU1, hUC⟩ := rd_flat hU hlt
      obtain ⟨hA1, hAC⟩ := rd_flat hA hlt'
      have hz : (l.zip s.nights)[i]? = some (l[i], s.nights[i]) := by simp [List.getElem?_zip_eq_some, hlt, hlt']
      have hin := In_go l[i] s.nights[i].least s.nights[i].most
      refine M.run rfl (M.quiet (by kernel_rfl) (LQ.run rfl (LQ.ix rfl (by omega) (by omega) hU1 (LQ.run rfl (LQ.ld rfl (fun w' hw => (hUC w' (gr_below (gr_trans e02 hw))).one 0 rfl rfl) (LQ.run rfl (LQ.ld rfl (fun w' hw => (b2.mv0 hw).cell rfl rfl) (LQ.run rfl (LQ.ix rfl (by omega) (by omega) hA1 (LQ.run rfl (LQ.ld rfl (fun w' hw => (hAC w' (gr_below (gr_trans e02 hw))).one 1 rfl rfl) (LQ.run rfl
        (LQ.ld rfl (fun w' hw => (b2.mv0 hw).cell rfl rfl) (LQ.run rfl (LQ.ix rfl (by omega) (by omega) hA1 (LQ.run rfl (LQ.ld rfl (fun w' hw => (hAC w' (gr_below (gr_trans e02 hw))).one 2 rfl rfl) (LQ.run rfl (LQ.clG rfl (fun w' hw => hin w') (LQ.run rfl (LQ.nil fun w3 e3 => M.run rfl (M.cond rfl (fun h2 => ?_) (fun h2 => ?_)))))))))))))))))))))))
      · have h2' : within l[i] s.nights[i].least s.nights[i].most = false := by simpa using h2
        refine M.run rfl (M.retF rfl rfl ⟨?_, gr_trans e02 e3⟩)
        have : wicksOk s l = false := by
          unfold wicksOk
          rw [List.all_eq_false.2 ⟨_, List.mem_of_getElem? hz, by simp [h2']⟩, Bool.and_false]
        rw [this]; rfl
      · have h2' : within l[i] s.nights[i].least s.nights[i].most = true := by simpa using h2
        refine M.run rfl (M.end_ ⟨i + 1, ⟨rfl, rfl, ?_, trivial⟩, ⟨by omega, by omega, gr_trans e2 e3, fun j x hj hx => ?_⟩, by omega⟩)
        · exact congrArg (fun z => some (Value.int .i64 z)) (w64 (by omega) (by have := hU.bd; omega))
        · by_cases hji : j < i
          · exact hn j x hji hx
          · have : j = i := by omega
            subst this
            rw [hz] at hx
            injection hx with hx
            subst hx
            exact h2'
    · refine M.run rfl (M.ld rfl (b2.cell rfl rfl) (M.run rfl (M.retF rfl rfl ⟨?_, e02⟩)))
      rw [hfin (.inr (of_decide_eq_false h1)), ← len_eqB]; rfl
  · refine M.run rfl (M.condF rfl rfl (M.run rfl (M.ld rfl (b2.cell rfl rfl) (M.run rfl (M.retF rfl rfl ⟨?_, e02⟩)))))
    rw [hfin (.inl (of_decide_eq_false h)), ← len_eqB]; rfl

theorem IsTruth_go (s : Store) (t : Truth) (A : Option Addr) (c : Nat) (U : Option Addr) (d : Nat) (w : World) (hA : Rd dNight w A c s.nights) (hU : Rd dI w U d t.burn) :
    Calls Try.prog 25 #[vStore s A c, vTruth t U d] w fun e w' => e = .returned (.bool (truthOk s t)) ∧ w.grownBy w' none := by
  refine calls (G := G) (args := [vStore s A c, vTruth t U d]) Try.func25 rfl rfl rfl ?_
  refine M.run rfl (M.nw rfl fun g w1 b1 e1 l1 => M.run rfl (M.nw rfl fun g3 w1' b3 e1' l1' => M.run rfl ?_))
  replace b1 := b1.mv0 e1'
  replace e1 := gr_trans e1 e1'
  refine M.loop (σ := Nat) (fun i => [(2, .pointer (some ⟨g, 0, none⟩)), (3, .pointer (some ⟨g3, 0, none⟩)), (5, .int .i64 (i : Int))]) (fun i w' => i ≤ t.burn.length ∧ i ≤ s.nights.length ∧ w1'.grownBy w' none ∧ ∀ (j : Nat) x, j < i → (t.burn.zip s.nights)[j]? = some x → within x.1 x.2.lo x.2.hi = true)
    (fun i => t.burn.length - i) 0 ⟨rfl, rfl, rfl, trivial⟩ ⟨Nat.zero_le _, Nat.zero_le _, gr_refl _ _, fun j x h => by omega⟩ ?_
  rintro i w2 ⟨hi, hi', e2, hn⟩
  have e02 := gr_trans e1 e2
  have b2 := b1.mv0 e2
  have b32 := b3.mv0 e2
  have hfin : (¬ (i : Int) < t.burn.length ∨ ¬ (i : Int) < s.nights.length) → truthOk s t = (decide ((t.burn.length : Int) = (s.nights.length : Int)) && within t.start s.lo s.hi) := fun h => by
    have hall : ((t.burn.zip s.nights).all fun p => within p.1 p.2.lo p.2.hi) = true := by
      rw [List.all_eq_true]
      intro x hx
      obtain ⟨j, hj⟩ := List.mem_iff_getElem?.1 hx
      refine hn j x ?_ hj
      have := (List.getElem?_eq_some_iff.1 hj).1
      simp at this
      omega
    unfold truthOk
    rw [hall, Bool.and_true, Bool.and_comm]
  have hend : (¬ (i : Int) < t.burn.length ∨ ¬ (i : Int) < s.nights.length) → ∀ (ρ : Env), ρ.find 2 = some (.pointer (some ⟨g, 0, none⟩)) → True := fun _ _ _ => trivial
  refine M.run rfl (M.ld rfl (b32.cell rfl rfl) (M.at_ [11] rfl (M.case 11 rfl (fun h => ?_) (fun h => ?_))))
  · have hlt : i < t.burn.length := by have := of_decide_eq_true h; omega
    refine M.run rfl (M.ld rfl (b2.cell rfl rfl) (M.run rfl (M.cond rfl (fun h1 => ?_) (fun h1 => ?_))))
    · have hlt' : i < s.nights.length := by have := of_decide_eq_true h1; omega
      obtain ⟨hU1, hUC⟩ := rd_flat hU hlt
      obtain ⟨hA1, hAC⟩ := rd_flat hA hlt'
      have hz : (t.burn.zip s.nights)[i]? = some (t.burn[i], s.nights[i]) := by simp [List.getElem?_zip_eq_some, hlt, hlt']
      have hin := In_go t.burn[i] s.nights[i].lo s.nights[i].hi
      refine M.run rfl (M.quiet (by kernel_rfl) (LQ.run rfl (LQ.ld rfl (fun w' hw => (b32.mv0 hw).cell rfl rfl) (LQ.run rfl (LQ.ix rfl (by omega) (by omega) hU1 (LQ.run rfl (LQ.ld rfl (fun w' hw => (hUC w' (gr_below (gr_trans e02 hw))).one 0 rfl rfl) (LQ.run rfl (LQ.ld rfl (fun w' hw => (b2.mv0 hw).cell rfl rfl) (LQ.run rfl (LQ.ix rfl (by omega) (by omega) hA1 (LQ.run rfl (LQ.ld rfl (fun w' hw => (hAC w' (gr_below (gr_trans e02 hw))).one 3 rfl rfl) (LQ.run rfl
        (LQ.ld rfl (fun w' hw => (b2.mv0 hw).cell rfl rfl) (LQ.run rfl (LQ.ix rfl (by omega) (by omega) hA1 (LQ.run rfl (LQ.ld rfl (fun w' hw => (hAC w' (gr_below (gr_trans e02 hw))).one 4 rfl (by rw [add_add]; rfl)) (LQ.run rfl (LQ.clG rfl (fun w' hw => hin w') (LQ.run rfl (LQ.nil fun w3 e3 => M.run rfl (M.cond rfl (fun h2 => ?_) (fun h2 => ?_)))))))))))))))))))))))))
      · have h2' : within t.burn[i] s.nights[i].lo s.nights[i].hi = false := by simpa using h2
        refine M.run rfl (M.retF rfl rfl ⟨?_, gr_trans e02 e3⟩)
        have : truthOk s t = false := by
          unfold truthOk
          rw [List.all_eq_false.2 ⟨_, List.mem_of_getElem? hz, by simp [h2']⟩, Bool.and_false, Bool.and_false]
        rw [this]; rfl
      · have h2' : within t.burn[i] s.nights[i].lo s.nights[i].hi = true := by simpa using h2
        refine M.run rfl (M.end_ ⟨i + 1, ⟨rfl, rfl, ?_, trivial⟩, ⟨by omega, by omega, gr_trans e2 e3, fun j x hj hx => ?_⟩, by omega⟩)
        · exact congrArg (fun z => some (Value.int .i64 z)) (w64 (by omega) (by have := hU.bd; omega))
        · by_cases hji : j < i
          · exact hn j x hji hx
          · have : j = i := by omega
            subst this
            rw [hz] at hx
            injection hx with hx
            subst hx
            exact h2'
    · have hF := hfin (.inr (of_decide_eq_false h1))
      rw [← len_eqB] at hF
      refine M.run rfl (M.ld rfl (b32.cell rfl rfl) (M.run rfl (M.ld rfl (b2.cell rfl rfl) (M.at_ [48] rfl (M.case 48 rfl (fun h2 => ?_) (fun h2 => ?_))))))
      · refine M.run rfl (M.ld rfl (b32.cell rfl rfl) (M.run rfl (M.ld rfl (b2.cell rfl rfl) (M.run rfl (M.ld rfl (b2.cell rfl rfl) (M.run rfl (M.cl rfl (In_go t.start s.lo s.hi w2) ?_)))))))
        rintro e w3 ⟨rfl, e3⟩
        exact ⟨_, rfl, M.run rfl (M.retF rfl rfl ⟨by rw [hF, h2]; rfl, gr_trans e02 e3⟩)⟩
      · exact M.run rfl (M.retF rfl rfl ⟨by rw [hF, h2]; rfl, e02⟩)
  · have hF := hfin (.inl (of_decide_eq_false h))
    rw [← len_eqB] at hF
    refine M.run rfl (M.condF rfl rfl (M.run rfl (M.ld rfl (b32.cell rfl rfl) (M.run rfl (M.ld rfl (b2.cell rfl rfl) (M.at_ [48] rfl (M.case 48 rfl (fun h2 => ?_) (fun h2 => ?_))))))))
    · refine M.run rfl (M.ld rfl (b32.cell rfl rfl) (M.run rfl (M.ld rfl (b2.cell rfl rfl) (M.run rfl (M.ld rfl (b2.cell rfl rfl) (M.run rfl (M.cl rfl (In_go t.start s.lo s.hi w2) ?_)))))))
      rintro e w3 ⟨rfl, e3⟩
      exact ⟨_, rfl, M.run rfl (M.retF rfl rfl ⟨by rw [hF, h2]; rfl, gr_trans e02 e3⟩)⟩
    · exact M.run rfl (M.retF rfl rfl ⟨by rw [hF, h2]; rfl, e02⟩)
end Go.Proofs.Ytaimlmfncjbmjaa
end

section
/- A walk of M as a part of a walk inside a fence (a range over a function; its rounds). -/
set_option linter.unusedVariables false
set_option linter.unusedSimpArgs false
namespace Go.Vc
open Go.RowKit

/-- the fence that lets everything by -/
def Open (F : Fence) : Prop := F = Fence.wide ∨ ∃ l, F = Fence.wide.inRound l
theorem callsIn_open {F : Fence} (h : Open F) {n : Nat} {P : Program} {f : FuncId} {args : Array Value} {w : World} {R : Ending → World → Prop} (hc : Calls P f args w R) : CallsIn F n P f args w R := by
  rcases h with rfl | ⟨l, rfl⟩
  · exact callsIn_wide.2 hc
  · exact callsIn_wide.2 hc
theorem open_fn {F : Fence} (h : Open F) (f : FuncId) : F.fn f := by
  rcases h with rfl | ⟨l, rfl⟩ <;> trivial
theorem open_depth {F : Fence} (h : Open F) : F.depth = none := by
  rcases h with rfl | ⟨l, rfl⟩ <;> rfl

def noDefer : Oper → Bool
  | ⟨_, .defer _, _, _, _, _⟩ => false
  | _ => true
theorem semAt_of {o : Oper} (h : noDefer o = true) (ro : Option Nat) (ρ : Operand → Value) : Oper.semAt ro ρ o = execOp ρ o := by
  refine Oper.semAt_eq ro ρ o fun c hc => ?_
  obtain ⟨d, op, ty, pos, af, g⟩ := o
  simp only at hc
  subst hc
  cases h

theorem rowsIn_open {F : Fence} (h : Open F) {n : Nat} {P : Program} {row : String} {args : Array Value} {w : World} {R : Value → World → Prop} (hc : Rows P row args w R) : RowsIn F n P row args w R := by
  rcases h with rfl | ⟨l, rfl⟩
  · exact fun c cs _ => let ⟨v, w', r, s⟩ := hc c cs; ⟨v, w', r, stepsIn_wide.2 s⟩
  · exact fun c cs _ => let ⟨v, w', r, s⟩ := hc c cs; ⟨v, w', r, stepsIn_wide.2 s⟩

section
variable {G : Ctx} {n : Nat} {all : Array Oper} {ρ : Env} {w : World} {F : Fence} {m : Nat}

theorem wpIn_of_wp {P : Program} {Q Q' : Exit → Act → World → Prop} (hF : Open F) {o : Oper} (hd : noDefer o = true) {a : Act} {K : Act → World → Prop} (hq : ∀ e a w, ¬ (e = .normal) → ¬ Q e a w) (h : o.wp P a w K Q) : o.wpIn F m P a w K Q' := by
  refine ⟨fun f _ => open_fn hF f, ?_⟩
  rw [semAt_of hd]
  unfold Oper.wp at h
  generalize (execOp a.eval o).run P w = r at *
  have h1 : F.depth.isSome = true → 1 ≤ m := fun hh => by rw [open_depth hF] at hh; cases hh
  cases r with
  | ok x w' =>
    cases x <;> simp only [Oper.upon, Oper.uponIn] at h ⊢
    case enter f args =>
      refine ⟨h1, callsIn_open hF (Calls.mono h fun e w'' he => ?_)⟩
      cases e with
      | returned u => exact he
      | panicked c => exact (hq _ _ _ (by simp) he).elim
      | outgrown => obtain ⟨a', w', hq'⟩ := he; exact (hq _ _ _ (by simp) hq').elim
    case row row args => exact ⟨h1, rowsIn_open hF h⟩
    all_goals exact h
  | halt x w' =>
    cases x <;> simp only [Oper.upon, Oper.uponIn] at h ⊢
    case panic u => exact (hq _ _ _ (by simp) h).elim

theorem wpListIn_of {P : Program} {Q Q' : Exit → Act → World → Prop} (hF : Open F) (hq : ∀ e a w, ¬ (e = .normal) → ¬ Q e a w) {rest : List Oper} : ∀ (l : List Oper) (a : Act) (w : World), l.all noDefer = true →
    (∀ a w, Q .normal a w → wpListIn F m P all Q' rest a w) → wpList P all Q l a w → wpListIn F m P all Q' (l ++ rest) a w
  | [], a, w, hd, hr, h => hr a w h
  | o :: l, a, w, hd, hr, h => by
    simp only [List.all_cons, Bool.and_eq_true] at hd
    rw [List.cons_append]
    unfold wpList at h
    unfold wpListIn
    split
    · rename_i hw
      rw [if_pos hw] at h
      rcases h with h | ⟨_, h⟩
      · exact wpIn_of_wp hF hd.1 hq (Oper.wp_mono (fun a' w' h' => wpListIn_of hF hq l a' w' hd.2 hr h') h)
      · obtain ⟨a', w', hq'⟩ := h
        exact (hq _ _ _ (by simp) hq').elim
    · rename_i hw
      rw [if_neg hw] at h
      exact ⟨fun f _ => open_fn hF f, wpListIn_of hF hq l _ w hd.2 hr h⟩

/-- the first operations of a region, by a walk of M -/
theorem opsIn {Q' : Exit → Act → World → Prop} (hF : Open F) {l rest : List Oper} {a : Act} (hfit : Fits n ρ a) (J : Env → World → Prop) (hd : l.all noDefer = true)
    (h : M G n [.ops all l, .stop J] (fun _ _ _ => False) ρ w) (hr : ∀ ρ' a' w', Fits n ρ' a' → J ρ' w' → wpListIn F m G.P all Q' rest a' w') : wpListIn F m G.P all Q' (l ++ rest) a w := by
  refine wpListIn_of hF (Q := lift n (post G n [.stop J] (fun _ _ _ => False))) ?_ l a w hd ?_ (h.out a hfit)
  · rintro e a' w' he ⟨ρ', _, hq⟩
    cases e <;> first | exact he rfl | exact hq
  · rintro a' w' ⟨ρ', hf', hq⟩
    exact hr ρ' a' w' hf' hq
theorem regIn {Q' : Exit → Act → World → Prop} (hF : Open F) {id : Nat} {a : Act} (hfit : Fits n ρ a) (J : Env → World → Prop) (hd : all.toList.all noDefer = true)
    (h : M G n [.ops all all.toList, .stop J] (fun _ _ _ => False) ρ w) (hr : ∀ ρ' a' w', Fits n ρ' a' → J ρ' w' → Q' .normal a' w') : (Code.region id all false).wpIn F m G.P Q' a w := by
  refine wpIn_region_list ?_
  have := opsIn (rest := []) (Q' := Q') (m := m) hF hfit J hd h (fun ρ' a' w' hf' hj => by unfold wpListIn; exact hr ρ' a' w' hf' hj)
  rwa [List.append_nil] at this
theorem opsInEnd {Q' : Exit → Act → World → Prop} (hF : Open F) {l : List Oper} {a : Act} (hfit : Fits n ρ a) (J : Env → World → Prop) (hd : l.all noDefer = true)
    (h : M G n [.ops all l, .stop J] (fun _ _ _ => False) ρ w) (hr : ∀ ρ' a' w', Fits n ρ' a' → J ρ' w' → Q' .normal a' w') : wpListIn F m G.P all Q' l a w := by
  have := opsIn (rest := []) (Q' := Q') (m := m) hF hfit J hd h (fun ρ' a' w' hf' hj => by unfold wpListIn; exact hr ρ' a' w' hf' hj)
  rwa [List.append_nil] at this
/-- a call of 'yield' -/
theorem yieldIn {Q' : Exit → Act → World → Prop} (hF : Open F) {d : Tmp} {l : Nat} {f x : Operand} {xv : Value} {ts : Array TypeId} {ty : TypeId} {pos : String} {after : Array Edge} {gd : Option (Nat × Bool)} {rest : List Oper} {a : Act} (hfit : Fits n ρ a)
    (hw : wantedE ρ all ⟨some d, .call { callee := .value f, args := #[x], argTypes := ts }, ty, pos, after, gd⟩ = some true) (hf : ρ.ev f = some (.func (.yield l) #[] #[])) (hx : ρ.ev x = some xv)
    {R : Ending → World → Prop} (hy : YieldAt F (m - 1) G.P l #[xv] w R) (hr : ∀ e w', R e w' → ∃ v, e = .returned v ∧ wpListIn F m G.P all Q' rest (a.put (some d) v) w') :
    wpListIn F m G.P all Q' (⟨some d, .call { callee := .value f, args := #[x], argTypes := ts }, ty, pos, after, gd⟩ :: rest) a w := by
  obtain ⟨fn, tmps, assign, body, hrun, hR⟩ := hy
  unfold wpListIn
  rw [if_pos (wantedE_sound hfit hw)]
  refine ⟨fun f _ => open_fn hF f, ?_⟩
  rw [semAt_of rfl]
  have : (execOp a.eval ⟨some d, .call { callee := .value f, args := #[x], argTypes := ts }, ty, pos, after, gd⟩).run G.P w = .ok (.round l fn tmps assign body) w := by
    simp only [execOp, resolve, hfit.ev hf, List.map_toArray, List.map_cons, List.map_nil, hfit.ev hx, Deferred.ofValue]
    simp [Sem.run_bind, invoke, hrun, Result.andThen]
  rw [this]
  refine ⟨fun hh => (by rw [open_depth hF] at hh; cases hh), hR.mono fun e w' he => ?_⟩
  obtain ⟨v, rfl, h⟩ := hr e w' he
  exact h

/-- a region of one store, whatever calls are deferred -/
theorem storeD {Q : Exit → Act → World → Prop} (hF : Open F) {id t : Nat} {x y : Operand} {ty : TypeId} {pos : String} {after : Array Edge} {a : Act} {g off t' : Nat} {cs : List Value} {v : Value} {i : TI} (hx : a.eval x = .pointer (some ⟨g, off, none⟩)) (hy : a.eval y = v)
    (hT : G.T.get t = some i) (hsz : v.cells.size = i.size) (hB : Blk w g cs t') (hl : off + v.cells.toList.length ≤ cs.length) (hp : ∀ c ∈ v.cells.toList, c.oneCell' = true)
    (hk : ∀ w', Blk w' g (cs.take off ++ v.cells.toList ++ cs.drop (off + v.cells.toList.length)) t' → w.grownBy w' (some g) → Q .normal a w') :
    (Code.region id #[⟨none, .store t x y, ty, pos, after, none⟩] false).wpIn F m G.P Q a w := by
  refine wpIn_region_list ?_
  show wpListIn _ _ _ _ _ [_] _ _
  unfold wpListIn
  rw [if_pos (by simp [Region.wanted])]
  refine ⟨fun f _ => open_fn hF f, ?_⟩
  rw [semAt_of rfl]
  have hst := run_storeCells_at (P := G.P) g off t' v.cells.toList 0 cs.toArray w hB (by simpa using hl) hp
  simp only [Nat.add_zero] at hst
  have hrun : (execOp a.eval ⟨none, .store t x y, ty, pos, after, none⟩).run G.P w = .ok .skip (w.setRow g (cs.take off ++ v.cells.toList ++ cs.drop (off + v.cells.toList.length)).toArray) := by
    rw [show execOp a.eval ⟨none, .store t x y, ty, pos, after, none⟩ = (do Instr.storeAt t (a.eval x) (a.eval y); pure .skip : Sem Next) by simp [execOp]]
    rw [hx, hy]
    simp only [Instr.storeAt, Instr.sureAddr, storeVar, Sem.run_bind, Sem.run_pure, Result.andThen_ok, TI.sizeRun hT, hsz, ne_eq, not_true_eq_false, if_false, hst]
  rw [hrun]
  exact hk _ (setRow_heap w g cs.toArray _ t' (0, 0) hB) (gr_setRow w g _ ⟨_, hB⟩)
end
theorem fits_args {fn : Func} {n : Nat} (args : List Value) {A : Array Value} (hA : A = args.toArray) (hn : fn.ntmps = n) (hl : Nat.ble args.length n = true) : Fits n (argsEnv 0 args) { tmps := A ++ Array.replicate (fn.ntmps - A.size) undef, defers := [] } := by
  subst hA
  refine ⟨?_, rfl, ?_⟩
  · have := Nat.le_of_ble_eq_true hl
    simp [hn]; omega
  · intro i v hi
    obtain ⟨_, h2⟩ := argsEnv_find args 0 i v hi
    have hlt : i < args.length := (List.getElem?_eq_some_iff.1 h2).1
    simp at h2
    simp [Array.getD_eq_getD_getElem?, Array.getElem?_append, hlt]
    rw [List.getElem?_eq_getElem hlt] at h2
    simpa using h2
end Go.Vc
end

section
/- '==' of arrays of bools and of structs of two ints. -/
set_option linter.unusedVariables false
set_option linter.unusedSimpArgs false
namespace Go.Vc
open Go.RowKit

section
variable {G : Ctx} {n : Nat} {all : Array Oper} {ρ : Env} {o : Oper} {W : World → Prop} {v : Value}
def evEq (n : Nat) (ρ : Env) (all : Array Oper) (o : Oper) : Option (BinOp × TypeId × Value × Value) :=
  match wantedE ρ all o, o.op with
  | some true, .binOp op t x y _ => match ρ.ev x, ρ.ev y with
    | some a, some b => bif inB n o.dst then some (op, t, a, b) else none
    | _, _ => none
  | _, _ => none
theorem YS.eqG {op : BinOp} {t : TypeId} {a b : Value} (he : evEq n ρ all o = some (op, t, a, b)) (hg : ∀ x y w, (eqGuard op t x y a b).run G.P w = .ok () w) (h : ∀ w, (binOp op t a b).run G.P w = .ok v w) : YS G n all ρ o W v := by
  unfold evEq at he
  split at he
  · rename_i op' t' x y u hw ho
    split at he
    · rename_i a' b' hx hy
      cases hb : inB n o.dst with
      | false => rw [hb] at he; simp at he
      | true =>
        rw [hb] at he
        simp at he
        obtain ⟨rfl, rfl, rfl, rfl⟩ := he
        refine ⟨hw, hb, fun ac hf w hC => ?_⟩
        simp only [execOp, ho, hf.ev hx, hf.ev hy]
        simp only [Sem.run_bind, hg, h, Result.andThen_ok, Sem.run_pure]
    · simp at he
  · simp at he

theorem run_items_bool {P : Program} {e : TypeId} {d m : Nat} (he : P.underlying e = some .bool) (hc : P.cellsOf e = 1) (f g : Nat → Bool) (hagg : ∀ w, (isAgg e).run P w = .ok false w) :
    ∀ (is : List Nat) (w : World), (∀ i ∈ is, i < m) → (Op.eqItems (d + 1) e (P.cellsOf e) ((List.range m).map fun i => Value.bool (f i)).toArray ((List.range m).map fun i => Value.bool (g i)).toArray is).run P w = .ok (is.all fun i => f i == g i) w
  | [], w, _ => by simp [Op.eqItems]
  | i :: is, w, hi => by
    have hlt := hi i (by simp)
    have h1 : ∀ (h : Nat → Bool) w, (part e ((List.range m).map fun i => Value.bool (h i)).toArray (i * 1)).run P w = .ok (.bool (h i)) w := fun h w => by
      simp [part, Sem.run_bind, hagg, Result.andThen, hlt]
    rw [hc]
    simp only [Op.eqItems, Sem.run_bind, h1, Result.andThen_ok, run_equalIn_bool _ _ _ _ _ he]
    have ih := run_items_bool (d := d) he hc f g hagg is w (fun j hj => hi j (by simp [hj]))
    rw [hc] at ih
    cases hfg : (f i == g i) with
    | false => simp [hfg]
    | true => simp [hfg]; simpa using ih

/-- arrays of bools -/
theorem YS.eqBA {t e m : Nat} {f g : Nat → Bool} {cs ds : Array Value} (he : evEq n ρ all o = some (.eql, t, .agg cs, .agg ds)) (hcs : cs = ((List.range m).map fun i => Value.bool (f i)).toArray) (hds : ds = ((List.range m).map fun i => Value.bool (g i)).toArray)
    (hgd : G.P.eqGuardType G.P.depth t = false) (hu : G.P.underlying t = some (.array m e)) {sz : Value} {bz : Nat} (hTe : G.T.get e = some ⟨.bool, 1, sz, bz⟩) : YS G n all ρ o W (.bool ((List.range m).all fun i => f i == g i)) := by
  subst hcs; subst hds
  obtain ⟨hue, hinfo⟩ := Tab.ok_get G.ok hTe
  obtain ⟨i, hi, hsz⟩ := Option.map_eq_some_iff.1 hinfo
  simp only [Prod.mk.injEq] at hsz
  have hue : G.P.underlying e = some .bool := hue
  have hc : G.P.cellsOf e = 1 := by simp [Program.cellsOf, hi, hsz.1]
  refine YS.eqG he (fun x y w => run_eqGuard_agg w _ _ _ _ _ _ hgd) (fun w => ?_)
  rw [run_eql_struct, show (10000 : Nat) = 9999 + 1 from rfl, run_equalIn_array w 9999 _ _ hu hi]
  have hagg : ∀ w, (isAgg e).run G.P w = .ok false w := fun w => by simp [isAgg, Sem.run_bind, run_underlying hue]
  rw [show (9999 : Nat) = 9998 + 1 from rfl, run_items_bool hue hc f g hagg _ _ (fun i hi => by simpa using hi)]
  rfl

/-- structs of two ints -/
theorem run_eq2 {P : Program} {t ti : TypeId} {F1 F2 : Field} {k : IntKind} (hu : P.underlying t = some (.struct #[F1, F2])) (h1 : F1.type = ti ∧ F1.offset = 0 ∧ F1.name ≠ "_") (h2 : F2.type = ti ∧ F2.offset = 1 ∧ F2.name ≠ "_") (hi : P.underlying ti = some (.int k))
    (hs : P.stoodInHeld t = false) (a b c d : Int) (w : World) : (Op.equalIn 10000 t (.agg #[.int k a, .int k b]) (.agg #[.int k c, .int k d])).run P w = .ok (a == c && b == d) w := by
  have hf : P.fieldsOf t = #[F1, F2] := by simp [Program.fieldsOf, hu]
  have hagg : ∀ w, (isAgg ti).run P w = .ok false w := fun w => by simp [isAgg, Sem.run_bind, run_underlying hi]
  rw [show (10000 : Nat) = 9999 + 1 from rfl, run_equalIn_struct w 9999 t _ _ (by rw [hf]; exact hu) hs, hf]
  have e1 : ∀ x y w, (Op.equalIn 9999 ti (.int k x) (.int k y)).run P w = .ok (x == y) w := fun x y w => run_equalIn_int w 9998 ti k k x y hi
  cases hac : (a == c) with
  | false => simp [Op.eqFields, h1, h2, part, Sem.run_bind, hagg, Result.andThen, e1, hac]
  | true => 
    cases hbd : (b == d) with
    | false => simp [Op.eqFields, h1, h2, part, Sem.run_bind, hagg, Result.andThen, e1, hac, hbd]
    | true => simp [Op.eqFields, h1, h2, part, Sem.run_bind, hagg, Result.andThen, e1, hac, hbd]
theorem YS.eqII {t ti : TypeId} {F1 F2 : Field} {k : IntKind} {a b c d : Int} (he : evEq n ρ all o = some (.eql, t, .agg #[.int k a, .int k b], .agg #[.int k c, .int k d]))
    (hgd : G.P.eqGuardType G.P.depth t = false) (hu : G.P.underlying t = some (.struct #[F1, F2])) (h1 : F1.type = ti ∧ F1.offset = 0 ∧ F1.name ≠ "_") (h2 : F2.type = ti ∧ F2.offset = 1 ∧ F2.name ≠ "_") (hi : G.P.underlying ti = some (.int k))
    (hs : G.P.stoodInHeld t = false) : YS G n all ρ o W (.bool (a == c && b == d)) := by
  refine YS.eqG he (fun x y w => run_eqGuard_agg w _ _ _ _ _ _ hgd) (fun w => ?_)
  rw [run_eql_struct, run_eq2 hu h1 h2 hi hs]
  rfl
theorem YS.neII {t ti : TypeId} {F1 F2 : Field} {k : IntKind} {a b c d : Int} (he : evEq n ρ all o = some (.neq, t, .agg #[.int k a, .int k b], .agg #[.int k c, .int k d]))
    (hgd : G.P.eqGuardType G.P.depth t = false) (hu : G.P.underlying t = some (.struct #[F1, F2])) (h1 : F1.type = ti ∧ F1.offset = 0 ∧ F1.name ≠ "_") (h2 : F2.type = ti ∧ F2.offset = 1 ∧ F2.name ≠ "_") (hi : G.P.underlying ti = some (.int k))
    (hs : G.P.stoodInHeld t = false) : YS G n all ρ o W (.bool !(a == c && b == d)) := by
  refine YS.eqG he (fun x y w => run_eqGuard_agg w _ _ _ _ _ _ hgd) (fun w => ?_)
  simp only [binOp, Op.equal, Op.maxDepth, Sem.run_bind, run_eq2 hu h1 h2 hi hs, Result.andThen_ok, Sem.run_pure]
end
end Go.Vc
end

section
/- A step that writes one old block; an element's cell in a slice of the call's own. -/
set_option linter.unusedVariables false
set_option linter.unusedSimpArgs false
namespace Go.Vc
open Go.RowKit
theorem gr_weak {w w' : World} {r : Option Nat} (h : w.grownBy w' none) : w.grownBy w' r := ⟨h.os, h.tape, h.output, h.size, fun k hk _ => h.block k hk (by simp)⟩
theorem gr_transR {w w1 w2 : World} {r : Option Nat} (h : w.grownBy w1 r) (k : w1.grownBy w2 r) : w.grownBy w2 r :=
  ⟨k.os.trans h.os, k.tape.trans h.tape, k.output.trans h.output, Nat.le_trans h.size k.size, fun i hi hr => (k.block i (Nat.lt_of_lt_of_le hi h.size) hr).trans (h.block i hi hr)⟩
/-- of the block alone that was new -/
theorem gr_new {w w1 w2 : World} {r : Option Nat} (h : w.grownBy w1 none) (k : w1.grownBy w2 r) (hr : ∀ g, r = some g → w.heap.size ≤ g) : w.grownBy w2 none := by
  cases r with
  | none => exact gr_trans h k
  | some g => exact gr_fresh h k (hr g rfl)

theorem over_set (cs : List Value) (i : Nat) (v : Value) (h : i < cs.length) : cs.take i ++ [v] ++ cs.drop (i + 1) = cs.set i v := by
  rw [List.set_eq_take_append_cons_drop, if_pos h]; simp

theorem seg_set_other {cs : List Value} {off : Nat} {v : Value} {j sz : Nat} (h : off < j * sz ∨ (j + 1) * sz ≤ off) : seg (cs.set off v) j sz = seg cs j sz := by
  unfold seg
  apply List.ext_getElem?
  intro i
  simp only [List.getElem?_take, List.getElem?_drop]
  split
  · rename_i hi
    rw [List.getElem?_set_ne]
    rw [Nat.add_mul] at h
    omega
  · rfl
theorem seg_set_self {cs : List Value} {o : Nat} {v : Value} {j sz : Nat} (h : o < sz) : seg (cs.set (j * sz + o) v) j sz = (seg cs j sz).set o v := by
  unfold seg
  rw [List.drop_set, if_neg (by omega), Nat.add_sub_cancel_left, List.take_set]

section
variable {α : Type} {enc : α → List Value} {sz : Nat} {hl : ∀ x, (enc x).length = sz} {hp : ∀ x, ∀ c ∈ enc x, c.oneCell' = true} {e : Nat} {w : World} {base : Nat} {F : Nat → Prop} {A : Option Addr} {c : Nat} {xs : List α}
/-- the row's block, of one form: it may be written at an element's cell -/
theorem Own.at_flat (h : Own (Rp.flat enc sz hl hp) e w base F A c xs) {j : Nat} {x : α} (hj : xs[j]? = some x) : ∃ g cur, A = some ⟨g, 0, none⟩ ∧ base ≤ g ∧ Blk w g cur e ∧ (j + 1) * sz ≤ cur.length ∧ Cells w ((⟨g, 0, none⟩ : Addr).add (j * sz)) (enc x) ∧ seg cur j sz = enc x ∧
    ∀ (o : Nat) (v : Value) (y : α) (w' : World), o < sz → enc y = (enc x).set o v → Blk w' g (cur.set (j * sz + o) v) e → Own (Rp.flat enc sz hl hp) e w' base F A c (xs.set j y) := by
  rcases h with ⟨rfl, rfl, rfl⟩ | ⟨g, cur, rfl, hb, hB, hle, hm, hs, hx⟩
  · simp at hj
  · have hjlt := (List.getElem?_eq_some_iff.1 hj).1
    have hs' : cur.length = c * sz := hs
    have hlen : (j + 1) * sz ≤ cur.length := by rw [hs']; exact Nat.mul_le_mul_right _ (by omega)
    have hk : seg cur j sz = enc x := hx j x hj
    refine ⟨g, cur, rfl, hb, hB, hlen, ?_, hk, ?_⟩
    · rw [← hk]; exact seg_cells hB j sz
    · intro o v y w' ho hy hB'
      refine .inr ⟨g, _, rfl, hb, hB', by simpa using hle, hm, by simpa using hs, fun i z hi => ?_⟩
      show seg _ i sz = enc z
      by_cases hij : j = i
      · subst hij
        rw [List.getElem?_set_self hjlt] at hi
        injection hi with hi
        subst hi
        rw [seg_set_self ho, hk, hy]
      · rw [List.getElem?_set_ne hij] at hi
        rw [seg_set_other]
        · exact hx i z hi
        · rcases Nat.lt_or_gt_of_ne hij with h | h
          · left
            have : (j + 1) * sz ≤ i * sz := Nat.mul_le_mul_right _ h
            rw [Nat.add_mul] at this; omega
          · right
            have : (i + 1) * sz ≤ j * sz := Nat.mul_le_mul_right _ h
            omega
theorem Own.congr {ys : List α} (h : Own (Rp.flat enc sz hl hp) e w base F A c xs) (he : xs.map enc = ys.map enc) : Own (Rp.flat enc sz hl hp) e w base F A c ys := by
  have hlen : xs.length = ys.length := by have := congrArg List.length he; simpa using this
  rcases h with ⟨rfl, rfl, rfl⟩ | ⟨g, cur, rfl, hb, hB, hle, hm, hs, hx⟩
  · have : ys = [] := List.eq_nil_of_length_eq_zero (by simpa using hlen.symm)
    exact .inl ⟨rfl, this, rfl⟩
  · refine .inr ⟨g, cur, rfl, hb, hB, by omega, hm, hs, fun j y hj => ?_⟩
    have hjlt := (List.getElem?_eq_some_iff.1 hj).1
    have h1 := hx j _ (List.getElem?_eq_getElem (show j < xs.length by omega))
    have h2 : seg cur j sz = enc xs[j] := h1
    show seg cur j sz = enc y
    rw [h2]
    have := congrArg (fun l => l[j]?) he
    simp only [List.getElem?_map, hj, List.getElem?_eq_getElem (show j < xs.length by omega), Option.map_some, Option.some.injEq] at this
    exact this
end
/-- what is read of a row of the call's own, in worlds in which other blocks alone have been written -/
theorem Own.sl2 {α : Type} {d : Rp α} {e : Nat} {w : World} {base : Nat} {A : Option Addr} {c : Nat} {xs : List α} (hs : 0 < d.sz) (h : Own d e w base (fun _ => False) A c xs) {w' : World} {r : Option Nat} (hg : w.grownBy w' r) (hr : ∀ g, r = some g → g < base) : Sl d w' (fun b => base ≤ b ∧ b < w'.heap.size) A c xs :=
  (((h.sl).bound hs).move (fun b hb => hg.block b hb.2 (fun he => by have h1 := hr b he.symm; rcases hb.1 with h2 | h2 <;> first | exact h2 | omega))).mono (fun b hb => ⟨hb.1.resolve_left (fun h => h), Nat.lt_of_lt_of_le hb.2 hg.size⟩)

theorem Own.mvOld {α : Type} {d : Rp α} {e : Nat} {w w' : World} {base k : Nat} {A : Option Addr} {c : Nat} {xs : List α} (h : Own d e w base (fun _ => False) A c xs) (hg : w.grownBy w' (some k)) (hk : k < base) : Own d e w' base (fun _ => False) A c xs :=
  h.mv1 hg (fun hA => by have := (h.blkGe k (by rw [hA]; rfl)).1; omega) (fun h => h)

section
variable {G : Ctx} {n : Nat} {Q : QT} {ρ : Env} {w : World} {all : Array Oper} {l : List Oper} {k : List It} {dd : Tmp} {op : Op} {ty : TypeId} {pos : String} {after : Array Edge} {gd : Option (Nat × Bool)} {o : Oper}
/-- '[]T{x}', whatever x's size -/
def evBS1 (T : Tab) (n : Nat) (ρ : Env) (all : Array Oper) (o : Oper) : Option (Value × Nat × TI) :=
  match wantedE ρ all o, o.op with
  | some true, .buildSlice t 1 parts => match T.get t, partsE ρ parts.toList with
    | some ⟨.slice e, _, _, _⟩, some [(0, v)] => match T.get e with
      | some ie => bif inB n o.dst then some (v, e, ie) else none
      | none => none
    | _, _ => none
  | _, _ => none
theorem M.bs1 {v : Value} {e : Nat} {ie : TI} (he : evBS1 G.T n ρ all ⟨some dd, op, ty, pos, after, gd⟩ = some (v, e, ie)) (hv : v.cells.toList.length = ie.size) (h0 : 0 < ie.size) (h1 : ie.size ≤ 16777216) (hz : ie.zero.cells.toList.length = ie.size)
    (h : ∀ g w', Blk w' g v.cells.toList e → w.grownBy w' none → w.heap.size ≤ g → M G n (.ops all l :: k) Q ((dd, .slice (some ⟨g, 0, none⟩) 1 1) :: ρ) w') : M G n (.ops all (⟨some dd, op, ty, pos, after, gd⟩ :: l) :: k) Q ρ w := by
  refine M.bs (cs := v.cells.toList) (e := e) (len := 1) ?_ h
  unfold evBS1 at he
  split at he
  · rename_i t parts hw ho
    split at he
    · rename_i e2 sz z bz v2 hT hp
      split at he
      · rename_i ie2 hTe
        cases hb : inB n (some dd) with
        | false => rw [hb] at he; simp at he
        | true =>
          rw [hb] at he
          simp at he
          obtain ⟨rfl, rfl, rfl⟩ := he
          simp only at ho
          subst ho
          unfold evBS
          have hzl : ((List.replicate 1 ie2.zero.cells.toList).flatten).length = ie2.size := by simpa using hz
          have hfill : fillL (fun i => some (i * ie2.size, ie2.size)) ((List.replicate 1 ie2.zero.cells.toList).flatten) [(0, v2)] = some v2.cells.toList := by
            simp only [fillL, Nat.zero_mul, Nat.zero_add, hzl]
            have b1 : Nat.beq v2.cells.toList.length ie2.size = true := by rw [hv]; exact Nat.beq_refl _
            have b2 : Nat.ble ie2.size ie2.size = true := Nat.ble_eq_true_of_le (Nat.le_refl _)
            rw [b1, b2]
            simp only [Bool.and_self, cond_true, over, List.take_zero, List.nil_append, Nat.zero_add]
            rw [List.drop_eq_nil_of_le (by rw [hzl, hv]; exact Nat.le_refl _), List.append_nil]
          simp only [hw, hT, hp, hTe, hfill]
          have b1 : Nat.ble (1 * ie2.size) 16777216 = true := Nat.ble_eq_true_of_le (by omega)
          have b2 : Nat.blt 0 (1 * ie2.size) = true := by
            show Nat.ble (0 + 1) (1 * ie2.size) = true
            exact Nat.ble_eq_true_of_le (by omega)
          have b3 : Nat.beq ie2.zero.cells.toList.length ie2.size = true := by rw [hz]; exact Nat.beq_refl _
          rw [b1, b2, b3, hb]
          rfl
      · simp at he
    · simp at he
  · simp at he

/-- a store, whatever the value's size -/
def evStoreA (T : Tab) (ρ : Env) (all : Array Oper) (o : Oper) : Option (Addr × List Value × Nat) :=
  match wantedE ρ all o, o.op, o.dst with
  | some true, .store t x y, none => match ρ.ev x, ρ.ev y, T.get t with
    | some (.pointer (some a)), some v, some i => some (a, v.cells.toList, i.size)
    | _, _, _ => none
  | _, _, _ => none
theorem M.storeA {a : Addr} {vs cs : List Value} {g off t sz : Nat} (he : evStoreA G.T ρ all o = some (a, vs, sz)) (hsz : vs.length = sz) (ha : a = ⟨g, off, none⟩) (hB : Blk w g cs t) (hl : off + vs.length ≤ cs.length) (hp' : vs.all Value.oneCell' = true)
    (h : ∀ w', Blk w' g (cs.take off ++ vs ++ cs.drop (off + vs.length)) t → w.grownBy w' (some g) → M G n (.ops all l :: k) Q ρ w') : M G n (.ops all (o :: l) :: k) Q ρ w := by
  refine M.store (a := a) (vs := vs) ?_ ha hB (Nat.ble_eq_true_of_le hl) hp' h
  unfold evStoreA at he
  split at he
  · rename_i t' x y hw ho hd
    split at he
    · rename_i a' v i hx hy hT
      simp at he
      obtain ⟨rfl, rfl, rfl⟩ := he
      unfold evStore
      simp only [hw, ho, hd, hx, hy, hT, hsz, Nat.beq_refl, cond_true]
    · simp at he
  · simp at he
end
/-- all of a block -/
theorem blk_all {w : World} {g t : Nat} {cs vs : List Value} (hl : vs.length = cs.length) (h : Blk w g (cs.take 0 ++ vs ++ cs.drop (0 + vs.length)) t) : Blk w g vs t := by
  rw [List.take_zero, List.nil_append, Nat.zero_add, hl, List.drop_length, List.append_nil] at h
  exact h

/-! a label without a goto -/
section
variable {G : Ctx} {n : Nat} {k : List It} {Q : QT} {ρ : Env} {w : World}
theorem post_goto (l : Nat) : ∀ {k : List It}, post G n k Q (.goto l) = Q (.goto l)
  | [] => rfl
  | .code _ :: k => by funext ρ w; simp only [post]; rw [post_goto l]
  | .ops _ _ :: k => by funext ρ w; simp only [post]; rw [post_goto l]
  | .blk _ :: k => by funext ρ w; simp only [post]; rw [post_goto l]
  | .stop _ :: k => by funext ρ w; simp only [post]; rw [post_goto l]
theorem M.scope {c : Code} (hg : ∀ l ρ w, ¬ Q (.goto l) ρ w) (h : M G n (.code c :: k) Q ρ w) : M G n (.code (.scope c) :: k) Q ρ w := by
  refine ⟨fun a hf => wp_scope_straight (Code.wp_mono ?_ (h.out a hf))⟩
  rintro e a' w' ⟨ρ', hf', hq⟩
  cases e with
  | goto l => rw [post_goto] at hq; exact (hg l ρ' w' hq).elim
  | _ => exact ⟨ρ', hf', hq⟩
theorem M.label {l : Nat} (h : M G n k Q ρ w) : M G n (.code (.label l) :: k) Q ρ w := ⟨fun a hf => wp_label ⟨ρ, hf, h.out⟩⟩
end
/-! ways meet in a region -/
section
variable {G : Ctx} {n : Nat} {all : Array Oper} {R RL : World → World → Prop} {late ex sk : List Nat} {k : List It} {Q : QT} {m : Nat} {done done' : List Nat} {ρ ρ' : Env} {w : World}
theorem edgesOk_congr (h : ∀ i, memN i done = memN i done') : ∀ (l : List Edge), edgesOk done l = edgesOk done' l
  | [] => rfl
  | e :: r => by simp only [edgesOk, h, edgesOk_congr h r]
theorem sameN (h : (done.all (fun i => memN i done') && done'.all (fun i => memN i done)) = true) (i : Nat) : memN i done = memN i done' := by
  simp only [Bool.and_eq_true, List.all_eq_true] at h
  cases h1 : memN i done with
  | true => rw [memN_iff] at h1; exact (h.1 i h1).symm
  | false =>
    cases h2 : memN i done' with
    | false => rfl
    | true =>
      rw [memN_iff] at h2
      rw [h.2 i h2] at h1
      cases h1
theorem D.weak (hs : (done.all (fun i => memN i done') && done'.all (fun i => memN i done)) = true) (hh : Has ρ ρ') (h : D G n all R RL late ex sk k Q m done' ρ' w) : D G n all R RL late ex sk k Q m done ρ w := by
  have hm := sameN hs
  refine ⟨fun hR hT hS hL hp hB a hf listed hl => h.out hR hT hS hL hp hB a (hf.weaken hh) listed ⟨hl.1, fun i => by rw [hl.2.1, hm], fun j o ho hj => ?_⟩⟩
  rw [← edgesOk_congr hm]
  exact hl.2.2 j o ho (by rw [hm]; exact hj)
theorem D.meet {σ : Type} (m' : Nat) (done' : List Nat) (env : σ → Env) (P : σ → World → Prop) (h1 : (∀ s w', P s w' → D G n all R RL late ex sk k Q m' done' (env s) w') → D G n all R RL late ex sk k Q m done ρ w)
    (h2 : ∀ s w', P s w' → D G n all R RL late ex sk k Q m' done' (env s) w') : D G n all R RL late ex sk k Q m done ρ w := h1 h2
/-- all keep one block -/
theorem M.drawK (g : Nat) {fn : Func} {S : Ending → World → Prop} {id : Nat} (hB : regB all [] [] [] = true)
    (h : ∀ w', w.grownBy w' none → D G n all (fun w w' => ∀ o, w.heap[g]? = some o → w'.heap[g]? = some o) (fun _ _ => True) [] [] [] k (fin G n fn S) all.size [] ρ w') : M G n (.code (.region id all true) :: k) (fin G n fn S) ρ w :=
  M.draw _ (fun _ _ => True) [] [] [] (fun _ _ _ h => h) (fun w o h => h) (fun a b c h k o ho => k o (h o ho)) (fun _ _ _ => trivial) (fun _ _ _ _ _ => trivial) hB (h _ (gr_drewN w 1))
end
theorem keep_gr {w w' : World} {r : Option Nat} (h : w.grownBy w' r) {g : Nat} (hg : r ≠ some g) : ∀ o, w.heap[g]? = some o → w'.heap[g]? = some o :=
  fun o ho => (h.block g (Array.getElem?_eq_some_iff.1 ho).1 (fun e => hg e.symm)).trans ho
end Go.Vc
end

section
/- Maps whose keys are structs of two ints. -/
set_option linter.unusedVariables false
set_option linter.unusedSimpArgs false
namespace Go.Vc
open Go.RowKit

structure ME where
  a : Int
  b : Int
  v : Value
  born : Nat
def encM (k : IntKind) (ms : List ME) : Array MapEntry := (ms.map fun x => { key := .agg #[.int k x.a, .int k x.b], val := x.v, born := x.born : MapEntry }).toArray

/-- a struct of two ints, as a key -/
structure Key2 (P : Program) (t : TypeId) (k : IntKind) : Prop where
  ex : ∃ F1 F2 ti, P.underlying t = some (.struct #[F1, F2]) ∧ (F1.type = ti ∧ F1.offset = 0 ∧ F1.name ≠ "_") ∧ (F2.type = ti ∧ F2.offset = 1 ∧ F2.name ≠ "_") ∧ P.underlying ti = some (.int k) ∧ P.stoodInHeld t = false

section
variable {P : Program} {t : TypeId} {k : IntKind}
theorem Key2.eq (h : Key2 P t k) (a b c d : Int) (w : World) : (Op.equal t (.agg #[.int k a, .int k b]) (.agg #[.int k c, .int k d])).run P w = .ok (a == c && b == d) w := by
  obtain ⟨F1, F2, ti, hu, h1, h2, hi, hs⟩ := h.ex
  exact run_eq2 hu h1 h2 hi hs a b c d w
theorem Key2.check (h : Key2 P t k) (e : Bool) (a b : Int) (w : World) : (Instr.checkKey e 10000 t (.agg #[.int k a, .int k b])).run P w = .ok () w := by
  obtain ⟨F1, F2, ti, hu, h1, h2, hi, hs⟩ := h.ex
  have hagg : ∀ w, (isAgg ti).run P w = .ok false w := fun w => by simp [isAgg, Sem.run_bind, run_underlying hi]
  have hin : ∀ x w, (Instr.checkKey e 9999 ti (.int k x)).run P w = .ok () w := fun x w => by
    rw [show (9999 : Nat) = 9998 + 1 from rfl, Instr.checkKey]
    simp [Sem.run_bind, run_underlying hi, Result.andThen]
  rw [show (10000 : Nat) = 9999 + 1 from rfl, Instr.checkKey]
  simp only [Sem.run_bind, run_underlying hu, Result.andThen_ok]
  rw [← Array.forIn_toList]
  simp [List.forIn_cons, h1, h2, Sem.run_bind, part, hagg, Result.andThen, hin]

def findM (a b : Int) : List ME → Nat → Option (Nat × Value)
  | [], _ => none
  | x :: r, i => if x.a = a ∧ x.b = b then some (i, x.v) else findM a b r (i + 1)
theorem findM_spec {a b : Int} : ∀ {ms : List ME} {i j : Nat} {v : Value}, findM a b ms i = some (j, v) → ∃ x, i ≤ j ∧ ms[j - i]? = some x ∧ x.a = a ∧ x.b = b ∧ x.v = v
  | [], _, _, _, h => by simp [findM] at h
  | x :: r, i, j, v, h => by
    unfold findM at h
    split at h
    · rename_i hx
      injection h with h
      injection h with h1 h2
      subst h1
      exact ⟨x, Nat.le_refl _, by simp, hx.1, hx.2, h2⟩
    · obtain ⟨y, h1, h2, h3⟩ := findM_spec h
      refine ⟨y, by omega, ?_, h3⟩
      rw [show j - i = (j - (i + 1)) + 1 by omega]
      simpa using h2
theorem Key2.asking (h : Key2 P t k) (a b : Int) : ∀ (ms : List ME) (i : Nat) (w : World), (Instr.findAsking t (.agg #[.int k a, .int k b]) (ms.map fun x => { key := .agg #[.int k x.a, .int k x.b], val := x.v, born := x.born : MapEntry }) i).run P w = .ok (findM a b ms i) w
  | [], i, w => by simp [Instr.findAsking, findM]
  | x :: r, i, w => by
    have ih := h.asking a b r (i + 1) w
    simp only [List.map_cons, Instr.findAsking, Sem.run_bind, h.eq, Result.andThen_ok, findM]
    by_cases hx : x.a = a ∧ x.b = b
    · have : (a == x.a && b == x.b) = true := by simp [hx.1, hx.2]
      rw [this, if_pos hx]; simp
    · have : (a == x.a && b == x.b) = false := by
        rw [Bool.and_eq_false_iff]
        by_cases h1 : x.a = a
        · right; simp; intro h2; exact hx ⟨h1, h2.symm⟩
        · left; simp; intro h2; exact h1 h2.symm
      rw [this, if_neg hx]; simpa using ih
theorem Key2.find (h : Key2 P t k) (a b : Int) (ms : List ME) (w : World) : (Instr.findKey t (.agg #[.int k a, .int k b]) (encM k ms).toList).run P w = .ok (findM a b ms 0) w := by
  obtain ⟨F1, F2, ti, hu, h1, h2, hi, hs⟩ := h.ex
  rw [run_findKey_eq w (by rw [hu])]
  have := h.asking a b ms 0 w
  simpa [encM] using this
end

/-- a map's entries, of which each is as is said -/
def MapOk (k : IntKind) (T : Int → Int → Value → Prop) (w : World) (r : Nat) : Prop := ∃ ms clock, w.heap[r]? = some (.map (encM k ms) clock) ∧ ∀ x ∈ ms, T x.a x.b x.v
theorem MapOk.mv {k : IntKind} {T : Int → Int → Value → Prop} {w w' : World} {r : Nat} {q : Option Nat} (h : MapOk k T w r) (e : w.grownBy w' q) (hq : q ≠ some r) : MapOk k T w' r := by
  obtain ⟨ms, c, h1, h2⟩ := h
  exact ⟨ms, c, (e.block r (Array.getElem?_eq_some_iff.1 h1).1 (fun x => hq x.symm)).trans h1, h2⟩
theorem MapOk.mv0 {k : IntKind} {T : Int → Int → Value → Prop} {w w' : World} {r : Nat} (h : MapOk k T w r) (e : w.grownBy w' none) : MapOk k T w' r := h.mv e (by simp)
theorem MapOk.ne {k : IntKind} {T : Int → Int → Value → Prop} {w : World} {r g t : Nat} {cs : List Value} (h : MapOk k T w r) (hB : Blk w g cs t) : r ≠ g := by
  rintro rfl
  obtain ⟨ms, c, h1, _⟩ := h
  rw [hB] at h1
  cases h1

section
variable {G : Ctx} {n : Nat} {Q : QT} {ρ : Env} {w : World} {all : Array Oper} {l : List Oper} {its : List It} {dd : Tmp} {op : Op} {ty : TypeId} {pos : String} {after : Array Edge} {gd : Option (Nat × Bool)} {o : Oper}
def evMkMap (n : Nat) (ρ : Env) (all : Array Oper) (o : Oper) : Option Unit :=
  match wantedE ρ all o, o.op with
  | some true, .makeMap _ none => bif inB n o.dst then some () else none
  | _, _ => none
theorem M.mkMap (k : IntKind) (T : Int → Int → Value → Prop) (he : evMkMap n ρ all ⟨some dd, op, ty, pos, after, gd⟩ = some ())
    (h : ∀ r w', MapOk k T w' r → w.grownBy w' none → w.heap.size ≤ r → M G n (.ops all l :: its) Q ((dd, .map (some r)) :: ρ) w') : M G n (.ops all (⟨some dd, op, ty, pos, after, gd⟩ :: l) :: its) Q ρ w := by
  unfold evMkMap at he
  split at he
  · rename_i t hw ho
    cases hb : inB n (some dd) with
    | false => rw [hb] at he; simp at he
    | true =>
      simp only at ho
      subst ho
      refine M.step hw fun ac hf => ⟨.map (some w.heap.size), w.alloc (.map #[] 0), ?_, hb, h _ _ ⟨[], 0, by simpa [encM] using heap_alloc_new w _, by simp⟩ (gr_alloc _ _) (Nat.le_refl _)⟩
      simp [execOp, Instr.makeMap, Sem.run_bind, Result.andThen]
  · simp at he

def evLook (T : Tab) (n : Nat) (ρ : Env) (all : Array Oper) (o : Oper) : Option (Nat × Value × Nat) :=
  match wantedE ρ all o, o.op with
  | some true, .lookup t x y true => match ρ.ev x, ρ.ev y with
    | some (.map (some r)), some key => bif inB n o.dst then some (r, key, t) else none
    | _, _ => none
  | _, _ => none
theorem look_spec {k : IntKind} {T : Int → Int → Value → Prop} {r t kt et : Nat} (hm : MapOk k T w r) (hu : G.P.underlying t = some (.map kt et)) (hK : Key2 G.P kt k) {ie : TI} (hTe : G.T.get et = some ie) (a b : Int) :
    ∃ v ok, (ok = true → T a b v) ∧ (ok = false → v = ie.zero) ∧ ∀ W : World → Prop, (∀ w', W w' → w'.heap[r]? = w.heap[r]?) → ∀ {n : Nat} {ρ : Env} {all : Array Oper} {o : Oper}, evLook G.T n ρ all o = some (r, .agg #[.int k a, .int k b], t) → YS G n all ρ o W (.tuple #[v, .bool ok]) := by
  obtain ⟨ms, c, h1, h2⟩ := hm
  have key : ∀ v ok, ((do
      let (v, ok) ← match findM a b ms 0 with
        | some (_, v) => pure (v, true)
        | none => pure (← zeroValue et, false)
      pure (.tuple #[v, .bool ok]) : Sem Value).run G.P w = .ok (.tuple #[v, .bool ok]) w) → ∀ W : World → Prop, (∀ w', W w' → w'.heap[r]? = w.heap[r]?) → ∀ {n : Nat} {ρ : Env} {all : Array Oper} {o : Oper}, evLook G.T n ρ all o = some (r, .agg #[.int k a, .int k b], t) → YS G n all ρ o W (.tuple #[v, .bool ok]) := by
    intro v ok hv W hW n ρ all o he
    unfold evLook at he
    split at he
    · rename_i t' x y hw ho
      split at he
      · rename_i r' key hx hy
        cases hb : inB n o.dst with
        | false => rw [hb] at he; simp at he
        | true =>
          rw [hb] at he
          simp at he
          obtain ⟨rfl, rfl, rfl⟩ := he
          refine ⟨hw, hb, fun ac hf w' hC => ?_⟩
          rw [show execOp ac.eval o = (do pure (.value (← Instr.lookup t' (ac.eval x) (ac.eval y) true)) : Sem Next) by simp [execOp, ho]]
          refine run_value ?_
          rw [hf.ev hx, hf.ev hy]
          have h1' : w'.heap[r']? = some (.map (encM k ms) c) := (hW w' hC).trans h1
          unfold Instr.lookup
          simp only [Sem.run_bind, run_underlying hu, Result.andThen_ok, Go.run_getObj_map w' r' _ _ h1', Sem.run_pure, hK.check, hK.find]
          cases hfm : findM a b ms 0 with
          | none => rw [hfm] at hv; simp [Sem.run_bind, TI.zeroRun hTe, Result.andThen] at hv ⊢; exact hv
          | some p => obtain ⟨j, v'⟩ := p; rw [hfm] at hv; simp [Sem.run_bind, Result.andThen] at hv ⊢; exact hv
      · simp at he
    · simp at he
  cases hfm : findM a b ms 0 with
  | none => exact ⟨ie.zero, false, by simp, fun _ => rfl, key _ _ (by rw [hfm]; simp [Sem.run_bind, TI.zeroRun hTe, Result.andThen])⟩
  | some p =>
    obtain ⟨j, v⟩ := p
    obtain ⟨x, _, hx, ha, hb, hv⟩ := findM_spec hfm
    refine ⟨v, true, fun _ => ?_, by simp, key _ _ (by rw [hfm]; simp [Sem.run_bind, Result.andThen])⟩
    have := h2 x (List.mem_of_getElem? hx)
    rw [ha, hb, hv] at this
    exact this

def evMU (ρ : Env) (all : Array Oper) (o : Oper) : Option (Nat × Value × Value × Nat) :=
  match wantedE ρ all o, o.op, o.dst with
  | some true, .mapUpdate t x y z, none => match ρ.ev x, ρ.ev y, ρ.ev z with
    | some (.map (some r)), some key, some v => some (r, key, v, t)
    | _, _, _ => none
  | _, _, _ => none
theorem M.mapUp {k : IntKind} {T : Int → Int → Value → Prop} {r t kt et : Nat} {a b : Int} {v : Value} (he : evMU ρ all o = some (r, .agg #[.int k a, .int k b], v, t)) (hm : MapOk k T w r) (hu : G.P.underlying t = some (.map kt et)) (hK : Key2 G.P kt k) (hT : T a b v)
    (h : ∀ w', MapOk k T w' r → w.grownBy w' (some r) → M G n (.ops all l :: its) Q ρ w') : M G n (.ops all (o :: l) :: its) Q ρ w := by
  unfold evMU at he
  split at he
  · rename_i t' x y z hw ho hd
    split at he
    · rename_i r' key v' hx hy hz
      simp at he
      obtain ⟨rfl, rfl, rfl, rfl⟩ := he
      obtain ⟨ms, c, h1, h2⟩ := hm
      have hlt := (Array.getElem?_eq_some_iff.1 h1).1
      have hgr : ∀ ob, w.grownBy { w with heap := w.heap.setIfInBounds r' ob } (some r') := fun ob => ⟨rfl, rfl, rfl, by simp, fun j hj hne => by
        simp only [Array.getElem?_setIfInBounds]
        rw [if_neg (by rintro rfl; exact hne rfl)]⟩
      have hat : ∀ ob, ({ w with heap := w.heap.setIfInBounds r' ob } : World).heap[r']? = some ob := fun ob => by simp [Array.getElem?_setIfInBounds, hlt]
      have base : ∀ ac, Fits n ρ ac → (execOp ac.eval o).run G.P w = ((do
          match findM a b ms 0 with
          | some (i, _) => do
            let key ← Instr.keyThatStays ((((encM k ms)[i]?).map (·.key)).getD (.agg #[.int k a, .int k b])) (.agg #[.int k a, .int k b])
            setObj r' (.map ((encM k ms).modify i fun e => { e with key, val := v' }) c)
          | none => setObj r' (.map ((encM k ms).push { key := .agg #[.int k a, .int k b], val := v', born := c }) (c + 1))
          pure .skip : Sem Next)).run G.P w := by
        intro ac hf
        rw [show execOp ac.eval o = (do Instr.mapUpdate t' (ac.eval x) (ac.eval y) (ac.eval z); pure .skip : Sem Next) by simp [execOp, ho]]
        rw [hf.ev hx, hf.ev hy, hf.ev hz]
        unfold Instr.mapUpdate
        simp only [Sem.run_bind, run_underlying hu, Result.andThen_ok, Go.run_getObj_map w r' _ _ h1, hK.check, hK.find]
        cases findM a b ms 0 with
        | none => simp [Sem.run_bind]
        | some p =>
          obtain ⟨i, _⟩ := p
          simp only [Sem.run_bind]
          generalize Sem.run G.P (Instr.keyThatStays _ _) w = rr
          cases rr <;> rfl
      cases hfm : findM a b ms 0 with
      | none =>
        refine M.stepSkip hw hd fun ac hf => ⟨{ w with heap := w.heap.setIfInBounds r' (.map (encM k (ms ++ [⟨a, b, v', c⟩])) (c + 1)) }, ?_, h _ ⟨_, _, hat _, ?_⟩ (hgr _)⟩
        · rw [base ac hf, hfm]
          have : (encM k ms).push { key := .agg #[.int k a, .int k b], val := v', born := c } = encM k (ms ++ [⟨a, b, v', c⟩]) := by simp [encM]
          simp [Sem.run_bind, Go.MapKept.run_setObj_map _ h1, Result.andThen, this]
        · intro e he
          rcases List.mem_append.1 he with he | he
          · exact h2 e he
          · simp at he; subst he; exact hT
      | some p =>
        obtain ⟨i, v0⟩ := p
        obtain ⟨e0, _, hx0, ha0, hb0, _⟩ := findM_spec hfm
        simp at hx0
        refine M.stepSkip hw hd fun ac hf => ⟨{ w with heap := w.heap.setIfInBounds r' (.map (encM k (ms.modify i fun e => { e with v := v' })) c) }, ?_, h _ ⟨_, _, hat _, ?_⟩ (hgr _)⟩
        · rw [base ac hf, hfm]
          have hk : (((encM k ms)[i]?).map (·.key)).getD (.agg #[.int k a, .int k b]) = .agg #[.int k a, .int k b] := by
            simp [encM, hx0, ha0, hb0]
          have hs : ∀ u, (Instr.keyThatStays (.agg #[.int k a, .int k b]) (.agg #[.int k a, .int k b])).run G.P u = .ok (.agg #[.int k a, .int k b]) u := fun u => by
            have : Instr.sameBits 10000 (.agg #[.int k a, .int k b]) (.agg #[.int k a, .int k b]) = true := by
              rw [show (10000 : Nat) = 9999 + 1 from rfl, Instr.sameBits]
              simp [Instr.sameBits]
            simp [Instr.keyThatStays, this]
          have hmod : (encM k ms).modify i (fun e => { e with key := .agg #[.int k a, .int k b], val := v' }) = encM k (ms.modify i fun e => { e with v := v' }) := by
            apply Array.ext'
            simp only [encM, Array.toList_modify, List.toList_toArray]
            apply List.ext_getElem?
            intro j
            simp only [List.getElem?_modify, List.getElem?_map]
            by_cases hij : i = j
            · subst hij
              simp [hx0, ha0, hb0]
            · simp [hij]
          simp only [Sem.run_bind, hk, hs, Result.andThen_ok, hmod, Go.MapKept.run_setObj_map _ h1, Sem.run_pure]
        · intro e he
          obtain ⟨j, hj⟩ := List.mem_iff_getElem?.1 he
          rw [List.getElem?_modify] at hj
          by_cases hij : i = j
          · subst hij
            simp [hx0] at hj
            subst hj
            simp only [ha0, hb0]
            exact hT
          · simp [hij] at hj
            exact h2 e (List.mem_of_getElem? hj)
    · simp at he
  · simp at he
end
end Go.Vc
end

section
/- The document's first examples. -/
namespace Lp
def tankS : Store := ⟨100, 50, 20, 30, [⟨5, 1, 3, 2, 3⟩, ⟨4, 1, 2, 2, 2⟩]⟩
def planP (a b c d : Int) : Plan := ⟨[a, b], [c, d]⟩
theorem ex_play : playE tankS (planP 0 1 1 2) ⟨22, [3, 2]⟩ = 0 ∧ playL tankS (planP 0 1 1 2) ⟨22, [3, 2]⟩ = [7, 41] ∧ playB tankS (planP 0 1 1 2) ⟨22, [3, 2]⟩ = [0, 0] ∧ playI tankS (planP 0 1 1 2) ⟨22, [3, 2]⟩ = [true, true] := by decide
theorem ex_dark : check tankS (planP 0 0 2 1) = 0 ∧ darkR tankS (planP 0 0 2 1) = [0, 1] := by decide
theorem ex_deliver : deliverE tankS [1, 2] = 0 ∧ deliverC tankS [1, 2] = 1 ∧ deliverR tankS [1, 2] = [0, 1] := by decide
theorem ex_trim : trimE tankS [1, 0] = 0 ∧ trimC tankS [1, 0] = 23 ∧ trimR tankS [1, 0] = [3, 2] := by decide

/-- a level that is empty outside of some numbers -/
theorem any_in {f g : Nat → Bool} {lo n : Nat} (h : ∀ o, f o = true → lo ≤ o ∧ o < lo + n) (hn : lo + n ≤ 401) : ((List.range 401).any fun o => f o && g o) = ((List.range' lo n).any fun o => f o && g o) := by
  rw [Bool.eq_iff_iff]
  simp only [List.any_eq_true, List.mem_range, List.mem_range'_1, Bool.and_eq_true]
  constructor
  · rintro ⟨o, ho, h1, h2⟩; exact ⟨o, h o h1, h1, h2⟩
  · rintro ⟨o, ho, h1, h2⟩; exact ⟨o, by omega, h1, h2⟩
def cut (lo hi : Nat) : Lev := fun x => decide (lo ≤ x) && decide (x ≤ hi)
theorem step_cut {s : Store} {p : Plan} {l : List Dip} {i : Nat} {f : Lev} {lo n : Nat} (hf : ∀ o, f o = true → lo ≤ o ∧ o < lo + n) (hn : lo + n ≤ 401) (x : Nat) :
    step0 s p l i f 401 x = ((List.range' lo n).any fun o => f o && ((nightL s p i (o : Int)).contains (x : Int) && agreesB l i (x : Int))) := any_in hf hn
theorem cut_in {lo hi : Nat} (h : lo ≤ hi) (o : Nat) (ho : cut lo hi o = true) : lo ≤ o ∧ o < lo + (hi + 1 - lo) := by
  simp [cut] at ho; omega
theorem fwd0_tank (p : Plan) (l : List Dip) : fwd tankS p l 0 = cut 20 30 := by
  funext o
  show (decide ((20 : Int) ≤ (o : Int)) && decide ((o : Int) ≤ 30)) = (decide (20 ≤ o) && decide (o ≤ 30))
  have h1 : decide ((20 : Int) ≤ (o : Int)) = decide (20 ≤ o) := by simp only [decide_eq_decide]; omega
  have h2 : decide ((o : Int) ≤ 30) = decide (o ≤ 30) := by simp only [decide_eq_decide]; omega
  rw [h1, h2]
theorem bound_any {f : Nat → Bool} {c : Lev} (h : ∀ x, x < 401 → f x = c x) (h2 : ∀ x, 401 ≤ x → f x = false) (h3 : ∀ x, 401 ≤ x → c x = false) : f = c := by
  funext x
  by_cases hx : x < 401
  · exact h x hx
  · rw [h2 x (by omega), h3 x (by omega)]
theorem fine_tank : Fine tankS (planP 0 1 1 2) := check_fine (by decide)
theorem fwd_hi {s : Store} {p : Plan} {l : List Dip} (hf : Fine s p) {i : Nat} (hi : i < s.nights.length) (x : Nat) (hx : 401 ≤ x) : fwd s p l (i + 1) x = false := by
  cases h : fwd s p l (i + 1) x with
  | false => rfl
  | true =>
    obtain ⟨o, ho, _, hm, _⟩ := fwd_from s p l i x h
    have := night_bd hf hi (show (0 : Int) ≤ (o : Int) by omega) _ hm
    omega
theorem fwd1_free : fwd tankS (planP 0 1 1 2) [] 1 = cut 5 20 := by
  refine bound_any (fun x hx => ?_) (fun x hx => fwd_hi fine_tank (by decide) x hx) (fun x hx => by simp [cut]; omega)
  show step0 tankS (planP 0 1 1 2) [] 0 (fwd tankS (planP 0 1 1 2) [] 0) 401 x = _
  rw [fwd0_tank, step_cut (cut_in (by decide)) (by decide)]
  revert x
  decide +kernel
theorem fwd2_free : fwd tankS (planP 0 1 1 2) [] 2 = cut 39 54 := by
  refine bound_any (fun x hx => ?_) (fun x hx => fwd_hi fine_tank (by decide) x hx) (fun x hx => by simp [cut]; omega)
  show step0 tankS (planP 0 1 1 2) [] 1 (fwd tankS (planP 0 1 1 2) [] 1) 401 x = _
  rw [fwd1_free, step_cut (cut_in (by decide)) (by decide)]
  revert x
  decide +kernel
theorem none_cut {lo hi : Nat} (h : lo ≤ hi) (h4 : lo ≤ 400) : none_ (cut lo hi) = false := (some_iff _).2 ⟨lo, h4, by simp [cut, h]⟩
theorem ends_cut {lo hi : Nat} (h : lo ≤ hi) (h4 : hi ≤ 400) : ends (cut lo hi) = ⟨lo, hi⟩ := by
  unfold ends
  rw [lowest_spec (x := lo) (by omega) (by simp [cut, h]) (fun y hy => by simp [cut]; omega), highest_spec (x := hi) h4 (by simp [cut, h]) (fun y h1 h2 => by simp [cut]; omega)]
theorem lev1_free : levelAt tankS (planP 0 1 1 2) [] 2 1 = cut 39 54 := by
  show fwd tankS (planP 0 1 1 2) [] 2 = _
  exact fwd2_free
theorem lev0_free : levelAt tankS (planP 0 1 1 2) [] 2 0 = cut 5 20 := by
  rw [levelAt_step _ _ _ _ _ (by decide), lev1_free, fwd1_free]
  funext x
  unfold onB
  by_cases hx : x < 401
  · revert x; decide +kernel
  · have : cut 5 20 x = false := by simp [cut]; omega
    rw [this]; rfl
theorem ok_free : levelsOk tankS (planP 0 1 1 2) [] = true := free_ok fine_tank
theorem ex_oil : oilE tankS (planP 0 1 1 2) [] = 0 ∧ oilR tankS (planP 0 1 1 2) [] = [⟨5, 20⟩, ⟨39, 54⟩] := by
  have h1 : dippedE tankS (planP 0 1 1 2) [] = 0 := by decide
  have h2 : oilE tankS (planP 0 1 1 2) [] = 0 := by simp [oilE, h1, ok_free]
  refine ⟨h2, ?_⟩
  unfold oilR
  rw [if_pos h2]
  show [ends (levelAt tankS (planP 0 1 1 2) [] 2 0), ends (levelAt tankS (planP 0 1 1 2) [] 2 1)] = _
  rw [lev0_free, lev1_free, ends_cut (by decide) (by decide), ends_cut (by decide) (by decide)]
  rfl
def dipsX : List Dip := [⟨0, 0, 4⟩, ⟨0, 5, 20⟩]
theorem bad_both : levelsOk tankS (planP 0 1 1 2) dipsX = false := by
  refine List.all_eq_false.2 ⟨0, by decide, ?_⟩
  have : none_ (fwd tankS (planP 0 1 1 2) dipsX 1) = true := (none_iff _).2 fun x hx => by
    cases h : fwd tankS (planP 0 1 1 2) dipsX 1 x with
    | false => rfl
    | true =>
      obtain ⟨o, _, _, _, ha⟩ := fwd_from _ _ _ 0 x h
      simp [agreesB, dipsX, within] at ha
      omega
  rw [this]; simp
theorem fwd1_one : fwd tankS (planP 0 1 1 2) [⟨0, 5, 20⟩] 1 = cut 5 20 := by
  refine bound_any (fun x hx => ?_) (fun x hx => fwd_hi fine_tank (by decide) x hx) (fun x hx => by simp [cut]; omega)
  show step0 tankS (planP 0 1 1 2) [⟨0, 5, 20⟩] 0 (fwd tankS (planP 0 1 1 2) [⟨0, 5, 20⟩] 0) 401 x = _
  rw [fwd0_tank, step_cut (cut_in (by decide)) (by decide)]
  revert x
  decide +kernel
theorem fwd2_one : none_ (fwd tankS (planP 0 1 1 2) [⟨0, 5, 20⟩] 2) = false := by
  refine (some_iff _).2 ⟨39, by decide, ?_⟩
  show step0 tankS (planP 0 1 1 2) [⟨0, 5, 20⟩] 1 (fwd tankS (planP 0 1 1 2) [⟨0, 5, 20⟩] 1) 401 39 = true
  rw [fwd1_one, step_cut (cut_in (by decide)) (by decide)]
  decide
theorem ex_leave : leaveE tankS (planP 0 1 1 2) dipsX = 0 ∧ leaveR tankS (planP 0 1 1 2) dipsX = [0] := by
  have h1 : dippedE tankS (planP 0 1 1 2) dipsX = 0 := by decide
  refine ⟨h1, ?_⟩
  have k0 : leaveT tankS (planP 0 1 1 2) dipsX 0 [] 0 = none := by
    unfold leaveT
    show (if levelsOk tankS (planP 0 1 1 2) dipsX = true then some [] else none) = none
    rw [bad_both]; rfl
  have k1 : leaveT tankS (planP 0 1 1 2) dipsX 0 [0] 1 = some [0] := by
    unfold leaveT
    show (if levelsOk tankS (planP 0 1 1 2) [⟨0, 5, 20⟩] = true then some [(0 : Int)] else none) = some [0]
    have : levelsOk tankS (planP 0 1 1 2) [⟨0, 5, 20⟩] = true := by
      unfold levelsOk
      rw [List.all_eq_true]
      intro i hi
      have hi := List.mem_range.1 hi
      have : i = 0 ∨ i = 1 := by simp [tankS] at hi; omega
      rcases this with rfl | rfl
      · rw [fwd1_one, none_cut (by decide) (by decide)]; rfl
      · rw [fwd2_one]; rfl
    rw [this]; rfl
  have k : leaveS tankS (planP 0 1 1 2) dipsX = some [0] := by
    have k2 : leaveT tankS (planP 0 1 1 2) dipsX 1 [] 0 = some [0] := by
      unfold leaveT
      have : List.range' 0 (dipsX.length - 0) = [0, 1] := rfl
      rw [this, List.findSome?_cons]
      have e : leaveT tankS (planP 0 1 1 2) dipsX 0 ([] ++ [((0 : Nat) : Int)]) (0 + 1) = some [0] := k1
      rw [e]
    unfold leaveS
    have : List.range (dipsX.length + 1) = [0, 1, 2] := rfl
    rw [this, List.findSome?_cons, k0]
    simp only [List.findSome?_cons, k2]
  unfold leaveR
  rw [if_pos h1, k]; rfl
end Lp
end

section
/- Walks: Before, Same, Sum; the law's small functions. -/
set_option linter.unusedVariables false
namespace Go.Proofs.Ytaimlmfncjbmjaa
open Go Go.Vc Go.RowKit Lp

theorem Before_go (a b : List Int) (A : Option Addr) (c : Nat) (B : Option Addr) (d : Nat) (w : World) (hA : Rd dI w A c a) (hB : Rd dI w B d b) :
    Calls Try.prog 58 #[.slice A a.length c, .slice B b.length d] w fun e w' => e = .returned (.bool (lexB a b)) ∧ w.grownBy w' none := by
  refine calls (G := G) (args := [.slice A a.length c, .slice B b.length d]) Try.func58 rfl rfl rfl ?_
  refine M.run rfl ?_
  refine M.loop (σ := Nat) (fun i => [(0, .slice A a.length c), (1, .slice B b.length d), (5, .int .i64 (i : Int))]) (fun i w' => i ≤ a.length ∧ i ≤ b.length ∧ w.grownBy w' none ∧ ∀ k, k < i → a[k]? = b[k]?)
    (fun i => a.length - i) 0 ⟨rfl, rfl, rfl, trivial⟩ ⟨Nat.zero_le _, Nat.zero_le _, gr_refl _ _, fun k h => by omega⟩ ?_
  rintro i w1 ⟨hi, hi', e1, hn⟩
  refine M.at_ [10] rfl (M.case 10 rfl (fun h => ?_) (fun h => ?_))
  · have hlt : i < a.length := by have := of_decide_eq_true h; omega
    refine M.run rfl (M.cond rfl (fun h1 => ?_) (fun h1 => ?_))
    · have hlt' : i < b.length := by have := of_decide_eq_true h1; omega
      obtain ⟨hA1, hAC⟩ := rd_flat hA hlt
      obtain ⟨hB1, hBC⟩ := rd_flat hB hlt'
      refine M.run rfl (M.quiet (by kernel_rfl) (LQ.run rfl (LQ.ix rfl (by omega) (by omega) hA1 (LQ.run rfl (LQ.ld rfl (fun w' hw => (hAC w' (gr_below (gr_trans e1 hw))).one 0 rfl rfl) (LQ.run rfl (LQ.ix rfl (by omega) (by omega) hB1 (LQ.run rfl (LQ.ld rfl (fun w' hw => (hBC w' (gr_below (gr_trans e1 hw))).one 0 rfl rfl) (LQ.run rfl (LQ.nil fun w2 e2 => M.run rfl (M.cond rfl (fun h2 => ?_) (fun h2 => ?_)))))))))))))
      · have h2' : a[i] ≠ b[i] := by simpa using h2
        have e02 := gr_trans e1 e2
        refine M.run rfl (M.quiet (by kernel_rfl) (LQ.run rfl (LQ.ix rfl (by omega) (by omega) hA1 (LQ.run rfl (LQ.ld rfl (fun w' hw => (hAC w' (gr_below (gr_trans e02 hw))).one 0 rfl rfl) (LQ.run rfl (LQ.ix rfl (by omega) (by omega) hB1 (LQ.run rfl (LQ.ld rfl (fun w' hw => (hBC w' (gr_below (gr_trans e02 hw))).one 0 rfl rfl) (LQ.run rfl (LQ.nil fun w3 e3 => M.run rfl (M.retF rfl rfl ⟨?_, gr_trans e02 e3⟩))))))))))))
        rw [lexB_drop i a b hlt hlt' hn, if_neg h2']; rfl
      · have h2' : a[i] = b[i] := by simpa using h2
        refine M.run rfl (M.end_ ⟨i + 1, ⟨rfl, rfl, ?_, trivial⟩, ⟨by omega, by omega, gr_trans e1 e2, fun k hk => ?_⟩, by omega⟩)
        · exact congrArg (fun z => some (Value.int .i64 z)) (w64 (by omega) (by have := hA.bd; omega))
        · by_cases hki : k < i
          · exact hn k hki
          · have : k = i := by omega
            subst this
            rw [List.getElem?_eq_getElem hlt, List.getElem?_eq_getElem hlt', h2']
    · refine M.run rfl (M.retF rfl rfl ⟨?_, e1⟩)
      rw [lexB_end a b (fun k h3 h4 => hn k (by have := of_decide_eq_false h1; omega))]
      simp [oneOrTuple]
  · refine M.run rfl (M.condF rfl rfl (M.run rfl (M.retF rfl rfl ⟨?_, e1⟩)))
    rw [lexB_end a b (fun k h3 h4 => hn k (by have := of_decide_eq_false h; omega))]
    simp [oneOrTuple]

theorem Same_go (a b : List Int) (A : Option Addr) (c : Nat) (B : Option Addr) (d : Nat) (w : World) (hA : Rd dI w A c a) (hB : Rd dI w B d b) :
    Calls Try.prog 27 #[.slice A a.length c, .slice B b.length d] w fun e w' => e = .returned (.bool (decide (a = b))) ∧ w.grownBy w' none := by
  refine calls (G := G) (args := [.slice A a.length c, .slice B b.length d]) Try.func27 rfl rfl rfl ?_
  have hs := same_iff a b
  have hl : (((a.length : Int)) == ((b.length : Int))) = decide (a.length = b.length) := by
    rw [len_eqB]; simp only [decide_eq_decide]; omega
  refine M.at_ [10] rfl (M.case 10 rfl (fun h => ?_) (fun h => ?_))
  · rw [hl] at h
    rw [h, Bool.true_and] at hs
    refine M.run rfl (M.cl rfl (Before_go a b A c B d w hA hB) ?_)
    rintro e w1 ⟨rfl, e1⟩
    refine ⟨_, rfl, M.at_ [16] rfl (M.case 16 rfl (fun h2 => ?_) (fun h2 => ?_))⟩
    · rw [h2, Bool.true_and] at hs
      refine M.run rfl (M.cl rfl (Before_go b a B d A c w1 (hB.mv e1) (hA.mv e1)) ?_)
      rintro e w2 ⟨rfl, e2⟩
      exact ⟨_, rfl, M.run rfl (M.retF rfl rfl ⟨by rw [← hs]; rfl, gr_trans e1 e2⟩)⟩
    · rw [h2, Bool.false_and] at hs
      exact M.run rfl (M.retF rfl rfl ⟨by rw [← hs]; rfl, e1⟩)
  · rw [hl] at h
    rw [h, Bool.false_and] at hs
    exact M.run rfl (M.retF rfl rfl ⟨by rw [← hs]; rfl, gr_refl _ _⟩)

/-! ### the law's conversions -/
theorem list_go (xs : List Int) (A : Option Addr) (c : Nat) (w : World) (hA : Rd dI w A c xs) (hs : xs.length ≤ 1000000) :
    Calls Try.prog 34 #[.slice A xs.length c] w fun e w' => ∃ X x, e = .returned (.slice X xs.length x) ∧ Vc.Own dI 3 w' w.heap.size no X x xs ∧ w.grownBy w' none := by
  refine calls (G := G) (args := [.slice A xs.length c]) Try.func34 rfl rfl rfl ?_
  refine M.run rfl (M.bs0 rfl fun g w1 b1 e1 l1 => M.run rfl ?_)
  have hnil : A = none → xs = [] := fun h => by
    cases xs with
    | nil => rfl
    | cons x r =>
      have := (hA.at_ 0 x rfl).1
      rw [h] at this
      cases this
  have hsrc : SrcAt dI w1 (fun b => no b ∧ some b ≠ blkOf (some ⟨g, 0, none⟩)) (adOf A) xs := fun j y hj => by
    obtain ⟨_, _, cs, hk, hc⟩ := (hA.mv e1).at_ j y hj
    exact ⟨cs, hk, hc⟩
  refine M.appS (d := dI) rfl rfl (own_bs0 dI no b1 l1) rfl (by decide) rfl (ys := xs) rfl hnil hsrc e1.size (by simp; omega) (by decide) fun X x w2 hX e2 hat => ?_
  have e02 := (own_bs0 dI no b1 l1).gr e1 e2 (Nat.le_refl _)
  exact M.run rfl (M.retF rfl rfl ⟨X, x, rfl, by simpa using hX, e02⟩)

theorem toR_go (lo hi : Int) (w : World) : Calls Try.prog 54 #[.agg #[.int .i64 lo, .int .i64 hi]] w fun e w' => e = .returned (.agg #[.int .i64 lo, .int .i64 hi]) ∧ w.grownBy w' none := by
  refine calls (G := G) (args := [.agg #[.int .i64 lo, .int .i64 hi]]) Try.func54 rfl rfl rfl ?_
  refine M.run rfl (M.nw rfl fun g1 w1 b1 e1 l1 => M.run rfl (M.nw rfl fun g2 w2 b2 e2 l2 => M.run rfl (M.ld rfl ((b1.mv0 e2).cell rfl rfl) (M.run rfl (M.ld rfl ((b1.mv0 e2).cell rfl rfl) (M.run rfl (M.store rfl rfl b2 rfl rfl fun w3 b3 e3 => M.run rfl ?_)))))))
  exact M.retC (.cellA rfl rfl rfl rfl (b3.cells 0 rfl ⟨[], rfl⟩ : Cells _ _ [_, _]) .nil) ⟨rfl, gr_fresh (gr_trans e1 e2) e3 (Nat.le_trans e1.size l2)⟩
theorem between_go (lo hi : Int) (w : World) : Calls Try.prog 57 #[.int .i64 lo, .int .i64 hi] w fun e w' => e = .returned (.agg #[.int .i64 lo, .int .i64 hi]) ∧ w.grownBy w' none := by
  refine calls (G := G) (args := [.int .i64 lo, .int .i64 hi]) Try.func57 rfl rfl rfl ?_
  refine M.run rfl (M.nw rfl fun g2 w2 b2 e2 l2 => M.run rfl (M.store rfl rfl b2 rfl rfl fun w3 b3 e3 => M.run rfl ?_))
  exact M.retC (.cellA rfl rfl rfl rfl (b3.cells 0 rfl ⟨[], rfl⟩ : Cells _ _ [_, _]) .nil) ⟨rfl, gr_fresh e2 e3 l2⟩
theorem planF_go (a b c d : Int) (w : World) : Calls Try.prog 56 #[.int .i64 a, .int .i64 b, .int .i64 c, .int .i64 d] w fun e w' => ∃ X Y, e = .returned (.agg #[.slice X 2 2, .slice Y 2 2]) ∧ Rd dI w' X 2 [a, b] ∧ Rd dI w' Y 2 [c, d] ∧ w.grownBy w' none := by
  refine calls (G := G) (args := [.int .i64 a, .int .i64 b, .int .i64 c, .int .i64 d]) Try.func56 rfl rfl rfl ?_
  refine M.run rfl (M.nw rfl fun g1 w1 b1 e1 l1 => M.run rfl (M.bs rfl fun g2 w2 b2 e2 l2 => M.run rfl (M.bs rfl fun g3 w3 b3 e3 l3 => M.run rfl (M.store rfl rfl ((b1.mv0 e2).mv0 e3) rfl rfl fun w4 b4 e4 => M.run rfl ?_))))
  have n2 : g1 ≠ g2 := by have := b1.lt; omega
  have n3 : g1 ≠ g3 := by have := b1.lt; have := e2.size; omega
  have r2 : Rd dI w4 (some ⟨g2, 0, none⟩) 2 [a, b] := rd_lit ((b2.mv0 e3).mv1 e4 n2) [a, b] rfl (by simp [maxLen])
  have r3 : Rd dI w4 (some ⟨g3, 0, none⟩) 2 [c, d] := rd_lit (b3.mv1 e4 n3) [c, d] rfl (by simp [maxLen])
  exact M.retC (.cellA rfl rfl rfl rfl (b4.cells 0 rfl ⟨[], rfl⟩ : Cells _ _ [_, _]) .nil) ⟨_, _, rfl, r2, r3, gr_fresh (gr_trans (gr_trans e1 e2) e3) e4 l1⟩

theorem tank_go (w : World) : Calls Try.prog 55 #[] w fun e w' => ∃ X, e = .returned (vStore tankS X 2) ∧ Rd dNight w' X 2 tankS.nights ∧ w.grownBy w' none := by
  refine calls (G := G) (args := []) Try.func55 rfl rfl rfl ?_
  refine M.run rfl (M.nw rfl fun g1 w1 b1 e1 l1 => M.run rfl (M.cl rfl (between_go 20 30 w1) ?_))
  rintro e w2 ⟨rfl, e2⟩
  refine ⟨_, rfl, M.run rfl (M.cl rfl (between_go 2 3 w2) ?_)⟩
  rintro e w3 ⟨rfl, e3⟩
  refine ⟨_, rfl, M.run rfl (M.cl rfl (between_go 2 2 w3) ?_)⟩
  rintro e w4 ⟨rfl, e4⟩
  refine ⟨_, rfl, M.run rfl (M.bs rfl fun g5 w5 b5 e5 l5 => M.run rfl (M.store rfl rfl ((((b1.mv0 e2).mv0 e3).mv0 e4).mv0 e5) rfl rfl fun w6 b6 e6 => M.run rfl ?_))⟩
  have e15 := gr_trans (gr_trans (gr_trans e2 e3) e4) e5
  have n5 : g1 ≠ g5 := by have := b1.lt; have := (gr_trans (gr_trans e2 e3) e4).size; omega
  have r5 : Rd dNight w6 (some ⟨g5, 0, none⟩) 2 tankS.nights := rd_lit (b5.mv1 e6 n5) tankS.nights rfl (by simp [maxLen, tankS])
  exact M.retC (.cellA rfl rfl rfl rfl (b6.cells 0 rfl ⟨[], rfl⟩ : Cells _ _ [_, _, _, _, _]) .nil) ⟨_, rfl, r5, gr_fresh (gr_trans e1 e15) e6 l1⟩
end Go.Proofs.Ytaimlmfncjbmjaa
end

section
/- Walks: the law's Plan, Truth, Store, Dips, Thin, fault, planned. -/
set_option linter.unusedVariables false
namespace Go.Proofs.Ytaimlmfncjbmjaa
open Go Go.Vc Go.RowKit Lp

theorem PlanC_go (p : Plan) (B : Option Addr) (b : Nat) (U : Option Addr) (d : Nat) (w : World) (hB : Rd dI w B b p.cans) (hU : Rd dI w U d p.wicks) (h1 : p.cans.length ≤ 1000) (h2 : p.wicks.length ≤ 1000) :
    Calls Try.prog 21 #[vPlan p B b U d] w fun e w' => ∃ X x Y y, e = .returned (vPlan p X x Y y) ∧ Rd dI w' X x p.cans ∧ Rd dI w' Y y p.wicks ∧ w.grownBy w' none := by
  refine calls (G := G) (args := [vPlan p B b U d]) Try.func21 rfl rfl rfl ?_
  refine M.run rfl (M.nw rfl fun g1 w1 b1 e1 l1 => M.run rfl (M.nw rfl fun g2 w2 b2 e2 l2 => M.run rfl (M.drawG [7] (by kernel_rfl) fun w3 e3 => ?_)))
  have e03 := gr_trans (gr_trans e1 e2) e3
  refine D.run rfl (D.ld 1 rfl rfl rfl rfl (fun w' hw => (((b1.mv0 e2).mv0 e3).mv0 hw).cell rfl rfl) (D.ld 4 rfl rfl rfl rfl (fun w' hw => (((b1.mv0 e2).mv0 e3).mv0 hw).cell rfl rfl) ?_))
  refine D.one 2 rfl rfl (M.cl rfl (list_go p.cans B b w3 (hB.mv e03) (by omega)) ?_)
  rintro e w4 ⟨X, x, rfl, hX, e4⟩
  refine ⟨_, rfl, M.run rfl (M.end_ ⟨.inr e4, D.one 5 rfl rfl (M.cl rfl (list_go p.wicks U d w4 (hU.mv (gr_trans e03 e4)) (by omega)) ?_)⟩)⟩
  rintro e w5 ⟨Y, y, rfl, hY, e5⟩
  have e35 := gr_trans e4 e5
  have b25 := (b2.mv0 e3).mv0 e35
  refine ⟨_, rfl, M.run rfl (M.end_ ⟨.inr e5, D.run rfl (D.one 7 rfl rfl (M.store rfl rfl b25 rfl rfl fun w6 b6 e6 => M.run rfl (M.end_ ⟨.inl ⟨rfl, trivial⟩, D.done_ rfl (M.run rfl ?_)⟩)))⟩)⟩
  have e2l := b2.lt
  have hX6 : Rd dI w6 X x p.cans := ((hX.mv0 e5).mvOld e6 (Nat.lt_of_lt_of_le e2l e3.size)).rd (by decide)
  have hY6 : Rd dI w6 Y y p.wicks := (hY.mvOld e6 (Nat.lt_of_lt_of_le e2l (gr_trans e3 e4).size)).rd (by decide)
  exact M.retC (.cellA rfl rfl rfl rfl (b6.cells 0 rfl ⟨[], rfl⟩ : Cells _ _ [_, _]) .nil) ⟨X, x, Y, y, rfl, hX6, hY6, gr_fresh (gr_trans e03 e35) e6 (Nat.le_trans e1.size l2)⟩

theorem TruthC_go (t : Truth) (U : Option Addr) (d : Nat) (w : World) (hU : Rd dI w U d t.burn) (h1 : t.burn.length ≤ 1000) :
    Calls Try.prog 22 #[vTruth t U d] w fun e w' => ∃ X x, e = .returned (vTruth t X x) ∧ Rd dI w' X x t.burn ∧ w.grownBy w' none := by
  refine calls (G := G) (args := [vTruth t U d]) Try.func22 rfl rfl rfl ?_
  refine M.run rfl (M.nw rfl fun g1 w1 b1 e1 l1 => M.run rfl (M.nw rfl fun g2 w2 b2 e2 l2 => M.run rfl (M.drawG [6] (by kernel_rfl) fun w3 e3 => ?_)))
  have e03 := gr_trans (gr_trans e1 e2) e3
  refine D.run rfl (D.ld 1 rfl rfl rfl rfl (fun w' hw => (((b1.mv0 e2).mv0 e3).mv0 hw).cell rfl rfl) (D.ld 3 rfl rfl rfl rfl (fun w' hw => (((b1.mv0 e2).mv0 e3).mv0 hw).cell rfl rfl) ?_))
  refine D.one 4 rfl rfl (M.cl rfl (list_go t.burn U d w3 (hU.mv e03) (by omega)) ?_)
  rintro e w4 ⟨X, x, rfl, hX, e4⟩
  have b24 := (b2.mv0 e3).mv0 e4
  refine ⟨_, rfl, M.run rfl (M.end_ ⟨.inr e4, D.run rfl (D.one 6 rfl rfl (M.store rfl rfl b24 rfl rfl fun w6 b6 e6 => M.run rfl (M.end_ ⟨.inl ⟨rfl, trivial⟩, D.done_ rfl (M.run rfl ?_)⟩)))⟩)⟩
  have hX6 : Rd dI w6 X x t.burn := (hX.mvOld e6 (Nat.lt_of_lt_of_le b2.lt e3.size)).rd (by decide)
  exact M.retC (.cellA rfl rfl rfl rfl (b6.cells 0 rfl ⟨[], rfl⟩ : Cells _ _ [_, _]) .nil) ⟨X, x, rfl, hX6, gr_fresh (gr_trans e03 e4) e6 (Nat.le_trans e1.size l2)⟩

def thin (s : Store) (p : Plan) : Bool := decide (s.nights.length ≤ 9) && (decide (p.cans.length ≤ 9) && decide (p.wicks.length ≤ 9))
theorem dec_le (n : Nat) : decide ((n : Int) ≤ 9) = decide (n ≤ 9) := by simp only [decide_eq_decide]; omega
theorem Thin_go (s : Store) (p : Plan) (A : Option Addr) (c : Nat) (B : Option Addr) (b : Nat) (U : Option Addr) (d : Nat) (w : World) :
    Calls Try.prog 16 #[vStore s A c, vPlan p B b U d] w fun e w' => e = .returned (.bool (thin s p)) ∧ w.grownBy w' none := by
  refine calls (G := G) (args := [vStore s A c, vPlan p B b U d]) Try.func16 rfl rfl rfl ?_
  refine M.run rfl (M.nw rfl fun g1 w1 b1 e1 l1 => M.run rfl (M.nw rfl fun g2 w2 b2 e2 l2 => M.run rfl (M.ld rfl ((b1.mv0 e2).cell rfl rfl) (M.at_ [9] rfl (M.case 9 rfl (fun h => ?_) (fun h => ?_))))))
  all_goals rw [dec_le] at h
  · refine M.run rfl (M.ld rfl (b2.cell rfl rfl) (M.at_ [15] rfl (M.case 15 rfl (fun h2 => ?_) (fun h2 => ?_))))
    all_goals rw [dec_le] at h2
    · refine M.run rfl (M.ld rfl (b2.cell rfl rfl) (M.run rfl (M.retF rfl rfl ⟨?_, gr_trans e1 e2⟩)))
      unfold thin; rw [h, h2, ← dec_le]; rfl
    · refine M.run rfl (M.retF rfl rfl ⟨?_, gr_trans e1 e2⟩)
      unfold thin; rw [h, h2]; rfl
  · refine M.run rfl (M.retF rfl rfl ⟨?_, gr_trans e1 e2⟩)
    unfold thin; rw [h]; rfl

theorem faultF_go (s : Store) (A : Option Addr) (c : Nat) (w : World) (hA : Rd dNight w A c s.nights) :
    Calls Try.prog 23 #[vStore s A c] w fun e w' => e = .returned (.int .i64 (checkStore s)) ∧ w.grownBy w' none := by
  refine calls (G := G) (args := [vStore s A c]) Try.func23 rfl rfl rfl ?_
  refine M.run rfl (M.nw rfl fun g1 w1 b1 e1 l1 => M.run rfl (M.ldA rfl rfl b1.cellsAll (M.run rfl (M.cl rfl (Fault_go s A c w1 (hA.mv e1)) ?_))))
  rintro e w2 ⟨rfl, e2⟩
  exact ⟨_, rfl, M.run rfl (M.retF rfl rfl ⟨rfl, gr_trans e1 e2⟩)⟩

theorem planned_go (s : Store) (p : Plan) (A : Option Addr) (c : Nat) (B : Option Addr) (b : Nat) (U : Option Addr) (d : Nat) (w : World) (hA : Rd dNight w A c s.nights) (hB : Rd dI w B b p.cans) (hU : Rd dI w U d p.wicks) :
    Calls Try.prog 24 #[vStore s A c, vPlan p B b U d] w fun e w' => e = .returned (.int .i64 (check s p)) ∧ w.grownBy w' none := by
  refine calls (G := G) (args := [vStore s A c, vPlan p B b U d]) Try.func24 rfl rfl rfl ?_
  refine M.run rfl (M.nw rfl fun g1 w1 b1 e1 l1 => M.run rfl (M.nw rfl fun g2 w2 b2 e2 l2 => M.run rfl (M.ldA rfl rfl (b1.mv0 e2).cellsAll (M.run rfl (M.cl rfl (faultF_go s A c w2 (hA.mv (gr_trans e1 e2))) ?_)))))
  rintro e w3 ⟨rfl, e3⟩
  have e03 := gr_trans (gr_trans e1 e2) e3
  replace b1 := (b1.mv0 e2).mv0 e3
  replace b2 := b2.mv0 e3
  refine ⟨_, rfl, M.run rfl (M.cond rfl (fun h => ?_) (fun h => ?_))⟩
  · have h' : checkStore s ≠ 0 := by simpa using h
    exact M.run rfl (M.retF rfl rfl ⟨by simp [check, h', oneOrTuple], e03⟩)
  have h' : checkStore s = 0 := by simpa using h
  refine M.run rfl (M.ldA rfl rfl b1.cellsAll (M.run rfl (M.ld rfl (b2.cell rfl rfl) (M.run rfl (M.cl rfl (IsCans_go s p.cans A c B b w3 (hB.mv e03)) ?_)))))
  rintro e w4 ⟨rfl, e4⟩
  have e04 := gr_trans e03 e4
  replace b1 := b1.mv0 e4
  replace b2 := b2.mv0 e4
  refine ⟨_, rfl, M.at_ [16] rfl (M.case 16 rfl (fun h1 => ?_) (fun h1 => ?_))⟩
  · have h1' : cansOk s p.cans = false := by simpa using h1
    exact M.run rfl (M.condT rfl rfl (M.run rfl (M.retF rfl rfl ⟨by simp [check, h', h1', oneOrTuple], e04⟩)))
  have h1' : cansOk s p.cans = true := by simpa using h1
  refine M.run rfl (M.ldA rfl rfl b1.cellsAll (M.run rfl (M.ld rfl (b2.cell rfl rfl) (M.run rfl (M.cl rfl (IsWicks_go s p.wicks A c U d w4 (hA.mv e04) (hU.mv e04)) ?_)))))
  rintro e w5 ⟨rfl, e5⟩
  have e05 := gr_trans e04 e5
  refine ⟨_, rfl, M.run rfl (M.cond rfl (fun h2 => ?_) (fun h2 => ?_))⟩
  · have h2' : wicksOk s p.wicks = false := by simpa using h2
    exact M.run rfl (M.retF rfl rfl ⟨by simp [check, h', h1', h2', oneOrTuple], e05⟩)
  · have h2' : wicksOk s p.wicks = true := by simpa using h2
    exact M.run rfl (M.retF rfl rfl ⟨by simp [check, h', h1', h2', oneOrTuple], e05⟩)
end Go.Proofs.Ytaimlmfncjbmjaa
end

section
/- Walks: the law's Store, Dips. -/
set_option linter.unusedVariables false
namespace Go.Proofs.Ytaimlmfncjbmjaa
open Go Go.Vc Go.RowKit Lp

theorem take_snoc {α : Type} (xs : List α) (i : Nat) (h : i < xs.length) : xs.take (i + 1) = xs.take i ++ [xs[i]] := by rw [List.take_add_one, List.getElem?_eq_getElem h]; rfl

set_option maxHeartbeats 1000000 in
theorem StoreC_go (s : Store) (A : Option Addr) (c : Nat) (w : World) (hA : Rd dNight w A c s.nights) (hn : s.nights.length ≤ 1000) :
    Calls Try.prog 19 #[vStore s A c] w fun e w' => ∃ X x, e = .returned (vStore s X x) ∧ Rd dNight w' X x s.nights ∧ w.grownBy w' none := by
  refine calls (G := G) (args := [vStore s A c]) Try.func19 rfl rfl rfl ?_
  refine M.run rfl (M.nw rfl fun g1 w1 b1 e1 l1 => M.run rfl (M.nw rfl fun g2 w2 b2 e2 l2 => M.run rfl (M.drawG [9] (by kernel_rfl) fun w3 e3 => ?_)))
  have e03 := gr_trans (gr_trans e1 e2) e3
  replace b1 := (b1.mv0 e2).mv0 e3
  replace b2 := b2.mv0 e3
  have hl2 : w.heap.size ≤ g2 := Nat.le_trans e1.size l2
  refine D.run rfl (D.ld 1 rfl rfl rfl rfl (fun w' hw => (b1.mv0 hw).cell rfl rfl) (D.ld 3 rfl rfl rfl rfl (fun w' hw => (b1.mv0 hw).cell rfl rfl) (D.ldA 5 rfl rfl rfl rfl rfl (fun w' hw => ((b1.mv0 hw).cells 2 rfl ⟨[_], rfl⟩ : Cells _ _ [_, _])) ?_)))
  refine D.meet (σ := Nat) 1 [7, 8, 6, 5, 3, 1, 4, 2, 0] (fun g3 => [(1, .pointer (some ⟨g1, 0, none⟩)), (2, .pointer (some ⟨g2, 0, none⟩)), (3, .pointer (some ⟨g3, 0, none⟩)), (13, .agg #[.int .i64 s.cap, .int .i64 s.can, .int .i64 s.lo, .int .i64 s.hi, .slice none 0 0])])
    (fun g3 w' => w3.grownBy w' none ∧ Blk w' g3 [.int .i64 0, .int .i64 0, .int .i64 0, .int .i64 0, .slice none 0 0] 39 ∧ w3.heap.size ≤ g3) (fun hcont => ?_) ?_
  · refine D.two 6 8 rfl rfl rfl ?_ ?_
    · refine M.cl rfl (toR_go s.lo s.hi w3) ?_
      rintro e w4 ⟨rfl, e4⟩
      refine ⟨_, rfl, M.run rfl (M.end_ ⟨.inr e4, D.run rfl (D.one 8 rfl rfl (M.nw rfl fun g3 w5 b5 e5 l5 => M.run rfl (M.end_ ⟨.inr e5, D.weak rfl ?_ (hcont g3 w5 ⟨gr_trans e4 e5, b5, Nat.le_trans e4.size l5⟩)⟩)))⟩)⟩
      exact ⟨rfl, rfl, rfl, rfl, trivial⟩
    · refine M.nw rfl fun g3 w4 b4 e4 l4 => M.run rfl (M.end_ ⟨.inr e4, D.one 6 rfl rfl (M.cl rfl (toR_go s.lo s.hi w4) ?_)⟩)
      rintro e w5 ⟨rfl, e5⟩
      refine ⟨_, rfl, M.run rfl (M.end_ ⟨.inr e5, D.run rfl (D.weak rfl ?_ (hcont g3 w5 ⟨gr_trans e4 e5, b4.mv0 e5, l4⟩))⟩)⟩
      exact ⟨rfl, rfl, rfl, rfl, trivial⟩
  rintro g3 w4 ⟨e4, b3, l3⟩
  have e04 := gr_trans e03 e4
  refine D.one 9 rfl rfl (M.store rfl rfl b3 rfl rfl fun w5 b5 e5 => M.run rfl (M.end_ ⟨.inl ⟨rfl, trivial⟩, D.done_ rfl (M.run rfl ?_)⟩))
  have hl3 : w.heap.size ≤ g3 := Nat.le_trans e03.size l3
  have e05 : w.grownBy w5 none := gr_fresh e04 e5 hl3
  have n31 : g3 ≠ g1 := by have := b1.lt; omega
  have n32 : g3 ≠ g2 := by have := b2.lt; omega
  have b15 := (b1.mv0 e4).mv1 e5 n31
  have b25 := (b2.mv0 e4).mv1 e5 n32
  have hg3 := b5.lt
  have hg2 := b25.lt
  have n12 : g1 ≠ g2 := by intro h; rw [h] at b15; exact b15.ne b25 (by decide) rfl
  refine M.loop (σ := Nat × Option Addr × Nat) (fun (i, X, x) => [(1, .pointer (some ⟨g1, 0, none⟩)), (2, .pointer (some ⟨g2, 0, none⟩)), (3, .pointer (some ⟨g3, 0, none⟩)), (4, .int .i64 (i : Int))])
    (fun (i, X, x) w' => i ≤ s.nights.length ∧ w.grownBy w' none ∧ w5.heap.size ≤ w'.heap.size ∧ Blk w' g1 (vStore s A c).cells.toList 26 ∧ (∃ cs, cs.length = 5 ∧ Blk w' g2 cs 39) ∧ Blk w' g3 [.int .i64 s.cap, .int .i64 s.can, .int .i64 s.lo, .int .i64 s.hi, .slice X i x] 39 ∧ Vc.Own dNight 105 w' w5.heap.size no X x (s.nights.take i))
    (fun (i, _) => s.nights.length - i) (0, none, 0) ⟨rfl, rfl, rfl, rfl, trivial⟩ ⟨Nat.zero_le _, e05, Nat.le_refl _, b15, ⟨_, rfl, b25⟩, b5, by rw [List.take_zero]; exact Vc.Own.nil _ _ _ _ _⟩ ?_
  rintro ⟨i, X, x⟩ w6 ⟨hi, e06, hsz, c1, ⟨cs2, hcs2, c2⟩, c3, hX⟩
  have hti : (s.nights.take i).length = i := by simp; omega
  refine M.run rfl (M.ld rfl (c1.cell rfl rfl) (M.run rfl (M.cond rfl (fun h => ?_) (fun h => ?_))))
  · have hlt : i < s.nights.length := by have := of_decide_eq_true h; omega
    obtain ⟨hA1, hAC⟩ := rd_flat hA hlt
    generalize hx : s.nights[i] = y at hAC
    refine M.run rfl (M.ld rfl (c1.cell rfl rfl) (M.run rfl (M.ix rfl (by omega) (by omega) hA1 (M.run rfl (M.ldA rfl rfl (hAC w6 (gr_below e06)) (M.run rfl (M.nw rfl fun g7 w7 b7 e7 l7 => M.run rfl (M.store rfl rfl b7 rfl rfl fun w8 b8 e8 => M.run rfl ?_))))))))
    have e68 : w6.grownBy w8 none := gr_fresh e7 e8 l7
    have hXg : ∀ g, blkOf X = some g → w5.heap.size ≤ g ∧ g < w6.heap.size := hX.blkGe
    have x3 : blkOf X ≠ some g3 := fun hh => by have := (hXg g3 hh).1; omega
    have x2 : blkOf X ≠ some g2 := fun hh => by have := (hXg g2 hh).1; omega
    have x1 : blkOf X ≠ some g1 := fun hh => by have := (hXg g1 hh).1; have := b15.lt; omega
    have x7 : blkOf X ≠ some g7 := fun hh => by have := (hXg g7 hh).2; omega
    have c38 := c3.mv0 e68
    refine M.draw (fun w w' => w.grownBy w' (blkOf X)) (fun _ _ => True) [15] [] [] (fun _ _ _ h => h) (fun w => gr_refl w _) (fun a b c h k => gr_transR h k) (fun _ _ _ => trivial) (fun _ _ _ _ _ => trivial) (by kernel_rfl) ?_
    have ed := gr_drewN w8 1
    refine D.run rfl (D.ld 1 rfl rfl rfl rfl (fun w' hw => ((c38.mv0 ed).mv hw x3).cell rfl rfl) (D.ld 3 rfl rfl rfl rfl (fun w' hw => ((b8.mv0 ed).mv hw x7).cell rfl rfl) (D.ld 5 rfl rfl rfl rfl (fun w' hw => ((b8.mv0 ed).mv hw x7).cell rfl rfl) (D.ld 7 rfl rfl rfl rfl (fun w' hw => ((b8.mv0 ed).mv hw x7).cell rfl rfl)
      (D.ldA 9 rfl rfl rfl rfl rfl (fun w' hw => (((b8.mv0 ed).mv hw x7).cells 3 rfl ⟨[], rfl⟩ : Cells _ _ [_, _])) ?_)))))
    refine D.one 10 rfl rfl (M.cl rfl (toR_go y.lo y.hi _) ?_)
    rintro e w9 ⟨rfl, e9⟩
    have e89 := gr_trans ed e9
    have e69 := gr_trans e68 e89
    refine ⟨_, rfl, M.run rfl (M.end_ ⟨.inr (gr_weak e9), D.run rfl (D.one 12 rfl rfl (M.bs rfl fun ga wa ba ea la => M.run rfl (M.end_ ⟨.inr (gr_weak ea), ?_⟩)))⟩)⟩
    have e6a := gr_trans e69 ea
    refine D.one 13 rfl rfl (M.app (d := dNight) rfl hti.symm (hX.mv0 e6a) rfl (by decide) rfl (ys := [y]) rfl rfl (src_one ba rfl) (Nat.le_trans hsz e6a.size) (by rw [hti]; simp; omega) (by decide) fun X' x' wb hXb eb hat => M.run rfl (M.end_ ⟨.inr eb, ?_⟩))
    have d3 := (c3.mv0 e6a).mv eb x3
    have d2 := (c2.mv0 e6a).mv eb x2
    have d1 := (c1.mv0 e6a).mv eb x1
    have e0b : w.grownBy wb none := (hX.mv0 e6a).gr (gr_trans e06 e6a) eb e05.size
    have hlen : (s.nights.take i ++ [y]).length = i + 1 := by simp; omega
    refine D.run rfl (D.one 15 rfl rfl (M.store rfl rfl d3 rfl rfl fun wc bc ec => M.run rfl (M.end_ ⟨.inl ⟨rfl, trivial⟩, D.done_ rfl (M.run rfl (M.end_
      ⟨(i + 1, X', x'), ⟨rfl, rfl, rfl, ?_, trivial⟩, ⟨by omega, gr_fresh e0b ec hl3, Nat.le_trans hsz (Nat.le_trans e6a.size (Nat.le_trans eb.size ec.size)), d1.mv1 ec n31, ⟨cs2, hcs2, d2.mv1 ec n32⟩, ?_, ?_⟩, by simp; omega⟩))⟩)))
    · exact congrArg (fun z => some (Value.int .i64 z)) (w64 (by omega) (by omega))
    · rw [← hlen]; exact bc
    · rw [take_snoc _ _ hlt, hx]; exact hXb.mvOld ec hg3
  · have hin : i = s.nights.length := by have := of_decide_eq_false h; omega
    subst hin
    rw [List.take_length] at hX
    refine M.run rfl (M.ldA rfl rfl c3.cellsAll (M.run rfl (M.storeA rfl rfl rfl c2 (by rw [hcs2]; exact Nat.le_refl 5) rfl fun w7 b7 e7 => M.run rfl ?_)))
    have b7' : Blk w7 g2 [.int .i64 s.cap, .int .i64 s.can, .int .i64 s.lo, .int .i64 s.hi, .slice X s.nights.length x] 39 := blk_all (by rw [hcs2]; rfl) b7
    exact M.retC (.cellA rfl rfl rfl rfl b7'.cellsAll .nil) ⟨X, x, rfl, (hX.mvOld e7 hg2).rd (by decide), gr_fresh e06 e7 hl2⟩
end Go.Proofs.Ytaimlmfncjbmjaa
end

section
/- Walk of the reference: Play. -/
set_option linter.unusedVariables false
namespace Go.Proofs.Ytaimlmfncjbmjaa
open Go Go.Vc Go.RowKit Lp

theorem oilAt_succ (s : Store) (p : Plan) (t : Truth) (i : Nat) : oilAt s p t (i + 1) = rest (nt s i) (now s (oilAt s p t i) (at0 p.cans i)) (at0 p.wicks i) (at0 t.burn i) := rfl

set_option maxHeartbeats 2000000 in
theorem PlayRef_go (s : Store) (p : Plan) (t : Truth) (A : Option Addr) (c : Nat) (B : Option Addr) (b : Nat) (U : Option Addr) (d : Nat) (E : Option Addr) (f : Nat) (w : World) (hA : Rd dNight w A c s.nights) (hB : Rd dI w B b p.cans) (hD : Rd dI w U d p.wicks) (hE : Rd dI w E f t.burn)
    (hf : Fine s p) (ht : truthOk s t = true) :
    Calls Try.prog 26 #[vStore s A c, vPlan p B b U d, vTruth t E f] w fun e w' => ∃ X x Y y Z z,
      e = .returned (.tuple #[.slice X (leftL s p t s.nights.length).length x, .slice Y (backL s p t s.nights.length).length y, .slice Z (litL s p t s.nights.length).length z]) ∧
      Vc.Own dI 3 w' w.heap.size no X x (leftL s p t s.nights.length) ∧ Vc.Own dI 3 w' w.heap.size no Y y (backL s p t s.nights.length) ∧ Vc.Own dB 4 w' w.heap.size no Z z (litL s p t s.nights.length) ∧ w.grownBy w' none := by
  obtain ⟨ht0, ht1, htl, htb⟩ := truth_fine hf ht
  have hn6 := hf.ok.few
  have hcap := hf.ok.cap
  refine calls (G := G) (args := [vStore s A c, vPlan p B b U d, vTruth t E f]) Try.func26 rfl rfl rfl ?_
  refine M.run rfl (M.nw rfl fun g1 w1 b1 e1 l1 => M.run rfl (M.nw rfl fun g2 w2 b2 e2 l2 => M.run rfl (M.nw rfl fun g3 w3 b3 e3 l3 => M.run rfl (M.ld rfl (b3.cell rfl rfl) (M.run rfl ?_)))))
  have e03 := gr_trans (gr_trans e1 e2) e3
  replace b1 := (b1.mv0 e2).mv0 e3
  replace b2 := b2.mv0 e3
  refine M.loop (σ := Nat × (Option Addr × Nat) × (Option Addr × Nat) × (Option Addr × Nat)) (fun (i, (X, x), (Y, y), (Z, z)) => [(3, .pointer (some ⟨g1, 0, none⟩)), (4, .pointer (some ⟨g2, 0, none⟩)), (5, .pointer (some ⟨g3, 0, none⟩)), (9, .slice X (leftL s p t i).length x), (10, .slice Y (backL s p t i).length y), (11, .slice Z (litL s p t i).length z),
      (12, .int .i64 (oilAt s p t i)), (13, .int .i64 (i : Int))])
    (fun (i, (X, x), (Y, y), (Z, z)) w' => i ≤ s.nights.length ∧ w3.grownBy w' none ∧ Vc.Own dI 3 w' w3.heap.size no X x (leftL s p t i) ∧ Vc.Own dI 3 w' w3.heap.size no Y y (backL s p t i) ∧ Vc.Own dB 4 w' w3.heap.size no Z z (litL s p t i) ∧ Ne2 X Y)
    (fun (i, _) => s.nights.length - i) (0, (none, 0), (none, 0), (none, 0)) ⟨rfl, rfl, rfl, rfl, rfl, rfl, rfl, rfl, trivial⟩ ⟨Nat.zero_le _, gr_refl _ _, Vc.Own.nil _ _ _ _ _, Vc.Own.nil _ _ _ _ _, Vc.Own.nil _ _ _ _ _, Ne2.nil _⟩ ?_
  rintro ⟨i, ⟨X, x⟩, ⟨Y, y⟩, ⟨Z, z⟩⟩ w6 ⟨hi, e36, hX, hY, hZ, hXY⟩
  have e06 := gr_trans e03 e36
  have c1 := b1.mv0 e36
  have c2 := b2.mv0 e36
  have c3 := b3.mv0 e36
  refine M.run rfl (M.ld rfl (c1.cell rfl rfl) (M.run rfl (M.cond rfl (fun h2 => ?_) (fun h2 => ?_))))
  · have hlt : i < s.nights.length := by have := of_decide_eq_true h2; omega
    have hltc : i < p.cans.length := by rw [hf.cl]; exact hlt
    have hltw : i < p.wicks.length := by rw [hf.wl]; exact hlt
    have hltb : i < t.burn.length := by rw [htl]; exact hlt
    obtain ⟨hA1, hAC⟩ := rd_flat hA hlt
    obtain ⟨hB1, hBC⟩ := rd_flat hB hltc
    obtain ⟨hD1, hDC⟩ := rd_flat hD hltw
    obtain ⟨hE1, hEC⟩ := rd_flat hE hltb
    rw [nt_get hlt] at hAC
    rw [at0_get hltc] at hBC
    rw [at0_get hltw] at hDC
    rw [at0_get hltb] at hEC
    have hnt := hf.ok.nt hlt
    have hca := hf.add hlt
    have hwi := hf.wicks i hlt
    have hst := hf.ok.start
    have hbu := htb i hlt
    have hoil := oil_bd (t := t) hf ht0 ht1 (fun j hj => (htb j hj).1) i hi
    have hnow := now_bd (s := s) hoil.1 hca.1 (show 0 ≤ s.cap by omega)
    have hnd := need_bd (n := nt s i) (wi := at0 p.wicks i) (bu := at0 t.burn i) (by omega) (by omega) (by omega)
    have w1' : IntKind.i64.wrap (oilAt s p t i + IntKind.i64.wrap (at0 p.cans i * s.can)) = oilAt s p t i + at0 p.cans i * s.can := by
      rw [w64 (x := at0 p.cans i * s.can) (by omega) (by omega), w64 (by omega) (by omega)]
    have hback : (if IntKind.i64.wrap (oilAt s p t i + at0 p.cans i * s.can - s.cap) > 0 then IntKind.i64.wrap (oilAt s p t i + at0 p.cans i * s.can - s.cap) else 0) = backAt s p t i := by
      rw [w64 (by omega) (by omega)]
      unfold backAt nowAt now
      split <;> split <;> omega
    have hbb : 0 ≤ backAt s p t i ∧ backAt s p t i ≤ 1000 := by unfold backAt nowAt; omega
    have hsub : IntKind.i64.wrap (oilAt s p t i + at0 p.cans i * s.can - backAt s p t i) = nowAt s p t i := by
      rw [w64 (by omega) (by omega)]; unfold backAt; omega
    have hneed : IntKind.i64.wrap (IntKind.i64.wrap ((nt s i).hours * at0 p.wicks i) * at0 t.burn i) = need (nt s i) (at0 p.wicks i) (at0 t.burn i) := by
      rw [w64 (x := (nt s i).hours * at0 p.wicks i) (by omega) (by omega)]
      unfold need at hnd ⊢
      exact w64 (by omega) (by omega)
    have hnn : 0 ≤ nowAt s p t i ∧ nowAt s p t i ≤ 400 := by unfold nowAt; omega
    refine M.run rfl (M.quiet (by kernel_rfl) (LQ.run rfl (LQ.ld rfl (fun w' hw => (c2.mv0 hw).cell rfl rfl) (LQ.run rfl (LQ.ix rfl (by omega) (by omega) hB1 (LQ.run rfl (LQ.ld rfl (fun w' hw => (hBC w' (gr_below (gr_trans e06 hw))).one 0 rfl rfl) (LQ.run rfl (LQ.ld rfl (fun w' hw => (c1.mv0 hw).cell rfl rfl) (LQ.run rfl (LQ.nil fun w7 e7 => ?_)))))))))))
    have e67 := e7
    rw [w1']
    refine M.run rfl (M.ld rfl ((c1.mv0 e7).cell rfl rfl) (M.run rfl ?_))
    rw [hback, hsub]
    refine M.quiet (by kernel_rfl) (LQ.run rfl (LQ.ld rfl (fun w' hw => ((c1.mv0 e7).mv0 hw).cell rfl rfl) (LQ.run rfl (LQ.ix rfl (by omega) (by omega) hA1 (LQ.run rfl (LQ.ld rfl (fun w' hw => (hAC w' (gr_below (gr_trans (gr_trans e06 e7) hw))).one 0 rfl rfl) (LQ.run rfl (LQ.ld rfl (fun w' hw => ((c2.mv0 e7).mv0 hw).cell rfl rfl) (LQ.run rfl (LQ.ix rfl (by omega) (by omega) hD1 (LQ.run rfl (LQ.ld rfl (fun w' hw => (hDC w' (gr_below (gr_trans (gr_trans e06 e7) hw))).one 0 rfl rfl) (LQ.run rfl
      (LQ.ld rfl (fun w' hw => ((c3.mv0 e7).mv0 hw).cell rfl rfl) (LQ.run rfl (LQ.ix rfl (by omega) (by omega) hE1 (LQ.run rfl (LQ.ld rfl (fun w' hw => (hEC w' (gr_below (gr_trans (gr_trans e06 e7) hw))).one 0 rfl rfl) (LQ.run rfl (LQ.nil fun w8 e8 => ?_))))))))))))))))))))
    rw [hneed]
    have e38 := gr_trans e36 (gr_trans e7 e8)
    have e08 := gr_trans e03 e38
    have e68 := gr_trans e7 e8
    have hlit : decide (nowAt s p t i ≥ need (nt s i) (at0 p.wicks i) (at0 t.burn i)) = litAt s p t i := by
      unfold litAt litB nowAt
      by_cases hh : now s (oilAt s p t i) (at0 p.cans i) < need (nt s i) (at0 p.wicks i) (at0 t.burn i)
      · rw [decide_eq_true hh, decide_eq_false (by omega)]; rfl
      · rw [decide_eq_false hh, decide_eq_true (by omega)]; rfl
    refine M.run rfl ?_
    rw [hlit]
    have hsubn : litAt s p t i = true → IntKind.i64.wrap (nowAt s p t i - need (nt s i) (at0 p.wicks i) (at0 t.burn i)) = oilAt s p t (i + 1) := fun hl => by
      rw [← hlit] at hl
      have hl' := of_decide_eq_true hl
      have h4 := oilAt_succ s p t i
      rw [w64 (by omega) (by omega), h4]
      unfold rest
      rw [if_neg (by unfold nowAt at hl'; omega)]
      rfl
    have hzero : litAt s p t i = false → (0 : Int) = oilAt s p t (i + 1) := fun hl => by
      rw [← hlit] at hl
      have hl' := of_decide_eq_false hl
      rw [oilAt_succ s p t i]
      unfold rest
      rw [if_pos (by unfold nowAt at hl'; omega)]
    refine M.cutC (σ := Unit) (fun _ => [(3, .pointer (some ⟨g1, 0, none⟩)), (4, .pointer (some ⟨g2, 0, none⟩)), (5, .pointer (some ⟨g3, 0, none⟩)), (9, .slice X (leftL s p t i).length x), (10, .slice Y (backL s p t i).length y), (11, .slice Z (litL s p t i).length z),
      (12, .int .i64 (oilAt s p t (i + 1))), (13, .int .i64 (i : Int)), (14, .int .i64 (backAt s p t i)), (16, .bool (litAt s p t i))]) (fun _ w' => w' = w8) ?_ ?_ post_weak
    · refine M.cond rfl (fun h3 => ?_) (fun h3 => ?_)
      · refine M.run rfl ?_
        rw [hsubn h3]
        exact M.end_ ⟨(), ⟨rfl, rfl, rfl, rfl, rfl, rfl, rfl, rfl, rfl, rfl, trivial⟩, rfl⟩
      · refine M.run rfl (M.end_ ⟨(), ⟨rfl, rfl, rfl, rfl, rfl, rfl, ?_, rfl, rfl, rfl, trivial⟩, rfl⟩)
        rw [← hzero h3]; rfl
    rintro _ w9 rfl
    have hl1 : (leftL s p t i).length = i := by simp [leftL]
    have hl2 : (backL s p t i).length = i := by simp [backL]
    have hl3 : (litL s p t i).length = i := by simp [litL]
    refine M.run rfl (M.bs rfl fun ga wa ba ea la => M.run rfl ?_)
    refine M.app (d := dI) rfl rfl ((hX.mv0 e68).mv0 ea) rfl (by decide) rfl (ys := [oilAt s p t (i + 1)]) rfl rfl (src_one ba rfl) (Nat.le_trans e38.size ea.size) (by simp [hl1]; omega) (by decide) fun X' x' wb hXb eb hatb => ?_
    have e3b := ((hX.mv0 e68).mv0 ea).gr (gr_trans e38 ea) eb (Nat.le_refl _)
    have hYb := ((hY.mv0 e68).mv0 ea).mvN eb hXY.symm
    have hZb := ((hZ.mv0 e68).mv0 ea).mvN eb (Vc.Own.ne_tag ((hZ.mv0 e68).mv0 ea) ((hX.mv0 e68).mv0 ea) (by decide))
    have hXY' : Ne2 X' Y := hXY.app hatb ((hY.mv0 e68).mv0 ea)
    refine M.run rfl (M.bs rfl fun gc wc bc ec lc => M.run rfl ?_)
    refine M.app (d := dI) rfl rfl (hYb.mv0 ec) rfl (by decide) rfl (ys := [backAt s p t i]) rfl rfl (src_one bc rfl) (Nat.le_trans e3b.size ec.size) (by simp [hl2]; omega) (by decide) fun Y' y' wd hYd ed hatd => ?_
    have e3d := (hYb.mv0 ec).gr (gr_trans e3b ec) ed (Nat.le_refl _)
    have hXd := (hXb.mv0 ec).mvN ed hXY'
    have hZd := (hZb.mv0 ec).mvN ed (Vc.Own.ne_tag (hZb.mv0 ec) (hYb.mv0 ec) (by decide))
    have hXY'' : Ne2 X' Y' := (hXY'.symm.app hatd (hXb.mv0 ec)).symm
    refine M.run rfl (M.bs rfl fun ge we be ee le_ => M.run rfl ?_)
    refine M.app (d := dB) rfl rfl (hZd.mv0 ee) rfl (by decide) rfl (ys := [litAt s p t i]) rfl rfl (src_one be rfl) (Nat.le_trans e3d.size ee.size) (by simp [hl3]; omega) (by decide) fun Z' z' wf hZf ef hatf => ?_
    have e3f := (hZd.mv0 ee).gr (gr_trans e3d ee) ef (Nat.le_refl _)
    have hXf := (hXd.mv0 ee).mvN ef (Vc.Own.ne_tag (hXd.mv0 ee) (hZd.mv0 ee) (by decide))
    have hYf := (hYd.mv0 ee).mvN ef (Vc.Own.ne_tag (hYd.mv0 ee) (hZd.mv0 ee) (by decide))
    have hnext : some (Value.int .i64 (IntKind.i64.wrap ((i : Int) + 1))) = some (Value.int .i64 ((i + 1 : Nat) : Int)) := congrArg (fun z => some (Value.int .i64 z)) (w64 (by omega) (by omega))
    refine M.run rfl (M.end_ ⟨(i + 1, (X', x'), (Y', y'), (Z', z')), ⟨rfl, rfl, rfl, ?_, ?_, ?_, rfl, hnext, trivial⟩, ⟨by omega, e3f, ?_, ?_, ?_, hXY''⟩, by simp; omega⟩)
    · rw [leftL_succ]; rfl
    · rw [backL_succ]; rfl
    · rw [litL_succ]; rfl
    · show Vc.Own dI 3 wf w3.heap.size no X' x' (leftL s p t (i + 1))
      rw [leftL_succ]; exact hXf
    · show Vc.Own dI 3 wf w3.heap.size no Y' y' (backL s p t (i + 1))
      rw [backL_succ]; exact hYf
    · show Vc.Own dB 4 wf w3.heap.size no Z' z' (litL s p t (i + 1))
      rw [litL_succ]; exact hZf
  · have hin : i = s.nights.length := by have := of_decide_eq_false h2; omega
    subst hin
    exact M.run rfl (M.retF rfl rfl ⟨X, x, Y, y, Z, z, rfl, hX.weaken e03.size (fun _ h => h), hY.weaken e03.size (fun _ h => h), hZ.weaken e03.size (fun _ h => h), e06⟩)
end Go.Proofs.Ytaimlmfncjbmjaa
end

section
/- Walks: night; ends. -/
set_option linter.unusedVariables false
namespace Lp
open Go Go.Vc Go.RowKit
def lv (f : Lev) : List Value := (List.range 401).map fun i => .bool (f i)
theorem lv_len (f : Lev) : (lv f).length = 401 := by simp [lv]
theorem lv_get (f : Lev) {j : Nat} (h : j < 401) : (lv f)[j]? = some (.bool (f j)) := by simp [lv, h]
theorem lv_bl (f : Lev) : lv f = (bl f).flatMap fun x => [.bool x] := by
  simp only [lv, bl, List.flatMap_map]
  rw [List.map_eq_flatMap]
def dLev : Rp Lev := Rp.flat lv 401 lv_len (fun x c h => by simp [lv] at h; obtain ⟨_, _, rfl⟩ := h; rfl)
theorem rd_lev {w : World} {g e : Nat} {f : Lev} (hB : Blk w g (lv f) e) : Rd dB w (some ⟨g, 0, none⟩) 401 (bl f) := by
  have := rd_lit (enc := fun x : Bool => [Value.bool x]) (sz := 1) (hl := fun _ => rfl) (hp := fun _ c h => by simp at h; subst h; rfl) hB (bl f) (lv_bl f) (by rw [bl_len]; decide)
  rw [bl_len] at this
  exact this
end Lp
namespace Go.Proofs.Ytaimlmfncjbmjaa
open Go Go.Vc Go.RowKit Lp

set_option maxHeartbeats 1000000 in
theorem night_go (s : Store) (p : Plan) (i : Nat) (oil : Int) (A : Option Addr) (c : Nat) (B : Option Addr) (b : Nat) (D : Option Addr) (d : Nat) (w : World) (hA : Rd dNight w A c s.nights) (hB : Rd dI w B b p.cans) (hD : Rd dI w D d p.wicks)
    (hf : Fine s p) (hi : i < s.nights.length) (ho : 0 ≤ oil ∧ oil ≤ 400) :
    Calls Try.prog 103 #[vStore s A c, vPlan p B b D d, .int .i64 i, .int .i64 oil] w fun e w' => ∃ X x, e = .returned (.slice X (nightL s p i oil).length x) ∧ Vc.Own dI 3 w' w.heap.size no X x (nightL s p i oil) ∧ w.grownBy w' none := by
  have hn6 := hf.ok.few
  have hltc : i < p.cans.length := by rw [hf.cl]; exact hi
  have hltw : i < p.wicks.length := by rw [hf.wl]; exact hi
  obtain ⟨hA1, hAC⟩ := rd_flat hA hi
  obtain ⟨hB1, hBC⟩ := rd_flat hB hltc
  obtain ⟨hD1, hDC⟩ := rd_flat hD hltw
  rw [nt_get hi] at hAC
  rw [at0_get hltc] at hBC
  rw [at0_get hltw] at hDC
  have hnt := hf.ok.nt hi
  have hca := hf.add hi
  have hwi := hf.wicks i hi
  have hcap := hf.ok.cap
  have hnow := now_bd (s := s) ho.1 hca.1 (show 0 ≤ s.cap by omega)
  refine calls (G := G) (args := [vStore s A c, vPlan p B b D d, .int .i64 i, .int .i64 oil]) Try.func103 rfl rfl rfl ?_
  refine M.run rfl (M.nw rfl fun g1 w1 b1 e1 l1 => M.run rfl (M.nw rfl fun g2 w2 b2 e2 l2 => M.run rfl ?_))
  have e02 := gr_trans e1 e2
  refine M.ld rfl ((b1.mv0 e2).cell rfl rfl) (M.run rfl (M.ix rfl (by omega) (by omega) hA1 (M.run rfl (M.ldA rfl rfl (hAC w2 (gr_below e02)) (M.run rfl (M.nw rfl fun g3 w3 b3 e3 l3 => M.run rfl ?_))))))
  refine M.store rfl rfl b3 rfl rfl fun w4 b4 e4 => ?_
  have e24 : w2.grownBy w4 none := gr_fresh e3 e4 l3
  have e04 := gr_trans e02 e24
  refine M.run rfl (M.nw rfl fun g5 w5 b5 e5 l5 => M.run rfl (M.nw rfl fun g6 w6 b6 e6 l6 => M.run rfl ?_))
  refine M.store rfl rfl (b5.mv0 e6) rfl rfl fun w7 b7 e7 => ?_
  have hne : g5 ≠ g6 := by have := b5.lt; omega
  refine M.run rfl (M.store rfl rfl (b6.mv1 e7 hne) rfl rfl fun w8 b8 e8 => ?_)
  have e47 : w4.grownBy w7 none := gr_fresh (gr_trans e5 e6) e7 l5
  have e48 : w4.grownBy w8 none := gr_fresh e47 e8 (Nat.le_trans e5.size l6)
  have e08 := gr_trans e04 e48
  have e28 := gr_trans e24 e48
  replace b1 := (b1.mv0 e2).mv0 e28
  replace b2 := b2.mv0 e28
  replace b4 := b4.mv0 e48
  replace b7 := b7.mv1 e8 (Ne.symm hne)
  refine M.run rfl (M.quiet (by kernel_rfl) ?_)
  refine LQ.run rfl (LQ.ldA rfl rfl (fun w' hw => (b1.mv0 hw).cellsAll) (LQ.run rfl (LQ.ld rfl (fun w' hw => (b2.mv0 hw).cell rfl rfl) (LQ.run rfl (LQ.ix rfl (by omega) (by omega) hB1 (LQ.run rfl (LQ.ld rfl (fun w' hw => (hBC w' (gr_below (gr_trans e08 hw))).one 0 rfl (by simp [Addr.add])) (LQ.run rfl
      (LQ.clG rfl (fun w' hw => filled_go s A c _ _ w' (by omega) (by omega) (by omega)) (LQ.run rfl (LQ.nil fun w9 e9 => ?_)))))))))))
  have e09 := gr_trans e08 e9
  replace b1 := b1.mv0 e9
  replace b2 := b2.mv0 e9
  replace b4 := b4.mv0 e9
  replace b7 := b7.mv0 e9
  replace b8 := b8.mv0 e9
  refine M.run rfl (M.ld rfl (b7.cell rfl rfl) (M.run rfl (M.ldA rfl rfl b4.cellsAll (M.run rfl (M.cl rfl (fewest_go (nt s i) w9) ?_)))))
  rintro e w10 ⟨rfl, e10⟩
  have e010 := gr_trans e09 e10
  replace b2 := b2.mv0 e10
  replace b4 := b4.mv0 e10
  replace b8 := b8.mv0 e10
  refine ⟨_, rfl, M.run rfl ?_⟩
  refine M.loop (σ := Nat × Option Addr × Nat) (fun (k, X, x) => [(2, .int .i64 (i : Int)), (5, .pointer (some ⟨g2, 0, none⟩)), (9, .pointer (some ⟨g3, 0, none⟩)), (11, .pointer (some ⟨g6, 0, none⟩)), (12, .int .i64 (now s oil (at0 p.cans i))),
      (14, .int .i64 ((nt s i).lo + (k : Int))), (8, .slice X (nightN s p i oil k).length x)])
    (fun (k, X, x) w' => (nt s i).lo + (k : Int) ≤ (nt s i).hi + 1 ∧ w10.grownBy w' none ∧ Vc.Own dI 3 w' w10.heap.size no X x (nightN s p i oil k)) (fun (k, _) => ((nt s i).hi - (nt s i).lo + 1).toNat - k) (0, none, 0)
    ⟨rfl, rfl, rfl, rfl, rfl, congrArg (fun z => some (Value.int .i64 z)) (by simp), rfl, trivial⟩ ⟨by simp; omega, gr_refl _ _, Own.nil _ _ _ _ _⟩ ?_
  rintro ⟨k, X, x⟩ w11 ⟨hk, e11, hX⟩
  have e011 := gr_trans e010 e11
  have b4' := b4.mv0 e11
  have b8' := b8.mv0 e11
  refine M.run rfl (M.ld rfl (b8'.cell rfl rfl) (M.run rfl (M.ldA rfl rfl b4'.cellsAll (M.run rfl (M.cl rfl (most_go (nt s i) w11) ?_)))))
  rintro e w12 ⟨rfl, e12⟩
  have e1012 := gr_trans e11 e12
  have e012 := gr_trans e011 e12
  refine ⟨_, rfl, M.run rfl (M.cond rfl (fun h => ?_) (fun h => ?_))⟩
  · have h' := of_decide_eq_true h
    refine M.run rfl (M.quiet (by kernel_rfl) ?_)
    refine LQ.run rfl (LQ.ldA rfl rfl (fun w' hw => (b4.mv0 (gr_trans e1012 hw)).cellsAll) (LQ.run rfl (LQ.ld rfl (fun w' hw => (b2.mv0 (gr_trans e1012 hw)).cell rfl rfl) (LQ.run rfl (LQ.ix rfl (by omega) (by omega) hD1 (LQ.run rfl (LQ.ld rfl (fun w' hw => (hDC w' (gr_below (gr_trans e012 hw))).one 0 rfl (by simp [Addr.add])) (LQ.run rfl
      (LQ.clG rfl (fun w' hw => burned_go (nt s i) _ _ _ w' (by omega) (by omega) (by omega) (by omega)) (LQ.run rfl (LQ.nil fun w13 e13 => ?_)))))))))))
    have e1013 := gr_trans e1012 e13
    have e1113 := gr_trans e12 e13
    refine M.run rfl (M.bs rfl fun ga wa ba ea la => M.run rfl ?_)
    have hl1 : (nightN s p i oil k).length = k := by simp [nightN]
    refine M.app (d := dI) rfl rfl ((hX.mv0 e1113).mv0 ea) rfl (by decide) rfl (ys := [rest (nt s i) (now s oil (at0 p.cans i)) (at0 p.wicks i) ((nt s i).lo + (k : Int))]) rfl rfl (src_one ba rfl) (Nat.le_trans e1013.size ea.size) (by simp [hl1]; omega) (by decide) fun X' x' wb hXb eb hatb => ?_
    have e10b := ((hX.mv0 e1113).mv0 ea).gr (gr_trans e1013 ea) eb (Nat.le_refl _)
    refine M.run rfl (M.end_ ⟨(k + 1, X', x'), ⟨rfl, rfl, rfl, rfl, rfl, ?_, ?_, trivial⟩, ⟨by omega, e10b, ?_⟩, ?_⟩)
    · exact congrArg (fun z => some (Value.int .i64 z)) (by rw [w64 (by omega) (by omega)]; omega)
    · rw [nightN_succ]; rfl
    · show Vc.Own dI 3 wb w10.heap.size no X' x' (nightN s p i oil (k + 1))
      rw [nightN_succ]; exact hXb
    · show ((nt s i).hi - (nt s i).lo + 1).toNat - (k + 1) < ((nt s i).hi - (nt s i).lo + 1).toNat - k
      omega
  · have h' := of_decide_eq_false h
    have hkk : k = ((nt s i).hi - (nt s i).lo + 1).toNat := by omega
    subst hkk
    exact M.run rfl (M.retF rfl rfl ⟨X, x, rfl, (hX.mv0 e12).weaken e010.size (fun _ h => h), e012⟩)

theorem ends_go (f : Lev) (w : World) (hf : none_ f = false) :
    Calls Try.prog 91 #[.agg (lv f).toArray] w fun e w' => e = .returned (.tuple #[.agg (encRng (ends f)).toArray, .bool true]) ∧ w.grownBy w' none := by
  obtain ⟨lo, hlo, hl4, hlt, hlb⟩ := lowest_some hf
  refine calls (G := G) (args := [.agg (lv f).toArray]) Try.func91 rfl rfl rfl ?_
  refine M.run rfl (M.nw rfl fun g1 w1 b1 e1 l1 => ?_)
  replace b1 : Blk w1 g1 (lv f) 139 := by simpa [Value.cells] using b1
  refine M.run rfl (M.nw rfl fun g2 w2 b2 e2 l2 => M.run rfl (M.ys (YS.slcA rfl) (M.run rfl ?_)))
  have hcall := index_bool true (bl f) (some ⟨g1, 0, none⟩) 401 w2 (rd_lev (b1.mv0 e2))
  rw [bl_len] at hcall
  refine M.cl rfl hcall ?_
  rintro e w3 ⟨rfl, e3⟩
  have e03 := gr_trans (gr_trans e1 e2) e3
  replace b1 := (b1.mv0 e2).mv0 e3
  replace b2 := b2.mv0 e3
  have hlow : idxOf (fun y => true == y) (bl f) = lo := hlo
  refine ⟨_, rfl, M.run rfl (M.cond rfl (fun h => ?_) (fun h => ?_))⟩
  · have := of_decide_eq_true h; omega
  refine M.run rfl ?_
  refine M.loop (σ := Nat) (fun k => [(1, .pointer (some ⟨g1, 0, none⟩)), (2, .pointer (some ⟨g2, 0, none⟩)), (4, .int .i64 (idxOf (fun y => true == y) (bl f))), (5, .int .i64 (k : Int))])
    (fun k w' => w' = w3 ∧ k ≤ 400 ∧ lo ≤ k ∧ ∀ y, k < y → y ≤ 400 → f y = false) (fun k => k) 400 ⟨rfl, rfl, rfl, rfl, trivial⟩ ⟨rfl, Nat.le_refl _, hl4, fun y h1 h2 => by omega⟩ ?_
  rintro k w4 ⟨rfl, hk, hlk, hb⟩
  have hcell : w4.cell? ((⟨g1, 0, none⟩ : Addr).add ((k : Int).toNat * 1)) = some (.bool (f k)) := b1.cell (by rw [add_plain]) (by simpa using lv_get f (show k < 401 by omega))
  refine M.run rfl (M.ixA rfl (by omega) (by omega) (M.run rfl (M.ld rfl hcell (M.run rfl (M.cond rfl (fun h => ?_) (fun h => ?_))))))
  · have h' : f k = false := by simpa using h
    have hne : k ≠ 0 := by
      rintro rfl
      have : lo = 0 := by omega
      subst this
      rw [hlt] at h'; cases h'
    have hne2 : lo ≠ k := by rintro rfl; rw [hlt] at h'; cases h'
    refine M.run rfl (M.end_ ⟨k - 1, ⟨rfl, rfl, rfl, ?_, trivial⟩, ⟨rfl, by omega, by omega, fun y h1 h2 => ?_⟩, by omega⟩)
    · exact congrArg (fun z => some (Value.int .i64 z)) (by rw [w64 (by omega) (by omega)]; omega)
    · by_cases hy : y = k
      · subst hy; exact h'
      · exact hb y (by omega) h2
  · have h' : f k = true := by simpa using h
    refine M.run rfl (M.store rfl rfl b2 rfl rfl fun w5 b5 e5 => ?_)
    have e05 : w.grownBy w5 none := gr_fresh e03 e5 (Nat.le_trans e1.size l2)
    have : encRng (ends f) = [.int .i64 (idxOf (fun y => true == y) (bl f)), .int .i64 (k : Int)] := by
      simp [encRng, ends, highest_spec hk h' hb, lowest]
    rw [this]
    exact M.run rfl (M.retC (.cellA rfl rfl rfl rfl (b5.cells 0 rfl ⟨[], rfl⟩ : Cells _ _ [_, _]) (.tmp rfl .nil)) ⟨rfl, e05⟩)
end Go.Proofs.Ytaimlmfncjbmjaa
end

section
/- Walks: of, its iterator, agrees (a range over a function). -/
set_option linter.unusedVariables false
namespace Lp
def selD (l : List Dip) (i : Int) : List Dip := l.filter fun d => decide (d.night = i)
theorem selD_succ (l : List Dip) (i : Int) (m : Nat) (h : m < l.length) : selD (l.take (m + 1)) i = if (l[m]).night = i then selD (l.take m) i ++ [l[m]] else selD (l.take m) i := by
  unfold selD
  rw [List.take_add_one, List.getElem?_eq_getElem h, List.filter_append]
  by_cases hd : (l[m]).night = i
  · rw [if_pos hd]; simp [hd]
  · rw [if_neg hd]; simp [hd]
theorem selD_lt (l : List Dip) (i : Int) (m : Nat) (h : m < l.length) (hd : (l[m]).night = i) : (selD (l.take m) i).length < (selD l i).length := by
  have h1 := selD_succ l i m h
  rw [if_pos hd] at h1
  have h2 : selD l i = selD (l.take (m + 1)) i ++ selD (l.drop (m + 1)) i := by
    unfold selD
    rw [← List.filter_append, List.take_append_drop]
  rw [h2, h1]
  simp
theorem selD_prefix (l : List Dip) (i : Int) (m : Nat) : selD (l.take m) i <+: selD l i := by
  refine ⟨selD (l.drop m) i, ?_⟩
  unfold selD
  rw [← List.filter_append, List.take_append_drop]
end Lp
namespace Go.Proofs.Ytaimlmfncjbmjaa
open Go Go.Vc Go.RowKit Lp

theorem of_go (l : List Dip) (E : Option Addr) (f : Nat) (night : Int) (w : World) :
    Calls Try.prog 119 #[.slice E l.length f, .int .i64 night] w fun e w' => ∃ g1 g2, e = .returned (.func (.func 123) #[] #[.pointer (some ⟨g1, 0, none⟩), .pointer (some ⟨g2, 0, none⟩)]) ∧ Blk w' g1 [.slice E l.length f] 60 ∧ Blk w' g2 [.int .i64 night] 3 ∧ w.grownBy w' none := by
  refine calls (G := G) (args := [.slice E l.length f, .int .i64 night]) Try.func119 rfl rfl rfl ?_
  exact M.run rfl (M.nw rfl fun g1 w1 b1 e1 l1 => M.run rfl (M.nw rfl fun g2 w2 b2 e2 l2 => M.run rfl (M.retF rfl rfl ⟨g1, g2, rfl, b1.mv0 e2, b2, gr_trans e1 e2⟩)))

def env1 (ln g1 g2 : Nat) (E : Option Addr) (m f : Nat) (i : Nat) : Env := [(0, .func (.yield ln) #[] #[]), (1, .pointer (some ⟨g1, 0, none⟩)), (2, .pointer (some ⟨g2, 0, none⟩)), (6, .slice E m f), (7, .int .i64 m), (8, .int .i64 (i : Int))]

theorem of1_in (ln : Nat) (g1 g2 : Nat) (l : List Dip) (E : Option Addr) (f : Nat) (night : Int) (w0 : World) (hl : l.length ≤ 100) (h1 : Blk w0 g1 [.slice E l.length f] 60) (h2 : Blk w0 g2 [.int .i64 night] 3) (hE : Rd dDip w0 E f l) (J Jx : List Dip → World → Prop)
    (W : World) (hW : Below w0.heap.size w0 W) (hJ : AbidesFrom W.heap.size J)
    (hY : ∀ pre x W1, J pre W1 → pre.length < (selD l night).length → YieldAt Fence.wide 2 Try.prog ln #[.agg (encDip x).toArray] W1 fun e W' =>
      (e = .returned (.bool true) ∧ J (pre ++ [x]) W' ∧ Below w0.heap.size W1 W') ∨ (e = .returned (.bool false) ∧ Jx (pre ++ [x]) W'))
    (h0 : J [] W) :
    CallsIn Fence.wide 3 Try.prog 123 (#[.func (.yield ln) #[] #[]] ++ #[.pointer (some ⟨g1, 0, none⟩), .pointer (some ⟨g2, 0, none⟩)]) W fun e W' => (∃ v, e = .returned v) ∧
      ((∃ ys, ys = selD l night ∧ J ys W') ∨ (∃ pre, pre <+: selD l night ∧ Jx pre W')) := by
  refine callsIn_of_wp Try.func123 rfl trivial ?_ rfl
  have hB1 : ∀ {w}, Below w0.heap.size w0 w → Blk w g1 [.slice E l.length f] 60 := fun hb => h1.since hb
  have hB2 : ∀ {w}, Below w0.heap.size w0 w → Blk w g2 [.int .i64 night] 3 := fun hb => h2.since hb
  refine wpIn_seq (regIn (G := G) (n := 23) (ρ := argsEnv 0 [.func (.yield ln) #[] #[], .pointer (some ⟨g1, 0, none⟩), .pointer (some ⟨g2, 0, none⟩)]) (.inl rfl) (fits_args _ rfl rfl rfl) (fun ρ' w' => Has ρ' (env1 ln g1 g2 E l.length f 0) ∧ w' = W) rfl ?_ ?_)
  · exact M.run rfl (M.ld rfl ((hB1 hW).cell rfl rfl) (M.run rfl (M.end_ ⟨⟨rfl, rfl, rfl, rfl, rfl, rfl, trivial⟩, rfl⟩)))
  rintro ρ' a' w' hfit ⟨hhas, rfl⟩
  refine wpIn_block (wpIn_loop_ghost (fun m a w => ∃ i, m = l.length - i ∧ i ≤ l.length ∧ Fits 23 (env1 ln g1 g2 E l.length f i) a ∧ J (selD (l.take i) night) w ∧ Below w0.heap.size w0 w ∧ w'.heap.size ≤ w.heap.size) l.length
    ⟨0, rfl, Nat.zero_le _, hfit.weaken hhas, by simpa [selD] using h0, hW, Nat.le_refl _⟩ ?_)
  rintro m a w ⟨i, rfl, hi, hfit, hJi, hB, hsz⟩
  refine wpIn_seq (regIn (G := G) (.inl rfl) hfit (fun ρ' w' => Has ρ' ((9, .bool (decide (i < l.length))) :: env1 ln g1 g2 E l.length f i) ∧ w' = w) rfl (M.run rfl (M.end_ ⟨⟨?_, rfl, rfl, rfl, rfl, rfl, rfl, trivial⟩, rfl⟩)) ?_)
  · exact congrArg (fun b => some (Value.bool b)) (by simp)
  rintro ρ' a w hfit ⟨hhas, rfl⟩
  replace hfit := hfit.weaken hhas
  have hc9 : a.eval (.tmp 9) = .bool (decide (i < l.length)) := hfit.ev rfl
  refine wpIn_seq (wpIn_cond_split hc9 (fun h => wpIn_skip ?_) (fun h => wpIn_exit ?_))
  · have hlt : i < l.length := of_decide_eq_true h
    obtain ⟨hE1, hEC⟩ := rd_flat hE hlt
    refine wpIn_seq (wpIn_block (wpIn_seq (regIn (G := G) (.inl rfl) hfit (fun ρ' w' => ∃ g, Has ρ' ((5, .pointer (some ⟨g, 0, none⟩)) :: env1 ln g1 g2 E l.length f i) ∧ Blk w' g (encDip l[i]) 103 ∧ w.grownBy w' none) rfl
      (M.run rfl (M.ix rfl (by omega) (by omega) hE1 (M.run rfl (M.ldA rfl rfl (hEC w hB) (M.run rfl (M.nw rfl fun g5 w5 b5 e5 l5 => M.run rfl (M.store rfl rfl b5 rfl rfl fun w6 b6 e6 =>
        M.run rfl (M.end_ ⟨g5, ⟨rfl, rfl, rfl, rfl, rfl, rfl, rfl, trivial⟩, b6, gr_fresh e5 e6 l5⟩)))))))) ?_)))
    rintro ρ2 a2 w2 hfit2 ⟨g, hhas2, bg, e2⟩
    replace hfit2 := hfit2.weaken hhas2
    have hB2' : Below w0.heap.size w0 w2 := be_gr0 hB e2
    have hJ2 : J (selD (l.take i) night) w2 := hJ _ _ _ none hJi e2 (fun r h => by cases h)
    have hnext : some (Value.int .i64 (IntKind.i64.wrap ((i : Int) + 1))) = some (Value.int .i64 ((i + 1 : Nat) : Int)) := congrArg (fun z => some (Value.int .i64 z)) (w64 (by omega) (by omega))
    by_cases hd : (l[i]).night = night
    · refine wpIn_seq (wpIn_region_list ?_)
      rw [← List.take_append_drop 7 (Array.toList _)]
      refine opsIn (G := G) (.inl rfl) hfit2 (fun ρ' w' => Has ρ' ((16, .bool true) :: (17, .func (.yield ln) #[] #[]) :: (18, .agg (encDip l[i]).toArray) :: env1 ln g1 g2 E l.length f i) ∧ w' = w2) rfl
        (M.run rfl (M.ld rfl (bg.cell rfl rfl) (M.run rfl (M.ld rfl ((hB2 hB2').cell rfl rfl) (M.at_ [16] rfl (M.case 16 rfl (fun hc => ?_) (fun hc => ?_)))))) ) ?_
      · exact M.run rfl (M.ldA rfl rfl bg.cellsAll (M.run rfl (M.end_ ⟨⟨rfl, rfl, rfl, rfl, rfl, rfl, rfl, rfl, rfl, trivial⟩, rfl⟩)))
      · simp [hd] at hc
      rintro ρ3 a3 w3 hfit3 ⟨hhas3, rfl⟩
      replace hfit3 := hfit3.weaken hhas3
      refine yieldIn (G := G) (.inl rfl) hfit3 rfl rfl rfl (hY _ _ _ hJ2 (selD_lt l night i hlt hd)) ?_
      rintro e w4 (⟨rfl, hJ4, hB4⟩ | ⟨rfl, hJx4⟩)
      · refine ⟨_, rfl, opsInEnd (G := G) (.inl rfl) (hfit3.put (dst := some 19) rfl) (fun ρ' w' => Has ρ' ((21, .bool false) :: env1 ln g1 g2 E l.length f i) ∧ w' = w4) rfl (M.run rfl (M.end_ ⟨⟨rfl, rfl, rfl, rfl, rfl, rfl, rfl, trivial⟩, rfl⟩)) ?_⟩
        rintro ρ5 a5 w5 hfit5 ⟨hhas5, rfl⟩
        replace hfit5 := hfit5.weaken hhas5
        refine wpIn_cond_false (hfit5.ev rfl) (wpIn_skip ?_)
        refine regIn (G := G) (.inl rfl) hfit5 (fun ρ' w' => Has ρ' (env1 ln g1 g2 E l.length f (i + 1)) ∧ w' = w5) rfl (M.run rfl (M.end_ ⟨⟨rfl, rfl, rfl, rfl, rfl, hnext, trivial⟩, rfl⟩)) ?_
        rintro ρ6 a6 w6 hfit6 ⟨hhas6, rfl⟩
        refine ⟨l.length - (i + 1), by omega, i + 1, rfl, by omega, hfit6.weaken hhas6, ?_, hB2'.trans hB4, ?_⟩
        · rw [selD_succ l night i hlt, if_pos hd]; exact hJ4
        · exact Nat.le_trans hsz (Nat.le_trans e2.size hB4.size)
      · refine ⟨_, rfl, opsInEnd (G := G) (.inl rfl) (hfit3.put (dst := some 19) rfl) (fun ρ' w' => Has ρ' ((21, .bool true) :: env1 ln g1 g2 E l.length f i) ∧ w' = w4) rfl (M.run rfl (M.end_ ⟨⟨rfl, rfl, rfl, rfl, rfl, rfl, rfl, trivial⟩, rfl⟩)) ?_⟩
        rintro ρ5 a5 w5 hfit5 ⟨hhas5, rfl⟩
        replace hfit5 := hfit5.weaken hhas5
        refine wpIn_cond_true (hfit5.ev rfl) (wpIn_ret ?_)
        refine ⟨hfit5.defers, _, results_run (G := G) hfit5 (vs := []) rfl rfl _, ⟨_, rfl⟩, .inr ⟨selD (l.take i) night ++ [l[i]], ?_, hJx4⟩⟩
        have := selD_prefix l night (i + 1)
        rw [selD_succ l night i hlt, if_pos hd] at this
        exact this
    · refine wpIn_seq (regIn (G := G) (.inl rfl) hfit2 (fun ρ' w' => Has ρ' ((21, .bool false) :: env1 ln g1 g2 E l.length f i) ∧ w' = w2) rfl
        (M.run rfl (M.ld rfl (bg.cell rfl rfl) (M.run rfl (M.ld rfl ((hB2 hB2').cell rfl rfl) (M.at_ [16] rfl (M.case 16 rfl (fun hc => ?_) (fun hc => ?_)))))) ) ?_)
      · simp [hd] at hc
      · exact M.run rfl (M.end_ ⟨⟨rfl, rfl, rfl, rfl, rfl, rfl, rfl, trivial⟩, rfl⟩)
      rintro ρ5 a5 w5 hfit5 ⟨hhas5, rfl⟩
      replace hfit5 := hfit5.weaken hhas5
      refine wpIn_cond_false (hfit5.ev rfl) (wpIn_skip ?_)
      refine regIn (G := G) (.inl rfl) hfit5 (fun ρ' w' => Has ρ' (env1 ln g1 g2 E l.length f (i + 1)) ∧ w' = w5) rfl (M.run rfl (M.end_ ⟨⟨rfl, rfl, rfl, rfl, rfl, hnext, trivial⟩, rfl⟩)) ?_
      rintro ρ6 a6 w6 hfit6 ⟨hhas6, rfl⟩
      refine ⟨l.length - (i + 1), by omega, i + 1, rfl, by omega, hfit6.weaken hhas6, ?_, hB2', ?_⟩
      · rw [selD_succ l night i hlt, if_neg hd]; exact hJ2
      · exact Nat.le_trans hsz e2.size
  · have hge : ¬ i < l.length := of_decide_eq_false h
    have : l.take i = l := List.take_of_length_le (by omega)
    rw [this] at hJi
    exact ⟨hfit.defers, _, results_run (G := G) hfit (vs := []) rfl rfl _, ⟨_, rfl⟩, .inl ⟨_, rfl, hJi⟩⟩

def env4 (B : Nat) (l : List Dip) (E : Option Addr) (f g5 g6 g1 g2 : Nat) : Env := [(5, .pointer (some ⟨g5, 0, none⟩)), (6, .pointer (some ⟨g6, 0, none⟩)), (10, .func (.func 123) #[] #[.pointer (some ⟨g1, 0, none⟩), .pointer (some ⟨g2, 0, none⟩)])]

theorem gr_put {w W : World} (hB : Below w.heap.size w W) {D : Nat} (hD : w.heap.size ≤ D) (o : Obj) : Below w.heap.size w (W.putObj D o) := hB.grown (grownBy_putObj' W D o) hB.size (fun k e => by cases e; exact hD)

set_option maxHeartbeats 1000000 in
theorem agrees_go (l : List Dip) (night : Int) (oil : Int) (E : Option Addr) (f : Nat) (w : World) (hl : l.length ≤ 100) (hE : Rd dDip w E f l) :
    Calls Try.prog 104 #[.slice E l.length f, .int .i64 night, .int .i64 oil] w fun e w' => e = .returned (.bool ((selD l night).all fun d => within oil d.lo d.hi)) ∧ w.grownBy w' none := by
  rw [← callsIn_wide (n := 4)]
  refine callsIn_of_wp_marks Try.func104 rfl trivial ?_ rfl
  refine wpIn_seq (regIn (G := G) (n := 17) (ρ := argsEnv 0 [.slice E l.length f, .int .i64 night, .int .i64 oil]) (.inl rfl) (fits_args _ rfl rfl rfl)
    (fun ρ' w' => ∃ g5 g6, Has ρ' [(0, .slice E l.length f), (1, .int .i64 night), (5, .pointer (some ⟨g5, 0, none⟩)), (6, .pointer (some ⟨g6, 0, none⟩))] ∧ Blk w' g5 [.int .i64 oil] 3 ∧ Blk w' g6 [.bool false] 4 ∧ w.grownBy w' none ∧ w.heap.size ≤ g6) rfl
    (M.run rfl (M.nw rfl fun g5 w1 b5 e1 l1 => M.run rfl (M.nw rfl fun g6 w2 b6 e2 l2 => M.run rfl (M.end_ ⟨g5, g6, ⟨rfl, rfl, rfl, rfl, trivial⟩, b5.mv0 e2, b6, gr_trans e1 e2, Nat.le_trans e1.size l2⟩)))) ?_)
  rintro ρ1 a1 w1 hfit1 ⟨g5, g6, hhas1, b5, b6, e1, hg6⟩
  replace hfit1 := hfit1.weaken hhas1
  refine wpIn_seq (wpIn_seq (regIn (G := G) (.inl rfl) hfit1 (fun ρ' w' => ∃ g1 g2, Has ρ' (env4 w.heap.size l E f g5 g6 g1 g2) ∧ Blk w' g1 [.slice E l.length f] 60 ∧ Blk w' g2 [.int .i64 night] 3 ∧ w1.grownBy w' none) rfl
    (M.run rfl (M.cl rfl (of_go l E f night w1) ?_)) ?_))
  · rintro e w2 ⟨g1, g2, rfl, b1, b2, e2⟩
    exact ⟨_, rfl, M.run rfl (M.end_ ⟨g1, g2, ⟨rfl, rfl, rfl, trivial⟩, b1, b2, e2⟩)⟩
  rintro ρ2 a2 w2 hfit2 ⟨g1, g2, hhas2, b1, b2, e2⟩
  replace hfit2 := hfit2.weaken hhas2
  replace b5 := b5.mv0 e2
  replace b6 := b6.mv0 e2
  have e02 := gr_trans e1 e2
  have hEw := hE.mv e02
  have hg6l := b6.lt
  have hg5l := b5.lt
  refine wpIn_block (wpIn_rangeFunc_ownH (α := Dip) rfl (by omega) (gf := 123) (lb := #[.pointer (some ⟨g1, 0, none⟩), .pointer (some ⟨g2, 0, none⟩)]) (hfit2.ev rfl) trivial (fun args w => run_goFn (G := G) (f := 123) rfl args w)
    (encs := fun x : Dip => #[.agg (encDip x).toArray]) (Kp := Below w2.heap.size) (S := fun ys => ys = selD l night) (Sp := fun pre => pre <+: selD l night) (N := (selD l night).length) (w0 := w2)
    (fun ln J Jx W hW hJ hJx hY h0 => of1_in ln g1 g2 l E f night w2 hl b1 b2 hEw J Jx W hW hJ hY h0)
    (fun h k => h.trans k) (belowK_b (Nat.le_refl _)) (Below.refl _ _) (fun _ => rfl)
    (fun pre W => Below w2.heap.size w2 W ∧ (pre.all fun d => within oil d.lo d.hi) = true)
    (fun c pre W => c = .ret ∧ (pre.all fun d => within oil d.lo d.hi) = false ∧ Below w.heap.size w W ∧ Blk W g6 [.bool false] 4)
    (OwnFrom.and (ownFrom_below (Nat.le_refl _) (Nat.le_refl _)) (ownFrom_pure _ _))
    (fun c s W W' row hs hg hr => ⟨hs.1, hs.2.1, hs.2.2.1.grown hg hs.2.2.1.size (fun k e => Nat.le_trans e02.size (hr k e).1), hs.2.2.2.mv hg (fun e => by have := (hr _ e).1; omega)⟩)
    ⟨Below.refl _ _, rfl⟩
    (fun x a' W => ∃ g7, Fits 17 ((7, .pointer (some ⟨g7, 0, none⟩)) :: env4 w.heap.size l E f g5 g6 g1 g2) a' ∧ Blk W g7 (encDip x) 103)
    (fun x a' _ W W' row hs hg hr => let ⟨g7, h1, h2⟩ := hs; ⟨g7, h1, h2.mv hg (fun e => by obtain ⟨_, o, ho, hc⟩ := hr _ e; rw [h2] at ho; cases ho; cases hc)⟩)
    ?assign ?body ?done ?stop)
  case assign =>
    intro ln pre x W K hI hK
    have hf0 : Fits 17 ((11, .agg (encDip x).toArray) :: env4 w.heap.size l E f g5 g6 g1 g2) { tmps := (#[11].zip #[.agg (encDip x).toArray]).foldl (fun t (p, v) => t.setIfInBounds p v) a2.tmps, defers := [] } := by
      have := hfit2.put (dst := some 11) (v := .agg (encDip x).toArray) rfl
      have hfold : (#[11].zip #[Value.agg (encDip x).toArray]).foldl (fun t (p, v) => t.setIfInBounds p v) a2.tmps = a2.tmps.setIfInBounds 11 (.agg (encDip x).toArray) := by simp
      rw [hfold]
      exact ⟨this.size, rfl, this.get⟩
    refine regIn (G := G) (.inr ⟨ln, rfl⟩) hf0 (fun ρ' w' => ∃ g7, Has ρ' ((7, .pointer (some ⟨g7, 0, none⟩)) :: env4 w.heap.size l E f g5 g6 g1 g2) ∧ Blk w' g7 (encDip x) 103 ∧ W.grownBy w' none) rfl
      (M.run rfl (M.nw rfl fun g7 w7 b7 e7 l7 => M.run rfl (M.store rfl rfl b7 rfl rfl fun w8 b8 e8 => M.run rfl (M.end_ ⟨g7, ⟨rfl, rfl, rfl, rfl, trivial⟩, b8, gr_fresh e7 e8 l7⟩)))) ?_
    rintro ρ' a' w' hf' ⟨g7, hh, b7, e7⟩
    exact hK _ _ (KeepsFrom.of_grownBy e7 (fun j e => by cases e)) ((Below.refl _ _).grown e7 hI.1.size (fun k e => by cases e)) ⟨be_gr0 hI.1 e7, hI.2⟩ ⟨g7, hf'.weaken hh, b7⟩
  case body =>
    rintro ln pre x a' W hln - ⟨hB, hall⟩ ⟨g7, hf7, b7⟩ hlen
    have b5' : Blk W g5 [.int .i64 oil] 3 := b5.since hB
    have b6' : Blk W g6 [.bool false] 4 := b6.since hB
    refine wpIn_block (wpIn_seq (regIn (G := G) (.inr ⟨ln, rfl⟩) hf7 (fun ρ' w' => Has ρ' ((16, .bool !(within oil x.lo x.hi)) :: env4 w.heap.size l E f g5 g6 g1 g2) ∧ W.grownBy w' none) rfl
      (M.run rfl (M.ldA rfl rfl (b7.cells 1 rfl ⟨[], rfl⟩ : Cells _ _ [_, _]) (M.run rfl (M.ld rfl (b5'.cell rfl rfl) (M.run rfl (M.cl rfl (has_ok _ _ _ W) ?_)))))) ?_))
    · rintro e w8 ⟨rfl, e8⟩
      exact ⟨_, rfl, M.run rfl (M.end_ ⟨⟨rfl, rfl, rfl, rfl, trivial⟩, e8⟩)⟩
    rintro ρ8 a8 w8 hf8 ⟨hh8, e8⟩
    replace hf8 := hf8.weaken hh8
    refine wpIn_cond_split (hf8.ev rfl) (fun h => ?_) (fun h => wpIn_skip ?_)
    · have h' : within oil x.lo x.hi = false := by simpa using h
      refine wpIn_seq (regIn (G := G) (.inr ⟨ln, rfl⟩) hf8 (fun ρ' w' => Blk w' g6 [.bool false] 4 ∧ w8.grownBy w' (some g6)) rfl (M.run rfl (M.store rfl rfl (b6'.mv0 e8) rfl rfl fun w9 b9 e9 => M.run rfl (M.end_ ⟨b9, e9⟩))) ?_)
      rintro ρ9 a9 w9 hf9 ⟨b9, e9⟩
      refine wpIn_ret ⟨(KeepsFrom.of_grownBy e8 (fun j e => by cases e)).trans (KeepsFrom.of_grownBy e9 (fun j e => by cases e; exact hg6l)), rfl, ?_, ?_, b9⟩
      · rw [List.all_append]; simp [h']
      · have h8 : Below w.heap.size w w8 := be_gr0 ((gr_below e02).trans (hB.mono e02.size)) e8
        exact be_gr1 h8 e9 hg6
    · have h' : within oil x.lo x.hi = true := by simpa using h
      exact ⟨KeepsFrom.of_grownBy e8 (fun j e => by cases e), (Below.refl _ _).grown e8 hB.size (fun k e => by cases e), be_gr0 hB e8, by rw [List.all_append]; simp [h', hall]⟩
  case done =>
    rintro D ys W hD rfl ⟨hB, hall⟩ hK
    have b6' : Blk W g6 [.bool false] 4 := b6.since hB
    refine wpIn_seq (storeD (G := G) (v := .bool true) (.inl rfl) (a := { a2 with defers := _ }) (hfit2.ev (x := .tmp 6) rfl) rfl rfl rfl b6' (by simp [Value.cells]) (by intro c hc; simp [Value.cells] at hc; subst hc; rfl) (fun w3 b3 e3 => wpIn_ret ?_))
    have hB3 : Below w.heap.size w w3 := be_gr1 ((gr_below e02).trans (hB.mono e02.size)) e3 hg6
    have hK3 : w3.heap[D]? = some (.deferred (some [])) := (e3.block D (Array.getElem?_eq_some_iff.1 hK).1 (fun e => by injection e with e; omega)).trans hK
    refine ⟨by simp, .inl ⟨D, _, rfl, run_takeDeferred hK3, ?_⟩⟩
    rw [hfit2.defers]
    have b4 : Blk (w3.putObj D (.deferred none)) g6 [.bool true] 4 := (World.putObj_heap_other (by omega)).trans b3
    refine ⟨_, resultsR_run (G := G) (a := { a2 with defers := [] }) ⟨hfit2.size, rfl, hfit2.get⟩ (.cell rfl rfl rfl (b4.cell rfl rfl) .nil), by rw [hall]; rfl, gr_none (gr_put hB3 (Nat.le_trans e02.size hD) _)⟩
  case stop =>
    rintro D c pre W hD hpre ⟨rfl, hall, hB, b⟩ hK
    refine wpIn_ret ?_
    refine ⟨by simp, .inl ⟨D, _, rfl, run_takeDeferred hK, ?_⟩⟩
    rw [hfit2.defers]
    have b4 : Blk (W.putObj D (.deferred none)) g6 [.bool false] 4 := (World.putObj_heap_other (by omega)).trans b
    have hall' : ((selD l night).all fun d => within oil d.lo d.hi) = false := by
      obtain ⟨r, hr⟩ := hpre
      rw [← hr, List.all_append, hall]; rfl
    refine ⟨_, resultsR_run (G := G) (a := { a2 with defers := [] }) ⟨hfit2.size, rfl, hfit2.get⟩ (.cell rfl rfl rfl (b4.cell rfl rfl) .nil), by rw [hall']; rfl, gr_none (gr_put hB (Nat.le_trans e02.size hD) _)⟩
end Go.Proofs.Ytaimlmfncjbmjaa
end

section
/- Walk: levels (forwards). -/
set_option linter.unusedVariables false
namespace Lp
open Go Go.Vc Go.RowKit
theorem lv_set (f : Lev) {i : Nat} (h : i < 401) (b : Bool) : (lv f).take i ++ [.bool b] ++ (lv f).drop (i + 1) = lv (upd f i b) := by
  rw [over_set _ _ _ (by rw [lv_len]; exact h)]
  apply List.ext_getElem?
  intro j
  by_cases hj : j < 401
  · by_cases hij : i = j
    · subst hij
      rw [List.getElem?_set_self (by rw [lv_len]; exact h), lv_get _ h]; simp [upd]
    · rw [List.getElem?_set_ne hij, lv_get _ hj, lv_get _ hj]
      simp [upd, show ¬ j = i from fun e => hij e.symm]
  · rw [List.getElem?_eq_none (by rw [List.length_set, lv_len]; omega), List.getElem?_eq_none (by rw [lv_len]; omega)]
theorem lv_setL (f : Lev) {i : Nat} (h : i < 401) (b : Bool) : (lv f).set i (.bool b) = lv (upd f i b) := by
  rw [← over_set _ _ _ (by rw [lv_len]; exact h), lv_set f h]
theorem lv_ext {f g : Lev} (h : ∀ x, x < 401 → f x = g x) : lv f = lv g := by
  unfold lv
  apply List.map_congr_left
  intro i hi
  rw [h i (List.mem_range.1 hi)]
theorem lv_zero : lv (fun _ => false) = List.replicate 401 (.bool false) := by simp [lv, List.map_const']
theorem agrees_sel (l : List Dip) (i : Nat) (x : Int) : ((selD l (i : Int)).all fun d => within x d.lo d.hi) = agreesB l i x := by
  unfold selD agreesB
  rw [List.all_filter]
end Lp
namespace Go.Proofs.Ytaimlmfncjbmjaa
open Go Go.Vc Go.RowKit Lp

/-- an array variable of bools: its element's cell -/
theorem lev_cell {w : World} {g : Nat} {f : Lev} (h : Blk w g (lv f) 139) {i : Nat} (hi : i < 401) {a : Addr} (ha : a = (⟨g, 0, none⟩ : Addr).add (i * 1)) : w.cell? a = some (.bool (f i)) :=
  h.cell (by rw [ha, add_plain]) (by rw [Nat.zero_add, Nat.mul_one]; exact lv_get f hi)

theorem lv_fit (f g : Lev) : 0 + (Value.agg (lv f).toArray).cells.toList.length ≤ (lv g).length := by
  show 0 + (lv f).length ≤ _
  rw [lv_len, lv_len]; decide
theorem lv_one (f : Lev) : (Value.agg (lv f).toArray).cells.toList.all Value.oneCell' = true := by
  show (lv f).all _ = true
  rw [List.all_eq_true]
  intro x hx
  simp [lv] at hx
  obtain ⟨_, _, rfl⟩ := hx
  rfl
theorem lv_arr (f : Lev) : (lv f).toArray = ((List.range 401).map fun i => Value.bool (f i)).toArray := rfl
theorem zero_arr : ((Value.agg (Array.replicate 401 (Value.bool false))).cells.toList).toArray = ((List.range 401).map fun i => Value.bool ((fun _ : Nat => false) i)).toArray := congrArg List.toArray (by
  show List.replicate 401 (Value.bool false) = _
  exact lv_zero.symm)
section
variable {n : Nat} {Q : QT} {ρ : Env} {w : World} {all : Array Oper} {o : Oper} {l : List Oper} {k : List It}
theorem M.stLev {a : Addr} {g i : Nat} {f : Lev} {b : Bool} (he : evStore G.T ρ all o = some (a, [.bool b])) (ha : a = (⟨g, 0, none⟩ : Addr).add (i * 1)) (hi : i < 401) (hB : Blk w g (lv f) 139)
    (h : ∀ w', Blk w' g (lv (upd f i b)) 139 → w.grownBy w' (some g) → M G n (.ops all l :: k) Q ρ w') : M G n (.ops all (o :: l) :: k) Q ρ w := by
  refine M.store he (ha.trans (add_plain g 0 (i * 1))) hB (Nat.ble_eq_true_of_le (by rw [lv_len]; simp; omega)) rfl fun w' hB' e => h w' ?_ e
  rw [← lv_set f hi b]
  simpa using hB'
end

theorem levels1_go (xs : List Lev) (X : Option Addr) (x : Nat) (g10 g17 i : Nat) (v y : Int) (F : Nat → Prop) (w : World) (hv : v + 1 = ((i + 1 : Nat) : Int)) (h10 : Blk w g10 [.slice X xs.length x] 121) (h17 : Blk w g17 [.int .i64 v] 3) (hX : Sl dLev w F X x xs) (hi : i + 1 < xs.length) (hl : xs.length ≤ 6) (hy : 0 ≤ y ∧ y ≤ 400) :
    Calls Try.prog 106 #[.int .i64 y, .pointer (some ⟨g10, 0, none⟩), .pointer (some ⟨g17, 0, none⟩)] w fun e w' => e = .returned (.bool (xs[i + 1] y.toNat)) ∧ w.grownBy w' none := by
  refine calls (G := G) (args := [.int .i64 y, .pointer (some ⟨g10, 0, none⟩), .pointer (some ⟨g17, 0, none⟩)]) Try.func106 rfl rfl rfl ?_
  have hw : IntKind.i64.wrap (v + 1) = ((i + 1 : Nat) : Int) := by rw [hv]; exact w64 (by omega) (by omega)
  obtain ⟨hX1, _, cs, hk, hc⟩ := hX.at_ (i + 1) _ (List.getElem?_eq_getElem hi)
  have hk' : cs = lv xs[i + 1] := hk
  subst hk'
  refine M.run rfl (M.ld rfl (h10.cell rfl rfl) (M.run rfl (M.ld rfl (h17.cell rfl rfl) (M.run rfl ?_))))
  rw [hw]
  refine M.ix rfl (by omega) (by omega) hX1 (M.run rfl (M.ixA rfl (by omega) (by omega) (M.run rfl (M.ld rfl (hc.one y.toNat (lv_get _ (by omega)) (by rw [Nat.mul_one]; rfl)) (M.run rfl (M.retF rfl rfl ⟨rfl, gr_refl _ _⟩))))))

def levelsR (s : Store) (p : Plan) (l : List Dip) : List Lev := if levelsOk s p l then levels s p l else []
def fwdL (s : Store) (p : Plan) (l : List Dip) (i : Nat) : List Lev := (List.range i).map fun j => fwd s p l (j + 1)
theorem fwdL_len (s : Store) (p : Plan) (l : List Dip) (i : Nat) : (fwdL s p l i).length = i := by simp [fwdL]
theorem fwdL_succ (s : Store) (p : Plan) (l : List Dip) (i : Nat) : fwdL s p l (i + 1) = fwdL s p l i ++ [fwd s p l (i + 1)] := by simp [fwdL, List.range_succ]
theorem fwd_low {s : Store} {p : Plan} {l : List Dip} {m : Nat} : True := trivial
theorem levels_bad {s : Store} {p : Plan} {l : List Dip} {i : Nat} (hi : i < s.nights.length) (h : none_ (fwd s p l (i + 1)) = true) : levelsOk s p l = false := by
  unfold levelsOk
  rw [List.all_eq_false]
  exact ⟨i, List.mem_range.2 hi, by simp [h]⟩
theorem levels_good {s : Store} {p : Plan} {l : List Dip} (h : ∀ j, j < s.nights.length → none_ (fwd s p l (j + 1)) = false) : levelsOk s p l = true := by
  unfold levelsOk
  rw [List.all_eq_true]
  intro i hi
  simp [h i (List.mem_range.1 hi)]

set_option maxHeartbeats 4000000 in
theorem levels_go (s : Store) (p : Plan) (l : List Dip) (A : Option Addr) (c : Nat) (B : Option Addr) (b : Nat) (U : Option Addr) (d : Nat) (E : Option Addr) (f : Nat) (w : World) (hA : Rd dNight w A c s.nights) (hB : Rd dI w B b p.cans) (hD : Rd dI w U d p.wicks) (hE : Rd dDip w E f l)
    (hf : Fine s p) (hl : l.length ≤ 100) :
    Calls Try.prog 74 #[vStore s A c, vPlan p B b U d, .slice E l.length f] w fun e w' => ∃ X x, e = .returned (.tuple #[.slice X (levelsR s p l).length x, .bool (levelsOk s p l)]) ∧ Vc.Own dLev 139 w' w.heap.size no X x (levelsR s p l) ∧ w.grownBy w' none := by
  have hn6 := hf.ok.few
  have hst := hf.ok.start
  have hcap := hf.ok.cap
  refine calls (G := G) (args := [vStore s A c, vPlan p B b U d, .slice E l.length f]) Try.func74 rfl rfl rfl ?_
  refine M.run rfl (M.nw rfl fun g3 w1 b3 e1 l1 => M.run rfl (M.nw rfl fun g4 w2 b4 e2 l2 => M.run rfl (M.nw rfl fun g8 w3 b8 e3 l3 => M.run rfl ?_)))
  replace b8 : Blk w3 g8 (lv fun _ => false) 139 := by rw [lv_zero]; exact b8
  replace b3 := (b3.mv0 e2).mv0 e3
  replace b4 := b4.mv0 e3
  have e03 := gr_trans (gr_trans e1 e2) e3
  have h83 : g8 ≠ g3 := by have := (Blk.lt b3); have := l3; have h := b3; intro h'; subst h'; exact absurd (b3.ne b8 (by decide)) (by simp)
  have h84 : g8 ≠ g4 := by intro h'; subst h'; exact absurd (b4.ne b8 (by decide)) (by simp)
  refine M.ld rfl (b3.cell rfl rfl) (M.run rfl ?_)
  refine M.loop (σ := Nat) (fun k => [(2, .slice E l.length f), (3, .pointer (some ⟨g3, 0, none⟩)), (4, .pointer (some ⟨g4, 0, none⟩)), (8, .pointer (some ⟨g8, 0, none⟩)), (9, .int .i64 (s.lo + (k : Int)))])
    (fun k w' => s.lo + (k : Int) ≤ s.hi + 1 ∧ w3.grownBy w' (some g8) ∧ Blk w' g8 (lv (startN s k)) 139) (fun k => (s.hi - s.lo + 1).toNat - k) 0
    ⟨rfl, rfl, rfl, rfl, congrArg (fun z => some (Value.int .i64 z)) (by simp), trivial⟩ ⟨by simp; omega, gr_refl _ _, ?_⟩ ?_
  · have : lv (startN s 0) = lv fun _ => false := lv_ext fun x _ => by
      unfold startN
      rw [Bool.and_eq_false_iff]
      by_cases h : s.lo ≤ (x : Int)
      · right; simp; omega
      · left; simp; omega
    rw [this]; exact b8
  rintro k w4 ⟨hk, e34, b8k⟩
  have b3k := b3.mv1 e34 h83
  refine M.run rfl (M.ld rfl (b3k.cell rfl rfl) (M.run rfl (M.cond rfl (fun h => ?_) (fun h => ?_))))
  · have h' : s.lo + (k : Int) ≤ s.hi := of_decide_eq_true h
    refine M.run rfl (M.ixA rfl (by omega) (by omega) (M.run rfl (M.stLev rfl rfl (by omega) b8k fun w5 b8n e5 => M.run rfl (M.end_ ⟨k + 1, ⟨rfl, rfl, rfl, rfl, ?_, trivial⟩, ⟨by omega, gr_transR e34 e5, ?_⟩, by omega⟩))))
    · exact congrArg (fun z => some (Value.int .i64 z)) (by rw [w64 (by omega) (by omega)]; omega)
    · have : lv (startN s (k + 1)) = lv (upd (startN s k) (s.lo + (k : Int)).toNat true) := lv_ext fun x _ => startN_succ s k hst.1 x
      rw [this]; exact b8n
  have h' : s.lo + (k : Int) = s.hi + 1 := by have := of_decide_eq_false h; omega
  have b8s : Blk w4 g8 (lv (fwd s p l 0)) 139 := by
    have : lv (fwd s p l 0) = lv (startN s k) := lv_ext fun x _ => (startN_all s p l k h' x).symm
    rw [this]; exact b8k
  have b4k := b4.mv1 e34 h84
  have e04 : w.grownBy w4 none := gr_fresh e03 e34 (Nat.le_trans (Nat.le_trans e1.size e2.size) l3)
  refine M.run rfl (M.nw rfl fun g10 w5 b10 e5 l5 => M.run rfl ?_)
  refine M.ld rfl ((b3k.mv0 e5).cell rfl rfl) (M.run rfl ?_)
  have e05 := gr_trans e04 e5
  have hg8 := b8s.lt
  have hg10 := b10.lt
  refine M.loop (σ := Nat × Option Addr × Nat) (fun (i, X, x) => [(2, .slice E l.length f), (3, .pointer (some ⟨g3, 0, none⟩)), (4, .pointer (some ⟨g4, 0, none⟩)), (8, .pointer (some ⟨g8, 0, none⟩)), (10, .pointer (some ⟨g10, 0, none⟩)), (34, .int .i64 s.nights.length), (35, .int .i64 (i : Int))])
    (fun (i, X, x) w' => i ≤ s.nights.length ∧ w.grownBy w' none ∧ w5.heap.size ≤ w'.heap.size ∧ Blk w' g3 [.int .i64 s.cap, .int .i64 s.can, .int .i64 s.lo, .int .i64 s.hi, .slice A s.nights.length c] 39 ∧ Blk w' g4 [.slice B p.cans.length b, .slice U p.wicks.length d] 44 ∧
      Blk w' g8 (lv (fwd s p l i)) 139 ∧ Blk w' g10 [.slice X i x] 121 ∧ Vc.Own dLev 139 w' w5.heap.size no X x (fwdL s p l i) ∧ ∀ j, j < i → none_ (fwd s p l (j + 1)) = false)
    (fun (i, _) => s.nights.length - i) (0, none, 0) ⟨rfl, rfl, rfl, rfl, rfl, rfl, rfl, trivial⟩ ⟨Nat.zero_le _, e05, Nat.le_refl _, b3k.mv0 e5, b4k.mv0 e5, b8s.mv0 e5, b10, Vc.Own.nil _ _ _ _ _, fun j h => by omega⟩ ?_
  rintro ⟨i, X, x⟩ w6 ⟨hi, e06, hsz6, c3, c4, c8, c10, hX, hnn⟩
  refine M.run rfl (M.cond rfl (fun h => ?_) (fun h => ?_))
  · have hlt : i < s.nights.length := by have := of_decide_eq_true h; omega
    refine M.run rfl (M.nw rfl fun g12 w7 b12 e7 l7 => M.run rfl ?_)
    replace b12 : Blk w7 g12 (lv fun _ => false) 139 := by rw [lv_zero]; exact b12
    have e07 := gr_trans e06 e7
    have n3 : g12 ≠ g3 := by have := c3.lt; omega
    have n4 : g12 ≠ g4 := by have := c4.lt; omega
    have n8 : g12 ≠ g8 := by have := c8.lt; omega
    have n10 : g12 ≠ g10 := by have := c10.lt; omega
    have hg12 : w.heap.size ≤ g12 := Nat.le_trans e06.size l7
    replace c3 := c3.mv0 e7
    replace c4 := c4.mv0 e7
    replace c8 := c8.mv0 e7
    replace c10 := c10.mv0 e7
    have hXb : ∀ k, blkOf X = some k → k ≠ g12 := fun k hk => by have := (hX.blkGe k hk).2; omega
    replace hX := hX.mv0 e7
    refine M.ldA rfl (lv_len _) c8.cellsAll (M.run rfl ?_)
    refine M.loop (σ := Nat) (fun m => [(2, .slice E l.length f), (3, .pointer (some ⟨g3, 0, none⟩)), (4, .pointer (some ⟨g4, 0, none⟩)), (8, .pointer (some ⟨g8, 0, none⟩)), (10, .pointer (some ⟨g10, 0, none⟩)), (34, .int .i64 s.nights.length), (35, .int .i64 (i : Int)), (11, .int .i64 (i : Int)), (12, .pointer (some ⟨g12, 0, none⟩)), (38, .agg (lv (fwd s p l i)).toArray), (39, .int .i64 (m : Int))])
      (fun m w' => m ≤ 401 ∧ w7.grownBy w' (some g12) ∧ Blk w' g12 (lv (step0 s p l i (fwd s p l i) m)) 139) (fun m => 401 - m) 0 ⟨rfl, rfl, rfl, rfl, rfl, rfl, rfl, rfl, rfl, rfl, rfl, trivial⟩ ⟨Nat.zero_le _, gr_refl _ _, ?_⟩ ?_
    · have : lv (step0 s p l i (fwd s p l i) 0) = lv fun _ => false := lv_ext fun x _ => rfl
      rw [this]; exact b12
    rintro m w8 ⟨hm, e8, b12m⟩
    refine M.run rfl (M.cond rfl (fun h2 => ?_) (fun h2 => ?_))
    · have hm' : m < 401 := by have := of_decide_eq_true h2; omega
      refine M.run rfl (M.ys (YS.iv (v := .bool (fwd s p l i m)) rfl (by omega) (by omega) (by simp [lv_get _ hm'])) (M.run rfl (M.cond rfl (fun h3 => ?_) (fun h3 => ?_))))
      · have h3' : fwd s p l i m = false := by simpa using h3
        refine M.run rfl (M.end_ ⟨m + 1, ⟨rfl, rfl, rfl, rfl, rfl, rfl, rfl, rfl, rfl, rfl, ?_, trivial⟩, ⟨by omega, e8, ?_⟩, by omega⟩)
        · exact congrArg (fun z => some (Value.int .i64 z)) (w64 (by omega) (by omega))
        · rw [step0_skip h3']; exact b12m
      have h3' : fwd s p l i m = true := by simpa using h3
      have e08 : w.grownBy w8 none := gr_fresh e07 e8 hg12
      refine M.run rfl (M.ldA rfl rfl (c3.mv1 e8 n3).cellsAll (M.run rfl (M.ldA rfl rfl (c4.mv1 e8 n4).cellsAll (M.run rfl
        (M.cl rfl (night_go s p i m A c B b U d w8 (hA.mv e08) (hB.mv e08) (hD.mv e08) hf hlt ⟨by omega, by omega⟩) ?_)))))
      rintro e w9 ⟨Z, z, rfl, hZ, e9⟩
      refine ⟨_, rfl, M.run rfl ?_⟩
      have hg12w : g12 < w8.heap.size := b12m.lt
      refine M.loop (σ := Nat) (fun q => [(2, .slice E l.length f), (3, .pointer (some ⟨g3, 0, none⟩)), (4, .pointer (some ⟨g4, 0, none⟩)), (8, .pointer (some ⟨g8, 0, none⟩)), (10, .pointer (some ⟨g10, 0, none⟩)), (34, .int .i64 s.nights.length), (35, .int .i64 (i : Int)), (11, .int .i64 (i : Int)), (12, .pointer (some ⟨g12, 0, none⟩)), (38, .agg (lv (fwd s p l i)).toArray), (39, .int .i64 (m : Int)),
          (49, .slice Z (nightL s p i (m : Int)).length z), (50, .int .i64 (nightL s p i (m : Int)).length), (51, .int .i64 (q : Int))])
        (fun q w' => q ≤ (nightL s p i (m : Int)).length ∧ w9.grownBy w' (some g12) ∧ Blk w' g12 (lv (enter l i (step0 s p l i (fwd s p l i) m) ((nightL s p i (m : Int)).take q))) 139) (fun q => (nightL s p i (m : Int)).length - q) 0
        ⟨rfl, rfl, rfl, rfl, rfl, rfl, rfl, rfl, rfl, rfl, rfl, rfl, rfl, rfl, trivial⟩ ⟨Nat.zero_le _, gr_refl _ _, by rw [List.take_zero, enter_nil]; exact b12m.mv0 e9⟩ ?_
      rintro q w10 ⟨hq, e10, b12q⟩
      have e810 : w8.grownBy w10 (some g12) := gr_transR (gr_weak e9) e10
      have e710 : w7.grownBy w10 (some g12) := gr_transR e8 e810
      have e010 : w.grownBy w10 none := gr_fresh e07 e710 hg12
      refine M.run rfl (M.cond rfl (fun h4 => ?_) (fun h4 => ?_))
      · have hq' : q < (nightL s p i (m : Int)).length := by have := of_decide_eq_true h4; omega
        obtain ⟨hZ1, _, cs, hk, hc⟩ := (hZ.sl2 (by decide) e10 (fun g hg => by cases hg; exact hg12w)).at_ q _ (List.getElem?_eq_getElem hq')
        have hk' : cs = [.int .i64 (nightL s p i (m : Int))[q]] := hk
        subst hk'
        have hbd := night_bd hf hlt (show (0 : Int) ≤ (m : Int) by omega) _ (List.getElem_mem hq')
        generalize hy : (nightL s p i (m : Int))[q] = y at hc hbd
        have htake : (nightL s p i (m : Int)).take (q + 1) = (nightL s p i (m : Int)).take q ++ [y] := by rw [List.take_add_one, List.getElem?_eq_getElem hq', hy]; rfl
        have hnext : some (Value.int .i64 (IntKind.i64.wrap ((q : Int) + 1))) = some (Value.int .i64 ((q + 1 : Nat) : Int)) :=
          congrArg (fun z => some (Value.int .i64 z)) (w64 (by omega) (by have : (nightL s p i (m : Int)).length ≤ 11 := by { simp [nightL, nightN]; have := hf.ok.nt hlt; omega }; omega))
        have hfin : lv (enter l i (step0 s p l i (fwd s p l i) m) ((nightL s p i (m : Int)).take (q + 1))) =
            lv (upd (enter l i (step0 s p l i (fwd s p l i) m) ((nightL s p i (m : Int)).take q)) y.toNat (enter l i (step0 s p l i (fwd s p l i) m) ((nightL s p i (m : Int)).take q) y.toNat || agreesB l i y)) :=
          lv_ext fun x _ => by rw [htake]; exact enter_snoc l i _ _ y hbd.1 x
        refine M.run rfl (M.ix rfl (by omega) (by omega) hZ1 (M.run rfl (M.ld rfl (hc.one 0 rfl rfl) (M.run rfl (M.ixA rfl (by omega) (by omega) (M.run rfl (M.ld rfl (lev_cell b12q (by omega) rfl)
          (M.at_ [59] rfl (M.case 59 rfl (fun h5 => ?_) (fun h5 => ?_))))))))))
        · refine M.run rfl (M.ixA rfl (by omega) (by omega) (M.run rfl (M.stLev rfl rfl (by omega) b12q fun w11 b12n e11 => M.run rfl (M.end_ ⟨q + 1, ⟨rfl, rfl, rfl, rfl, rfl, rfl, rfl, rfl, rfl, rfl, rfl, rfl, rfl, hnext, trivial⟩, ⟨hq', gr_transR e10 e11, ?_⟩, by omega⟩))))
          rw [hfin, h5]; exact b12n
        · refine M.run rfl (M.cl rfl (agrees_go l i y E f w10 hl (hE.mv e010)) ?_)
          rintro e w11 ⟨rfl, e11⟩
          refine ⟨_, rfl, M.run rfl (M.ixA rfl (by omega) (by omega) (M.run rfl (M.stLev rfl rfl (by omega) (b12q.mv0 e11) fun w12 b12n e12 => M.run rfl (M.end_ ⟨q + 1, ⟨rfl, rfl, rfl, rfl, rfl, rfl, rfl, rfl, rfl, rfl, rfl, rfl, rfl, hnext, trivial⟩, ⟨hq', gr_transR (gr_transR e10 (gr_weak e11)) e12, ?_⟩, by omega⟩))))⟩
          rw [hfin, h5, Bool.false_or, ← agrees_sel]; exact b12n
      · have hq' : q = (nightL s p i (m : Int)).length := by have := of_decide_eq_false h4; omega
        rw [hq', List.take_length, ← step0_enter h3'] at b12q
        refine M.run rfl (M.end_ ⟨m + 1, ⟨rfl, rfl, rfl, rfl, rfl, rfl, rfl, rfl, rfl, rfl, ?_, trivial⟩, ⟨by omega, e710, b12q⟩, by omega⟩)
        exact congrArg (fun z => some (Value.int .i64 z)) (w64 (by omega) (by omega))
    · have hm' : m = 401 := by have := of_decide_eq_false h2; omega
      subst hm'
      have b12f : Blk w8 g12 (lv (fwd s p l (i + 1))) 139 := b12m
      have e08 : w.grownBy w8 none := gr_fresh e07 e8 hg12
      refine M.run rfl (M.ldA rfl (lv_len _) b12f.cellsAll (M.run rfl ?_))
      refine (M.ys (YS.eqBA (m := 401) (f := fwd s p l (i + 1)) (g := fun _ => false) rfl (lv_arr _) zero_arr Try.eqGuardType139 Try.underlying139 rfl) (M.run rfl (M.cond rfl (fun h3 => ?_) (fun h3 => ?_))))
      · have h3' : none_ (fwd s p l (i + 1)) = true := by
          rw [← h3]; unfold none_
          congr 1; funext x; cases fwd s p l (i + 1) x <;> rfl
        have hbad := levels_bad hlt h3'
        have hR : levelsR s p l = [] := by unfold levelsR; rw [hbad]; rfl
        refine M.run rfl (M.retF rfl rfl ⟨none, 0, ?_, ?_, e08⟩)
        · rw [hR, hbad]; rfl
        · rw [hR]; exact Vc.Own.nil _ _ _ _ _
      have h3' : none_ (fwd s p l (i + 1)) = false := by
        rw [← h3]; unfold none_
        congr 1; funext x; cases fwd s p l (i + 1) x <;> rfl
      replace c3 := c3.mv1 e8 n3
      replace c4 := c4.mv1 e8 n4
      replace c8 := c8.mv1 e8 n8
      replace c10 := c10.mv1 e8 n10
      replace hX : Vc.Own dLev 139 w8 w5.heap.size no X x (fwdL s p l i) := by
        refine hX.mv1 e8 (fun hA => ?_) (fun h => h)
        exact hXb g12 (by rw [hA]; rfl) rfl
      have hge12 : w7.heap.size ≤ w8.heap.size := e8.size
      have h5l : w5.heap.size ≤ w8.heap.size := Nat.le_trans (Nat.le_trans hsz6 e7.size) e8.size
      have n10' : g10 ≠ g12 := fun h => n10 h.symm
      have hne10 : blkOf X ≠ some g10 := fun h => by have := (hX.blkGe g10 h).1; omega
      have hne8 : blkOf X ≠ some g8 := fun h => by have h1 := (hX.blkGe g8 h).1; have := e5.size; omega
      refine M.run rfl (M.draw (fun w w' => w.grownBy w' (blkOf X)) (fun w w' => ∀ o, w.heap[g12]? = some o → w'.heap[g12]? = some o) [5, 6] [4] [] (fun _ _ _ h => h) (fun w => gr_refl w _) (fun a b c h k => gr_transR h k)
        (fun a b h o ho => (h.block g12 (Array.getElem?_eq_some_iff.1 ho).1 (fun he => hXb g12 he.symm rfl)).trans ho) (fun a b c h k o ho => k o (h o ho)) (by kernel_rfl) ?_)
      have ed := gr_drewN w8 1
      refine D.ld 0 rfl rfl rfl rfl (fun w' hw => (c10.mv0 ed).mv hw hne10 |>.cell rfl rfl) (D.ldA 1 rfl rfl rfl rfl (lv_len _) (fun w' hw => ((b12f.mv0 ed).mv hw (fun he => hXb g12 he rfl)).cellsAll) (D.ldAX 4 rfl rfl rfl rfl (lv_len _) (fun w' hw => Blk.cellsAll (hw _ (b12f.mv0 ed))) ?_))
      refine D.one 2 rfl rfl (M.bs1 rfl (lv_len _) (by decide) (by decide) List.length_replicate fun ga wa ba ea la => M.run rfl (M.end_ ⟨.inr (gr_weak ea), ?_⟩))
      have hXa := (hX.mv0 ed).mv0 ea
      have h5a : w5.heap.size ≤ wa.heap.size := Nat.le_trans h5l (Nat.le_trans ed.size ea.size)
      have hlen1 : (fwdL s p l i ++ [fwd s p l (i + 1)]).length = i + 1 := by simp [fwdL_len]
      refine D.one 3 rfl rfl (M.app (d := dLev) rfl (fwdL_len s p l i).symm hXa rfl (by decide) Array.size_replicate (ys := [fwd s p l (i + 1)]) rfl rfl (src_one ba rfl) h5a (by rw [fwdL_len]; simp; omega) (by decide) fun X' x' wb hXb2 eb hatb => M.run rfl (M.end_ ⟨.inr eb, ?_⟩))
      have eA : w8.grownBy wa none := gr_trans ed ea
      have d10 := (c10.mv0 eA).mv eb hne10
      have d8 := (c8.mv0 eA).mv eb hne8
      have d12 : Blk wb g12 (lv (fwd s p l (i + 1))) 139 := (b12f.mv0 eA).mv eb (fun he => hXb g12 he rfl)
      refine D.one 5 rfl rfl (M.storeA rfl rfl rfl d10 (Nat.le_refl 1) rfl fun wc bc ec => M.run rfl (M.end_ ⟨.inl ⟨rfl, fun o ho => (ec.block g12 (Array.getElem?_eq_some_iff.1 ho).1 (fun he => by injection he with he; exact n10 he)).trans ho⟩, ?_⟩))
      have d8c := d8.mv1 ec (by have := c10.ne (b12f) (by decide); have h2 := c10.ne c8 (by decide); exact h2)
      refine D.one 6 rfl rfl (M.storeA rfl (lv_len _) rfl d8c (lv_fit _ _) (lv_one _) fun wd bd ed2 => M.run rfl (M.end_ ⟨.inl ⟨rfl, fun o ho => (ed2.block g12 (Array.getElem?_eq_some_iff.1 ho).1 (fun he => by injection he with he; exact n8 he)).trans ho⟩, ?_⟩))
      have d10' : Blk wd g10 [.slice X' (i + 1) x'] 121 := by
        rw [← hlen1]
        exact (blk_all rfl bc).mv1 ed2 (fun he => absurd (c10.ne c8 (by decide)) (by rw [he]; simp))
      have d8' : Blk wd g8 (lv (fwd s p l (i + 1))) 139 := blk_all (by show (lv _).length = (lv _).length; rw [lv_len, lv_len]) bd
      have n103 := c10.ne c3 (by decide)
      have n104 := c10.ne c4 (by decide)
      have n83 := c8.ne c3 (by decide)
      have n84 := c8.ne c4 (by decide)
      have hX3 : ∀ g, g < w5.heap.size → blkOf X ≠ some g := fun g hg h => by have := (hX.blkGe g h).1; omega
      have d3 := (((c3.mv0 eA).mv eb (hX3 g3 (Nat.lt_of_lt_of_le b3.lt (Nat.le_trans e34.size e5.size)))).mv1 ec n103).mv1 ed2 n83
      have d4 := (((c4.mv0 eA).mv eb (hX3 g4 (Nat.lt_of_lt_of_le b4.lt (Nat.le_trans e34.size e5.size)))).mv1 ec n104).mv1 ed2 n84
      have hXd : Vc.Own dLev 139 wd w5.heap.size no X' x' (fwdL s p l (i + 1)) := by
        rw [fwdL_succ]
        exact (hXb2.mvOld ec hg10).mvOld ed2 (Nat.lt_of_lt_of_le hg8 e5.size)
      have e0a := gr_trans e08 eA
      have e0b : w.grownBy wb none := by
        refine hXa.gr e0a eb ?_
        exact e05.size
      have e0d : w.grownBy wd none := gr_fresh (gr_fresh e0b ec (Nat.le_trans e04.size l5)) ed2 (Nat.le_trans (Nat.le_trans e1.size e2.size) l3)
      have hszd : w5.heap.size ≤ wd.heap.size := Nat.le_trans h5a (Nat.le_trans eb.size (Nat.le_trans ec.size ed2.size))
      refine D.done_ rfl (M.run rfl (M.end_ ⟨(i + 1, X', x'), ⟨rfl, rfl, rfl, rfl, rfl, rfl, ?_, trivial⟩, ⟨by omega, e0d, hszd, d3, d4, d8', d10', hXd, fun j hj => ?_⟩, ?_⟩))
      · exact congrArg (fun z => some (Value.int .i64 z)) (w64 (by omega) (by omega))
      · by_cases hji : j = i
        · subst hji; exact h3'
        · exact hnn j (by omega)
      · show s.nights.length - (i + 1) < s.nights.length - i
        omega
  · have hin : i = s.nights.length := by have := of_decide_eq_false h; omega
    subst hin
    have hpos := hf.ok.some_
    have hok := levels_good hnn
    have hR : levelsR s p l = levels s p l := by unfold levelsR; rw [hok]; rfl
    have hlenR : (levels s p l).length = s.nights.length := by simp [levels]
    refine M.run rfl (M.ld rfl (c10.cell rfl rfl) (M.run rfl (M.nw rfl fun g17 w7 b17 e7 l7 => M.run rfl ?_)))
    refine M.store rfl rfl b17 rfl rfl fun w8 b17' e8 => M.run rfl ?_
    have e68 : w6.grownBy w8 none := gr_fresh e7 e8 l7
    have e08 := gr_trans e06 e68
    have hv0 : IntKind.i64.wrap ((s.nights.length : Int) - 2) = ((s.nights.length - 1 : Nat) : Int) - 1 := by rw [w64 (by omega) (by omega)]; omega
    refine M.loop (σ := Nat × Nat) (fun (k, g17) => [(2, .slice E l.length f), (3, .pointer (some ⟨g3, 0, none⟩)), (4, .pointer (some ⟨g4, 0, none⟩)), (10, .pointer (some ⟨g10, 0, none⟩)), (17, .pointer (some ⟨g17, 0, none⟩))])
      (fun (k, g17) w' => k + 1 ≤ s.nights.length ∧ w.grownBy w' none ∧ w5.heap.size ≤ w'.heap.size ∧ Blk w' g3 [.int .i64 s.cap, .int .i64 s.can, .int .i64 s.lo, .int .i64 s.hi, .slice A s.nights.length c] 39 ∧ Blk w' g4 [.slice B p.cans.length b, .slice U p.wicks.length d] 44 ∧
        Blk w' g10 [.slice X s.nights.length x] 121 ∧ Blk w' g17 [.int .i64 ((k : Int) - 1)] 3 ∧ w.heap.size ≤ g17 ∧ Vc.Own dLev 139 w' w5.heap.size no X x (partL s p l s.nights.length k))
      (fun (k, _) => k) (s.nights.length - 1, g17) ⟨rfl, rfl, rfl, rfl, rfl, trivial⟩ ⟨by omega, e08, Nat.le_trans hsz6 e68.size, c3.mv0 e68, c4.mv0 e68, c10.mv0 e68, ?_, Nat.le_trans e06.size l7, ?_⟩ ?_
    · rw [← hv0]; exact b17'
    · rw [partL_start s p l _ hpos]; exact hX.mv0 e68
    rintro ⟨k, g17⟩ w9 ⟨hk, e09, hsz9, k3, k4, k10, k17, hg17, hXk⟩
    refine M.run rfl (M.ld rfl (k17.cell rfl rfl) (M.run rfl (M.cond rfl (fun h2 => ?_) (fun h2 => ?_))))
    · have hk1 : 1 ≤ k := by have := of_decide_eq_true h2; omega
      obtain ⟨j, rfl⟩ : ∃ j, k = j + 1 := ⟨k - 1, by omega⟩
      have hvj : ((j + 1 : Nat) : Int) - 1 = (j : Int) := by omega
      rw [hvj] at k17
      obtain ⟨gx, cur, hXe, hgx, bx, hcl, hcx, hseg, hset⟩ := hXk.at_flat (partL_old s p l _ j (by omega))
      subst hXe
      have hvw : (((j + 1 : Nat) : Int) - 1) = (j : Int) := by omega
      refine M.run rfl (M.ld rfl (k10.cell rfl rfl) (M.run rfl (M.ld rfl (k17.cell rfl rfl) (M.run rfl (M.ix rfl (by omega) (by omega) rfl (M.run rfl (M.ldA rfl (lv_len _) hcx (M.run rfl ?_))))))))
      refine M.loop (σ := Nat) (fun m => [(2, .slice E l.length f), (3, .pointer (some ⟨g3, 0, none⟩)), (4, .pointer (some ⟨g4, 0, none⟩)), (10, .pointer (some ⟨g10, 0, none⟩)), (17, .pointer (some ⟨g17, 0, none⟩)), (87, .agg (lv (fwd s p l (j + 1))).toArray), (88, .int .i64 (m : Int))])
        (fun m w' => m ≤ 401 ∧ w9.grownBy w' (some gx) ∧ Vc.Own dLev 139 w' w5.heap.size no (some ⟨gx, 0, none⟩) x (partIn s p l s.nights.length j m)) (fun m => 401 - m) 0 ⟨rfl, rfl, rfl, rfl, rfl, rfl, rfl, trivial⟩ ⟨Nat.zero_le _, gr_refl _ _, ?_⟩ ?_
      · rw [partIn_zero s p l _ j (by omega)]; exact hXk
      rintro m w10 ⟨hm, e10, hXm⟩
      have hjn : j + 1 < s.nights.length := by omega
      have e010 : w.grownBy w10 none := gr_fresh e09 e10 (Nat.le_trans e05.size hgx)
      have x3 : gx ≠ g3 := by have := Nat.lt_of_lt_of_le b3.lt (Nat.le_trans e34.size e5.size); omega
      have x4 : gx ≠ g4 := by have := Nat.lt_of_lt_of_le b4.lt (Nat.le_trans e34.size e5.size); omega
      have x10 : gx ≠ g10 := by omega
      have x17 : gx ≠ g17 := bx.ne k17 (by decide)
      have m3 := k3.mv1 e10 x3
      have m4 := k4.mv1 e10 x4
      have m10 := k10.mv1 e10 x10
      have m17 := k17.mv1 e10 x17
      have hsz10 : w5.heap.size ≤ w10.heap.size := Nat.le_trans hsz9 e10.size
      refine M.run rfl (M.cond rfl (fun h3 => ?_) (fun h3 => ?_))
      · have hm' : m < 401 := by have := of_decide_eq_true h3; omega
        have hnext : some (Value.int .i64 (IntKind.i64.wrap ((m : Int) + 1))) = some (Value.int .i64 ((m + 1 : Nat) : Int)) := congrArg (fun z => some (Value.int .i64 z)) (w64 (by omega) (by omega))
        -- the store
        have hfin : ∀ (bb : Bool) (w11 : World), bb = onB s p j (levelAt s p l s.nights.length (j + 1)) (fwd s p l (j + 1)) m → w10.grownBy w11 none →
            ∃ cur', Blk w11 gx cur' 139 ∧ (j + 1) * 401 ≤ cur'.length ∧ ∀ w12, Blk w12 gx (cur'.take (0 + j * 401 + m * 1) ++ [.bool bb] ++ cur'.drop (0 + j * 401 + m * 1 + 1)) 139 → w11.grownBy w12 (some gx) →
              w9.grownBy w12 (some gx) ∧ Vc.Own dLev 139 w12 w5.heap.size no (some ⟨gx, 0, none⟩) x (partIn s p l s.nights.length j (m + 1)) := by
          intro bb w11 hbb e11
          obtain ⟨g', cur', hg', _, b', hcl', _, _, hset'⟩ := (hXm.mv0 e11).at_flat (partIn_self s p l _ j m (by omega))
          cases hg'
          refine ⟨cur', b', hcl', fun w12 b12 e12 => ⟨gr_transR (gr_transR e10 (gr_weak e11)) e12, ?_⟩⟩
          rw [partIn_succ, ← hbb]
          refine hset' m (.bool bb) _ w12 hm' (lv_setL _ hm' bb).symm ?_
          rw [over_set _ _ _ (by omega)] at b12
          rw [show j * 401 + m = 0 + j * 401 + m * 1 by omega]
          exact b12
        refine M.run rfl (M.ys (YS.iv (v := .bool (fwd s p l (j + 1) m)) rfl (by omega) (by omega) (by simp [lv_get _ hm'])) (M.run rfl (M.drawG [16] (by kernel_rfl) fun w11 e11 => ?_)))
        have e1011 := e11
        refine D.at_ [96] rfl (D.case 96 rfl (fun h4 => ?_) (fun h4 => ?_))
        · refine D.ld 0 rfl rfl rfl rfl (fun w' hw => ((m10.mv0 e11).mv0 hw).cell rfl rfl) (D.ld 1 rfl rfl rfl rfl (fun w' hw => ((m17.mv0 e11).mv0 hw).cell rfl rfl) (D.ldA 5 rfl rfl rfl rfl rfl (fun w' hw => ((m3.mv0 e11).mv0 hw).cellsAll)
            (D.ldA 6 rfl rfl rfl rfl rfl (fun w' hw => ((m4.mv0 e11).mv0 hw).cellsAll) (D.ld 7 rfl rfl rfl rfl (fun w' hw => ((m17.mv0 e11).mv0 hw).cell rfl rfl) (D.run rfl (D.ys 14 rfl rfl rfl (YS.ix rfl (by omega) (by omega) rfl) ?_))))))
          have hwj : IntKind.i64.wrap ((j : Int) + 1) = ((j + 1 : Nat) : Int) := w64 (by omega) (by omega)
          have e011 := gr_trans e010 e11
          have hc := night_go s p (j + 1) (m : Int) A c B b U d w11 (hA.mv e011) (hB.mv e011) (hD.mv e011) hf hjn ⟨by omega, by omega⟩
          rw [← hwj] at hc
          refine D.one 10 rfl rfl (M.cl rfl hc ?_)
          rintro e w12 ⟨Z, z, rfl, hZ, e12⟩
          refine ⟨_, rfl, M.run rfl (M.end_ ⟨.inr e12, D.run rfl ?_⟩)⟩
          have e1012 := gr_trans e11 e12
          have hcf := containsFunc_int w12 Z z (nightL s p (j + 1) (m : Int)) 106 rfl #[] #[.pointer (some ⟨g10, 0, none⟩), .pointer (some ⟨g17, 0, none⟩)] (fun y => levelAt s p l s.nights.length (j + 1) y.toNat) (hZ.rd (by decide)) (fun y hy w' hb => ?_)
          · refine D.one 12 rfl rfl (M.cl rfl hcf ?_)
            rintro e w13 ⟨rfl, e13⟩
            refine ⟨_, rfl, M.run rfl (M.end_ ⟨.inr e13, D.run rfl (D.ys 15 rfl rfl rfl (YS.ixA rfl (by omega) (by omega)) ?_)⟩)⟩
            have e1013 := gr_trans e1012 e13
            obtain ⟨cur', b', hcl', hk'⟩ := hfin _ w13 (by unfold onB; rw [h4]) e1013
            refine D.one 16 rfl rfl (M.store rfl (by rw [show adOf (some ⟨gx, 0, none⟩) = ⟨gx, 0, none⟩ from rfl, add_plain, add_plain]) b' (Nat.ble_eq_true_of_le (by show 0 + j * 401 + m * 1 + 1 ≤ _; omega)) rfl fun w14 b14 e14 => M.run rfl (M.end_ ⟨.inl ⟨rfl, trivial⟩, ?_⟩))
            obtain ⟨r1, r2⟩ := hk' w14 b14 e14
            exact D.done_ rfl (M.run rfl (M.end_ ⟨m + 1, ⟨rfl, rfl, rfl, rfl, rfl, rfl, hnext, trivial⟩, ⟨by omega, r1, r2⟩, by omega⟩))
          · have hbd := night_bd hf hjn (show (0 : Int) ≤ (m : Int) by omega) y hy
            have hBw : Below w10.heap.size w10 w' := (gr_below e1012).trans (hb.mono e1012.size)
            have hlen := partIn_len s p l s.nights.length j m
            have hsl : Sl dLev w' (fun b => (no b ∨ w5.heap.size ≤ b) ∧ b < w10.heap.size) (some ⟨gx, 0, none⟩) x (partIn s p l s.nights.length j m) := ((hXm.sl).bound (by decide)).move (fun b hb2 => hBw.block b hb2.2)
            have := levels1_go (partIn s p l s.nights.length j m) (some ⟨gx, 0, none⟩) x g10 g17 j (j : Int) y _ w' rfl (by rw [hlen]; exact m10.since hBw) (m17.since hBw) hsl (by rw [hlen]; exact hjn) (by rw [hlen]; exact hn6) hbd
            have hget : (partIn s p l s.nights.length j m)[j + 1]'(by rw [hlen]; exact hjn) = levelAt s p l s.nights.length (j + 1) := by
              have h1 := partIn_next s p l s.nights.length j m hjn
              rw [List.getElem?_eq_getElem (by rw [hlen]; exact hjn)] at h1
              injection h1
            rw [hget] at this
            exact this
        · refine D.run rfl (D.ld 0 rfl rfl rfl rfl (fun w' hw => ((m10.mv0 e11).mv0 hw).cell rfl rfl) (D.ld 1 rfl rfl rfl rfl (fun w' hw => ((m17.mv0 e11).mv0 hw).cell rfl rfl) (D.run rfl (D.ys 14 rfl rfl rfl (YS.ix rfl (by omega) (by omega) rfl) (D.run rfl (D.ys 15 rfl rfl rfl (YS.ixA rfl (by omega) (by omega)) ?_))))))
          obtain ⟨cur', b', hcl', hk'⟩ := hfin false w11 (by unfold onB; rw [h4]; rfl) e11
          refine D.one 16 rfl rfl (M.store rfl (by rw [show adOf (some ⟨gx, 0, none⟩) = ⟨gx, 0, none⟩ from rfl, add_plain, add_plain]) b' (Nat.ble_eq_true_of_le (by show 0 + j * 401 + m * 1 + 1 ≤ _; omega)) rfl fun w14 b14 e14 => M.run rfl (M.end_ ⟨.inl ⟨rfl, trivial⟩, ?_⟩))
          obtain ⟨r1, r2⟩ := hk' w14 b14 e14
          exact D.done_ rfl (M.run rfl (M.end_ ⟨m + 1, ⟨rfl, rfl, rfl, rfl, rfl, rfl, hnext, trivial⟩, ⟨by omega, r1, r2⟩, by omega⟩))
      · have hm' : m = 401 := by have := of_decide_eq_false h3; omega
        subst hm'
        have hXn : Vc.Own dLev 139 w10 w5.heap.size no (some ⟨gx, 0, none⟩) x (partL s p l s.nights.length j) := hXm.congr (partIn_all lv (fun f g h => lv_ext h) s p l _ j hjn)
        refine M.run rfl (M.ld rfl (m17.cell rfl rfl) (M.run rfl (M.nw rfl fun g18 w11 b18 e11 l11 => M.run rfl (M.store rfl rfl b18 rfl rfl fun w12 b12 e12 => M.run rfl (M.ld rfl (b12.cell rfl rfl) (M.run rfl
          (M.store rfl rfl b12 rfl rfl fun w13 b13 e13 => M.run rfl (M.end_ ⟨(j, g18), ⟨rfl, rfl, rfl, rfl, rfl, trivial⟩, ⟨by omega, ?_, ?_, ?_, ?_, ?_, ?_, ?_, ?_⟩, by show j < j + 1; omega⟩))))))))
        all_goals have e1013 : w10.grownBy w13 none := gr_fresh (gr_fresh e11 e12 l11) e13 l11
        · exact gr_trans e010 e1013
        · exact Nat.le_trans hsz10 e1013.size
        · exact m3.mv0 e1013
        · exact m4.mv0 e1013
        · exact m10.mv0 e1013
        · have hw1 : IntKind.i64.wrap ((j : Int) - 1) = (j : Int) - 1 := w64 (by omega) (by omega)
          rw [← hw1]; exact b13
        · exact Nat.le_trans e010.size l11
        · exact hXn.mv0 e1013
    · have hk0 : k = 0 := by have := of_decide_eq_false h2; omega
      subst hk0
      refine M.run rfl (M.ld rfl (k10.cell rfl rfl) (M.run rfl (M.retF rfl rfl ⟨X, x, ?_, ?_, e09⟩)))
      · rw [hR, hok, hlenR]; rfl
      · rw [hR, ← partL_all]; exact hXk.weaken e05.size (fun _ h => h)
end Go.Proofs.Ytaimlmfncjbmjaa
end
