/- Part 1 of the proof: the walks and plain laws that the row needs (merged from several texts: YteeikpmoboehdaaVC, YteeikpmoboehdaaVE, YteeikpmoboehdaaL1, YteeikpmoboehdaaL2, YteeikpmoboehdaaL3, YteeikpmoboehdaaVF, YteeikpmoboehdaaL4, YteeikpmoboehdaaVG, YteeikpmoboehdaaA3, YteeikpmoboehdaaL5, YteeikpmoboehdaaL6, YteeikpmoboehdaaL7, YteeikpmoboehdaaL8, YteeikpmoboehdaaL9, YteeikpmoboehdaaA4, YteeikpmoboehdaaLA, YteeikpmoboehdaaLB, YteeikpmoboehdaaLC, YteeikpmoboehdaaLD, YteeikpmoboehdaaLE, YteeikpmoboehdaaA5, YteeikpmoboehdaaLF, YteeikpmoboehdaaLG, YteeikpmoboehdaaA6, YteeikpmoboehdaaLH, YteeikpmoboehdaaLI, YteeikpmoboehdaaLJ, YteeikpmoboehdaaLK, YteeikpmoboehdaaA7, YteeikpmoboehdaaA8, YteeikpmoboehdaaLM, YteeikpmoboehdaaVH, YteeikpmoboehdaaLN). -/
import Derived.Test.YteeikpmoboehdaaZ0
import Derived.MapKept
import Derived.WideKeyRuns
import Derived.Laws.CopyRow
import Derived.Sort.LoopGhostIn
import Derived.RangeFuncNested
set_option linter.unusedVariables false
set_option linter.unusedSimpArgs false
section
/- Maps whose keys are structs of two ints. -/
set_option linter.unusedVariables false
set_option linter.unusedSimpArgs false
namespace Go.Vc
open Go.RowKit

structure ME where
  a : Int
  b : Int
  v : Value
  born : Nat
def encM (k : IntKind) (ms : List ME) : Array MapEntry := (ms.map fun x => { key := .agg #[.int k x.a, .int k x.b], val := x.v, born := x.born : MapEntry }).toArray

/-- a struct of two ints, as a key -/
structure Key2 (P : Program) (t : TypeId) (k : IntKind) : Prop where
  ex : ∃ F1 F2 ti, P.underlying t = some (.struct #[F1, F2]) ∧ (F1.type = ti ∧ F1.offset = 0 ∧ F1.name ≠ "_") ∧ (F2.type = ti ∧ F2.offset = 1 ∧ F2.name ≠ "_") ∧ P.underlying ti = some (.int k) ∧ P.stoodInHeld t = false

section
variable {P : Program} {t : TypeId} {k : IntKind}
theorem Key2.eq (h : Key2 P t k) (a b c d : Int) (w : World) : (Op.equal t (.agg #[.int k a, .int k b]) (.agg #[.int k c, .int k d])).run P w = .ok (a == c && b == d) w := by
  obtain ⟨F1, F2, ti, hu, h1, h2, hi, hs⟩ := h.ex
  exact run_eq2 hu h1 h2 hi hs a b c d w
theorem Key2.check (h : Key2 P t k) (e : Bool) (a b : Int) (w : World) : (Instr.checkKey e 10000 t (.agg #[.int k a, .int k b])).run P w = .ok () w := by
  obtain ⟨F1, F2, ti, hu, h1, h2, hi, hs⟩ := h.ex
  have hagg : ∀ w, (isAgg ti).run P w = .ok false w := fun w => by simp [isAgg, Sem.run_bind, run_underlying hi]
  have hin : ∀ x w, (Instr.checkKey e 9999 ti (.int k x)).run P w = .ok () w := fun x w => by
    rw [show (9999 : Nat) = 9998 + 1 from rfl, Instr.checkKey]
    simp [Sem.run_bind, run_underlying hi, Result.andThen]
  rw [show (10000 : Nat) = 9999 + 1 from rfl, Instr.checkKey]
  simp only [Sem.run_bind, run_underlying hu, Result.andThen_ok]
  rw [← Array.forIn_toList]
  simp [List.forIn_cons, h1, h2, Sem.run_bind, part, hagg, Result.andThen, hin]

def findM (a b : Int) : List ME → Nat → Option (Nat × Value)
  | [], _ => none
  | x :: r, i => if x.a = a ∧ x.b = b then some (i, x.v) else findM a b r (i + 1)
theorem findM_spec {a b : Int} : ∀ {ms : List ME} {i j : Nat} {v : Value}, findM a b ms i = some (j, v) → ∃ x, i ≤ j ∧ ms[j - i]? = some x ∧ x.a = a ∧ x.b = b ∧ x.v = v
  | [], _, _, _, h => by simp [findM] at h
  | x :: r, i, j, v, h => by
    unfold findM at h
    split at h
    · rename_i hx
      injection h with h
      injection h with h1 h2
      subst h1
      exact ⟨x, Nat.le_refl _, by simp, hx.1, hx.2, h2⟩
    · obtain ⟨y, h1, h2, h3⟩ := findM_spec h
      refine ⟨y, by omega, ?_, h3⟩
      rw [show j - i = (j - (i + 1)) + 1 by omega]
      simpa using h2
theorem Key2.asking (h : Key2 P t k) (a b : Int) : ∀ (ms : List ME) (i : Nat) (w : World), (Instr.findAsking t (.agg #[.int k a, .int k b]) (ms.map fun x => { key := .agg #[.int k x.a, .int k x.b], val := x.v, born := x.born : MapEntry }) i).run P w = .ok (findM a b ms i) w
  | [], i, w => by simp [Instr.findAsking, findM]
  | x :: r, i, w => by
    have ih := h.asking a b r (i + 1) w
    simp only [List.map_cons, Instr.findAsking, Sem.run_bind, h.eq, Result.andThen_ok, findM]
    by_cases hx : x.a = a ∧ x.b = b
    · have : (a == x.a && b == x.b) = true := by simp [hx.1, hx.2]
      rw [this, if_pos hx]; simp
    · have : (a == x.a && b == x.b) = false := by
        rw [Bool.and_eq_false_iff]
        by_cases h1 : x.a = a
        · right; simp; intro h2; exact hx ⟨h1, h2.symm⟩
        · left; simp; intro h2; exact h1 h2.symm
      rw [this, if_neg hx]; simpa using ih
theorem Key2.find (h : Key2 P t k) (a b : Int) (ms : List ME) (w : World) : (Instr.findKey t (.agg #[.int k a, .int k b]) (encM k ms).toList).run P w = .ok (findM a b ms 0) w := by
  obtain ⟨F1, F2, ti, hu, h1, h2, hi, hs⟩ := h.ex
  rw [run_findKey_eq w (by rw [hu])]
  have := h.asking a b ms 0 w
  simpa [encM] using this
end

/-- a map's entries, of which each is as is said -/
def MapOk (k : IntKind) (T : Int → Int → Value → Prop) (w : World) (r : Nat) : Prop := ∃ ms clock, w.heap[r]? = some (.map (encM k ms) clock) ∧ ∀ x ∈ ms, T x.a x.b x.v
theorem MapOk.mv {k : IntKind} {T : Int → Int → Value → Prop} {w w' : World} {r : Nat} {q : Option Nat} (h : MapOk k T w r) (e : w.grownBy w' q) (hq : q ≠ some r) : MapOk k T w' r := by
  obtain ⟨ms, c, h1, h2⟩ := h
  exact ⟨ms, c, (e.block r (Array.getElem?_eq_some_iff.1 h1).1 (fun x => hq x.symm)).trans h1, h2⟩
theorem MapOk.mv0 {k : IntKind} {T : Int → Int → Value → Prop} {w w' : World} {r : Nat} (h : MapOk k T w r) (e : w.grownBy w' none) : MapOk k T w' r := h.mv e (by simp)
theorem MapOk.ne {k : IntKind} {T : Int → Int → Value → Prop} {w : World} {r g t : Nat} {cs : List Value} (h : MapOk k T w r) (hB : Blk w g cs t) : r ≠ g := by
  rintro rfl
  obtain ⟨ms, c, h1, _⟩ := h
  rw [hB] at h1
  cases h1

section
variable {G : Ctx} {n : Nat} {Q : QT} {ρ : Env} {w : World} {all : Array Oper} {l : List Oper} {its : List It} {dd : Tmp} {op : Op} {ty : TypeId} {pos : String} {after : Array Edge} {gd : Option (Nat × Bool)} {o : Oper}
def evMkMap (n : Nat) (ρ : Env) (all : Array Oper) (o : Oper) : Option Unit :=
  match wantedE ρ all o, o.op with
  | some true, .makeMap _ none => bif inB n o.dst then some () else none
  | _, _ => none
theorem M.mkMap (k : IntKind) (T : Int → Int → Value → Prop) (he : evMkMap n ρ all ⟨some dd, op, ty, pos, after, gd⟩ = some ())
    (h : ∀ r w', MapOk k T w' r → w.grownBy w' none → w.heap.size ≤ r → M G n (.ops all l :: its) Q ((dd, .map (some r)) :: ρ) w') : M G n (.ops all (⟨some dd, op, ty, pos, after, gd⟩ :: l) :: its) Q ρ w := by
  unfold evMkMap at he
  split at he
  · rename_i t hw ho
    cases hb : inB n (some dd) with
    | false => rw [hb] at he; simp at he
    | true =>
      simp only at ho
      subst ho
      refine M.step hw fun ac hf => ⟨.map (some w.heap.size), w.alloc (.map #[] 0), ?_, hb, h _ _ ⟨[], 0, by simpa [encM] using heap_alloc_new w _, by simp⟩ (gr_alloc _ _) (Nat.le_refl _)⟩
      simp [execOp, Instr.makeMap, Sem.run_bind, Result.andThen]
  · simp at he

def evLook (T : Tab) (n : Nat) (ρ : Env) (all : Array Oper) (o : Oper) : Option (Nat × Value × Nat) :=
  match wantedE ρ all o, o.op with
  | some true, .lookup t x y true => match ρ.ev x, ρ.ev y with
    | some (.map (some r)), some key => bif inB n o.dst then some (r, key, t) else none
    | _, _ => none
  | _, _ => none
theorem look_spec {k : IntKind} {T : Int → Int → Value → Prop} {r t kt et : Nat} (hm : MapOk k T w r) (hu : G.P.underlying t = some (.map kt et)) (hK : Key2 G.P kt k) {ie : TI} (hTe : G.T.get et = some ie) (a b : Int) :
    ∃ v ok, (ok = true → T a b v) ∧ (ok = false → v = ie.zero) ∧ ∀ W : World → Prop, (∀ w', W w' → w'.heap[r]? = w.heap[r]?) → ∀ {n : Nat} {ρ : Env} {all : Array Oper} {o : Oper}, evLook G.T n ρ all o = some (r, .agg #[.int k a, .int k b], t) → YS G n all ρ o W (.tuple #[v, .bool ok]) := by
  obtain ⟨ms, c, h1, h2⟩ := hm
  have key : ∀ v ok, ((do
      let (v, ok) ← match findM a b ms 0 with
        | some (_, v) => pure (v, true)
        | none => pure (← zeroValue et, false)
      pure (.tuple #[v, .bool ok]) : Sem Value).run G.P w = .ok (.tuple #[v, .bool ok]) w) → ∀ W : World → Prop, (∀ w', W w' → w'.heap[r]? = w.heap[r]?) → ∀ {n : Nat} {ρ : Env} {all : Array Oper} {o : Oper}, evLook G.T n ρ all o = some (r, .agg #[.int k a, .int k b], t) → YS G n all ρ o W (.tuple #[v, .bool ok]) := by
    intro v ok hv W hW n ρ all o he
    unfold evLook at he
    split at he
    · rename_i t' x y hw ho
      split at he
      · rename_i r' key hx hy
        cases hb : inB n o.dst with
        | false => rw [hb] at he; simp at he
        | true =>
          rw [hb] at he
          simp at he
          obtain ⟨rfl, rfl, rfl⟩ := he
          refine ⟨hw, hb, fun ac hf w' hC => ?_⟩
          rw [show execOp ac.eval o = (do pure (.value (← Instr.lookup t' (ac.eval x) (ac.eval y) true)) : Sem Next) by simp [execOp, ho]]
          refine run_value ?_
          rw [hf.ev hx, hf.ev hy]
          have h1' : w'.heap[r']? = some (.map (encM k ms) c) := (hW w' hC).trans h1
          unfold Instr.lookup
          simp only [Sem.run_bind, run_underlying hu, Result.andThen_ok, Go.run_getObj_map w' r' _ _ h1', Sem.run_pure, hK.check, hK.find]
          cases hfm : findM a b ms 0 with
          | none => rw [hfm] at hv; simp [Sem.run_bind, TI.zeroRun hTe, Result.andThen] at hv ⊢; exact hv
          | some p => obtain ⟨j, v'⟩ := p; rw [hfm] at hv; simp [Sem.run_bind, Result.andThen] at hv ⊢; exact hv
      · simp at he
    · simp at he
  cases hfm : findM a b ms 0 with
  | none => exact ⟨ie.zero, false, by simp, fun _ => rfl, key _ _ (by rw [hfm]; simp [Sem.run_bind, TI.zeroRun hTe, Result.andThen])⟩
  | some p =>
    obtain ⟨j, v⟩ := p
    obtain ⟨x, _, hx, ha, hb, hv⟩ := findM_spec hfm
    refine ⟨v, true, fun _ => ?_, by simp, key _ _ (by rw [hfm]; simp [Sem.run_bind, Result.andThen])⟩
    have := h2 x (List.mem_of_getElem? hx)
    rw [ha, hb, hv] at this
    exact this

def evMU (ρ : Env) (all : Array Oper) (o : Oper) : Option (Nat × Value × Value × Nat) :=
  match wantedE ρ all o, o.op, o.dst with
  | some true, .mapUpdate t x y z, none => match ρ.ev x, ρ.ev y, ρ.ev z with
    | some (.map (some r)), some key, some v => some (r, key, v, t)
    | _, _, _ => none
  | _, _, _ => none
theorem M.mapUp {k : IntKind} {T : Int → Int → Value → Prop} {r t kt et : Nat} {a b : Int} {v : Value} (he : evMU ρ all o = some (r, .agg #[.int k a, .int k b], v, t)) (hm : MapOk k T w r) (hu : G.P.underlying t = some (.map kt et)) (hK : Key2 G.P kt k) (hT : T a b v)
    (h : ∀ w', MapOk k T w' r → w.grownBy w' (some r) → M G n (.ops all l :: its) Q ρ w') : M G n (.ops all (o :: l) :: its) Q ρ w := by
  unfold evMU at he
  split at he
  · rename_i t' x y z hw ho hd
    split at he
    · rename_i r' key v' hx hy hz
      simp at he
      obtain ⟨rfl, rfl, rfl, rfl⟩ := he
      obtain ⟨ms, c, h1, h2⟩ := hm
      have hlt := (Array.getElem?_eq_some_iff.1 h1).1
      have hgr : ∀ ob, w.grownBy { w with heap := w.heap.setIfInBounds r' ob } (some r') := fun ob => ⟨rfl, rfl, rfl, by simp, fun j hj hne => by
        simp only [Array.getElem?_setIfInBounds]
        rw [if_neg (by rintro rfl; exact hne rfl)]⟩
      have hat : ∀ ob, ({ w with heap := w.heap.setIfInBounds r' ob } : World).heap[r']? = some ob := fun ob => by simp [Array.getElem?_setIfInBounds, hlt]
      have base : ∀ ac, Fits n ρ ac → (execOp ac.eval o).run G.P w = ((do
          match findM a b ms 0 with
          | some (i, _) => do
            let key ← Instr.keyThatStays ((((encM k ms)[i]?).map (·.key)).getD (.agg #[.int k a, .int k b])) (.agg #[.int k a, .int k b])
            setObj r' (.map ((encM k ms).modify i fun e => { e with key, val := v' }) c)
          | none => setObj r' (.map ((encM k ms).push { key := .agg #[.int k a, .int k b], val := v', born := c }) (c + 1))
          pure .skip : Sem Next)).run G.P w := by
        intro ac hf
        rw [show execOp ac.eval o = (do Instr.mapUpdate t' (ac.eval x) (ac.eval y) (ac.eval z); pure .skip : Sem Next) by simp [execOp, ho]]
        rw [hf.ev hx, hf.ev hy, hf.ev hz]
        unfold Instr.mapUpdate
        simp only [Sem.run_bind, run_underlying hu, Result.andThen_ok, Go.run_getObj_map w r' _ _ h1, hK.check, hK.find]
        cases findM a b ms 0 with
        | none => simp [Sem.run_bind]
        | some p =>
          obtain ⟨i, _⟩ := p
          simp only [Sem.run_bind]
          generalize Sem.run G.P (Instr.keyThatStays _ _) w = rr
          cases rr <;> rfl
      cases hfm : findM a b ms 0 with
      | none =>
        refine M.stepSkip hw hd fun ac hf => ⟨{ w with heap := w.heap.setIfInBounds r' (.map (encM k (ms ++ [⟨a, b, v', c⟩])) (c + 1)) }, ?_, h _ ⟨_, _, hat _, ?_⟩ (hgr _)⟩
        · rw [base ac hf, hfm]
          have : (encM k ms).push { key := .agg #[.int k a, .int k b], val := v', born := c } = encM k (ms ++ [⟨a, b, v', c⟩]) := by simp [encM]
          simp [Sem.run_bind, Go.MapKept.run_setObj_map _ h1, Result.andThen, this]
        · intro e he
          rcases List.mem_append.1 he with he | he
          · exact h2 e he
          · simp at he; subst he; exact hT
      | some p =>
        obtain ⟨i, v0⟩ := p
        obtain ⟨e0, _, hx0, ha0, hb0, _⟩ := findM_spec hfm
        simp at hx0
        refine M.stepSkip hw hd fun ac hf => ⟨{ w with heap := w.heap.setIfInBounds r' (.map (encM k (ms.modify i fun e => { e with v := v' })) c) }, ?_, h _ ⟨_, _, hat _, ?_⟩ (hgr _)⟩
        · rw [base ac hf, hfm]
          have hk : (((encM k ms)[i]?).map (·.key)).getD (.agg #[.int k a, .int k b]) = .agg #[.int k a, .int k b] := by
            simp [encM, hx0, ha0, hb0]
          have hs : ∀ u, (Instr.keyThatStays (.agg #[.int k a, .int k b]) (.agg #[.int k a, .int k b])).run G.P u = .ok (.agg #[.int k a, .int k b]) u := fun u => by
            have : Instr.sameBits 10000 (.agg #[.int k a, .int k b]) (.agg #[.int k a, .int k b]) = true := by
              rw [show (10000 : Nat) = 9999 + 1 from rfl, Instr.sameBits]
              simp [Instr.sameBits]
            simp [Instr.keyThatStays, this]
          have hmod : (encM k ms).modify i (fun e => { e with key := .agg #[.int k a, .int k b], val := v' }) = encM k (ms.modify i fun e => { e with v := v' }) := by
            apply Array.ext'
            simp only [encM, Array.toList_modify, List.toList_toArray]
            apply List.ext_getElem?
            intro j
            simp only [List.getElem?_modify, List.getElem?_map]
            by_cases hij : i = j
            · subst hij
              simp [hx0, ha0, hb0]
            · simp [hij]
          simp only [Sem.run_bind, hk, hs, Result.andThen_ok, hmod, Go.MapKept.run_setObj_map _ h1, Sem.run_pure]
        · intro e he
          obtain ⟨j, hj⟩ := List.mem_iff_getElem?.1 he
          rw [List.getElem?_modify] at hj
          by_cases hij : i = j
          · subst hij
            simp [hx0] at hj
            subst hj
            simp only [ha0, hb0]
            exact hT
          · simp [hij] at hj
            exact h2 e (List.mem_of_getElem? hj)
    · simp at he
  · simp at he
end
end Go.Vc
end

section
/- A slice of a slice; copy. -/
set_option linter.unusedVariables false
set_option linter.unusedSimpArgs false
namespace Go.Vc
open Go.RowKit
/-- a bound of a slice, if there is one -/
def evBnd (ρ : Env) (d : Int) : Option Operand → Option Int
  | none => some d
  | some x => match ρ.ev x with
    | some (.int _ i) => some i
    | _ => none
def evSlc (T : Tab) (n : Nat) (ρ : Env) (all : Array Oper) (o : Oper) : Option (Option Addr × Nat × Int × Int × Nat) :=
  match wantedE ρ all o, o.op with
  | some true, .slice t x lo hi none => match ρ.ev x, T.get t with
    | some (.slice A m c), some ⟨.slice e, _, _, _⟩ => match T.get e, evBnd ρ 0 lo, evBnd ρ m hi with
      | some ie, some l, some h => bif inB n o.dst then some (A, c, l, h, ie.size) else none
      | _, _, _ => none
    | _, _ => none
  | _, _ => none
section
variable {G : Ctx} {n : Nat} {Q : QT} {ρ : Env} {w : World} {all : Array Oper} {o : Oper} {W : World → Prop} {l : List Oper} {k : List It} {dd : Tmp} {op : Op} {ty : TypeId} {pos : String} {after : Array Edge} {gd : Option (Nat × Bool)}
theorem YS.slc {A : Option Addr} {c sz : Nat} {i j : Int} (he : evSlc G.T n ρ all o = some (A, c, i, j, sz)) (h0 : 0 ≤ i) (h1 : i ≤ j) (h2 : j ≤ c) :
    YS G n all ρ o W (.slice (if c = i.toNat then A else A.map (·.add (i.toNat * sz))) (j.toNat - i.toNat) (c - i.toNat)) := by
  unfold evSlc at he
  split at he
  · rename_i t x lo hi hw ho
    split at he
    · rename_i A' m c' e s z bz hx hT
      split at he
      · rename_i ie l' h' hTe hlo hhi
        cases hb : inB n o.dst with
        | false => rw [hb] at he; simp at he
        | true =>
          rw [hb] at he
          simp at he
          obtain ⟨rfl, rfl, rfl, rfl, rfl⟩ := he
          obtain ⟨hok, _⟩ := Tab.ok_get G.ok hT
          have hu : G.P.underlying t = some (.slice e) := hok
          refine ⟨hw, hb, fun ac hf w hC => ?_⟩
          rw [show execOp ac.eval o = (do pure (.value (← Instr.sliceAt t (ac.eval x) (lo.map ac.eval) (hi.map ac.eval) none)) : Sem Next) by simp [execOp, ho]]
          refine run_value ?_
          rw [hf.ev hx]
          have hj0 : 0 ≤ h' := by omega
          have bnd : ∀ (q : Operand) (d b : Int) (y : Nat) code, evBnd ρ d (some q) = some b → 0 ≤ b → b ≤ y → (Instr.sliceBound (ac.eval q) y code).run G.P w = .ok b.toNat w := by
            intro q d b y code hq hb0 hby
            simp only [evBnd] at hq
            split at hq
            · rename_i k' i' hv
              simp at hq; subst hq
              rw [hf.ev hv]
              exact run_sliceBound w _ _ _ _ hb0 hby
            · simp at hq
          cases hi with
          | none =>
            simp only [evBnd, Option.some.injEq] at hhi
            subst hhi
            cases lo with
            | none =>
              simp only [evBnd, Option.some.injEq] at hlo
              subst hlo
              simp [Instr.sliceAt, Instr.slice, Instr.sliceBounds, run_underlying hu, Sem.run_bind, TI.sizeRun hTe, Result.andThen]
            | some q =>
              have hb1 := fun code => bnd q 0 l' m code hlo h0 h1
              simp [Instr.sliceAt, Instr.slice, Instr.sliceBounds, run_underlying hu, Sem.run_bind, TI.sizeRun hTe, Result.andThen, hb1]
          | some r =>
            have hb2 := fun code => bnd r m h' c' code hhi hj0 h2
            cases lo with
            | none =>
              simp only [evBnd, Option.some.injEq] at hlo
              subst hlo
              simp [Instr.sliceAt, Instr.slice, Instr.sliceBounds, run_underlying hu, Sem.run_bind, TI.sizeRun hTe, Result.andThen, hb2]
            | some q =>
              have hb1 := fun code => bnd q 0 l' h'.toNat code hlo h0 (by omega)
              simp [Instr.sliceAt, Instr.slice, Instr.sliceBounds, run_underlying hu, Sem.run_bind, TI.sizeRun hTe, Result.andThen, hb1, hb2]
      · simp at he
    · simp at he
  · simp at he

/-- copy(dst, src), of elements of one cell -/
def evCpy (T : Tab) (n : Nat) (ρ : Env) (all : Array Oper) (o : Oper) : Option (Addr × Nat × Addr × Nat) :=
  match wantedE ρ all o, o.op with
  | some true, .call { callee := .builtin .copy, args := xs, argTypes := ts } => match xs.toList, ts.toList with
    | [x, y], [t, t'] => match ρ.ev x, ρ.ev y, T.get t with
      | some (.slice (some a) m _), some (.slice (some b) m' _), some ⟨.slice e, _, _, _⟩ => match T.get e with
        | some ie => bif inB n o.dst && Nat.beq ie.size 1 then some (a, m, b, m') else none
        | none => none
      | _, _, _ => none
    | _, _ => none
  | _, _ => none
theorem M.cpy {a b : Addr} {m m' g off t : Nat} {cur cs : List Value} (he : evCpy G.T n ρ all ⟨some dd, op, ty, pos, after, gd⟩ = some (a, m, b, m')) (ha : a = ⟨g, off, none⟩) (hB : Blk w g cur t) (hn : cs.length = min m' m) (hs : Cells w b cs)
    (hfit : off + cs.length ≤ cur.length) (hp : ∀ v ∈ cs, v.oneCell' = true)
    (h : ∀ w', Blk w' g (cur.take off ++ cs ++ cur.drop (off + cs.length)) t → w.grownBy w' (some g) → M G n (.ops all l :: k) Q ((dd, .int .i64 (cs.length : Nat)) :: ρ) w') : M G n (.ops all (⟨some dd, op, ty, pos, after, gd⟩ :: l) :: k) Q ρ w := by
  unfold evCpy at he
  split at he
  · rename_i x0 y0 hw ho
    split at he
    · rename_i x y t1 t2 hxs hts
      split at he
      · rename_i a2 m2 c2 b2 m3 c3 e sz z bz hx hy hT
        split at he
        · rename_i ie hTe
          cases hb : (inB n (some dd) && Nat.beq ie.size 1) with
          | false => rw [hb] at he; simp at he
          | true =>
            rw [hb] at he
            simp at he
            obtain ⟨rfl, rfl, rfl, rfl⟩ := he
            simp only [Bool.and_eq_true] at hb
            obtain ⟨hb1, hb2⟩ := hb
            have hb2 := Nat.eq_of_beq_eq_true hb2
            obtain ⟨hok, _⟩ := Tab.ok_get G.ok hT
            have hu : G.P.underlying t1 = some (.slice e) := hok
            obtain ⟨_, hinfo⟩ := Tab.ok_get G.ok hTe
            obtain ⟨ti, hti, hts'⟩ := Option.map_eq_some_iff.1 hinfo
            simp only [Prod.mk.injEq] at hts'
            simp only at ho
            have hxa : x0 = #[x, y] := by apply Array.ext'; simp [hxs]
            subst hxa
            have hta : y0 = #[t1, t2] := by apply Array.ext'; simp [hts]
            subst hta
            subst ho
            subst ha
            have hr := run_copy_row (P := G.P) w t1 t2 ty e g off m2 c2 b2 m3 c3 cur.toArray t cs hu (by rw [hti]; simp [hts'.1, hb2]) hB hn hs (by simpa using hfit) hp
            simp only [List.toList_toArray] at hr
            refine M.step hw fun ac hf => ⟨_, w.setRow g (cur.take off ++ cs ++ cur.drop (off + cs.length)).toArray, ?_, hb1, h _ ?_ (gr_setRow w g _ ⟨_, hB⟩)⟩
            · simp only [execOp, resolve, List.map_toArray, List.map_cons, List.map_nil, hf.ev hx, hf.ev hy]
              simp only [invoke, builtin, Sem.run_bind, Sem.run_pure, Result.andThen_ok, hr]
              rfl
            · have := setRow_heap w g cur.toArray (cur.take off ++ cs ++ cur.drop (off + cs.length)).toArray t (0, 0) hB
              simpa [Blk] using this
        · simp at he
      · simp at he
    · simp at he
  · simp at he
end
end Go.Vc
end

section
/- Walks: equal lists, where a number lies, all of some. -/
set_option linter.unusedVariables false
namespace Go.Proofs.Yteeikpmoboehdaa
open Go Go.Vc Go.RowKit Py

theorem _root_.Go.Vc.M.caseT {G : Ctx} {n : Nat} {Q : QT} {ρ : Env} {w : World} {all : Array Oper} {l : List Oper} {k : List It} (d : Nat) {b : Bool} (hd : ρ.find d = some (.bool b)) (hb : b = true) (h : M G n (.ops all l :: k) Q ((d, .bool true) :: ρ) w) : M G n (.ops all l :: k) Q ρ w :=
  M.case d hd (fun _ => h) (fun h2 => by rw [hb] at h2; cases h2)
theorem _root_.Go.Vc.M.caseF {G : Ctx} {n : Nat} {Q : QT} {ρ : Env} {w : World} {all : Array Oper} {l : List Oper} {k : List It} (d : Nat) {b : Bool} (hd : ρ.find d = some (.bool b)) (hb : b = false) (h : M G n (.ops all l :: k) Q ((d, .bool false) :: ρ) w) : M G n (.ops all l :: k) Q ρ w :=
  M.case d hd (fun h2 => by rw [hb] at h2; cases h2) (fun _ => h)
theorem _root_.Go.Vc.D.caseT {G : Ctx} {n : Nat} {all : Array Oper} {ρ : Env} {R RL : World → World → Prop} {late ex sk : List Nat} {k : List It} {Q : QT} {m : Nat} {done : List Nat} {w : World} (s : Nat) {b : Bool} (hd : ρ.find s = some (.bool b)) (hb : b = true) (h : Vc.D G n all R RL late ex sk k Q m done ((s, .bool true) :: ρ) w) : Vc.D G n all R RL late ex sk k Q m done ρ w :=
  D.case s hd (fun _ => h) (fun h2 => by rw [hb] at h2; cases h2)
theorem _root_.Go.Vc.D.caseF {G : Ctx} {n : Nat} {all : Array Oper} {ρ : Env} {R RL : World → World → Prop} {late ex sk : List Nat} {k : List It} {Q : QT} {m : Nat} {done : List Nat} {w : World} (s : Nat) {b : Bool} (hd : ρ.find s = some (.bool b)) (hb : b = false) (h : Vc.D G n all R RL late ex sk k Q m done ((s, .bool false) :: ρ) w) : Vc.D G n all R RL late ex sk k Q m done ρ w :=
  D.case s hd (fun h2 => by rw [hb] at h2; cases h2) (fun _ => h)
theorem nxt {i n : Nat} (hi : i < n) (hn : (n : Int) ≤ 9223372036854775807) : some (Value.int .i64 (IntKind.i64.wrap ((i : Int) + 1))) = some (Value.int .i64 ((i + 1 : Nat) : Int)) := by
  rw [w64 (by omega) (by omega)]; rfl

theorem ints_go (a b : List Int) (A : Option Addr) (c : Nat) (B : Option Addr) (d : Nat) (w : World) (hA : Rd dI w A c a) (hB : Rd dI w B d b) :
    Calls Try.prog 25 #[.slice A a.length c, .slice B b.length d] w fun e w' => e = .returned (.bool (decide (a = b))) ∧ w.grownBy w' none := by
  refine calls (G := G) (args := [.slice A a.length c, .slice B b.length d]) Try.func25 rfl rfl rfl ?_
  have hbd := hA.bd
  refine M.run rfl <| M.cond rfl (fun h => ?_) (fun h => ?_)
  · have h' : (a.length : Int) ≠ b.length := by simpa using h
    refine M.run rfl <| M.retF rfl rfl ⟨?_, gr_refl _ _⟩
    rw [decide_eq_false (fun e => h' (by rw [e]))]; rfl
  have hl : a.length = b.length := by
    have : (a.length : Int) = b.length := by simpa using h
    omega
  refine M.run rfl <| M.loop (σ := Nat) (fun i => [(0, .slice A a.length c), (1, .slice B b.length d), (5, .int .i64 (i : Int))]) (fun i w' => i ≤ a.length ∧ w.grownBy w' none ∧ ∀ k, k < i → at0 a k = at0 b k)
    (fun i => a.length - i) 0 ⟨rfl, rfl, rfl, trivial⟩ ⟨Nat.zero_le _, gr_refl _ _, fun k h => by omega⟩ ?_
  rintro i w1 ⟨hi, e1, hn⟩
  refine M.run rfl <| M.cond rfl (fun h => ?_) (fun h => ?_)
  rotate_left
  · have hin : i = a.length := by have := of_decide_eq_false h; omega
    refine M.run rfl <| M.retF rfl rfl ⟨?_, e1⟩
    rw [decide_eq_true (ext0 hl fun k hk => hn k (by omega))]; rfl
  have hlt : i < a.length := by have := of_decide_eq_true h; omega
  obtain ⟨hA1, hAC⟩ := rd_flat hA hlt
  obtain ⟨hB1, hBC⟩ := rd_flat hB (show i < b.length by omega)
  refine M.run rfl <| M.quiet (by kernel_rfl) <| LQ.run rfl <| LQ.ix rfl (by omega) (by omega) hA1 <| LQ.run rfl <| LQ.ld rfl (fun w' hw => (hAC w' (gr_below (gr_trans e1 hw))).one 0 rfl rfl) <| LQ.run rfl <| LQ.ix rfl (by omega) (by omega) hB1 <| LQ.run rfl <| LQ.ld rfl (fun w' hw => (hBC w' (gr_below (gr_trans e1 hw))).one 0 rfl rfl) <| LQ.run rfl <| LQ.nil fun w2 e2 => ?_
  refine M.run rfl <| M.cond rfl (fun h2 => ?_) (fun h2 => ?_)
  · have h2' : a[i] ≠ b[i] := by simpa using h2
    refine M.run rfl <| M.retF rfl rfl ⟨?_, gr_trans e1 e2⟩
    rw [decide_eq_false (fun e => h2' (by subst e; rfl))]; rfl
  · have h2' : a[i] = b[i] := by simpa using h2
    exact M.run rfl <| M.end_ ⟨i + 1, ⟨rfl, rfl, nxt hlt hbd, trivial⟩, ⟨by omega, gr_trans e1 e2, fun k hk => by
      by_cases e : k < i
      · exact hn k e
      · have : k = i := by omega
        subst this
        rw [← at0_get hlt, ← at0_get (show k < b.length by omega)]; exact h2'⟩, by omega⟩

theorem Index_go (xs : List Int) (v : Int) (A : Option Addr) (c : Nat) (w : World) (hA : Rd dI w A c xs) :
    Calls Try.prog 63 #[.slice A xs.length c, .int .i64 v] w fun e w' => e = .returned (.int .i64 (idxI xs v)) ∧ w.grownBy w' none := by
  refine calls (G := G) (args := [.slice A xs.length c, .int .i64 v]) Try.func63 rfl rfl rfl ?_
  have hbd := hA.bd
  refine M.run rfl <| M.loop (σ := Nat) (fun i => [(0, .slice A xs.length c), (1, .int .i64 v), (7, .int .i64 (xs.length : Int)), (8, .int .i64 (i : Int))]) (fun i w' => i ≤ xs.length ∧ w.grownBy w' none ∧ ∀ k, k < i → at0 xs k ≠ v)
    (fun i => xs.length - i) 0 ⟨rfl, rfl, rfl, rfl, trivial⟩ ⟨Nat.zero_le _, gr_refl _ _, fun k h => by omega⟩ ?_
  rintro i w1 ⟨hi, e1, hn⟩
  refine M.run rfl <| M.cond rfl (fun h => ?_) (fun h => ?_)
  rotate_left
  · have hin : i = xs.length := by have := of_decide_eq_false h; omega
    subst hin
    refine M.run rfl <| M.retF rfl rfl ⟨?_, e1⟩
    rw [idxI_none hn]; rfl
  have hlt : i < xs.length := by have := of_decide_eq_true h; omega
  obtain ⟨hA1, hAC⟩ := rd_flat hA hlt
  refine M.run rfl <| M.ix rfl (by omega) (by omega) hA1 <| M.run rfl <| M.ld rfl ((hAC w1 (gr_below e1)).one 0 rfl rfl) <| M.run rfl <| M.cond rfl (fun h2 => ?_) (fun h2 => ?_)
  · have h2' : v = xs[i] := by simpa using h2
    refine M.run rfl <| M.retF rfl rfl ⟨?_, e1⟩
    rw [idxI_first hlt (by rw [← at0_get hlt]; exact h2'.symm) hn]; rfl
  · have h2' : v ≠ xs[i] := by simpa using h2
    exact M.run rfl <| M.end_ ⟨i + 1, ⟨rfl, rfl, rfl, nxt hlt hbd, trivial⟩, ⟨by omega, e1, fun k hk => by
      by_cases e : k < i
      · exact hn k e
      · have : k = i := by omega
        subst this
        rw [← at0_get hlt]; exact fun e => h2' e.symm⟩, by omega⟩
theorem Contains_go (xs : List Int) (v : Int) (A : Option Addr) (c : Nat) (w : World) (hA : Rd dI w A c xs) :
    Calls Try.prog 81 #[.slice A xs.length c, .int .i64 v] w fun e w' => e = .returned (.bool (xs.contains v)) ∧ w.grownBy w' none := by
  refine calls (G := G) (args := [.slice A xs.length c, .int .i64 v]) Try.func81 rfl rfl rfl ?_
  refine M.run rfl <| M.cl rfl (Index_go xs v A c w hA) ?_
  rintro e w1 ⟨rfl, e1⟩
  refine ⟨_, rfl, M.run rfl <| M.retF rfl rfl ⟨?_, e1⟩⟩
  rw [← idxI_contains]; rfl
theorem rd_take {w : World} {A : Option Addr} {c : Nat} {xs : List Int} (h : Rd dI w A c xs) (i : Nat) : Rd dI w A c (xs.take i) :=
  ⟨by have := h.cap; simp only [List.length_take]; omega, h.big, fun j x hj => by
    rw [List.getElem?_take] at hj
    split at hj
    · exact h.at_ j x hj
    · cases hj⟩
end Go.Proofs.Yteeikpmoboehdaa
end

section
/- Walks: functions handed over; dispatch, CheckAccount, work. -/
set_option linter.unusedVariables false
namespace Go.Proofs.Yteeikpmoboehdaa
open Go Go.Vc Go.RowKit Py

/-- a function value that tells of dispatches, from w on -/
def FnD (w : World) (fv : Value) (p : Dsp → Bool) : Prop := ∃ f fst cap, calleeE G.nf (some fv) = some (f, fst, cap) ∧ ∀ w', w.grownBy w' none → ∀ d A c, Rd dI w' A c d.passed →
  Calls Try.prog f (fst ++ ([vDsp d A c] ++ cap)).toArray w' fun e w'' => e = .returned (.bool (p d)) ∧ w'.grownBy w'' none
theorem FnD.mv {w w' : World} {fv : Value} {p : Dsp → Bool} (h : FnD w fv p) (g : w.grownBy w' none) : FnD w' fv p :=
  let ⟨f, fst, cap, h1, h2⟩ := h
  ⟨f, fst, cap, h1, fun w'' g' => h2 w'' (gr_trans g g')⟩
def FnI (w : World) (fv : Value) (p : Int → Bool) : Prop := ∃ f fst cap, calleeE G.nf (some fv) = some (f, fst, cap) ∧ ∀ w', w.grownBy w' none → ∀ x : Int,
  Calls Try.prog f (fst ++ ([Value.int .i64 x] ++ cap)).toArray w' fun e w'' => e = .returned (.bool (p x)) ∧ w'.grownBy w'' none
theorem FnI.mv {w w' : World} {fv : Value} {p : Int → Bool} (h : FnI w fv p) (g : w.grownBy w' none) : FnI w' fv p :=
  let ⟨f, fst, cap, h1, h2⟩ := h
  ⟨f, fst, cap, h1, fun w'' g' => h2 w'' (gr_trans g g')⟩

theorem IndexFuncD_go (ds : List Dsp) (fv : Value) (p : Dsp → Bool) (A : Option Addr) (c : Nat) (w : World) (hA : Rd dDsp w A c ds) (hf : FnD w fv p) :
    Calls Try.prog 92 #[.slice A ds.length c, fv] w fun e w' => e = .returned (.int .i64 (firstI p ds)) ∧ w.grownBy w' none := by
  refine calls (G := G) (args := [.slice A ds.length c, fv]) Try.func92 rfl rfl rfl ?_
  have hbd := hA.bd
  refine M.run rfl <| M.loop (σ := Nat) (fun i => [(0, .slice A ds.length c), (1, fv), (7, .int .i64 (ds.length : Int)), (8, .int .i64 (i : Int))]) (fun i w' => i ≤ ds.length ∧ w.grownBy w' none ∧ ∀ k, (h : k < i) → (h2 : k < ds.length) → p ds[k] = false)
    (fun i => ds.length - i) 0 ⟨rfl, rfl, rfl, rfl, trivial⟩ ⟨Nat.zero_le _, gr_refl _ _, fun k h => by omega⟩ ?_
  rintro i w1 ⟨hi, e1, hn⟩
  refine M.run rfl <| M.cond rfl (fun h => ?_) (fun h => ?_)
  rotate_left
  · have hin : i = ds.length := by have := of_decide_eq_false h; omega
    subst hin
    refine M.run rfl <| M.retF rfl rfl ⟨?_, e1⟩
    rw [firstI_none fun k hk => hn k hk hk]; rfl
  have hlt : i < ds.length := by have := of_decide_eq_true h; omega
  obtain ⟨hA1, P, pc, hP, hAC⟩ := rd_dsp hA hlt
  obtain ⟨f, fst, cap, hc1, hc2⟩ := hf.mv e1
  refine M.run rfl <| M.ix rfl (by omega) (by omega) hA1 <| M.run rfl <| M.ldA rfl rfl (hAC w1 (gr_below e1)) <| M.run rfl <| M.clV rfl hc1 (hc2 w1 (gr_refl _ _) ds[i] P pc (hP.mv e1)) ?_
  rintro e w2 ⟨rfl, e2⟩
  refine ⟨_, rfl, M.run rfl <| M.cond rfl (fun h2 => ?_) (fun h2 => ?_)⟩
  · refine M.run rfl <| M.retF rfl rfl ⟨?_, gr_trans e1 e2⟩
    rw [firstI_at hlt h2 fun k hk => hn k hk (by omega)]; rfl
  · exact M.run rfl <| M.end_ ⟨i + 1, ⟨rfl, rfl, rfl, nxt hlt hbd, trivial⟩, ⟨by omega, gr_trans e1 e2, fun k hk h3 => by
      by_cases e : k < i
      · exact hn k e h3
      · have : k = i := by omega
        subst this
        exact h2⟩, by omega⟩
theorem IndexFuncI_go (xs : List Int) (fv : Value) (p : Int → Bool) (A : Option Addr) (c : Nat) (w : World) (hA : Rd dI w A c xs) (hf : FnI w fv p) :
    Calls Try.prog 67 #[.slice A xs.length c, fv] w fun e w' => e = .returned (.int .i64 (firstI p xs)) ∧ w.grownBy w' none := by
  refine calls (G := G) (args := [.slice A xs.length c, fv]) Try.func67 rfl rfl rfl ?_
  have hbd := hA.bd
  refine M.run rfl <| M.loop (σ := Nat) (fun i => [(0, .slice A xs.length c), (1, fv), (7, .int .i64 (xs.length : Int)), (8, .int .i64 (i : Int))]) (fun i w' => i ≤ xs.length ∧ w.grownBy w' none ∧ ∀ k, (h : k < i) → (h2 : k < xs.length) → p xs[k] = false)
    (fun i => xs.length - i) 0 ⟨rfl, rfl, rfl, rfl, trivial⟩ ⟨Nat.zero_le _, gr_refl _ _, fun k h => by omega⟩ ?_
  rintro i w1 ⟨hi, e1, hn⟩
  refine M.run rfl <| M.cond rfl (fun h => ?_) (fun h => ?_)
  rotate_left
  · have hin : i = xs.length := by have := of_decide_eq_false h; omega
    subst hin
    refine M.run rfl <| M.retF rfl rfl ⟨?_, e1⟩
    rw [firstI_none fun k hk => hn k hk hk]; rfl
  have hlt : i < xs.length := by have := of_decide_eq_true h; omega
  obtain ⟨hA1, hAC⟩ := rd_flat hA hlt
  obtain ⟨f, fst, cap, hc1, hc2⟩ := hf.mv e1
  refine M.run rfl <| M.ix rfl (by omega) (by omega) hA1 <| M.run rfl <| M.ld rfl ((hAC w1 (gr_below e1)).one 0 rfl rfl) <| M.run rfl <| M.clV rfl hc1 (hc2 w1 (gr_refl _ _) xs[i]) ?_
  rintro e w2 ⟨rfl, e2⟩
  refine ⟨_, rfl, M.run rfl <| M.cond rfl (fun h2 => ?_) (fun h2 => ?_)⟩
  · refine M.run rfl <| M.retF rfl rfl ⟨?_, gr_trans e1 e2⟩
    rw [firstI_at hlt h2 fun k hk => hn k hk (by omega)]; rfl
  · exact M.run rfl <| M.end_ ⟨i + 1, ⟨rfl, rfl, rfl, nxt hlt hbd, trivial⟩, ⟨by omega, gr_trans e1 e2, fun k hk h3 => by
      by_cases e : k < i
      · exact hn k e h3
      · have : k = i := by omega
        subst this
        exact h2⟩, by omega⟩
theorem ContainsFuncD_go (ds : List Dsp) (fv : Value) (p : Dsp → Bool) (A : Option Addr) (c : Nat) (w : World) (hA : Rd dDsp w A c ds) (hf : FnD w fv p) :
    Calls Try.prog 82 #[.slice A ds.length c, fv] w fun e w' => e = .returned (.bool (ds.any p)) ∧ w.grownBy w' none := by
  refine calls (G := G) (args := [.slice A ds.length c, fv]) Try.func82 rfl rfl rfl ?_
  refine M.run rfl <| M.cl rfl (IndexFuncD_go ds fv p A c w hA hf) ?_
  rintro e w1 ⟨rfl, e1⟩
  refine ⟨_, rfl, M.run rfl <| M.retF rfl rfl ⟨?_, e1⟩⟩
  rw [← firstI_neg]; rfl
theorem ContainsFuncI_go (xs : List Int) (fv : Value) (p : Int → Bool) (A : Option Addr) (c : Nat) (w : World) (hA : Rd dI w A c xs) (hf : FnI w fv p) :
    Calls Try.prog 90 #[.slice A xs.length c, fv] w fun e w' => e = .returned (.bool (xs.any p)) ∧ w.grownBy w' none := by
  refine calls (G := G) (args := [.slice A xs.length c, fv]) Try.func90 rfl rfl rfl ?_
  refine M.run rfl <| M.cl rfl (IndexFuncI_go xs fv p A c w hA hf) ?_
  rintro e w1 ⟨rfl, e1⟩
  refine ⟨_, rfl, M.run rfl <| M.retF rfl rfl ⟨?_, e1⟩⟩
  rw [← firstI_neg]; rfl
/-- the closure within all: not -/
theorem notD {w : World} {g t : Nat} {fv : Value} {p : Dsp → Bool} (hB : Blk w g [fv] t) (hf : FnD w fv p) : FnD w (.func (.func 83) #[] #[.pointer (some ⟨g, 0, none⟩)]) (fun d => !p d) := by
  refine ⟨83, [], [.pointer (some ⟨g, 0, none⟩)], rfl, fun w1 e1 d A c hd => ?_⟩
  refine calls (G := G) (args := [vDsp d A c, .pointer (some ⟨g, 0, none⟩)]) Try.func83 rfl rfl rfl ?_
  refine M.run rfl <| M.nw rfl fun g2 w2 b2 e2 l2 => M.run rfl <| M.ld rfl (((hB.mv0 e1).mv0 e2).cell rfl rfl) <| M.run rfl <| M.ldA rfl rfl b2.cellsAll <| M.run rfl ?_
  obtain ⟨f, fst, cap, hc1, hc2⟩ := hf.mv (gr_trans e1 e2)
  refine M.clV rfl hc1 (hc2 w2 (gr_refl _ _) d A c (hd.mv e2)) ?_
  rintro e w3 ⟨rfl, e3⟩
  exact ⟨_, rfl, M.run rfl <| M.retF rfl rfl ⟨rfl, gr_trans e2 e3⟩⟩
theorem notI {w : World} {g t : Nat} {fv : Value} {p : Int → Bool} (hB : Blk w g [fv] t) (hf : FnI w fv p) : FnI w (.func (.func 91) #[] #[.pointer (some ⟨g, 0, none⟩)]) (fun d => !p d) := by
  refine ⟨91, [], [.pointer (some ⟨g, 0, none⟩)], rfl, fun w1 e1 x => ?_⟩
  refine calls (G := G) (args := [.int .i64 x, .pointer (some ⟨g, 0, none⟩)]) Try.func91 rfl rfl rfl ?_
  refine M.run rfl <| M.ld rfl ((hB.mv0 e1).cell rfl rfl) <| M.run rfl ?_
  obtain ⟨f, fst, cap, hc1, hc2⟩ := hf.mv e1
  refine M.clV rfl hc1 (hc2 w1 (gr_refl _ _) x) ?_
  rintro e w3 ⟨rfl, e3⟩
  exact ⟨_, rfl, M.run rfl <| M.retF rfl rfl ⟨rfl, e3⟩⟩
theorem allD_go (ds : List Dsp) (fv : Value) (p : Dsp → Bool) (hcell : fv.cells.toList = [fv]) (A : Option Addr) (c : Nat) (w : World) (hA : Rd dDsp w A c ds) (hf : FnD w fv p) :
    Calls Try.prog 53 #[.slice A ds.length c, fv] w fun e w' => e = .returned (.bool (ds.all p)) ∧ w.grownBy w' none := by
  refine calls (G := G) (args := [.slice A ds.length c, fv]) Try.func53 rfl rfl rfl ?_
  refine M.run rfl <| M.nw rfl fun g1 w1 b1 e1 l1 => M.run rfl ?_
  rw [hcell] at b1
  refine M.cl rfl (ContainsFuncD_go ds _ _ A c w1 (hA.mv e1) (notD b1 (hf.mv e1))) ?_
  rintro e w2 ⟨rfl, e2⟩
  refine ⟨_, rfl, M.run rfl <| M.retF rfl rfl ⟨?_, gr_trans e1 e2⟩⟩
  rw [← all_not]; rfl
theorem allI_go (xs : List Int) (fv : Value) (p : Int → Bool) (hcell : fv.cells.toList = [fv]) (A : Option Addr) (c : Nat) (w : World) (hA : Rd dI w A c xs) (hf : FnI w fv p) :
    Calls Try.prog 71 #[.slice A xs.length c, fv] w fun e w' => e = .returned (.bool (xs.all p)) ∧ w.grownBy w' none := by
  refine calls (G := G) (args := [.slice A xs.length c, fv]) Try.func71 rfl rfl rfl ?_
  refine M.run rfl <| M.nw rfl fun g1 w1 b1 e1 l1 => M.run rfl ?_
  rw [hcell] at b1
  refine M.cl rfl (ContainsFuncI_go xs _ _ A c w1 (hA.mv e1) (notI b1 (hf.mv e1))) ?_
  rintro e w2 ⟨rfl, e2⟩
  refine ⟨_, rfl, M.run rfl <| M.retF rfl rfl ⟨?_, gr_trans e1 e2⟩⟩
  rw [← all_not]; rfl
end Go.Proofs.Yteeikpmoboehdaa
end

section
/- Walks: dispatch, CheckAccount. -/
set_option linter.unusedVariables false
namespace Go.Proofs.Yteeikpmoboehdaa
open Go Go.Vc Go.RowKit Py

theorem _root_.Go.Vc.YS.slcTo {G : Ctx} {n : Nat} {all : Array Oper} {ρ : Env} {o : Oper} {W : World → Prop} {A : Option Addr} {c sz : Nat} {j : Int} (he : evSlc G.T n ρ all o = some (A, c, 0, j, sz)) (h1 : 0 ≤ j) (h2 : j ≤ c) : YS G n all ρ o W (.slice A j.toNat c) := by
  have h := YS.slc (W := W) he (Int.le_refl _) h1 h2
  have e1 : (if c = (0 : Int).toNat then A else A.map (·.add ((0 : Int).toNat * sz))) = A := by
    split
    · rfl
    · cases A <;> simp [Addr.add]
  have e2 : j.toNat - (0 : Int).toNat = j.toNat := by simp
  have e3 : c - (0 : Int).toNat = c := by simp
  rw [e1, e2, e3] at h
  exact h
theorem dispatch_go (a : Acc) (d : Dsp) (A : Option Addr) (c : Nat) (D : Option Addr) (dc : Nat) (w : World) (hst : 1 ≤ a.stations ∧ a.stations ≤ 7) (hD : Rd dI w D dc d.passed) :
    Calls Try.prog 52 #[vAcc a A c, vDsp d D dc] w fun e w' => e = .returned (.bool (dispatchOk a.stations d)) ∧ w.grownBy w' none := by
  refine calls (G := G) (args := [vAcc a A c, vDsp d D dc]) Try.func52 rfl rfl rfl ?_
  have hbd := hD.bd
  have hcap := hD.cap
  refine M.run rfl <| M.nw rfl fun g1 w1 b1 e1 l1 => M.run rfl <| M.nw rfl fun g2 w2 b2 e2 l2 => M.run rfl <| M.ld rfl (b2.cell rfl rfl) <| M.run rfl ?_
  have e02 := gr_trans e1 e2
  replace b1 := b1.mv0 e2
  refine M.loop (σ := Nat) (fun i => [(2, .pointer (some ⟨g1, 0, none⟩)), (3, .pointer (some ⟨g2, 0, none⟩)), (8, .slice D d.passed.length dc), (9, .int .i64 (d.passed.length : Int)), (10, .int .i64 (i : Int))])
    (fun i w' => i ≤ d.passed.length ∧ w2.grownBy w' none ∧ ∀ k, k < i → station a.stations (at0 d.passed k) = true ∧ (d.passed.take k).contains (at0 d.passed k) = false)
    (fun i => d.passed.length - i) 0 ⟨rfl, rfl, rfl, rfl, rfl, trivial⟩ ⟨Nat.zero_le _, gr_refl _ _, fun k h => by omega⟩ ?_
  rintro i w3 ⟨hi, e3, hn⟩
  have e03 := gr_trans e02 e3
  refine M.run rfl <| M.cond rfl (fun h => ?_) (fun h => ?_)
  · have hlt : i < d.passed.length := by have := of_decide_eq_true h; omega
    obtain ⟨hA1, hAC⟩ := rd_flat hD hlt
    rw [at0_get hlt] at hAC
    refine M.run rfl <| M.ix rfl (by omega) (by omega) hA1 <| M.run rfl <| M.ld rfl ((hAC w3 (gr_below e03)).one 0 rfl rfl) <| M.run rfl <| M.ldA rfl rfl (b1.mv0 e3).cellsAll <| M.run rfl <| M.cl rfl (station_go a A c (at0 d.passed i) (by omega) (by omega) w3) ?_
    rintro e w4 ⟨rfl, e4⟩
    have bad : station a.stations (at0 d.passed i) = false ∨ (d.passed.take i).contains (at0 d.passed i) = true → dispatchOk a.stations d = false := fun hb => by
      unfold dispatchOk
      rw [passedOk_false hlt hb, Bool.false_and]
    have e04 := gr_trans e03 e4
    refine ⟨_, rfl, M.at_ [19] rfl <| M.case 19 rfl (fun h1 => ?_) (fun h1 => ?_)⟩
    · refine M.run rfl <| M.condT rfl rfl <| M.run rfl <| M.retF rfl rfl ⟨?_, e04⟩
      rw [bad (.inl (by simpa using h1))]; rfl
    have h1' : station a.stations (at0 d.passed i) = true := by simpa using h1
    refine M.run rfl <| M.ld rfl (((b2.mv0 e3).mv0 e4).cell rfl rfl) <| M.run rfl <| M.ys (YS.slcTo rfl (by omega) (by omega)) <| M.run rfl ?_
    have hcon := Contains_go (d.passed.take i) (at0 d.passed i) D dc w4 ((rd_take hD i).mv e04)
    have hlen : (d.passed.take i).length = (i : Int).toNat := by simp; omega
    rw [hlen] at hcon
    refine M.cl rfl hcon ?_
    rintro e w5 ⟨rfl, e5⟩
    have e05 := gr_trans e04 e5
    refine ⟨_, rfl, M.run rfl <| M.cond rfl (fun h2 => ?_) (fun h2 => ?_)⟩
    · refine M.run rfl <| M.retF rfl rfl ⟨?_, e05⟩
      rw [bad (.inr h2)]; rfl
    · exact M.run rfl <| M.end_ ⟨i + 1, ⟨rfl, rfl, rfl, rfl, nxt hlt hbd, trivial⟩, ⟨by omega, gr_trans (gr_trans e3 e4) e5, fun k hk => by
        by_cases e : k < i
        · exact hn k e
        · have : k = i := by omega
          subst this
          exact ⟨h1', h2⟩⟩, by omega⟩
  · have hin : i = d.passed.length := by have := of_decide_eq_false h; omega
    have hp : passedOk a.stations d.passed = true := passedOk_true fun k hk => hn k (by omega)
    replace b2 := b2.mv0 e3
    refine M.run rfl <| M.ldA rfl rfl (b1.mv0 e3).cellsAll <| M.run rfl <| M.ld rfl (b2.cell rfl rfl) <| M.run rfl <| M.cl rfl (station_go a A c d.payer (by omega) (by omega) w3) ?_
    rintro e w4 ⟨rfl, e4⟩
    replace b2 := b2.mv0 e4
    have e04 := gr_trans e03 e4
    refine ⟨_, rfl, M.at_ [32] rfl <| M.case 32 rfl (fun h1 => ?_) (fun h1 => ?_)⟩
    rotate_left
    · refine M.run rfl <| M.retF rfl rfl ⟨?_, e04⟩
      simp [dispatchOk, hp, h1, oneOrTuple]
    refine M.run rfl <| M.ld rfl (b2.cell rfl rfl) <| M.at_ [38] rfl <| M.case 38 rfl (fun h2 => ?_) (fun h2 => ?_)
    rotate_left
    · refine M.run rfl <| M.retF rfl rfl ⟨?_, e04⟩
      simp [dispatchOk, hp, h1, h2, oneOrTuple]
    refine M.run rfl <| M.ld rfl (b2.cell rfl rfl) <| M.run rfl <| M.ld rfl (b2.cell rfl rfl) <| M.at_ [47] rfl <| M.case 47 rfl (fun h3 => ?_) (fun h3 => ?_)
    rotate_left
    · refine M.run rfl <| M.retF rfl rfl ⟨?_, e04⟩
      simp [dispatchOk, hp, h1, h2, h3, oneOrTuple]
    refine M.run rfl <| M.ld rfl (b2.cell rfl rfl) <| M.at_ [53] rfl <| M.case 53 rfl (fun h4 => ?_) (fun h4 => ?_)
    rotate_left
    · refine M.run rfl <| M.retF rfl rfl ⟨?_, e04⟩
      simp [dispatchOk, hp, h1, h2, h3, h4, oneOrTuple]
    refine M.run rfl <| M.ld rfl (b2.cell rfl rfl) <| M.run rfl <| M.retF rfl rfl ⟨?_, e04⟩
    simp [dispatchOk, hp, h1, h2, h3, h4, oneOrTuple]

theorem CheckAccount_go (a : Acc) (A : Option Addr) (c : Nat) (w : World) (hA : Rd dDsp w A c a.ds) :
    Calls Try.prog 18 #[vAcc a A c] w fun e w' => e = .returned (.int .i64 (fault a)) ∧ w.grownBy w' none := by
  refine calls (G := G) (args := [vAcc a A c]) Try.func18 rfl rfl rfl ?_
  refine M.run rfl <| M.nw rfl fun g1 w1 b1 e1 l1 => M.run rfl <| M.ldA rfl rfl b1.cellsAll <| M.run rfl <| M.ld rfl (b1.cell rfl rfl) ?_
  have wide : a.wide = true → fault a = 3 := fun h => by unfold fault; rw [if_pos h]
  refine M.at_ [10] rfl <| M.case 10 rfl (fun h1 => ?_) (fun h1 => ?_)
  · refine M.run rfl <| M.condT rfl rfl <| M.run rfl <| M.retF rfl rfl ⟨?_, e1⟩
    rw [wide (by simp only [Acc.wide, h1, Bool.true_or])]; rfl
  refine M.run rfl <| M.ld rfl (b1.cell rfl rfl) <| M.at_ [16] rfl <| M.case 16 rfl (fun h2 => ?_) (fun h2 => ?_)
  · refine M.run rfl <| M.condT rfl rfl <| M.run rfl <| M.retF rfl rfl ⟨?_, e1⟩
    rw [wide (by simp only [Acc.wide, h2, Bool.true_or, Bool.or_true])]; rfl
  refine M.run rfl <| M.ld rfl (b1.cell rfl rfl) <| M.run rfl <| M.cl rfl (allD_go a.ds (.func (.func 54) #[] #[]) (fun d => decide ((d.passed.length : Int) ≤ 5)) rfl A c w1 (hA.mv e1) ⟨54, [], [], rfl, fun w' _ d A c _ => few_go d A c w'⟩) ?_
  rintro e w2 ⟨rfl, e2⟩
  replace b1 := b1.mv0 e2
  have e02 := gr_trans e1 e2
  refine ⟨_, rfl, M.run rfl <| M.cond rfl (fun h3 => ?_) (fun h3 => ?_)⟩
  · refine M.run rfl <| M.retF rfl rfl ⟨?_, e02⟩
    rw [wide (by simp only [Acc.wide, h3, Bool.or_true])]; rfl
  have hw : a.wide = false := by simp only [Acc.wide, h1, h2, h3, Bool.or_false]
  have bad : a.bad = true → fault a = 1 := fun h => by unfold fault; rw [hw, h]; rfl
  have h7 : a.stations ≤ 7 := by have := of_decide_eq_false h1; omega
  refine M.run rfl <| M.ld rfl (b1.cell rfl rfl) <| M.at_ [26] rfl <| M.case 26 rfl (fun h4 => ?_) (fun h4 => ?_)
  · refine M.run rfl <| M.condT rfl rfl <| M.run rfl <| M.retF rfl rfl ⟨?_, e02⟩
    rw [bad (by simp only [Acc.bad, h4, Bool.true_or])]; rfl
  have h4' : 1 ≤ a.stations := by have := of_decide_eq_false h4; omega
  refine M.run rfl <| M.ld rfl (b1.cell rfl rfl) <| M.run rfl <| M.cl rfl (within_go _ _ _ _) ?_
  rintro e w3 ⟨rfl, e3⟩
  replace b1 := b1.mv0 e3
  have e03 := gr_trans e02 e3
  refine ⟨_, rfl, M.at_ [32] rfl <| M.case 32 rfl (fun h5 => ?_) (fun h5 => ?_)⟩
  · refine M.run rfl <| M.condT rfl rfl <| M.run rfl <| M.retF rfl rfl ⟨?_, e03⟩
    rw [bad (by simp only [Acc.bad, h5, Bool.true_or, Bool.or_true])]; rfl
  refine M.run rfl <| M.ld rfl (b1.cell rfl rfl) <| M.run rfl <| M.cl rfl (within_go _ _ _ _) ?_
  rintro e w4 ⟨rfl, e4⟩
  replace b1 := b1.mv0 e4
  have e04 := gr_trans e03 e4
  refine ⟨_, rfl, M.at_ [38] rfl <| M.case 38 rfl (fun h6 => ?_) (fun h6 => ?_)⟩
  · refine M.run rfl <| M.condT rfl rfl <| M.run rfl <| M.retF rfl rfl ⟨?_, e04⟩
    rw [bad (by simp only [Acc.bad, h6, Bool.true_or, Bool.or_true])]; rfl
  refine M.run rfl <| M.ld rfl (b1.cell rfl rfl) <| M.run rfl <| M.cl rfl (allD_go a.ds _ (dispatchOk a.stations) rfl A c w4 (hA.mv e04) ⟨52, [vAcc a A c], [], rfl, fun w' _ d D dc hd => dispatch_go a d A c D dc w' ⟨h4', h7⟩ hd⟩) ?_
  rintro e w5 ⟨rfl, e5⟩
  have e05 := gr_trans e04 e5
  refine ⟨_, rfl, M.run rfl <| M.cond rfl (fun h8 => ?_) (fun h8 => ?_)⟩
  · refine M.run rfl <| M.retF rfl rfl ⟨?_, e05⟩
    rw [bad (by simp only [Acc.bad, h8, Bool.or_true])]; rfl
  · refine M.run rfl <| M.retF rfl rfl ⟨?_, e05⟩
    have hb : a.bad = false := by simp only [Acc.bad, h4, h5, h6, h8, Bool.or_false]
    unfold fault
    rw [hw, hb]; rfl
end Go.Proofs.Yteeikpmoboehdaa
end

section
/- Rows of the call's own: made, an element written, read; more of drawn regions. (From the lamp texts.) -/
set_option linter.unusedVariables false
namespace Go.Vc
open Go.RowKit
variable {G : Ctx} {n : Nat} {all : Array Oper} {R RL : World → World → Prop} {late ex sk : List Nat} {k : List It} {Q : QT} {m : Nat} {done : List Nat} {ρ : Env} {w : World} {d : Tmp} {op : Op} {ty : TypeId} {pos : String} {after : Array Edge} {gd : Option (Nat × Bool)} {v : Value}
theorem D.ysX (i : Nat) (ho : all[i]? = some ⟨some d, op, ty, pos, after, gd⟩) (ht : takeB all done sk i = true) (hx : memN i ex = true) (hy : YS G n all ρ ⟨some d, op, ty, pos, after, gd⟩ (fun w' => RL w w') v)
    (h : D G n all R RL late ex sk k Q m (i :: done) ((d, v) :: ρ) w) : D G n all R RL late ex sk k Q (m + 1) done ρ w := D.takeX ho ht hx hy h
theorem seg_rep (zs : List Value) : ∀ (n j : Nat), j < n → seg ((List.replicate n zs).flatten) j zs.length = zs
  | 0, j, h => by omega
  | n + 1, 0, _ => by
    unfold seg
    rw [List.replicate_succ, List.flatten_cons, Nat.zero_mul, List.drop_zero, List.take_left']
    rfl
  | n + 1, j + 1, h => by
    have ih := seg_rep zs n j (by omega)
    unfold seg at ih ⊢
    rw [List.replicate_succ, List.flatten_cons, Nat.add_mul, Nat.one_mul, Nat.add_comm (j * zs.length), List.drop_length_add_append]
    exact ih
theorem rep_len (zs : List Value) : ∀ n, ((List.replicate n zs).flatten).length = n * zs.length
  | 0 => by simp
  | n + 1 => by rw [List.replicate_succ, List.flatten_cons, List.length_append, rep_len zs n, Nat.add_mul, Nat.one_mul, Nat.add_comm]
theorem own_mk {α : Type} {enc : α → List Value} {sz : Nat} {hl : ∀ x, (enc x).length = sz} {hp : ∀ x, ∀ c ∈ enc x, c.oneCell' = true} {w : World} {g e base : Nat} (F : Nat → Prop) {zs : List Value} {cnt : Nat} (x : α) (hz : zs = enc x) (hB : Blk w g ((List.replicate cnt zs).flatten) e) (hb : base ≤ g) (hn : cnt ≤ maxLen) :
    Own (Rp.flat enc sz hl hp) e w base F (some ⟨g, 0, none⟩) cnt (List.replicate cnt x) := by
  refine .inr ⟨g, _, rfl, hb, hB, by simp, hn, ?_, fun j y hj => ?_⟩
  · have : zs.length = sz := by rw [hz]; exact hl x
    show _ = cnt * sz
    rw [rep_len, this]
  · have hj' := List.getElem?_eq_some_iff.1 hj
    obtain ⟨hlt, he⟩ := hj'
    simp at hlt he
    subst he
    have := seg_rep zs cnt j hlt
    show seg _ j sz = enc x
    rw [show sz = zs.length by rw [hz]; exact (hl x).symm, this, hz]
theorem seg_over {cs vs : List Value} {j sz : Nat} (hv : vs.length = sz) (hl : (j + 1) * sz ≤ cs.length) : seg (cs.take (j * sz) ++ vs ++ cs.drop (j * sz + vs.length)) j sz = vs ∧ ∀ i, i ≠ j → seg (cs.take (j * sz) ++ vs ++ cs.drop (j * sz + vs.length)) i sz = seg cs i sz := by
  have hl' : j * sz + sz ≤ cs.length := by rw [Nat.add_mul, Nat.one_mul] at hl; exact hl
  have htk : (cs.take (j * sz)).length = j * sz := by rw [List.length_take]; exact Nat.min_eq_left (by omega)
  constructor
  · unfold seg
    rw [List.append_assoc, List.drop_left' htk, List.take_left' hv]
  · intro i hi
    unfold seg
    apply List.ext_getElem?
    intro q
    rw [List.getElem?_take, List.getElem?_take]
    by_cases hq : q < sz
    · rw [if_pos hq, if_pos hq, List.getElem?_drop, List.getElem?_drop, List.append_assoc]
      by_cases hij : i < j
      · have : i * sz + sz ≤ j * sz := by have := Nat.mul_le_mul_right sz (show i + 1 ≤ j by omega); rw [Nat.add_mul, Nat.one_mul] at this; exact this
        rw [List.getElem?_append_left (by omega), List.getElem?_take, if_pos (by omega)]
      · have : j * sz + sz ≤ i * sz := by have := Nat.mul_le_mul_right sz (show j + 1 ≤ i by omega); rw [Nat.add_mul, Nat.one_mul] at this; exact this
        rw [List.getElem?_append_right (by omega), htk, List.getElem?_append_right (by omega), List.getElem?_drop]
        congr 1; omega
    · rw [if_neg hq, if_neg hq]
/-- an element of an own row is written as a whole -/
theorem own_setE {α : Type} {enc : α → List Value} {sz : Nat} {hl : ∀ x, (enc x).length = sz} {hp : ∀ x, ∀ c ∈ enc x, c.oneCell' = true} {e : Nat} {w : World} {base : Nat} {F : Nat → Prop} {A : Option Addr} {c : Nat} {xs : List α} (h : Own (Rp.flat enc sz hl hp) e w base F A c xs) {j : Nat} (hj : j < xs.length) :
    ∃ g cur, A = some ⟨g, 0, none⟩ ∧ base ≤ g ∧ Blk w g cur e ∧ (j + 1) * sz ≤ cur.length ∧ ∀ (y : α) (w' : World), Blk w' g (cur.take (j * sz) ++ enc y ++ cur.drop (j * sz + (enc y).length)) e → Own (Rp.flat enc sz hl hp) e w' base F A c (xs.set j y) := by
  rcases h with ⟨_, hx, _⟩ | ⟨g, cur, rfl, hb, hB, hlc, hm, hs, hx⟩
  · subst hx; simp at hj
  · have hs' : cur.length = c * sz := hs
    have hjl : (j + 1) * sz ≤ cur.length := by rw [hs']; exact Nat.mul_le_mul_right sz (by omega)
    refine ⟨g, cur, rfl, hb, hB, hjl, fun y w' hw' => .inr ⟨g, _, rfl, hb, hw', by simpa using hlc, hm, ?_, fun i x hi => ?_⟩⟩
    · have h1 : (j + 1) * sz = j * sz + sz := by rw [Nat.add_mul, Nat.one_mul]
      show (cur.take (j * sz) ++ enc y ++ cur.drop (j * sz + (enc y).length)).length = c * sz
      rw [hl y]
      simp only [List.length_append, List.length_take, List.length_drop, hl y]
      omega
    · obtain ⟨s1, s2⟩ := seg_over (cs := cur) (hl y) hjl
      rw [List.getElem?_set] at hi
      by_cases hji : j = i
      · subst hji
        rw [if_pos rfl, if_pos hj] at hi
        injection hi with hi
        subst hi
        exact s1
      · rw [if_neg hji] at hi
        have hk := hx i x hi
        have hk' : seg cur i sz = enc x := hk
        show seg _ i sz = enc x
        rw [s2 i (fun e => hji e.symm)]
        exact hk'
def Keep (N : Nat) (a b : World) : Prop := a.heap.size ≤ b.heap.size ∧ ∀ g, g < N → g < a.heap.size → b.heap[g]? = a.heap[g]?
theorem Keep.refl (N : Nat) (w : World) : Keep N w w := ⟨Nat.le_refl _, fun _ _ _ => rfl⟩
theorem Keep.trans {N : Nat} {a b c : World} (h : Keep N a b) (k : Keep N b c) : Keep N a c := ⟨Nat.le_trans h.1 k.1, fun g h1 h2 => (k.2 g h1 (Nat.lt_of_lt_of_le h2 h.1)).trans (h.2 g h1 h2)⟩
theorem Keep.of {N : Nat} {a b : World} {r : Option Nat} (h : a.grownBy b r) (hr : ∀ g, r = some g → N ≤ g) : Keep N a b := ⟨h.size, fun g h1 h2 => h.block g h2 (fun e => by have := hr g e.symm; omega)⟩
theorem Keep.of0 {N : Nat} {a b : World} (h : a.grownBy b none) : Keep N a b := Keep.of h (by simp)
theorem Keep.blk {N : Nat} {a b : World} (h : Keep N a b) {g : Nat} {cs : List Value} {t : Nat} (hB : Blk a g cs t) (hg : g < N) : Blk b g cs t := (h.2 g hg hB.lt).trans hB
set_option maxHeartbeats 1000000 in
theorem tmodN {a : Int} {n : Nat} (h : 0 ≤ a) : a.tmod (n : Int) = ((a.toNat % n : Nat) : Int) := by
  have : a = ((a.toNat : Nat) : Int) := by omega
  rw [this, Int.toNat_natCast]
  rfl
theorem ad1 (g j : Nat) : (adOf (some (⟨g, 0, none⟩ : Addr))).add (j * 1) = ⟨g, j, none⟩ := by
  show Addr.add ⟨g, 0, none⟩ (j * 1) = _
  rw [add_plain]; simp
theorem own_int {k : IntKind} {e : Nat} {w : World} {base : Nat} {F : Nat → Prop} {A : Option Addr} {c : Nat} {xs : List Int} (h : Own (Rp.int k) e w base F A c xs) {j : Nat} (hj : j < xs.length) :
    ∃ g cur, A = some ⟨g, 0, none⟩ ∧ base ≤ g ∧ Blk w g cur e ∧ j + 1 ≤ cur.length ∧ w.cell? ⟨g, j, none⟩ = some (.int k xs[j]) ∧
      ∀ (v : Int) (w' : World), Blk w' g (cur.take j ++ [.int k v] ++ cur.drop (j + 1)) e → Own (Rp.int k) e w' base F A c (xs.set j v) := by
  obtain ⟨g, cur, hA, hb, hB, hl, hC, _, hset⟩ := h.at_flat (List.getElem?_eq_getElem hj)
  refine ⟨g, cur, hA, hb, hB, by omega, ?_, fun v w' hw' => ?_⟩
  · have := hC 0 _ rfl
    rw [add_plain, add_plain] at this
    simpa using this
  · refine hset 0 (.int k v) v w' (by decide) rfl ?_
    rw [over_set _ _ _ (by omega)] at hw'
    simpa using hw'

theorem D.three {G : Ctx} {n : Nat} {all : Array Oper} {R RL : World → World → Prop} {late ex sk : List Nat} {k : List It} {Q : QT} {m : Nat} {done : List Nat} {ρ : Env} {w : World} (i j l : Nat) (hr : readyGo done 0 all.toList = [i, j, l]) {o p q : Oper} (ho : all[i]? = some o) (hp : all[j]? = some p) (hq : all[l]? = some q)
    (h1 : M G n (.ops all [o] :: .stop (fun ρ' w' => ((memN i late = true ∧ RL w w') ∨ R w w') ∧ D G n all R RL late ex sk k Q m (i :: done) ρ' w') :: k) Q ρ w)
    (h2 : M G n (.ops all [p] :: .stop (fun ρ' w' => ((memN j late = true ∧ RL w w') ∨ R w w') ∧ D G n all R RL late ex sk k Q m (j :: done) ρ' w') :: k) Q ρ w)
    (h3 : M G n (.ops all [q] :: .stop (fun ρ' w' => ((memN l late = true ∧ RL w w') ∨ R w w') ∧ D G n all R RL late ex sk k Q m (l :: done) ρ' w') :: k) Q ρ w) :
    D G n all R RL late ex sk k Q (m + 1) done ρ w := D.oneG (by
  rw [hr]
  intro x hx
  simp only [List.mem_cons, List.not_mem_nil, or_false] at hx
  rcases hx with rfl | rfl | rfl
  · exact ⟨o, ho, h1⟩
  · exact ⟨p, hp, h2⟩
  · exact ⟨q, hq, h3⟩) (by rw [hr]; simp)
theorem own_cell {k : IntKind} {e : Nat} {w : World} {base : Nat} {F : Nat → Prop} {A : Option Addr} {c : Nat} {xs : List Int} (h : Own (Rp.int k) e w base F A c xs) {j : Nat} (hj : j < xs.length) {g : Nat} (hA : A = some ⟨g, 0, none⟩) {w' : World} {r : Option Nat} (hg : w.grownBy w' r) (hr : r ≠ some g) : w'.cell? ⟨g, j, none⟩ = some (.int k xs[j]) := by
  obtain ⟨g', cur, hA', _, hB, hl, hC, _⟩ := h.at_flat (List.getElem?_eq_getElem hj)
  subst hA
  have : g = g' := by injection hA' with hA'; injection hA'
  subst this
  have hB' := hB.mv hg hr
  have h2 := (hC.move (w' := w') (by rw [add_block]; exact hB'.trans hB.symm)) 0 _ rfl
  rw [add_plain, add_plain] at h2
  simpa using h2
end Go.Vc
end

section
/- Walks: Clone, Repeat (with bits.Mul). -/
set_option linter.unusedVariables false
namespace Go.Proofs.Yteeikpmoboehdaa
open Go Go.Vc Go.RowKit Py

theorem Clone_go (xs : List Int) (A : Option Addr) (c : Nat) (w : World) (hA : Rd dI w A c xs) (hs : xs.length ≤ 1000000) :
    Calls Try.prog 58 #[.slice A xs.length c] w fun e w' => ∃ X x, e = .returned (.slice X xs.length x) ∧ Vc.Own dI 3 w' w.heap.size no X x xs ∧ w.grownBy w' none := by
  refine calls (G := G) (args := [.slice A xs.length c]) Try.func58 rfl rfl rfl ?_
  refine M.run rfl <| M.ys (YS.eqNil rfl) <| M.run rfl <| M.cond rfl (fun h => ?_) (fun h => ?_)
  · have hA0 : A = none := by cases A <;> simp_all
    have := sl_none hA hA0
    subst this
    exact M.run rfl <| M.retF rfl rfl ⟨none, 0, rfl, Vc.Own.nil _ _ _ _ _, gr_refl _ _⟩
  refine M.run rfl (M.bs0 rfl fun g w1 b1 e1 l1 => M.run rfl ?_)
  have hsrc : SrcAt dI w1 (fun b => no b ∧ some b ≠ blkOf (some ⟨g, 0, none⟩)) (adOf A) xs := fun j y hj => by
    obtain ⟨_, _, cs, hk, hc⟩ := (hA.mv e1).at_ j y hj
    exact ⟨cs, hk, hc⟩
  refine M.appS (d := dI) rfl rfl (own_bs0 dI no b1 l1) rfl (by decide) rfl (ys := xs) rfl (sl_none hA) hsrc e1.size (by simp; omega) (by decide) fun X x w2 hX e2 hat => ?_
  have e02 := (own_bs0 dI no b1 l1).gr e1 e2 (Nat.le_refl _)
  exact M.run rfl (M.retF rfl rfl ⟨X, x, rfl, by simpa using hX, e02⟩)

/-- one times a small number -/
theorem Mul64_go (n : Int) (hn : 1 ≤ n ∧ n ≤ 5) (w : World) : Calls Try.prog 96 #[.int .u64 1, .int .u64 n] w fun e w' => e = .returned (.tuple #[.int .u64 0, .int .u64 n]) ∧ w.grownBy w' none := by
  refine calls (G := G) (args := [.int .u64 1, .int .u64 n]) Try.func96 rfl rfl rfl ?_
  obtain rfl | rfl | rfl | rfl | rfl : n = 1 ∨ n = 2 ∨ n = 3 ∨ n = 4 ∨ n = 5 := by omega
  all_goals exact M.run rfl <| M.retF rfl rfl ⟨rfl, gr_refl _ _⟩
theorem Mul_go (n : Int) (hn : 1 ≤ n ∧ n ≤ 5) (w : World) : Calls Try.prog 93 #[.int .u64 1, .int .u64 n] w fun e w' => e = .returned (.tuple #[.int .u64 0, .int .u64 n]) ∧ w.grownBy w' none := by
  refine calls (G := G) (args := [.int .u64 1, .int .u64 n]) Try.func93 rfl rfl rfl ?_
  refine M.run rfl <| M.condF rfl rfl <| M.run rfl <| M.cl rfl (Mul64_go n hn w) ?_
  rintro e w1 ⟨rfl, e1⟩
  exact ⟨_, rfl, M.run rfl <| M.retF rfl rfl ⟨rfl, e1⟩⟩

/-- one block may be written within a region -/
theorem _root_.Go.Vc.M.drawW (g : Nat) {G : Ctx} {n : Nat} {all : Array Oper} {k : List It} {ρ : Env} {w : World} {fn : Func} {S : Ending → World → Prop} {id : Nat} (hB : regB all [] [] [] = true)
    (h : ∀ w', w.grownBy w' none → D G n all (fun w w' => w.grownBy w' (some g)) (fun _ _ => True) [] [] [] k (fin G n fn S) all.size [] ρ w') : M G n (.code (.region id all true) :: k) (fin G n fn S) ρ w :=
  M.draw (fun a b : World => a.grownBy b (some g)) (fun _ _ => True) [] [] [] (fun _ _ _ h => h) (fun w => gr_refl w _) (fun a b c h k => gr_transR h k) (fun _ _ _ => trivial) (fun _ _ _ _ _ => trivial) hB (h _ (gr_drewN w 1))
theorem rep_split (x : Value) (z : Value) {j c n : Nat} (h : j + c ≤ n) : (List.replicate j x ++ List.replicate (n - j) z).take j ++ List.replicate c x ++ (List.replicate j x ++ List.replicate (n - j) z).drop (j + c) = List.replicate (j + c) x ++ List.replicate (n - (j + c)) z := by
  rw [List.take_left' (by simp), List.replicate_append_replicate]
  congr 1
  rw [List.drop_append]
  simp
  omega
theorem Repeat_go (x n : Int) (hn : 1 ≤ n ∧ n ≤ 5) (A : Option Addr) (c : Nat) (w : World) (hA : Rd dI w A c [x]) :
    Calls Try.prog 84 #[.slice A 1 c, .int .i64 n] w fun e w' => ∃ X, e = .returned (.slice X n.toNat n.toNat) ∧ Vc.Own dI 3 w' w.heap.size no X n.toNat (List.replicate n.toNat x) ∧ w.grownBy w' none := by
  obtain ⟨hA1, hAC⟩ := rd_flat hA (j := 0) (by simp)
  obtain ⟨ad, rfl⟩ : ∃ ad, A = some ad := ⟨_, hA1⟩
  have hcc := fun w' hb => (hAC w' hb)
  simp only [adOf, Option.getD_some, Nat.zero_mul, Addr.add, if_pos, List.getElem_cons_zero] at hcc
  refine calls (G := G) (args := [.slice (some ad) 1 c, .int .i64 n]) Try.func84 rfl rfl rfl ?_
  refine M.run rfl <| M.condF rfl (decide_eq_false (by omega)) <| M.run rfl ?_
  rw [show IntKind.u64.wrap n = n by rw [IntKind.wrap_u64]; omega]
  refine M.cl rfl (Mul_go n hn w) ?_
  rintro e w1 ⟨rfl, e1⟩
  refine ⟨_, rfl, M.at_ [23] rfl <| M.caseF 23 rfl rfl <| M.run rfl <| M.condF rfl (decide_eq_false (by omega)) <| M.run rfl ?_⟩
  rw [w64 (x := n) (by omega) (by omega)]
  obtain ⟨m, rfl⟩ : ∃ m : Nat, n = m := ⟨n.toNat, by omega⟩
  refine M.mk_ rfl (by omega) (Int.le_refl _) (by simp; omega) (by omega) rfl fun g w2 b2 e2 l2 => ?_
  rw [Int.toNat_natCast] at b2 ⊢
  have e02 := gr_trans e1 e2
  have b2' : Blk w2 g (List.replicate m (.int .i64 0)) 3 := by
    have : (List.replicate m [Value.int .i64 0]).flatten = List.replicate m (.int .i64 0) := by
      induction m with
      | zero => rfl
      | succ k _ => simp
    rw [← this]; exact b2
  refine M.run rfl <| M.cpy (cs := [.int .i64 x]) rfl rfl b2' (by simp; omega) (hcc w2 (gr_below e02)) (by simp; omega) (by intro v hv; simp at hv; subst hv; rfl) fun w3 b3 e3 => ?_
  have b3' : Blk w3 g (List.replicate 1 (.int .i64 x) ++ List.replicate (m - 1) (.int .i64 0)) 3 := by
    have := rep_split (.int .i64 x) (.int .i64 0) (j := 0) (c := 1) (n := m) (by omega)
    simp only [List.replicate_zero, List.nil_append, Nat.sub_zero, Nat.zero_add] at this
    rw [← this]; exact b3
  have e03 : w.grownBy w3 none := gr_fresh e02 e3 (Nat.le_trans e1.size l2)
  refine M.run rfl <| M.loop (σ := Nat) (fun j => [(7, .slice (some ⟨g, 0, none⟩) m m), (8, .int .i64 (j : Int))]) (fun j w' => 1 ≤ j ∧ j ≤ m ∧ w.grownBy w' none ∧ Blk w' g (List.replicate j (.int .i64 x) ++ List.replicate (m - j) (.int .i64 0)) 3)
    (fun j => m - j) 1 ⟨rfl, rfl, trivial⟩ ⟨Nat.le_refl _, by omega, e03, b3'⟩ ?_
  rintro j w4 ⟨hj1, hjm, e04, b4⟩
  refine M.run rfl <| M.cond rfl (fun h => ?_) (fun h => ?_)
  rotate_left
  · have hj : j = m := by have := of_decide_eq_false h; omega
    subst hj
    refine M.run rfl <| M.retF rfl rfl ⟨_, rfl, ?_, e04⟩
    have := own_mk (enc := fun x => [Value.int .i64 x]) (sz := 1) (hl := fun _ => rfl) (hp := fun _ c h => by simp at h; subst h; rfl) (e := 3) (base := w.heap.size) no (zs := [.int .i64 x]) (cnt := j) (w := w4) (g := g) x rfl (by
      have h2 : (List.replicate j [Value.int .i64 x]).flatten = List.replicate j (.int .i64 x) ++ List.replicate (j - j) (.int .i64 0) := by
        rw [Nat.sub_self]
        simp
      rw [h2]; exact b4) (Nat.le_trans e1.size l2) (by simp [maxLen]; omega)
    exact this
  have hlt : j < m := by have := of_decide_eq_true h; omega
  refine M.run rfl <| M.drawW g (by kernel_rfl) fun w5 e5 => ?_
  have b5 := b4.mv0 e5
  have hne : ¬ m = (j : Int).toNat := by omega
  refine D.run rfl <| D.ys 3 rfl rfl rfl (YS.slc rfl (by omega) (by omega) (by omega)) <| D.ys 6 rfl rfl rfl (YS.slcTo rfl (by omega) (by omega)) ?_
  rw [if_neg hne]
  have hmin : min j (m - j) ≤ j := Nat.min_le_left _ _
  have hmin2 : min j (m - j) ≤ m - j := Nat.min_le_right _ _
  have hmin3 : 1 ≤ min j (m - j) := by omega
  refine D.one 7 rfl rfl <| M.cpy (cs := List.replicate (min j (m - j)) (.int .i64 x)) rfl (by
      show Addr.add _ _ = _
      rw [add_plain]) b5 (by simp) (b5.cells 0 rfl ⟨List.replicate (j - min j (m - j)) (.int .i64 x) ++ List.replicate (m - j) (.int .i64 0), by
        rw [List.drop_zero, ← List.append_assoc, List.replicate_append_replicate, show min j (m - j) + (j - min j (m - j)) = j by omega]⟩) (by simp; omega) (by intro v hv; have := List.eq_of_mem_replicate hv; subst this; rfl) fun w6 b6 e6 => M.run rfl <| M.end_ ⟨.inr e6, D.run rfl <| D.done_ rfl <| M.run rfl ?_⟩
  have b6' : Blk w6 g (List.replicate (j + min j (m - j)) (.int .i64 x) ++ List.replicate (m - (j + min j (m - j))) (.int .i64 0)) 3 := by
    have := rep_split (.int .i64 x) (.int .i64 0) (j := j) (c := min j (m - j)) (n := m) (by omega)
    rw [← this]
    simpa using b6
  refine M.end_ ⟨j + min j (m - j), ⟨rfl, ?_, trivial⟩, ⟨by omega, by omega, gr_fresh (gr_trans e04 e5) e6 (Nat.le_trans e1.size l2), b6'⟩, by omega⟩
  show some (Value.int .i64 (IntKind.i64.wrap ((j : Int) + ((List.replicate (min j (m - j)) (Value.int .i64 x)).length : Nat)))) = _
  rw [List.length_replicate, w64 (by omega) (by omega)]
  rfl
end Go.Proofs.Yteeikpmoboehdaa
end

section
/- Regions beside deferred calls (behind a range over a function): any region of a walk, drawn or not, with what is deferred left as it is. -/
set_option linter.unusedVariables false
set_option linter.unusedSimpArgs false
namespace Go.Vc
open Go.RowKit
def sd (D : List Deferred) (a : Act) : Act := { a with defers := a.defers ++ D }
theorem sd_eval (D : List Deferred) (a : Act) : (sd D a).eval = a.eval := by funext x; cases x <;> rfl
theorem sd_put (D : List Deferred) (a : Act) (d : Option Tmp) (v : Value) : (sd D a).put d v = sd D (a.put d v) := by cases d <;> rfl
section
variable {P : Program} {D : List Deferred} {all : Array Oper} {Q Q' : Exit → Act → World → Prop}
theorem upon_sd {o : Oper} (hp : ∀ e a w, e ≠ .normal → ¬ Q e a w) {a : Act} {K K' : Act → World → Prop} (hK : ∀ a w, K a w → K' (sd D a) w) {w : World} (h : o.wp P a w K Q) : o.wp P (sd D a) w K' Q' := by
  unfold Oper.wp at h ⊢
  rw [sd_eval]
  generalize (execOp a.eval o).run P w = r at *
  cases r with
  | ok x w' =>
    cases x <;> simp only [Oper.upon] at h ⊢
    case value v => rw [sd_put]; exact hK _ _ h
    case skip => rw [sd_put]; exact hK _ _ h
    case defer d =>
      have : ({ sd D a with defers := d :: (sd D a).defers } : Act).put o.dst undef = sd D (({ a with defers := d :: a.defers } : Act).put o.dst undef) := by
        rw [← sd_put]; rfl
      rw [this]; exact hK _ _ h
    case enter f args =>
      refine Calls.mono h fun e w'' he => ?_
      cases e with
      | returned u => simp only [sd_put] at he ⊢; exact hK _ _ he
      | panicked c => exact (hp _ _ _ (by simp) he).elim
      | outgrown => obtain ⟨a', w', hq'⟩ := he; exact (hp _ _ _ (by simp) hq').elim
    case row row args =>
      intro c cs
      obtain ⟨v, w'', r, s⟩ := h c cs
      refine ⟨v, w'', ?_, s⟩
      show K' ((sd D a).put o.dst v) w''
      rw [sd_put]; exact hK _ _ r
    all_goals exact h
  | halt x w' =>
    cases x <;> simp only [Oper.upon] at h ⊢
    case panic u => exact (hp _ _ _ (by simp) h).elim
    all_goals exact h
theorem wpOp_sd {i : Nat} (hp : ∀ e a w, e ≠ .normal → ¬ Q e a w) {a : Act} {K K' : Act → World → Prop} (hK : ∀ a w, K a w → K' (sd D a) w) {w : World} (h : wpOp P all Q i K a w) : wpOp P all Q' i K' (sd D a) w := by
  unfold wpOp at h ⊢
  cases hi : all[i]? with
  | none => rw [hi] at h; exact hK _ _ h
  | some o =>
    rw [hi] at h
    simp only at h ⊢
    have e : (sd D a).tmps = a.tmps := rfl
    rw [e]
    split at h
    · rename_i hw
      rw [if_pos hw]
      rcases h with h | ⟨_, a', w', hq⟩
      · exact .inl (upon_sd hp hK h)
      · exact (hp _ _ _ (by simp) hq).elim
    · rename_i hw
      rw [if_neg hw, sd_put]; exact hK _ _ h
theorem wpR_sd {R RL : World → World → Prop} {late : List Nat} (hp : ∀ e a w, e ≠ .normal → ¬ Q e a w) (hq : ∀ a w, Q .normal a w → Q' .normal (sd D a) w) : ∀ (f : Nat) (listed : Array Bool) (a : Act) (w : World), wpR P all Q R RL late f listed a w → wpR P all Q' R RL late f listed (sd D a) w
  | 0, _, _, _, h => ⟨h.1, hq _ _ h.2⟩
  | f + 1, _, _, _, h => ⟨fun h0 => hq _ _ (h.1 h0), fun i hi => wpOp_sd hp (fun a' w' h' => ⟨h'.1, wpR_sd hp hq f _ a' w' h'.2⟩) (h.2 i hi)⟩
theorem wpList_sd (hp : ∀ e a w, e ≠ .normal → ¬ Q e a w) (hq : ∀ a w, Q .normal a w → Q' .normal (sd D a) w) : ∀ (l : List Oper) (a : Act) (w : World), wpList P all Q l a w → wpList P all Q' l (sd D a) w
  | [], _, _, h => hq _ _ h
  | o :: l, a, w, h => by
    unfold wpList at h ⊢
    have e : (sd D a).tmps = a.tmps := rfl
    rw [e]
    split at h
    · rename_i hw
      rw [if_pos hw]
      rcases h with h | ⟨_, a', w', hq'⟩
      · exact .inl (upon_sd hp (fun a' w' h' => wpList_sd hp hq l a' w' h') h)
      · exact (hp _ _ _ (by simp) hq').elim
    · rename_i hw
      rw [if_neg hw, sd_put]; exact wpList_sd hp hq l _ w h
end
section
variable {G : Ctx} {n : Nat} {all : Array Oper} {ρ : Env} {w : World} {m : Nat}
/-- a region that is not drawn, whatever calls are deferred -/
theorem regD {Q' : Exit → Act → World → Prop} {id : Nat} {Df : List Deferred} {a : Act} (hfit : Fits n ρ { a with defers := [] }) (ha : a.defers = Df) (J : Env → World → Prop) (h : M G n [.ops all all.toList, .stop J] (fun _ _ _ => False) ρ w)
    (hr : ∀ ρ' a' w', Fits n ρ' a' → J ρ' w' → Q' .normal { a' with defers := Df } w') : (Code.region id all false).wpIn Fence.wide m G.P Q' a w := by
  refine wpIn_wide.2 (wp_region_list ?_)
  have h1 := h.out _ hfit
  have e : a = sd Df { a with defers := [] } := by cases a; simp only at ha; subst ha; rfl
  rw [e]
  refine wpList_sd (fun e a w hne hq => ?_) (fun a' w' hq => ?_) _ _ _ h1
  · obtain ⟨ρ', _, hq⟩ := hq
    cases e <;> first | exact hne rfl | exact hq
  · obtain ⟨ρ', hf', hq⟩ := hq
    have : sd Df a' = { a' with defers := Df } := by unfold sd; rw [hf'.defers]; rfl
    rw [this]
    exact hr ρ' a' w' hf' hq
/-- a region that is drawn, whatever calls are deferred -/
theorem drawD {Q' : Exit → Act → World → Prop} (R RL : World → World → Prop) (late ex sk : List Nat) (hR : ∀ w, R w w) (hT : ∀ a b c, R a b → R b c → R a c) (hS : ∀ a b, R a b → RL a b) (hL : ∀ a b c, RL a b → RL b c → RL a c) {id : Nat} (hB : regB all late ex sk = true)
    {Df : List Deferred} {a : Act} (hfit : Fits n ρ { a with defers := [] }) (ha : a.defers = Df) (J : Env → World → Prop) (h : D G n all R RL late ex sk [.stop J] (fun _ _ _ => False) all.size [] ρ (w.drewN 1))
    (hr : ∀ ρ' a' w', Fits n ρ' a' → J ρ' w' → Q' .normal { a' with defers := Df } w') : (Code.region id all true).wpIn Fence.wide m G.P Q' a w := by
  refine wpIn_wide.2 (wp_region_any G.mixed (wpAny_of_R (R := R) (RL := RL) (late := late) _ _ _ _ ?_))
  have h1 := h.out hR hT hS hL (fun _ _ _ h => h) hB _ hfit _ (lst_start all)
  have e : a = sd Df { a with defers := [] } := by cases a; simp only at ha; subst ha; rfl
  rw [e]
  refine wpR_sd (fun e a w hne hq => ?_) (fun a' w' hq => ?_) _ _ _ _ h1
  · obtain ⟨ρ', _, hq⟩ := hq
    cases e <;> first | exact hne rfl | exact hq
  · obtain ⟨ρ', hf', hq⟩ := hq
    have : sd Df a' = { a' with defers := Df } := by unfold sd; rw [hf'.defers]; rfl
    rw [this]
    exact hr ρ' a' w' hf' hq
end
section
variable {G : Ctx} {n : Nat} {ρ : Env} {w : World} {m : Nat}
/-- a part of a body, walked by M -/
theorem partIn {c : Code} {Q' : Exit → Act → World → Prop} {a : Act} (hfit : Fits n ρ a) (J S : Env → World → Prop) (h : M G n [.code c, .stop J] (fun e ρ w => e = .ret ∧ S ρ w) ρ w)
    (hr : ∀ ρ' a' w', Fits n ρ' a' → J ρ' w' → Q' .normal a' w') (hret : ∀ ρ' a' w', Fits n ρ' a' → S ρ' w' → Q' .ret a' w') : c.wpIn Fence.wide m G.P Q' a w := by
  refine wpIn_wide.2 (wp_mono (h.out a hfit) ?_)
  rintro e a' w' ⟨ρ', hf', hq⟩
  cases e with
  | normal => exact hr _ _ _ hf' hq
  | ret => exact hret _ _ _ hf' hq.2
  | _ => cases hq.1
theorem M.drawQ (late ex : List Nat) {all : Array Oper} {k : List It} {Q : QT} (hp : ∀ c ρ w, ¬ Q (.panic c) ρ w) {id : Nat} (hB : regB all late ex [] = true)
    (h : ∀ w', w.grownBy w' none → D G n all (fun w w' => w.grownBy w' none) (fun _ _ => True) late ex [] k Q all.size [] ρ w') : M G n (.code (.region id all true) :: k) Q ρ w :=
  M.draw (fun w w' => w.grownBy w' none) (fun _ _ => True) late ex [] hp (fun w => gr_refl w none) (fun a b c => gr_trans) (fun _ _ _ => trivial) (fun _ _ _ _ _ => trivial) hB (h _ (gr_drewN w 1))
end
theorem MapOk.imp {k : IntKind} {T T' : Int → Int → Value → Prop} {w : World} {r : Nat} (h : MapOk k T w r) (hi : ∀ a b v, T a b v → T' a b v) : MapOk k T' w r := by
  obtain ⟨ms, c, h1, h2⟩ := h
  exact ⟨ms, c, h1, fun x hx => hi _ _ _ (h2 x hx)⟩
/-- os, tape, output as they were, and one block alone may differ -/
def KX (B g : Nat) (W W' : World) : Prop := W.heap.size ≤ W'.heap.size ∧ ∀ k, k < B → k < W.heap.size → k ≠ g → W'.heap[k]? = W.heap[k]?
theorem KX.trans {B g : Nat} {a b c : World} (h : KX B g a b) (k : KX B g b c) : KX B g a c := ⟨Nat.le_trans h.1 k.1, fun i h1 h2 h3 => (k.2 i h1 (Nat.lt_of_lt_of_le h2 h.1) h3).trans (h.2 i h1 h2 h3)⟩
theorem KX.gr {B g : Nat} {a b : World} {r : Option Nat} (h : a.grownBy b r) (hr : ∀ k, r = some k → k = g ∨ B ≤ k) : KX B g a b := ⟨h.size, fun i h1 h2 h3 => h.block i h2 (fun e => by rcases hr i e.symm with h | h <;> omega)⟩
theorem KX.blk {B g : Nat} {a b : World} (h : KX B g a b) {k : Nat} {cs : List Value} {t : Nat} (hB : Blk a k cs t) (hk : k < B) (hg : k ≠ g) : Blk b k cs t := (h.2 k hk hB.lt hg).trans hB
theorem ownFrom_gr {β : Type} {B g : Nat} {w0 : World} (hB : w0.heap.size ≤ B) : OwnFrom B (fun (_ : β) W => w0.grownBy W (some g)) := fun s W W' row hs hg hr =>
  ⟨hg.os.trans hs.os, hg.tape.trans hs.tape, hg.output.trans hs.output, Nat.le_trans hs.size hg.size, fun i hi hne => (hg.block i (Nat.lt_of_lt_of_le hi hs.size) (fun e => by have := (hr i e.symm).1; omega)).trans (hs.block i hi hne)⟩
end Go.Vc
end

section
/- The pence that remain, one by one. -/
set_option linter.unusedVariables false
set_option linter.unusedSimpArgs false
namespace Py
def cnt {L : Nat} (pre : List (Fin L)) (k : Nat) : Nat := (pre.filter fun x => decide (x.val = k)).length
theorem cnt_snoc {L : Nat} (pre : List (Fin L)) (x : Fin L) (k : Nat) : cnt (pre ++ [x]) k = cnt pre k + if x.val = k then 1 else 0 := by
  unfold cnt
  rw [List.filter_append, List.length_append]
  congr 1
  by_cases h : x.val = k
  · rw [if_pos h]; simp [h]
  · rw [if_neg h]; simp [h]
theorem cnt_le {L : Nat} (pre : List (Fin L)) (k : Nat) : cnt pre k ≤ pre.length := List.length_filter_le _ _
def inc {L : Nat} (b : Nat → Int) (pre : List (Fin L)) : List Int := (List.range L).map fun k => b k + (cnt pre k : Int)
theorem inc_len {L : Nat} (b : Nat → Int) (pre : List (Fin L)) : (inc b pre).length = L := by simp [inc]
theorem inc_at {L : Nat} (b : Nat → Int) (pre : List (Fin L)) {k : Nat} (h : k < L) : at0 (inc b pre) k = b k + (cnt pre k : Int) := by
  simp [at0, inc, List.getD_eq_getElem?_getD, h]
theorem inc_next {L : Nat} (b : Nat → Int) (pre : List (Fin L)) (x : Fin L) : (inc b pre).set x.val (at0 (inc b pre) x.val + 1) = inc b (pre ++ [x]) := by
  refine ext0 (by simp [inc]) fun k hk => ?_
  have hk : k < L := by simpa [inc] using hk
  rw [at0_set (by rw [inc_len]; exact x.isLt), inc_at b _ hk, inc_at b _ x.isLt, inc_at b _ hk, cnt_snoc]
  by_cases h : k = x.val
  · subst h; rw [if_pos rfl, if_pos rfl]; omega
  · rw [if_neg h, if_neg (fun e => h e.symm)]; omega
theorem inc_nil {L : Nat} (b : Nat → Int) : inc (L := L) b [] = (List.range L).map b := by
  unfold inc cnt; simp
def baseS (a : Acc) (L : Nat) (n : Int) (k : Nat) : Int := (price a n - kept a n) / L + if k = 0 then kept a n else 0
theorem base_list (a : Acc) {L : Nat} (hL : 0 < L) (n : Int) : (List.replicate L ((price a n - kept a n) / L)).set 0 ((price a n - kept a n) / L + kept a n) = (List.range L).map (baseS a L n) := by
  refine ext0 (by simp) fun k hk => ?_
  have hk : k < L := by simpa using hk
  rw [at0_set (by simpa using hL)]
  have h1 : at0 ((List.range L).map (baseS a L n)) k = baseS a L n k := by simp [at0, List.getD_eq_getElem?_getD, hk]
  have h2 : at0 (List.replicate L ((price a n - kept a n) / (L : Int))) k = (price a n - kept a n) / (L : Int) := by simp [at0, List.getD_eq_getElem?_getD, hk]
  rw [h1, h2]
  unfold baseS
  split <;> omega
/-- the last ones, of so many -/
def remL (L : Nat) (hL : 0 < L) (p : Nat) : List (Fin L) := (List.range p).map fun i => ⟨L - 1 - i, by omega⟩
theorem remL_succ (L : Nat) (hL : 0 < L) (p : Nat) : remL L hL (p + 1) = remL L hL p ++ [⟨L - 1 - p, by omega⟩] := by
  unfold remL; rw [List.range_succ, List.map_append]; rfl
theorem remL_len (L : Nat) (hL : 0 < L) (p : Nat) : (remL L hL p).length = p := by simp [remL]
theorem remL_prefix (L : Nat) (hL : 0 < L) {p q : Nat} (h : p ≤ q) : remL L hL p <+: remL L hL q := by
  unfold remL
  obtain ⟨d, rfl⟩ := Nat.exists_eq_add_of_le h
  rw [List.range_add, List.map_append]
  exact List.prefix_append _ _
theorem cnt_rem (L : Nat) (hL : 0 < L) : ∀ (p : Nat), p ≤ L → ∀ k, k < L → cnt (remL L hL p) k = if L - 1 - k < p then 1 else 0
  | 0, _, k, hk => by simp [cnt, remL]
  | p + 1, hp, k, hk => by
    rw [remL_succ, cnt_snoc, cnt_rem L hL p (by omega) k hk]
    show _ + (if L - 1 - p = k then 1 else 0) = _
    by_cases h1 : L - 1 - k < p
    · rw [if_pos h1, if_neg (by omega), if_pos (by omega)]
    · by_cases h2 : L - 1 - p = k
      · rw [if_neg h1, if_pos h2, if_pos (by omega)]
      · rw [if_neg h1, if_neg h2, if_neg (by omega)]
theorem inc_share {a : Acc} (ha : Ok a) (d : Dsp) (hd : 0 < d.passed.length) {n : Int} (hn : 0 ≤ n) {p : Nat} (hp : (p : Int) = (price a n - kept a n) % (d.passed.length : Int)) : inc (baseS a d.passed.length n) (remL d.passed.length hd p) = share a d n := by
  have hlt := Int.emod_lt_of_pos (price a n - kept a n) (show (0 : Int) < d.passed.length by omega)
  refine ext0 (by simp [inc, share]) fun k hk => ?_
  have hk : k < d.passed.length := by simpa [inc] using hk
  rw [inc_at _ _ hk, cnt_rem _ hd p (by omega) k hk, share_at _ _ _ hk, share_parts ha hd hn hk, ← hp]
  unfold baseS
  by_cases h : d.passed.length - 1 - k < p
  · rw [if_pos h, if_pos (show ((d.passed.length : Int) - 1 - k < p) by omega)]; rfl
  · rw [if_neg h, if_neg (show ¬ ((d.passed.length : Int) - 1 - k < p) by omega)]; rfl
end Py
end

section
/- Walks: remain and its iterator. -/
set_option linter.unusedVariables false
namespace Go.Proofs.Yteeikpmoboehdaa
open Go Go.Vc Go.RowKit Py

theorem remain_go (p s : Int) (w : World) : Calls Try.prog 85 #[.int .i64 p, .int .i64 s] w fun e w' => ∃ g1 g2, e = .returned (.func (.func 94) #[] #[.pointer (some ⟨g1, 0, none⟩), .pointer (some ⟨g2, 0, none⟩)]) ∧ Blk w' g1 [.int .i64 p] 3 ∧ Blk w' g2 [.int .i64 s] 3 ∧ w.heap.size ≤ g1 ∧ w.heap.size ≤ g2 ∧ w.grownBy w' none := by
  refine calls (G := G) (args := [.int .i64 p, .int .i64 s]) Try.func85 rfl rfl rfl ?_
  exact M.run rfl (M.nw rfl fun g1 w1 b1 e1 l1 => M.run rfl (M.nw rfl fun g2 w2 b2 e2 l2 => M.run rfl (M.retF rfl rfl ⟨g1, g2, rfl, b1.mv0 e2, b2, l1, Nat.le_trans e1.size l2, gr_trans e1 e2⟩)))
def envR (ln g1 g2 p i : Nat) : Env := [(0, .func (.yield ln) #[] #[]), (1, .pointer (some ⟨g1, 0, none⟩)), (2, .pointer (some ⟨g2, 0, none⟩)), (5, .int .i64 (p : Int)), (6, .int .i64 (i : Int))]
theorem remain1_in (ln g1 g2 L p gL : Nat) (hL : 0 < L) (hp : p ≤ L) (h5 : L ≤ 5) (w0 : World) (h1 : Blk w0 g1 [.int .i64 (p : Int)] 3) (h2 : Blk w0 g2 [.int .i64 (L : Int)] 3) (n1 : g1 ≠ gL) (n2 : g2 ≠ gL) (J Jx : List (Fin L) → World → Prop)
    (W : World) (hW : Below w0.heap.size w0 W) (hJ : AbidesFrom W.heap.size J)
    (hY : ∀ pre x W1, J pre W1 → pre.length < p → YieldAt Fence.wide 2 Try.prog ln #[.int .i64 ((x : Fin L).val : Int)] W1 fun e W' =>
      (e = .returned (.bool true) ∧ J (pre ++ [x]) W' ∧ KX w0.heap.size gL W1 W') ∨ (e = .returned (.bool false) ∧ Jx (pre ++ [x]) W'))
    (h0 : J [] W) :
    CallsIn Fence.wide 3 Try.prog 94 (#[.func (.yield ln) #[] #[]] ++ #[.pointer (some ⟨g1, 0, none⟩), .pointer (some ⟨g2, 0, none⟩)]) W fun e W' => (∃ v, e = .returned v) ∧
      ((∃ ys, ys = remL L hL p ∧ J ys W') ∨ (∃ pre, pre <+: remL L hL p ∧ Jx pre W')) := by
  refine callsIn_of_wp Try.func94 rfl trivial ?_ rfl
  have hB1 : ∀ {w}, KX w0.heap.size gL w0 w → Blk w g1 [.int .i64 (p : Int)] 3 := fun hb => hb.blk h1 h1.lt n1
  have hB2 : ∀ {w}, KX w0.heap.size gL w0 w → Blk w g2 [.int .i64 (L : Int)] 3 := fun hb => hb.blk h2 h2.lt n2
  have hKW : KX w0.heap.size gL w0 W := ⟨hW.size, fun k a b c => hW.block k a⟩
  refine wpIn_seq (regIn (G := G) (n := 17) (ρ := argsEnv 0 [.func (.yield ln) #[] #[], .pointer (some ⟨g1, 0, none⟩), .pointer (some ⟨g2, 0, none⟩)]) (.inl rfl) (fits_args _ rfl rfl rfl) (fun ρ' w' => Has ρ' (envR ln g1 g2 p 0) ∧ w' = W) rfl ?_ ?_)
  · exact M.run rfl (M.ld rfl ((hB1 hKW).cell rfl rfl) (M.run rfl (M.end_ ⟨⟨rfl, rfl, rfl, rfl, rfl, trivial⟩, rfl⟩)))
  rintro ρ' a' w' hfit ⟨hhas, rfl⟩
  refine wpIn_block (wpIn_loop_ghost (fun m a w => ∃ i, m = p - i ∧ i ≤ p ∧ Fits 17 (envR ln g1 g2 p i) a ∧ J (remL L hL i) w ∧ KX w0.heap.size gL w0 w ∧ w'.heap.size ≤ w.heap.size) p
    ⟨0, rfl, Nat.zero_le _, hfit.weaken hhas, by simpa [remL] using h0, hKW, Nat.le_refl _⟩ ?_)
  rintro m a w ⟨i, rfl, hi, hfit, hJi, hB, hsz⟩
  refine wpIn_seq (regIn (G := G) (.inl rfl) hfit (fun ρ' w' => Has ρ' ((7, .bool (decide (i < p))) :: envR ln g1 g2 p i) ∧ w' = w) rfl (M.run rfl (M.end_ ⟨⟨?_, rfl, rfl, rfl, rfl, rfl, trivial⟩, rfl⟩)) ?_)
  · exact congrArg (fun b => some (Value.bool b)) (by simp)
  rintro ρ' a w hfit ⟨hhas, rfl⟩
  replace hfit := hfit.weaken hhas
  have hc7 : a.eval (.tmp 7) = .bool (decide (i < p)) := hfit.ev rfl
  refine wpIn_seq (wpIn_cond_split hc7 (fun h => wpIn_skip ?_) (fun h => wpIn_exit ?_))
  · have hlt : i < p := of_decide_eq_true h
    refine wpIn_seq (wpIn_block (wpIn_seq (regIn (G := G) (.inl rfl) hfit (fun ρ' w' => Has ρ' ((4, .int .i64 (i : Int)) :: envR ln g1 g2 p i) ∧ w' = w) rfl (M.run rfl (M.end_ ⟨⟨rfl, rfl, rfl, rfl, rfl, rfl, trivial⟩, rfl⟩)) ?_)))
    rintro ρ2 a2 w hfit2 ⟨hhas2, rfl⟩
    replace hfit2 := hfit2.weaken hhas2
    have hnext : some (Value.int .i64 (IntKind.i64.wrap ((i : Int) + 1))) = some (Value.int .i64 ((i + 1 : Nat) : Int)) := congrArg (fun z => some (Value.int .i64 z)) (w64 (by omega) (by omega))
    have hidx : IntKind.i64.wrap (IntKind.i64.wrap ((L : Int) - 1) - (i : Int)) = ((L - 1 - i : Nat) : Int) := by
      rw [w64 (x := (L : Int) - 1) (by omega) (by omega), w64 (by omega) (by omega)]; omega
    refine wpIn_seq (wpIn_region_list ?_)
    rw [← List.take_append_drop 5 (Array.toList _)]
    refine opsIn (G := G) (.inl rfl) hfit2 (fun ρ' w' => Has ρ' ((9, .func (.yield ln) #[] #[]) :: (13, .int .i64 ((L - 1 - i : Nat) : Int)) :: envR ln g1 g2 p i) ∧ w' = w) rfl
      (M.run rfl (M.ld rfl ((hB2 hB).cell rfl rfl) (M.run rfl (M.end_ ⟨⟨rfl, congrArg (fun z => some (Value.int .i64 z)) hidx, rfl, rfl, rfl, rfl, rfl, trivial⟩, rfl⟩)))) ?_
    rintro ρ3 a3 w hfit3 ⟨hhas3, rfl⟩
    replace hfit3 := hfit3.weaken hhas3
    refine yieldIn (G := G) (.inl rfl) hfit3 rfl rfl rfl (hY _ ⟨L - 1 - i, by omega⟩ _ hJi (by rw [remL_len]; exact hlt)) ?_
    rintro e w4 (⟨rfl, hJ4, hB4⟩ | ⟨rfl, hJx4⟩)
    · refine ⟨_, rfl, opsInEnd (G := G) (.inl rfl) (hfit3.put (dst := some 14) rfl) (fun ρ' w' => Has ρ' ((15, .bool false) :: envR ln g1 g2 p i) ∧ w' = w4) rfl (M.run rfl (M.end_ ⟨⟨rfl, rfl, rfl, rfl, rfl, rfl, trivial⟩, rfl⟩)) ?_⟩
      rintro ρ5 a5 w5 hfit5 ⟨hhas5, rfl⟩
      replace hfit5 := hfit5.weaken hhas5
      refine wpIn_cond_false (hfit5.ev rfl) (wpIn_skip ?_)
      refine regIn (G := G) (.inl rfl) hfit5 (fun ρ' w' => Has ρ' (envR ln g1 g2 p (i + 1)) ∧ w' = w5) rfl (M.run rfl (M.end_ ⟨⟨rfl, rfl, rfl, rfl, hnext, trivial⟩, rfl⟩)) ?_
      rintro ρ6 a6 w6 hfit6 ⟨hhas6, rfl⟩
      refine ⟨p - (i + 1), by omega, i + 1, rfl, by omega, hfit6.weaken hhas6, ?_, hB.trans hB4, Nat.le_trans hsz hB4.1⟩
      rw [remL_succ]; exact hJ4
    · refine ⟨_, rfl, opsInEnd (G := G) (.inl rfl) (hfit3.put (dst := some 14) rfl) (fun ρ' w' => Has ρ' ((15, .bool true) :: envR ln g1 g2 p i) ∧ w' = w4) rfl (M.run rfl (M.end_ ⟨⟨rfl, rfl, rfl, rfl, rfl, rfl, trivial⟩, rfl⟩)) ?_⟩
      rintro ρ5 a5 w5 hfit5 ⟨hhas5, rfl⟩
      replace hfit5 := hfit5.weaken hhas5
      refine wpIn_cond_true (hfit5.ev rfl) (wpIn_ret ?_)
      refine ⟨hfit5.defers, _, results_run (G := G) hfit5 (vs := []) rfl rfl _, ⟨_, rfl⟩, .inr ⟨remL L hL i ++ [⟨L - 1 - i, by omega⟩], ?_, hJx4⟩⟩
      rw [← remL_succ]
      exact remL_prefix L hL (by omega)
  · have hge : ¬ i < p := of_decide_eq_false h
    have : i = p := by omega
    subst this
    exact ⟨hfit.defers, _, results_run (G := G) hfit (vs := []) rfl rfl _, ⟨_, rfl⟩, .inl ⟨_, rfl, hJi⟩⟩
end Go.Proofs.Yteeikpmoboehdaa
end

section
/- Walk: shares. -/
set_option linter.unusedVariables false
namespace Go.Proofs.Yteeikpmoboehdaa
open Go Go.Vc Go.RowKit Py

theorem key102 : Key2 G.P 102 .i64 := ⟨_, _, 3, Try.underlying102, ⟨rfl, rfl, by decide⟩, ⟨rfl, rfl, by decide⟩, Try.underlying3, Try.stoodInHeld102⟩
/-- what is known: the shares of a dispatch with some words, in rows from N on, and not in the blocks of Fz -/
def Known (a : Acc) (N : Nat) (Fz : Nat → Prop) (w : World) : Int → Int → Value → Prop := fun i n v => ∃ (k : Nat) (hk : k < a.ds.length) (X : Option Addr) (x : Nat), i = (k : Int) ∧ v = .slice X (share a a.ds[k] n).length x ∧ Vc.Own dI 3 w N no X x (share a a.ds[k] n) ∧ ∀ b, blkOf X = some b → ¬ Fz b
structure WorkAt (a : Acc) (A : Option Addr) (c N : Nat) (Fz : Nat → Prop) (gW r : Nat) (w : World) : Prop where
  box : Blk w gW [.int .i64 a.stations, .int .i64 a.rate, .int .i64 a.keeps, .slice A a.ds.length c, .map (some r)] 127
  gW_ge : N ≤ gW
  r_ge : N ≤ r
  ds : Sl dDsp w (· < N) A c a.ds
  N_le : N ≤ w.heap.size
  map : MapOk .i64 (Known a N Fz w) w r
theorem Known.mv {a : Acc} {N : Nat} {Fz : Nat → Prop} {w w' : World} {r : Nat} {q : Option Nat} {T : Int → Int → Value → Prop} (hm : MapOk .i64 T w r) (e : w.grownBy w' q) (hq : q = none ∨ q = some r) : ∀ i n v, Known a N Fz w i n v → Known a N Fz w' i n v := by
  rintro i n v ⟨k, hk, X, x, rfl, rfl, hO, hz⟩
  refine ⟨k, hk, X, x, rfl, rfl, ?_, hz⟩
  rcases hq with rfl | rfl
  · exact hO.mv0 e
  · refine hO.mv1 e (fun hX => ?_) (fun h => h)
    rcases hO with ⟨h, _, _⟩ | ⟨g, cur, h, _, hB, _⟩
    · rw [h] at hX; cases hX
    · rw [h] at hX
      have : g = r := by injection hX with hX; injection hX
      subst this
      exact hm.ne hB rfl
theorem WorkAt.mv0 {a : Acc} {A : Option Addr} {c N : Nat} {Fz : Nat → Prop} {gW r : Nat} {w w' : World} (h : WorkAt a A c N Fz gW r w) (e : w.grownBy w' none) : WorkAt a A c N Fz gW r w' :=
  ⟨h.box.mv0 e, h.gW_ge, h.r_ge, h.ds.move (fun b hb => e.block b (Nat.lt_of_lt_of_le hb h.N_le) (by simp)), Nat.le_trans h.N_le e.size, (h.map.mv0 e).imp (Known.mv h.map e (.inl rfl))⟩
theorem WorkAt.put {a : Acc} {A : Option Addr} {c N : Nat} {Fz : Nat → Prop} {gW r : Nat} {w w' : World} (h : WorkAt a A c N Fz gW r w) (hm : MapOk .i64 (Known a N Fz w) w' r) (e : w.grownBy w' (some r)) : WorkAt a A c N Fz gW r w' :=
  ⟨h.box.mv1 e (h.map.ne h.box), h.gW_ge, h.r_ge, h.ds.move (fun b hb => e.block b (Nat.lt_of_lt_of_le hb h.N_le) (fun e => by have := h.r_ge; injection e with e; omega)), Nat.le_trans h.N_le e.size, hm.imp (Known.mv h.map e (.inr rfl))⟩
theorem WorkAt.mvD {a : Acc} {A : Option Addr} {c N : Nat} {Fz : Nat → Prop} {gW r D : Nat} {w w' : World} {q : Option (List Deferred)} (h : WorkAt a A c N Fz gW r w) (hD : w.heap[D]? = some (.deferred q)) (hN : N ≤ D) (e : w.grownBy w' (some D)) : WorkAt a A c N Fz gW r w' := by
  have hne : ∀ {g cs t}, Blk w g cs t → D ≠ g := fun hB he => by subst he; rw [hB] at hD; cases hD
  have hr : D ≠ r := fun he => by subst he; obtain ⟨ms, cl, hm, _⟩ := h.map; rw [hm] at hD; cases hD
  refine ⟨h.box.mv1 e (hne h.box), h.gW_ge, h.r_ge, h.ds.move (fun b hb => e.block b (Nat.lt_of_lt_of_le hb h.N_le) (fun e => by injection e with e; omega)), Nat.le_trans h.N_le e.size, (h.map.mv e (by simpa using hr)).imp ?_⟩
  rintro i n v ⟨k, hk, X, x, rfl, rfl, hO, hz⟩
  refine ⟨k, hk, X, x, rfl, rfl, hO.mv1 e (fun hX => ?_) (fun h => h), hz⟩
  rcases hO with ⟨h, _, _⟩ | ⟨g, cur, h, _, hB, _⟩
  · rw [h] at hX; cases hX
  · rw [h] at hX
    have : g = D := by injection hX with hX; injection hX
    exact hne hB this.symm
/-- other blocks are foreign: those that were, and newer ones -/
theorem WorkAt.fz {a : Acc} {A : Option Addr} {c N : Nat} {Fz Fz' : Nat → Prop} {gW r : Nat} {w : World} (h : WorkAt a A c N Fz gW r w) (hF : ∀ b, Fz' b → Fz b ∨ w.heap.size ≤ b) : WorkAt a A c N Fz' gW r w :=
  ⟨h.box, h.gW_ge, h.r_ge, h.ds, h.N_le, h.map.imp fun i n v ⟨k, hk, X, x, h1, h2, hO, hz⟩ => ⟨k, hk, X, x, h1, h2, hO, fun b hb hf => by
    rcases hF b hf with hf | hf
    · exact hz b hb hf
    · have := (hO.blkGe b hb).2; omega⟩⟩
/-- a foreign block is written -/
theorem WorkAt.mvF {a : Acc} {A : Option Addr} {c N : Nat} {Fz : Nat → Prop} {gW r g : Nat} {w w' : World} (h : WorkAt a A c N Fz gW r w) (e : w.grownBy w' (some g)) (hg : Fz g) (hN : N ≤ g) (hW : g ≠ gW) (hr : g ≠ r) : WorkAt a A c N Fz gW r w' :=
  ⟨h.box.mv1 e hW, h.gW_ge, h.r_ge, h.ds.move (fun b hb => e.block b (Nat.lt_of_lt_of_le hb h.N_le) (fun e => by injection e with e; omega)), Nat.le_trans h.N_le e.size, (h.map.mv e (by simpa using hr)).imp fun i n v ⟨k, hk, X, x, h1, h2, hO, hz⟩ =>
    ⟨k, hk, X, x, h1, h2, hO.mv1 e (fun hX => hz g (by rw [hX]; rfl) hg) (fun h => h), hz⟩⟩
/-- a dispatch, from any world behind w -/
theorem WorkAt.dsp {a : Acc} {A : Option Addr} {c N : Nat} {Fz : Nat → Prop} {gW r : Nat} {w : World} (h : WorkAt a A c N Fz gW r w) {k : Nat} (hk : k < a.ds.length) :
    A = some (adOf A) ∧ ∃ P p, Sl dI w (· < N) P p a.ds[k].passed ∧ ∀ w' q, w.grownBy w' q → (∀ g, q = some g → N ≤ g) → Cells w' ((adOf A).add (k * 4)) (encDsp a.ds[k] P p) := by
  obtain ⟨h1, h2, P, p, hs, hc⟩ := sl_dsp h.ds hk
  exact ⟨h1, P, p, hs, fun w' q e hq => hc w' (e.block _ (Nat.lt_of_lt_of_le h2 h.N_le) (fun e => by have := hq _ e.symm; omega))⟩

def envA (gW g3 : Nat) : Env := [(0, .pointer (some ⟨gW, 0, none⟩)), (3, .pointer (some ⟨g3, 0, none⟩))]
set_option maxHeartbeats 2000000 in
theorem shares_go (a : Acc) (ha : Ok a) (k : Nat) (hk : k < a.ds.length) (nw : Int) (hn : 0 ≤ nw ∧ nw ≤ 200) (A : Option Addr) (c N : Nat) (Fz : Nat → Prop) (gW r : Nat) (w : World) (hW : WorkAt a A c N Fz gW r w) (hz : ∀ b, Fz b → b < w.heap.size) :
    Calls Try.prog 59 #[.pointer (some ⟨gW, 0, none⟩), .agg #[.int .i64 (k : Int), .int .i64 nw]] w fun e w' => ∃ X x, e = .returned (.slice X (share a a.ds[k] nw).length x) ∧ Vc.Own dI 3 w' N no X x (share a a.ds[k] nw) ∧ w.grownBy w' (some r) ∧ WorkAt a A c N Fz gW r w' := by
  have hd := ha.d a.ds[k] (List.getElem_mem hk)
  have hkp := kept_bd ha hn.1
  have hrate := ha.rate
  have hkeeps := ha.keeps
  have hprice : price a nw ≤ 4000 := by
    have : nw * a.rate ≤ 200 * 20 := Int.mul_le_mul hn.2 hrate.2 hrate.1 (by omega)
    unfold price; omega
  rw [← callsIn_wide (n := 4)]
  refine callsIn_of_wp_marks Try.func59 rfl trivial ?_ rfl
  refine wpIn_seq (partIn (G := G) (n := 84) (ρ := argsEnv 0 [.pointer (some ⟨gW, 0, none⟩), .agg #[.int .i64 (k : Int), .int .i64 nw]]) (fits_args _ rfl rfl rfl)
    (fun ρ' w' => ∃ g3, Has ρ' (envA gW g3) ∧ Blk w' g3 [.int .i64 (k : Int), .int .i64 nw] 102 ∧ w.heap.size ≤ g3 ∧ w.grownBy w' none) (fun _ _ => False)
    (M.run rfl <| M.nw rfl fun g3 w1 b1 e1 l1 => M.run rfl <| M.end_ ⟨g3, ⟨rfl, rfl, trivial⟩, b1, l1, e1⟩) ?_ (fun _ _ _ _ h => h.elim))
  rintro ρ1 a1 w1 hf1 ⟨g3, hh1, b3, l3, e1⟩
  replace hf1 := hf1.weaken hh1
  have hW1 := hW.mv0 e1
  -- what is known
  obtain ⟨v, ok, hv1, hv0, hlook⟩ := look_spec (G := G) hW1.map Try.underlying125 key102 (ie := ⟨.slice 3, 1, .slice none 0 0, 24⟩) rfl (k : Int) nw
  obtain ⟨V, vm, vc, rfl⟩ : ∃ V vm vc, v = .slice V vm vc := by
    cases ok with
    | true => obtain ⟨_, _, X, x, _, h, _, _⟩ := hv1 rfl; exact ⟨_, _, _, h⟩
    | false => exact ⟨_, _, _, hv0 rfl⟩
  refine wpIn_seq (partIn (G := G) hf1 (fun ρ' w' => ∃ gL, Has ρ' ((5, .pointer (some ⟨gL, 0, none⟩)) :: (6, .bool ok) :: envA gW g3) ∧ Blk w' gL [.slice V vm vc] 25 ∧ w1.heap.size ≤ gL ∧ w1.grownBy w' none) (fun _ _ => False) ?_ ?_ (fun _ _ _ _ h => h.elim))
  · refine M.run rfl <| M.drawQ [10] [8] (fun _ _ _ h => by cases h.1) (by kernel_rfl) fun w2 e2 => ?_
    refine D.run rfl <| D.ld 3 rfl rfl rfl rfl (fun w' hw => ((hW1.box.mv0 e2).mv0 hw).cell rfl rfl) <| D.ldA 4 rfl rfl rfl rfl rfl (fun w' hw => ((b3.mv0 e2).mv0 hw).cellsAll) <| D.run rfl <|
      D.ys 5 rfl rfl rfl (hlook _ (fun w' hw => by
        have h1 := hW1.map
        obtain ⟨ms, cl, hm, _⟩ := h1
        exact (gr_trans e2 hw).block r (Array.getElem?_eq_some_iff.1 hm).1 (by simp)) rfl) <| D.run rfl <| D.one 9 rfl rfl <| M.nw rfl fun gL w3 b5 e3 l5 => M.run rfl <| M.end_ ⟨.inr e3, ?_⟩
    exact D.one 10 rfl rfl <| M.store rfl rfl b5 rfl rfl fun w4 b4 e4 => M.run rfl <| M.end_ ⟨.inl ⟨rfl, trivial⟩, D.run rfl <| D.done_ rfl <| M.run rfl <| M.end_ ⟨gL, ⟨rfl, rfl, rfl, rfl, trivial⟩, b4, Nat.le_trans e2.size l5, gr_fresh (gr_trans e2 e3) e4 (Nat.le_trans e2.size l5)⟩⟩
  rintro ρ2 a2 w2 hf2 ⟨gL, hh2, b5, l5, e2⟩
  replace hf2 := hf2.weaken hh2
  have e02 := gr_trans e1 e2
  have hW2 := hW1.mv0 e2
  have b31 := b3
  have b52 := b5
  replace b3 := b3.mv0 e2
  refine wpIn_seq (partIn (G := G) hf2 (fun ρ' w' => ok = false ∧ w' = w2 ∧ Has ρ' ((5, .pointer (some ⟨gL, 0, none⟩)) :: envA gW g3)) (fun ρ' w' => ∃ X x, ρ'.find 4 = some (.slice X (share a a.ds[k] nw).length x) ∧ Vc.Own dI 3 w' N no X x (share a a.ds[k] nw) ∧ w' = w2) ?_ ?_ ?_)
  · refine M.run rfl <| M.cond rfl (fun h => ?_) (fun h => ?_)
    · subst h
      obtain ⟨k', hk', X, x, hkk, hv, hO, _⟩ := hv1 rfl
      have : k' = k := by omega
      subst this
      refine M.run rfl <| M.ld rfl (b5.cell rfl rfl) <| M.run rfl <| M.ret ⟨rfl, X, x, ?_, hO.mv0 e2, rfl⟩
      rw [← hv]; rfl
    · exact M.run rfl <| M.end_ ⟨h, rfl, rfl, rfl, rfl, trivial⟩
  rotate_left
  · rintro ρ' a' w' hf' ⟨X, x, hfd, hO, rfl⟩
    have hdf := hf'.defers
    have hres : resE ρ' Try.f59.results.toList = some [.slice X (share a a.ds[k] nw).length x] := by
      show resE ρ' [.tmp 4] = _
      simp [resE, hfd]
    show LeavesInM _ _ _ _ _ _ a'.defers _ _
    rw [hdf]
    exact ⟨_, results_run (G := G) hf' hres rfl _, X, x, rfl, hO, gr_weak e02, hW2⟩
  rintro ρ3 a3 w3 hf3 ⟨rfl, rfl, hh3⟩
  replace hf3 := hf3.weaken hh3
  -- the price and the rest
  obtain ⟨hA1, P, pc, hP, hdc⟩ := hW2.dsp hk
  refine wpIn_seq (partIn (G := G) hf3 (fun ρ' w' => Has ρ' ((5, .pointer (some ⟨gL, 0, none⟩)) :: (7, .int .i64 (price a nw)) :: envA gW g3) ∧ w3.grownBy w' none) (fun _ _ => False) ?_ ?_ (fun _ _ _ _ h => h.elim))
  · refine M.run rfl <| M.drawQ [] [] (fun _ _ _ h => by cases h.1) (by kernel_rfl) fun w4 e4 => ?_
    refine D.run rfl <| D.ld 1 rfl rfl rfl rfl (fun w' hw => ((b3.mv0 e4).mv0 hw).cell rfl rfl) <| D.run rfl <| D.ld 6 rfl rfl rfl rfl (fun w' hw => ((hW2.box.mv0 e4).mv0 hw).cell rfl rfl) <| D.run rfl <| D.done_ rfl <| M.run rfl <| M.end_ ⟨⟨rfl, ?_, rfl, rfl, trivial⟩, e4⟩
    exact congrArg (fun z => some (Value.int .i64 z)) (w64 (x := price a nw) (by omega) (by omega))
  rintro ρ4 a4 w4 hf4 ⟨hh4, e4⟩
  replace hf4 := hf4.weaken hh4
  refine wpIn_seq (partIn (G := G) hf4 (fun ρ' w' => Has ρ' ((5, .pointer (some ⟨gL, 0, none⟩)) :: (7, .int .i64 (price a nw)) :: (8, .int .i64 (a.ds[k].passed.length : Int)) :: envA gW g3) ∧ w4.grownBy w' none) (fun _ _ => False) ?_ ?_ (fun _ _ _ _ h => h.elim))
  · refine M.run rfl <| M.drawQ [] [] (fun _ _ _ h => by cases h.1) (by kernel_rfl) fun w5 e5 => ?_
    have e45 := gr_trans e4 e5
    refine D.run rfl <| D.ld 4 rfl rfl rfl rfl (fun w' hw => ((hW2.box.mv0 e45).mv0 hw).cell rfl rfl) <| D.ld 6 rfl rfl rfl rfl (fun w' hw => ((b3.mv0 e45).mv0 hw).cell rfl rfl) <| D.ys 7 rfl rfl rfl (YS.ix rfl (by omega) (by omega) hA1) <| D.run rfl <|
      D.ld 9 rfl rfl rfl rfl (fun w' hw => (hdc w' none (gr_trans e45 hw) (by simp)).one 3 rfl rfl) <| D.run rfl <| D.done_ rfl <| M.run rfl <| M.end_ ⟨⟨rfl, rfl, rfl, rfl, rfl, trivial⟩, e5⟩
  rintro ρ5 a5 w5 hf5 ⟨hh5, e5⟩
  replace hf5 := hf5.weaken hh5
  have e25 := gr_trans e4 e5
  have hL := hd.some_
  have h5 := hd.five
  generalize hLL : a.ds[k].passed.length = L at *
  have hL0 : (0 : Int) < L := by omega
  have hkt : (price a nw * a.keeps).tdiv 100 = kept a nw := Int.tdiv_eq_ediv_of_nonneg (Int.mul_nonneg (by omega) hkeeps.1)
  have hpk : price a nw * a.keeps ≤ 4000 * 100 := Int.mul_le_mul hprice hkeeps.2 hkeeps.1 (by omega)
  have hpk0 : 0 ≤ price a nw * a.keeps := Int.mul_nonneg (by omega) hkeeps.1
  have hB0 := share_parts (L := L) ha hL hn.1 (k := 0) hL
  have hqd := Int.mul_ediv_add_emod (price a nw - kept a nw) L
  have hr0 := Int.emod_nonneg (price a nw - kept a nw) (show (L : Int) ≠ 0 by omega)
  have hr1 := Int.emod_lt_of_pos (price a nw - kept a nw) hL0
  have hq0 : 0 ≤ (price a nw - kept a nw) / (L : Int) := Int.ediv_nonneg (by omega) (by omega)
  have hq1 : (price a nw - kept a nw) / (L : Int) ≤ 4000 := Int.le_trans (Int.ediv_le_self _ (by omega)) (by omega)
  have hqt : (price a nw - kept a nw).tdiv (L : Int) = (price a nw - kept a nw) / (L : Int) := Int.tdiv_eq_ediv_of_nonneg (by omega)
  have hrt : (price a nw - kept a nw).tmod (L : Int) = (price a nw - kept a nw) % (L : Int) := Int.tmod_eq_emod_of_nonneg (by omega)
  refine wpIn_seq (partIn (G := G) hf5 (fun ρ' w' => Has ρ' ((5, .pointer (some ⟨gL, 0, none⟩)) :: (7, .int .i64 (price a nw)) :: (8, .int .i64 (L : Int)) :: (9, .int .i64 (kept a nw)) :: envA gW g3) ∧ w' = w5) (fun _ _ => False) ?_ ?_ (fun _ _ _ _ h => h.elim))
  · refine M.run rfl <| M.ld rfl ((hW2.box.mv0 e25).cell rfl rfl) <| M.run rfl <| M.end_ ⟨⟨rfl, rfl, rfl, ?_, rfl, rfl, trivial⟩, rfl⟩
    show some (Value.int .i64 (IntKind.i64.wrap ((IntKind.i64.wrap (price a nw * a.keeps)).tdiv 100))) = _
    rw [w64 (x := price a nw * a.keeps) (by omega) (by omega), hkt, w64 (by omega) (by omega)]
  rintro ρ6 a6 w6 hf6 ⟨hh6, rfl⟩
  replace hf6 := hf6.weaken hh6
  have e16 := gr_trans e2 e25
  -- all alike
  refine wpIn_seq (partIn (G := G) hf6 (fun ρ' w' => ∃ X, Has ρ' ((5, .pointer (some ⟨gL, 0, none⟩)) :: (7, .int .i64 (price a nw)) :: (8, .int .i64 (L : Int)) :: (9, .int .i64 (kept a nw)) :: envA gW g3) ∧ Blk w' gL [.slice X L L] 25 ∧ Vc.Own dI 3 w' w6.heap.size no X L (List.replicate L ((price a nw - kept a nw) / (L : Int))) ∧ w1.grownBy w' none) (fun _ _ => False) ?_ ?_ (fun _ _ _ _ h => h.elim))
  · refine M.run rfl ?_
    rw [w64 (x := price a nw - kept a nw) (by omega) (by omega)]
    refine M.ys (YS.quo rfl (by omega)) ?_
    rw [hqt, w64 (x := (price a nw - kept a nw) / (L : Int)) (by omega) (by omega)]
    refine M.run rfl <| M.bs rfl fun gq w7 bq e7 lq => M.run rfl ?_
    have hc := Repeat_go ((price a nw - kept a nw) / (L : Int)) (L : Int) ⟨by omega, by omega⟩ (some ⟨gq, 0, none⟩) 1 w7 (rd_lit bq [_] rfl (by simp [maxLen]))
    rw [Int.toNat_natCast] at hc
    refine M.cl rfl hc ?_
    rintro e w8 ⟨X, rfl, hX, e8⟩
    refine ⟨_, rfl, M.run rfl <| M.store rfl rfl (b52.mv0 (gr_trans (gr_trans e25 e7) e8)) rfl rfl fun w9 b9 e9 => M.run rfl <| M.end_ ⟨X, ⟨rfl, rfl, rfl, rfl, rfl, rfl, trivial⟩, b9, ?_, gr_fresh (gr_trans (gr_trans e16 e7) e8) e9 l5⟩⟩
    have hgX := hX.blkGe
    refine (hX.weaken (base' := w6.heap.size) e7.size (fun _ h => h)).mv1 e9 (fun h => ?_) (fun h => h)
    have h1 := (hgX gL (by rw [h]; rfl)).1
    have h2 := (b52.mv0 e25).lt
    have h3 := e7.size
    omega
  rintro ρ7 a7 w7 hf7 ⟨X, hh7, b57, hX, e17⟩
  replace hf7 := hf7.weaken hh7
  obtain ⟨g, cur, rfl, hgX, bX, hlX, hcX, hsetX⟩ := own_int hX (j := 0) (by simp; omega)
  have hgne : g ≠ gL := by have := (b52.mv0 e25).lt; omega
  have hg1 : w1.heap.size ≤ g := Nat.le_trans e16.size hgX
  have hL1 : w1.heap.size ≤ gL := l5
  -- the first one keeps
  refine wpIn_seq (partIn (G := G) hf7 (fun ρ' w' => Has ρ' ((5, .pointer (some ⟨gL, 0, none⟩)) :: (7, .int .i64 (price a nw)) :: (8, .int .i64 (L : Int)) :: (9, .int .i64 (kept a nw)) :: envA gW g3) ∧ Blk w' gL [.slice (some ⟨g, 0, none⟩) L L] 25 ∧ Vc.Own dI 3 w' w6.heap.size no (some ⟨g, 0, none⟩) L (inc (L := L) (baseS a L nw) []) ∧ w1.grownBy w' none) (fun _ _ => False) ?_ ?_ (fun _ _ _ _ h => h.elim))
  · simp only [List.getElem_replicate] at hcX
    refine M.run rfl <| M.ld rfl (b57.cell rfl rfl) <| M.run rfl <| M.ix rfl (by omega) (by omega) rfl <| M.run rfl <| M.ld rfl (by rw [← hcX]; exact congrArg _ (ad1 g 0)) <| M.run rfl ?_
    rw [w64 (x := (price a nw - kept a nw) / (L : Int) + kept a nw) (by omega) (by omega)]
    refine M.ix rfl (by omega) (by omega) rfl <| M.run rfl <| M.store rfl (ad1 g 0) bX (Nat.ble_eq_true_of_le hlX) rfl fun w8 b8 e8 => M.run rfl <| M.end_ ⟨⟨rfl, rfl, rfl, rfl, rfl, rfl, trivial⟩, b57.mv1 e8 hgne, ?_, gr_fresh e17 e8 hg1⟩
    have := hsetX _ w8 b8
    rw [base_list a hL nw] at this
    rw [inc_nil]; exact this
  rintro ρ8 a8 w8 hf8 ⟨hh8, b58, hX8, e18⟩
  replace hf8 := hf8.weaken hh8
  obtain ⟨p, hp⟩ : ∃ p : Nat, (p : Int) = (price a nw - kept a nw) % (L : Int) := ⟨((price a nw - kept a nw) % (L : Int)).toNat, by omega⟩
  -- what remains
  refine wpIn_seq (wpIn_seq (partIn (G := G) hf8 (fun ρ' w' => ∃ ga gb, Has ρ' ((5, .pointer (some ⟨gL, 0, none⟩)) :: (69, .func (.func 94) #[] #[.pointer (some ⟨ga, 0, none⟩), .pointer (some ⟨gb, 0, none⟩)]) :: envA gW g3) ∧ Blk w' ga [.int .i64 (p : Int)] 3 ∧ Blk w' gb [.int .i64 (L : Int)] 3 ∧ w8.heap.size ≤ ga ∧ w8.heap.size ≤ gb ∧ w8.grownBy w' none) (fun _ _ => False) ?_ ?_ (fun _ _ _ _ h => h.elim)))
  · refine M.run rfl ?_
    rw [w64 (x := price a nw - kept a nw) (by omega) (by omega)]
    refine M.ys (YS.rem rfl (by omega)) ?_
    rw [hrt, ← hp]
    refine M.run rfl <| M.cl rfl (remain_go (p : Int) (L : Int) w8) ?_
    rintro e w9 ⟨ga, gb, rfl, ba, bb, la, lb, e9⟩
    exact ⟨_, rfl, M.run rfl <| M.end_ ⟨ga, gb, ⟨rfl, rfl, rfl, rfl, trivial⟩, ba, bb, la, lb, e9⟩⟩
  rintro ρ9 a9 w9 hf9 ⟨ga, gb, hh9, ba, bb, la, lb, e9⟩
  replace hf9 := hf9.weaken hh9
  have hglt : g < w8.heap.size := (hX8.blkGe g rfl).2
  have hL8 := b58.lt
  have hpL : p ≤ L := by omega
  have hcntb : ∀ x : Fin L, 0 ≤ baseS a L nw x.val ∧ baseS a L nw x.val ≤ 8000 := fun x => by unfold baseS; split <;> omega
  refine wpIn_block (wpIn_rangeFunc_ownH (α := Fin L) rfl (by omega) (gf := 94) (lb := #[.pointer (some ⟨ga, 0, none⟩), .pointer (some ⟨gb, 0, none⟩)]) (hf9.ev rfl) trivial (fun args w => run_goFn (G := G) (f := 94) rfl args w)
    (encs := fun x : Fin L => #[.int .i64 (x.val : Int)]) (Kp := KX w9.heap.size g) (S := fun ys => ys = remL L hL p) (Sp := fun pre => pre <+: remL L hL p) (N := p) (w0 := w9)
    (fun ln J Jx W hW hJ hJx hY h0 => remain1_in ln ga gb L p g hL hpL h5 w9 ba bb (by omega) (by omega) J Jx W hW hJ hY h0)
    (fun h k => h.trans k) (fun W l o o' hl ho _ _ => KX.gr (grownBy_putObj' W l o') (fun k e => by cases e; exact .inr hl)) (Below.refl _ _) (fun _ => rfl)
    (fun pre W => w9.grownBy W (some g) ∧ Vc.Own dI 3 W w6.heap.size no (some ⟨g, 0, none⟩) L (inc (L := L) (baseS a L nw) pre) ∧ pre.length ≤ p)
    (fun c pre W => False)
    (OwnFrom.and (ownFrom_gr (Nat.le_refl _)) (fun s W W' row hs hg hr => ⟨by
      cases row with
      | none => exact hs.1.mv0 hg
      | some q => exact hs.1.mv1 hg (fun e => by have := (hr q rfl).1; have := e9.size; injection e with e; injection e with e; omega) (fun h => h), hs.2⟩))
    (fun c s W W' row hs hg hr => hs)
    ⟨gr_refl _ _, hX8.mv0 e9, Nat.zero_le _⟩
    (fun x a' W => Fits 84 ((10, .int .i64 (x.val : Int)) :: (5, .pointer (some ⟨gL, 0, none⟩)) :: envA gW g3) a')
    (fun x a' _ W W' row hs hg hr => hs)
    ?assign ?body ?done (fun _ _ _ _ _ _ h _ => h.elim))
  case assign =>
    intro ln pre x W K hI hK
    have hf0 : Fits 84 ((70, .int .i64 (x.val : Int)) :: (5, .pointer (some ⟨gL, 0, none⟩)) :: envA gW g3) { tmps := (#[70].zip #[Value.int .i64 (x.val : Int)]).foldl (fun t (p, v) => t.setIfInBounds p v) a9.tmps, defers := [] } := by
      have hf9' : Fits 84 ((5, .pointer (some ⟨gL, 0, none⟩)) :: envA gW g3) a9 := hf9.weaken ⟨rfl, rfl, rfl, trivial⟩
      have := hf9'.put (dst := some 70) (v := .int .i64 (x.val : Int)) rfl
      have hfold : (#[70].zip #[Value.int .i64 (x.val : Int)]).foldl (fun t (p, v) => t.setIfInBounds p v) a9.tmps = a9.tmps.setIfInBounds 70 (.int .i64 (x.val : Int)) := by simp
      rw [hfold]
      exact ⟨this.size, rfl, this.get⟩
    refine regIn (G := G) (.inr ⟨ln, rfl⟩) hf0 (fun ρ' w' => Has ρ' ((10, .int .i64 (x.val : Int)) :: (5, .pointer (some ⟨gL, 0, none⟩)) :: envA gW g3) ∧ w' = W) rfl (M.run rfl (M.end_ ⟨⟨rfl, rfl, rfl, rfl, trivial⟩, rfl⟩)) ?_
    rintro ρ' a' w' hf' ⟨hh, rfl⟩
    exact hK _ _ (KeepsFrom.of_grownBy (gr_refl w' none) (fun j e => by cases e)) ⟨Nat.le_refl _, fun _ _ _ _ => rfl⟩ hI (hf'.weaken hh)
  case body =>
    rintro ln pre x a' W hln - ⟨hg9, hO, hle⟩ hfx hlen
    have bL : Blk W gL [.slice (some ⟨g, 0, none⟩) L L] 25 := (b58.mv0 e9).mv1 hg9 hgne
    have hxl : x.val < (inc (L := L) (baseS a L nw) pre).length := by rw [inc_len]; exact x.isLt
    obtain ⟨g', cur', hgg, hgX', bX', hlX', hcX', hsetX'⟩ := own_int hO hxl
    have : g' = g := by injection hgg with hgg; injection hgg with hgg; exact hgg.symm
    subst this
    have hv := hcntb x
    have hcn : cnt pre x.val ≤ 5 := Nat.le_trans (cnt_le pre x.val) (by omega)
    rw [at0_get hxl, inc_at _ _ x.isLt] at hcX'
    refine wpIn_block (regIn (G := G) (.inr ⟨ln, rfl⟩) hfx (fun ρ' w' => Vc.Own dI 3 w' w6.heap.size no (some ⟨g', 0, none⟩) L (inc (L := L) (baseS a L nw) (pre ++ [x])) ∧ W.grownBy w' (some g')) rfl
      (M.run rfl <| M.ld rfl (bL.cell rfl rfl) <| M.run rfl <| M.ix rfl (by omega) (by have := x.isLt; omega) rfl <| M.run rfl <| M.ld rfl (by rw [← hcX']; exact congrArg _ (ad1 g' x.val)) <| M.run rfl ?_) ?_)
    · rw [w64 (x := baseS a L nw x.val + (cnt pre x.val : Int) + 1) (by omega) (by omega)]
      refine M.ix rfl (by omega) (by have := x.isLt; omega) rfl <| M.run rfl <| M.store rfl (ad1 g' x.val) bX' (Nat.ble_eq_true_of_le hlX') rfl fun w8' b8' e8' => M.run rfl <| M.end_ ⟨?_, e8'⟩
      have := hsetX' (baseS a L nw x.val + (cnt pre x.val : Int) + 1) w8' b8'
      have h2 := inc_next (baseS a L nw) pre x
      rw [inc_at _ _ x.isLt] at h2
      rw [h2] at this
      exact this
    · rintro ρ' a' w' hf' ⟨hO', e'⟩
      exact ⟨KeepsFrom.of_grownBy e' (fun j e => by cases e; exact Nat.lt_of_lt_of_le hglt e9.size), KX.gr e' (fun k e => by cases e; exact .inl rfl), gr_transR hg9 e', hO', by simp; omega⟩
  case done =>
    rintro Dd ys W hD rfl ⟨hg9, hO, hle⟩ hK
    have e1W : w1.grownBy W none := gr_fresh (gr_trans e18 e9) hg9 hg1
    have bL : Blk W gL [.slice (some ⟨g, 0, none⟩) L L] 25 := (b58.mv0 e9).mv1 hg9 hgne
    subst hLL
    rw [inc_share ha a.ds[k] hL hn.1 hp] at hO
    have hWW := hW1.mv0 e1W
    have hrD : r ≠ Dd := by
      obtain ⟨ms, cl, hm, _⟩ := hW1.map
      have := (Array.getElem?_eq_some_iff.1 hm).1
      have := (gr_trans e18 e9).size
      omega
    have hN1 := hW1.N_le
    have hfresh : ∀ b, blkOf (some (⟨g, 0, none⟩ : Addr)) = some b → ¬ Fz b := fun b hb hF => by
      have h1 := hz b hF
      have h2 : g = b := Option.some.inj hb
      have h3 := e1.size
      omega
    refine wpIn_seq (drawD (G := G) (n := 84) (ρ := (5, .pointer (some ⟨gL, 0, none⟩)) :: envA gW g3) (fun w w' => w.grownBy w' none) (fun _ _ => True) [6] [] [] (fun w => gr_refl w none) (fun a b c => gr_trans) (fun _ _ _ => trivial) (fun _ _ _ _ _ => trivial) (by kernel_rfl)
      (a := { a9 with defers := _ }) (Df := _) (hf9.weaken (l := (5, .pointer (some ⟨gL, 0, none⟩)) :: envA gW g3) ⟨rfl, rfl, rfl, trivial⟩ |> fun h => ⟨h.size, rfl, h.get⟩) rfl
      (fun ρ' w' => Has ρ' ((5, .pointer (some ⟨gL, 0, none⟩)) :: envA gW g3) ∧ W.grownBy w' (some r) ∧ MapOk .i64 (Known a N Fz W) w' r) ?_ ?_)
    · have ed := gr_drewN W 1
      refine D.run rfl <| D.ld 3 rfl rfl rfl rfl (fun w' hw => ((hWW.box.mv0 ed).mv0 hw).cell rfl rfl) <| D.ldA 4 rfl rfl rfl rfl rfl (fun w' hw => (((b31.mv0 e1W).mv0 ed).mv0 hw).cellsAll) <| D.ld 5 rfl rfl rfl rfl (fun w' hw => ((bL.mv0 ed).mv0 hw).cell rfl rfl) <|
        D.one 6 rfl rfl <| M.mapUp (T := Known a N Fz W) rfl (hWW.map.mv0 ed) Try.underlying125 key102 ⟨k, hk, some ⟨g, 0, none⟩, a.ds[k].passed.length, rfl, by rw [share_len], hO.weaken (Nat.le_trans hN1 e16.size) (fun _ h => h), hfresh⟩ fun w' hM e' => M.run rfl <| M.end_ ⟨.inl ⟨rfl, trivial⟩, D.done_ rfl <| M.run rfl <| M.end_ ⟨⟨rfl, rfl, rfl, trivial⟩, gr_transR (gr_weak ed) e', hM⟩⟩
    rintro ρA aA wA hfA ⟨hhA, eA, hmA⟩
    have hrg : r ≠ g ∧ r ≠ gL ∧ r < w1.heap.size := by
      obtain ⟨ms, cl, hm, _⟩ := hW1.map
      have := (Array.getElem?_eq_some_iff.1 hm).1
      omega
    have hKA : wA.heap[Dd]? = some (.deferred (some [])) := (eA.block Dd (Array.getElem?_eq_some_iff.1 hK).1 (fun e => hrD (by injection e with e; exact e.symm))).trans hK
    have hWA := hWW.put hmA eA
    have bLA := bL.mv1 eA hrg.2.1
    have hOA := (hO.weaken (base' := N) (Nat.le_trans hN1 e16.size) (fun _ h => h)).mv1 eA (fun h => hrg.1 (by injection h with h; injection h with h; exact h.symm)) (fun h => h)
    refine wpIn_seq (regD (G := G) (n := 84) (ρ := (5, .pointer (some ⟨gL, 0, none⟩)) :: envA gW g3) (a := { aA with defers := _ }) (Df := _) (hfA.weaken hhA |> fun h => ⟨h.size, rfl, h.get⟩) rfl
      (fun ρ' w' => ρ'.find 4 = some (.slice (some ⟨g, 0, none⟩) a.ds[k].passed.length a.ds[k].passed.length) ∧ w' = wA) (M.run rfl <| M.ld rfl (bLA.cell rfl rfl) <| M.run rfl <| M.end_ ⟨rfl, rfl⟩) ?_)
    rintro ρB aB wB hfB ⟨hfd, rfl⟩
    have hres : resE ρB Try.f59.results.toList = some [.slice (some ⟨g, 0, none⟩) a.ds[k].passed.length a.ds[k].passed.length] := by
      show resE ρB [.tmp 4] = _
      simp [resE, hfd]
    have hDw : w.heap.size ≤ Dd := by have := e1.size; have := (gr_trans e18 e9).size; omega
    have hgD : g ≠ Dd := by have := e9.size; omega
    have eD := grownBy_putObj' wB Dd (.deferred none)
    refine wpIn_ret ?_
    refine ⟨by simp, .inl ⟨Dd, _, rfl, run_takeDeferred hKA, ?_⟩⟩
    rw [hf9.defers]
    refine ⟨_, results_run (G := G) (a := { aB with defers := [] }) ⟨hfB.size, rfl, hfB.get⟩ hres rfl _, some ⟨g, 0, none⟩, a.ds[k].passed.length, by rw [share_len]; rfl, hOA.mv1 eD (fun h => hgD (by injection h with h; injection h)) (fun h => h), ?_, hWA.mvD hKA (by have := e1.size; have := (gr_trans e18 e9).size; omega) eD⟩
    have h1 : w.grownBy wB (some r) := gr_transR (gr_weak (gr_trans e1 e1W)) eA
    exact ⟨eD.os.trans h1.os, eD.tape.trans h1.tape, eD.output.trans h1.output, Nat.le_trans h1.size eD.size, fun i hi hne => (eD.block i (Nat.lt_of_lt_of_le hi h1.size) (fun e => by injection e with e; omega)).trans (h1.block i hi hne)⟩
end Go.Proofs.Yteeikpmoboehdaa
end

section
/- Walks: change, balance, work. -/
set_option linter.unusedVariables false
namespace Go.Proofs.Yteeikpmoboehdaa
open Go Go.Vc Go.RowKit Py

theorem change_bd {a : Acc} (ha : Ok a) (d : Dsp) {nw : Int} (hn : 0 ≤ nw ∧ nw ≤ 200) (s : Int) : -4000 ≤ change a d nw s ∧ change a d nw s ≤ 4000 := by
  have hp : price a nw ≤ 4000 := by
    have : nw * a.rate ≤ 200 * 20 := Int.mul_le_mul hn.2 ha.rate.2 ha.rate.1 (by omega)
    unfold price; omega
  have hp0 : 0 ≤ price a nw := Int.mul_nonneg hn.1 ha.rate.1
  unfold change
  split
  · split
    · rename_i h
      have := shr_le ha hn.1 h
      have := shr_nonneg ha d.passed.length hn.1 (d.passed.idxOf s)
      omega
    · omega
  · split
    · rename_i h
      have := shr_le ha hn.1 h
      have := shr_nonneg ha d.passed.length hn.1 (d.passed.idxOf s)
      omega
    · omega
theorem WorkAt.rdP {a : Acc} {N : Nat} {w : World} {P : Option Addr} {p : Nat} {l : List Int} (h : Sl dI w (· < N) P p l) (hN : N ≤ w.heap.size) : Rd dI w P p l := h.mono (fun b hb => Nat.lt_of_lt_of_le hb hN)

set_option maxHeartbeats 2000000 in
theorem change_go (a : Acc) (ha : Ok a) (k : Nat) (hk : k < a.ds.length) (nw : Int) (hn : 0 ≤ nw ∧ nw ≤ 200) (s : Int) (A : Option Addr) (c N : Nat) (Fz : Nat → Prop) (gW r : Nat) (w : World) (hW : WorkAt a A c N Fz gW r w) (hz : ∀ b, Fz b → b < w.heap.size) :
    Calls Try.prog 86 #[.pointer (some ⟨gW, 0, none⟩), .agg #[.int .i64 (k : Int), .int .i64 nw], .int .i64 s] w fun e w' => e = .returned (.int .i64 (change a a.ds[k] nw s)) ∧ w.grownBy w' (some r) ∧ WorkAt a A c N Fz gW r w' := by
  have hd := ha.d a.ds[k] (List.getElem_mem hk)
  have hrate := ha.rate
  have hp : price a nw ≤ 4000 := by
    have : nw * a.rate ≤ 200 * 20 := Int.mul_le_mul hn.2 ha.rate.2 ha.rate.1 (by omega)
    unfold price; omega
  have hp0 : 0 ≤ price a nw := Int.mul_nonneg hn.1 ha.rate.1
  obtain ⟨hA1, P, pc, hP, hdc⟩ := hW.dsp hk
  have hPr := WorkAt.rdP (a := a) hP hW.N_le
  refine calls (G := G) (args := [.pointer (some ⟨gW, 0, none⟩), .agg #[.int .i64 (k : Int), .int .i64 nw], .int .i64 s]) Try.func86 rfl rfl rfl ?_
  refine M.run rfl <| M.nw rfl fun g4 w1 b4 e1 l1 => M.run rfl <| M.drawG [10] (by kernel_rfl) fun w2 e2 => ?_
  have e02 := gr_trans e1 e2
  refine D.run rfl <| D.ld 4 rfl rfl rfl rfl (fun w' hw => ((hW.box.mv0 e02).mv0 hw).cell rfl rfl) <| D.ld 6 rfl rfl rfl rfl (fun w' hw => ((b4.mv0 e2).mv0 hw).cell rfl rfl) <| D.ys 7 rfl rfl rfl (YS.ix rfl (by omega) (by omega) hA1) <|
    D.ldA 8 rfl rfl rfl rfl rfl (fun w' hw => hdc w' none (gr_trans e02 hw) (by simp)) <| D.one 9 rfl rfl <| M.nw rfl fun g7 w3 b7 e3 l7 => M.run rfl <| M.end_ ⟨.inr e3, D.one 10 rfl rfl <| M.store rfl rfl b7 rfl rfl fun w4 b74 e4 => M.run rfl <| M.end_ ⟨.inl ⟨rfl, trivial⟩, D.done_ rfl <| M.run rfl ?_⟩⟩
  have e04 : w.grownBy w4 none := gr_fresh (gr_trans e02 e3) e4 (Nat.le_trans e02.size l7)
  have e14 : w1.grownBy w4 none := gr_fresh (gr_trans e2 e3) e4 (Nat.le_trans e2.size l7)
  have b44 := b4.mv0 e14
  refine M.ld rfl (b74.cell rfl rfl) <| M.run rfl ?_
  refine M.cutC (σ := Int) (fun x => [(0, .pointer (some ⟨gW, 0, none⟩)), (2, .int .i64 s), (4, .pointer (some ⟨g4, 0, none⟩)), (6, .int .i64 x), (7, .pointer (some ⟨g7, 0, none⟩))]) (fun x w' => x = (if a.ds[k].payer = s then - price a nw else 0) ∧ w4.grownBy w' none) ?_ ?_ post_weak
  · refine M.cond rfl (fun h => ?_) (fun h => ?_)
    · have h' : a.ds[k].payer = s := by simpa using h
      refine M.run rfl <| M.drawG [] (by kernel_rfl) fun w5 e5 => ?_
      refine D.run rfl <| D.ld 2 rfl rfl rfl rfl (fun w' hw => ((b44.mv0 e5).mv0 hw).cell rfl rfl) <| D.run rfl <| D.ld 7 rfl rfl rfl rfl (fun w' hw => ((hW.box.mv0 (gr_trans e04 e5)).mv0 hw).cell rfl rfl) <| D.run rfl <| D.done_ rfl <| M.run rfl <| M.end_ ⟨- price a nw, ⟨rfl, rfl, rfl, ?_, rfl, trivial⟩, (if_pos h').symm, e5⟩
      show some (Value.int .i64 (IntKind.i64.wrap (0 - IntKind.i64.wrap (nw * a.rate)))) = _
      have : nw * a.rate = price a nw := rfl
      rw [this, w64 (x := price a nw) (by omega) (by omega), w64 (by omega) (by omega), Int.zero_sub]
    · have h' : ¬ a.ds[k].payer = s := by simpa using h
      exact M.run rfl <| M.end_ ⟨0, ⟨rfl, rfl, rfl, rfl, rfl, trivial⟩, (if_neg h').symm, gr_refl _ _⟩
  rintro x w5 ⟨hx, e5⟩
  have e05 := gr_trans e04 e5
  have hW5 := hW.mv0 e05
  refine M.run rfl <| M.ld rfl ((b74.mv0 e5).cell rfl rfl) <| M.run rfl <| M.cl rfl (Index_go a.ds[k].passed s P pc w5 (hPr.mv e05)) ?_
  rintro e w6 ⟨rfl, e6⟩
  have e06 := gr_trans e05 e6
  have hxb : -4000 ≤ x ∧ x ≤ 4000 := by rw [hx]; split <;> omega
  refine ⟨_, rfl, M.run rfl <| M.cond rfl (fun h => ?_) (fun h => ?_)⟩
  · have h0 : idxI a.ds[k].passed s ≥ 0 := of_decide_eq_true h
    have hi : a.ds[k].passed.idxOf s < a.ds[k].passed.length := by
      unfold idxI at h0; split at h0
      · assumption
      · omega
    have hie : idxI a.ds[k].passed s = (a.ds[k].passed.idxOf s : Int) := by unfold idxI; rw [if_pos hi]
    have hch : change a a.ds[k] nw s = x + shr a a.ds[k].passed.length nw (a.ds[k].passed.idxOf s) := by unfold change; rw [if_pos hi, ← hx]
    have hcb := change_bd ha a.ds[k] hn s
    refine M.run rfl <| M.ldA rfl rfl (b44.mv0 (gr_trans e5 e6)).cellsAll <| M.run rfl <| M.cl rfl (shares_go a ha k hk nw hn A c N Fz gW r w6 (hW.mv0 e06) (fun b hb => Nat.lt_of_lt_of_le (hz b hb) e06.size)) ?_
    rintro e w7 ⟨X, xc, rfl, hX, e7, hW7⟩
    rw [hie]
    have hxl : a.ds[k].passed.idxOf s < (share a a.ds[k] nw).length := by rw [share_len]; exact hi
    obtain ⟨g, cur, rfl, _, bX, _, hcX, _⟩ := own_int hX hxl
    rw [at0_get hxl, share_at a a.ds[k] nw hi] at hcX
    refine ⟨_, rfl, M.run rfl <| M.ix rfl (by omega) (by omega) rfl <| M.run rfl <| M.ld rfl (by rw [← hcX]; exact congrArg _ (ad1 g _)) <| M.run rfl <| M.retF rfl rfl ⟨?_, gr_transR (gr_weak e06) e7, hW7⟩⟩
    show Ending.returned (Value.int .i64 (IntKind.i64.wrap (x + _))) = _
    rw [hch] at hcb ⊢
    rw [w64 (by omega) (by omega)]
  · have h0 : ¬ idxI a.ds[k].passed s ≥ 0 := of_decide_eq_false h
    have hi : ¬ a.ds[k].passed.idxOf s < a.ds[k].passed.length := fun hi => h0 (by unfold idxI; rw [if_pos hi]; omega)
    refine M.run rfl <| M.retF rfl rfl ⟨?_, gr_weak e06, hW.mv0 e06⟩
    have hch : change a a.ds[k] nw s = x := by unfold change; rw [if_neg hi, ← hx]; omega
    rw [hch]; rfl
end Go.Proofs.Yteeikpmoboehdaa
end

section
/- Walks: balance, work. -/
set_option linter.unusedVariables false
namespace Py
def dAt (a : Acc) (i : Nat) : Dsp := a.ds.getD i ⟨0, 0, 0, []⟩
theorem dAt_get {a : Acc} {i : Nat} (h : i < a.ds.length) : a.ds[i] = dAt a i := by unfold dAt; simp [List.getD_eq_getElem?_getD, List.getElem?_eq_getElem h]
def balTo (a : Acc) (t : List Int) (s : Int) (m : Nat) : Int := sumTo (fun i => change a (dAt a i) (at0 t i) s) m
def bal (a : Acc) (t : List Int) (s : Int) : Int := balTo a t s t.length
end Py
namespace Go.Proofs.Yteeikpmoboehdaa
open Go Go.Vc Go.RowKit Py
/-- readable, beside a block -/
abbrev RdX {α : Type} (d : Rp α) (w : World) (r : Nat) (A : Option Addr) (c : Nat) (xs : List α) : Prop := Sl d w (fun b => b ≠ r ∧ b < w.heap.size) A c xs
theorem RdX.mv {α : Type} {d : Rp α} {w w' : World} {r : Nat} {A : Option Addr} {c : Nat} {xs : List α} (h : RdX d w r A c xs) (e : w.grownBy w' (some r)) : RdX d w' r A c xs :=
  (h.move (fun b hb => e.block b hb.2 (fun he => hb.1 (by injection he)))).mono (fun b hb => ⟨hb.1, Nat.lt_of_lt_of_le hb.2 e.size⟩)
theorem RdX.rd {α : Type} {d : Rp α} {w : World} {r : Nat} {A : Option Addr} {c : Nat} {xs : List α} (h : RdX d w r A c xs) : Rd d w A c xs := h.mono (fun b hb => hb.2)
theorem bal_bd {a : Acc} (ha : Ok a) {t : List Int} (ht : ∀ i, i < t.length → 0 ≤ at0 t i ∧ at0 t i ≤ 200) (s : Int) : ∀ m, m ≤ t.length → -4000 * (m : Int) ≤ balTo a t s m ∧ balTo a t s m ≤ 4000 * (m : Int)
  | 0, _ => by simp [balTo, sumTo]
  | m + 1, h => by
    have ih := bal_bd ha ht s m (by omega)
    have := change_bd ha (dAt a m) (ht m (by omega)) s
    unfold balTo at ih ⊢
    unfold sumTo
    push_cast
    omega
set_option maxHeartbeats 1000000 in
theorem balance_go (a : Acc) (ha : Ok a) (t : List Int) (ht : ∀ i, i < t.length → 0 ≤ at0 t i ∧ at0 t i ≤ 200) (hl : t.length ≤ a.ds.length) (s : Int) (A : Option Addr) (c N : Nat) (Fz : Nat → Prop) (gW r : Nat) (U : Option Addr) (d : Nat) (w : World) (hW : WorkAt a A c N Fz gW r w) (hU : RdX dI w r U d t) (hz : ∀ b, Fz b → b < w.heap.size) :
    Calls Try.prog 60 #[.pointer (some ⟨gW, 0, none⟩), .slice U t.length d, .int .i64 s] w fun e w' => e = .returned (.int .i64 (bal a t s)) ∧ w.grownBy w' (some r) ∧ WorkAt a A c N Fz gW r w' := by
  have hsix := ha.six
  refine calls (G := G) (args := [.pointer (some ⟨gW, 0, none⟩), .slice U t.length d, .int .i64 s]) Try.func60 rfl rfl rfl ?_
  refine M.run rfl <| M.loop (σ := Nat) (fun i => [(0, .pointer (some ⟨gW, 0, none⟩)), (2, .int .i64 s), (6, .int .i64 (balTo a t s i)), (9, .slice U t.length d), (10, .int .i64 (t.length : Int)), (11, .int .i64 (i : Int))])
    (fun i w' => i ≤ t.length ∧ w.grownBy w' (some r) ∧ WorkAt a A c N Fz gW r w') (fun i => t.length - i) 0 ⟨rfl, rfl, rfl, rfl, rfl, rfl, trivial⟩ ⟨Nat.zero_le _, gr_refl _ _, hW⟩ ?_
  rintro i w1 ⟨hi, e1, hW1⟩
  refine M.run rfl <| M.cond rfl (fun h => ?_) (fun h => ?_)
  rotate_left
  · have : i = t.length := by have := of_decide_eq_false h; omega
    subst this
    exact M.run rfl <| M.retF rfl rfl ⟨rfl, e1, hW1⟩
  have hlt : i < t.length := by have := of_decide_eq_true h; omega
  obtain ⟨hU1, hUC⟩ := rd_flat (hU.mv e1).rd hlt
  rw [at0_get hlt] at hUC
  have hb := bal_bd ha ht s (i + 1) (by omega)
  have hcg := change_go a ha i (by omega) (at0 t i) (ht i hlt) s A c N Fz gW r w1 hW1 (fun b hb => Nat.lt_of_lt_of_le (hz b hb) e1.size)
  rw [dAt_get (show i < a.ds.length by omega)] at hcg
  refine M.run rfl <| M.ix rfl (by omega) (by omega) hU1 <| M.run rfl <| M.ld rfl ((hUC w1 (gr_below (gr_refl _ _))).one 0 rfl rfl) <| M.run rfl <| M.cl rfl hcg ?_
  rintro e w2 ⟨rfl, e2, hW2⟩
  refine ⟨_, rfl, M.run rfl <| M.end_ ⟨i + 1, ⟨rfl, rfl, ?_, rfl, rfl, nxt hlt (by omega), trivial⟩, ⟨by omega, gr_transR e1 e2, hW2⟩, by omega⟩⟩
  show some (Value.int .i64 (IntKind.i64.wrap (balTo a t s (i + 1)))) = _
  rw [w64 (by omega) (by omega)]

/-- an account at work, or its error -/
theorem work_go (a : Acc) (A : Option Addr) (c : Nat) (w : World) (hA : Rd dDsp w A c a.ds) :
    Calls Try.prog 56 #[vAcc a A c] w fun e w' => w.grownBy w' none ∧ ((fault a ≠ 0 ∧ e = .returned (.tuple #[.pointer none, .int .i64 (fault a)])) ∨
      (fault a = 0 ∧ ∃ gW r, e = .returned (.tuple #[.pointer (some ⟨gW, 0, none⟩), .int .i64 0]) ∧ ∀ Fz, WorkAt a A c w.heap.size Fz gW r w')) := by
  refine calls (G := G) (args := [vAcc a A c]) Try.func56 rfl rfl rfl ?_
  refine M.run rfl <| M.nw rfl fun g1 w1 b1 e1 l1 => M.run rfl <| M.ldA rfl rfl b1.cellsAll <| M.run rfl <| M.cl rfl (CheckAccount_go a A c w1 (hA.mv e1)) ?_
  rintro e w2 ⟨rfl, e2⟩
  have e02 := gr_trans e1 e2
  refine ⟨_, rfl, M.run rfl <| M.cond rfl (fun h => ?_) (fun h => ?_)⟩
  · have h' : fault a ≠ 0 := by simpa using h
    exact M.run rfl <| M.retF rfl rfl ⟨e02, .inl ⟨h', rfl⟩⟩
  have h' : fault a = 0 := by simpa using h
  refine M.run rfl <| M.ldA rfl rfl (b1.mv0 e2).cellsAll <| M.run rfl <| M.mkMap .i64 (fun _ _ _ => False) rfl fun r w3 hM e3 lr => M.run rfl <| M.nw rfl fun gW w4 bW e4 lW => M.run rfl <| M.retF rfl rfl ⟨gr_trans (gr_trans e02 e3) e4, .inr ⟨h', gW, r, rfl, ?_⟩⟩
  have e04 := gr_trans (gr_trans e02 e3) e4
  exact fun Fz => ⟨bW, by have := (gr_trans e02 e3).size; omega, by have := e02.size; omega, hA.move (fun b hb => e04.block b hb (by simp)), e04.size, (hM.mv0 e4).imp (fun _ _ _ h => h.elim)⟩
end Go.Proofs.Yteeikpmoboehdaa
end

section
/- Walks: Shares. -/
set_option linter.unusedVariables false
namespace Py
def sharesE (a : Acc) (i n : Int) : Int := if fault a ≠ 0 then fault a else if !within i 0 ((a.ds.length : Int) - 1) || !within n (dAt a i.toNat).lo (dAt a i.toNat).hi then 2 else 0
def sharesR (a : Acc) (i n : Int) : List Int := if sharesE a i n = 0 then share a (dAt a i.toNat) n else []
end Py
namespace Go.Proofs.Yteeikpmoboehdaa
open Go Go.Vc Go.RowKit Py
theorem fault_six {a : Acc} (h : fault a = 0) : a.ds.length ≤ 6 := (fault_ok h).six
set_option maxHeartbeats 1000000 in
theorem Shares_go (a : Acc) (i n : Int) (A : Option Addr) (c : Nat) (w : World) (hA : Rd dDsp w A c a.ds) :
    Calls Try.prog 20 #[vAcc a A c, .int .i64 i, .int .i64 n] w fun e w' => ∃ X x, e = .returned (.tuple #[.slice X (sharesR a i n).length x, .int .i64 (sharesE a i n)]) ∧ Vc.Own dI 3 w' w.heap.size no X x (sharesR a i n) ∧ w.grownBy w' none := by
  refine calls (G := G) (args := [vAcc a A c, .int .i64 i, .int .i64 n]) Try.func20 rfl rfl rfl ?_
  refine M.run rfl <| M.nw rfl fun g3 w1 b3 e1 l1 => M.run rfl <| M.ldA rfl rfl b3.cellsAll <| M.run rfl <| M.cl rfl (work_go a A c w1 (hA.mv e1)) ?_
  rintro e w2 ⟨e2, h⟩
  have e02 := gr_trans e1 e2
  replace b3 := b3.mv0 e2
  rcases h with ⟨hf, rfl⟩ | ⟨hf, gW, r, rfl, hWz⟩
  · have hE : sharesE a i n = fault a := by unfold sharesE; rw [if_pos hf]
    have hR : sharesR a i n = [] := by unfold sharesR; rw [hE, if_neg hf]
    refine ⟨_, rfl, M.run rfl <| M.condT rfl (by simpa using hf) <| M.run rfl <| M.retF rfl rfl ⟨none, 0, ?_, ?_, e02⟩⟩
    · rw [hE, hR]; rfl
    · rw [hR]; exact Vc.Own.nil _ _ _ _ _
  have hW := hWz no
  have ha := fault_ok hf
  have hsix := ha.six
  have bad : (!within i 0 ((a.ds.length : Int) - 1) || !within n (dAt a i.toNat).lo (dAt a i.toNat).hi) = true → sharesE a i n = 2 ∧ sharesR a i n = [] := fun hb => by
    have hE : sharesE a i n = 2 := by unfold sharesE; rw [if_neg (by simpa using hf), if_pos hb]
    exact ⟨hE, by unfold sharesR; rw [hE, if_neg (by decide)]⟩
  refine ⟨_, rfl, M.run rfl <| M.condF rfl rfl <| M.run rfl <| M.ld rfl (b3.cell rfl rfl) <| M.run rfl ?_⟩
  rw [w64 (x := (a.ds.length : Int) - 1) (by omega) (by omega)]
  refine M.cl rfl (within_go _ _ _ _) ?_
  rintro e w3 ⟨rfl, e3⟩
  replace b3 := b3.mv0 e3
  have e03 := gr_trans e02 e3
  refine ⟨_, rfl, M.at_ [27] rfl <| M.case 27 rfl (fun h1 => ?_) (fun h1 => ?_)⟩
  · obtain ⟨hE, hR⟩ := bad (by rw [h1, Bool.true_or])
    refine M.run rfl <| M.condT rfl rfl <| M.run rfl <| M.retF rfl rfl ⟨none, 0, ?_, ?_, e03⟩
    · rw [hE, hR]; rfl
    · rw [hR]; exact Vc.Own.nil _ _ _ _ _
  have hin := Py.within_iff.1 (show within i 0 ((a.ds.length : Int) - 1) = true by simpa using h1)
  obtain ⟨k, rfl⟩ : ∃ k : Nat, i = k := ⟨i.toNat, by omega⟩
  have hk : k < a.ds.length := by omega
  rw [Int.toNat_natCast] at bad
  obtain ⟨hA1, P, pc, hP, hdc⟩ := (hW.mv0 e3).dsp hk
  have hcells := hdc w3 none (gr_refl _ _) (by simp)
  rw [dAt_get hk] at hcells
  refine M.run rfl <| M.ld rfl (b3.cell rfl rfl) <| M.run rfl <| M.ix rfl (by omega) (by omega) hA1 <| M.run rfl <| M.ldA rfl rfl (cs := [.int .i64 (dAt a k).lo, .int .i64 (dAt a k).hi]) (fun j u hj => by
    have : ((adOf A).add (k * 4)).add 1 = ((adOf A).add (k * 4)).add 1 := rfl
    have h2 := hcells (1 + j) u (by
      match j, hj with
      | 0, hj => exact hj
      | 1, hj => exact hj
      | j + 2, hj => simp at hj)
    rw [← add_add] at h2
    exact h2) <| M.run rfl <| M.cl rfl (has_go _ _ _ _) ?_
  rintro e w4 ⟨rfl, e4⟩
  have e04 := gr_trans e03 e4
  refine ⟨_, rfl, M.run rfl <| M.cond rfl (fun h2 => ?_) (fun h2 => ?_)⟩
  · obtain ⟨hE, hR⟩ := bad (by rw [h2, Bool.or_true])
    refine M.run rfl <| M.retF rfl rfl ⟨none, 0, ?_, ?_, e04⟩
    · rw [hE, hR]; rfl
    · rw [hR]; exact Vc.Own.nil _ _ _ _ _
  have hn := Py.within_iff.1 (show within n (dAt a k).lo (dAt a k).hi = true by simpa using h2)
  have hd := ha.d a.ds[k] (List.getElem_mem hk)
  rw [dAt_get hk] at hd
  have hlo := hd.lo
  have hhi := hd.hi
  have hE : sharesE a k n = 0 := by unfold sharesE; rw [if_neg (by simpa using hf), Int.toNat_natCast, h1, h2]; rfl
  have hR : sharesR a k n = share a (dAt a k) n := by unfold sharesR; rw [if_pos hE, Int.toNat_natCast]
  have hc := shares_go a ha k hk n ⟨by omega, by omega⟩ A c w1.heap.size no gW r w4 (hW.mv0 (gr_trans e3 e4)) (fun _ h => h.elim)
  rw [dAt_get hk] at hc
  refine M.run rfl <| M.cl rfl hc ?_
  rintro e w5 ⟨X, x, rfl, hX, e5, hW5⟩
  have e05 : w.grownBy w5 none := gr_fresh e04 e5 (Nat.le_trans e1.size hW.r_ge)
  have hXr : Rd dI w5 X x (share a (dAt a k) n) := hX.rd (by decide)
  refine ⟨_, rfl, M.run rfl <| M.cl rfl (Clone_go _ X x w5 hXr (by rw [share_len]; have := hd.five; omega)) ?_⟩
  rintro e w6 ⟨Y, y, rfl, hY, e6⟩
  refine ⟨_, rfl, M.run rfl <| M.retF rfl rfl ⟨Y, y, ?_, ?_, gr_trans e05 e6⟩⟩
  · rw [hE, hR]; rfl
  · rw [hR]; exact hY.weaken e05.size (fun _ h => h)
end Go.Proofs.Yteeikpmoboehdaa
end

section
/- The first words that reach an end. -/
set_option linter.unusedVariables false
namespace Py
def firstEq (f : Int → Int) (v : Int) : Nat → Int → Int
  | 0, n => n
  | k + 1, n => if f n = v then n else firstEq f v k (n + 1)
theorem firstEq_at {f : Int → Int} {v : Int} : ∀ (k : Nat) (n r : Int), n ≤ r → r ≤ n + k → f r = v → (∀ j, n ≤ j → j < r → f j ≠ v) → firstEq f v k n = r
  | 0, n, r, h1, h2, _, _ => by unfold firstEq; omega
  | k + 1, n, r, h1, h2, hv, hn => by
    unfold firstEq
    by_cases h : n = r
    · subst h; rw [if_pos hv]
    · rw [if_neg (hn n (Int.le_refl _) (by omega))]
      exact firstEq_at k (n + 1) r (by omega) (by omega) hv (fun j h3 h4 => hn j (by omega) h4)
/-- the words at an end of a balance -/
def endW (d : Dsp) (high : Bool) (s : Int) : Int := if high then (if d.payer = s then d.lo else d.hi) else (if d.payer = s then d.hi else d.lo)
def firstW (a : Acc) (d : Dsp) (high : Bool) (s : Int) : Int := firstEq (fun n => change a d n s) (change a d (endW d high s) s) (d.hi - d.lo).toNat d.lo
theorem endW_in {d : Dsp} (h : d.lo ≤ d.hi) (high : Bool) (s : Int) : d.lo ≤ endW d high s ∧ endW d high s ≤ d.hi := by
  unfold endW; split <;> split <;> omega
theorem firstW_at {a : Acc} {d : Dsp} (high : Bool) (s : Int) {r : Int} (h1 : d.lo ≤ r) (h2 : r ≤ d.hi) (hv : change a d r s = change a d (endW d high s) s) (hn : ∀ j, d.lo ≤ j → j < r → change a d j s ≠ change a d (endW d high s) s) : firstW a d high s = r :=
  firstEq_at _ _ _ h1 (by omega) hv hn
end Py
end

section
/- Walks: Balance. -/
set_option linter.unusedVariables false
namespace Py
def truthOk (a : Acc) (t : List Int) : Bool := decide (t.length = a.ds.length) && (List.range t.length).all fun i => within (at0 t i) (dAt a i).lo (dAt a i).hi
def balanceE (a : Acc) (t : List Int) : Int := if fault a ≠ 0 then fault a else if truthOk a t then 0 else 2
def balL (a : Acc) (t : List Int) (m : Nat) : List Int := (List.range m).map fun (s : Nat) => bal a t (s : Int)
def balanceR (a : Acc) (t : List Int) : List Int := if balanceE a t = 0 then balL a t a.stations.toNat else []
theorem balL_succ (a : Acc) (t : List Int) (m : Nat) : balL a t (m + 1) = balL a t m ++ [bal a t (m : Int)] := by unfold balL; rw [List.range_succ, List.map_append]; rfl
theorem balL_len (a : Acc) (t : List Int) (m : Nat) : (balL a t m).length = m := by simp [balL]
end Py
namespace Go.Proofs.Yteeikpmoboehdaa
open Go Go.Vc Go.RowKit Py
theorem own_grR {α : Type} {d : Rp α} {e base : Nat} {F : Nat → Prop} {X : Option Addr} {x r : Nat} {xs : List α} {w0 w w' : World} (h : Vc.Own d e w base F X x xs) (h0 : w0.grownBy w (some r)) (hg : w.grownBy w' (blkOf X)) (hb : w0.heap.size ≤ base) : w0.grownBy w' (some r) :=
  ⟨hg.os.trans h0.os, hg.tape.trans h0.tape, hg.output.trans h0.output, Nat.le_trans h0.size hg.size, fun i hi hne => (hg.block i (Nat.lt_of_lt_of_le hi h0.size) (fun e => by have := (h.blkGe i e.symm).1; omega)).trans (h0.block i hi hne)⟩
/-- a row of the call's own grows: what is known lies elsewhere -/
theorem WorkAt.app {a : Acc} {A : Option Addr} {c N gW r : Nat} {w w' : World} {X X1 : Option Addr} (h : WorkAt a A c N (fun b => blkOf X = some b) gW r w) (hX : ∀ b, blkOf X = some b → N ≤ b ∧ b ≠ gW ∧ b ≠ r) (hat : blkOf X1 = blkOf X ∨ blkOf X1 = some w.heap.size) (e : w.grownBy w' (blkOf X)) :
    WorkAt a A c N (fun b => blkOf X1 = some b) gW r w' := by
  have h1 := h.fz (Fz' := fun b => blkOf X = some b ∨ w.heap.size ≤ b) (fun b hb => hb)
  have h2 : WorkAt a A c N (fun b => blkOf X = some b ∨ w.heap.size ≤ b) gW r w' := by
    cases hx : blkOf X with
    | none => rw [hx] at e h1; exact h1.mv0 e
    | some g => rw [hx] at e h1; obtain ⟨k1, k2, k3⟩ := hX g hx; exact h1.mvF e (.inl rfl) k1 k2 k3
  refine h2.fz (fun b hb => .inl ?_)
  rcases hat with hat | hat
  · exact .inl (by rw [← hat]; exact hb)
  · rw [hat] at hb; injection hb with hb; exact .inr (Nat.le_of_eq hb)
theorem WorkAt.lt {a : Acc} {A : Option Addr} {c N : Nat} {Fz : Nat → Prop} {gW r : Nat} {w : World} (h : WorkAt a A c N Fz gW r w) : r < w.heap.size ∧ gW < w.heap.size := by
  obtain ⟨ms, cl, hm, _⟩ := h.map
  exact ⟨(Array.getElem?_eq_some_iff.1 hm).1, h.box.lt⟩
set_option maxHeartbeats 2000000 in
theorem Balance_go (a : Acc) (t : List Int) (A : Option Addr) (c : Nat) (U : Option Addr) (d : Nat) (w : World) (hA : Rd dDsp w A c a.ds) (hU : Rd dI w U d t) :
    Calls Try.prog 21 #[vAcc a A c, .slice U t.length d] w fun e w' => ∃ X x, e = .returned (.tuple #[.slice X (balanceR a t).length x, .int .i64 (balanceE a t)]) ∧ Vc.Own dI 3 w' w.heap.size no X x (balanceR a t) ∧ w.grownBy w' none := by
  have hbd := hU.bd
  refine calls (G := G) (args := [vAcc a A c, .slice U t.length d]) Try.func21 rfl rfl rfl ?_
  refine M.run rfl <| M.nw rfl fun g2 w1 b2 e1 l1 => M.run rfl <| M.ldA rfl rfl b2.cellsAll <| M.run rfl <| M.cl rfl (work_go a A c w1 (hA.mv e1)) ?_
  rintro e w2 ⟨e2, h⟩
  have e02 := gr_trans e1 e2
  replace b2 := b2.mv0 e2
  rcases h with ⟨hf, rfl⟩ | ⟨hf, gW, r, rfl, hWz⟩
  · have hE : balanceE a t = fault a := by unfold balanceE; rw [if_pos hf]
    have hR : balanceR a t = [] := by unfold balanceR; rw [hE, if_neg hf]
    refine ⟨_, rfl, M.run rfl <| M.condT rfl (by simpa using hf) <| M.run rfl <| M.retF rfl rfl ⟨none, 0, ?_, ?_, e02⟩⟩
    · rw [hE, hR]; rfl
    · rw [hR]; exact Vc.Own.nil _ _ _ _ _
  have ha := fault_ok hf
  have hsix := ha.six
  have bad : truthOk a t = false → balanceE a t = 2 ∧ balanceR a t = [] := fun hb => by
    have hE : balanceE a t = 2 := by unfold balanceE; rw [if_neg (by simpa using hf), hb]; rfl
    exact ⟨hE, by unfold balanceR; rw [hE, if_neg (by decide)]⟩
  refine ⟨_, rfl, M.run rfl <| M.condF rfl rfl <| M.run rfl <| M.ld rfl (b2.cell rfl rfl) <| M.run rfl <| M.cond rfl (fun h => ?_) (fun h => ?_)⟩
  · have hne : ¬ t.length = a.ds.length := by
      have : (t.length : Int) ≠ a.ds.length := by simpa using h
      omega
    obtain ⟨hE, hR⟩ := bad (by unfold truthOk; rw [decide_eq_false hne, Bool.false_and])
    refine M.run rfl <| M.retF rfl rfl ⟨none, 0, ?_, ?_, e02⟩
    · rw [hE, hR]; rfl
    · rw [hR]; exact Vc.Own.nil _ _ _ _ _
  have hlen : t.length = a.ds.length := by
    have : (t.length : Int) = a.ds.length := by simpa using h
    omega
  refine M.run rfl <| M.loop (σ := Nat) (fun i => [(1, .slice U t.length d), (2, .pointer (some ⟨g2, 0, none⟩)), (6, .pointer (some ⟨gW, 0, none⟩)), (26, .slice U t.length d), (27, .int .i64 (t.length : Int)), (28, .int .i64 (i : Int))])
    (fun i w' => i ≤ t.length ∧ w2.grownBy w' none ∧ ∀ k, k < i → within (at0 t k) (dAt a k).lo (dAt a k).hi = true) (fun i => t.length - i) 0 ⟨rfl, rfl, rfl, rfl, rfl, rfl, trivial⟩ ⟨Nat.zero_le _, gr_refl _ _, fun k h => by omega⟩ ?_
  rintro i w3 ⟨hi, e3, hn⟩
  have e03 := gr_trans e02 e3
  refine M.run rfl <| M.cond rfl (fun h => ?_) (fun h => ?_)
  · have hlt : i < t.length := by have := of_decide_eq_true h; omega
    have hk : i < a.ds.length := by omega
    obtain ⟨hU1, hUC⟩ := rd_flat hU hlt
    rw [at0_get hlt] at hUC
    obtain ⟨hA1, P, pc, hP, hdc⟩ := ((hWz no).mv0 e3).dsp hk
    have hcells := hdc w3 none (gr_refl _ _) (by simp)
    rw [dAt_get hk] at hcells
    refine M.run rfl <| M.ix rfl (by omega) (by omega) hU1 <| M.run rfl <| M.ld rfl ((hUC w3 (gr_below e03)).one 0 rfl rfl) <| M.run rfl <| M.ld rfl ((b2.mv0 e3).cell rfl rfl) <| M.run rfl <| M.ix rfl (by omega) (by omega) hA1 <| M.run rfl <|
      M.ldA rfl rfl (cs := [.int .i64 (dAt a i).lo, .int .i64 (dAt a i).hi]) (fun j u hj => by
        have h2 := hcells (1 + j) u (by
          match j, hj with
          | 0, hj => exact hj
          | 1, hj => exact hj
          | j + 2, hj => simp at hj)
        rw [← add_add] at h2
        exact h2) <| M.run rfl <| M.cl rfl (has_go _ _ _ _) ?_
    rintro e w4 ⟨rfl, e4⟩
    refine ⟨_, rfl, M.run rfl <| M.cond rfl (fun h2 => ?_) (fun h2 => ?_)⟩
    · obtain ⟨hE, hR⟩ := bad (by
        unfold truthOk
        rw [List.all_eq_false.2 ⟨i, List.mem_range.2 hlt, by simpa using h2⟩, Bool.and_false])
      refine M.run rfl <| M.retF rfl rfl ⟨none, 0, ?_, ?_, gr_trans e03 e4⟩
      · rw [hE, hR]; rfl
      · rw [hR]; exact Vc.Own.nil _ _ _ _ _
    · have h2' : within (at0 t i) (dAt a i).lo (dAt a i).hi = true := by simpa using h2
      exact M.run rfl <| M.end_ ⟨i + 1, ⟨rfl, rfl, rfl, rfl, rfl, nxt hlt hbd, trivial⟩, ⟨by omega, gr_trans e3 e4, fun k hk => by
        by_cases e : k < i
        · exact hn k e
        · have : k = i := by omega
          subst this; exact h2'⟩, by omega⟩
  have hin : i = t.length := by have := of_decide_eq_false h; omega
  subst hin
  have hok : truthOk a t = true := by
    unfold truthOk
    rw [decide_eq_true hlen, Bool.true_and, List.all_eq_true]
    exact fun k hk => hn k (List.mem_range.1 hk)
  have hE : balanceE a t = 0 := by unfold balanceE; rw [if_neg (by simpa using hf), if_pos hok]
  have hR : balanceR a t = balL a t a.stations.toNat := by unfold balanceR; rw [if_pos hE]
  have hst : 1 ≤ a.stations ∧ a.stations ≤ 7 := ⟨ha.one, ha.seven⟩
  have ht : ∀ k, k < t.length → 0 ≤ at0 t k ∧ at0 t k ≤ 200 := fun k hk => by
    have h1 := Py.within_iff.1 (hn k hk)
    have hd := ha.d (dAt a k) (by rw [← dAt_get (show k < a.ds.length by omega)]; exact List.getElem_mem _)
    have := hd.lo; have := hd.hi; omega
  have hW3 := (hWz (fun b => blkOf none = some b)).mv0 e3
  have hr := hW3.lt
  have hU3 : RdX dI w3 r U d t := (hU.move (fun b hb => e03.block b hb (by simp))).mono (fun b hb => ⟨by have := hW3.r_ge; have := e1.size; omega, Nat.lt_of_lt_of_le hb e03.size⟩)
  refine M.run rfl <| M.ld rfl ((b2.mv0 e3).cell rfl rfl) <| M.run rfl ?_
  refine M.loop (σ := Nat × Option Addr × Nat) (fun (s, X, x) => [(1, .slice U t.length d), (6, .pointer (some ⟨gW, 0, none⟩)), (10, .slice X (balL a t s).length x), (44, .int .i64 a.stations), (45, .int .i64 (s : Int))])
    (fun (s, X, x) w' => (s : Int) ≤ a.stations ∧ w3.grownBy w' (some r) ∧ Vc.Own dI 3 w' w3.heap.size no X x (balL a t s) ∧ WorkAt a A c w1.heap.size (fun b => blkOf X = some b) gW r w') (fun (s, _) => a.stations.toNat - s) (0, none, 0) ⟨rfl, rfl, rfl, rfl, rfl, trivial⟩
    ⟨by omega, gr_refl _ _, Vc.Own.nil _ _ _ _ _, hW3⟩ ?_
  rintro ⟨s, X, x⟩ w4 ⟨hs, e4, hX, hW4⟩
  have e04 : w.grownBy w4 none := gr_fresh e03 e4 (Nat.le_trans e1.size hW3.r_ge)
  refine M.run rfl <| M.cond rfl (fun h => ?_) (fun h => ?_)
  rotate_left
  · have hs' : s = a.stations.toNat := by have := of_decide_eq_false h; omega
    refine M.run rfl <| M.retF rfl rfl ⟨X, x, ?_, ?_, e04⟩
    · rw [hE, hR, ← hs']; rfl
    · rw [hR, ← hs']; exact hX.weaken e03.size (fun _ h => h)
  have hlt : (s : Int) < a.stations := of_decide_eq_true h
  have hXb := hX.blkGe
  refine M.run rfl <| M.cl rfl (balance_go a ha t ht (by omega) (s : Int) A c w1.heap.size _ gW r U d w4 hW4 (hU3.mv e4) (fun b hb => (hXb b hb).2)) ?_
  rintro e w5 ⟨rfl, e5, hW5⟩
  have hX5 : Vc.Own dI 3 w5 w3.heap.size no X x (balL a t s) := hX.mv1 e5 (fun hh => by have := (hXb r (by rw [hh]; rfl)).1; omega) (fun h => h)
  refine ⟨_, rfl, M.run rfl <| M.bs rfl fun g5 w6 b6 e6 l6 => M.run rfl ?_⟩
  have hX6 := hX5.mv0 e6
  have hX6b := hX6.blkGe
  have h46 : w3.heap.size ≤ w6.heap.size := Nat.le_trans e4.size (Nat.le_trans e5.size e6.size)
  refine M.app (d := dI) rfl rfl hX6 rfl (by decide) rfl (ys := [bal a t (s : Int)]) rfl rfl (src_one b6 rfl) h46 (by simp [balL_len]; omega) (by decide) fun X' x' w7 hX7 e7 hat => ?_
  have e37 := own_grR hX6 (gr_transR (gr_transR e4 e5) (gr_weak e6)) e7 (Nat.le_refl _)
  have hW7 := (hW5.mv0 e6).app (X1 := X') (fun b hb => ⟨by have := (hX6b b hb).1; have := hW3.N_le; omega, by have := (hX6b b hb).1; omega, by have := (hX6b b hb).1; omega⟩) hat e7
  refine M.run rfl <| M.end_ ⟨(s + 1, X', x'), ⟨rfl, rfl, ?_, rfl, nxt (n := 8) (by omega) (by decide), trivial⟩, ⟨by omega, e37, ?_, hW7⟩, by simp; omega⟩
  · show some (Value.slice X' (balL a t s ++ [bal a t (s : Int)]).length x') = _
    rw [balL_succ]
  · rw [balL_succ]; exact hX7
end Go.Proofs.Yteeikpmoboehdaa
end

section
/- Walk: the first truth at an end. -/
set_option linter.unusedVariables false
namespace Py
def truthL (a : Acc) (high : Bool) (s : Int) (m : Nat) : List Int := (List.range m).map fun (i : Nat) => firstW a (dAt a i) high s
theorem truthL_succ (a : Acc) (high : Bool) (s : Int) (m : Nat) : truthL a high s (m + 1) = truthL a high s m ++ [firstW a (dAt a m) high s] := by unfold truthL; rw [List.range_succ, List.map_append]; rfl
theorem truthL_len (a : Acc) (high : Bool) (s : Int) (m : Nat) : (truthL a high s m).length = m := by simp [truthL]
theorem endW_eq (d : Dsp) (high : Bool) (s : Int) : (if decide (d.payer = s) = high then d.lo else d.hi) = endW d high s := by
  unfold endW
  cases high <;> by_cases h : d.payer = s <;> simp [h]
end Py
namespace Go.Proofs.Yteeikpmoboehdaa
open Go Go.Vc Go.RowKit Py
set_option maxHeartbeats 4000000 in
theorem truth_go (a : Acc) (ha : Ok a) (high : Bool) (f : Nat) (hf : calleeE G.nf (some (.func (.func f) #[] #[])) = some (f, [], [])) (hfc : ∀ lo hi b w', Calls Try.prog f #[.agg #[.int .i64 lo, .int .i64 hi], .bool b] w' fun e w'' => e = .returned (.int .i64 (if b = high then lo else hi)) ∧ w'.grownBy w'' none)
    (s : Int) (A : Option Addr) (c N gW r : Nat) (w : World) (hW : WorkAt a A c N (fun b => blkOf none = some b) gW r w) :
    Calls Try.prog 76 #[.agg #[.func (.func f) #[] #[]], .pointer (some ⟨gW, 0, none⟩), .int .i64 s] w fun e w' => ∃ X x, e = .returned (.slice X (truthL a high s a.ds.length).length x) ∧ Vc.Own dI 3 w' w.heap.size no X x (truthL a high s a.ds.length) ∧ w.grownBy w' (some r) ∧ WorkAt a A c N (fun b => blkOf X = some b) gW r w' := by
  have hsix := ha.six
  have hr := hW.lt
  have hNle := hW.N_le
  refine calls (G := G) (args := [.agg #[.func (.func f) #[] #[]], .pointer (some ⟨gW, 0, none⟩), .int .i64 s]) Try.func76 rfl rfl rfl ?_
  refine M.run rfl <| M.nw rfl fun g3 w1 b3 e1 l1 => M.run rfl <| M.ld rfl ((hW.box.mv0 e1).cell rfl rfl) <| M.run rfl ?_
  refine M.loop (σ := Nat × Option Addr × Nat) (fun (i, X, x) => [(1, .pointer (some ⟨gW, 0, none⟩)), (2, .int .i64 s), (3, .pointer (some ⟨g3, 0, none⟩)), (6, .slice X (truthL a high s i).length x), (15, .slice A a.ds.length c), (16, .int .i64 (a.ds.length : Int)), (17, .int .i64 (i : Int))])
    (fun (i, X, x) w' => i ≤ a.ds.length ∧ w1.grownBy w' (some r) ∧ Vc.Own dI 3 w' w1.heap.size no X x (truthL a high s i) ∧ WorkAt a A c N (fun b => blkOf X = some b) gW r w') (fun (i, _) => a.ds.length - i) (0, none, 0) ⟨rfl, rfl, rfl, rfl, rfl, rfl, rfl, trivial⟩
    ⟨Nat.zero_le _, gr_refl _ _, Vc.Own.nil _ _ _ _ _, hW.mv0 e1⟩ ?_
  rintro ⟨i, X, x⟩ w2 ⟨hi, e2, hX, hW2⟩
  have e02 : w.grownBy w2 (some r) := gr_transR (gr_weak e1) e2
  refine M.run rfl <| M.cond rfl (fun h => ?_) (fun h => ?_)
  rotate_left
  · have : i = a.ds.length := by have := of_decide_eq_false h; omega
    subst this
    exact M.run rfl <| M.retF rfl rfl ⟨X, x, rfl, hX.weaken e1.size (fun _ h => h), e02, hW2⟩
  have hk : i < a.ds.length := by have := of_decide_eq_true h; omega
  obtain ⟨hA1, P, pc, hP, hdc⟩ := hW2.dsp hk
  have hcells := hdc w2 none (gr_refl _ _) (by simp)
  have hd := ha.d a.ds[i] (List.getElem_mem hk)
  rw [dAt_get hk] at hcells hd
  have hXb := hX.blkGe
  have b32 := b3.mv1 e2 (by have := b3.lt; omega)
  refine M.run rfl <| M.ix rfl (by omega) (by omega) hA1 <| M.run rfl <| M.ldA rfl rfl hcells <| M.run rfl <| M.nw rfl fun g8 w3 b8 e3 l8 => M.run rfl <| M.store rfl rfl b8 rfl rfl fun w4 b84 e4 => ?_
  have e24 : w2.grownBy w4 none := gr_fresh e3 e4 l8
  have b34 := b32.mv0 e24
  refine M.run rfl <| M.ld rfl (b34.cell rfl rfl) <| M.run rfl <| M.ldA rfl rfl (b84.cells 1 rfl ⟨[_], rfl⟩ : Cells _ _ [_, _]) <| M.run rfl <| M.ld rfl (b84.cell rfl rfl) <| M.run rfl ?_
  have hbe : ((dAt a i).payer == s) = decide ((dAt a i).payer = s) := by by_cases h : (dAt a i).payer = s <;> simp [h]
  have hlo := hd.lo
  have hhi := hd.hi
  have hlh := hd.lohi
  have hew := endW_in hlh high s
  refine M.clV rfl hf (hfc (dAt a i).lo (dAt a i).hi ((dAt a i).payer == s) w4) ?_
  rintro e w5 ⟨rfl, e5⟩
  rw [hbe, endW_eq]
  have e25 := gr_trans e24 e5
  have hz : ∀ {w' : World}, w2.heap.size ≤ w'.heap.size → ∀ b, blkOf X = some b → b < w'.heap.size := fun hle b hb => Nat.lt_of_lt_of_le (hXb b hb).2 hle
  have hcg := change_go a ha i hk (endW (dAt a i) high s) ⟨by omega, by omega⟩ s A c N _ gW r w5 (hW2.mv0 e25) (hz e25.size)
  rw [dAt_get hk] at hcg
  refine ⟨_, rfl, M.run rfl <| M.cl rfl hcg ?_⟩
  rintro e w6 ⟨rfl, e6, hW6⟩
  have e26 : w2.grownBy w6 (some r) := gr_transR (gr_weak e25) e6
  have hg8 : g8 ≠ r := by have := hW2.lt; have := l8; omega
  have b86 := (b84.mv0 e5).mv1 e6 (fun h => hg8 h.symm)
  refine ⟨_, rfl, M.run rfl <| M.ld rfl (b86.cell rfl rfl) <| M.run rfl ?_⟩
  refine M.loop (σ := Int) (fun n => [(1, .pointer (some ⟨gW, 0, none⟩)), (2, .int .i64 s), (3, .pointer (some ⟨g3, 0, none⟩)), (6, .slice X (truthL a high s i).length x), (7, .int .i64 (i : Int)), (9, .int .i64 (change a (dAt a i) (endW (dAt a i) high s) s)), (10, .int .i64 n), (15, .slice A a.ds.length c), (16, .int .i64 (a.ds.length : Int)), (17, .int .i64 (i : Int))])
    (fun n w' => (dAt a i).lo ≤ n ∧ n ≤ endW (dAt a i) high s ∧ (∀ j, (dAt a i).lo ≤ j → j < n → change a (dAt a i) j s ≠ change a (dAt a i) (endW (dAt a i) high s) s) ∧ w2.grownBy w' (some r) ∧ WorkAt a A c N (fun b => blkOf X = some b) gW r w')
    (fun n => (endW (dAt a i) high s - n).toNat) (dAt a i).lo ⟨rfl, rfl, rfl, rfl, rfl, rfl, rfl, rfl, rfl, rfl, trivial⟩ ⟨Int.le_refl _, hew.1, fun j h1 h2 => by omega, e26, hW6⟩ ?_
  rintro n w7 ⟨hn1, hn2, hnn, e27, hW7⟩
  have hcg2 := change_go a ha i hk n ⟨by omega, by omega⟩ s A c N _ gW r w7 hW7 (hz e27.size)
  rw [dAt_get hk] at hcg2
  refine M.run rfl <| M.cl rfl hcg2 ?_
  rintro e w8 ⟨rfl, e8, hW8⟩
  have e28 := gr_transR e27 e8
  refine ⟨_, rfl, M.run rfl <| M.cond rfl (fun h2 => ?_) (fun h2 => ?_)⟩
  · have hne : change a (dAt a i) n s ≠ change a (dAt a i) (endW (dAt a i) high s) s := by simpa using h2
    have hlt : n < endW (dAt a i) high s := by
      rcases Int.lt_or_lt_of_ne (show n ≠ endW (dAt a i) high s from fun e => hne (by rw [← e])) with h | h
      · exact h
      · omega
    refine M.run rfl <| M.end_ ⟨n + 1, ⟨rfl, rfl, rfl, rfl, rfl, rfl, ?_, rfl, rfl, rfl, trivial⟩, ⟨by omega, by omega, fun j h3 h4 => ?_, e28, hW8⟩, by omega⟩
    · exact congrArg (fun z => some (Value.int .i64 z)) (w64 (by omega) (by omega))
    · by_cases hj : j < n
      · exact hnn j h3 hj
      · have : j = n := by omega
        subst this; exact hne
  have heq : change a (dAt a i) n s = change a (dAt a i) (endW (dAt a i) high s) s := by simpa using h2
  have hfw := firstW_at (a := a) high s hn1 (by omega) heq hnn
  have hX8 : Vc.Own dI 3 w8 w1.heap.size no X x (truthL a high s i) := hX.mv1 e28 (fun hh => by have := (hXb r (by rw [hh]; rfl)).1; have := e1.size; omega) (fun h => h)
  refine M.run rfl <| M.bs rfl fun g9 w9 b9 e9 l9 => M.run rfl ?_
  have hX9 := hX8.mv0 e9
  have hX9b := hX9.blkGe
  have h19 : w1.heap.size ≤ w9.heap.size := Nat.le_trans e2.size (Nat.le_trans e28.size e9.size)
  refine M.app (d := dI) rfl rfl hX9 rfl (by decide) rfl (ys := [n]) rfl rfl (src_one b9 rfl) h19 (by simp [truthL_len]; omega) (by decide) fun X' x' wa hXa ea hat => ?_
  have e1a := own_grR hX9 (gr_transR (gr_transR e2 e28) (gr_weak e9)) ea (Nat.le_refl _)
  have hWa := (hW8.mv0 e9).app (X1 := X') (fun b hb => ⟨by have := (hX9b b hb).1; have := e1.size; omega, by have := (hX9b b hb).1; have := e1.size; omega, by have := (hX9b b hb).1; have := e1.size; omega⟩) hat ea
  refine M.run rfl <| M.end_ ⟨(i + 1, X', x'), ⟨rfl, rfl, rfl, ?_, rfl, rfl, nxt (n := 8) (by omega) (by decide), trivial⟩, ⟨by omega, e1a, ?_, hWa⟩, by simp; omega⟩
  · show some (Value.slice X' (truthL a high s i ++ [n]).length x') = _
    rw [truthL_succ, hfw]
  · rw [truthL_succ, hfw]; exact hXa
end Go.Proofs.Yteeikpmoboehdaa
end

section
/- Walk: Reach. -/
set_option linter.unusedVariables false
namespace Py
def reachE (a : Acc) (s : Int) : Int := if fault a ≠ 0 then fault a else if !station a.stations s then 2 else 0
def reachR (a : Acc) (s : Int) (high : Bool) : List Int := if reachE a s = 0 then truthL a high s a.ds.length else []
end Py
namespace Go.Proofs.Yteeikpmoboehdaa
open Go Go.Vc Go.RowKit Py
theorem lowF (lo hi : Int) (b : Bool) (w : World) : Calls Try.prog 74 #[.agg #[.int .i64 lo, .int .i64 hi], .bool b] w fun e w'' => e = .returned (.int .i64 (if b = false then lo else hi)) ∧ w.grownBy w'' none :=
  (low_go lo hi b w).mono fun e w' ⟨h1, h2⟩ => ⟨by rw [h1]; cases b <;> rfl, h2⟩
theorem highF (lo hi : Int) (b : Bool) (w : World) : Calls Try.prog 75 #[.agg #[.int .i64 lo, .int .i64 hi], .bool b] w fun e w'' => e = .returned (.int .i64 (if b = true then lo else hi)) ∧ w.grownBy w'' none := high_go lo hi b w
set_option maxHeartbeats 1000000 in
theorem Reach_go (a : Acc) (s : Int) (high : Bool) (A : Option Addr) (c : Nat) (w : World) (hA : Rd dDsp w A c a.ds) :
    Calls Try.prog 42 #[vAcc a A c, .int .i64 s, .bool high] w fun e w' => ∃ X x, e = .returned (.tuple #[.slice X (reachR a s high).length x, .int .i64 (reachE a s)]) ∧ Vc.Own dI 3 w' w.heap.size no X x (reachR a s high) ∧ w.grownBy w' none := by
  refine calls (G := G) (args := [vAcc a A c, .int .i64 s, .bool high]) Try.func42 rfl rfl rfl ?_
  refine M.run rfl <| M.nw rfl fun g3 w1 b3 e1 l1 => M.run rfl <| M.ldA rfl rfl b3.cellsAll <| M.run rfl <| M.cl rfl (work_go a A c w1 (hA.mv e1)) ?_
  rintro e w2 ⟨e2, h⟩
  have e02 := gr_trans e1 e2
  replace b3 := b3.mv0 e2
  rcases h with ⟨hf, rfl⟩ | ⟨hf, gW, r, rfl, hWz⟩
  · have hE : reachE a s = fault a := by unfold reachE; rw [if_pos hf]
    have hR : reachR a s high = [] := by unfold reachR; rw [hE, if_neg hf]
    refine ⟨_, rfl, M.run rfl <| M.condT rfl (by simpa using hf) <| M.run rfl <| M.retF rfl rfl ⟨none, 0, ?_, ?_, e02⟩⟩
    · rw [hE, hR]; rfl
    · rw [hR]; exact Vc.Own.nil _ _ _ _ _
  have ha := fault_ok hf
  have hseven := ha.seven
  have hone := ha.one
  refine ⟨_, rfl, M.run rfl <| M.condF rfl rfl <| M.run rfl <| M.ldA rfl rfl b3.cellsAll <| M.run rfl <| M.cl rfl (station_go a A c s (by omega) (by omega) w2) ?_⟩
  rintro e w3 ⟨rfl, e3⟩
  have e03 := gr_trans e02 e3
  refine ⟨_, rfl, M.run rfl <| M.cond rfl (fun h => ?_) (fun h => ?_)⟩
  · have hE : reachE a s = 2 := by unfold reachE; rw [if_neg (by simpa using hf), if_pos h]
    have hR : reachR a s high = [] := by unfold reachR; rw [hE, if_neg (by decide)]
    refine M.run rfl <| M.retF rfl rfl ⟨none, 0, ?_, ?_, e03⟩
    · rw [hE, hR]; rfl
    · rw [hR]; exact Vc.Own.nil _ _ _ _ _
  have hE : reachE a s = 0 := by unfold reachE; rw [if_neg (by simpa using hf), if_neg (by rw [h]; decide)]
  have hR : reachR a s high = truthL a high s a.ds.length := by unfold reachR; rw [if_pos hE]
  refine M.run rfl <| M.nw rfl fun g10 w4 b10 e4 l4 => M.run rfl <| M.store rfl rfl b10 rfl rfl fun w5 b5 e5 => M.run rfl ?_
  have e35 : w3.grownBy w5 none := gr_fresh e4 e5 l4
  have e05 := gr_trans e03 e35
  refine M.cond rfl (fun h2 => ?_) (fun h2 => ?_)
  · subst h2
    refine M.run rfl <| M.store rfl rfl b5 rfl rfl fun w6 b6 e6 => M.run rfl <| M.ldA rfl rfl b6.cellsAll <| M.run rfl ?_
    have e36 : w3.grownBy w6 none := gr_fresh e35 e6 l4
    have e06 := gr_trans e03 e36
    refine M.cl rfl (truth_go a ha true 75 rfl highF s A c w1.heap.size gW r w6 ((hWz _).mv0 (gr_trans e3 e36))) ?_
    rintro e w7 ⟨X, x, rfl, hX, e7, _⟩
    refine ⟨_, rfl, M.run rfl <| M.retF rfl rfl ⟨X, x, ?_, ?_, gr_fresh e06 e7 (Nat.le_trans e1.size (hWz no).r_ge)⟩⟩
    · rw [hE, hR]; rfl
    · rw [hR]; exact hX.weaken e06.size (fun _ h => h)
  · subst h2
    refine M.run rfl <| M.ldA rfl rfl b5.cellsAll <| M.run rfl ?_
    refine M.cl rfl (truth_go a ha false 74 rfl lowF s A c w1.heap.size gW r w5 ((hWz _).mv0 (gr_trans e3 e35))) ?_
    rintro e w7 ⟨X, x, rfl, hX, e7, _⟩
    refine ⟨_, rfl, M.run rfl <| M.retF rfl rfl ⟨X, x, ?_, ?_, gr_fresh e05 e7 (Nat.le_trans e1.size (hWz no).r_ge)⟩⟩
    · rw [hE, hR]; rfl
    · rw [hR]; exact hX.weaken e05.size (fun _ h => h)
end Go.Proofs.Yteeikpmoboehdaa
end

section
/- Walk: Bounds. -/
set_option linter.unusedVariables false
namespace Py
theorem firstEq_in (f : Int → Int) (v : Int) : ∀ (k : Nat) (n : Int), n ≤ firstEq f v k n ∧ firstEq f v k n ≤ n + k
  | 0, n => by unfold firstEq; omega
  | k + 1, n => by
    unfold firstEq
    have := firstEq_in f v k (n + 1)
    split <;> omega
theorem firstW_in {a : Acc} {d : Dsp} (h : d.lo ≤ d.hi) (high : Bool) (s : Int) : d.lo ≤ firstW a d high s ∧ firstW a d high s ≤ d.hi := by
  have := firstEq_in (fun n => change a d n s) (change a d (endW d high s) s) (d.hi - d.lo).toNat d.lo
  unfold firstW
  omega
theorem truthL_at (a : Acc) (high : Bool) (s : Int) {m k : Nat} (h : k < m) : at0 (truthL a high s m) k = firstW a (dAt a k) high s := by
  simp [at0, truthL, List.getD_eq_getElem?_getD, h]
theorem truthL_ok {a : Acc} (ha : Ok a) (high : Bool) (s : Int) : ∀ k, k < (truthL a high s a.ds.length).length → 0 ≤ at0 (truthL a high s a.ds.length) k ∧ at0 (truthL a high s a.ds.length) k ≤ 200 := fun k hk => by
  rw [truthL_len] at hk
  rw [truthL_at a high s hk]
  have hd := ha.d (dAt a k) (by rw [← dAt_get hk]; exact List.getElem_mem _)
  have := firstW_in (a := a) hd.lohi high s
  have := hd.lo; have := hd.hi
  omega
def bndAt (a : Acc) (s : Int) : Rng := ⟨bal a (truthL a false s a.ds.length) s, bal a (truthL a true s a.ds.length) s⟩
def bndL (a : Acc) (m : Nat) : List Rng := (List.range m).map fun (s : Nat) => bndAt a (s : Int)
theorem bndL_succ (a : Acc) (m : Nat) : bndL a (m + 1) = bndL a m ++ [bndAt a (m : Int)] := by unfold bndL; rw [List.range_succ, List.map_append]; rfl
theorem bndL_len (a : Acc) (m : Nat) : (bndL a m).length = m := by simp [bndL]
def boundsR (a : Acc) : List Rng := if fault a = 0 then bndL a a.stations.toNat else []
end Py
namespace Go.Proofs.Yteeikpmoboehdaa
open Go Go.Vc Go.RowKit Py
/-- a block of another type is written -/
theorem WorkAt.mvT {a : Acc} {A : Option Addr} {c N : Nat} {Fz : Nat → Prop} {gW r g t : Nat} {cs : List Value} {w w' : World} (h : WorkAt a A c N Fz gW r w) (e : w.grownBy w' (some g)) (hB : Blk w g cs t) (h3 : t ≠ 3) (h127 : t ≠ 127) (hN : N ≤ g) : WorkAt a A c N Fz gW r w' :=
  ⟨h.box.mv1 e (hB.ne h.box h127), h.gW_ge, h.r_ge, h.ds.move (fun b hb => e.block b (Nat.lt_of_lt_of_le hb h.N_le) (fun e => by injection e with e; omega)), Nat.le_trans h.N_le e.size, (h.map.mv e (by have := h.map.ne hB; simpa using fun h => this h.symm)).imp fun i n v ⟨k, hk, X, x, h1, h2, hO, hz⟩ =>
    ⟨k, hk, X, x, h1, h2, hO.mv1 e (fun hX => by
      rcases hO with ⟨h, _, _⟩ | ⟨g', cur, h, _, hB', _⟩
      · rw [h] at hX; cases hX
      · rw [h] at hX
        have : g' = g := by injection hX with hX; injection hX
        subst this
        exact hB.ne hB' h3 rfl) (fun h => h), hz⟩⟩
theorem own_x {w : World} {base r : Nat} {X : Option Addr} {x : Nat} {xs : List Int} (h : Vc.Own dI 3 w base no X x xs) (hr : r < base) : RdX dI w r X x xs := ((h.sl).bound (by decide)).mono (fun b hb => ⟨by rcases hb.1 with h | h; exact h.elim; omega, hb.2⟩)
end Go.Proofs.Yteeikpmoboehdaa
end

section
/- Walk: Bounds. -/
set_option linter.unusedVariables false
namespace Go.Proofs.Yteeikpmoboehdaa
open Go Go.Vc Go.RowKit Py
/-- two blocks stay -/
def K2 (g h : Nat) (a b : World) : Prop := a.heap.size ≤ b.heap.size ∧ ∀ k, k = g ∨ k = h → k < a.heap.size → b.heap[k]? = a.heap[k]?
theorem K2.of {g h : Nat} {a b : World} {r : Option Nat} (e : a.grownBy b r) (hg : r ≠ some g) (hh : r ≠ some h) : K2 g h a b := ⟨e.size, fun k hk hl => e.block k hl (fun e => by rcases hk with rfl | rfl; exact hg e.symm; exact hh e.symm)⟩
theorem K2.trans {g h : Nat} {a b c : World} (x : K2 g h a b) (y : K2 g h b c) : K2 g h a c := ⟨Nat.le_trans x.1 y.1, fun k hk hl => (y.2 k hk (Nat.lt_of_lt_of_le hl x.1)).trans (x.2 k hk hl)⟩
theorem K2.blk1 {g h t : Nat} {cs : List Value} {a b : World} (x : K2 g h a b) (hB : Blk a g cs t) : Blk b g cs t := (x.2 g (.inl rfl) hB.lt).trans hB
theorem K2.blk2 {g h t : Nat} {cs : List Value} {a b : World} (x : K2 g h a b) (hB : Blk a h cs t) : Blk b h cs t := (x.2 h (.inr rfl) hB.lt).trans hB
set_option maxHeartbeats 4000000 in
theorem Bounds_go (a : Acc) (A : Option Addr) (c : Nat) (w : World) (hA : Rd dDsp w A c a.ds) :
    Calls Try.prog 40 #[vAcc a A c] w fun e w' => ∃ X x, e = .returned (.tuple #[.slice X (boundsR a).length x, .int .i64 (fault a)]) ∧ Vc.Own dRng 74 w' w.heap.size no X x (boundsR a) ∧ w.grownBy w' none := by
  refine calls (G := G) (args := [vAcc a A c]) Try.func40 rfl rfl rfl ?_
  refine M.run rfl <| M.nw rfl fun g1 w1 b1 e1 l1 => M.run rfl <| M.ldA rfl rfl b1.cellsAll <| M.run rfl <| M.cl rfl (work_go a A c w1 (hA.mv e1)) ?_
  rintro e w2 ⟨e2, h⟩
  have e02 := gr_trans e1 e2
  replace b1 := b1.mv0 e2
  rcases h with ⟨hf, rfl⟩ | ⟨hf, gW, r, rfl, hWz⟩
  · have hR : boundsR a = [] := by unfold boundsR; rw [if_neg hf]
    refine ⟨_, rfl, M.run rfl <| M.condT rfl (by simpa using hf) <| M.run rfl <| M.retF rfl rfl ⟨none, 0, ?_, ?_, e02⟩⟩
    · rw [hR]; rfl
    · rw [hR]; exact Vc.Own.nil _ _ _ _ _
  have ha := fault_ok hf
  have hsix := ha.six
  have hseven := ha.seven
  have hone := ha.one
  have hR : boundsR a = bndL a a.stations.toNat := by unfold boundsR; rw [if_pos hf]
  have hr2 := (hWz no).lt
  have hrN := (hWz no).r_ge
  refine ⟨_, rfl, M.run rfl <| M.condF rfl rfl <| M.run rfl <| M.nw rfl fun g6 w3 b6 e3 l6 => M.run rfl <| M.nw rfl fun g7 w4 b7 e4 l7 => M.run rfl <| M.store rfl rfl (b6.mv0 e4) rfl rfl fun w5 b65 e5 => M.run rfl <| M.store rfl rfl (b7.mv1 e5 (by have := b6.lt; omega)) rfl rfl fun w6 b76 e6 => ?_⟩
  have n67 : g7 ≠ g6 := by have := b6.lt; omega
  have b66 := b65.mv1 e6 n67
  have e26 : w2.grownBy w6 none := gr_fresh (gr_fresh (gr_trans e3 e4) e5 l6) e6 (Nat.le_trans e3.size l7)
  have e06 := gr_trans e02 e26
  refine M.run rfl <| M.ld rfl ((b1.mv0 e26).cell rfl rfl) <| M.run rfl ?_
  refine M.loop (σ := Nat × Option Addr × Nat) (fun (s, X, x) => [(4, .pointer (some ⟨gW, 0, none⟩)), (6, .pointer (some ⟨g6, 0, none⟩)), (7, .pointer (some ⟨g7, 0, none⟩)), (8, .slice X (bndL a s).length x), (21, .int .i64 a.stations), (22, .int .i64 (s : Int))])
    (fun (s, X, x) w' => (s : Int) ≤ a.stations ∧ w6.grownBy w' (some r) ∧ Vc.Own dRng 74 w' w6.heap.size no X x (bndL a s) ∧ WorkAt a A c w1.heap.size no gW r w') (fun (s, _) => a.stations.toNat - s) (0, none, 0) ⟨rfl, rfl, rfl, rfl, rfl, rfl, trivial⟩
    ⟨by omega, gr_refl _ _, Vc.Own.nil _ _ _ _ _, (hWz no).mv0 e26⟩ ?_
  rintro ⟨s, X, x⟩ w7 ⟨hs, e67, hX, hW7⟩
  have e07 : w.grownBy w7 none := gr_fresh e06 e67 (Nat.le_trans e1.size hrN)
  refine M.run rfl <| M.cond rfl (fun h => ?_) (fun h => ?_)
  rotate_left
  · have hs' : s = a.stations.toNat := by have := of_decide_eq_false h; omega
    refine M.run rfl <| M.retF rfl rfl ⟨X, x, ?_, ?_, e07⟩
    · rw [hR, ← hs', hf]; rfl
    · rw [hR, ← hs']; exact hX.weaken e06.size (fun _ h => h)
  have hlt : (s : Int) < a.stations := of_decide_eq_true h
  have hg6r : r ≠ g6 ∧ r ≠ g7 := by have := e3.size; omega
  have b67 := b66.mv1 e67 hg6r.1
  have b77 := b76.mv1 e67 hg6r.2
  refine M.run rfl <| M.draw (K2 g6 g7) (fun _ _ => True) [] [] [5, 7, 12, 14, 16, 17] (fun _ _ _ h => h) (fun w => ⟨Nat.le_refl _, fun _ _ _ => rfl⟩) (fun a b c h k => h.trans k) (fun _ _ _ => trivial) (fun _ _ _ _ _ => trivial) (by kernel_rfl) ?_
  have ed := gr_drewN w7 1
  generalize w7.drewN 1 = wd at ed
  have b6d : Blk wd g6 [.func (.func 74) #[] #[]] 118 := b67.mv0 ed
  have b7d : Blk wd g7 [.func (.func 75) #[] #[]] 118 := b77.mv0 ed
  have hN := (hWz no).N_le
  have nn : (none : Option Nat) ≠ some g6 ∧ (none : Option Nat) ≠ some g7 := by simp
  have rr : some r ≠ some g6 ∧ some r ≠ some g7 := ⟨by simpa using hg6r.1, by simpa using hg6r.2⟩
  have e6d : w6.grownBy wd (some r) := gr_transR e67 (gr_weak ed)
  have hWd := hW7.mv0 ed
  refine D.run rfl <| D.ldA 2 rfl rfl rfl rfl rfl (fun w' hw => (K2.blk1 hw b6d).cellsAll) <| D.ldA 9 rfl rfl rfl rfl rfl (fun w' hw => (K2.blk2 hw b7d).cellsAll) <| D.run rfl <|
    D.one 5 rfl rfl <| M.cl rfl (truth_go a ha false 74 rfl lowF (s : Int) A c w1.heap.size gW r wd (hWd.fz (fun b hb => by cases hb))) ?_
  rintro e w8 ⟨T, tc, rfl, hT, e8, hW8⟩
  have hrd : r < wd.heap.size := hWd.lt.1
  have hW8n := hW8.fz (Fz' := no) (fun b hb => hb.elim)
  refine ⟨_, rfl, M.run rfl <| M.end_ ⟨.inr (K2.of e8 rr.1 rr.2), D.run rfl <| D.one 7 rfl rfl <| M.cl rfl (balance_go a ha _ (truthL_ok ha false (s : Int)) (by rw [truthL_len]; exact Nat.le_refl _) (s : Int) A c w1.heap.size no gW r T tc w8 hW8n (own_x hT hrd) (fun _ h => h.elim)) ?_⟩⟩
  rintro e w9 ⟨rfl, e9, hW9⟩
  refine ⟨_, rfl, M.run rfl <| M.end_ ⟨.inr (K2.of e9 rr.1 rr.2), D.run rfl <| D.one 12 rfl rfl <| M.cl rfl (truth_go a ha true 75 rfl highF (s : Int) A c w1.heap.size gW r w9 (hW9.fz (fun b hb => by cases hb))) ?_⟩⟩
  rintro e wa ⟨T2, tc2, rfl, hT2, ea, hWa⟩
  have hr9 : r < w9.heap.size := hW9.lt.1
  refine ⟨_, rfl, M.run rfl <| M.end_ ⟨.inr (K2.of ea rr.1 rr.2), D.run rfl <| D.one 14 rfl rfl <| M.cl rfl (balance_go a ha _ (truthL_ok ha true (s : Int)) (by rw [truthL_len]; exact Nat.le_refl _) (s : Int) A c w1.heap.size no gW r T2 tc2 wa (hWa.fz (fun b hb => hb.elim)) (own_x hT2 hr9) (fun _ h => h.elim)) ?_⟩⟩
  rintro e wb ⟨rfl, eb, hWb⟩
  have e7b : w7.grownBy wb (some r) := gr_transR (gr_transR (gr_transR (gr_transR (gr_weak ed) e8) e9) ea) eb
  have hXb : Vc.Own dRng 74 wb w6.heap.size no X x (bndL a s) := hX.mv1 e7b (fun hh => by have := (hX.blkGe r (by rw [hh]; rfl)).1; have := e26.size; omega) (fun h => h)
  refine ⟨_, rfl, M.run rfl <| M.end_ ⟨.inr (K2.of eb rr.1 rr.2), D.run rfl <| D.one 16 rfl rfl <| M.bs rfl fun gq wc bq eq lq => M.run rfl <| M.end_ ⟨.inr (K2.of eq nn.1 nn.2), D.one 17 rfl rfl ?_⟩⟩⟩
  have hXc := hXb.mv0 eq
  have h6c : w6.heap.size ≤ wc.heap.size := Nat.le_trans e67.size (Nat.le_trans e7b.size eq.size)
  refine M.app (d := dRng) rfl rfl hXc rfl (by decide) rfl (ys := [bndAt a (s : Int)]) rfl rfl (src_one bq rfl) h6c (by simp [bndL_len]; omega) (by decide) fun X' x' we hXe ee hat => ?_
  have hXcb := hXc.blkGe
  have e6e := own_grR hXc (gr_transR (gr_transR e67 e7b) (gr_weak eq)) ee (Nat.le_refl _)
  have hWe : WorkAt a A c w1.heap.size no gW r we := by
    have hWc := hWb.mv0 eq
    cases hx : blkOf X with
    | none => rw [hx] at ee; exact hWc.mv0 ee
    | some g =>
      rw [hx] at ee
      have hgN := (hXcb g hx).1
      rcases hXc with ⟨h, _, _⟩ | ⟨g', cur, h, _, hB, _⟩
      · rw [h] at hx; cases hx
      · have : g' = g := by rw [h] at hx; injection hx
        subst this
        exact hWc.mvT ee hB (by decide) (by decide) (by have := e26.size; omega)
  have kk : K2 g6 g7 wc we := K2.of ee (fun h => by have := (hXcb g6 h).1; have := b66.lt; omega) (fun h => by have := (hXcb g7 h).1; have := b76.lt; omega)
  refine M.run rfl <| M.end_ ⟨.inr kk, D.run rfl <| D.done_ rfl <| M.run rfl <| M.end_ ⟨(s + 1, X', x'), ⟨rfl, rfl, rfl, ?_, rfl, nxt (n := 8) (by omega) (by decide), trivial⟩, ⟨by omega, e6e, ?_, hWe⟩, by simp; omega⟩⟩
  · show some (Value.slice X' (bndL a s ++ [bndAt a (s : Int)]).length x') = _
    rw [bndL_succ]
  · rw [bndL_succ]; exact hXe
end Go.Proofs.Yteeikpmoboehdaa
end

section
/- The words that fit a claim. -/
set_option linter.unusedVariables false
namespace Py
/-- of the first so many words of a dispatch, those with which a place's share is as claimed -/
def fitL (a : Acc) (d : Dsp) (at_ : Nat) (pence : Int) : Nat → List Int
  | 0 => []
  | m + 1 => if shr a d.passed.length (d.lo + m) at_ = pence then fitL a d at_ pence m ++ [d.lo + (m : Int)] else fitL a d at_ pence m
theorem fitL_len (a : Acc) (d : Dsp) (at_ : Nat) (pence : Int) : ∀ m, (fitL a d at_ pence m).length ≤ m
  | 0 => by simp [fitL]
  | m + 1 => by
    have := fitL_len a d at_ pence m
    unfold fitL
    split
    · simp; omega
    · omega
def fitAll (a : Acc) (k : Nat) (station pence : Int) : List Int := fitL a ((a.ds.getD k ⟨0, 0, 0, []⟩)) ((a.ds.getD k ⟨0, 0, 0, []⟩).passed.idxOf station) pence ((a.ds.getD k ⟨0, 0, 0, []⟩).hi - (a.ds.getD k ⟨0, 0, 0, []⟩).lo + 1).toNat
def wordsE (a : Acc) (i station pence : Int) : Int :=
  if fault a ≠ 0 then fault a else if !within i 0 ((a.ds.length : Int) - 1) then 2 else if idxI (a.ds.getD i.toNat ⟨0, 0, 0, []⟩).passed station < 0 then 7 else if (fitAll a i.toNat station pence).length = 0 then 11 else 0
def wordsR (a : Acc) (i station pence : Int) : List Int := if wordsE a i station pence = 0 then fitAll a i.toNat station pence else []
end Py
end

section
/- Walk: Words. -/
set_option linter.unusedVariables false
namespace Go.Proofs.Yteeikpmoboehdaa
open Go Go.Vc Go.RowKit Py
set_option maxHeartbeats 4000000 in
theorem Words_go (a : Acc) (i st pence : Int) (A : Option Addr) (c : Nat) (w : World) (hA : Rd dDsp w A c a.ds) :
    Calls Try.prog 29 #[vAcc a A c, .agg #[.int .i64 i, .int .i64 st, .int .i64 pence]] w fun e w' => ∃ X x, e = .returned (.tuple #[.slice X (wordsR a i st pence).length x, .int .i64 (wordsE a i st pence)]) ∧ Vc.Own dI 3 w' w.heap.size no X x (wordsR a i st pence) ∧ w.grownBy w' none := by
  have err : ∀ e, wordsE a i st pence = e → e ≠ 0 → wordsR a i st pence = [] := fun e h1 h2 => by unfold wordsR; rw [h1, if_neg h2]
  refine calls (G := G) (args := [vAcc a A c, .agg #[.int .i64 i, .int .i64 st, .int .i64 pence]]) Try.func29 rfl rfl rfl ?_
  refine M.run rfl <| M.nw rfl fun g2 w1 b2 e1 l1 => M.run rfl <| M.nw rfl fun g3 w2 b3 e2 l2 => M.run rfl <| M.ldA rfl rfl (b2.mv0 e2).cellsAll <| M.run rfl <| M.cl rfl (work_go a A c w2 (hA.mv (gr_trans e1 e2))) ?_
  rintro e w3 ⟨e3, h⟩
  have e03 := gr_trans (gr_trans e1 e2) e3
  replace b2 := (b2.mv0 e2).mv0 e3
  replace b3 := b3.mv0 e3
  rcases h with ⟨hf, rfl⟩ | ⟨hf, gW, r, rfl, hWz⟩
  · have hE : wordsE a i st pence = fault a := by unfold wordsE; rw [if_pos hf]
    have hR := err _ hE hf
    refine ⟨_, rfl, M.run rfl <| M.condT rfl (by simpa using hf) <| M.run rfl <| M.retF rfl rfl ⟨none, 0, ?_, ?_, e03⟩⟩
    · rw [hE, hR]; rfl
    · rw [hR]; exact Vc.Own.nil _ _ _ _ _
  have ha := fault_ok hf
  have hsix := ha.six
  refine ⟨_, rfl, M.run rfl <| M.condF rfl rfl <| M.run rfl <| M.ld rfl (b3.cell rfl rfl) <| M.run rfl <| M.ld rfl (b2.cell rfl rfl) <| M.run rfl ?_⟩
  rw [w64 (x := (a.ds.length : Int) - 1) (by omega) (by omega)]
  refine M.cl rfl (within_go _ _ _ _) ?_
  rintro e w4 ⟨rfl, e4⟩
  have e04 := gr_trans e03 e4
  replace b2 := b2.mv0 e4
  replace b3 := b3.mv0 e4
  refine ⟨_, rfl, M.run rfl <| M.cond rfl (fun h1 => ?_) (fun h1 => ?_)⟩
  · have hE : wordsE a i st pence = 2 := by unfold wordsE; rw [if_neg (by simpa using hf), if_pos h1]
    have hR := err _ hE (by decide)
    refine M.run rfl <| M.retF rfl rfl ⟨none, 0, ?_, ?_, e04⟩
    · rw [hE, hR]; rfl
    · rw [hR]; exact Vc.Own.nil _ _ _ _ _
  have hin := Py.within_iff.1 (show within i 0 ((a.ds.length : Int) - 1) = true by simpa using h1)
  obtain ⟨k, rfl⟩ : ∃ k : Nat, i = k := ⟨i.toNat, by omega⟩
  have hk : k < a.ds.length := by omega
  obtain ⟨hA1, P, pc, hP, hdc⟩ := ((hWz no).mv0 e4).dsp hk
  have hcells := hdc w4 none (gr_refl _ _) (by simp)
  have hd := ha.d a.ds[k] (List.getElem_mem hk)
  rw [dAt_get hk] at hcells hd hP
  have hPr := WorkAt.rdP (a := a) hP ((hWz no).mv0 e4).N_le
  refine M.run rfl <| M.ld rfl (b2.cell rfl rfl) <| M.run rfl <| M.ld rfl (b3.cell rfl rfl) <| M.run rfl <| M.ix rfl (by omega) (by omega) hA1 <| M.run rfl <| M.ldA rfl rfl hcells <| M.run rfl <| M.nw rfl fun g8 w5 b8 e5 l8 => M.run rfl <| M.store rfl rfl b8 rfl rfl fun w6 b86 e6 => ?_
  have e46 : w4.grownBy w6 none := gr_fresh e5 e6 l8
  have e06 := gr_trans e04 e46
  replace b3 := b3.mv0 e46
  refine M.run rfl <| M.ld rfl (b86.cell rfl rfl) <| M.run rfl <| M.ld rfl (b3.cell rfl rfl) <| M.run rfl <| M.cl rfl (Index_go (dAt a k).passed st P pc w6 (hPr.mv e46)) ?_
  rintro e w7 ⟨rfl, e7⟩
  have e07 := gr_trans e06 e7
  refine ⟨_, rfl, M.run rfl <| M.cond rfl (fun h2 => ?_) (fun h2 => ?_)⟩
  · have hE : wordsE a k st pence = 7 := by
      unfold wordsE; rw [if_neg (by simpa using hf), if_neg (by rw [h1]; decide), Int.toNat_natCast]; exact if_pos (of_decide_eq_true h2)
    have hR := err _ hE (by decide)
    refine M.run rfl <| M.retF rfl rfl ⟨none, 0, ?_, ?_, e07⟩
    · rw [hE, hR]; rfl
    · rw [hR]; exact Vc.Own.nil _ _ _ _ _
  have h0 : ¬ idxI (dAt a k).passed st < 0 := of_decide_eq_false h2
  have hat : (dAt a k).passed.idxOf st < (dAt a k).passed.length := by
    unfold idxI at h0; split at h0
    · assumption
    · omega
  have hie : idxI (dAt a k).passed st = ((dAt a k).passed.idxOf st : Int) := by unfold idxI; rw [if_pos hat]
  have hlo := hd.lo
  have hhi := hd.hi
  have hlh := hd.lohi
  have b87 := b86.mv0 e7
  have b37 := b3.mv0 e7
  rw [hie]
  generalize hatn : (dAt a k).passed.idxOf st = at_ at *
  refine M.run rfl <| M.ld rfl (b87.cell rfl rfl) <| M.run rfl <| M.ld rfl (b87.cell rfl rfl) <| M.run rfl ?_
  rw [w64 (x := (dAt a k).hi - (dAt a k).lo) (by omega) (by omega), w64 (x := (dAt a k).hi - (dAt a k).lo + 1) (by omega) (by omega)]
  have hW7 := (hWz (fun b => blkOf none = some b)).mv0 (gr_trans (gr_trans e4 e46) e7)
  have hr := hW7.lt
  have hr3 := (hWz no).lt
  refine M.loop (σ := Nat × Option Addr × Nat) (fun (m, X, x) => [(3, .pointer (some ⟨g3, 0, none⟩)), (6, .pointer (some ⟨gW, 0, none⟩)), (8, .pointer (some ⟨g8, 0, none⟩)), (9, .int .i64 (at_ : Int)), (10, .slice X (fitL a (dAt a k) at_ pence m).length x), (51, .int .i64 ((dAt a k).hi - (dAt a k).lo + 1)), (52, .int .i64 (m : Int))])
    (fun (m, X, x) w' => (m : Int) ≤ (dAt a k).hi - (dAt a k).lo + 1 ∧ w7.grownBy w' (some r) ∧ Vc.Own dI 3 w' w7.heap.size no X x (fitL a (dAt a k) at_ pence m) ∧ WorkAt a A c w2.heap.size (fun b => blkOf X = some b) gW r w') (fun (m, _) => ((dAt a k).hi - (dAt a k).lo + 1).toNat - m) (0, none, 0) ⟨rfl, rfl, rfl, rfl, rfl, rfl, rfl, trivial⟩
    ⟨by omega, gr_refl _ _, Vc.Own.nil _ _ _ _ _, hW7⟩ ?_
  rintro ⟨m, X, x⟩ w8 ⟨hm, e78, hX, hW8⟩
  have hg3r : r ≠ g3 ∧ r ≠ g8 := ⟨hW7.map.ne b37, hW7.map.ne b87⟩
  have e08 : w.grownBy w8 none := gr_fresh e07 e78 (by have := hW7.r_ge; have := e1.size; have := e2.size; omega)
  have hfl := fitL_len a (dAt a k) at_ pence m
  have b38 := b37.mv1 e78 hg3r.1
  have b88 := b87.mv1 e78 hg3r.2
  have hfa : fitAll a k st pence = fitL a (dAt a k) at_ pence ((dAt a k).hi - (dAt a k).lo + 1).toNat := by unfold fitAll; rw [← hatn]; rfl
  refine M.run rfl <| M.cond rfl (fun h => ?_) (fun h => ?_)
  rotate_left
  · have hm' : m = ((dAt a k).hi - (dAt a k).lo + 1).toNat := by have := of_decide_eq_false h; omega
    rw [← hm'] at hfa
    refine M.run rfl <| M.cond rfl (fun h3 => ?_) (fun h3 => ?_)
    · have h3n : ((fitL a (dAt a k) at_ pence m).length : Int) = 0 := by simpa using h3
      have h3' : (fitAll a k st pence).length = 0 := by rw [hfa]; omega
      have hE : wordsE a k st pence = 11 := by
        unfold wordsE; rw [if_neg (by simpa using hf), if_neg (by rw [h1]; decide), Int.toNat_natCast, if_neg (by exact h0), if_pos h3']
      have hR := err _ hE (by decide)
      refine M.run rfl <| M.retF rfl rfl ⟨none, 0, ?_, ?_, e08⟩
      · rw [hE, hR]; rfl
      · rw [hR]; exact Vc.Own.nil _ _ _ _ _
    · have h3n : ¬ ((fitL a (dAt a k) at_ pence m).length : Int) = 0 := by simpa using h3
      have h3' : ¬ (fitAll a k st pence).length = 0 := by rw [hfa]; omega
      have hE : wordsE a k st pence = 0 := by
        unfold wordsE; rw [if_neg (by simpa using hf), if_neg (by rw [h1]; decide), Int.toNat_natCast, if_neg (by exact h0), if_neg h3']
      have hR : wordsR a k st pence = fitL a (dAt a k) at_ pence m := by unfold wordsR; rw [if_pos hE, Int.toNat_natCast, hfa]
      refine M.run rfl <| M.retF rfl rfl ⟨X, x, ?_, ?_, e08⟩
      · rw [hE, hR]; rfl
      · rw [hR]; exact hX.weaken e07.size (fun _ h => h)
  have hlt : (m : Int) < (dAt a k).hi - (dAt a k).lo + 1 := of_decide_eq_true h
  have hXb := hX.blkGe
  refine M.run rfl <| M.ld rfl (b88.cell rfl rfl) <| M.run rfl ?_
  rw [w64 (x := (dAt a k).lo + (m : Int)) (by omega) (by omega)]
  refine M.run rfl <| M.drawW r (by kernel_rfl) fun w9 e9 => ?_
  have hcs := shares_go a ha k hk ((dAt a k).lo + (m : Int)) ⟨by omega, by omega⟩ A c w2.heap.size _ gW r w9 (hW8.mv0 e9) (fun b hb => Nat.lt_of_lt_of_le (hXb b hb).2 e9.size)
  rw [dAt_get hk] at hcs
  refine D.run rfl <| D.ld 2 rfl rfl rfl rfl (fun w' hw => ((b38.mv0 e9).mv1 hw hg3r.1).cell rfl rfl) <| D.run rfl <| D.ld 10 rfl rfl rfl rfl (fun w' hw => ((b38.mv0 e9).mv1 hw hg3r.1).cell rfl rfl) <| D.one 5 rfl rfl <| M.cl rfl hcs ?_
  rintro e wa ⟨Y, y, rfl, hY, ea, hWa⟩
  have hyl : at_ < (share a (dAt a k) ((dAt a k).lo + (m : Int))).length := by rw [share_len]; exact hat
  obtain ⟨g, cur, rfl, hgg, bY, _, hcY, _⟩ := own_int hY hyl
  have hgr : r ≠ g := fun hh => by subst hh; exact hWa.map.ne bY rfl
  have hcell : ∀ w', wa.grownBy w' (some r) → w'.cell? ⟨g, at_, none⟩ = some (.int .i64 (shr a (dAt a k).passed.length ((dAt a k).lo + (m : Int)) at_)) := fun w' hw => by
    have := own_cell hY hyl rfl hw (by simpa using hgr)
    rw [at0_get hyl, share_at a (dAt a k) _ hat] at this
    exact this
  refine ⟨_, rfl, M.run rfl <| M.end_ ⟨.inr ea, D.run rfl <| D.ys 7 rfl rfl rfl (YS.ix rfl (by omega) (by omega) rfl) <| D.ld 8 rfl rfl rfl rfl (fun w' hw => by rw [← hcell w' hw]; exact congrArg _ (ad1 g at_)) <| D.run rfl <| D.done_ rfl <| M.run rfl ?_⟩⟩
  have e8a : w8.grownBy wa (some r) := gr_transR (gr_weak e9) ea
  have hXa : Vc.Own dI 3 wa w7.heap.size no X x (fitL a (dAt a k) at_ pence m) := hX.mv1 e8a (fun hh => by have := (hXb r (by rw [hh]; rfl)).1; omega) (fun h => h)
  refine M.cond rfl (fun h4 => ?_) (fun h4 => ?_)
  · have h4' : shr a (dAt a k).passed.length ((dAt a k).lo + (m : Int)) at_ = pence := by simpa using h4
    have hs : fitL a (dAt a k) at_ pence (m + 1) = fitL a (dAt a k) at_ pence m ++ [(dAt a k).lo + (m : Int)] := by rw [fitL, if_pos h4']
    refine M.run rfl <| M.bs rfl fun gq wb bq eb lb => M.run rfl ?_
    have hXc := hXa.mv0 eb
    have hXcb := hXc.blkGe
    refine M.app (d := dI) rfl rfl hXc rfl (by decide) rfl (ys := [(dAt a k).lo + (m : Int)]) rfl rfl (src_one bq rfl) (Nat.le_trans e78.size (Nat.le_trans e8a.size eb.size)) (by simp; omega) (by decide) fun X' x' wd hXd ed hat' => ?_
    have e7d := own_grR hXc (gr_transR (gr_transR e78 e8a) (gr_weak eb)) ed (Nat.le_refl _)
    have hWd := (hWa.mv0 eb).app (X1 := X') (fun b hb => ⟨by have := (hXcb b hb).1; have := hW7.N_le; omega, by have := (hXcb b hb).1; omega, by have := (hXcb b hb).1; omega⟩) hat' ed
    refine M.run rfl <| M.end_ ⟨(m + 1, X', x'), ⟨rfl, rfl, rfl, rfl, ?_, rfl, nxt (n := 300) (by omega) (by decide), trivial⟩, ⟨by omega, e7d, ?_, hWd⟩, by simp; omega⟩
    · show some (Value.slice X' (fitL a (dAt a k) at_ pence m ++ [_]).length x') = _
      rw [hs]
    · rw [hs]; exact hXd
  · have h4' : ¬ shr a (dAt a k).passed.length ((dAt a k).lo + (m : Int)) at_ = pence := by simpa using h4
    have hs : fitL a (dAt a k) at_ pence (m + 1) = fitL a (dAt a k) at_ pence m := by rw [fitL, if_neg h4']
    refine M.run rfl <| M.end_ ⟨(m + 1, X, x), ⟨rfl, rfl, rfl, rfl, ?_, rfl, nxt (n := 300) (by omega) (by decide), trivial⟩, ⟨by omega, gr_transR e78 e8a, ?_, hWa⟩, by simp; omega⟩
    · rw [hs]; rfl
    · rw [hs]; exact hXa
end Go.Proofs.Yteeikpmoboehdaa
end

section
/- Walk: a set has a station. -/
set_option linter.unusedVariables false
namespace Go.Proofs.Yteeikpmoboehdaa
open Go Go.Vc Go.RowKit Py
theorem and_one (x : Nat) (h : x < 2 ^ 64) : (BitVec.ofInt 64 (x : Int) &&& BitVec.ofInt 64 1).toNat = x % 2 := by
  have e1 : BitVec.ofInt 64 (x : Int) = BitVec.ofNat 64 x := by simp
  have e2 : BitVec.ofInt 64 1 = BitVec.ofNat 64 1 := by simp
  rw [e1, e2, BitVec.toNat_and, BitVec.toNat_ofNat, BitVec.toNat_ofNat, Nat.mod_eq_of_lt h]
  exact Nat.and_one_is_mod x
theorem setHas_go (s n : Nat) (hs : s < 2 ^ 64) (hn : n ≤ 63) (w : World) : Calls Try.prog 79 #[.int .u64 (s : Int), .int .i64 (n : Int)] w fun e w' => e = .returned (.bool (s.testBit n)) ∧ w.grownBy w' none := by
  refine calls (G := G) (args := [.int .u64 (s : Int), .int .i64 (n : Int)]) Try.func79 rfl rfl rfl ?_
  have hd : Int.fdiv (s : Int) (2 ^ min ((n : Int)).toNat (IntKind.bits .u64)) = ((s / 2 ^ n : Nat) : Int) := by
    have : min ((n : Int)).toNat (IntKind.bits .u64) = n := by simp [IntKind.bits]; omega
    rw [this]
    have hp : (2 : Int) ^ n = ((2 ^ n : Nat) : Int) := by push_cast; rfl
    rw [hp, Int.fdiv_eq_ediv_of_nonneg _ (Int.natCast_nonneg _)]
    exact (Int.natCast_ediv _ _).symm
  refine M.run rfl <| M.ys (YS.shr rfl (by omega)) ?_
  rw [hd]
  have hx : s / 2 ^ n < 2 ^ 64 := Nat.lt_of_le_of_lt (Nat.div_le_self _ _) hs
  refine M.run rfl <| M.retF rfl rfl ⟨?_, gr_refl _ _⟩
  show Ending.returned (Value.bool (IntKind.u64.wrap (((BitVec.ofInt 64 ((s / 2 ^ n : Nat) : Int) &&& BitVec.ofInt 64 1).toNat : Nat) : Int) == 1)) = _
  rw [and_one _ hx, IntKind.wrap_u64, Nat.testBit_eq_decide_div_mod_eq]
  have hm : s / 2 ^ n % 2 < 2 := Nat.mod_lt _ (by decide)
  generalize s / 2 ^ n % 2 = q at hm
  have : q = 0 ∨ q = 1 := by omega
  rcases this with rfl | rfl <;> rfl
end Go.Proofs.Yteeikpmoboehdaa
end

section
/- The stations of a set, rising. -/
set_option linter.unusedVariables false
namespace Py
def setTo (s m : Nat) : List Int := ((List.range m).filter fun i => s.testBit i).map fun (i : Nat) => (i : Int)
def setL (s : Nat) : List Int := setTo s 64
theorem setTo_succ (s m : Nat) : setTo s (m + 1) = if s.testBit m then setTo s m ++ [(m : Int)] else setTo s m := by
  unfold setTo
  rw [List.range_succ, List.filter_append, List.map_append]
  cases h : s.testBit m <;> simp [h]
theorem setTo_len (s m : Nat) : (setTo s m).length ≤ m := by
  unfold setTo
  rw [List.length_map]
  exact Nat.le_trans (List.length_filter_le _ _) (by simp)
theorem setTo_end (s : Nat) : ∀ (m n : Nat), m ≤ n → s / 2 ^ m = 0 → setTo s n = setTo s m
  | m, 0, h, _ => by have : m = 0 := by omega
                     subst this; rfl
  | m, n + 1, h, h0 => by
    by_cases e : m = n + 1
    · subst e; rfl
    · rw [setTo_succ, Nat.testBit_eq_decide_div_mod_eq]
      have : s / 2 ^ n = 0 := by
        have h1 : s < 2 ^ m := by
          rcases Nat.div_eq_zero_iff.1 h0 with h | h
          · exact absurd h (by have := Nat.two_pow_pos m; omega)
          · exact h
        exact Nat.div_eq_of_lt (Nat.lt_of_lt_of_le h1 (Nat.pow_le_pow_right (by decide) (by omega)))
      rw [this]
      simpa using setTo_end s m n (by omega) h0
end Py
end

section
/- Walk: the stations of a set. -/
set_option linter.unusedVariables false
namespace Go.Proofs.Yteeikpmoboehdaa
open Go Go.Vc Go.RowKit Py
theorem shr_nat (s n : Nat) (hn : n ≤ 64) : Int.fdiv (s : Int) (2 ^ min ((n : Int)).toNat (IntKind.bits .u64)) = ((s / 2 ^ n : Nat) : Int) := by
  have : min ((n : Int)).toNat (IntKind.bits .u64) = n := by simp [IntKind.bits]; omega
  rw [this]
  have hp : (2 : Int) ^ n = ((2 ^ n : Nat) : Int) := by push_cast; rfl
  rw [hp, Int.fdiv_eq_ediv_of_nonneg _ (Int.natCast_nonneg _)]
  exact (Int.natCast_ediv _ _).symm
theorem setList_go (s : Nat) (hs : s < 2 ^ 64) (w : World) : Calls Try.prog 66 #[.int .u64 (s : Int)] w fun e w' => ∃ X x, e = .returned (.slice X (setL s).length x) ∧ Vc.Own dI 3 w' w.heap.size no X x (setL s) ∧ w.grownBy w' none := by
  refine calls (G := G) (args := [.int .u64 (s : Int)]) Try.func66 rfl rfl rfl ?_
  refine M.run rfl <| M.loop (σ := Nat × Option Addr × Nat) (fun (n, X, x) => [(0, .int .u64 (s : Int)), (2, .slice X (setTo s n).length x), (3, .int .i64 (n : Int))])
    (fun (n, X, x) w' => n ≤ 64 ∧ w.grownBy w' none ∧ Vc.Own dI 3 w' w.heap.size no X x (setTo s n)) (fun (n, _) => 64 - n) (0, none, 0) ⟨rfl, rfl, rfl, trivial⟩ ⟨by omega, gr_refl _ _, Vc.Own.nil _ _ _ _ _⟩ ?_
  rintro ⟨n, X, x⟩ w1 ⟨hn, e1, hX⟩
  have hlen := setTo_len s n
  refine M.run rfl <| M.ys (YS.shr rfl (by omega)) ?_
  rw [shr_nat s n hn]
  refine M.run rfl <| M.cond rfl (fun h => ?_) (fun h => ?_)
  rotate_left
  · have h0 : s / 2 ^ n = 0 := by
      have : ((s / 2 ^ n : Nat) : Int) = 0 := by simpa using h
      omega
    have he : setL s = setTo s n := setTo_end s n 64 hn h0
    refine M.run rfl <| M.retF rfl rfl ⟨X, x, ?_, ?_, e1⟩
    · rw [he]; rfl
    · rw [he]; exact hX
  have hlt : n < 64 := by
    rcases Nat.lt_or_ge n 64 with h1 | h1
    · exact h1
    · have : n = 64 := by omega
      subst this
      have : s / 2 ^ 64 = 0 := Nat.div_eq_of_lt hs
      rw [this] at h
      exact absurd h (by decide)
  refine M.run rfl <| M.cl rfl (setHas_go s n hs (by omega) w1) ?_
  rintro e w2 ⟨rfl, e2⟩
  have e02 := gr_trans e1 e2
  refine ⟨_, rfl, M.run rfl <| M.cond rfl (fun h2 => ?_) (fun h2 => ?_)⟩
  · refine M.run rfl <| M.bs rfl fun g3 w3 b3 e3 l3 => M.run rfl ?_
    have hX3 := (hX.mv0 e2).mv0 e3
    refine M.app (d := dI) rfl rfl hX3 rfl (by decide) rfl (ys := [(n : Int)]) rfl rfl (src_one b3 rfl) (Nat.le_trans e02.size e3.size) (by simp; omega) (by decide) fun X' x' w4 hX4 e4 hat => ?_
    have e04 := hX3.gr (gr_trans e02 e3) e4 (Nat.le_refl _)
    refine M.run rfl <| M.end_ ⟨(n + 1, X', x'), ⟨rfl, ?_, nxt (n := 64) hlt (by decide), trivial⟩, ⟨by omega, e04, ?_⟩, by simp; omega⟩
    · show some (Value.slice X' (setTo s n ++ [(n : Int)]).length x') = _
      rw [setTo_succ, if_pos h2]
    · rw [setTo_succ, if_pos h2]; exact hX4
  · refine M.run rfl <| M.end_ ⟨(n + 1, X, x), ⟨rfl, ?_, nxt (n := 64) hlt (by decide), trivial⟩, ⟨by omega, e02, ?_⟩, by simp; omega⟩
    · rw [setTo_succ, if_neg (by rw [h2]; decide)]; rfl
    · rw [setTo_succ, if_neg (by rw [h2]; decide)]; exact hX.mv0 e2
end Go.Proofs.Yteeikpmoboehdaa
end

section
/- Walks: the smaller one of two numbers. -/
set_option linter.unusedVariables false
namespace Go.Proofs.Yteeikpmoboehdaa
open Go Go.Vc Go.RowKit Py
def min2 (x y : Int) : Int := if y < x then y else x
theorem Min_go (x y : Int) (A : Option Addr) (c : Nat) (w : World) (hA : Rd dI w A c [x, y]) : Calls Try.prog 89 #[.slice A 2 c] w fun e w' => e = .returned (.int .i64 (min2 x y)) ∧ w.grownBy w' none := by
  refine calls (G := G) (args := [.slice A 2 c]) Try.func89 rfl rfl rfl ?_
  obtain ⟨hA1, h0⟩ := rd_flat hA (j := 0) (by simp)
  obtain ⟨_, h1⟩ := rd_flat hA (j := 1) (by simp)
  refine M.run rfl <| M.condF rfl rfl <| M.run rfl <| M.ix rfl (by decide) (by decide) hA1 <| M.run rfl <| M.ld rfl ((h0 w (gr_below (gr_refl _ _))).one 0 rfl rfl) <| M.run rfl ?_
  refine M.loop (σ := Nat) (fun i => [(0, .slice A 2 c), (3, .int .i64 (if i = 1 then x else min2 x y)), (4, .int .i64 (i : Int))]) (fun i w' => 1 ≤ i ∧ i ≤ 2 ∧ w' = w) (fun i => 2 - i) 1 ⟨rfl, rfl, rfl, trivial⟩ ⟨by omega, by omega, rfl⟩ ?_
  rintro i w1 ⟨h3, h4, rfl⟩
  obtain rfl | rfl : i = 1 ∨ i = 2 := by omega
  · refine M.run rfl <| M.condT rfl rfl <| M.run rfl <| M.ix rfl (by decide) (by decide) hA1 <| M.run rfl <| M.ld rfl ((h1 w1 (gr_below (gr_refl _ _))).one 0 rfl rfl) <| M.run rfl <| M.end_ ⟨2, ⟨rfl, rfl, rfl, trivial⟩, ⟨by omega, by omega, rfl⟩, by omega⟩
  · exact M.run rfl <| M.condF rfl rfl <| M.run rfl <| M.retF rfl rfl ⟨rfl, gr_refl _ _⟩
theorem smallest_go (x y : Int) (A : Option Addr) (c : Nat) (w : World) (hA : Rd dI w A c [x, y]) : Calls Try.prog 70 #[.slice A 2 c] w fun e w' => e = .returned (.int .i64 (min2 x y)) ∧ w.grownBy w' none := by
  refine calls (G := G) (args := [.slice A 2 c]) Try.func70 rfl rfl rfl ?_
  refine M.run rfl <| M.cl rfl (Min_go x y A c w hA) ?_
  rintro e w1 ⟨rfl, e1⟩
  exact ⟨_, rfl, M.run rfl <| M.retF rfl rfl ⟨rfl, e1⟩⟩
end Go.Proofs.Yteeikpmoboehdaa
end

section
/- Walk: checkBalances. -/
set_option linter.unusedVariables false
namespace Py
def debt (l : List Int) : Bool := l.all fun n => within n (-100000) 100000
def balF (l : List Int) : Int := if (l.length : Int) > 7 then 3 else if l.length = 0 ∨ debt l = false then 1 else if sumTo (at0 l) l.length ≠ 0 then 1 else 0
end Py
namespace Go.Proofs.Yteeikpmoboehdaa
open Go Go.Vc Go.RowKit Py
theorem sum_bd {l : List Int} (h : debt l = true) : ∀ m, m ≤ l.length → -100000 * (m : Int) ≤ sumTo (at0 l) m ∧ sumTo (at0 l) m ≤ 100000 * (m : Int)
  | 0, _ => by simp [sumTo]
  | m + 1, hm => by
    have ih := sum_bd h m (by omega)
    have hx := Py.within_iff.1 ((List.all_eq_true.1 h) _ (List.getElem_mem (show m < l.length by omega)))
    rw [at0_get (show m < l.length by omega)] at hx
    unfold sumTo
    push_cast
    omega
end Go.Proofs.Yteeikpmoboehdaa
end

section
/- Walk: checkBalances. -/
set_option linter.unusedVariables false
namespace Go.Proofs.Yteeikpmoboehdaa
open Go Go.Vc Go.RowKit Py
theorem checkBalances_go (l : List Int) (A : Option Addr) (c : Nat) (w : World) (hA : Rd dI w A c l) : Calls Try.prog 64 #[.slice A l.length c] w fun e w' => e = .returned (.int .i64 (balF l)) ∧ w.grownBy w' none := by
  refine calls (G := G) (args := [.slice A l.length c]) Try.func64 rfl rfl rfl ?_
  refine M.run rfl <| M.cond rfl (fun h => ?_) (fun h => ?_)
  · have h' : (l.length : Int) > 7 := of_decide_eq_true h
    refine M.run rfl <| M.retF rfl rfl ⟨?_, gr_refl _ _⟩
    unfold balF; rw [if_pos h']; rfl
  have h7 : ¬ (l.length : Int) > 7 := of_decide_eq_false h
  have bad : (l.length = 0 ∨ debt l = false) → balF l = 1 := fun hb => by unfold balF; rw [if_neg h7, if_pos hb]
  refine M.at_ [14] rfl <| M.case 14 rfl (fun h1 => ?_) (fun h1 => ?_)
  · have h1' : l.length = 0 := by have : (l.length : Int) = 0 := by simpa using h1
                                  omega
    refine M.run rfl <| M.condT rfl rfl <| M.run rfl <| M.retF rfl rfl ⟨?_, gr_refl _ _⟩
    rw [bad (.inl h1')]; rfl
  have h1' : ¬ l.length = 0 := by
    have : ¬ (l.length : Int) = 0 := by simpa using h1
    omega
  refine M.run rfl <| M.cl rfl (allI_go l _ (fun n => within n (-100000) 100000) rfl A c w hA ⟨57, [.agg #[.int .i64 (-100000), .int .i64 100000]], [], rfl, fun w' _ x => has_go (-100000) 100000 x w'⟩) ?_
  rintro e w1 ⟨rfl, e1⟩
  refine ⟨_, rfl, M.run rfl <| M.cond rfl (fun h2 => ?_) (fun h2 => ?_)⟩
  · refine M.run rfl <| M.retF rfl rfl ⟨?_, e1⟩
    rw [bad (.inr (by unfold debt; simpa using h2))]; rfl
  have hd : debt l = true := by unfold debt; simpa using h2
  refine M.run rfl <| M.loop (σ := Nat) (fun i => [(3, .int .i64 (sumTo (at0 l) i)), (21, .slice A l.length c), (22, .int .i64 (l.length : Int)), (23, .int .i64 (i : Int))]) (fun i w' => i ≤ l.length ∧ w.grownBy w' none) (fun i => l.length - i) 0 ⟨rfl, rfl, rfl, rfl, trivial⟩ ⟨Nat.zero_le _, e1⟩ ?_
  rintro i w2 ⟨hi, e2⟩
  refine M.run rfl <| M.cond rfl (fun h => ?_) (fun h => ?_)
  · have hlt : i < l.length := by have := of_decide_eq_true h; omega
    obtain ⟨hA1, hAC⟩ := rd_flat hA hlt
    rw [at0_get hlt] at hAC
    have hb := sum_bd hd (i + 1) (by omega)
    refine M.run rfl <| M.ix rfl (by omega) (by omega) hA1 <| M.run rfl <| M.ld rfl ((hAC w2 (gr_below e2)).one 0 rfl rfl) <| M.run rfl <| M.end_ ⟨i + 1, ⟨?_, rfl, rfl, nxt hlt (by omega), trivial⟩, ⟨by omega, e2⟩, by omega⟩
    show some (Value.int .i64 (IntKind.i64.wrap (sumTo (at0 l) (i + 1)))) = _
    rw [w64 (by omega) (by omega)]
  · have hin : i = l.length := by have := of_decide_eq_false h; omega
    subst hin
    refine M.run rfl <| M.cond rfl (fun h3 => ?_) (fun h3 => ?_)
    · have h3' : sumTo (at0 l) l.length ≠ 0 := by simpa using h3
      refine M.run rfl <| M.retF rfl rfl ⟨?_, e2⟩
      unfold balF; rw [if_neg h7, if_neg (by simp [h1', hd]), if_pos h3']; rfl
    · have h3' : ¬ sumTo (at0 l) l.length ≠ 0 := by simpa using h3
      refine M.run rfl <| M.retF rfl rfl ⟨?_, e2⟩
      unfold balF; rw [if_neg h7, if_neg (by simp [h1', hd]), if_neg h3']; rfl
end Go.Proofs.Yteeikpmoboehdaa
end

section
/- Sets of stations as bits; the sums of their balances; the program's best groups. -/
set_option linter.unusedVariables false
namespace Py

/-! ### sets -/
/-- those of s that are not of t -/
def dif (s t : Nat) : Nat := s ^^^ (s &&& t)
theorem dif_bit (s t i : Nat) : (dif s t).testBit i = (s.testBit i && !t.testBit i) := by
  unfold dif
  simp only [Nat.testBit_xor, Nat.testBit_and]
  cases s.testBit i <;> cases t.testBit i <;> rfl
def Sub (s t : Nat) : Prop := ∀ i, s.testBit i = true → t.testBit i = true
theorem sub_and {s t : Nat} (h : Sub s t) : s &&& t = s := by
  apply Nat.eq_of_testBit_eq
  intro i
  rw [Nat.testBit_and]
  cases hs : s.testBit i with
  | false => rfl
  | true => rw [h i hs]; rfl
theorem sub_of_and (s t : Nat) : Sub (s &&& t) t := fun i h => by
  rw [Nat.testBit_and, Bool.and_eq_true] at h; exact h.2
theorem sub_le {s t : Nat} (h : Sub s t) : s ≤ t := by rw [← sub_and h]; exact Nat.and_le_right
theorem sub_refl (s : Nat) : Sub s s := fun _ h => h
theorem sub_trans {s t u : Nat} (h : Sub s t) (k : Sub t u) : Sub s u := fun i hi => k i (h i hi)
theorem dif_sub (s t : Nat) : Sub (dif s t) s := fun i h => by rw [dif_bit, Bool.and_eq_true] at h; exact h.1
theorem some_bit {s : Nat} (h : s ≠ 0) : ∃ i, s.testBit i = true := Nat.exists_testBit_of_ne_zero h
theorem dif_lt {s t : Nat} (h0 : t ≠ 0) (h : Sub t s) : dif s t < s := by
  have h1 := sub_le (dif_sub s t)
  rcases Nat.lt_or_eq_of_le h1 with h2 | h2
  · exact h2
  · obtain ⟨i, hi⟩ := some_bit h0
    have : (dif s t).testBit i = s.testBit i := by rw [h2]
    rw [dif_bit, hi, h i hi] at this
    cases this
theorem dif_zero (s : Nat) : dif s s = 0 := by unfold dif; simp
/-- the next smaller subset -/
theorem prev_sub : ∀ (s left t : Nat), Sub s left → Sub t left → t < s → t ≤ (s - 1) &&& left := by
  intro s
  induction s using Nat.strongRecOn with
  | ind s ih =>
    intro left t hs ht hlt
    have half : ∀ {x : Nat}, Sub x left → Sub (x / 2) (left / 2) := fun {x} h i hi => by
      rw [Nat.testBit_div_two] at hi ⊢; exact h _ hi
    rcases Nat.mod_two_eq_zero_or_one s with h0 | h1
    · have hu2 : ((s - 1) &&& left) / 2 = (s / 2 - 1) &&& (left / 2) := by
        rw [Nat.and_div_two]; congr 1; omega
      have hum : ((s - 1) &&& left) % 2 = left % 2 := by
        have e1 : ((s - 1) &&& left).testBit 0 = ((s - 1).testBit 0 && left.testBit 0) := Nat.testBit_and _ _ _
        simp only [Nat.testBit_zero] at e1
        have : (s - 1) % 2 = 1 := by omega
        rw [decide_eq_true this, Bool.true_and] at e1
        have e3 := decide_eq_decide.1 e1
        omega
      have hi := ih (s / 2) (by omega) (left / 2) (t / 2) (half hs) (half ht) (by omega)
      have hm : t % 2 ≤ left % 2 := by
        have := ht 0
        simp only [Nat.testBit_zero, decide_eq_true_eq] at this
        omega
      omega
    · have hsub : Sub (s - 1) left := fun i hi => by
        apply hs i
        cases i with
        | zero => simp only [Nat.testBit_zero, decide_eq_true_eq]; exact h1
        | succ i =>
          rw [← Nat.testBit_div_two] at hi ⊢
          rw [show (s - 1) / 2 = s / 2 by omega] at hi; exact hi
      rw [sub_and hsub]; omega
theorem prev_lt {s left : Nat} (h : s ≠ 0) : (s - 1) &&& left < s := by
  have : (s - 1) &&& left ≤ s - 1 := Nat.and_le_left
  omega

/-- the first station of a set -/
def lowF (s : Nat) : Nat → Nat → Nat
  | 0, i => i
  | f + 1, i => if s.testBit i then i else lowF s f (i + 1)
def low (s : Nat) : Nat := lowF s 64 0
theorem lowF_spec (s : Nat) : ∀ (f i j : Nat), i ≤ j → j < i + f → s.testBit j = true → s.testBit (lowF s f i) = true ∧ lowF s f i ≤ j ∧ ∀ k, i ≤ k → k < lowF s f i → s.testBit k = false
  | 0, i, j, h1, h2, _ => by omega
  | f + 1, i, j, h1, h2, hj => by
    unfold lowF
    by_cases hi : s.testBit i = true
    · rw [if_pos hi]; exact ⟨hi, h1, fun k h3 h4 => by omega⟩
    · rw [if_neg hi]
      have hij : i ≠ j := fun h => hi (h ▸ hj)
      obtain ⟨a, b, c⟩ := lowF_spec s f (i + 1) j (by omega) (by omega) hj
      refine ⟨a, b, fun k h3 h4 => ?_⟩
      by_cases hk : k = i
      · subst hk; simpa using hi
      · exact c k (by omega) h4
theorem bit_lt {s n i : Nat} (h : s < 2 ^ n) (hi : s.testBit i = true) : i < n := by
  apply Decidable.byContradiction
  intro hn
  have : s < 2 ^ i := Nat.lt_of_lt_of_le h (Nat.pow_le_pow_right (by decide) (by omega))
  rw [Nat.testBit_lt_two_pow this] at hi; cases hi
theorem low_spec {s : Nat} (h0 : s ≠ 0) (h : s < 2 ^ 64) : s.testBit (low s) = true ∧ ∀ k, s.testBit k = true → low s ≤ k := by
  obtain ⟨i, hi⟩ := some_bit h0
  have hs : ∀ j, s.testBit j = true → s.testBit (low s) = true ∧ low s ≤ j ∧ ∀ k, 0 ≤ k → k < low s → s.testBit k = false := fun j hj =>
    lowF_spec s 64 0 j (Nat.zero_le _) (by have := bit_lt h hj; omega) hj
  exact ⟨(hs i hi).1, fun k hk => (hs k hk).2.1⟩
theorem setTo_low {s : Nat} (h0 : s ≠ 0) (h : s < 2 ^ 64) : ∀ m, (m ≤ low s → setTo s m = []) ∧ (low s < m → 0 < (setTo s m).length ∧ at0 (setTo s m) 0 = (low s : Int))
  | 0 => ⟨fun _ => rfl, fun h => by omega⟩
  | m + 1 => by
    obtain ⟨h1, h2⟩ := setTo_low h0 h m
    obtain ⟨hb, hm⟩ := low_spec h0 h
    constructor
    · intro hl
      rw [setTo_succ, h1 (by omega), if_neg]
      intro hc; have := hm m hc; omega
    · intro hl
      rw [setTo_succ]
      by_cases hlm : low s < m
      · obtain ⟨h3, h4⟩ := h2 hlm
        split
        · refine ⟨by simp, ?_⟩
          rw [← h4]; unfold at0
          rw [List.getD_eq_getElem?_getD, List.getElem?_append_left h3, ← List.getD_eq_getElem?_getD]
        · exact ⟨h3, h4⟩
      · have : low s = m := by omega
        subst this
        rw [if_pos hb, h1 (Nat.le_refl _)]
        exact ⟨by simp, by simp [at0]⟩
theorem setL_low {s : Nat} (h0 : s ≠ 0) (h : s < 2 ^ 64) : 0 < (setL s).length ∧ at0 (setL s) 0 = (low s : Int) := by
  have hb := bit_lt h (low_spec h0 h).1
  exact (setTo_low h0 h 64).2 hb
theorem setTo_mem (s m : Nat) {x : Int} : x ∈ setTo s m ↔ ∃ i : Nat, i < m ∧ s.testBit i = true ∧ x = (i : Int) := by
  unfold setTo
  simp only [List.mem_map, List.mem_filter, List.mem_range]
  constructor
  · rintro ⟨i, ⟨h1, h2⟩, rfl⟩; exact ⟨i, h1, h2, rfl⟩
  · rintro ⟨i, h1, h2, rfl⟩; exact ⟨i, ⟨h1, h2⟩, rfl⟩
/-- a set of what is so -/
def maskOf (p : Nat → Bool) : Nat → Nat
  | 0 => 0
  | n + 1 => if p n then maskOf p n ||| 2 ^ n else maskOf p n
theorem maskOf_bit (p : Nat → Bool) : ∀ (n i : Nat), (maskOf p n).testBit i = (decide (i < n) && p i)
  | 0, i => by simp [maskOf]
  | n + 1, i => by
    unfold maskOf
    have ih := maskOf_bit p n i
    by_cases hn : i = n
    · subst hn
      split
      · rename_i h; rw [Nat.testBit_or, Nat.testBit_two_pow_self]; simp [h]
      · rename_i h; rw [ih]; simp [h]
    · have e : decide (i < n + 1) = decide (i < n) := by congr 1; apply propext; omega
      rw [e, ← ih]
      split
      · rw [Nat.testBit_or, Nat.testBit_two_pow_of_ne (Ne.symm hn), Bool.or_false]
      · rfl
theorem maskOf_lt (p : Nat → Bool) : ∀ n, maskOf p n < 2 ^ n
  | 0 => by simp [maskOf]
  | n + 1 => by
    have ih := maskOf_lt p n
    unfold maskOf
    split
    · apply Nat.or_lt_two_pow
      · exact Nat.lt_of_lt_of_le ih (Nat.pow_le_pow_right (by decide) (by omega))
      · exact Nat.pow_lt_pow_right (by decide) (by omega)
    · exact Nat.lt_of_lt_of_le ih (Nat.pow_le_pow_right (by decide) (by omega))

/-! ### sums of balances -/
def bsum (l : List Int) (s : Nat) : Int := sumTo (fun i => if s.testBit i then at0 l i else 0) l.length
theorem bsum_dif (l : List Int) {s t : Nat} (h : Sub t s) : bsum l (dif s t) = bsum l s - bsum l t := by
  unfold bsum
  rw [← sumTo_sub]
  apply sumTo_congr
  intro i _
  rw [dif_bit]
  have := h i
  cases hs : s.testBit i <;> cases ht : t.testBit i <;> simp_all
theorem bsum_zero (l : List Int) : bsum l 0 = 0 := by
  unfold bsum
  have := sumTo_congr (f := fun i => if (0 : Nat).testBit i then at0 l i else 0) (g := fun _ => 0) l.length (fun i _ => by simp)
  rw [this, sumTo_zero]
theorem bsum_one (l : List Int) {k : Nat} (h : k < l.length) : bsum l (2 ^ k) = at0 l k := by
  unfold bsum
  have := sumTo_single (at0 l) k l.length
  rw [if_pos h] at this
  rw [← this]
  apply sumTo_congr
  intro i _
  by_cases hi : i = k
  · subst hi; simp
  · rw [Nat.testBit_two_pow_of_ne (Ne.symm hi), if_neg hi]; rfl
theorem sub_one {s k : Nat} (h : s.testBit k = true) : Sub (2 ^ k) s := fun i hi => by
  by_cases e : i = k
  · subst e; exact h
  · rw [Nat.testBit_two_pow_of_ne (Ne.symm e)] at hi; cases hi
theorem bsum_low (l : List Int) {s : Nat} (h0 : s ≠ 0) (h64 : s < 2 ^ 64) (h : s < 2 ^ l.length) : bsum l s = bsum l (dif s (2 ^ low s)) + at0 l (low s) := by
  have hb := (low_spec h0 h64).1
  rw [bsum_dif l (sub_one hb), bsum_one l (bit_lt h hb)]; omega
theorem bsum_bd {l : List Int} (h : ∀ i, i < l.length → -100000 ≤ at0 l i ∧ at0 l i ≤ 100000) (s : Nat) : ∀ m, m ≤ l.length →
    -100000 * (m : Int) ≤ sumTo (fun i => if s.testBit i then at0 l i else 0) m ∧ sumTo (fun i => if s.testBit i then at0 l i else 0) m ≤ 100000 * (m : Int)
  | 0, _ => by simp [sumTo]
  | m + 1, hm => by
    obtain ⟨h1, h2⟩ := bsum_bd h s m (by omega)
    obtain ⟨h3, h4⟩ := h m (by omega)
    simp only [sumTo]
    split <;> constructor <;> omega

/-! ### the program's search -/
def dvLoop (z : Nat → Bool) (rec_ : Nat → List Nat) (left first : Nat) : Nat → Nat → List Nat → List Nat
  | 0, _, out => out
  | f + 1, s, out => if s = 0 then out else dvLoop z rec_ left first f ((s - 1) &&& left) (if s.testBit first = true ∧ z s = true then (if out.length < (rec_ (dif left s)).length + 1 then s :: rec_ (dif left s) else out) else out)
def dv (l : List Int) : Nat → Nat → List Nat
  | 0, _ => []
  | d + 1, left => if left = 0 then [] else dvLoop (fun s => decide (bsum l s = 0)) (dv l d) left (low left) left left []
def grp (l : List Int) (left : Nat) : List Nat := dv l (left + 1) left

theorem dvLoop_congr {z : Nat → Bool} {r r' : Nat → List Nat} {left first : Nat} (h : ∀ x, x < left → r x = r' x) : ∀ (f s : Nat) (out : List Nat), Sub s left → dvLoop z r left first f s out = dvLoop z r' left first f s out
  | 0, s, out, _ => rfl
  | f + 1, s, out, hs => by
    unfold dvLoop
    by_cases h0 : s = 0
    · rw [if_pos h0, if_pos h0]
    · rw [if_neg h0, if_neg h0, h _ (dif_lt h0 hs)]
      exact dvLoop_congr h f _ _ (sub_of_and _ _)
theorem dv_fuel (l : List Int) : ∀ (left d : Nat), left < d → dv l d left = grp l left := by
  intro left
  induction left using Nat.strongRecOn with
  | ind left ih =>
    intro d hd
    obtain ⟨d, rfl⟩ : ∃ e, d = e + 1 := ⟨d - 1, by omega⟩
    unfold grp
    simp only [dv]
    split
    · rfl
    · refine dvLoop_congr (fun x hx => ?_) _ _ _ (sub_refl _)
      rw [ih x hx d (by omega), ih x hx left hx]
theorem grp_eq (l : List Int) (left : Nat) : grp l left = if left = 0 then [] else dvLoop (fun s => decide (bsum l s = 0)) (grp l) left (low left) left left [] := by
  rw [grp, dv]
  split
  · rfl
  · exact dvLoop_congr (fun x hx => dv_fuel l x left hx) _ _ _ (sub_refl _)

/-- lists of sets that are groups, each first one of those that are left in the first -/
inductive GL (l : List Int) : Nat → List Nat → Prop
  | nil : GL l 0 []
  | cons {left s : Nat} {gs : List Nat} (h0 : left ≠ 0) (hs : Sub s left) (hf : s.testBit (low left) = true) (hz : bsum l s = 0) (h : GL l (dif left s) gs) : GL l left (s :: gs)

theorem ne_of_bit {s i : Nat} (h : s.testBit i = true) : s ≠ 0 := by rintro rfl; simp at h

theorem dvLoop_spec {l : List Int} {r : Nat → List Nat} {left first : Nat} : ∀ (f s : Nat) (out : List Nat), s ≤ f → Sub s left →
    (out = [] ∨ ∃ t, Sub t left ∧ t.testBit first = true ∧ bsum l t = 0 ∧ out = t :: r (dif left t)) →
    (dvLoop (fun s => decide (bsum l s = 0)) r left first f s out = [] ∨ ∃ t, Sub t left ∧ t.testBit first = true ∧ bsum l t = 0 ∧ dvLoop (fun s => decide (bsum l s = 0)) r left first f s out = t :: r (dif left t)) ∧
    out.length ≤ (dvLoop (fun s => decide (bsum l s = 0)) r left first f s out).length ∧
    ∀ t, Sub t left → t.testBit first = true → bsum l t = 0 → t ≤ s → (r (dif left t)).length + 1 ≤ (dvLoop (fun s => decide (bsum l s = 0)) r left first f s out).length
  | 0, s, out, hf, hs, ho => by
    have : s = 0 := by omega
    subst this
    simp only [dvLoop]
    exact ⟨ho, Nat.le_refl _, fun t _ hb _ ht => absurd (by omega) (ne_of_bit hb)⟩
  | f + 1, s, out, hf, hs, ho => by
    unfold dvLoop
    by_cases h0 : s = 0
    · subst h0
      rw [if_pos rfl]
      exact ⟨ho, Nat.le_refl _, fun t _ hb _ ht => absurd (by omega) (ne_of_bit hb)⟩
    · rw [if_neg h0]
      have hl := prev_lt (left := left) h0
      generalize hout : (if s.testBit first = true ∧ decide (bsum l s = 0) = true then (if out.length < (r (dif left s)).length + 1 then s :: r (dif left s) else out) else out) = out'
      have ho' : out' = [] ∨ ∃ t, Sub t left ∧ t.testBit first = true ∧ bsum l t = 0 ∧ out' = t :: r (dif left t) := by
        subst hout
        split
        · rename_i hc
          split
          · exact .inr ⟨s, hs, hc.1, by simpa using hc.2, rfl⟩
          · exact ho
        · exact ho
      have hlen : out.length ≤ out'.length ∧ (s.testBit first = true → bsum l s = 0 → (r (dif left s)).length + 1 ≤ out'.length) := by
        subst hout
        split
        · rename_i hc
          split
          · rename_i hlt
            simp only [List.length_cons]
            exact ⟨by omega, fun _ _ => by omega⟩
          · exact ⟨Nat.le_refl _, fun _ _ => by omega⟩
        · rename_i hc
          exact ⟨Nat.le_refl _, fun a b => absurd ⟨a, by simpa using b⟩ hc⟩
      obtain ⟨g1, g2, g3⟩ := dvLoop_spec f ((s - 1) &&& left) out' (by omega) (sub_of_and _ _) ho'
      refine ⟨g1, by omega, fun t ht hb hz hle => ?_⟩
      by_cases hts : t = s
      · subst hts
        have := hlen.2 hb hz
        omega
      · exact g3 t ht hb hz (prev_sub s left t hs ht (by omega))

theorem low_sub {left : Nat} (h0 : left ≠ 0) (h64 : left < 2 ^ 64) : left.testBit (low left) = true := (low_spec h0 h64).1

theorem grp_ok (l : List Int) : ∀ (left : Nat), left < 2 ^ 64 → bsum l left = 0 → GL l left (grp l left) := by
  intro left
  induction left using Nat.strongRecOn with
  | ind left ih =>
    intro h64 hz
    rw [grp_eq]
    by_cases h0 : left = 0
    · rw [if_pos h0, h0]; exact .nil
    · rw [if_neg h0]
      obtain ⟨g1, _, g3⟩ := dvLoop_spec (l := l) (r := grp l) (left := left) (first := low left) left left [] (Nat.le_refl _) (sub_refl _) (.inl rfl)
      have := g3 left (sub_refl _) (low_sub h0 h64) hz (Nat.le_refl _)
      rcases g1 with g1 | ⟨t, ht, hb, hz', g1⟩
      · rw [g1] at this; simp at this
      · rw [g1]
        have hlt := dif_lt (ne_of_bit hb) ht
        exact .cons h0 ht hb hz' (ih _ hlt (by omega) (by rw [bsum_dif l ht, hz, hz']; rfl))

theorem grp_best (l : List Int) {left : Nat} {gs : List Nat} (h : GL l left gs) : gs.length ≤ (grp l left).length := by
  induction h with
  | nil => simp
  | @cons left s gs h0 hs hf hz h ih =>
    rw [grp_eq, if_neg h0]
    obtain ⟨_, _, g3⟩ := dvLoop_spec (l := l) (r := grp l) (left := left) (first := low left) left left [] (Nat.le_refl _) (sub_refl _) (.inl rfl)
    have := g3 s hs hf hz (sub_le hs)
    simp only [List.length_cons]
    omega
end Py
end

section
/- Partitions into groups, as functions to a station of the same group; payments merge at most two; the fewest payments. -/
set_option linter.unusedVariables false
namespace Py

structure NP (l : List Int) (m : Nat → Bool) (f : Nat → Nat) : Prop where
  dom : ∀ i, i < l.length → m i = true → f i < l.length ∧ m (f i) = true ∧ f (f i) = f i
  zero : ∀ g, g < l.length → m g = true → f g = g → sumTo (fun i => if m i = true ∧ f i = g then at0 l i else 0) l.length = 0
def reps (n : Nat) (m : Nat → Bool) (f : Nat → Nat) : Int := sumTo (fun g => if m g = true ∧ f g = g then 1 else 0) n

theorem sumTo_one (k n : Nat) : sumTo (fun i => if i = k then (1 : Int) else 0) n = if k < n then 1 else 0 := sumTo_single (fun _ => 1) k n
theorem bsum_if (l : List Int) (s : Nat) : bsum l s = sumTo (fun i => if s.testBit i = true then at0 l i else 0) l.length := rfl

theorem GL.np {l : List Int} (h64 : l.length ≤ 64) {left : Nat} {gs : List Nat} (h : GL l left gs) (hl : left < 2 ^ l.length) :
    ∃ f, NP l left.testBit f ∧ reps l.length left.testBit f = gs.length ∧ ∀ i, left.testBit i = true → f i ≤ i := by
  induction h with
  | nil =>
    refine ⟨id, ⟨fun i _ h => by simp at h, fun i _ h => by simp at h⟩, ?_, fun i h => by simp at h⟩
    unfold reps
    rw [sumTo_congr (g := fun _ => 0) _ (fun i _ => by simp), sumTo_zero]; rfl
  | @cons left s gs h0 hs hf hz h ih =>
    have hlt := dif_lt (ne_of_bit hf) hs
    obtain ⟨f, hN, hr, hle⟩ := ih (by omega)
    have h64' : left < 2 ^ 64 := Nat.lt_of_lt_of_le hl (Nat.pow_le_pow_right (by decide) h64)
    obtain ⟨hp, hmin⟩ := low_spec h0 h64'
    generalize low left = p at hf hp hmin
    have hpn := bit_lt hl hp
    have hd : ∀ i, (dif left s).testBit i = true ↔ left.testBit i = true ∧ s.testBit i = false := fun i => by rw [dif_bit]; simp
    let f' : Nat → Nat := fun i => if s.testBit i = true then p else f i
    have fs : ∀ i, s.testBit i = true → f' i = p := fun i h => if_pos h
    have fn : ∀ i, s.testBit i = false → f' i = f i := fun i h => if_neg (by simp [h])
    refine ⟨f', ⟨fun i hi hm => ?_, fun g hg hm hfg => ?_⟩, ?_, fun i hi => ?_⟩
    · cases hsi : s.testBit i with
      | true => rw [fs i hsi]; exact ⟨hpn, hp, fs p hf⟩
      | false =>
        obtain ⟨a, b, c⟩ := hN.dom i hi ((hd i).2 ⟨hm, hsi⟩)
        rw [fn i hsi, fn (f i) ((hd _).1 b).2]
        exact ⟨a, ((hd _).1 b).1, c⟩
    · cases hsg : s.testBit g with
      | true =>
        rw [fs g hsg] at hfg
        subst hfg
        refine Eq.trans ?_ hz
        rw [bsum_if]
        apply sumTo_congr
        intro i hi
        cases hsi : s.testBit i with
        | true => rw [if_pos ⟨hs i hsi, fs i hsi⟩]; simp
        | false =>
          rw [if_neg]
          · simp
          · rintro ⟨h1, h2⟩
            rw [fn i hsi] at h2
            obtain ⟨_, b, _⟩ := hN.dom i hi ((hd i).2 ⟨h1, hsi⟩)
            rw [h2, hd, hf] at b
            cases b.2
      | false =>
        rw [fn g hsg] at hfg
        refine Eq.trans ?_ (hN.zero g hg ((hd g).2 ⟨hm, hsg⟩) hfg)
        apply sumTo_congr
        intro i hi
        cases hsi : s.testBit i with
        | true =>
          rw [if_neg, if_neg]
          · rw [hd, hsi]; rintro ⟨⟨_, h⟩, _⟩; cases h
          · rw [fs i hsi]; rintro ⟨_, rfl⟩; rw [hf] at hsg; cases hsg
        | false => rw [fn i hsi]; simp only [hd, hsi, and_true]
    · have key : reps l.length left.testBit f' = reps l.length (dif left s).testBit f + sumTo (fun i => if i = p then (1 : Int) else 0) l.length := by
        unfold reps
        rw [← sumTo_add]
        apply sumTo_congr
        intro g hg
        cases hsg : s.testBit g with
        | true =>
          rw [fs g hsg]
          simp only [hd, hsg]
          by_cases e : g = p
          · subst e; simp [hp]
          · rw [if_neg (fun h => e h.2.symm), if_neg (by simp), if_neg e]; rfl
        | false =>
          rw [fn g hsg]
          simp only [hd, hsg]
          have e : g ≠ p := by rintro rfl; rw [hf] at hsg; cases hsg
          simp [e]
      rw [key, hr, sumTo_one, if_pos hpn]
      simp
    · cases hsi : s.testBit i with
      | true => rw [fs i hsi]; exact hmin i hi
      | false => rw [fn i hsi]; exact hle i ((hd i).2 ⟨hi, hsi⟩)

theorem NP.gl {l : List Int} {f : Nat → Nat} (h64 : l.length ≤ 64) : ∀ (left : Nat), left < 2 ^ l.length → NP l left.testBit f → ∃ gs, GL l left gs ∧ (gs.length : Int) = reps l.length left.testBit f := by
  intro left
  induction left using Nat.strongRecOn with
  | ind left ih =>
    intro hl hN
    by_cases h0 : left = 0
    · subst h0
      refine ⟨[], .nil, ?_⟩
      unfold reps
      rw [sumTo_congr (g := fun _ => 0) _ (fun i _ => by simp), sumTo_zero]; rfl
    have h64' : left < 2 ^ 64 := Nat.lt_of_lt_of_le hl (Nat.pow_le_pow_right (by decide) h64)
    obtain ⟨hp, hmin⟩ := low_spec h0 h64'
    have hpn := bit_lt hl hp
    obtain ⟨q1, q2, q3⟩ := hN.dom _ hpn hp
    generalize hq : f (low left) = q at q1 q2 q3
    generalize hsd : maskOf (fun i => left.testBit i && decide (f i = q)) l.length = s
    have hb : ∀ i, s.testBit i = true ↔ left.testBit i = true ∧ f i = q := fun i => by
      rw [← hsd, maskOf_bit]
      simp only [Bool.and_eq_true, decide_eq_true_eq]
      exact ⟨fun h => h.2, fun h => ⟨bit_lt hl h.1, h⟩⟩
    have hs : Sub s left := fun i h => ((hb i).1 h).1
    have hsf : s.testBit (low left) = true := (hb _).2 ⟨hp, hq⟩
    have hd : ∀ i, (dif left s).testBit i = true ↔ left.testBit i = true ∧ f i ≠ q := fun i => by
      rw [dif_bit, Bool.and_eq_true, Bool.not_eq_true']
      constructor
      · rintro ⟨a, b⟩; exact ⟨a, fun h => by rw [(hb i).2 ⟨a, h⟩] at b; cases b⟩
      · rintro ⟨a, b⟩
        refine ⟨a, ?_⟩
        cases h : s.testBit i with
        | false => rfl
        | true => exact absurd ((hb i).1 h).2 b
    have hlt := dif_lt (ne_of_bit hsf) hs
    have hz : bsum l s = 0 := by
      refine Eq.trans ?_ (hN.zero q q1 q2 q3)
      rw [bsum_if]
      apply sumTo_congr
      intro i _
      by_cases h : s.testBit i = true
      · rw [if_pos h, if_pos ((hb i).1 h)]
      · rw [if_neg h, if_neg (fun h' => h ((hb i).2 h'))]
    obtain ⟨gs, hG, hlen⟩ := ih _ hlt (by omega) ⟨fun i hi hm => by
        obtain ⟨a, b⟩ := (hd i).1 hm
        obtain ⟨c, d, e⟩ := hN.dom i hi a
        exact ⟨c, (hd _).2 ⟨d, by rw [e]; exact b⟩, e⟩, fun g hg hm hfg => by
        obtain ⟨a, b⟩ := (hd g).1 hm
        refine Eq.trans ?_ (hN.zero g hg a hfg)
        apply sumTo_congr
        intro i _
        by_cases h : left.testBit i = true ∧ f i = g
        · rw [if_pos h, if_pos ⟨(hd i).2 ⟨h.1, by rw [h.2, ← hfg]; exact b⟩, h.2⟩]
        · rw [if_neg h, if_neg (fun h' => h ⟨((hd i).1 h'.1).1, h'.2⟩)]⟩
    refine ⟨s :: gs, .cons h0 hs hsf hz hG, ?_⟩
    have key : reps l.length left.testBit f = reps l.length (dif left s).testBit f + sumTo (fun i => if i = q then (1 : Int) else 0) l.length := by
      unfold reps
      rw [← sumTo_add]
      apply sumTo_congr
      intro g _
      by_cases e : g = q
      · subst e
        rw [if_pos ⟨q2, q3⟩, if_neg, if_pos rfl]
        · rfl
        · rintro ⟨h, _⟩; exact ((hd _).1 h).2 q3
      · by_cases h : left.testBit g = true ∧ f g = g
        · rw [if_pos h, if_pos ⟨(hd g).2 ⟨h.1, by rw [h.2]; exact e⟩, h.2⟩, if_neg e]; rfl
        · rw [if_neg h, if_neg (fun h' => h ⟨((hd g).1 h'.1).1, h'.2⟩), if_neg e]; rfl
    rw [key, sumTo_one, if_pos q1, ← hlen]
    simp

/-! ### payments -/
def all_ (_ : Nat) : Bool := true
/-- l' is l behind a payment of x from a to b -/
def Paid (l l' : List Int) (a b : Nat) (x : Int) : Prop := l'.length = l.length ∧ ∀ i, i < l.length → at0 l' i = at0 l i + (if i = a then x else 0) - (if i = b then x else 0)
theorem sumIf_paid {l l' : List Int} {a b : Nat} {x : Int} (ha : a < l.length) (hb : b < l.length) (h : Paid l l' a b x) (P : Nat → Prop) [DecidablePred P] (hP : P a ↔ P b) :
    sumTo (fun i => if P i then at0 l i else 0) l.length = sumTo (fun i => if P i then at0 l' i else 0) l.length := by
  have e : sumTo (fun i => if P i then at0 l' i else 0) l.length = sumTo (fun i => (if P i then at0 l i else 0) + ((if i = a then (if P a then x else 0) else 0) - (if i = b then (if P b then x else 0) else 0))) l.length := by
    apply sumTo_congr
    intro i hi
    rw [h.2 i hi]
    by_cases h1 : i = a
    · subst h1
      by_cases h2 : i = b
      · subst h2; by_cases hp : P i <;> simp [hp]
      · by_cases hp : P i <;> simp [hp, h2]
    · by_cases h2 : i = b
      · subst h2; by_cases hp : P i <;> simp [hp, h1] <;> omega
      · by_cases hp : P i <;> simp [hp, h1, h2]
  rw [e, sumTo_add, sumTo_sub, sumTo_single (fun _ => if P a then x else 0), sumTo_single (fun _ => if P b then x else 0), if_pos ha, if_pos hb]
  by_cases hp : P a
  · rw [if_pos hp, if_pos (hP.1 hp)]; omega
  · rw [if_neg hp, if_neg (fun h => hp (hP.2 h))]; omega

def mrg (f : Nat → Nat) (a b i : Nat) : Nat := if f i = f b then f a else f i
theorem NP.unpay {l l' : List Int} {a b : Nat} {x : Int} {f : Nat → Nat} (ha : a < l.length) (hb : b < l.length) (h : Paid l l' a b x) (hN : NP l' all_ f) : NP l all_ (mrg f a b) ∧ reps l.length all_ f ≤ reps l.length all_ (mrg f a b) + 1 := by
  obtain ⟨a1, _, a3⟩ := hN.dom a (by rw [h.1]; exact ha) rfl
  obtain ⟨b1, _, b3⟩ := hN.dom b (by rw [h.1]; exact hb) rfl
  rw [h.1] at a1 b1
  have hz := hN.zero
  rw [h.1] at hz
  have ra : mrg f a b (f a) = f a := by unfold mrg; rw [a3]; split <;> rfl
  have ma : mrg f a b a = f a := by unfold mrg; split <;> rfl
  have mb : mrg f a b b = f a := by unfold mrg; rw [if_pos rfl]
  refine ⟨⟨fun i hi _ => ?_, fun g hg _ hfg => ?_⟩, ?_⟩
  · obtain ⟨i1, _, i3⟩ := hN.dom i (by rw [h.1]; exact hi) rfl
    rw [h.1] at i1
    by_cases e : f i = f b
    · have : mrg f a b i = f a := if_pos e
      rw [this]; exact ⟨a1, rfl, ra⟩
    · have : mrg f a b i = f i := if_neg e
      rw [this]
      refine ⟨i1, rfl, ?_⟩
      unfold mrg; rw [i3, if_neg e]
  · have hpay := sumIf_paid ha hb h (fun i => all_ i = true ∧ mrg f a b i = g) (by rw [ma, mb]; exact Iff.rfl)
    rw [hpay]
    by_cases e : g = f a
    · subst e
      by_cases e2 : f a = f b
      · refine Eq.trans ?_ (hz (f a) a1 rfl a3)
        apply sumTo_congr
        intro i _
        have : mrg f a b i = f i := by unfold mrg; split <;> simp_all
        rw [this]
      · have := sumTo_add (fun i => if all_ i = true ∧ f i = f a then at0 l' i else 0) (fun i => if all_ i = true ∧ f i = f b then at0 l' i else 0) l.length
        rw [hz (f a) a1 rfl a3, hz (f b) b1 rfl b3] at this
        refine Eq.trans ?_ (this.trans (Int.add_zero 0))
        apply sumTo_congr
        intro i _
        by_cases c : f i = f b
        · have hm : mrg f a b i = f a := if_pos c
          simp [hm, c, Ne.symm e2, all_]
        · have hm : mrg f a b i = f i := if_neg c
          simp [hm, c, all_]
    · have hgb : f g ≠ f b := fun c => e (by rw [← hfg]; exact if_pos c)
      have hgg : f g = g := by rw [← (show mrg f a b g = f g from if_neg hgb)]; exact hfg
      refine Eq.trans ?_ (hz g hg rfl hgg)
      apply sumTo_congr
      intro i _
      by_cases c : f i = f b
      · have : mrg f a b i = f a := if_pos c
        rw [this, c, if_neg (fun h => e h.2.symm), if_neg (fun h => hgb (by rw [hgg]; exact h.2.symm))]
      · have : mrg f a b i = f i := if_neg c
        rw [this]
  · have e : reps l.length all_ (mrg f a b) + 1 = sumTo (fun g => (if all_ g = true ∧ mrg f a b g = g then (1 : Int) else 0) + (if g = f b then 1 else 0)) l.length := by
      rw [sumTo_add, sumTo_one, if_pos b1]; rfl
    rw [e]
    unfold reps
    apply sumTo_le
    intro g _
    by_cases c : f g = g
    · by_cases d : g = f b
      · rw [if_pos d]; split <;> split <;> omega
      · have : mrg f a b g = g := by unfold mrg; rw [c, if_neg d]
        rw [this, if_neg d]; simp [c]
    · rw [if_neg (fun h => c h.2)]; split <;> split <;> omega

/-- where something is first -/
def firstB (P : Nat → Bool) : Nat → Nat → Nat
  | 0, i => i
  | f + 1, i => if P i then i else firstB P f (i + 1)
theorem firstB_spec (P : Nat → Bool) : ∀ (f i j : Nat), i ≤ j → j < i + f → P j = true → P (firstB P f i) = true ∧ firstB P f i ≤ j
  | 0, i, j, h1, h2, _ => by omega
  | f + 1, i, j, h1, h2, hj => by
    unfold firstB
    by_cases hi : P i = true
    · rw [if_pos hi]; exact ⟨hi, h1⟩
    · rw [if_neg hi]
      have hij : i ≠ j := fun h => hi (h ▸ hj)
      exact firstB_spec P f (i + 1) j (by omega) (by omega) hj
def nz (l : List Int) (i : Nat) : Bool := decide (at0 l i ≠ 0)
def zeros (l : List Int) : Int := sumTo (fun i => if at0 l i = 0 then 1 else 0) l.length
def spl (l : List Int) (f : Nat → Nat) (h : Nat) : Nat := if nz l h = true then h else firstB (fun j => nz l j && decide (f j = h)) l.length 0
theorem NP.split {l : List Int} {f : Nat → Nat} (hN : NP l all_ f) : NP l (nz l) (fun i => spl l f (f i)) ∧ reps l.length all_ f ≤ reps l.length (nz l) (fun i => spl l f (f i)) + zeros l := by
  have hs : ∀ i, i < l.length → nz l i = true → spl l f (f i) < l.length ∧ nz l (spl l f (f i)) = true ∧ f (spl l f (f i)) = f i := fun i hi hn => by
    obtain ⟨i1, _, i3⟩ := hN.dom i hi rfl
    unfold spl
    by_cases c : nz l (f i) = true
    · rw [if_pos c]; exact ⟨i1, c, i3⟩
    · rw [if_neg c]
      obtain ⟨h1, h2⟩ := firstB_spec (fun j => nz l j && decide (f j = f i)) l.length 0 i (Nat.zero_le _) (by omega) (by simp [hn])
      simp only [Bool.and_eq_true, decide_eq_true_eq] at h1
      exact ⟨by omega, h1.1, h1.2⟩
  refine ⟨⟨fun i hi hn => ?_, fun g hg hn hfg => ?_⟩, ?_⟩
  · obtain ⟨h1, h2, h3⟩ := hs i hi hn
    exact ⟨h1, h2, by show spl l f (f (spl l f (f i))) = _; rw [h3]⟩
  · replace hfg : spl l f (f g) = g := hfg
    obtain ⟨g1, _, g3⟩ := hN.dom g hg rfl
    refine Eq.trans ?_ (hN.zero (f g) g1 rfl g3)
    apply sumTo_congr
    intro i hi
    by_cases hni : nz l i = true
    · have : spl l f (f i) = g ↔ f i = f g := by
        constructor
        · intro h; rw [← (hs i hi hni).2.2, h]
        · intro h; rw [h]; exact hfg
      simp only [hni, this, all_]
    · have : at0 l i = 0 := by simpa [nz] using hni
      rw [this]; simp
  · unfold zeros reps
    rw [← sumTo_add]
    apply sumTo_le
    intro g _
    show (if all_ g = true ∧ f g = g then (1 : Int) else 0) ≤ (if nz l g = true ∧ spl l f (f g) = g then 1 else 0) + if at0 l g = 0 then 1 else 0
    by_cases c : f g = g
    · by_cases hn : nz l g = true
      · have : spl l f (f g) = g := by rw [c]; exact if_pos hn
        rw [this]; simp [all_, c, hn]; split <;> omega
      · have : at0 l g = 0 := by simpa [nz] using hn
        rw [if_pos ⟨rfl, c⟩, if_pos this]; split <;> omega
    · rw [if_neg (fun h => c h.2)]; split <;> split <;> omega

/-- a list of payments settles -/
inductive Settles : List Int → Nat → Prop
  | nil {l : List Int} (h : ∀ i, i < l.length → at0 l i = 0) : Settles l 0
  | cons {l l' : List Int} {a b : Nat} {x : Int} {m : Nat} (ha : a < l.length) (hb : b < l.length) (hp : Paid l l' a b x) (h : Settles l' m) : Settles l (m + 1)
theorem Settles.np {l : List Int} {m : Nat} (h : Settles l m) : ∃ f, NP l all_ f ∧ (l.length : Int) ≤ reps l.length all_ f + m := by
  induction h with
  | @nil l h =>
    refine ⟨id, ⟨fun i hi _ => ⟨hi, rfl, rfl⟩, fun g hg _ _ => ?_⟩, ?_⟩
    · rw [sumTo_congr (g := fun _ => 0) _ (fun i hi => by rw [h i hi]; simp), sumTo_zero]
    · have : ∀ n : Nat, reps n all_ id = n := fun n => by
        induction n with
        | zero => rfl
        | succ n ih => unfold reps at ih ⊢; simp only [sumTo, ih]; simp [all_]
      rw [this]; simp
  | @cons l l' a b x m ha hb hp h ih =>
    obtain ⟨f, hN, hr⟩ := ih
    obtain ⟨h1, h2⟩ := hN.unpay ha hb hp
    rw [hp.1] at hr
    exact ⟨_, h1, by push_cast; omega⟩
def nzm (l : List Int) (m : Nat) : Nat := maskOf (nz l) m
theorem nzm_bit (l : List Int) {i : Nat} (h : i < l.length) : (nzm l l.length).testBit i = nz l i := by unfold nzm; rw [maskOf_bit]; simp [h]
theorem NP.congr {l : List Int} {m m' : Nat → Bool} {f : Nat → Nat} (h : ∀ i, i < l.length → m i = m' i) (hN : NP l m f) : NP l m' f := by
  refine ⟨fun i hi hm => ?_, fun g hg hm hfg => ?_⟩
  · rw [← h i hi] at hm
    obtain ⟨a, b, c⟩ := hN.dom i hi hm
    exact ⟨a, by rw [← h _ a]; exact b, c⟩
  · rw [← h g hg] at hm
    refine Eq.trans ?_ (hN.zero g hg hm hfg)
    exact sumTo_congr _ (fun i hi => by rw [h i hi])
theorem reps_congr {n : Nat} {m m' : Nat → Bool} {f : Nat → Nat} (h : ∀ i, i < n → m i = m' i) : reps n m f = reps n m' f := sumTo_congr _ (fun i hi => by rw [h i hi])
/-- how many groups there are in the best ones -/
def bestN (l : List Int) : Nat := (grp l (nzm l l.length)).length
theorem best_np {l : List Int} (h64 : l.length ≤ 64) {f : Nat → Nat} (hN : NP l (nz l) f) : reps l.length (nz l) f ≤ bestN l := by
  obtain ⟨gs, hG, hl⟩ := NP.gl h64 _ (maskOf_lt _ _) (hN.congr (fun i hi => (nzm_bit l hi).symm))
  have hl2 : (gs.length : Int) = reps l.length (nz l) f := hl.trans (reps_congr (fun i hi => nzm_bit l hi))
  have hG2 : GL l (nzm l l.length) gs := hG
  have := grp_best l hG2
  unfold bestN
  omega
theorem fewest_low {l : List Int} (h64 : l.length ≤ 64) {m : Nat} (h : Settles l m) : (l.length : Int) ≤ bestN l + zeros l + m := by
  obtain ⟨f, hN, hr⟩ := h.np
  obtain ⟨h1, h2⟩ := hN.split
  have := best_np h64 h1
  omega
theorem bsum_nz (l : List Int) : bsum l (nzm l l.length) = sumTo (at0 l) l.length := by
  rw [bsum_if]
  apply sumTo_congr
  intro i hi
  rw [nzm_bit l hi]
  by_cases h : at0 l i = 0
  · simp [nz, h]
  · simp [nz, h]
theorem best_ok {l : List Int} (h64 : l.length < 64) (hz : sumTo (at0 l) l.length = 0) : GL l (nzm l l.length) (grp l (nzm l l.length)) :=
  grp_ok l _ (Nat.lt_of_lt_of_le (maskOf_lt _ _) (Nat.pow_le_pow_right (by decide) (by omega))) (by rw [bsum_nz]; exact hz)
theorem best_fn {l : List Int} (h64 : l.length < 64) (hz : sumTo (at0 l) l.length = 0) : ∃ f, NP l (nz l) f ∧ reps l.length (nz l) f = bestN l ∧ ∀ i, i < l.length → nz l i = true → f i ≤ i := by
  obtain ⟨f, h1, h2, h3⟩ := (best_ok h64 hz).np (by omega) (maskOf_lt _ _)
  refine ⟨f, h1.congr (fun i hi => nzm_bit l hi), ?_, fun i hi hn => h3 i (by rw [nzm_bit l hi]; exact hn)⟩
  exact (reps_congr (fun i hi => (nzm_bit l hi).symm)).trans h2
end Py
end

section
/- Walk: the sums of all sets of stations. -/
set_option linter.unusedVariables false
namespace Py
open Go
def svAt (l : List Int) (m i : Nat) : Int := if i < m then bsum l i else 0
def svL (l : List Int) (m : Nat) : List Value := (List.range 128).map fun i => .int .i64 (svAt l m i)
theorem svL_len (l : List Int) (m : Nat) : (svL l m).length = 128 := by simp [svL]
theorem svL_at (l : List Int) (m : Nat) {i : Nat} (h : i < 128) : (svL l m)[i]? = some (.int .i64 (svAt l m i)) := by simp [svL, h]
theorem svL_one (l : List Int) : svL l 1 = List.replicate 128 (.int .i64 0) := by
  apply List.ext_getElem
  · simp [svL]
  · intro i h1 h2
    simp only [svL, List.getElem_map, List.getElem_range, List.getElem_replicate, svAt]
    split
    · rename_i h
      have : i = 0 := by omega
      subst this
      rw [bsum_zero]
    · rfl
theorem svL_next (l : List Int) {m : Nat} : (svL l m).set m (.int .i64 (bsum l m)) = svL l (m + 1) := by
  apply List.ext_getElem
  · simp [svL]
  · intro i h1 h2
    simp only [List.getElem_set, svL, List.getElem_map, List.getElem_range, svAt]
    by_cases e : m = i
    · subst e; rw [if_pos rfl, if_pos (by omega)]
    · rw [if_neg e]
      by_cases h : i < m
      · rw [if_pos h, if_pos (by omega)]
      · rw [if_neg h, if_neg (by omega)]
end Py
namespace Go.Proofs.Yteeikpmoboehdaa
open Go Go.Vc Go.RowKit Py
theorem u64N {n : Nat} (h : n < 2 ^ 64) : IntKind.u64.wrap ((n : Nat) : Int) = (n : Int) := by
  rw [IntKind.wrap_u64]; omega
theorem shl_nat {n : Nat} (hn : n ≤ 63) : IntKind.u64.wrap (1 * 2 ^ min ((n : Int)).toNat (IntKind.bits .u64)) = ((2 ^ n : Nat) : Int) := by
  have : min ((n : Int)).toNat (IntKind.bits .u64) = n := by simp [IntKind.bits]; omega
  rw [this]
  have hp : (1 : Int) * (2 : Int) ^ n = ((2 ^ n : Nat) : Int) := by push_cast; omega
  rw [hp]
  exact u64N (Nat.pow_lt_pow_right (by decide) (by omega))
theorem bvN (x : Nat) : BitVec.ofInt 64 (x : Int) = BitVec.ofNat 64 x := by simp
theorem andNot_nat {s t : Nat} (hs : s < 2 ^ 64) (ht : t < 2 ^ 64) : IntKind.u64.wrap ((BitVec.ofInt (IntKind.bits .u64) (s : Int) &&& ~~~(BitVec.ofInt (IntKind.bits .u64) (t : Int))).toNat : Nat) = ((dif s t : Nat) : Int) := by
  have e : (BitVec.ofInt (IntKind.bits .u64) (s : Int) &&& ~~~(BitVec.ofInt (IntKind.bits .u64) (t : Int))).toNat = dif s t := by
    show (BitVec.ofInt 64 (s : Int) &&& ~~~(BitVec.ofInt 64 (t : Int))).toNat = dif s t
    rw [bvN, bvN]
    apply Nat.eq_of_testBit_eq
    intro i
    rw [dif_bit, BitVec.testBit_toNat, BitVec.getLsbD_and, BitVec.getLsbD_not, BitVec.getLsbD_ofNat, BitVec.getLsbD_ofNat]
    by_cases hi : i < 64
    · simp [hi]
    · have : s.testBit i = false := Nat.testBit_lt_two_pow (Nat.lt_of_lt_of_le hs (Nat.pow_le_pow_right (by decide) (by omega)))
      simp [hi, this]
  rw [e]
  exact u64N (Nat.lt_of_le_of_lt (sub_le (dif_sub s t)) hs)
theorem and_nat {s t : Nat} (hs : s < 2 ^ 64) (ht : t < 2 ^ 64) : IntKind.u64.wrap ((BitVec.ofInt (IntKind.bits .u64) (s : Int) &&& (BitVec.ofInt (IntKind.bits .u64) (t : Int))).toNat : Nat) = ((s &&& t : Nat) : Int) := by
  have e : (BitVec.ofInt (IntKind.bits .u64) (s : Int) &&& (BitVec.ofInt (IntKind.bits .u64) (t : Int))).toNat = s &&& t := by
    show (BitVec.ofInt 64 (s : Int) &&& (BitVec.ofInt 64 (t : Int))).toNat = s &&& t
    rw [bvN, bvN, BitVec.toNat_and, BitVec.toNat_ofNat, BitVec.toNat_ofNat, Nat.mod_eq_of_lt hs, Nat.mod_eq_of_lt ht]
  rw [e]
  exact u64N (Nat.lt_of_le_of_lt Nat.and_le_left hs)
theorem or_nat {s t : Nat} (hs : s < 2 ^ 64) (ht : t < 2 ^ 64) : IntKind.u64.wrap ((BitVec.ofInt (IntKind.bits .u64) (s : Int) ||| (BitVec.ofInt (IntKind.bits .u64) (t : Int))).toNat : Nat) = ((s ||| t : Nat) : Int) := by
  have e : (BitVec.ofInt (IntKind.bits .u64) (s : Int) ||| (BitVec.ofInt (IntKind.bits .u64) (t : Int))).toNat = s ||| t := by
    show (BitVec.ofInt 64 (s : Int) ||| (BitVec.ofInt 64 (t : Int))).toNat = s ||| t
    rw [bvN, bvN, BitVec.toNat_or, BitVec.toNat_ofNat, BitVec.toNat_ofNat, Nat.mod_eq_of_lt hs, Nat.mod_eq_of_lt ht]
  rw [e]
  exact u64N (Nat.or_lt_two_pow hs ht)
theorem pow7 {n : Nat} (h : n ≤ 7) : 2 ^ n ≤ 128 := by
  have := Nat.pow_le_pow_right (n := 2) (by decide) h
  simpa using this
theorem sumsOf_go (l : List Int) (A : Option Addr) (c : Nat) (w : World) (hA : Rd dI w A c l) (h7 : l.length ≤ 7) (hd : debt l = true) :
    Calls Try.prog 87 #[.slice A l.length c] w fun e w' => e = .returned (.agg (svL l (2 ^ l.length)).toArray) ∧ w.grownBy w' none := by
  have hp := pow7 h7
  have hbd : ∀ i, i < l.length → -100000 ≤ at0 l i ∧ at0 l i ≤ 100000 := fun i hi => by
    have := List.all_eq_true.1 hd l[i] (List.getElem_mem hi)
    rw [at0_get hi] at this
    exact Py.within_iff.1 this
  refine calls (G := G) (args := [.slice A l.length c]) Try.func87 rfl rfl rfl ?_
  refine M.run rfl <| M.nw (cs := List.replicate 128 (.int .i64 0)) rfl fun g w1 b1 e1 l1 => M.run rfl <|
    M.loop (σ := Nat) (fun s => [(0, .slice A l.length c), (2, .pointer (some ⟨g, 0, none⟩)), (3, .int .u64 (s : Int))]) (fun s w' => 1 ≤ s ∧ s ≤ 2 ^ l.length ∧ w.grownBy w' none ∧ Blk w' g (svL l s) 135) (fun s => 2 ^ l.length - s) 1 ⟨rfl, rfl, rfl, trivial⟩ ⟨Nat.le_refl _, Nat.one_le_two_pow, e1, by rw [svL_one]; exact b1⟩ ?_
  rintro s w2 ⟨hs1, hs2, e2, b2⟩
  refine M.run rfl <| M.ys (YS.shl rfl (by omega)) ?_
  rw [shl_nat (by omega)]
  refine M.run rfl <| M.cond rfl (fun h => ?_) (fun h => ?_)
  rotate_left
  · have hin : s = 2 ^ l.length := by have := of_decide_eq_false h; omega
    subst hin
    refine M.run rfl <| M.ldA rfl (svL_len _ _) b2.cellsAll <| M.run rfl <| M.storeA (vs := svL l (2 ^ l.length)) rfl (svL_len _ _) rfl b2 (by simp [svL_len]) (by simp [svL, Value.oneCell']) fun w3 b3 e3 => M.run rfl ?_
    exact M.retC (.cellA rfl rfl rfl (svL_len _ _) (blk_all rfl b3).cellsAll .nil) ⟨rfl, gr_fresh e2 e3 l1⟩
  have hlt : s < 2 ^ l.length := by have := of_decide_eq_true h; omega
  have h64 : s < 2 ^ 64 := by omega
  have h0 : s ≠ 0 := by omega
  obtain ⟨hl0, hl1⟩ := setL_low h0 h64
  have hlow := low_spec h0 h64
  have hln := bit_lt hlt hlow.1
  have hdl : dif s (2 ^ low s) < s := dif_lt (Nat.pos_iff_ne_zero.1 (Nat.two_pow_pos _)) (sub_one hlow.1)
  refine M.run rfl <| M.cl rfl (setList_go s h64 w2) ?_
  rintro e w3 ⟨X, x, rfl, hX, e3⟩
  have e03 := gr_trans e2 e3
  refine ⟨_, rfl, M.run rfl <| M.drawG [17] (by kernel_rfl) fun w4 e4 => ?_⟩
  have hXr := (hX.mv0 e4).rd (by decide)
  obtain ⟨hX1, hXc⟩ := rd_flat hXr hl0
  rw [at0_get hl0, hl1] at hXc
  obtain ⟨hA1, hAc⟩ := rd_flat hA hln
  rw [at0_get hln] at hAc
  have b4 := (b2.mv0 e3).mv0 e4
  refine D.run rfl <| D.ys 3 rfl rfl rfl (YS.ix rfl (by omega) (by omega) hX1) <| D.ld 4 rfl rfl rfl rfl (fun w' hw => (hXc w' (gr_below hw)).one 0 rfl rfl) <| D.ys 5 rfl rfl rfl (YS.shl rfl (by omega)) ?_
  rw [shl_nat (by omega)]
  refine D.at_ [20] rfl ?_
  rw [andNot_nat h64 (Nat.pow_lt_pow_right (by decide) (by omega))]
  refine D.ys 7 rfl rfl rfl (YS.ixA rfl (by omega) (by omega)) <| D.ld 8 rfl rfl rfl rfl (v := .int .i64 (svAt l s (dif s (2 ^ low s)))) (fun w' hw => (b4.mv0 hw).cell (by rw [add_plain]) (by
    show (svL l s)[0 + dif s (2 ^ low s) * 1]? = _
    rw [Nat.zero_add, Nat.mul_one]; exact svL_at l s (by omega))) <| D.run rfl <| D.ys 11 rfl rfl rfl (YS.ix rfl (by omega) (by omega) hX1) <| D.ld 12 rfl rfl rfl rfl (fun w' hw => (hXc w' (gr_below hw)).one 0 rfl rfl) <| D.ys 13 rfl rfl rfl (YS.ix rfl (by omega) (by omega) hA1) <|
    D.ld 14 rfl rfl rfl rfl (fun w' hw => (hAc w' (gr_below (gr_trans (gr_trans e03 e4) hw))).one 0 rfl rfl) <| D.run rfl ?_
  have hsv : svAt l s (dif s (2 ^ low s)) + at0 l (low s) = bsum l s := by
    unfold svAt; rw [if_pos hdl]; exact (bsum_low l h0 h64 hlt).symm
  have hbs := bsum_bd hbd s l.length (Nat.le_refl _)
  rw [← bsum_if] at hbs
  rw [hsv, w64 (by omega) (by omega)]
  refine D.ys 16 rfl rfl rfl (YS.ixA rfl (by omega) (by omega)) <| D.one 17 rfl rfl <| M.storeA (cs := svL l s) (off := s) (vs := [.int .i64 (bsum l s)]) rfl rfl (by rw [add_plain]; simp) b4 (by simp [svL_len]; omega) rfl fun w5 b5 e5 => M.run rfl <| M.end_ ⟨.inl ⟨rfl, trivial⟩, D.done_ rfl ?_⟩
  have b5' : Blk w5 g (svL l (s + 1)) 135 := by
    rw [← svL_next, ← over_set _ _ _ (by rw [svL_len]; omega)]; exact b5
  refine M.run rfl <| M.end_ ⟨s + 1, ⟨rfl, rfl, ?_, trivial⟩, ⟨by omega, by omega, gr_fresh (gr_trans e03 e4) e5 l1, b5'⟩, by omega⟩
  show some (Value.int .u64 (IntKind.u64.wrap ((s : Int) + 1))) = _
  rw [show ((s : Int) + 1) = ((s + 1 : Nat) : Int) by omega, u64N (by omega)]
end Go.Proofs.Yteeikpmoboehdaa
end

section
/- Maps whose keys are integers. -/
set_option linter.unusedVariables false
set_option linter.unusedSimpArgs false
namespace Go.Vc
open Go.RowKit

structure ME1 where
  a : Int
  v : Value
  born : Nat
def encM1 (k : IntKind) (ms : List ME1) : Array MapEntry := (ms.map fun x => { key := .int k x.a, val := x.v, born := x.born : MapEntry }).toArray

/-- an integer, as a key -/
structure Key1 (P : Program) (t : TypeId) (k : IntKind) : Prop where
  u : P.underlying t = some (.int k)

section
variable {P : Program} {t : TypeId} {k : IntKind}
theorem Key1.check (h : Key1 P t k) (e : Bool) (a : Int) (w : World) : (Instr.checkKey e 10000 t (.int k a)).run P w = .ok () w := by
  rw [show (10000 : Nat) = 9999 + 1 from rfl, Instr.checkKey]
  simp [Sem.run_bind, run_underlying h.u, Result.andThen]

def findM1 (a : Int) : List ME1 → Nat → Option (Nat × Value)
  | [], _ => none
  | x :: r, i => if x.a = a then some (i, x.v) else findM1 a r (i + 1)
theorem findM1_spec {a : Int} : ∀ {ms : List ME1} {i j : Nat} {v : Value}, findM1 a ms i = some (j, v) → ∃ x, i ≤ j ∧ ms[j - i]? = some x ∧ x.a = a ∧ x.v = v
  | [], _, _, _, h => by simp [findM1] at h
  | x :: r, i, j, v, h => by
    unfold findM1 at h
    split at h
    · rename_i hx
      injection h with h
      injection h with h1 h2
      subst h1
      exact ⟨x, Nat.le_refl _, by simp, hx, h2⟩
    · obtain ⟨y, h1, h2, h3⟩ := findM1_spec h
      refine ⟨y, by omega, ?_, h3⟩
      rw [show j - i = (j - (i + 1)) + 1 by omega]
      simpa using h2
theorem now1 (a : Int) : ∀ (ms : List ME1) (i : Nat), Instr.findNow (.int k) (.int k a) (ms.map fun x => { key := .int k x.a, val := x.v, born := x.born : MapEntry }) i = some (findM1 a ms i)
  | [], i => rfl
  | x :: r, i => by
    have ih := now1 a r (i + 1)
    simp only [List.map_cons, Instr.findNow, Instr.sameNow, findM1, if_true]
    by_cases hx : x.a = a
    · have : (a == x.a) = true := by simp [hx]
      rw [this, if_pos hx]
    · have : (a == x.a) = false := by simp; exact fun h => hx h.symm
      rw [this, if_neg hx]; exact ih
theorem Key1.find (h : Key1 P t k) (a : Int) (ms : List ME1) (w : World) : (Instr.findKey t (.int k a) (encM1 k ms).toList).run P w = .ok (findM1 a ms 0) w := by
  exact Go.MapKept.run_findKey h.u (by simpa [encM1] using now1 a ms 0)
end

/-- a map's entries, of which each is as is said -/
def MapOk1 (k : IntKind) (T : Int → Value → Prop) (w : World) (r : Nat) : Prop := ∃ ms clock, w.heap[r]? = some (.map (encM1 k ms) clock) ∧ ∀ x ∈ ms, T x.a x.v
theorem MapOk1.mv {k : IntKind} {T : Int → Value → Prop} {w w' : World} {r : Nat} {q : Option Nat} (h : MapOk1 k T w r) (e : w.grownBy w' q) (hq : q ≠ some r) : MapOk1 k T w' r := by
  obtain ⟨ms, c, h1, h2⟩ := h
  exact ⟨ms, c, (e.block r (Array.getElem?_eq_some_iff.1 h1).1 (fun x => hq x.symm)).trans h1, h2⟩
theorem MapOk1.mv0 {k : IntKind} {T : Int → Value → Prop} {w w' : World} {r : Nat} (h : MapOk1 k T w r) (e : w.grownBy w' none) : MapOk1 k T w' r := h.mv e (by simp)
theorem MapOk1.ne {k : IntKind} {T : Int → Value → Prop} {w : World} {r g t : Nat} {cs : List Value} (h : MapOk1 k T w r) (hB : Blk w g cs t) : r ≠ g := by
  rintro rfl
  obtain ⟨ms, c, h1, _⟩ := h
  rw [hB] at h1
  cases h1

section
variable {G : Ctx} {n : Nat} {Q : QT} {ρ : Env} {w : World} {all : Array Oper} {l : List Oper} {its : List It} {dd : Tmp} {op : Op} {ty : TypeId} {pos : String} {after : Array Edge} {gd : Option (Nat × Bool)} {o : Oper}
theorem M.mkMap1 (k : IntKind) (T : Int → Value → Prop) (he : evMkMap n ρ all ⟨some dd, op, ty, pos, after, gd⟩ = some ())
    (h : ∀ r w', MapOk1 k T w' r → w.grownBy w' none → w.heap.size ≤ r → M G n (.ops all l :: its) Q ((dd, .map (some r)) :: ρ) w') : M G n (.ops all (⟨some dd, op, ty, pos, after, gd⟩ :: l) :: its) Q ρ w := by
  unfold evMkMap at he
  split at he
  · rename_i t hw ho
    cases hb : inB n (some dd) with
    | false => rw [hb] at he; simp at he
    | true =>
      simp only at ho
      subst ho
      refine M.step hw fun ac hf => ⟨.map (some w.heap.size), w.alloc (.map #[] 0), ?_, hb, h _ _ ⟨[], 0, by simpa [encM1] using heap_alloc_new w _, by simp⟩ (gr_alloc _ _) (Nat.le_refl _)⟩
      simp [execOp, Instr.makeMap, Sem.run_bind, Result.andThen]
  · simp at he

theorem look_spec1 {k : IntKind} {T : Int → Value → Prop} {r t kt et : Nat} (hm : MapOk1 k T w r) (hu : G.P.underlying t = some (.map kt et)) (hK : Key1 G.P kt k) {ie : TI} (hTe : G.T.get et = some ie) (a : Int) :
    ∃ v ok, (ok = true → T a v) ∧ (ok = false → v = ie.zero) ∧ ∀ W : World → Prop, (∀ w', W w' → w'.heap[r]? = w.heap[r]?) → ∀ {n : Nat} {ρ : Env} {all : Array Oper} {o : Oper}, evLook G.T n ρ all o = some (r, .int k a, t) → YS G n all ρ o W (.tuple #[v, .bool ok]) := by
  obtain ⟨ms, c, h1, h2⟩ := hm
  have key : ∀ v ok, ((do
      let (v, ok) ← match findM1 a ms 0 with
        | some (_, v) => pure (v, true)
        | none => pure (← zeroValue et, false)
      pure (.tuple #[v, .bool ok]) : Sem Value).run G.P w = .ok (.tuple #[v, .bool ok]) w) → ∀ W : World → Prop, (∀ w', W w' → w'.heap[r]? = w.heap[r]?) → ∀ {n : Nat} {ρ : Env} {all : Array Oper} {o : Oper}, evLook G.T n ρ all o = some (r, .int k a, t) → YS G n all ρ o W (.tuple #[v, .bool ok]) := by
    intro v ok hv W hW n ρ all o he
    unfold evLook at he
    split at he
    · rename_i t' x y hw ho
      split at he
      · rename_i r' key hx hy
        cases hb : inB n o.dst with
        | false => rw [hb] at he; simp at he
        | true =>
          rw [hb] at he
          simp at he
          obtain ⟨rfl, rfl, rfl⟩ := he
          refine ⟨hw, hb, fun ac hf w' hC => ?_⟩
          rw [show execOp ac.eval o = (do pure (.value (← Instr.lookup t' (ac.eval x) (ac.eval y) true)) : Sem Next) by simp [execOp, ho]]
          refine run_value ?_
          rw [hf.ev hx, hf.ev hy]
          have h1' : w'.heap[r']? = some (.map (encM1 k ms) c) := (hW w' hC).trans h1
          unfold Instr.lookup
          simp only [Sem.run_bind, run_underlying hu, Result.andThen_ok, Go.run_getObj_map w' r' _ _ h1', Sem.run_pure, hK.check, hK.find]
          cases hfm : findM1 a ms 0 with
          | none => rw [hfm] at hv; simp [Sem.run_bind, TI.zeroRun hTe, Result.andThen] at hv ⊢; exact hv
          | some p => obtain ⟨j, v'⟩ := p; rw [hfm] at hv; simp [Sem.run_bind, Result.andThen] at hv ⊢; exact hv
      · simp at he
    · simp at he
  cases hfm : findM1 a ms 0 with
  | none => exact ⟨ie.zero, false, by simp, fun _ => rfl, key _ _ (by rw [hfm]; simp [Sem.run_bind, TI.zeroRun hTe, Result.andThen])⟩
  | some p =>
    obtain ⟨j, v⟩ := p
    obtain ⟨x, _, hx, ha, hv⟩ := findM1_spec hfm
    refine ⟨v, true, fun _ => ?_, by simp, key _ _ (by rw [hfm]; simp [Sem.run_bind, Result.andThen])⟩
    have := h2 x (List.mem_of_getElem? hx)
    rw [ha, hv] at this
    exact this

theorem M.mapUp1 {k : IntKind} {T : Int → Value → Prop} {r t kt et : Nat} {a : Int} {v : Value} (he : evMU ρ all o = some (r, .int k a, v, t)) (hm : MapOk1 k T w r) (hu : G.P.underlying t = some (.map kt et)) (hK : Key1 G.P kt k) (hT : T a v)
    (h : ∀ w', MapOk1 k T w' r → w.grownBy w' (some r) → M G n (.ops all l :: its) Q ρ w') : M G n (.ops all (o :: l) :: its) Q ρ w := by
  unfold evMU at he
  split at he
  · rename_i t' x y z hw ho hd
    split at he
    · rename_i r' key v' hx hy hz
      simp at he
      obtain ⟨rfl, rfl, rfl, rfl⟩ := he
      obtain ⟨ms, c, h1, h2⟩ := hm
      have hlt := (Array.getElem?_eq_some_iff.1 h1).1
      have hgr : ∀ ob, w.grownBy { w with heap := w.heap.setIfInBounds r' ob } (some r') := fun ob => ⟨rfl, rfl, rfl, by simp, fun j hj hne => by
        simp only [Array.getElem?_setIfInBounds]
        rw [if_neg (by rintro rfl; exact hne rfl)]⟩
      have hat : ∀ ob, ({ w with heap := w.heap.setIfInBounds r' ob } : World).heap[r']? = some ob := fun ob => by simp [Array.getElem?_setIfInBounds, hlt]
      have base : ∀ ac, Fits n ρ ac → (execOp ac.eval o).run G.P w = ((do
          match findM1 a ms 0 with
          | some (i, _) => do
            let key ← Instr.keyThatStays ((((encM1 k ms)[i]?).map (·.key)).getD (.int k a)) (.int k a)
            setObj r' (.map ((encM1 k ms).modify i fun e => { e with key, val := v' }) c)
          | none => setObj r' (.map ((encM1 k ms).push { key := .int k a, val := v', born := c }) (c + 1))
          pure .skip : Sem Next)).run G.P w := by
        intro ac hf
        rw [show execOp ac.eval o = (do Instr.mapUpdate t' (ac.eval x) (ac.eval y) (ac.eval z); pure .skip : Sem Next) by simp [execOp, ho]]
        rw [hf.ev hx, hf.ev hy, hf.ev hz]
        unfold Instr.mapUpdate
        simp only [Sem.run_bind, run_underlying hu, Result.andThen_ok, Go.run_getObj_map w r' _ _ h1, hK.check, hK.find]
        cases findM1 a ms 0 with
        | none => simp [Sem.run_bind]
        | some p =>
          obtain ⟨i, _⟩ := p
          simp only [Sem.run_bind]
          generalize Sem.run G.P (Instr.keyThatStays _ _) w = rr
          cases rr <;> rfl
      cases hfm : findM1 a ms 0 with
      | none =>
        refine M.stepSkip hw hd fun ac hf => ⟨{ w with heap := w.heap.setIfInBounds r' (.map (encM1 k (ms ++ [⟨a, v', c⟩])) (c + 1)) }, ?_, h _ ⟨_, _, hat _, ?_⟩ (hgr _)⟩
        · rw [base ac hf, hfm]
          have : (encM1 k ms).push { key := .int k a, val := v', born := c } = encM1 k (ms ++ [⟨a, v', c⟩]) := by simp [encM1]
          simp [Sem.run_bind, Go.MapKept.run_setObj_map _ h1, Result.andThen, this]
        · intro e he
          rcases List.mem_append.1 he with he | he
          · exact h2 e he
          · simp at he; subst he; exact hT
      | some p =>
        obtain ⟨i, v0⟩ := p
        obtain ⟨e0, _, hx0, ha0, _⟩ := findM1_spec hfm
        simp at hx0
        refine M.stepSkip hw hd fun ac hf => ⟨{ w with heap := w.heap.setIfInBounds r' (.map (encM1 k (ms.modify i fun e => { e with v := v' })) c) }, ?_, h _ ⟨_, _, hat _, ?_⟩ (hgr _)⟩
        · rw [base ac hf, hfm]
          have hk : (((encM1 k ms)[i]?).map (·.key)).getD (.int k a) = .int k a := by
            simp [encM1, hx0, ha0]
          have hs : ∀ u, (Instr.keyThatStays (.int k a) (.int k a)).run G.P u = .ok (.int k a) u := fun u => by
            have : Instr.sameBits 10000 (.int k a) (.int k a) = true := by
              rw [show (10000 : Nat) = 9999 + 1 from rfl, Instr.sameBits]
              simp [Instr.sameBits]
            simp [Instr.keyThatStays, this]
          have hmod : (encM1 k ms).modify i (fun e => { e with key := .int k a, val := v' }) = encM1 k (ms.modify i fun e => { e with v := v' }) := by
            apply Array.ext'
            simp only [encM1, Array.toList_modify, List.toList_toArray]
            apply List.ext_getElem?
            intro j
            simp only [List.getElem?_modify, List.getElem?_map]
            by_cases hij : i = j
            · subst hij
              simp [hx0, ha0]
            · simp [hij]
          simp only [Sem.run_bind, hk, hs, Result.andThen_ok, hmod, Go.MapKept.run_setObj_map _ h1, Sem.run_pure]
        · intro e he
          obtain ⟨j, hj⟩ := List.mem_iff_getElem?.1 he
          rw [List.getElem?_modify] at hj
          by_cases hij : i = j
          · subst hij
            simp [hx0] at hj
            subst hj
            simp only [ha0]
            exact hT
          · simp [hij] at hj
            exact h2 e (List.mem_of_getElem? hj)
    · simp at he
  · simp at he
end
end Go.Vc
end

section
/- Walk: the closure that divides a set into the most groups. -/
set_option linter.unusedVariables false
namespace Py
def natL (l : List Nat) : List Int := l.map fun (n : Nat) => (n : Int)
theorem natL_len (l : List Nat) : (natL l).length = l.length := by simp [natL]
theorem grp_len (l : List Int) : ∀ left, (grp l left).length ≤ left := by
  intro left
  induction left using Nat.strongRecOn with
  | ind left ih =>
    rw [grp_eq]
    by_cases h0 : left = 0
    · rw [if_pos h0]; simp
    · rw [if_neg h0]
      obtain ⟨g1, _, _⟩ := dvLoop_spec (l := l) (r := grp l) (left := left) (first := low left) left left [] (Nat.le_refl _) (sub_refl _) (.inl rfl)
      rcases g1 with g1 | ⟨t, ht, hb, _, g1⟩
      · rw [g1]; simp
      · rw [g1]
        have h1 := dif_lt (ne_of_bit hb) ht
        have h2 := ih _ h1
        simp only [List.length_cons]; omega
end Py
namespace Go.Vc
theorem MapOk1.imp {k : IntKind} {T T' : Int → Value → Prop} {w : World} {r : Nat} (h : MapOk1 k T w r) (hi : ∀ a v, T a v → T' a v) : MapOk1 k T' w r := by
  obtain ⟨ms, c, h1, h2⟩ := h
  exact ⟨ms, c, h1, fun x hx => hi _ _ (h2 x hx)⟩
end Go.Vc
namespace Go.Proofs.Yteeikpmoboehdaa
open Go Go.Vc Go.RowKit Py
/-- readable, beside a block, in blocks from N on -/
abbrev RdN (N : Nat) {α : Type} (d : Rp α) (w : World) (r : Nat) (A : Option Addr) (c : Nat) (xs : List α) : Prop := Sl d w (fun b => b ≠ r ∧ N ≤ b ∧ b < w.heap.size) A c xs
theorem RdN.mv {N : Nat} {α : Type} {d : Rp α} {w w' : World} {r : Nat} {A : Option Addr} {c : Nat} {xs : List α} (h : RdN N d w r A c xs) (e : w.grownBy w' (some r)) : RdN N d w' r A c xs :=
  (h.move (fun b hb => e.block b hb.2.2 (fun he => hb.1 (by injection he)))).mono (fun b hb => ⟨hb.1, hb.2.1, Nat.lt_of_lt_of_le hb.2.2 e.size⟩)
theorem RdN.rd {N : Nat} {α : Type} {d : Rp α} {w : World} {r : Nat} {A : Option Addr} {c : Nat} {xs : List α} (h : RdN N d w r A c xs) : Rd d w A c xs := h.mono (fun b hb => hb.2.2)
theorem key109 : Key1 G.P 109 .u64 := ⟨Try.underlying109⟩
/-- what is known: the best groups of a set -/
def KnG (N : Nat) (l : List Int) (r : Nat) (w : World) : Int → Value → Prop := fun x v => ∃ (n : Nat) (X : Option Addr) (c : Nat), x = (n : Int) ∧ v = .slice X (natL (grp l n)).length c ∧ RdN N dU w r X c (natL (grp l n))
def divF (gk gs gd : Nat) : Value := .func (.func 88) #[] #[.pointer (some ⟨gk, 0, none⟩), .pointer (some ⟨gs, 0, none⟩), .pointer (some ⟨gd, 0, none⟩)]
structure GrpAt (N : Nat) (l : List Int) (gk gs gd r : Nat) (w : World) : Prop where
  k : Blk w gk [.map (some r)] 137
  s : Blk w gs (svL l (2 ^ l.length)) 135
  d : Blk w gd [divF gk gs gd] 138
  low : N ≤ w.heap.size
  map : MapOk1 .u64 (KnG N l r w) w r
theorem GrpAt.mv0 {N : Nat} {l : List Int} {gk gs gd r : Nat} {w w' : World} (h : GrpAt N l gk gs gd r w) (e : w.grownBy w' none) : GrpAt N l gk gs gd r w' :=
  ⟨h.k.mv0 e, h.s.mv0 e, h.d.mv0 e, Nat.le_trans h.low e.size, (h.map.mv0 e).imp (fun a v ⟨n, X, c, h1, h2, h3⟩ => ⟨n, X, c, h1, h2, h3.mv (gr_weak e)⟩)⟩
theorem GrpAt.put {N : Nat} {l : List Int} {gk gs gd r : Nat} {w w' : World} (h : GrpAt N l gk gs gd r w) (hm : MapOk1 .u64 (KnG N l r w) w' r) (e : w.grownBy w' (some r)) : GrpAt N l gk gs gd r w' :=
  ⟨h.k.mv1 e (h.map.ne h.k), h.s.mv1 e (h.map.ne h.s), h.d.mv1 e (h.map.ne h.d), Nat.le_trans h.low e.size, hm.imp (fun a v ⟨n, X, c, h1, h2, h3⟩ => ⟨n, X, c, h1, h2, h3.mv e⟩)⟩
theorem GrpAt.lt {N : Nat} {l : List Int} {gk gs gd r : Nat} {w : World} (h : GrpAt N l gk gs gd r w) : r < w.heap.size := by
  obtain ⟨ms, c, h1, _⟩ := h.map
  exact (Array.getElem?_eq_some_iff.1 h1).1
theorem own_xU {N : Nat} {w : World} {base r : Nat} {X : Option Addr} {x : Nat} {xs : List Int} (h : Vc.Own dU 109 w base no X x xs) (hr : r < base) (hN : N ≤ base) : RdN N dU w r X x xs := ((h.sl).bound (by decide)).mono (fun b hb => by
  rcases hb.1 with h | h
  · exact h.elim
  · exact ⟨by omega, by omega, hb.2⟩)
/-- the search's state -/
def stD (left gk gs gd : Nat) (s : Nat) (out : List Nat) (X : Option Addr) (x : Nat) : Env := [(0, .int .u64 (left : Int)), (1, .pointer (some ⟨gk, 0, none⟩)), (2, .pointer (some ⟨gs, 0, none⟩)), (3, .pointer (some ⟨gd, 0, none⟩)), (8, .int .u64 ((2 ^ low left : Nat) : Int)), (9, .slice X (natL out).length x), (10, .int .u64 (s : Int))]
set_option maxHeartbeats 2000000 in
theorem div_go (N : Nat) (l : List Int) (h7 : l.length ≤ 7) (gk gs gd r : Nat) : ∀ (left : Nat), left < 2 ^ l.length → ∀ (w : World), GrpAt N l gk gs gd r w →
    Calls Try.prog 88 #[.int .u64 (left : Int), .pointer (some ⟨gk, 0, none⟩), .pointer (some ⟨gs, 0, none⟩), .pointer (some ⟨gd, 0, none⟩)] w fun e w' => ∃ X c, e = .returned (.slice X (natL (grp l left)).length c) ∧ RdN N dU w' r X c (natL (grp l left)) ∧ w.grownBy w' (some r) ∧ GrpAt N l gk gs gd r w' := by
  have hp := pow7 h7
  intro left
  induction left using Nat.strongRecOn with
  | ind left ih =>
  intro hl w hG
  have h64 : left < 2 ^ 64 := by omega
  refine calls (G := G) (args := [.int .u64 (left : Int), .pointer (some ⟨gk, 0, none⟩), .pointer (some ⟨gs, 0, none⟩), .pointer (some ⟨gd, 0, none⟩)]) Try.func88 rfl rfl rfl ?_
  refine M.run rfl <| M.cond rfl (fun h => ?_) (fun h => ?_)
  · have h0 : left = 0 := by have : (left : Int) = 0 := by simpa using h
                             omega
    subst h0
    exact M.run rfl (M.retF rfl rfl ⟨none, 0, rfl, Sl.nil _ _ _ _ _ (by simp [maxLen]), gr_refl _ _ |> gr_weak, hG⟩)
  have h0 : left ≠ 0 := by
    rintro rfl
    exact absurd h (by decide)
  obtain ⟨v, ok, hv1, hv0, hlook⟩ := look_spec1 (G := G) hG.map Try.underlying137 key109 (ie := ⟨.slice 109, 1, .slice none 0 0, 24⟩) rfl (left : Int)
  refine M.run rfl <| M.ld rfl (hG.k.cell rfl rfl) <| M.run rfl <| M.ys (hlook (fun w' => w' = w) (by rintro _ rfl; rfl) rfl) <| M.run rfl <| M.cond rfl (fun h => ?_) (fun h => ?_)
  · obtain ⟨n, X, c, h1, rfl, h3⟩ := hv1 h
    have : n = left := by omega
    subst this
    exact M.run rfl (M.retF rfl rfl ⟨X, c, rfl, h3, gr_weak (gr_refl _ _), hG⟩)
  obtain ⟨hl0, hl1⟩ := setL_low h0 h64
  have hlow := low_spec h0 h64
  have hln := bit_lt hl hlow.1
  refine M.run rfl <| M.cl rfl (setList_go left h64 w) ?_
  rintro e w3 ⟨Z, z, rfl, hZ, e3⟩
  have hZr := hZ.rd (by decide)
  obtain ⟨hZ1, hZc⟩ := rd_flat hZr hl0
  rw [at0_get hl0, hl1] at hZc
  refine ⟨_, rfl, M.run rfl <| M.ix rfl (by omega) (by omega) hZ1 <| M.ld rfl ((hZc w3 (gr_below (gr_refl _ _))).one 0 rfl rfl) <| M.ys (YS.shl rfl (by omega)) ?_⟩
  rw [shl_nat (by omega)]
  have hp2 : 2 ^ low left < 2 ^ 64 := Nat.pow_lt_pow_right (by decide) (by omega)
  generalize hF : dvLoop (fun s => decide (bsum l s = 0)) (grp l) left (low left) left left [] = fn
  have hgrp : grp l left = fn := by rw [grp_eq, if_neg h0, hF]
  refine M.run rfl <| M.loop (σ := Nat × List Nat × Option Addr × Nat) (fun (s, out, X, x) => stD left gk gs gd s out X x)
    (fun (s, out, X, x) w' => Sub s left ∧ (∃ f, s ≤ f ∧ dvLoop (fun s => decide (bsum l s = 0)) (grp l) left (low left) f s out = fn) ∧ out.length ≤ 128 ∧ RdN N dU w' r X x (natL out) ∧ w.grownBy w' (some r) ∧ GrpAt N l gk gs gd r w')
    (fun (s, _) => s) (left, [], none, 0) ⟨rfl, rfl, rfl, rfl, rfl, rfl, rfl, trivial⟩ ⟨sub_refl _, ⟨left, Nat.le_refl _, hF⟩, by simp, Sl.nil _ _ _ _ _ (by simp [maxLen]), gr_weak e3, hG.mv0 e3⟩ ?_
  rintro ⟨s, out, X, x⟩ w4 ⟨hs, ⟨f, hf, hfn⟩, ho, hX, e4, hG4⟩
  refine M.run rfl <| M.cond rfl (fun h => ?_) (fun h => ?_)
  rotate_left
  · have hs0 : s = 0 := by have : (s : Int) = 0 := by simpa using h
                           omega
    subst hs0
    have hout : out = fn := by rw [← hfn]; cases f <;> simp [dvLoop]
    subst hout
    refine M.run rfl <| M.ld rfl (hG4.k.cell rfl rfl) <| M.run rfl <| M.mapUp1 rfl hG4.map Try.underlying137 key109 ⟨left, X, x, rfl, by rw [hgrp], by rw [hgrp]; exact hX⟩ fun w5 hm5 e5 => M.run rfl ?_
    refine M.retF rfl rfl ⟨X, x, by rw [hgrp]; rfl, by rw [hgrp]; exact hX.mv e5, gr_transR e4 e5, hG4.put hm5 e5⟩
  have hs0 : s ≠ 0 := by
    rintro rfl
    exact absurd h (by decide)
  have hsl := sub_le hs
  have hnx := prev_lt (left := left) hs0
  obtain ⟨f, rfl⟩ : ∃ f', f = f' + 1 := ⟨f - 1, by omega⟩
  have hfn' := hfn
  simp only [dvLoop, if_neg hs0] at hfn'
  -- the step to the next set
  have tail : ∀ (out' : List Nat) (X' : Option Addr) (x' : Nat) (w' : World) (ρ : Env), (dvLoop (fun s => decide (bsum l s = 0)) (grp l) left (low left) f ((s - 1) &&& left) out' = fn) → out'.length ≤ 128 → RdN N dU w' r X' x' (natL out') → w.grownBy w' (some r) → GrpAt N l gk gs gd r w' →
      Has ρ (stD left gk gs gd ((s - 1) &&& left) out' X' x') → ∃ s' : Nat × List Nat × Option Addr × Nat, Has ρ (stD left gk gs gd s'.1 s'.2.1 s'.2.2.1 s'.2.2.2) ∧ (Sub s'.1 left ∧ (∃ f, s'.1 ≤ f ∧ dvLoop (fun s => decide (bsum l s = 0)) (grp l) left (low left) f s'.1 s'.2.1 = fn) ∧ s'.2.1.length ≤ 128 ∧ RdN N dU w' r s'.2.2.1 s'.2.2.2 (natL s'.2.1) ∧ w.grownBy w' (some r) ∧ GrpAt N l gk gs gd r w') ∧ s'.1 < s :=
    fun out' X' x' w' ρ h1 h2 h3 h4 h5 h6 => ⟨(_, out', X', x'), h6, ⟨sub_of_and _ _, ⟨f, by omega, h1⟩, h2, h3, h4, h5⟩, hnx⟩
  have hstep : IntKind.u64.wrap ((BitVec.ofInt (IntKind.bits .u64) (IntKind.u64.wrap ((s : Int) - 1)) &&& (BitVec.ofInt (IntKind.bits .u64) (left : Int))).toNat : Nat) = (((s - 1) &&& left : Nat) : Int) := by
    rw [show (s : Int) - 1 = ((s - 1 : Nat) : Int) by omega, show IntKind.u64.wrap ((s - 1 : Nat) : Int) = ((s - 1 : Nat) : Int) from u64N (by omega)]
    exact and_nat (by omega) h64
  refine M.at_ [36] rfl ?_
  rw [and_nat (by omega) hp2]
  refine M.at_ [38] rfl <| M.case 38 rfl (fun h1 => ?_) (fun h1 => ?_)
  · have hnb : ¬ s.testBit (low left) = true := fun hb => by
      have h2 : (2 ^ low left) &&& s = 2 ^ low left := sub_and (sub_one hb)
      rw [Nat.and_comm] at h2
      rw [h2] at h1
      have : ((2 ^ low left : Nat) : Int) = 0 := by simpa using h1
      have := Nat.two_pow_pos (low left)
      omega
    rw [if_neg (fun h => hnb h.1)] at hfn'
    exact M.run rfl <| M.condT rfl rfl <| M.run rfl <| M.end_ (tail out X x w4 _ hfn' ho hX e4 hG4 ⟨rfl, rfl, rfl, rfl, rfl, rfl, congrArg (fun z => some (Value.int .u64 z)) hstep, trivial⟩)
  have hb : s.testBit (low left) = true := by
    cases hb : s.testBit (low left) with
    | true => rfl
    | false =>
      have : s &&& 2 ^ low left = 0 := by
        apply Nat.eq_of_testBit_eq
        intro i
        rw [Nat.testBit_and]
        by_cases e : i = low left
        · subst e; simp [hb]
        · rw [Nat.testBit_two_pow_of_ne (Ne.symm e)]; simp
      rw [this] at h1
      exact absurd h1 (by decide)
  refine M.run rfl <| M.ixA rfl (by omega) (by omega) <| M.ld (v := .int .i64 (bsum l s)) rfl (hG4.s.cell (by rw [add_plain]) (by
    show (svL l (2 ^ l.length))[0 + s * 1]? = _
    rw [Nat.zero_add, Nat.mul_one, svL_at l _ (by omega), svAt, if_pos (by omega)])) <| M.run rfl <| M.cond rfl (fun h2 => ?_) (fun h2 => ?_)
  · have hz : ¬ bsum l s = 0 := by simpa using h2
    rw [if_neg (fun h => hz (by simpa using h.2))] at hfn'
    exact M.run rfl <| M.end_ (tail out X x w4 _ hfn' ho hX e4 hG4 ⟨rfl, rfl, rfl, rfl, rfl, rfl, congrArg (fun z => some (Value.int .u64 z)) hstep, trivial⟩)
  have hz : bsum l s = 0 := by simpa using h2
  rw [if_pos ⟨hb, by simpa using hz⟩] at hfn'
  have hdl := dif_lt hs0 hs
  have hgl := grp_len l (dif left s)
  have hnl := natL_len (grp l (dif left s))
  have hnl2 := natL_len out
  refine M.run rfl <| M.ld rfl (hG4.d.cell rfl rfl) <| M.at_ [47] rfl ?_
  rw [andNot_nat h64 (by omega)]
  refine M.run rfl <| M.cl rfl (ih (dif left s) hdl (by omega) w4 hG4) ?_
  rintro e w5 ⟨Y, y, rfl, hY, e5, hG5⟩
  refine ⟨_, rfl, M.at_ [51] rfl ?_⟩
  rw [w64 (x := ((natL (grp l (dif left s))).length : Int) + 1) (by omega) (by omega)]
  refine M.run rfl <| M.cond rfl (fun h3 => ?_) (fun h3 => ?_)
  · have h3' := of_decide_eq_true h3
    rw [if_pos (by omega)] at hfn'
    refine M.run rfl <| M.bs rfl fun g6 w6 b6 e6 l6 => M.run rfl ?_
    have hO : Vc.Own dU 109 w6 w5.heap.size no (some ⟨g6, 0, none⟩) 1 [(s : Int)] := own_mk (cnt := 1) no (s : Int) rfl b6 l6 (by decide)
    have hY6 := hY.mv (gr_weak e6)
    refine M.appS (d := dU) rfl rfl hO rfl (by decide) rfl (ys := natL (grp l (dif left s))) rfl (sl_none hY) (fun j y hj => by
      obtain ⟨_, _, cs, hk, hc⟩ := hY6.at_ j y hj
      exact ⟨cs, hk, hc⟩) e6.size (by simp; omega) (by decide) fun X' x' w7 hX' e7 hat => ?_
    have e57 := hO.gr e6 e7 (Nat.le_refl _)
    exact M.run rfl <| M.end_ (tail (s :: grp l (dif left s)) X' x' w7 _ hfn' (by simp; omega) (own_xU hX' hG5.lt hG5.low) (gr_transR (gr_transR e4 e5) (gr_weak e57)) (hG5.mv0 e57) ⟨rfl, rfl, rfl, rfl, rfl, rfl, congrArg (fun z => some (Value.int .u64 z)) hstep, trivial⟩)
  · have h3' := of_decide_eq_false h3
    rw [if_neg (by omega)] at hfn'
    exact M.run rfl <| M.end_ (tail out X x w5 _ hfn' ho (hX.mv e5) (gr_transR e4 e5) hG5 ⟨rfl, rfl, rfl, rfl, rfl, rfl, congrArg (fun z => some (Value.int .u64 z)) hstep, trivial⟩)
end Go.Proofs.Yteeikpmoboehdaa
end
