/- Part 0 of the proof: the walks and plain laws that the row needs (merged from several texts: YtaimlmfncjbmjaaV0, YtaimlmfncjbmjaaV1, YtaimlmfncjbmjaaV2, YtaimlmfncjbmjaaV3, YtaimlmfncjbmjaaV4, YtaimlmfncjbmjaaV5, YtaimlmfncjbmjaaVD, YtaimlmfncjbmjaaG, YtaimlmfncjbmjaaA0, YtaimlmfncjbmjaaB0, YtaimlmfncjbmjaaL0, YtaimlmfncjbmjaaR0, YtaimlmfncjbmjaaR1, YtaimlmfncjbmjaaA1, YtaimlmfncjbmjaaL1, YtaimlmfncjbmjaaL2, YtaimlmfncjbmjaaL3, YtaimlmfncjbmjaaA2, YtaimlmfncjbmjaaL4, YtaimlmfncjbmjaaL5, YtaimlmfncjbmjaaL6, YtaimlmfncjbmjaaV6). -/
import Derived.Below
import Derived.Deep.Quiet
import Derived.WalkKit
import Derived.KernelRfl
import Derived.Laws.Rows
import Derived.Maps.AppendAt
import Derived.Deep.LoopGhost
import Derived.Laws.MakeOwn
import Derived.Deep.Slices
import Derived.Carry
import Derived.ChangeShapes
import Derived.Test.YtaimlmfncjbmjaaProg
import Derived.Test.YtaimlmfncjbmjaaRows
import Derived.ProofKit
import Derived.OpenShut
import Derived.ChangeOld
import Derived.SizedLaws
import Derived.OrdersHeld
set_option linter.unusedVariables false
set_option linter.unusedSimpArgs false
section
/- A small wp-calculus over explicit environments (slots -> values), for compact walks: judgement M over a list of items, 'runM' goes through what only computes. Generic over the program. -/
set_option linter.unusedVariables false
set_option linter.unusedSimpArgs false
namespace Go.Vc
open Go.RowKit

/-! ### types -/
inductive Sh where
  | int (k : IntKind) | bool | string | slice (e : Nat) | array (n e : Nat) | struct (fs : List (Nat × Nat)) | other

def aggD : TypeDesc → Bool
  | .struct _ | .array _ _ => true
  | _ => false
def Sh.agg : Sh → Bool
  | .struct _ | .array _ _ => true
  | _ => false

structure TI where
  sh : Sh
  size : Nat
  zero : Value
  bytes : Nat

def Sh.ok (P : Program) (t : Nat) : Sh → Prop
  | .int k => P.underlying t = some (.int k)
  | .bool => P.underlying t = some .bool
  | .string => P.underlying t = some .string
  | .slice e => P.underlying t = some (.slice e)
  | .array n e => P.underlying t = some (.array n e)
  | .struct fs => ∃ F : Array Field, P.underlying t = some (.struct F) ∧ F.toList.map (fun f => (f.offset, (P.info? f.type).map (·.size))) = fs.map (fun p => (p.1, some p.2))
  | .other => ∃ d, P.underlying t = some d ∧ aggD d = false

def TI.ok (P : Program) (t : Nat) (i : TI) : Prop := i.sh.ok P t ∧ (P.info? t).map (fun x => (x.size, x.zero, x.bytes)) = some (i.size, some i.zero, i.bytes)

abbrev Tab := List (Nat × TI)
def Tab.get : Tab → Nat → Option TI
  | [], _ => none
  | (j, i) :: r, t => bif Nat.beq j t then some i else Tab.get r t

def Tab.ok (P : Program) : Tab → Prop
  | [] => True
  | (j, i) :: r => i.ok P j ∧ Tab.ok P r

theorem Tab.ok_get {P : Program} : ∀ {T : Tab}, T.ok P → ∀ {t i}, T.get t = some i → TI.ok P t i
  | [], _, _, _, h => by simp [Tab.get] at h
  | (j, x) :: r, hT, t, i, h => by
    simp only [Tab.get] at h
    cases hb : Nat.beq j t with
    | true => rw [hb] at h; simp at h; subst h; rw [← Nat.eq_of_beq_eq_true hb]; exact hT.1
    | false => rw [hb] at h; simp at h; exact Tab.ok_get hT.2 h

/-- a function of Go's own text -/
def goFn (P : Program) (f : Nat) : Bool :=
  match P.funcs[f]? with
  | some fn => fn.body.isSome && !(fn.name == "runtime.NumGoroutine")
  | none => false
structure Ctx where
  P : Program
  T : Tab
  nf : Nat
  ok : T.ok P
  mixed : P.follows .mixedOrders = true
  fok : (List.range' 3 (nf - 3)).all (goFn P) = true

/-! ### environments -/
abbrev Env := List (Nat × Value)
def Env.find : Env → Nat → Option Value
  | [], _ => none
  | (j, v) :: r, i => bif Nat.beq j i then some v else Env.find r i
def Env.ev (ρ : Env) : Operand → Option Value
  | .tmp t => ρ.find t
  | .const v => some v
  | .global g => some (.pointer (some ⟨g, 0, none⟩))
  | .func f => some (.func (.func f) #[] #[])
def Env.evs (ρ : Env) : List Operand → Option (List Value)
  | [] => some []
  | x :: r => match ρ.ev x with
    | none => none
    | some v => match Env.evs ρ r with
      | none => none
      | some vs => some (v :: vs)

structure Fits (n : Nat) (ρ : Env) (a : Act) : Prop where
  size : a.tmps.size = n
  defers : a.defers = []
  get : ∀ i v, ρ.find i = some v → a.tmps.getD i undef = v

theorem Env.find_cons (j : Nat) (v : Value) (ρ : Env) (i : Nat) : Env.find ((j, v) :: ρ) i = if j = i then some v else ρ.find i := by
  simp only [Env.find]
  cases hb : Nat.beq j i with
  | true => rw [if_pos (Nat.eq_of_beq_eq_true hb)]; rfl
  | false => rw [if_neg (Nat.ne_of_beq_eq_false hb)]; rfl

theorem Fits.ev {n : Nat} {ρ : Env} {a : Act} (h : Fits n ρ a) {x : Operand} {v : Value} (hx : ρ.ev x = some v) : a.eval x = v := by
  cases x with
  | tmp t => exact h.get t v hx
  | const u => simpa [Env.ev, Act.eval] using hx
  | global g => simpa [Env.ev, Act.eval] using hx
  | func f => simpa [Env.ev, Act.eval] using hx

theorem Fits.evs {n : Nat} {ρ : Env} {a : Act} (h : Fits n ρ a) : ∀ {xs : List Operand} {vs : List Value}, ρ.evs xs = some vs → xs.map a.eval = vs
  | [], vs, hx => by simp [Env.evs] at hx; simp [hx]
  | x :: r, vs, hx => by
    simp only [Env.evs] at hx
    cases hv : ρ.ev x with
    | none => rw [hv] at hx; simp at hx
    | some v =>
      rw [hv] at hx
      cases hr : Env.evs ρ r with
      | none => rw [hr] at hx; simp at hx
      | some us => rw [hr] at hx; simp at hx; subst hx; simp [h.ev hv, h.evs hr]

def putE (ρ : Env) (dst : Option Tmp) (v : Value) : Env :=
  match dst with
  | some d => (d, v) :: ρ
  | none => ρ
/-- the slot lies in the frame -/
def inB (n : Nat) : Option Tmp → Bool
  | some d => Nat.blt d n
  | none => true

theorem Fits.put {n : Nat} {ρ : Env} {a : Act} (h : Fits n ρ a) {dst : Option Tmp} {v : Value} (hd : inB n dst = true) : Fits n (putE ρ dst v) (a.put dst v) := by
  cases dst with
  | none => exact h
  | some d =>
    have hlt : d < n := by
      have : d.blt n = true := hd
      exact Nat.le_of_ble_eq_true (by simpa [Nat.blt] using this)
    refine ⟨by simp [Act.put, h.size], h.defers, fun i u hi => ?_⟩
    rw [putE, Env.find_cons] at hi
    by_cases e : d = i
    · subst e
      rw [if_pos rfl] at hi
      simp at hi
      subst hi
      simp [Act.put, Array.getD, h.size, hlt]
    · rw [if_neg e] at hi
      have := h.get i u hi
      simp only [Act.put]
      rw [← this]
      simp [Array.getD_eq_getD_getElem?, Array.getElem?_setIfInBounds, e]

def Has (ρ : Env) : Env → Prop
  | [] => True
  | (i, v) :: l => ρ.find i = some v ∧ Has ρ l

theorem Has.find {ρ : Env} : ∀ {l : Env}, Has ρ l → ∀ {i v}, l.find i = some v → ρ.find i = some v
  | [], _, _, _, h => by simp [Env.find] at h
  | (j, u) :: l, hl, i, v, h => by
    rw [Env.find_cons] at h
    by_cases e : j = i
    · subst e; rw [if_pos rfl] at h; simp at h; subst h; exact hl.1
    · rw [if_neg e] at h; exact Has.find hl.2 h

theorem Fits.weaken {n : Nat} {ρ l : Env} {a : Act} (h : Fits n ρ a) (hl : Has ρ l) : Fits n l a := ⟨h.size, h.defers, fun i v hi => h.get i v (hl.find hi)⟩

def lift (n : Nat) (Q : Exit → Env → World → Prop) : Exit → Act → World → Prop := fun e a w => ∃ ρ, Fits n ρ a ∧ Q e ρ w

/-! ### what only computes -/
def intOp (op : BinOp) (k : IntKind) (m n : Int) : Option Value :=
  match op with
  | .add => some (.int k (k.wrap (m + n)))
  | .sub => some (.int k (k.wrap (m - n)))
  | .mul => some (.int k (k.wrap (m * n)))
  | .eql => some (.bool (m == n))
  | .neq => some (.bool (m != n))
  | .lss => some (.bool (decide (m < n)))
  | .leq => some (.bool (decide (m ≤ n)))
  | .gtr => some (.bool (decide (m > n)))
  | .geq => some (.bool (decide (m ≥ n)))
  | .and => some (.int k (k.wrap (BitVec.ofInt k.bits m &&& BitVec.ofInt k.bits n).toNat))
  | .or => some (.int k (k.wrap (BitVec.ofInt k.bits m ||| BitVec.ofInt k.bits n).toNat))
  | .xor => some (.int k (k.wrap (BitVec.ofInt k.bits m ^^^ BitVec.ofInt k.bits n).toNat))
  | .andNot => some (.int k (k.wrap (BitVec.ofInt k.bits m &&& ~~~(BitVec.ofInt k.bits n)).toNat))
  | _ => none
/-- a divisor, or a number of bits, that is a constant above 0 -/
def posC : Operand → Bool
  | .const (.int _ (.ofNat (Nat.succ _))) => true
  | _ => false
def divOp (op : BinOp) (k k' : IntKind) (m n : Int) (y : Operand) : Option Value :=
  match op with
  | .quo => bif posC y && decide (k = k') then some (.int k (k.wrap (m.tdiv n))) else none
  | .rem => bif posC y && decide (k = k') then some (.int k (m.tmod n)) else none
  | .shl => bif posC y then some (.int k (k.wrap (m * 2 ^ (min n.toNat k.bits)))) else none
  | .shr => bif posC y then some (.int k (m.fdiv (2 ^ (min n.toNat k.bits)))) else none
  | _ => none
def isDiv : BinOp → Bool
  | .quo | .rem | .shl | .shr => true
  | _ => false

def fieldOff (T : Tab) (s f : Nat) : Option Nat :=
  match T.get s with
  | some ⟨.struct fs, _, _, _⟩ => match fs[f]? with
    | some (off, Nat.succ _) => some off
    | _ => none
  | _ => none

/-- cells written over others, from a place on -/
def over (cs : List Value) (off : Nat) (vs : List Value) : List Value := cs.take off ++ (vs ++ cs.drop (off + vs.length))
def fillL (place : Nat → Option (Nat × Nat)) (cs : List Value) : List (Nat × Value) → Option (List Value)
  | [] => some cs
  | (i, v) :: rest => match place i with
    | none => none
    | some (off, size) => bif Nat.beq v.cells.toList.length size && Nat.ble (off + size) cs.length then fillL place (over cs off v.cells.toList) rest else none
def partsE (ρ : Env) : List (Nat × Operand) → Option (List (Nat × Value))
  | [] => some []
  | (i, x) :: r => match ρ.ev x with
    | none => none
    | some v => match partsE ρ r with
      | none => none
      | some vs => some ((i, v) :: vs)

theorem over_len {cs vs : List Value} {off : Nat} (h : off + vs.length ≤ cs.length) : (over cs off vs).length = cs.length := by simp [over]; omega
theorem foldl_over (off : Nat) : ∀ (vs : List Value) (k : Nat) (cs : List Value), off + k + vs.length ≤ cs.length →
    (vs.zipIdx k).foldl (fun (cs : Array Value) (p : Value × Nat) => cs.setIfInBounds (off + p.2) p.1) cs.toArray = (over cs (off + k) vs).toArray
  | [], k, cs, h => by simp [over]
  | v :: vs, k, cs, h => by
    simp only [List.zipIdx_cons, List.foldl_cons, List.setIfInBounds_toArray]
    have hl : off + (k + 1) + vs.length ≤ (cs.set (off + k) v).length := by simp at h ⊢; omega
    rw [foldl_over off vs (k + 1) _ hl]
    congr 1
    unfold over
    simp only [List.length_cons] at h
    have hk : off + k < cs.length := by omega
    rw [show off + (k + 1) = off + k + 1 by omega]
    have e1 : (cs.set (off + k) v).take (off + k + 1) = cs.take (off + k) ++ [v] := by
      rw [List.take_set, List.take_add_one, List.getElem?_eq_getElem hk, List.set_append]
      simp [List.length_take, Nat.min_eq_left (Nat.le_of_lt hk)]
    have e2 : (cs.set (off + k) v).drop (off + k + 1 + vs.length) = cs.drop (off + k + (vs.length + 1)) := by
      rw [List.drop_set_of_lt (by omega)]; congr 1; omega
    rw [e1, e2]
    simp
theorem fillL_fill {place : Nat → Option (Nat × Nat)} : ∀ {parts : List (Nat × Value)} {cs ds : List Value}, fillL place cs parts = some ds → Instr.fill place cs.toArray parts = some ds.toArray
  | [], cs, ds, h => by simp [fillL] at h; subst h; rfl
  | (i, v) :: rest, cs, ds, h => by
    simp only [fillL] at h
    unfold Instr.fill
    split at h
    · simp at h
    · rename_i off size hp
      cases hb : (Nat.beq v.cells.toList.length size && Nat.ble (off + size) cs.length) with
      | false => rw [hb] at h; simp at h
      | true =>
        rw [hb] at h
        simp only [cond_true] at h
        simp only [Bool.and_eq_true] at hb
        have h1 := Nat.eq_of_beq_eq_true hb.1
        have h2 := Nat.le_of_ble_eq_true hb.2
        have h1' : v.cells.size = size := by simpa using h1
        simp only [hp]
        rw [if_neg (by simp [h1']; omega)]
        have := foldl_over off v.cells.toList 0 cs (by rw [h1]; omega)
        rw [← fillL_fill h]
        congr 1
        rw [← Array.foldl_toList, Array.toList_zipIdx]
        simpa using this
theorem partsE_map {ρ : Env} {f : Operand → Value} (hf : ∀ x v, ρ.ev x = some v → f x = v) : ∀ {l : List (Nat × Operand)} {vs : List (Nat × Value)}, partsE ρ l = some vs → l.map (fun p => (p.1, f p.2)) = vs
  | [], vs, h => by simp [partsE] at h; simp [h]
  | (i, x) :: r, vs, h => by
    simp only [partsE] at h
    split at h
    · simp at h
    · rename_i v hv
      split at h
      · simp at h
      · rename_i us hus
        simp at h
        subst h
        simp [hf x v hv, partsE_map hf hus]

def pureOp (T : Tab) (ρ : Env) : Op → Option Value
  | .build t parts => match T.get t, partsE ρ parts.toList with
    | some ⟨.struct fs, _, z, _⟩, some vs => match fillL (fun i => fs[i]?) z.cells.toList vs with
      | some cs => some (.agg cs.toArray)
      | none => none
    | some ⟨.array _ e, _, z, _⟩, some vs => match T.get e with
      | some ie => match fillL (fun i => some (i * ie.size, ie.size)) z.cells.toList vs with
        | some cs => some (.agg cs.toArray)
        | none => none
      | none => none
    | _, _ => none
  | .move x => ρ.ev x
  | .assign x => ρ.ev x
  | .pick c a b => match ρ.ev c with
    | some (.bool true) => ρ.ev a
    | some (.bool false) => ρ.ev b
    | _ => none
  | .binOp op t x y _ => match ρ.ev x, ρ.ev y with
    | some (.int k m), some (.int k' n) => bif isDiv op then divOp op k k' m n y else bif decide (k = k') then intOp op k m n else none
    | some (.bool a), some (.bool b) => match T.get t, op with
      | some ⟨.bool, _, _, _⟩, .eql => some (.bool (a == b))
      | some ⟨.bool, _, _, _⟩, .neq => some (.bool (!(a == b)))
      | _, _ => none
    | _, _ => none
  | .convert s t x => match ρ.ev x, T.get s, T.get t with
    | some (.int _ m), some _, some ⟨.int k, _, _, _⟩ => some (.int k (k.wrap m))
    | _, _, _ => none
  | .unOp .not _ x => match ρ.ev x with
    | some (.bool b) => some (.bool !b)
    | _ => none
  | .unOp .neg _ x => match ρ.ev x with
    | some (.int k m) => some (.int k (k.wrap (0 - m)))
    | _ => none
  | .extract t i => match ρ.ev t with
    | some (.tuple vs) => vs[i]?
    | _ => none
  | .makeFunc fn first captured => match ρ.evs first.toList, ρ.evs captured.toList with
    | some a, some b => some (.func fn a.toArray b.toArray)
    | _, _ => none
  | .fieldAddr s x f => match ρ.ev x with
    | some (.pointer (some a)) => match fieldOff T s f with
      | some off => some (.pointer (some (a.add off)))
      | none => none
    | _ => none
  | .nilCheck x => match ρ.ev x with
    | some (.pointer (some a)) => some (.pointer (some a))
    | _ => none
  | .call { callee := .builtin .len, args := args, argTypes := ts } => match args.toList, ts.toList with
    | [x], [t] => match ρ.ev x, T.get t with
      | some (.slice _ n _), some ⟨.slice _, _, _, _⟩ => some (.int .i64 n)
      | _, _ => none
    | _, _ => none
  | .call { callee := .builtin .min, args := args, argTypes := _ } => match args.toList with
    | [x, y] => match ρ.ev x, ρ.ev y with
      | some (.int k m), some (.int _ n) => some (.int k (if n < m then n else m))
      | _, _ => none
    | _ => none
  | .call { callee := .builtin .max, args := args, argTypes := _ } => match args.toList with
    | [x, y] => match ρ.ev x, ρ.ev y with
      | some (.int k m), some (.int _ n) => some (.int k (if n > m then n else m))
      | _, _ => none
    | _ => none
  | _ => none

theorem fieldOff_run {G : Ctx} {s f off : Nat} (h : fieldOff G.T s f = some off) (a : Addr) (w : World) :
    (Instr.fieldAt s (.pointer (some a)) f).run G.P w = .ok (.pointer (some (a.add off))) w := by
  unfold fieldOff at h
  cases hT : G.T.get s with
  | none => rw [hT] at h; simp at h
  | some i =>
    rw [hT] at h
    obtain ⟨sh, sz, z, bz⟩ := i
    obtain ⟨hok, _⟩ := Tab.ok_get G.ok hT
    cases sh with
    | struct fs =>
      obtain ⟨F, hF, hmap⟩ := hok
      simp only at h
      cases hfs : fs[f]? with
      | none => rw [hfs] at h; simp at h
      | some p =>
        obtain ⟨o, z'⟩ := p
        rw [hfs] at h
        cases z' with
        | zero => simp at h
        | succ z' =>
          simp at h
          subst h
          have hg := congrArg (fun l => l[f]?) hmap
          simp only [List.getElem?_map, hfs, Option.map_some] at hg
          cases hFf : F.toList[f]? with
          | none => rw [hFf] at hg; simp at hg
          | some fd =>
            rw [hFf] at hg
            simp only [Option.map_some, Option.some.injEq, Prod.mk.injEq] at hg
            obtain ⟨ho, hs⟩ := hg
            have hFa : F[f]? = some fd := by simpa using hFf
            obtain ⟨ti, hti, hts⟩ := Option.map_eq_some_iff.1 hs
            simp [Instr.fieldAt, underlying, hF, hFa, Instr.sureAddr, fieldPlace, sizeOf, typeInfo, hti, hts, ho]
    | _ => simp at h

theorem run_value {G : Ctx} {e : Sem Value} {v : Value} {w w' : World} (h : e.run G.P w = .ok v w') : (do pure (.value (← e)) : Sem Next).run G.P w = .ok (.value v) w' := by
  simp [Sem.run_bind, h, Result.andThen]

theorem intOp_run {P : Program} {op : BinOp} {k : IntKind} {m n : Int} {v : Value} (h : intOp op k m n = some v) (t : TypeId) (w : World) :
    (binOp op t (.int k m) (.int k n)).run P w = .ok v w := by
  cases op <;> simp [intOp] at h <;> subst h <;> simp [binOp, Op.intArith, Op.intCmp, Op.intBits]

theorem posC_run {ρ : Env} {y : Operand} {k : IntKind} {n : Int} (h : posC y = true) (hy : ρ.ev y = some (.int k n)) : 0 < n := by
  unfold posC at h
  split at h
  · simp only [Env.ev, Option.some.injEq, Value.int.injEq] at hy
    obtain ⟨_, rfl⟩ := hy
    exact Int.ofNat_lt.2 (Nat.succ_pos _)
  · cases h
theorem divOp_run {P : Program} {ρ : Env} {op : BinOp} {k k' : IntKind} {m n : Int} {y : Operand} {v : Value} (hy : ρ.ev y = some (.int k' n)) (h : divOp op k k' m n y = some v) (t : TypeId) (w : World) :
    (binOp op t (.int k m) (.int k' n)).run P w = .ok v w := by
  cases op <;> simp only [divOp] at h <;> try simp at h
  all_goals
    cases hp : posC y with
    | false => rw [hp] at h; simp at h
    | true =>
      have hn := posC_run hp hy
      rw [hp] at h
      simp at h
      first
        | (have hk : k = k' := by
             cases hd : decide (k = k') with
             | true => exact of_decide_eq_true hd
             | false => rw [hd] at h; simp at h
           simp [hk] at h
           subst h
           subst hk
           have h0 : n ≠ 0 := by omega
           simp [binOp, Op.intDiv, h0])
        | (subst h
           have h0 : ¬ n < 0 := by omega
           simp [binOp, Op.shift, h0])
theorem shape_under {G : Ctx} {t : Nat} {i : TI} (h : G.T.get t = some i) : ∃ d, G.P.underlying t = some d := by
  obtain ⟨hok, _⟩ := Tab.ok_get G.ok h
  obtain ⟨sh, sz, z, bz⟩ := i
  cases sh <;> simp only [Sh.ok] at hok
  case struct fs => obtain ⟨F, hF, _⟩ := hok; exact ⟨_, hF⟩
  case other => obtain ⟨d, hd, _⟩ := hok; exact ⟨d, hd⟩
  all_goals exact ⟨_, hok⟩
theorem run_boolEq {G : Ctx} {t : Nat} {sz : Nat} {z : Value} {bz : Nat} (h : G.T.get t = some ⟨.bool, sz, z, bz⟩) (a b : Bool) (w : World) : (Op.equal t (.bool a) (.bool b)).run G.P w = .ok (a == b) w := by
  have hu : G.P.underlying t = some .bool := (Tab.ok_get G.ok h).1
  rw [Op.equal, show Op.maxDepth = 9999 + 1 from rfl, Op.equalIn]
  simp [run_underlying hu, Sem.run_bind]

theorem eqGuard_int {P : Program} (op : BinOp) (t : TypeId) (x y : Operand) (k k' : IntKind) (m n : Int) (w : World) : (eqGuard op t x y (.int k m) (.int k' n)).run P w = .ok () w := by
  cases op <;> simp [eqGuard]

theorem pureOp_sound {G : Ctx} {n : Nat} {ρ : Env} {a : Act} (hf : Fits n ρ a) {o : Oper} {v : Value} (h : pureOp G.T ρ o.op = some v) (w : World) :
    (execOp a.eval o).run G.P w = .ok (.value v) w := by
  obtain ⟨dst, op, type, pos, after, guard⟩ := o
  cases op with
  | move x => simp [execOp, hf.ev (show ρ.ev x = some v from h)]
  | assign x => simp [execOp, hf.ev (show ρ.ev x = some v from h)]
  | pick c x y =>
    simp only [pureOp] at h
    split at h
    · rename_i hc; simp [execOp, hf.ev hc, asBool, hf.ev h]
    · rename_i hc; simp [execOp, hf.ev hc, asBool, hf.ev h]
    · simp at h
  | binOp op t x y yt =>
    simp only [pureOp] at h
    split at h
    · rename_i k m k' m' hx hy
      cases hd : isDiv op with
      | true =>
        rw [hd] at h
        have h2 := divOp_run (P := G.P) hy h t w
        simp only [execOp, hf.ev hx, hf.ev hy]
        simp [Sem.run_bind, eqGuard_int, h2, Result.andThen]
      | false =>
      rw [hd] at h
      simp only [cond_false] at h
      cases hk : decide (k = k') with
      | false => rw [hk] at h; simp at h
      | true =>
        rw [hk] at h
        have hk' := of_decide_eq_true hk
        subst hk'
        simp only [cond_true] at h
        have h2 := intOp_run (P := G.P) h t w
        simp only [execOp, hf.ev hx, hf.ev hy]
        simp [Sem.run_bind, eqGuard_int, h2, Result.andThen]
    · rename_i p q hx hy
      have hg : ∀ op', (eqGuard op' t x y (.bool p) (.bool q)).run G.P w = .ok () w := fun op' => by cases op' <;> simp [eqGuard]
      split at h
      · rename_i hT
        simp at h; subst h
        simp only [execOp, hf.ev hx, hf.ev hy]
        simp [Sem.run_bind, hg, binOp, run_boolEq hT, Result.andThen]
      · rename_i hT
        simp at h; subst h
        simp only [execOp, hf.ev hx, hf.ev hy]
        simp [Sem.run_bind, hg, binOp, run_boolEq hT, Result.andThen]
      · simp at h
    · simp at h
  | convert s t x =>
    simp only [pureOp] at h
    split at h
    · rename_i k' m i k sz z bz hx hs ht
      simp at h; subst h
      obtain ⟨d, hd⟩ := shape_under hs
      have hu : G.P.underlying t = some (.int k) := (Tab.ok_get G.ok ht).1
      simp only [execOp, hf.ev hx]
      simp [Go.convert, run_underlying hd, run_underlying hu, Sem.run_bind, Conv.intToInt, Result.andThen]
    · simp at h
  | unOp op t x =>
    cases op with
    | not =>
      simp only [pureOp] at h
      split at h
      · rename_i b hx; simp at h; subst h; simp [execOp, hf.ev hx, Op.unary]
      · simp at h
    | neg =>
      simp only [pureOp] at h
      split at h
      · rename_i k m hx; simp at h; subst h; simp [execOp, hf.ev hx, Op.unary, Op.intArith]
      · simp at h
    | _ => simp [pureOp] at h
  | build t parts =>
    simp only [pureOp] at h
    have hpm : ∀ {vs}, partsE ρ parts.toList = some vs → (parts.map fun (x : Nat × Operand) => (x.1, a.eval x.2)).toList = vs := fun h => by
      rw [Array.toList_map]; exact partsE_map (fun x v hx => hf.ev hx) h
    split at h
    · rename_i fs sz z bz vs hT hp
      split at h
      · rename_i cs hcs
        simp at h
        subst h
        obtain ⟨hok, hinfo⟩ := Tab.ok_get G.ok hT
        obtain ⟨F, hF, hmap⟩ := hok
        obtain ⟨ti, hti, hts⟩ := Option.map_eq_some_iff.1 hinfo
        simp only [Prod.mk.injEq] at hts
        have hfill := fillL_fill hcs
        have hpl : ∀ (w : World), (F.mapM (m := Sem) fun f => do pure (f.offset, ← sizeOf f.type)).run G.P w = .ok fs.toArray w := by
          intro w
          have aux : ∀ (l : List Field) (r : List (Nat × Nat)), l.map (fun f => (f.offset, (G.P.info? f.type).map (·.size))) = r.map (fun p => (p.1, some p.2)) →
              (l.mapM (m := Sem) fun f => do pure (f.offset, ← sizeOf f.type)).run G.P w = .ok r w := by
            intro l
            induction l with
            | nil => intro r h; cases r <;> simp at h; simp
            | cons f l ih =>
              intro r h
              cases r with
              | nil => simp at h
              | cons p r =>
                simp only [List.map_cons, List.cons.injEq, Prod.mk.injEq] at h
                obtain ⟨⟨h1, h2⟩, h3⟩ := h
                obtain ⟨ti', hti', hts'⟩ := Option.map_eq_some_iff.1 h2
                have hthis := ih r h3
                have hone : (do pure (f.offset, ← sizeOf f.type) : Sem (Nat × Nat)).run G.P w = .ok p w := by simp [sizeOf, typeInfo, hti', h1, hts']
                rw [List.mapM_cons, Sem.run_bind, hone]
                simp only [Result.andThen_ok, Sem.run_bind, hthis, Sem.run_pure]
          have hthis := aux F.toList fs hmap
          rw [← Array.toArray_toList (xs := F), List.mapM_toArray]
          rw [map_eq_pure_bind, Sem.run_bind, hthis]
          rfl
        have hz : (zeroValue t).run G.P w = .ok z w := by simp [zeroValue, typeInfo, hti, hts.2.1]
        rw [show execOp a.eval ⟨dst, .build t parts, type, pos, after, guard⟩ = (do pure (.value (← Instr.build t (parts.map fun (x : Nat × Operand) => (x.1, a.eval x.2)))) : Sem Next) by simp [execOp]]
        refine run_value ?_
        unfold Instr.build
        simp only [Sem.run_bind, hz, Result.andThen_ok, run_underlying hF, hpl, hpm hp]
        have hfill' : Instr.fill (fun x => fs[x]?) z.cells vs = some cs.toArray := by simpa using hfill
        simp [hfill']
      · simp at h
    · rename_i m e sz z bz vs hT hp
      split at h
      · rename_i ie hTe
        split at h
        · rename_i cs hcs
          simp at h
          subst h
          obtain ⟨hok, hinfo⟩ := Tab.ok_get G.ok hT
          obtain ⟨ti, hti, hts⟩ := Option.map_eq_some_iff.1 hinfo
          simp only [Prod.mk.injEq] at hts
          obtain ⟨_, hinfo'⟩ := Tab.ok_get G.ok hTe
          obtain ⟨ti', hti', hts'⟩ := Option.map_eq_some_iff.1 hinfo'
          simp only [Prod.mk.injEq] at hts'
          have hfill := fillL_fill hcs
          have hz : (zeroValue t).run G.P w = .ok z w := by simp [zeroValue, typeInfo, hti, hts.2.1]
          have hs : (sizeOf e).run G.P w = .ok ie.size w := by simp [sizeOf, typeInfo, hti', hts'.1]
          have hF : G.P.underlying t = some (.array m e) := hok
          rw [show execOp a.eval ⟨dst, .build t parts, type, pos, after, guard⟩ = (do pure (.value (← Instr.build t (parts.map fun (x : Nat × Operand) => (x.1, a.eval x.2)))) : Sem Next) by simp [execOp]]
          refine run_value ?_
          unfold Instr.build
          simp only [Sem.run_bind, hz, Result.andThen_ok, run_underlying hF, hs, hpm hp]
          have hfill' : Instr.fill (fun i => some (i * ie.size, ie.size)) z.cells vs = some cs.toArray := by simpa using hfill
          simp [hfill']
        · simp at h
      · simp at h
    · simp at h
  | extract t i =>
    simp only [pureOp] at h
    split at h
    · rename_i vs hx; simp [execOp, hf.ev hx, Instr.extract, h]
    · simp at h
  | makeFunc fn first captured =>
    simp only [pureOp] at h
    split at h
    · rename_i x y hx hy
      simp at h
      subst h
      have h1 := hf.evs hx
      have h2 := hf.evs hy
      have e1 : first.map a.eval = x.toArray := by apply Array.ext'; simp [h1]
      have e2 : captured.map a.eval = y.toArray := by apply Array.ext'; simp [h2]
      simp [execOp, Instr.makeFunc, e1, e2]
    · simp at h
  | fieldAddr s x f =>
    simp only [pureOp] at h
    split at h
    · rename_i ad hx
      split at h
      · rename_i off ho
        simp at h
        subst h
        simp only [execOp, hf.ev hx]
        exact run_value (fieldOff_run ho ad w)
      · simp at h
    · simp at h
  | nilCheck x =>
    simp only [pureOp] at h
    split at h
    · rename_i ad hx; simp at h; subst h; simp [execOp, hf.ev hx]
    · simp at h
  | call c =>
    obtain ⟨cal, args, ts⟩ := c
    cases cal with
    | builtin b =>
      cases b with
      | len =>
        simp only [pureOp] at h
        split at h
        · rename_i x t ha ht
          split at h
          · rename_i ad ln cp e sz z bz hx hT
            simp at h
            subst h
            obtain ⟨hok, _⟩ := Tab.ok_get G.ok hT
            have hargs : args = #[x] := by apply Array.ext'; simp [ha]
            have hts : ts = #[t] := by apply Array.ext'; simp [ht]
            subst hargs; subst hts
            have : (Builtin.len_ #[t] type #[.slice ad ln cp]).run G.P w = .ok (.int .i64 ln) w := by
              have h3 : G.P.underlying t = some (.slice (G.P.elem t)) := by
                have h4 : G.P.underlying t = some (.slice e) := hok
                have h5 : G.P.elem t = e := by simp [Program.elem, h4]
                rw [h5]; exact h4
              exact run_len_slice w t type ad ln cp h3
            simp only [execOp, resolve, List.map_toArray, List.map_cons, List.map_nil, hf.ev hx]
            simp [invoke, builtin, Sem.run_bind, this, Result.andThen]
          · simp at h
        · simp at h
      | min =>
        simp only [pureOp] at h
        split at h
        · rename_i x y ha
          split at h
          · rename_i k m k' m' hx hy
            simp at h
            subst h
            have hargs : args = #[x, y] := by apply Array.ext'; simp [ha]
            subst hargs
            simp only [execOp, resolve, List.map_toArray, List.map_cons, List.map_nil, hf.ev hx, hf.ev hy]
            simp [invoke, builtin, Builtin.min_, Builtin.min2, Result.andThen]
          · simp at h
        · simp at h
      | max =>
        simp only [pureOp] at h
        split at h
        · rename_i x y ha
          split at h
          · rename_i k m k' m' hx hy
            simp at h
            subst h
            have hargs : args = #[x, y] := by apply Array.ext'; simp [ha]
            subst hargs
            simp only [execOp, resolve, List.map_toArray, List.map_cons, List.map_nil, hf.ev hx, hf.ev hy]
            simp [invoke, builtin, Builtin.max_, Builtin.max2, Result.andThen]
          · simp at h
        · simp at h
      | _ => simp [pureOp] at h
    | _ => simp [pureOp] at h
  | _ => simp [pureOp] at h

end Go.Vc
end

section
/- The judgement M over a list of items, and 'runM', which goes through what only computes. -/
set_option linter.unusedVariables false
set_option linter.unusedSimpArgs false
namespace Go.Vc
open Go.RowKit

abbrev QT := Exit → Env → World → Prop
inductive It where
  | code (c : Code)
  | ops (all : Array Oper) (l : List Oper)
  | blk (id : Nat)
  | stop (J : Env → World → Prop)

def CW (G : Ctx) (n : Nat) (c : Code) (Q : QT) (ρ : Env) (w : World) : Prop := ∀ a, Fits n ρ a → c.wp G.P (lift n Q) a w
def LW (G : Ctx) (n : Nat) (all : Array Oper) (l : List Oper) (Q : QT) (ρ : Env) (w : World) : Prop := ∀ a, Fits n ρ a → wpList G.P all (lift n Q) l a w

def post (G : Ctx) (n : Nat) : List It → QT → QT
  | [], Q => Q
  | .code c :: k, Q => fun e ρ w => match e with
    | .normal => CW G n c (post G n k Q) ρ w
    | e => post G n k Q e ρ w
  | .ops all l :: k, Q => fun e ρ w => match e with
    | .normal => LW G n all l (post G n k Q) ρ w
    | e => post G n k Q e ρ w
  | .blk id :: k, Q => fun e ρ w => match e with
    | .exit i => if i = id then post G n k Q .normal ρ w else post G n k Q (.exit i) ρ w
    | e => post G n k Q e ρ w
  | .stop J :: k, Q => fun e ρ w => match e with
    | .normal => J ρ w
    | e => post G n k Q e ρ w

structure M (G : Ctx) (n : Nat) (its : List It) (Q : QT) (ρ : Env) (w : World) : Prop where
  mk :: (out : post G n its Q .normal ρ w)

def popTo (id : Nat) : List It → Option (List It)
  | [] => none
  | .blk i :: k => bif Nat.beq i id then some k else popTo id k
  | _ :: k => popTo id k

def memN (d : Nat) : List Nat → Bool
  | [] => false
  | x :: r => bif Nat.beq x d then true else memN d r
def stopAt (gs : List Nat) : Option Nat → Bool
  | some d => memN d gs
  | none => false
def wantedE (ρ : Env) (all : Array Oper) (o : Oper) : Option Bool :=
  match o.guard with
  | none => some true
  | some (j, want) => match all[j]? with
    | some oj => match oj.dst with
      | some d => match ρ.find d with
        | some (.bool b) => some (b == want)
        | some (.tuple vs) => bif Nat.beq vs.size 0 then some false else none
        | _ => none
      | none => none
    | none => none
def step1 (T : Tab) (n : Nat) (ρ : Env) (o : Oper) : Option Env :=
  match pureOp T ρ o.op with
  | some v => match o.dst with
    | some d => bif Nat.blt d n then some ((d, v) :: ρ) else none
    | none => some ρ
  | none => none

inductive RunR where
  | ok (ρ : Env) (its : List It)
  | bad

def runM (T : Tab) (n : Nat) (gs : List Nat) : Nat → Env → List It → RunR
  | 0, ρ, k => .ok ρ k
  | f + 1, ρ, [] => .ok ρ []
  | f + 1, ρ, .code c :: k => match c with
    | .skip => runM T n gs f ρ k
    | .seq a b => runM T n gs f ρ (.code a :: .code b :: k)
    | .block id b => runM T n gs f ρ (.code b :: .blk id :: k)
    | .region id all false => runM T n gs f ρ (.ops all all.toList :: k)
    | .exit id => match popTo id k with
      | some k' => runM T n gs f ρ k'
      | none => .ok ρ (.code (.exit id) :: k)
    | c => .ok ρ (.code c :: k)
  | f + 1, ρ, .ops all [] :: k => runM T n gs f ρ k
  | f + 1, ρ, .ops all (o :: l) :: k => match wantedE ρ all o with
    | some true => match step1 T n ρ o with
      | some ρ' => bif stopAt gs o.dst then .ok ρ' (.ops all l :: k) else runM T n gs f ρ' (.ops all l :: k)
      | none => .ok ρ (.ops all (o :: l) :: k)
    | some false => bif inB n o.dst then runM T n gs f (putE ρ o.dst undef) (.ops all l :: k) else .bad
    | none => .ok ρ (.ops all (o :: l) :: k)
  | f + 1, ρ, .blk _ :: k => runM T n gs f ρ k
  | f + 1, ρ, .stop J :: k => .ok ρ (.stop J :: k)

section
variable {G : Ctx} {n : Nat} {Q : QT} {ρ : Env} {w : World}

theorem post_nn {its : List It} {e : Exit} (he : e ≠ .normal) (c : Code) : post G n (.code c :: its) Q e = post G n its Q e := by
  cases e <;> simp_all [post]

theorem popTo_post : ∀ {k k' : List It} {id : Nat}, popTo id k = some k' → post G n k Q (.exit id) = post G n k' Q .normal
  | [], _, _, h => by simp [popTo] at h
  | .blk i :: k, k', id, h => by
    simp only [popTo] at h
    funext ρ w
    cases hb : Nat.beq i id with
    | true =>
      rw [hb] at h; simp at h; subst h
      have := Nat.eq_of_beq_eq_true hb
      simp [post, this]
    | false =>
      rw [hb] at h; simp at h
      have := Nat.ne_of_beq_eq_false hb
      simp only [post]
      rw [if_neg (by omega), popTo_post h]
  | .code c :: k, k', id, h => by
    simp only [popTo] at h
    funext ρ w
    simp only [post]
    rw [popTo_post h]
  | .ops all l :: k, k', id, h => by
    simp only [popTo] at h
    funext ρ w
    simp only [post]
    rw [popTo_post h]
  | .stop J :: k, k', id, h => by
    simp only [popTo] at h
    funext ρ w
    simp only [post]
    rw [popTo_post h]

theorem CW.seq {a b : Code} {k : List It} (h : CW G n a (post G n (.code b :: k) Q) ρ w) : CW G n (.seq a b) (post G n k Q) ρ w := by
  intro ac hf
  refine wp_seq (Code.wp_mono ?_ (h ac hf))
  intro e a' w' ⟨ρ', hf', hq⟩
  cases e with
  | normal => exact hq a' hf'
  | _ => exact ⟨ρ', hf', hq⟩

theorem CW.block {id : Nat} {b : Code} {k : List It} (h : CW G n b (post G n (.blk id :: k) Q) ρ w) : CW G n (.block id b) (post G n k Q) ρ w := by
  intro ac hf
  refine wp_block (Code.wp_mono ?_ (h ac hf))
  intro e a' w' ⟨ρ', hf', hq⟩
  cases e with
  | exit i =>
    simp only [Exit.inBlock]
    by_cases hi : i = id
    · rw [if_pos hi]
      simp only [post, if_pos hi] at hq
      exact ⟨ρ', hf', hq⟩
    · rw [if_neg hi]
      simp only [post, if_neg hi] at hq
      exact ⟨ρ', hf', hq⟩
  | _ => exact ⟨ρ', hf', hq⟩

theorem CW.region {id : Nat} {all : Array Oper} (h : LW G n all all.toList Q ρ w) : CW G n (.region id all false) Q ρ w := by
  intro ac hf
  exact wp_region_list (h ac hf)

theorem LW.nil {all : Array Oper} (h : Q .normal ρ w) : LW G n all [] Q ρ w := fun a hf => ⟨ρ, hf, h⟩

theorem wantedE_sound {a : Act} (hf : Fits n ρ a) {all : Array Oper} {o : Oper} {b : Bool} (h : wantedE ρ all o = some b) : Region.wanted o (yielded all a.tmps) = b := by
  unfold wantedE at h
  unfold Region.wanted
  cases hg : o.guard with
  | none => rw [hg] at h; simp at h; simp [h]
  | some p =>
    obtain ⟨j, want⟩ := p
    rw [hg] at h
    simp only at h
    cases hj : all[j]? with
    | none => rw [hj] at h; simp at h
    | some oj =>
      rw [hj] at h
      simp only at h
      cases hd : oj.dst with
      | none => rw [hd] at h; simp at h
      | some d =>
        rw [hd] at h
        simp only at h
        cases hv : ρ.find d with
        | none => rw [hv] at h; simp at h
        | some v =>
          rw [hv] at h
          cases v with
          | bool c =>
            simp only [Option.some.injEq] at h
            have h1 := hf.get d _ hv
            have h2 : a.tmps[d]? = some (.bool c) := by
              rw [Array.getD_eq_getD_getElem?] at h1
              cases h3 : a.tmps[d]? with
              | none => rw [h3] at h1; simp [undef] at h1
              | some u => rw [h3] at h1; simp at h1; rw [h1]
            have h4 : yielded all a.tmps j = some c := by simp [yielded, hj, hd, h2]
            simp only [h4, ← h]
            cases c <;> cases want <;> rfl
          | tuple vs =>
            cases hs : Nat.beq vs.size 0 with
            | false => simp [hs] at h
            | true =>
              simp [hs] at h
              subst h
              have h1 := hf.get d _ hv
              have h4 : yielded all a.tmps j = none := by
                rw [Array.getD_eq_getD_getElem?] at h1
                cases h3 : a.tmps[d]? with
                | none => simp [yielded, hj, hd, h3]
                | some u => rw [h3] at h1; simp at h1; simp [yielded, hj, hd, h3, h1]
              simp [h4]
          | _ => simp at h

theorem LW.step {all : Array Oper} {o : Oper} {l : List Oper} (hw : wantedE ρ all o = some true)
    (h : ∀ a, Fits n ρ a → ∃ v w', (execOp a.eval o).run G.P w = .ok (.value v) w' ∧ ∃ ρ', Fits n ρ' (a.put o.dst v) ∧ LW G n all l Q ρ' w') : LW G n all (o :: l) Q ρ w := by
  intro a hf
  unfold wpList
  rw [if_pos (wantedE_sound hf hw)]
  obtain ⟨v, w', hr, ρ', hf', hl⟩ := h a hf
  refine .inl ?_
  unfold Oper.wp
  rw [hr]
  exact hl _ hf'

theorem LW.unwanted {all : Array Oper} {o : Oper} {l : List Oper} (hw : wantedE ρ all o = some false) (hb : inB n o.dst = true)
    (h : LW G n all l Q (putE ρ o.dst undef) w) : LW G n all (o :: l) Q ρ w := by
  intro a hf
  unfold wpList
  rw [if_neg (by rw [wantedE_sound hf hw]; simp)]
  exact h _ (hf.put hb)

theorem LW.pure {all : Array Oper} {o : Oper} {l : List Oper} {ρ' : Env} (hw : wantedE ρ all o = some true) (hs : step1 G.T n ρ o = some ρ')
    (h : LW G n all l Q ρ' w) : LW G n all (o :: l) Q ρ w := by
  unfold step1 at hs
  cases hp : pureOp G.T ρ o.op with
  | none => rw [hp] at hs; simp at hs
  | some v =>
    rw [hp] at hs
    simp only at hs
    cases hd : o.dst with
    | none =>
      rw [hd] at hs; simp at hs; subst hs
      exact LW.step hw fun a hf => ⟨v, w, pureOp_sound hf hp w, _, by rw [hd]; exact hf, h⟩
    | some d =>
      rw [hd] at hs
      simp only at hs
      cases hb : Nat.blt d n with
      | false => rw [hb] at hs; simp at hs
      | true =>
        rw [hb] at hs
        simp at hs
        subst hs
        exact LW.step hw fun a hf => ⟨v, w, pureOp_sound hf hp w, _, by rw [hd]; exact hf.put (dst := some d) hb, h⟩

theorem runM_sound (gs : List Nat) : ∀ (f : Nat) (ρ ρ' : Env) (its its' : List It), runM G.T n gs f ρ its = .ok ρ' its' → post G n its' Q .normal ρ' w → post G n its Q .normal ρ w
  | 0, ρ, ρ', its, its', h, hp => by simp [runM] at h; obtain ⟨rfl, rfl⟩ := h; exact hp
  | f + 1, ρ, ρ', [], its', h, hp => by simp [runM] at h; obtain ⟨rfl, rfl⟩ := h; exact hp
  | f + 1, ρ, ρ', .code c :: k, its', h, hp => by
    cases c with
    | skip =>
      have h' := runM_sound gs f ρ ρ' k its' (by simpa [runM] using h) hp
      exact fun a hf => wp_skip ⟨ρ, hf, h'⟩
    | seq a b =>
      have h' := runM_sound gs f ρ ρ' (.code a :: .code b :: k) its' (by simpa [runM] using h) hp
      exact CW.seq h'
    | block id b =>
      have h' := runM_sound gs f ρ ρ' (.code b :: .blk id :: k) its' (by simpa [runM] using h) hp
      exact CW.block h'
    | region id all d =>
      cases d with
      | false =>
        have h' := runM_sound gs f ρ ρ' (.ops all all.toList :: k) its' (by simpa [runM] using h) hp
        exact CW.region h'
      | true => simp [runM] at h; obtain ⟨rfl, rfl⟩ := h; exact hp
    | exit id =>
      cases hq : popTo id k with
      | none => simp [runM, hq] at h; obtain ⟨rfl, rfl⟩ := h; exact hp
      | some k' =>
        have h' := runM_sound gs f ρ ρ' k' its' (by simpa [runM, hq] using h) hp
        refine fun a hf => wp_exit ⟨ρ, hf, ?_⟩
        rw [popTo_post hq]
        exact h'
    | _ => simp [runM] at h; obtain ⟨rfl, rfl⟩ := h; exact hp
  | f + 1, ρ, ρ', .ops all [] :: k, its', h, hp => by
    have h' := runM_sound gs f ρ ρ' k its' (by simpa [runM] using h) hp
    exact LW.nil h'
  | f + 1, ρ, ρ', .ops all (o :: l) :: k, its', h, hp => by
    simp only [runM] at h
    split at h
    · rename_i hw
      split at h
      · rename_i ρ'' hs
        cases hb : stopAt gs o.dst with
        | true =>
          rw [hb] at h
          simp at h; obtain ⟨rfl, rfl⟩ := h
          exact LW.pure hw hs hp
        | false =>
          rw [hb] at h
          exact LW.pure hw hs (runM_sound gs f ρ'' ρ' (.ops all l :: k) its' h hp)
      · simp at h; obtain ⟨rfl, rfl⟩ := h; exact hp
    · rename_i hw
      cases hb : inB n o.dst with
      | true =>
        rw [hb] at h
        exact LW.unwanted hw hb (runM_sound gs f _ ρ' (.ops all l :: k) its' h hp)
      | false => rw [hb] at h; simp at h
    · simp at h; obtain ⟨rfl, rfl⟩ := h; exact hp
  | f + 1, ρ, ρ', .blk id :: k, its', h, hp => by
    have h' := runM_sound gs f ρ ρ' k its' (by simpa [runM] using h) hp
    exact h'
  | f + 1, ρ, ρ', .stop J :: k, its', h, hp => by simp [runM] at h; obtain ⟨rfl, rfl⟩ := h; exact hp

/-- through what only computes -/
theorem M.at_ (gs : List Nat) {its its' : List It} {ρ' : Env} (hr : runM G.T n gs 4000 ρ its = .ok ρ' its') (h : M G n its' Q ρ' w) : M G n its Q ρ w :=
  ⟨runM_sound gs 4000 ρ ρ' its its' hr h.out⟩

theorem M.run {its its' : List It} {ρ' : Env} (hr : runM G.T n [] 4000 ρ its = .ok ρ' its') (h : M G n its' Q ρ' w) : M G n its Q ρ w := M.at_ [] hr h
theorem M.done (h : Q .normal ρ w) : M G n [] Q ρ w := ⟨h⟩
theorem M.end_ {J : Env → World → Prop} {k : List It} (h : J ρ w) : M G n (.stop J :: k) Q ρ w := ⟨h⟩

theorem post_ret : ∀ {k : List It}, post G n k Q .ret = Q .ret
  | [] => rfl
  | .code _ :: k => by funext ρ w; simp only [post]; rw [post_ret]
  | .ops _ _ :: k => by funext ρ w; simp only [post]; rw [post_ret]
  | .blk _ :: k => by funext ρ w; simp only [post]; rw [post_ret]
  | .stop _ :: k => by funext ρ w; simp only [post]; rw [post_ret]

theorem M.ret {k : List It} (h : Q .ret ρ w) : M G n (.code .ret :: k) Q ρ w :=
  ⟨fun a hf => wp_ret ⟨ρ, hf, by rw [post_ret]; exact h⟩⟩

theorem M.cond {c : Operand} {x y : Code} {k : List It} {b : Bool} (hc : ρ.ev c = some (.bool b)) (ht : b = true → M G n (.code x :: k) Q ρ w)
    (hf : b = false → M G n (.code y :: k) Q ρ w) : M G n (.code (.cond c x y) :: k) Q ρ w := by
  refine ⟨fun a hfit => wp_cond (hfit.ev hc) ?_⟩
  cases b with
  | true => exact (ht rfl).out a hfit
  | false => exact (hf rfl).out a hfit
theorem M.condT {c : Operand} {x y : Code} {k : List It} {b : Bool} (hc : ρ.ev c = some (.bool b)) (hb : b = true) (ht : M G n (.code x :: k) Q ρ w) : M G n (.code (.cond c x y) :: k) Q ρ w :=
  M.cond hc (fun _ => ht) (fun h => by rw [hb] at h; cases h)
theorem M.condF {c : Operand} {x y : Code} {k : List It} {b : Bool} (hc : ρ.ev c = some (.bool b)) (hb : b = false) (ht : M G n (.code y :: k) Q ρ w) : M G n (.code (.cond c x y) :: k) Q ρ w :=
  M.cond hc (fun h => by rw [hb] at h; cases h) (fun _ => ht)

end
end Go.Vc
end

section
/- Worlds (grownBy), blocks, what a value reads as ('Rp'), slices that are read ('Sl') and owned ('Own'). -/
set_option linter.unusedVariables false
set_option linter.unusedSimpArgs false
namespace Go.Vc
open Go.RowKit

/-! ### worlds -/
theorem gr_refl (w : World) (r : Option Nat) : w.grownBy w r := ⟨rfl, rfl, rfl, Nat.le_refl _, fun _ _ _ => rfl⟩
theorem gr_none {w w' : World} (h : Below w.heap.size w w') : w.grownBy w' none := ⟨h.os, h.tape, h.output, h.size, fun k hk _ => h.block k hk⟩
theorem gr_below {w w' : World} (h : w.grownBy w' none) : Below w.heap.size w w' := ⟨h.os, h.tape, h.output, h.size, fun k hk => h.block k hk (by simp)⟩
theorem gr_trans {w w1 w2 : World} (h : w.grownBy w1 none) (k : w1.grownBy w2 none) : w.grownBy w2 none :=
  ⟨k.os.trans h.os, k.tape.trans h.tape, k.output.trans h.output, Nat.le_trans h.size k.size, fun i hi hr => (k.block i (Nat.lt_of_lt_of_le hi h.size) hr).trans (h.block i hi hr)⟩
theorem gr_alloc (w : World) (o : Obj) : w.grownBy (w.alloc o) none := ⟨rfl, rfl, rfl, by simp, fun k hk _ => Below.heap_alloc w o k hk⟩
theorem gr_drewN (w : World) (m : Nat) : w.grownBy (w.drewN m) none := ⟨rfl, rfl, rfl, Nat.le_refl _, fun _ _ _ => rfl⟩
/-- below B, behind a step -/
theorem be_gr {B : Nat} {w0 w w' : World} {r : Option Nat} (h : Below B w0 w) (g : w.grownBy w' r) (hB : B ≤ w.heap.size) (hr : ∀ k, r = some k → B ≤ k) : Below B w0 w' := h.grown g hB hr
theorem be_gr0 {w0 w w' : World} (h : Below w0.heap.size w0 w) (g : w.grownBy w' none) : Below w0.heap.size w0 w' := h.grown g h.size (by simp)
theorem be_gr1 {w0 w w' : World} {k : Nat} (h : Below w0.heap.size w0 w) (g : w.grownBy w' (some k)) (hk : w0.heap.size ≤ k) : Below w0.heap.size w0 w' := h.grown g h.size (by rintro _ ⟨⟩; exact hk)

def Blk (w : World) (g : Nat) (cs : List Value) (t : Nat) : Prop := w.heap[g]? = some (.cells cs.toArray t (0, 0))
theorem Blk.lt {w : World} {g : Nat} {cs : List Value} {t : Nat} (h : Blk w g cs t) : g < w.heap.size := (Array.getElem?_eq_some_iff.1 h).1
theorem Blk.mv {w w' : World} {g : Nat} {cs : List Value} {t : Nat} {r : Option Nat} (h : Blk w g cs t) (e : w.grownBy w' r) (hr : r ≠ some g) : Blk w' g cs t :=
  (e.block g h.lt (fun x => hr x.symm)).trans h
theorem Blk.mv0 {w w' : World} {g : Nat} {cs : List Value} {t : Nat} (h : Blk w g cs t) (e : w.grownBy w' none) : Blk w' g cs t := h.mv e (by simp)
theorem Blk.mv1 {w w' : World} {g k : Nat} {cs : List Value} {t : Nat} (h : Blk w g cs t) (e : w.grownBy w' (some k)) (hr : k ≠ g) : Blk w' g cs t := h.mv e (by simpa using hr)
theorem Blk.since {w w' : World} {g : Nat} {cs : List Value} {t : Nat} (h : Blk w g cs t) (e : Below w.heap.size w w') : Blk w' g cs t := (e.block g h.lt).trans h
theorem Blk.cell {w : World} {g : Nat} {cs : List Value} {t : Nat} (h : Blk w g cs t) {a : Addr} {k : Nat} {v : Value} (ha : a = ⟨g, k, none⟩) (hv : cs[k]? = some v) : w.cell? a = some v := by
  subst ha
  rw [cell_of_row w g k _ t (0, 0) h]
  simpa using hv
theorem Blk.ne {w : World} {g k : Nat} {cs cs' : List Value} {t t' : Nat} (h : Blk w g cs t) (h' : Blk w k cs' t') (ht : t ≠ t') : g ≠ k := by
  rintro rfl
  unfold Blk at h h'
  rw [h] at h'
  injection h' with h'
  injection h' with _ h'
  exact ht h'

theorem add_add (a : Addr) (i j : Nat) : (a.add i).add j = a.add (i + j) := by
  unfold Addr.add
  by_cases hi : i = 0 <;> by_cases hj : j = 0 <;> simp [hi, hj] <;> omega
theorem add_block (a : Addr) (i : Nat) : (a.add i).block = a.block := by unfold Addr.add; split <;> rfl
theorem add_plain (g o j : Nat) : (⟨g, o, none⟩ : Addr).add j = ⟨g, o + j, none⟩ := by unfold Addr.add; split <;> simp_all

def Cells (w : World) (a : Addr) (cs : List Value) : Prop := ∀ j u, cs[j]? = some u → w.cell? (a.add j) = some u
theorem Cells.move {w w' : World} {a : Addr} {cs : List Value} (h : Cells w a cs) (hb : w'.heap[a.block]? = w.heap[a.block]?) : Cells w' a cs := fun j u hj => by
  have := h j u hj
  have e : w'.cell? (a.add j) = w.cell? (a.add j) := by simp [World.cell?, add_block, hb]
  rw [e]; exact this
theorem Cells.one {w : World} {a : Addr} {v : Value} {cs : List Value} (h : Cells w a cs) (k : Nat) (hk : cs[k]? = some v) {b : Addr} (hb : b = a.add k) : w.cell? b = some v := by subst hb; exact h k v hk
theorem Cells.lt {w : World} {a : Addr} {cs : List Value} (h : Cells w a cs) (hn : 0 < cs.length) : a.block < w.heap.size := by
  have := h 0 _ (List.getElem?_eq_getElem hn)
  have := World.block_lt_of_cell? w _ this
  rwa [add_block] at this
theorem Blk.cells {w : World} {g : Nat} {cs : List Value} {t : Nat} (h : Blk w g cs t) (off : Nat) {a : Addr} (ha : a = ⟨g, off, none⟩) {ds : List Value} (hd : ds <+: cs.drop off) : Cells w a ds := by
  subst ha
  intro j u hj
  rw [add_plain]
  refine h.cell rfl ?_
  obtain ⟨t', ht⟩ := hd
  have hlt : j < ds.length := (List.getElem?_eq_some_iff.1 hj).1
  have : (cs.drop off)[j]? = some u := by rw [← ht, List.getElem?_append_left hlt]; exact hj
  simpa [List.getElem?_drop] using this
theorem Blk.cellsAll {w : World} {g : Nat} {cs : List Value} {t : Nat} (h : Blk w g cs t) : Cells w ⟨g, 0, none⟩ cs := h.cells 0 rfl (by simp)

/-! ### what cells read as -/
structure Rp (α : Type) where
  sz : Nat
  K : World → (Nat → Prop) → α → List Value → Prop
  len : ∀ {w F x cs}, K w F x cs → cs.length = sz
  mono : ∀ {w F F' x cs}, K w F x cs → (∀ b, F b → F' b) → K w F' x cs
  move : ∀ {w w' F x cs}, K w F x cs → (∀ b, F b → w'.heap[b]? = w.heap[b]?) → K w' F x cs
  bound : ∀ {w F x cs}, K w F x cs → K w (fun b => F b ∧ b < w.heap.size) x cs
  plain : ∀ {w F x cs}, K w F x cs → ∀ c ∈ cs, c.oneCell' = true

/-- of one form: the cells are a function of what they read as -/
def Rp.flat {α : Type} (enc : α → List Value) (sz : Nat) (hl : ∀ x, (enc x).length = sz) (hp : ∀ x, ∀ c ∈ enc x, c.oneCell' = true) : Rp α where
  sz := sz
  K := fun _ _ x cs => cs = enc x
  len := fun h => by rw [h]; exact hl _
  mono := fun h _ => h
  move := fun h _ => h
  bound := fun h => h
  plain := fun h => by rw [h]; exact hp _

def Rp.int (k : IntKind) : Rp Int := Rp.flat (fun x => [.int k x]) 1 (fun _ => rfl) (fun _ c h => by simp at h; subst h; rfl)
def Rp.bool : Rp Bool := Rp.flat (fun x => [.bool x]) 1 (fun _ => rfl) (fun _ c h => by simp at h; subst h; rfl)

/-- a slice that is read -/
def adOf (A : Option Addr) : Addr := A.getD default
structure Sl {α : Type} (d : Rp α) (w : World) (F : Nat → Prop) (A : Option Addr) (c : Nat) (xs : List α) : Prop where
  cap : xs.length ≤ c
  big : c ≤ maxLen
  at_ : ∀ j x, xs[j]? = some x → A = some (adOf A) ∧ F (adOf A).block ∧ ∃ cs, d.K w F x cs ∧ Cells w ((adOf A).add (j * d.sz)) cs

variable {α : Type} {d : Rp α}
theorem Sl.mono {w : World} {F F' : Nat → Prop} {A : Option Addr} {c : Nat} {xs : List α} (h : Sl d w F A c xs) (hF : ∀ b, F b → F' b) : Sl d w F' A c xs :=
  ⟨h.cap, h.big, fun j x hj => let ⟨hA, hf, cs, hk, hc⟩ := h.at_ j x hj; ⟨hA, hF _ hf, cs, d.mono hk hF, hc⟩⟩
theorem Sl.move {w w' : World} {F : Nat → Prop} {A : Option Addr} {c : Nat} {xs : List α} (h : Sl d w F A c xs) (hm : ∀ b, F b → w'.heap[b]? = w.heap[b]?) : Sl d w' F A c xs :=
  ⟨h.cap, h.big, fun j x hj => let ⟨hA, hf, cs, hk, hc⟩ := h.at_ j x hj; ⟨hA, hf, cs, d.move hk hm, hc.move (by rw [add_block]; exact hm _ hf)⟩⟩
/-- what could be read at the beginning, at any later time of the call -/
theorem Sl.since {w w' : World} {A : Option Addr} {c : Nat} {xs : List α} (h : Sl d w (· < w.heap.size) A c xs) (hb : Below w.heap.size w w') : Sl d w' (· < w'.heap.size) A c xs :=
  (h.move (fun b hbl => hb.block b hbl)).mono (fun b hbl => Nat.lt_of_lt_of_le hbl hb.size)
theorem Sl.sinceF {w w' : World} {A : Option Addr} {c : Nat} {xs : List α} (h : Sl d w (· < w.heap.size) A c xs) (hb : Below w.heap.size w w') : Sl d w' (· < w.heap.size) A c xs :=
  h.move (fun b hbl => hb.block b hbl)
theorem Sl.nil (d : Rp α) (w : World) (F : Nat → Prop) (A : Option Addr) (c : Nat) (hc : c ≤ maxLen) : Sl d w F A c [] := ⟨by simp, hc, fun j x h => by simp at h⟩
theorem Sl.bound {w : World} {F : Nat → Prop} {A : Option Addr} {c : Nat} {xs : List α} (hs : 0 < d.sz) (h : Sl d w F A c xs) : Sl d w (fun b => F b ∧ b < w.heap.size) A c xs :=
  ⟨h.cap, h.big, fun j x hj => let ⟨hA, hf, cs, hk, hc⟩ := h.at_ j x hj
    ⟨hA, ⟨hf, by have := hc.lt (by rw [d.len hk]; exact hs); rwa [add_block] at this⟩, cs, d.bound hk, hc⟩⟩

/-- a slice as a cell -/
def Rp.slice {α : Type} (d : Rp α) (hs : 0 < d.sz) : Rp (List α) where
  sz := 1
  K := fun w F xs cs => ∃ A c, cs = [.slice A xs.length c] ∧ Sl d w F A c xs
  len := fun ⟨_, _, h, _⟩ => by rw [h]; rfl
  mono := fun ⟨A, c, h, s⟩ hF => ⟨A, c, h, s.mono hF⟩
  move := fun ⟨A, c, h, s⟩ hm => ⟨A, c, h, s.move hm⟩
  bound := fun ⟨A, c, h, s⟩ => ⟨A, c, h, s.bound hs⟩
  plain := fun ⟨A, c, h, s⟩ => by subst h; intro x hx; simp at hx; subst hx; rfl

/-! ### a slice of the call's own: its block, from base on; what its elements lead to lies in F, outside of that block -/
def seg (cur : List Value) (j sz : Nat) : List Value := (cur.drop (j * sz)).take sz
def Own (d : Rp α) (e : Nat) (w : World) (base : Nat) (F : Nat → Prop) (A : Option Addr) (c : Nat) (xs : List α) : Prop :=
  (A = none ∧ xs = [] ∧ c = 0) ∨
  ∃ g cur, A = some ⟨g, 0, none⟩ ∧ base ≤ g ∧ Blk w g cur e ∧ xs.length ≤ c ∧ c ≤ maxLen ∧ cur.length = c * d.sz ∧
    ∀ j x, xs[j]? = some x → d.K w (fun b => F b ∧ b ≠ g) x (seg cur j d.sz)

theorem Own.nil (d : Rp α) (e : Nat) (w : World) (base : Nat) (F : Nat → Prop) : Own d e w base F none 0 [] := .inl ⟨rfl, rfl, rfl⟩

theorem Own.blk {e : Nat} {w : World} {base : Nat} {F : Nat → Prop} {A : Option Addr} {c : Nat} {xs : List α} (h : Own d e w base F A c xs) {g : Nat} (hg : (Value.slice A xs.length c).ownBlock = some g) :
    base ≤ g ∧ g < w.heap.size ∧ ∃ cur, Blk w g cur e := by
  rcases h with ⟨rfl, _, _⟩ | ⟨g', cur, rfl, hb, hB, _⟩
  · simp [Value.ownBlock] at hg
  · simp [Value.ownBlock] at hg; subst hg; exact ⟨hb, hB.lt, cur, hB⟩

/-- moved: the row's own block has not been written, nor what the elements lead to -/
theorem Own.move {e : Nat} {w w' : World} {base : Nat} {F : Nat → Prop} {A : Option Addr} {c : Nat} {xs : List α} (h : Own d e w base F A c xs)
    (h1 : ∀ g, A = some ⟨g, 0, none⟩ → w'.heap[g]? = w.heap[g]?) (h2 : ∀ b, F b → b < w.heap.size → w'.heap[b]? = w.heap[b]?) : Own d e w' base F A c xs := by
  rcases h with h | ⟨g, cur, rfl, hb, hB, hl, hm, hs, hx⟩
  · exact .inl h
  · refine .inr ⟨g, cur, rfl, hb, (h1 g rfl).trans hB, hl, hm, hs, fun j x hj => ?_⟩
    exact d.mono (d.move (d.bound (hx j x hj)) (fun b hb => h2 b hb.1.1 hb.2)) (fun b hb => hb.1)
theorem Own.mv0 {e : Nat} {w w' : World} {base : Nat} {F : Nat → Prop} {A : Option Addr} {c : Nat} {xs : List α} (h : Own d e w base F A c xs) (hg : w.grownBy w' none) : Own d e w' base F A c xs := by
  refine h.move (fun g hA => ?_) (fun b _ hb => hg.block b hb (by simp))
  rcases h with ⟨rfl, _, _⟩ | ⟨g', cur, rfl, _, hB, _⟩
  · cases hA
  · cases hA; exact hg.block g hB.lt (by simp)
theorem Own.mv1 {e : Nat} {w w' : World} {base k : Nat} {F : Nat → Prop} {A : Option Addr} {c : Nat} {xs : List α} (h : Own d e w base F A c xs) (hg : w.grownBy w' (some k)) (hk : A ≠ some ⟨k, 0, none⟩) (hF : ¬ F k) :
    Own d e w' base F A c xs := by
  refine h.move (fun g hA => ?_) (fun b hb hlt => hg.block b hlt (fun e => hF (by injection e with e; exact e ▸ hb)))
  rcases h with ⟨rfl, _, _⟩ | ⟨g', cur, rfl, _, hB, _⟩
  · cases hA
  · cases hA; exact hg.block g hB.lt (fun e => hk (by injection e with e; rw [e]))
theorem Own.weaken {e : Nat} {w : World} {base base' : Nat} {F F' : Nat → Prop} {A : Option Addr} {c : Nat} {xs : List α} (h : Own d e w base F A c xs) (hb : base' ≤ base) (hF : ∀ b, F b → F' b) : Own d e w base' F' A c xs := by
  rcases h with h | ⟨g, cur, rfl, hb', hB, hl, hm, hs, hx⟩
  · exact .inl h
  · exact .inr ⟨g, cur, rfl, Nat.le_trans hb hb', hB, hl, hm, hs, fun j x hj => d.mono (hx j x hj) (fun b hb => ⟨hF b hb.1, hb.2⟩)⟩

theorem seg_cells {w : World} {g : Nat} {cur : List Value} {t : Nat} (hB : Blk w g cur t) (j sz : Nat) : Cells w ((⟨g, 0, none⟩ : Addr).add (j * sz)) (seg cur j sz) := by
  rw [add_plain]
  refine hB.cells _ rfl ?_
  rw [Nat.zero_add]
  exact List.take_prefix _ _
theorem Own.sl {e : Nat} {w : World} {base : Nat} {F : Nat → Prop} {A : Option Addr} {c : Nat} {xs : List α} (h : Own d e w base F A c xs) : Sl d w (fun b => F b ∨ base ≤ b) A c xs := by
  rcases h with ⟨rfl, rfl, rfl⟩ | ⟨g, cur, rfl, hb, hB, hl, hm, hs, hx⟩
  · exact Sl.nil _ _ _ _ _ (by simp [maxLen])
  · exact ⟨hl, hm, fun j x hj => ⟨rfl, .inr hb, _, d.mono (hx j x hj) (fun b hb => .inl hb.1), seg_cells hB j d.sz⟩⟩
/-- readable from now on -/
theorem Own.rd {e : Nat} {w : World} {base : Nat} {F : Nat → Prop} {A : Option Addr} {c : Nat} {xs : List α} (hs : 0 < d.sz) (h : Own d e w base F A c xs) : Sl d w (· < w.heap.size) A c xs :=
  (h.sl.bound hs).mono (fun _ hb => hb.2)

end Go.Vc
end

section
/- The rules at what touches memory, at calls, at loops, at a region that draws and is quiet. -/
set_option linter.unusedVariables false
set_option linter.unusedSimpArgs false
namespace Go.Vc
open Go.RowKit

section
variable {G : Ctx} {n : Nat} {Q : QT} {ρ : Env} {w : World} {all : Array Oper} {o : Oper} {l : List Oper} {k : List It}

theorem M.step (hw : wantedE ρ all o = some true)
    (h : ∀ a, Fits n ρ a → ∃ v w', (execOp a.eval o).run G.P w = .ok (.value v) w' ∧ inB n o.dst = true ∧ M G n (.ops all l :: k) Q (putE ρ o.dst v) w') : M G n (.ops all (o :: l) :: k) Q ρ w :=
  ⟨LW.step hw fun a hf => let ⟨v, w', hr, hb, hm⟩ := h a hf; ⟨v, w', hr, _, hf.put hb, hm.out⟩⟩

theorem M.stepSkip (hw : wantedE ρ all o = some true) (hd : o.dst = none)
    (h : ∀ a, Fits n ρ a → ∃ w', (execOp a.eval o).run G.P w = .ok .skip w' ∧ M G n (.ops all l :: k) Q ρ w') : M G n (.ops all (o :: l) :: k) Q ρ w := by
  refine ⟨fun a hf => ?_⟩
  unfold wpList
  rw [if_pos (wantedE_sound hf hw)]
  obtain ⟨w', hr, hm⟩ := h a hf
  refine .inl ?_
  unfold Oper.wp
  rw [hr]
  simp only [Oper.upon, hd, Act.put]
  exact hm.out a hf

/-- a symbolic bool in a slot: both ways -/
theorem M.case (d : Nat) {b : Bool} (hd : ρ.find d = some (.bool b)) (ht : b = true → M G n (.ops all l :: k) Q ((d, .bool true) :: ρ) w) (hf : b = false → M G n (.ops all l :: k) Q ((d, .bool false) :: ρ) w) :
    M G n (.ops all l :: k) Q ρ w := by
  have key : ∀ c : Bool, b = c → M G n (.ops all l :: k) Q ((d, .bool c) :: ρ) w → M G n (.ops all l :: k) Q ρ w := by
    intro c hc h
    refine ⟨fun a hfit => h.out a ⟨hfit.size, hfit.defers, fun i v hi => ?_⟩⟩
    rw [Env.find_cons] at hi
    by_cases e : d = i
    · subst e
      rw [if_pos rfl] at hi
      simp at hi
      subst hi
      exact hfit.get d _ (by rw [hd, hc])
    · rw [if_neg e] at hi
      exact hfit.get i v hi
  cases b with
  | true => exact key true rfl (ht rfl)
  | false => exact key false rfl (hf rfl)

/-! ### loads -/
def evLoad (T : Tab) (n : Nat) (ρ : Env) (all : Array Oper) (o : Oper) : Option (Addr × Nat × Bool) :=
  match wantedE ρ all o, o.op with
  | some true, .load t x => match ρ.ev x, T.get t with
    | some (.pointer (some a)), some i => bif inB n o.dst then some (a, i.size, i.sh.agg) else none
    | _, _ => none
  | _, _ => none

theorem evLoad_spec {a : Addr} {s : Nat} {g : Bool} (h : evLoad G.T n ρ all o = some (a, s, g)) :
    wantedE ρ all o = some true ∧ inB n o.dst = true ∧ ∃ t x i, o.op = .load t x ∧ ρ.ev x = some (.pointer (some a)) ∧ G.T.get t = some i ∧ i.size = s ∧ i.sh.agg = g := by
  unfold evLoad at h
  split at h
  · rename_i t x hw ho
    split at h
    · rename_i a' i hx hT
      cases hb : inB n o.dst with
      | false => rw [hb] at h; simp at h
      | true =>
        rw [hb] at h
        simp at h
        obtain ⟨rfl, rfl, rfl⟩ := h
        exact ⟨hw, by first | exact hb | rfl, t, x, i, ho, hx, hT, rfl, rfl⟩
    · simp at h
  · simp at h

theorem TI.aggRun {t : Nat} {i : TI} (h : G.T.get t = some i) (w : World) : (isAgg t).run G.P w = .ok i.sh.agg w := by
  obtain ⟨hok, _⟩ := Tab.ok_get G.ok h
  obtain ⟨sh, sz, z, bz⟩ := i
  cases sh <;> simp only [Sh.ok] at hok
  case struct fs => obtain ⟨F, hF, _⟩ := hok; simp [isAgg, run_underlying hF, Sem.run_bind, Sh.agg]
  case other =>
    obtain ⟨d, hd, ha⟩ := hok
    cases d <;> simp_all [isAgg, run_underlying hd, Sem.run_bind, Sh.agg, aggD]
  all_goals simp [isAgg, run_underlying hok, Sem.run_bind, Sh.agg]

theorem TI.sizeRun {t : Nat} {i : TI} (h : G.T.get t = some i) (w : World) : (sizeOf t).run G.P w = .ok i.size w := by
  obtain ⟨_, h2⟩ := Tab.ok_get G.ok h
  obtain ⟨ti, hti, hts⟩ := Option.map_eq_some_iff.1 h2
  simp only [Prod.mk.injEq] at hts
  simp [sizeOf, typeInfo, hti, hts.1]

theorem TI.zeroRun {t : Nat} {i : TI} (h : G.T.get t = some i) (w : World) : (zeroValue t).run G.P w = .ok i.zero w := by
  obtain ⟨_, h2⟩ := Tab.ok_get G.ok h
  obtain ⟨ti, hti, hts⟩ := Option.map_eq_some_iff.1 h2
  simp only [Prod.mk.injEq] at hts
  simp [zeroValue, typeInfo, hti, hts.2.1]

theorem load_run1 {t : Nat} {i : TI} (hT : G.T.get t = some i) (ha : i.sh.agg = false) {a : Addr} {v : Value} (hc : w.cell? a = some v) : (loadVar t a).run G.P w = .ok v w := by
  simp [loadVar, Sem.run_bind, TI.aggRun hT, ha, run_load, hc, Result.andThen]

theorem load_runA {t : Nat} {i : TI} (hT : G.T.get t = some i) (ha : i.sh.agg = true) {a : Addr} {cs : List Value} (hl : cs.length = i.size) (hc : Cells w a cs) : (loadVar t a).run G.P w = .ok (.agg cs.toArray) w := by
  have := run_loadCells_list (P := G.P) w a cs hc
  rw [hl] at this
  simp [loadVar, Sem.run_bind, TI.aggRun hT, ha, TI.sizeRun hT, this, Result.andThen]

theorem M.load {a : Addr} {s : Nat} {v : Value} (he : evLoad G.T n ρ all o = some (a, s, false)) (hc : w.cell? a = some v) (h : M G n (.ops all l :: k) Q (putE ρ o.dst v) w) : M G n (.ops all (o :: l) :: k) Q ρ w := by
  obtain ⟨hw, hb, t, x, i, ho, hx, hT, rfl, hg⟩ := evLoad_spec he
  refine M.step hw fun ac hf => ⟨v, w, ?_, hb, h⟩
  simp [execOp, ho, hf.ev hx, Instr.loadAt, Instr.sureAddr, Sem.run_bind, load_run1 hT hg hc, Result.andThen]

theorem M.loadA {a : Addr} {s : Nat} {cs : List Value} (he : evLoad G.T n ρ all o = some (a, s, true)) (hl : cs.length = s) (hc : Cells w a cs) (h : M G n (.ops all l :: k) Q (putE ρ o.dst (.agg cs.toArray)) w) :
    M G n (.ops all (o :: l) :: k) Q ρ w := by
  obtain ⟨hw, hb, t, x, i, ho, hx, hT, rfl, hg⟩ := evLoad_spec he
  refine M.step hw fun ac hf => ⟨_, w, ?_, hb, h⟩
  simp [execOp, ho, hf.ev hx, Instr.loadAt, Instr.sureAddr, Sem.run_bind, load_runA hT hg hl hc, Result.andThen]

/-! ### new variables: box, alloc -/
def evNew (T : Tab) (n : Nat) (ρ : Env) (all : Array Oper) (o : Oper) : Option (List Value × Nat) :=
  match wantedE ρ all o, o.op with
  | some true, .box t x => match ρ.ev x with
    | some v => bif inB n o.dst then some (v.cells.toList, t) else none
    | none => none
  | some true, .alloc t => match T.get t with
    | some i => bif inB n o.dst then some (i.zero.cells.toList, t) else none
    | none => none
  | _, _ => none

theorem M.new {cs : List Value} {t : Nat} (he : evNew G.T n ρ all o = some (cs, t))
    (h : ∀ g w', Blk w' g cs t → w.grownBy w' none → w.heap.size ≤ g → M G n (.ops all l :: k) Q (putE ρ o.dst (.pointer (some ⟨g, 0, none⟩))) w') : M G n (.ops all (o :: l) :: k) Q ρ w := by
  unfold evNew at he
  split at he
  · rename_i t' x hw ho
    split at he
    · rename_i v hx
      cases hb : inB n o.dst with
      | false => rw [hb] at he; simp at he
      | true =>
        rw [hb] at he
        simp at he
        obtain ⟨rfl, rfl⟩ := he
        refine M.step hw fun ac hf => ⟨.pointer (some ⟨w.heap.size, 0, none⟩), w.alloc (.cells v.cells t'), ?_, hb, h _ _ (by simpa [Blk] using heap_alloc_new w _) (gr_alloc _ _) (Nat.le_refl _)⟩
        simp [execOp, ho, hf.ev hx, Instr.box, newVar, newRow, Sem.run_bind, Result.andThen]
    · simp at he
  · rename_i t' hw ho
    split at he
    · rename_i i hT
      cases hb : inB n o.dst with
      | false => rw [hb] at he; simp at he
      | true =>
        rw [hb] at he
        simp at he
        obtain ⟨rfl, rfl⟩ := he
        refine M.step hw fun ac hf => ⟨.pointer (some ⟨w.heap.size, 0, none⟩), w.alloc (.cells i.zero.cells t'), ?_, hb, h _ _ (by simpa [Blk] using heap_alloc_new w _) (gr_alloc _ _) (Nat.le_refl _)⟩
        simp [execOp, ho, Instr.alloc, newVar, newRow, Sem.run_bind, TI.zeroRun hT, Result.andThen]
    · simp at he
  · simp at he

/-! ### stores into a block of the call's own -/
def evStore (T : Tab) (ρ : Env) (all : Array Oper) (o : Oper) : Option (Addr × List Value) :=
  match wantedE ρ all o, o.op, o.dst with
  | some true, .store t x y, none => match ρ.ev x, ρ.ev y, T.get t with
    | some (.pointer (some a)), some v, some i => bif Nat.beq v.cells.toList.length i.size then some (a, v.cells.toList) else none
    | _, _, _ => none
  | _, _, _ => none

theorem gr_setRow (w : World) (g : Nat) (cs : Array Value) (hg : ∃ o, w.heap[g]? = some o) : w.grownBy (w.setRow g cs) (some g) := by
  refine ⟨rfl, rfl, rfl, by simp [World.setRow], fun j hj hne => ?_⟩
  simp only [World.setRow, Array.getElem?_modify]
  rw [if_neg (by rintro rfl; exact hne rfl)]

/-- a store into a block that is newer than w0 -/
theorem gr_fresh {w w1 w2 : World} {g : Nat} (h : w.grownBy w1 none) (k : w1.grownBy w2 (some g)) (hg : w.heap.size ≤ g) : w.grownBy w2 none :=
  ⟨k.os.trans h.os, k.tape.trans h.tape, k.output.trans h.output, Nat.le_trans h.size k.size, fun i hi hr => (k.block i (Nat.lt_of_lt_of_le hi h.size) (fun e => by injection e with e; omega)).trans (h.block i hi hr)⟩
theorem M.store {a : Addr} {vs cs : List Value} {g off t : Nat} (he : evStore G.T ρ all o = some (a, vs)) (ha : a = ⟨g, off, none⟩) (hB : Blk w g cs t) (hl' : Nat.ble (off + vs.length) cs.length = true) (hp' : vs.all Value.oneCell' = true)
    (h : ∀ w', Blk w' g (cs.take off ++ vs ++ cs.drop (off + vs.length)) t → w.grownBy w' (some g) → M G n (.ops all l :: k) Q ρ w') : M G n (.ops all (o :: l) :: k) Q ρ w := by
  have hl := Nat.le_of_ble_eq_true hl'
  have hp : ∀ v ∈ vs, v.oneCell' = true := fun v hv => List.all_eq_true.1 hp' v hv
  subst ha
  unfold evStore at he
  split at he
  · rename_i t' x y hw ho hd
    split at he
    · rename_i a' v i hx hy hT
      cases hb : Nat.beq v.cells.toList.length i.size with
      | false => rw [hb] at he; simp at he
      | true =>
        rw [hb] at he
        simp at he
        obtain ⟨rfl, rfl⟩ := he
        have hsz := Nat.eq_of_beq_eq_true hb
        have hst := run_storeCells_at (P := G.P) g off t v.cells.toList 0 cs.toArray w hB (by simpa using hl) hp
        simp only [Nat.add_zero] at hst
        refine M.stepSkip hw hd fun ac hf => ⟨w.setRow g (cs.take off ++ v.cells.toList ++ cs.drop (off + v.cells.toList.length)).toArray, ?_, h _ ?_ (gr_setRow w g _ ⟨_, hB⟩)⟩
        · have hsz' : v.cells.size = i.size := by simpa using hsz
          rw [show execOp ac.eval o = (do Instr.storeAt t' (ac.eval x) (ac.eval y); pure .skip : Sem Next) by simp [execOp, ho]]
          rw [hf.ev hx, hf.ev hy]
          simp only [Instr.storeAt, Instr.sureAddr, storeVar, Sem.run_bind, Sem.run_pure, Result.andThen_ok, TI.sizeRun hT, hsz', ne_eq, not_true_eq_false, if_false, hst]
        · exact setRow_heap w g cs.toArray _ t (0, 0) hB
    · simp at he
  · simp at he

/-! ### calls -/
def calleeE (nf : Nat) : Option Value → Option (Nat × List Value × List Value)
  | some (.func (.func f) first captured) => bif Nat.ble 3 f && Nat.blt f nf then some (f, first.toList, captured.toList) else none
  | _ => none
def evCall (nf n : Nat) (ρ : Env) (all : Array Oper) (o : Oper) : Option (Nat × List Value) :=
  match wantedE ρ all o, o.op with
  | some true, .call { callee := .value c, args := xs, argTypes := _ } => match calleeE nf (ρ.ev c), ρ.evs xs.toList with
    | some (f, fst, cap), some vs => bif inB n o.dst then some (f, fst ++ (vs ++ cap)) else none
    | _, _ => none
  | _, _ => none

theorem fn_ok {f : Nat} (h : (Nat.ble 3 f && Nat.blt f G.nf) = true) : ∃ fn, G.P.funcs[f]? = some fn ∧ fn.body.isNone = false ∧ (fn.name == "runtime.NumGoroutine") = false := by
  simp only [Bool.and_eq_true] at h
  have hlt : f < G.nf := Nat.le_of_ble_eq_true (by simpa [Nat.blt] using h.2)
  have h3 := Nat.le_of_ble_eq_true h.1
  have := List.all_eq_true.1 G.fok f (List.mem_range'_1.2 ⟨h3, by omega⟩)
  unfold goFn at this
  split at this
  · rename_i fn hfn
    simp only [Bool.and_eq_true, Bool.not_eq_true'] at this
    refine ⟨fn, hfn, ?_, this.2⟩
    cases hb : fn.body with
    | none => rw [hb] at this; simp at this
    | some c => rfl
  · simp at this

theorem run_goFn {f : Nat} (h : (Nat.ble 3 f && Nat.blt f G.nf) = true) (args : Array Value) (w : World) : (callFunc f args).run G.P w = .ok (.enter f args) w := by
  obtain ⟨fn, h1, h2, h3⟩ := fn_ok h
  have h3' : ¬ fn.name = "runtime.NumGoroutine" := by simpa using h3
  cases hb : fn.body with
  | none => rw [hb] at h2; simp at h2
  | some c => simp [callFunc, h1, hb, h3', Sem.run_bind, Result.andThen]

/-- the callee's value and the arguments, where the callee is a variable -/
def evCallV (n : Nat) (ρ : Env) (all : Array Oper) (o : Oper) : Option (Option Value × List Value) :=
  match wantedE ρ all o, o.op with
  | some true, .call { callee := .value c, args := xs, argTypes := _ } => match ρ.evs xs.toList with
    | some vs => bif inB n o.dst then some (ρ.ev c, vs) else none
    | none => none
  | _, _ => none
theorem evCall_of {f : Nat} {cv : Option Value} {vs fst cap : List Value} (h : evCallV n ρ all o = some (cv, vs)) (hc : calleeE G.nf cv = some (f, fst, cap)) : evCall G.nf n ρ all o = some (f, fst ++ (vs ++ cap)) := by
  unfold evCallV at h
  unfold evCall
  split at h
  · rename_i c xs _ hw ho
    split at h
    · rename_i vs' hvs
      cases hb : inB n o.dst with
      | false => rw [hb] at h; simp at h
      | true =>
        rw [hb] at h
        simp at h
        obtain ⟨rfl, rfl⟩ := h
        simp only [hw, ho, hc, hvs, hb, cond_true]
    · simp at h
  · simp at h
theorem calleeE_of {nf f : Nat} {first captured : Array Value} (h : (Nat.ble 3 f && Nat.blt f nf) = true) : calleeE nf (some (.func (.func f) first captured)) = some (f, first.toList, captured.toList) := by simp [calleeE, h]

theorem evCall_spec {f : Nat} {args : List Value} (h : evCall G.nf n ρ all o = some (f, args)) : wantedE ρ all o = some true ∧ inB n o.dst = true ∧
    ∀ a, Fits n ρ a → ∀ w, (execOp a.eval o).run G.P w = .ok (.enter f args.toArray) w := by
  unfold evCall at h
  split at h
  · rename_i c xs _ hw ho
    split at h
    · rename_i f' fst cap vs hc hxs
      cases hb : inB n o.dst with
      | false => rw [hb] at h; simp at h
      | true =>
        rw [hb] at h
        simp at h
        obtain ⟨rfl, rfl⟩ := h
        refine ⟨hw, by first | exact hb | rfl, fun a hf w => ?_⟩
        cases hcv : ρ.ev c with
        | none => rw [hcv] at hc; simp [calleeE] at hc
        | some cv =>
          rw [hcv] at hc
          unfold calleeE at hc
          split at hc
          · rename_i f'' first captured heq
            simp at heq
            subst heq
            cases hnf : (Nat.ble 3 f'' && Nat.blt f'' G.nf) with
            | false => rw [hnf] at hc; simp at hc
            | true =>
              rw [hnf] at hc
              simp at hc
              obtain ⟨rfl, rfl, rfl⟩ := hc
              have hxs' : xs.map a.eval = vs.toArray := by apply Array.ext'; simp [hf.evs hxs]
              have := run_goFn hnf (first ++ (vs.toArray ++ captured)) w
              have e : (first.toList ++ (vs ++ captured.toList)).toArray = first ++ (vs.toArray ++ captured) := by apply Array.ext'; simp
              rw [e]
              simp [execOp, ho, resolve, hf.ev hcv, hxs', Deferred.ofValue, invoke, this, Sem.run_bind, Result.andThen]
          · simp at hc
    · simp at h
  · simp at h

theorem M.call {f : Nat} {args : List Value} {R : Ending → World → Prop} (he : evCall G.nf n ρ all o = some (f, args)) (hc : Calls G.P f args.toArray w R)
    (h : ∀ e w', R e w' → ∃ v, e = .returned v ∧ M G n (.ops all l :: k) Q (putE ρ o.dst v) w') : M G n (.ops all (o :: l) :: k) Q ρ w := by
  obtain ⟨hw, hb, hr⟩ := evCall_spec he
  refine ⟨fun a hf => ?_⟩
  unfold wpList
  rw [if_pos (wantedE_sound hf hw)]
  refine .inl ?_
  unfold Oper.wp
  rw [hr a hf w]
  refine hc.mono fun e w' hR => ?_
  obtain ⟨v, rfl, hm⟩ := h e w' hR
  exact hm.out _ (hf.put hb)

theorem M.callV {f : Nat} {cv : Option Value} {vs fst cap : List Value} {R : Ending → World → Prop} (he : evCallV n ρ all o = some (cv, vs)) (hcv : calleeE G.nf cv = some (f, fst, cap)) (hc : Calls G.P f (fst ++ (vs ++ cap)).toArray w R)
    (h : ∀ e w', R e w' → ∃ v, e = .returned v ∧ M G n (.ops all l :: k) Q (putE ρ o.dst v) w') : M G n (.ops all (o :: l) :: k) Q ρ w := M.call (evCall_of he hcv) hc h

/-! ### an element's address -/
def evIdx (T : Tab) (n : Nat) (ρ : Env) (all : Array Oper) (o : Oper) : Option (Option Addr × Nat × Int × Nat) :=
  match wantedE ρ all o, o.op with
  | some true, .indexAddr t x y => match ρ.ev x, ρ.ev y, T.get t with
    | some (.slice A m _), some (.int _ i), some ⟨.slice e, _, _, _⟩ => match T.get e with
      | some ie => bif inB n o.dst then some (A, m, i, ie.size) else none
      | none => none
    | _, _, _ => none
  | _, _ => none

theorem M.idx {A : Option Addr} {m : Nat} {i : Int} {s : Nat} (he : evIdx G.T n ρ all o = some (A, m, i, s)) (h0 : 0 ≤ i) (h1 : i < m) (hA : A = some (adOf A))
    (h : M G n (.ops all l :: k) Q (putE ρ o.dst (.pointer (some ((adOf A).add (i.toNat * s))))) w) : M G n (.ops all (o :: l) :: k) Q ρ w := by
  unfold evIdx at he
  split at he
  · rename_i t x y hw ho
    split at he
    · rename_i A' m' c ik i' e sz z bz hx hy hT
      split at he
      · rename_i ie hTe
        cases hb : inB n o.dst with
        | false => rw [hb] at he; simp at he
        | true =>
          rw [hb] at he
          simp at he
          obtain ⟨rfl, rfl, rfl, rfl⟩ := he
          obtain ⟨hok, _⟩ := Tab.ok_get G.ok hT
          have hu : G.P.underlying t = some (.slice e) := hok
          refine M.step hw fun ac hf => ⟨_, w, ?_, hb, h⟩
          rw [show execOp ac.eval o = (do pure (.value (← Instr.indexAt t (ac.eval x) (ac.eval y))) : Sem Next) by simp [execOp, ho]]
          refine run_value ?_
          rw [hf.ev hx, hf.ev hy, hA]
          simp [Instr.indexAt, asIntOf, run_underlying hu, Sem.run_bind, h0, h1, TI.sizeRun hTe, Result.andThen, adOf]
      · simp at he
    · simp at he
  · simp at he

/-! ### an array variable's element -/
def evIdxA (T : Tab) (n : Nat) (ρ : Env) (all : Array Oper) (o : Oper) : Option (Addr × Nat × Int × Nat) :=
  match wantedE ρ all o, o.op with
  | some true, .indexAddr t x y => match ρ.ev x, ρ.ev y, T.get t with
    | some (.pointer (some a)), some (.int _ i), some ⟨.array m e, _, _, _⟩ => match T.get e with
      | some ie => bif inB n o.dst then some (a, m, i, ie.size) else none
      | none => none
    | _, _, _ => none
  | _, _ => none
theorem M.idxA {a : Addr} {m : Nat} {i : Int} {s : Nat} (he : evIdxA G.T n ρ all o = some (a, m, i, s)) (h0 : 0 ≤ i) (h1 : i < m)
    (h : M G n (.ops all l :: k) Q (putE ρ o.dst (.pointer (some (a.add (i.toNat * s))))) w) : M G n (.ops all (o :: l) :: k) Q ρ w := by
  unfold evIdxA at he
  split at he
  · rename_i t x y hw ho
    split at he
    · rename_i a' ik i' m' e sz z bz hx hy hT
      split at he
      · rename_i ie hTe
        cases hb : inB n o.dst with
        | false => rw [hb] at he; simp at he
        | true =>
          rw [hb] at he
          simp at he
          obtain ⟨rfl, rfl, rfl, rfl⟩ := he
          obtain ⟨hok, _⟩ := Tab.ok_get G.ok hT
          have hu : G.P.underlying t = some (.array m' e) := hok
          refine M.step hw fun ac hf => ⟨_, w, ?_, hb, h⟩
          rw [show execOp ac.eval o = (do pure (.value (← Instr.indexAt t (ac.eval x) (ac.eval y))) : Sem Next) by simp [execOp, ho]]
          refine run_value ?_
          rw [hf.ev hx, hf.ev hy]
          simp [Instr.indexAt, asIntOf, Instr.sureAddr, run_underlying hu, Sem.run_bind, h0, h1, TI.sizeRun hTe, Result.andThen]
      · simp at he
    · simp at he
  · simp at he

/-! ### loops, cuts -/
theorem M.loop {c : Code} {σ : Type} (env : σ → Env) (inv : σ → World → Prop) (μ : σ → Nat) (s0 : σ) (h0 : Has ρ (env s0)) (hi : inv s0 w)
    (round : ∀ s w, inv s w → M G n (.code c :: .stop (fun ρ' w' => ∃ s', Has ρ' (env s') ∧ inv s' w' ∧ μ s' < μ s) :: k) Q (env s) w) : M G n (.code (.loop c) :: k) Q ρ w := by
  refine ⟨fun a hf => ?_⟩
  refine wp_loop_ghost (fun m a' w' => ∃ s, μ s = m ∧ Fits n (env s) a' ∧ inv s w') (μ s0) ⟨s0, rfl, hf.weaken h0, hi⟩ ?_
  intro m a' w' ⟨s, hm, hfs, hinv⟩
  refine Code.wp_mono ?_ ((round s w' hinv).out a' hfs)
  intro e a'' w'' ⟨ρ', hf', hq⟩
  cases e with
  | normal =>
    obtain ⟨s', hh, hi', hlt⟩ := hq
    exact ⟨μ s', by omega, s', rfl, hf'.weaken hh, hi'⟩
  | _ => exact ⟨ρ', hf', hq⟩

/-- ways meet: R holds behind the first item -/
theorem post_stop {J : Env → World → Prop} {e : Exit} (he : e ≠ .normal) : post G n (.stop J :: k) Q e = post G n k Q e := by cases e <;> simp_all [post]
theorem M.cutC {c : Code} {σ : Type} (env : σ → Env) (inv : σ → World → Prop)
    (h1 : M G n (.code c :: .stop (fun ρ' w' => ∃ s, Has ρ' (env s) ∧ inv s w') :: k) Q ρ w) (h2 : ∀ s w', inv s w' → M G n k Q (env s) w')
    (hk : ∀ ρ ρ' w, Has ρ ρ' → post G n k Q .normal ρ' w → post G n k Q .normal ρ w) : M G n (.code c :: k) Q ρ w := by
  refine ⟨fun a hf => Code.wp_mono ?_ (h1.out a hf)⟩
  intro e a' w' ⟨ρ', hf', hq⟩
  cases e with
  | normal =>
    obtain ⟨s, hh, hi⟩ := hq
    exact ⟨ρ', hf', hk _ _ _ hh (h2 s w' hi).out⟩
  | _ => exact ⟨ρ', hf', hq⟩
theorem post_weak {c : Code} {k : List It} (ρ ρ' : Env) (w : World) (hh : Has ρ ρ') (h : post G n (.code c :: k) Q .normal ρ' w) : post G n (.code c :: k) Q .normal ρ w := fun a hf => h a (hf.weaken hh)
theorem post_weakO {all : Array Oper} {l : List Oper} {k : List It} (ρ ρ' : Env) (w : World) (hh : Has ρ ρ') (h : post G n (.ops all l :: k) Q .normal ρ' w) : post G n (.ops all l :: k) Q .normal ρ w := fun a hf => h a (hf.weaken hh)

/-! ### a function -/
def resE (ρ : Env) : List ResultVar → Option (List Value)
  | [] => some []
  | .tmp t :: r => match ρ.find t with
    | none => none
    | some v => match resE ρ r with
      | none => none
      | some vs => some (v :: vs)
  | .cell _ _ :: _ => none
def oneOrTuple : List Value → Value
  | [v] => v
  | vs => .tuple vs.toArray
def fin (G : Ctx) (n : Nat) (fn : Func) (R : Ending → World → Prop) : QT := fun e ρ w => match e with
  | .normal | .ret => ∀ a, Fits n ρ a → ∃ v, (results fn a.tmps).run G.P w = .ok v w ∧ R (.returned v) w
  | _ => False

theorem res1 {t : Nat} {r : List ResultVar} {vs : List Value} (h : resE ρ (.tmp t :: r) = some vs) : ∃ v us, ρ.find t = some v ∧ resE ρ r = some us ∧ vs = v :: us := by
  simp only [resE] at h
  split at h
  · simp at h
  · rename_i v hv
    split at h
    · simp at h
    · rename_i us hus
      simp at h
      exact ⟨v, us, hv, hus, h.symm⟩
theorem resC {x t : Nat} {r : List ResultVar} {vs : List Value} (h : resE ρ (.cell x t :: r) = some vs) : False := by simp [resE] at h

theorem results_run {a : Act} (hf : Fits n ρ a) {fn : Func} {vs : List Value} (h : resE ρ fn.results.toList = some vs) (h4' : Nat.ble fn.results.size 4 = true) (w : World) : (results fn a.tmps).run G.P w = .ok (oneOrTuple vs) w := by
  have gt : ∀ {t : Nat} {v : Value}, ρ.find t = some v → a.tmps[t]?.getD undef = v := fun h => by rw [← Array.getD_eq_getD_getElem?]; exact hf.get _ _ h
  have er : fn.results = fn.results.toList.toArray := by simp
  have hsz4 := Nat.le_of_ble_eq_true h4'
  clear h4'
  generalize fn.results.toList = rs at h er
  rcases rs with _ | ⟨r1, rs⟩
  · simp [resE] at h; subst h; simp [results, er, oneOrTuple]
  cases r1 with
  | cell x t => exact (resC h).elim
  | tmp t1 =>
  obtain ⟨v1, us1, h1, hr1, rfl⟩ := res1 h
  rcases rs with _ | ⟨r2, rs⟩
  · simp [resE] at hr1; subst hr1; simp [results, er, oneOrTuple, gt h1]
  cases r2 with
  | cell x t => exact (resC hr1).elim
  | tmp t2 =>
  obtain ⟨v2, us2, h2, hr2, rfl⟩ := res1 hr1
  rcases rs with _ | ⟨r3, rs⟩
  · simp [resE] at hr2; subst hr2; simp [results, er, oneOrTuple, gt h1, gt h2]
  cases r3 with
  | cell x t => exact (resC hr2).elim
  | tmp t3 =>
  obtain ⟨v3, us3, h3, hr3, rfl⟩ := res1 hr2
  rcases rs with _ | ⟨r4, rs⟩
  · simp [resE] at hr3; subst hr3; simp [results, er, oneOrTuple, gt h1, gt h2, gt h3]
  cases r4 with
  | cell x t => exact (resC hr3).elim
  | tmp t4 =>
  obtain ⟨v4, us4, h4, hr4, rfl⟩ := res1 hr3
  rcases rs with _ | ⟨r5, rs⟩
  · simp [resE] at hr4; subst hr4; simp [results, er, oneOrTuple, gt h1, gt h2, gt h3, gt h4]
  · rw [er] at hsz4; simp at hsz4

theorem fin_ret {fn : Func} {R : Ending → World → Prop} {vs : List Value} (h : resE ρ fn.results.toList = some vs) (h4 : Nat.ble fn.results.size 4 = true) (hR : R (.returned (oneOrTuple vs)) w) : fin G n fn R .ret ρ w :=
  fun a hf => ⟨_, results_run hf h h4 w, hR⟩
theorem fin_end {fn : Func} {R : Ending → World → Prop} {vs : List Value} (h : resE ρ fn.results.toList = some vs) (h4 : Nat.ble fn.results.size 4 = true) (hR : R (.returned (oneOrTuple vs)) w) : fin G n fn R .normal ρ w :=
  fun a hf => ⟨_, results_run hf h h4 w, hR⟩

theorem M.retF {fn : Func} {R : Ending → World → Prop} {vs : List Value} (h : resE ρ fn.results.toList = some vs) (h4 : Nat.ble fn.results.size 4 = true) (hR : R (.returned (oneOrTuple vs)) w) : M G n (.code .ret :: k) (fin G n fn R) ρ w := M.ret (fin_ret h h4 hR)
theorem M.endF {fn : Func} {R : Ending → World → Prop} {vs : List Value} (h : resE ρ fn.results.toList = some vs) (h4 : Nat.ble fn.results.size 4 = true) (hR : R (.returned (oneOrTuple vs)) w) : M G n [] (fin G n fn R) ρ w := M.done (fin_end h h4 hR)

def argsEnv : Nat → List Value → Env
  | _, [] => []
  | i, v :: r => (i, v) :: argsEnv (i + 1) r

theorem argsEnv_find : ∀ (vs : List Value) (i j : Nat) (v : Value), (argsEnv i vs).find j = some v → i ≤ j ∧ vs[j - i]? = some v
  | [], i, j, v, h => by simp [argsEnv, Env.find] at h
  | u :: r, i, j, v, h => by
    simp only [argsEnv] at h
    rw [Env.find_cons] at h
    by_cases e : i = j
    · subst e; rw [if_pos rfl] at h; simp at h; subst h; simp
    · rw [if_neg e] at h
      obtain ⟨h1, h2⟩ := argsEnv_find r (i + 1) j v h
      refine ⟨by omega, ?_⟩
      rw [show j - i = (j - (i + 1)) + 1 by omega]
      simpa using h2

theorem calls {f : Nat} {fn : Func} {c : Code} {args : List Value} {R : Ending → World → Prop} (hf : G.P.funcs[f]? = some fn) (hb : fn.body = some c) (hn : fn.ntmps = n) (hl : Nat.ble args.length n = true)
    (h : M G n [.code c] (fin G n fn R) (argsEnv 0 args) w) : Calls G.P f args.toArray w R := by
  refine calls_of_wp hf hb (Code.wp_mono ?_ (h.out _ ⟨?_, rfl, ?_⟩))
  · intro e a' w' ⟨ρ', hf', hq⟩
    cases e with
    | normal => obtain ⟨v, h1, h2⟩ := hq a' hf'; exact ⟨hf'.defers, v, h1, h2⟩
    | ret => obtain ⟨v, h1, h2⟩ := hq a' hf'; exact ⟨hf'.defers, v, h1, h2⟩
    | _ => exact hq.elim
  · have := Nat.le_of_ble_eq_true hl
    simp [hn]; omega
  · intro i v hi
    obtain ⟨_, h2⟩ := argsEnv_find args 0 i v hi
    have hlt : i < args.length := (List.getElem?_eq_some_iff.1 h2).1
    simp at h2
    simp [Array.getD_eq_getD_getElem?, Array.getElem?_append, hlt]
    rw [List.getElem?_eq_getElem hlt] at h2
    simpa using h2

/-! ### the rules where the slot that is written stands in the operation -/
section
variable {d : Tmp} {op : Op} {ty : TypeId} {pos : String} {after : Array Edge} {gd : Option (Nat × Bool)}
theorem M.ld {a : Addr} {s : Nat} {v : Value} (he : evLoad G.T n ρ all ⟨some d, op, ty, pos, after, gd⟩ = some (a, s, false)) (hc : w.cell? a = some v) (h : M G n (.ops all l :: k) Q ((d, v) :: ρ) w) :
    M G n (.ops all (⟨some d, op, ty, pos, after, gd⟩ :: l) :: k) Q ρ w := M.load he hc h
theorem M.ldA {a : Addr} {s : Nat} {cs : List Value} (he : evLoad G.T n ρ all ⟨some d, op, ty, pos, after, gd⟩ = some (a, s, true)) (hl : cs.length = s) (hc : Cells w a cs) (h : M G n (.ops all l :: k) Q ((d, .agg cs.toArray) :: ρ) w) :
    M G n (.ops all (⟨some d, op, ty, pos, after, gd⟩ :: l) :: k) Q ρ w := M.loadA he hl hc h
theorem M.nw {cs : List Value} {t : Nat} (he : evNew G.T n ρ all ⟨some d, op, ty, pos, after, gd⟩ = some (cs, t))
    (h : ∀ g w', Blk w' g cs t → w.grownBy w' none → w.heap.size ≤ g → M G n (.ops all l :: k) Q ((d, .pointer (some ⟨g, 0, none⟩)) :: ρ) w') :
    M G n (.ops all (⟨some d, op, ty, pos, after, gd⟩ :: l) :: k) Q ρ w := M.new he h
theorem M.cl {f : Nat} {args : List Value} {R : Ending → World → Prop} (he : evCall G.nf n ρ all ⟨some d, op, ty, pos, after, gd⟩ = some (f, args)) (hc : Calls G.P f args.toArray w R)
    (h : ∀ e w', R e w' → ∃ v, e = .returned v ∧ M G n (.ops all l :: k) Q ((d, v) :: ρ) w') : M G n (.ops all (⟨some d, op, ty, pos, after, gd⟩ :: l) :: k) Q ρ w := M.call he hc h
theorem M.clV {f : Nat} {cv : Option Value} {vs fst cap : List Value} {R : Ending → World → Prop} (he : evCallV n ρ all ⟨some d, op, ty, pos, after, gd⟩ = some (cv, vs)) (hcv : calleeE G.nf cv = some (f, fst, cap)) (hc : Calls G.P f (fst ++ (vs ++ cap)).toArray w R)
    (h : ∀ e w', R e w' → ∃ v, e = .returned v ∧ M G n (.ops all l :: k) Q ((d, v) :: ρ) w') : M G n (.ops all (⟨some d, op, ty, pos, after, gd⟩ :: l) :: k) Q ρ w := M.callV he hcv hc h
theorem M.ix {A : Option Addr} {m : Nat} {i : Int} {s : Nat} (he : evIdx G.T n ρ all ⟨some d, op, ty, pos, after, gd⟩ = some (A, m, i, s)) (h0 : 0 ≤ i) (h1 : i < m) (hA : A = some (adOf A))
    (h : M G n (.ops all l :: k) Q ((d, .pointer (some ((adOf A).add (i.toNat * s)))) :: ρ) w) : M G n (.ops all (⟨some d, op, ty, pos, after, gd⟩ :: l) :: k) Q ρ w := M.idx he h0 h1 hA h
theorem M.ixA {a : Addr} {m : Nat} {i : Int} {s : Nat} (he : evIdxA G.T n ρ all ⟨some d, op, ty, pos, after, gd⟩ = some (a, m, i, s)) (h0 : 0 ≤ i) (h1 : i < m)
    (h : M G n (.ops all l :: k) Q ((d, .pointer (some (a.add (i.toNat * s)))) :: ρ) w) : M G n (.ops all (⟨some d, op, ty, pos, after, gd⟩ :: l) :: k) Q ρ w := M.idxA he h0 h1 h
end
end
end Go.Vc
end

section
/- A region that draws its order and is quiet in the class of worlds that have grown from the one at its start: one walk in the order of the text. -/
set_option linter.unusedVariables false
set_option linter.unusedSimpArgs false
namespace Go.Vc
open Go.RowKit

inductive RunO where
  | ok (ρ : Env) (l : List Oper)
  | bad
def runO (T : Tab) (n : Nat) (gs : List Nat) (all : Array Oper) : Env → List Oper → RunO
  | ρ, [] => .ok ρ []
  | ρ, o :: l => match wantedE ρ all o with
    | some true => match step1 T n ρ o with
      | some ρ' => bif stopAt gs o.dst then .ok ρ' l else runO T n gs all ρ' l
      | none => .ok ρ (o :: l)
    | some false => bif inB n o.dst then runO T n gs all (putE ρ o.dst undef) l else .bad
    | none => .ok ρ (o :: l)

structure LQ (G : Ctx) (n : Nat) (all : Array Oper) (C : World → Prop) (QF : Env → Prop) (l : List Oper) (ρ : Env) : Prop where
  mk :: (out : ∀ a, Fits n ρ a → wpQuiet G.P all C (fun a' => ∃ ρ', Fits n ρ' a' ∧ QF ρ') l a)

section
variable {G : Ctx} {n : Nat} {all : Array Oper} {C : World → Prop} {QF : Env → Prop} {l : List Oper} {ρ : Env} {o : Oper}

theorem LQ.nil (h : QF ρ) : LQ G n all C QF [] ρ := ⟨fun a hf => ⟨ρ, hf, h⟩⟩

theorem LQ.step {v : Value} (hw : wantedE ρ all o = some true) (hb : inB n o.dst = true) (hr : ∀ a, Fits n ρ a → ∀ w, C w → o.quietAt G.P a C w v)
    (h : LQ G n all C QF l (putE ρ o.dst v)) : LQ G n all C QF (o :: l) ρ := by
  refine ⟨fun a hf => ?_⟩
  unfold wpQuiet
  rw [if_pos (wantedE_sound hf hw)]
  exact ⟨v, hr a hf, h.out _ (hf.put hb)⟩

theorem LQ.pure1 {ρ' : Env} (hw : wantedE ρ all o = some true) (hs : step1 G.T n ρ o = some ρ') (h : LQ G n all C QF l ρ') : LQ G n all C QF (o :: l) ρ := by
  unfold step1 at hs
  cases hp : pureOp G.T ρ o.op with
  | none => rw [hp] at hs; simp at hs
  | some v =>
    rw [hp] at hs
    simp only at hs
    have hq : ∀ a, Fits n ρ a → ∀ w, C w → o.quietAt G.P a C w v := fun a hf w _ => by
      unfold Oper.quietAt
      rw [pureOp_sound hf hp w]
      exact ⟨rfl, rfl⟩
    cases hd : o.dst with
    | none =>
      rw [hd] at hs; simp at hs; subst hs
      exact LQ.step hw (by rw [hd]; rfl) hq (by rw [hd]; exact h)
    | some d =>
      rw [hd] at hs
      simp only at hs
      cases hb : Nat.blt d n with
      | false => rw [hb] at hs; simp at hs
      | true =>
        rw [hb] at hs
        simp at hs
        subst hs
        exact LQ.step hw (by rw [hd]; exact hb) hq (by rw [hd]; exact h)

theorem LQ.unwanted (hw : wantedE ρ all o = some false) (hb : inB n o.dst = true) (h : LQ G n all C QF l (putE ρ o.dst undef)) : LQ G n all C QF (o :: l) ρ := by
  refine ⟨fun a hf => ?_⟩
  unfold wpQuiet
  rw [if_neg (by rw [wantedE_sound hf hw]; simp)]
  exact h.out _ (hf.put hb)

theorem runO_sound (gs : List Nat) : ∀ (l l' : List Oper) (ρ ρ' : Env), runO G.T n gs all ρ l = .ok ρ' l' → LQ G n all C QF l' ρ' → LQ G n all C QF l ρ
  | [], l', ρ, ρ', h, hp => by simp [runO] at h; obtain ⟨rfl, rfl⟩ := h; exact hp
  | o :: l, l', ρ, ρ', h, hp => by
    simp only [runO] at h
    split at h
    · rename_i hw
      split at h
      · rename_i ρ'' hs
        cases hb : stopAt gs o.dst with
        | true => rw [hb] at h; simp at h; obtain ⟨rfl, rfl⟩ := h; exact LQ.pure1 hw hs hp
        | false => rw [hb] at h; exact LQ.pure1 hw hs (runO_sound gs l l' ρ'' ρ' h hp)
      · simp at h; obtain ⟨rfl, rfl⟩ := h; exact hp
    · rename_i hw
      cases hb : inB n o.dst with
      | true => rw [hb] at h; exact LQ.unwanted hw hb (runO_sound gs l l' _ ρ' h hp)
      | false => rw [hb] at h; simp at h
    · simp at h; obtain ⟨rfl, rfl⟩ := h; exact hp

theorem LQ.at_ (gs : List Nat) {l' : List Oper} {ρ' : Env} (h : runO G.T n gs all ρ l = .ok ρ' l') (hp : LQ G n all C QF l' ρ') : LQ G n all C QF l ρ := runO_sound _ l l' ρ ρ' h hp
theorem LQ.run {l' : List Oper} {ρ' : Env} (h : runO G.T n [] all ρ l = .ok ρ' l') (hp : LQ G n all C QF l' ρ') : LQ G n all C QF l ρ := runO_sound _ l l' ρ ρ' h hp

theorem LQ.case (d : Nat) {b : Bool} (hd : ρ.find d = some (.bool b)) (ht : b = true → LQ G n all C QF l ((d, .bool true) :: ρ)) (hf : b = false → LQ G n all C QF l ((d, .bool false) :: ρ)) : LQ G n all C QF l ρ := by
  have key : ∀ c : Bool, b = c → LQ G n all C QF l ((d, .bool c) :: ρ) → LQ G n all C QF l ρ := by
    intro c hc h
    refine ⟨fun a hfit => h.out a ⟨hfit.size, hfit.defers, fun i v hi => ?_⟩⟩
    rw [Env.find_cons] at hi
    by_cases e : d = i
    · subst e
      rw [if_pos rfl] at hi
      simp at hi
      subst hi
      exact hfit.get d _ (by rw [hd, hc])
    · rw [if_neg e] at hi
      exact hfit.get i v hi
  cases b with
  | true => exact key true rfl (ht rfl)
  | false => exact key false rfl (hf rfl)

section
variable {d : Tmp} {op : Op} {ty : TypeId} {pos : String} {after : Array Edge} {gd : Option (Nat × Bool)}
theorem LQ.ld {a : Addr} {s : Nat} {v : Value} (he : evLoad G.T n ρ all ⟨some d, op, ty, pos, after, gd⟩ = some (a, s, false)) (hc : ∀ w, C w → w.cell? a = some v) (h : LQ G n all C QF l ((d, v) :: ρ)) :
    LQ G n all C QF (⟨some d, op, ty, pos, after, gd⟩ :: l) ρ := by
  obtain ⟨hw, hb, t, x, i, ho, hx, hT, rfl, hg⟩ := evLoad_spec he
  refine LQ.step hw hb (fun ac hf w hC => ?_) h
  unfold Oper.quietAt
  simp only at ho
  subst ho
  rw [show (execOp ac.eval ⟨some d, .load t x, ty, pos, after, gd⟩).run G.P w = .ok (.value v) w by simp [execOp, hf.ev hx, Instr.loadAt, Instr.sureAddr, Sem.run_bind, load_run1 hT hg (hc w hC), Result.andThen]]
  exact ⟨rfl, rfl⟩
theorem LQ.ldA {a : Addr} {s : Nat} {cs : List Value} (he : evLoad G.T n ρ all ⟨some d, op, ty, pos, after, gd⟩ = some (a, s, true)) (hl : cs.length = s) (hc : ∀ w, C w → Cells w a cs) (h : LQ G n all C QF l ((d, .agg cs.toArray) :: ρ)) :
    LQ G n all C QF (⟨some d, op, ty, pos, after, gd⟩ :: l) ρ := by
  obtain ⟨hw, hb, t, x, i, ho, hx, hT, rfl, hg⟩ := evLoad_spec he
  refine LQ.step hw hb (fun ac hf w hC => ?_) h
  unfold Oper.quietAt
  simp only at ho
  subst ho
  rw [show (execOp ac.eval ⟨some d, .load t x, ty, pos, after, gd⟩).run G.P w = .ok (.value (.agg cs.toArray)) w by simp [execOp, hf.ev hx, Instr.loadAt, Instr.sureAddr, Sem.run_bind, load_runA hT hg hl (hc w hC), Result.andThen]]
  exact ⟨rfl, rfl⟩
theorem LQ.ix {A : Option Addr} {m : Nat} {i : Int} {s : Nat} (he : evIdx G.T n ρ all ⟨some d, op, ty, pos, after, gd⟩ = some (A, m, i, s)) (h0 : 0 ≤ i) (h1 : i < m) (hA : A = some (adOf A))
    (h : LQ G n all C QF l ((d, .pointer (some ((adOf A).add (i.toNat * s)))) :: ρ)) : LQ G n all C QF (⟨some d, op, ty, pos, after, gd⟩ :: l) ρ := by
  unfold evIdx at he
  split at he
  · rename_i t x y hw ho
    split at he
    · rename_i A' m' c ik i' e sz z bz hx hy hT
      split at he
      · rename_i ie hTe
        cases hb : inB n (some d) with
        | false => rw [hb] at he; simp at he
        | true =>
          rw [hb] at he
          simp at he
          obtain ⟨rfl, rfl, rfl, rfl⟩ := he
          obtain ⟨hok, _⟩ := Tab.ok_get G.ok hT
          have hu : G.P.underlying t = some (.slice e) := hok
          simp only at ho
          subst ho
          refine LQ.step hw hb (fun ac hf w hC => ?_) h
          unfold Oper.quietAt
          rw [show (execOp ac.eval ⟨some d, .indexAddr t x y, ty, pos, after, gd⟩).run G.P w = .ok (.value (.pointer (some ((adOf A').add (i'.toNat * ie.size))))) w from by
            rw [show execOp ac.eval ⟨some d, .indexAddr t x y, ty, pos, after, gd⟩ = (do pure (.value (← Instr.indexAt t (ac.eval x) (ac.eval y))) : Sem Next) by simp [execOp]]
            refine run_value ?_
            rw [hf.ev hx, hf.ev hy, hA]
            simp [Instr.indexAt, asIntOf, run_underlying hu, Sem.run_bind, h0, h1, TI.sizeRun hTe, Result.andThen, adOf]]
          exact ⟨rfl, rfl⟩
      · simp at he
    · simp at he
  · simp at he
theorem LQ.cl {f : Nat} {args : List Value} {v : Value} (he : evCall G.nf n ρ all ⟨some d, op, ty, pos, after, gd⟩ = some (f, args)) (hc : ∀ w, C w → Calls G.P f args.toArray w fun e w' => e = .returned v ∧ C w')
    (h : LQ G n all C QF l ((d, v) :: ρ)) : LQ G n all C QF (⟨some d, op, ty, pos, after, gd⟩ :: l) ρ := by
  obtain ⟨hw, hb, hr⟩ := evCall_spec he
  refine LQ.step hw hb (fun ac hf w hC => ?_) h
  unfold Oper.quietAt
  rw [hr ac hf w]
  exact ⟨rfl, hc w hC⟩
/-- a callee that answers one value and leaves a world that has grown -/
theorem LQ.clG {w0 : World} {f : Nat} {args : List Value} {v : Value} (he : evCall G.nf n ρ all ⟨some d, op, ty, pos, after, gd⟩ = some (f, args))
    (hc : ∀ w, w0.grownBy w none → Calls G.P f args.toArray w fun e w' => e = .returned v ∧ w.grownBy w' none)
    (h : LQ G n all (fun w => w0.grownBy w none) QF l ((d, v) :: ρ)) : LQ G n all (fun w => w0.grownBy w none) QF (⟨some d, op, ty, pos, after, gd⟩ :: l) ρ :=
  LQ.cl he (fun w hC => (hc w hC).mono fun e w' ⟨he, hg⟩ => ⟨he, gr_trans hC hg⟩) h
theorem LQ.clGV {w0 : World} {f : Nat} {cv : Option Value} {vs fst cap : List Value} {v : Value} (he : evCallV n ρ all ⟨some d, op, ty, pos, after, gd⟩ = some (cv, vs)) (hcv : calleeE G.nf cv = some (f, fst, cap))
    (hc : ∀ w, w0.grownBy w none → Calls G.P f (fst ++ (vs ++ cap)).toArray w fun e w' => e = .returned v ∧ w.grownBy w' none)
    (h : LQ G n all (fun w => w0.grownBy w none) QF l ((d, v) :: ρ)) : LQ G n all (fun w => w0.grownBy w none) QF (⟨some d, op, ty, pos, after, gd⟩ :: l) ρ := LQ.clG (evCall_of he hcv) hc h
end

/-- the region -/
theorem M.quiet {id : Nat} {k : List It} {Q : QT} {w : World} (hB : Region.lexB .any all = true)
    (h : LQ G n all (fun w' => w.grownBy w' none) (fun ρ' => ∀ w', w.grownBy w' none → M G n k Q ρ' w') all.toList ρ) : M G n (.code (.region id all true) :: k) Q ρ w := by
  refine ⟨fun a hf => wp_region_quiet (C := fun w' => w.grownBy w' none) G.mixed hB ⟨rfl, rfl, rfl, Nat.le_refl _, fun _ _ _ => rfl⟩ ?_⟩
  have := h.out a hf
  refine (?_ : ∀ (l : List Oper) (a : Act), wpQuiet G.P all (fun w' => w.grownBy w' none) (fun a' => ∃ ρ', Fits n ρ' a' ∧ ∀ w', w.grownBy w' none → M G n k Q ρ' w') l a → wpQuiet G.P all (fun w' => w.grownBy w' none) (fun a' => ∀ w', w.grownBy w' none → lift n (post G n k Q) .normal a' w') l a) _ a this
  intro l
  induction l with
  | nil => intro a ⟨ρ', hf', hm⟩ w' hw'; exact ⟨ρ', hf', (hm w' hw').out⟩
  | cons o l ih =>
    intro a h
    unfold wpQuiet at h ⊢
    split
    · rename_i hw
      rw [if_pos hw] at h
      exact Oper.quiet_mono (fun a h => ih a h) h
    · rename_i hw
      rw [if_neg hw] at h
      exact ih _ h
end
end Go.Vc
end

section
/- Slices that are made: literals, make, append, stores of elements. -/
set_option linter.unusedVariables false
set_option linter.unusedSimpArgs false
namespace Go.Vc
open Go.RowKit

theorem seg_take (l : List Value) (j k sz : Nat) (h : j < k) : seg (l.take (k * sz)) j sz = seg l j sz := by
  unfold seg
  rw [List.drop_take, List.take_take, Nat.min_eq_left]
  have : (j + 1) * sz ≤ k * sz := Nat.mul_le_mul_right _ h
  rw [Nat.add_mul] at this
  omega
theorem seg_append (l r : List Value) (j k sz : Nat) (hl : l.length = k * sz) (h : j < k) : seg (l ++ r) j sz = seg l j sz := by
  rw [← seg_take (l ++ r) j k sz h, ← hl, List.take_left]
theorem seg_append_right (l r : List Value) (j k sz : Nat) (hl : l.length = k * sz) : seg (l ++ r) (k + j) sz = seg r j sz := by
  unfold seg
  rw [Nat.add_mul, ← hl, List.drop_append, List.drop_of_length_le (by omega), List.nil_append, Nat.add_sub_cancel_left]
theorem seg_len (l : List Value) (j k sz : Nat) (hl : l.length = k * sz) (h : j < k) : (seg l j sz).length = sz := by
  unfold seg
  have : (j + 1) * sz ≤ k * sz := Nat.mul_le_mul_right _ h
  rw [Nat.add_mul] at this
  simp; omega

section
variable {α : Type} {d : Rp α} {e : Nat} {w : World} {base : Nat} {F : Nat → Prop} {A : Option Addr} {c : Nat} {xs : List α}

def blkOf (A : Option Addr) : Option Nat := A.map (·.block)

theorem Own.row (h : Own d e w base F A c xs) : ∃ cs, w.ownsRow base e d.sz (.slice A xs.length c) xs.length cs ∧ ∀ j x, xs[j]? = some x → d.K w (fun b => F b ∧ some b ≠ blkOf A) x (seg cs j d.sz) := by
  rcases h with ⟨rfl, rfl, rfl⟩ | ⟨g, cur, rfl, hb, hB, hl, hm, hs, hx⟩
  · exact ⟨[], World.ownsRow_nil w base e d.sz, fun j x h => by simp at h⟩
  · refine ⟨cur.take (xs.length * d.sz), ⟨?_, .inr ⟨g, c, cur.toArray, rfl, hb, hB, hl, hm, by simpa using hs, by simp⟩⟩, fun j x hj => ?_⟩
    · have : xs.length * d.sz ≤ c * d.sz := Nat.mul_le_mul_right _ hl
      simp; omega
    · rw [seg_take _ _ _ _ (List.getElem?_eq_some_iff.1 hj).1]
      exact d.mono (hx j x hj) (fun b hb => ⟨hb.1, by simpa [blkOf] using hb.2⟩)

theorem Own.of_row {v : Value} {cs : List Value} (h : w.ownsRow base e d.sz v xs.length cs) (hx : ∀ j x, xs[j]? = some x → d.K w (fun b => F b ∧ some b ≠ v.ownBlock) x (seg cs j d.sz)) :
    ∃ A c, v = .slice A xs.length c ∧ Own d e w base F A c xs := by
  obtain ⟨hl, h⟩ := h
  rcases h with ⟨rfl, hn⟩ | ⟨g, cap, cur, rfl, hb, hB, hle, hm, hs, ht⟩
  · have : xs = [] := List.eq_nil_of_length_eq_zero hn
    subst this
    exact ⟨none, 0, rfl, .inl ⟨rfl, rfl, rfl⟩⟩
  · refine ⟨some ⟨g, 0, none⟩, cap, rfl, .inr ⟨g, cur.toList, rfl, hb, by simpa [Blk] using hB, hle, hm, by simpa using hs, fun j x hj => ?_⟩⟩
    have := hx j x hj
    rw [← ht, seg_take _ _ _ _ (List.getElem?_eq_some_iff.1 hj).1] at this
    exact d.mono this (fun b hb => ⟨hb.1, by simpa [Value.ownBlock] using hb.2⟩)

theorem Own.blkGe (h : Own d e w base F A c xs) : ∀ k, blkOf A = some k → base ≤ k ∧ k < w.heap.size := by
  intro k hk
  rcases h with ⟨rfl, _, _⟩ | ⟨g, cur, rfl, hb, hB, _⟩
  · cases hk
  · injection hk with hk
    subst hk
    exact ⟨hb, hB.lt⟩
/-- a step that writes the row's own block alone -/
theorem Own.gr (h : Own d e w base F A c xs) {w0 w' : World} (h0 : w0.grownBy w none) (hg : w.grownBy w' (blkOf A)) (hb : w0.heap.size ≤ base) : w0.grownBy w' none := by
  refine ⟨hg.os.trans h0.os, hg.tape.trans h0.tape, hg.output.trans h0.output, Nat.le_trans h0.size hg.size, fun i hi hr => (hg.block i (Nat.lt_of_lt_of_le hi h0.size) (fun hee => ?_)).trans (h0.block i hi hr)⟩
  have := h.blkGe i hee.symm
  omega
theorem Own.cap (h : Own d e w base F A c xs) : xs.length ≤ c ∧ c ≤ maxLen := by
  rcases h with ⟨rfl, rfl, rfl⟩ | ⟨g, cur, rfl, hb, hB, h1, h2, _⟩
  · simp [maxLen]
  · exact ⟨h1, h2⟩
/-- another row, not this one -/
theorem Own.mvB {B : Option Addr} (h : Own d e w base F A c xs) {w' : World} (hg : w.grownBy w' (blkOf B)) (hne : ∀ k, blkOf A = some k → blkOf B ≠ some k) (hF : ∀ k, blkOf B = some k → ¬ F k) : Own d e w' base F A c xs := by
  cases hB : blkOf B with
  | none => rw [hB] at hg; exact h.mv0 hg
  | some k =>
    rw [hB] at hg
    exact h.mv1 hg (fun hA => hne k (by rw [hA]; rfl) hB) (hF k hB)
/-- two rows that share no block -/
def Ne2 (A B : Option Addr) : Prop := ∀ k, blkOf A = some k → blkOf B ≠ some k
theorem Ne2.nil (B : Option Addr) : Ne2 none B := fun k h => by cases h
theorem Ne2.symm {A B : Option Addr} (h : Ne2 A B) : Ne2 B A := fun k hB hA => h k hA hB
/-- behind an append to A -/
theorem Ne2.app {A A1 B : Option Addr} (h : Ne2 A B) (hat : blkOf A1 = blkOf A ∨ blkOf A1 = some w.heap.size) {β : Type} {d' : Rp β} {e' base' c' : Nat} {F' : Nat → Prop} {ys : List β} (hB : Own d' e' w base' F' B c' ys) : Ne2 A1 B := by
  intro k hk hBk
  rcases hat with hat | hat
  · exact h k (hat ▸ hk) hBk
  · rw [hat] at hk
    injection hk with hk
    have := (hB.blkGe k hBk).2
    omega
theorem Own.mvN {B : Option Addr} (h : Own d e w base (fun _ => False) A c xs) {w' : World} (hg : w.grownBy w' (blkOf B)) (hne : Ne2 A B) : Own d e w' base (fun _ => False) A c xs := h.mvB hg hne (fun _ _ h => h)
theorem Own.ne_tag {β : Type} {d' : Rp β} {e' base' c' : Nat} {F' : Nat → Prop} {B : Option Addr} {ys : List β} (h : Own d e w base F A c xs) (h' : Own d' e' w base' F' B c' ys) (ht : e ≠ e') : Ne2 A B := by
  intro k hk hB
  rcases h with ⟨rfl, _, _⟩ | ⟨g, cur, rfl, _, hb, _⟩
  · cases hk
  · rcases h' with ⟨rfl, _, _⟩ | ⟨g', cur', rfl, _, hb', _⟩
    · cases hB
    · injection hk with hk; injection hB with hB
      simp only at hk hB
      exact hb.ne hb' ht (hk.trans hB.symm)
/-- what is appended: elements read from an address -/
def SrcAt (d : Rp α) (w : World) (F : Nat → Prop) (ad : Addr) (ys : List α) : Prop := ∀ j y, ys[j]? = some y → ∃ cs, d.K w F y cs ∧ Cells w (ad.add (j * d.sz)) cs

theorem SrcAt.cells {ad : Addr} {ys : List α} (h : SrcAt d w F ad ys) : ∃ cs, cs.length = ys.length * d.sz ∧ Cells w ad cs ∧ (∀ j y, ys[j]? = some y → d.K w F y (seg cs j d.sz)) ∧ ∀ u ∈ cs, u.oneCell' = true := by
  have key : ∀ m, m ≤ ys.length → ∃ cs, cs.length = m * d.sz ∧ Cells w ad cs ∧ (∀ j y, j < m → ys[j]? = some y → d.K w F y (seg cs j d.sz)) ∧ ∀ u ∈ cs, u.oneCell' = true := by
    intro m
    induction m with
    | zero => intro _; exact ⟨[], by simp, fun j u h => by simp at h, fun j y h => by omega, fun u h => by simp at h⟩
    | succ m ih =>
      intro hm
      obtain ⟨cs, hl, hc, hk, hp⟩ := ih (by omega)
      obtain ⟨ds, hk', hc'⟩ := h m _ (List.getElem?_eq_getElem (show m < ys.length by omega))
      refine ⟨cs ++ ds, ?_, ?_, ?_, ?_⟩
      · simp [hl, d.len hk', Nat.add_mul]
      · intro j u hj
        by_cases hlt : j < cs.length
        · rw [List.getElem?_append_left hlt] at hj; exact hc j u hj
        · rw [List.getElem?_append_right (by omega)] at hj
          have := hc' _ u hj
          rw [add_add] at this
          rwa [show m * d.sz + (j - cs.length) = j by omega] at this
      · intro j z hjm hj
        by_cases hlt : j < m
        · rw [seg_append _ _ _ _ _ hl hlt]
          exact hk j z hlt hj
        · have hje : j = m := by omega
          subst hje
          rw [List.getElem?_eq_getElem (show j < ys.length by omega)] at hj
          injection hj with hj
          subst hj
          have := seg_append_right cs ds 0 _ _ hl
          rw [Nat.add_zero] at this
          rw [this]
          have hs : seg ds 0 d.sz = ds := by simp [seg, ← d.len hk']
          rw [hs]; exact hk'
      · intro u hu
        rcases List.mem_append.1 hu with hu | hu
        · exact hp u hu
        · exact d.plain hk' u hu
  obtain ⟨cs, h1, h2, h3, h4⟩ := key ys.length (Nat.le_refl _)
  exact ⟨cs, h1, h2, fun j y hj => h3 j y (List.getElem?_eq_some_iff.1 hj).1 hj, h4⟩

theorem own_append {P : Program} {t ty : Nat} {i : TypeInfo} {z : Value} {bytes : Nat} (ht : P.underlying t = some (.slice e)) (hi : P.info? e = some i) (hz : i.zero = some z) (hsize : i.size = d.sz) (hby : i.bytes = bytes)
    (hzs : z.cells.size = d.sz) (hsz : 0 < d.sz) (h : Own d e w base F A c xs) {ad : Addr} {ys : List α} {c' : Nat} (hs : SrcAt d w (fun b => F b ∧ some b ≠ blkOf A) ad ys) (hbase : base ≤ w.heap.size)
    (h63 : xs.length + ys.length ≤ maxLen) (hbytes : (xs.length + ys.length) * bytes ≤ 140737488355328) :
    ∃ A1 c1 w', (Builtin.append_ #[t, t] ty #[.slice A xs.length c, .slice (some ad) ys.length c']).run P w = .ok (.slice A1 (xs ++ ys).length c1) w' ∧ Own d e w' base F A1 c1 (xs ++ ys) ∧ w.grownBy w' (blkOf A) ∧ (blkOf A1 = blkOf A ∨ blkOf A1 = some w.heap.size) := by
  obtain ⟨cs, hown, hk⟩ := h.row
  obtain ⟨ds, hdl, hdc, hdk, hdp⟩ := hs.cells
  obtain ⟨v', w', hr, hown', hgr, _, hat⟩ := run_append_own_at (P := P) w base t ty e i z d.sz bytes ht hi hz hsize hby hzs hsz _ _ _ hown ad ys.length c' ds hdl hdc hdp h63 hbytes hbase
  have hblk : (Value.slice A xs.length c).ownBlock = blkOf A := by cases A <;> rfl
  rw [hblk] at hgr hat
  have hlen : (xs ++ ys).length = xs.length + ys.length := by simp
  rw [← hlen] at hown'
  have hstep : ∀ {x : α} {k : List Value}, d.K w (fun b => F b ∧ some b ≠ blkOf A) x k → d.K w' (fun b => F b ∧ some b ≠ v'.ownBlock) x k := by
    intro x k hk
    refine d.mono (d.move (d.bound hk) (fun b hb => hgr.block b hb.2 hb.1.2)) (fun b hb => ⟨hb.1.1, fun he => ?_⟩)
    rcases hat with hat | hat
    · rw [hat] at he; exact hb.1.2 he
    · rw [hat] at he; injection he with he; omega
  have hcl : cs.length = xs.length * d.sz := hown.1
  obtain ⟨A1, c1, rfl, hO⟩ := Own.of_row (F := F) hown' (fun j x hj => by
    by_cases hlt : j < xs.length
    · rw [List.getElem?_append_left hlt] at hj
      rw [seg_append _ _ _ _ _ hcl hlt]
      exact hstep (hk j x hj)
    · rw [List.getElem?_append_right (by omega)] at hj
      have := seg_append_right cs ds (j - xs.length) _ _ hcl
      rw [show xs.length + (j - xs.length) = j by omega] at this
      rw [this]
      exact hstep (hdk _ x hj))
  refine ⟨A1, c1, w', hr, hO, hgr, ?_⟩
  have : (Value.slice A1 (xs ++ ys).length c1).ownBlock = blkOf A1 := by cases A1 <;> rfl
  rw [this] at hat
  exact hat
end

section
variable {G : Ctx} {n : Nat} {Q : QT} {ρ : Env} {w : World} {all : Array Oper} {l : List Oper} {k : List It} {dd : Tmp} {op : Op} {ty : TypeId} {pos : String} {after : Array Edge} {gd : Option (Nat × Bool)}

/-- the builtin append: both slices, the element's type -/
def evApp (T : Tab) (n : Nat) (ρ : Env) (all : Array Oper) (o : Oper) : Option (Option Addr × Nat × Nat × Option Addr × Nat × Nat × Nat × TI) :=
  match wantedE ρ all o, o.op with
  | some true, .call { callee := .builtin .append, args := xs, argTypes := ts } => match xs.toList, ts.toList with
    | [x, y], [t, t'] => match ρ.ev x, ρ.ev y, T.get t with
      | some (.slice A m c), some (.slice A' m' c'), some ⟨.slice e, _, _, _⟩ => match T.get e with
        | some ie => bif inB n o.dst && Nat.beq t t' then some (A, m, c, A', m', c', e, ie) else none
        | none => none
      | _, _, _ => none
    | _, _ => none
  | _, _ => none

theorem M.app {α : Type} {d : Rp α} {A A' : Option Addr} {m c m' c' e : Nat} {ie : TI} {base : Nat} {F : Nat → Prop} {xs ys : List α}
    (he : evApp G.T n ρ all ⟨some dd, op, ty, pos, after, gd⟩ = some (A, m, c, A', m', c', e, ie)) (hm : m = xs.length) (hO : Own d e w base F A c xs) (hsz : ie.size = d.sz) (hpos : 0 < d.sz) (hzs : ie.zero.cells.size = d.sz)
    (hm' : m' = ys.length) (hA' : A' = some (adOf A')) (hs : SrcAt d w (fun b => F b ∧ some b ≠ blkOf A) (adOf A') ys) (hbase : base ≤ w.heap.size) (hbytes : (xs.length + ys.length) * ie.bytes ≤ 140737488355328) (hb0 : 0 < ie.bytes)
    (h : ∀ A1 c1 w', Own d e w' base F A1 c1 (xs ++ ys) → w.grownBy w' (blkOf A) → (blkOf A1 = blkOf A ∨ blkOf A1 = some w.heap.size) → M G n (.ops all l :: k) Q ((dd, .slice A1 (xs ++ ys).length c1) :: ρ) w') :
    M G n (.ops all (⟨some dd, op, ty, pos, after, gd⟩ :: l) :: k) Q ρ w := by
  unfold evApp at he
  split at he
  · rename_i x0 y0 hw ho
    split at he
    · rename_i x y t t' hxs hts
      split at he
      · rename_i A2 m2 c2 A3 m3 c3 e2 sz z bz hx hy hT
        split at he
        · rename_i ie2 hTe
          cases hb : (inB n (some dd) && Nat.beq t t') with
          | false => rw [hb] at he; simp at he
          | true =>
            rw [hb] at he
            simp at he
            obtain ⟨rfl, rfl, rfl, rfl, rfl, rfl, rfl, rfl⟩ := he
            simp only [Bool.and_eq_true] at hb
            obtain ⟨hb1, hb2⟩ := hb
            have hb2 := Nat.eq_of_beq_eq_true hb2
            subst hb2
            subst hm; subst hm'
            obtain ⟨hok, _⟩ := Tab.ok_get G.ok hT
            have hu : G.P.underlying t = some (.slice e2) := hok
            obtain ⟨_, hinfo⟩ := Tab.ok_get G.ok hTe
            obtain ⟨ti, hti, hts'⟩ := Option.map_eq_some_iff.1 hinfo
            simp only [Prod.mk.injEq] at hts'
            have hle : xs.length + ys.length ≤ 140737488355328 := Nat.le_trans (Nat.le_mul_of_pos_right _ hb0) hbytes
            obtain ⟨A1, c1, w', hr, hO', hg, hat⟩ := own_append (P := G.P) (ty := ty) hu hti hts'.2.1 (hts'.1.trans hsz) hts'.2.2 hzs hpos hO (c' := c3) hs hbase (by simp only [maxLen]; omega) hbytes
            simp only at ho
            have hxa : x0 = #[x, y] := by apply Array.ext'; simp [hxs]
            subst hxa
            have hta : y0 = #[t, t] := by apply Array.ext'; simp [hts]
            subst hta
            subst ho
            refine M.step hw fun ac hf => ⟨_, w', ?_, hb1, h A1 c1 w' hO' hg hat⟩
            rw [hA'] at hy
            simp only [execOp, resolve, List.map_toArray, List.map_cons, List.map_nil, hf.ev hx, hf.ev hy]
            simp only [invoke, builtin, Sem.run_bind, Sem.run_pure, Result.andThen_ok, hr]
        · simp at he
      · simp at he
    · simp at he
  · simp at he

/-- a slice literal: its cells, its element's type -/
def evBS (T : Tab) (n : Nat) (ρ : Env) (all : Array Oper) (o : Oper) : Option (List Value × Nat × Nat) :=
  match wantedE ρ all o, o.op with
  | some true, .buildSlice t len parts => match T.get t, partsE ρ parts.toList with
    | some ⟨.slice e, _, _, _⟩, some vs => match T.get e with
      | some ie => match fillL (fun i => some (i * ie.size, ie.size)) ((List.replicate len ie.zero.cells.toList).flatten) vs with
        | some cs => bif inB n o.dst && (Nat.ble (len * ie.size) 16777216 && (Nat.blt 0 (len * ie.size) && Nat.beq ie.zero.cells.toList.length ie.size)) then some (cs, e, len) else none
        | none => none
      | none => none
    | _, _ => none
  | _, _ => none

theorem zeros_flat (z : List Value) (s : Nat) (hz : z.length = s) : ∀ (m : Nat), ((List.range (m * s)).map fun i => z.toArray[i % z.toArray.size]!) = (List.replicate m z).flatten := by
  intro m
  induction m with
  | zero => simp
  | succ m ih =>
    rw [Nat.add_mul, Nat.one_mul, List.range_add, List.map_append, ih, List.replicate_succ', List.flatten_append]
    congr 1
    simp only [List.map_map, List.flatten_cons, List.flatten_nil, List.append_nil]
    apply List.ext_getElem
    · simp [hz]
    · intro i h1 h2
      simp at h1
      simp only [List.getElem_map, List.getElem_range, Function.comp]
      have : (m * s + i) % z.toArray.size = i := by simp [hz, Nat.add_mod, Nat.mod_eq_of_lt h1]
      rw [this]
      simp [h2]

theorem M.bs {cs : List Value} {e len : Nat} (he : evBS G.T n ρ all ⟨some dd, op, ty, pos, after, gd⟩ = some (cs, e, len))
    (h : ∀ g w', Blk w' g cs e → w.grownBy w' none → w.heap.size ≤ g → M G n (.ops all l :: k) Q ((dd, .slice (some ⟨g, 0, none⟩) len len) :: ρ) w') : M G n (.ops all (⟨some dd, op, ty, pos, after, gd⟩ :: l) :: k) Q ρ w := by
  unfold evBS at he
  split at he
  · rename_i t ln parts hw ho
    split at he
    · rename_i e2 sz z bz vs hT hp
      split at he
      · rename_i ie hTe
        split at he
        · rename_i cs2 hcs
          cases hb : (inB n (some dd) && (Nat.ble (ln * ie.size) 16777216 && (Nat.blt 0 (ln * ie.size) && Nat.beq ie.zero.cells.toList.length ie.size))) with
          | false => rw [hb] at he; simp at he
          | true =>
            rw [hb] at he
            simp at he
            obtain ⟨rfl, rfl, rfl⟩ := he
            simp only [Bool.and_eq_true] at hb
            obtain ⟨hb1, hb2, hb3, hb4⟩ := hb
            have hb2 := Nat.le_of_ble_eq_true hb2
            have hb3 : 0 < ln * ie.size := Nat.le_of_ble_eq_true (by simpa [Nat.blt] using hb3)
            have hb4 := Nat.eq_of_beq_eq_true hb4
            obtain ⟨hok, _⟩ := Tab.ok_get G.ok hT
            have hu : G.P.underlying t = some (.slice e2) := hok
            simp only at ho
            subst ho
            refine M.step hw fun ac hf => ⟨.slice (some ⟨w.heap.size, 0, none⟩) ln ln, w.alloc (.cells cs2.toArray e2), ?_, hb1, h _ _ (by simpa [Blk] using heap_alloc_new w _) (gr_alloc _ _) (Nat.le_refl _)⟩
            have hpm : (parts.map fun (x : Nat × Operand) => (x.1, ac.eval x.2)).toList = vs := by
              rw [Array.toList_map]; exact partsE_map (fun x v hx => hf.ev hx) hp
            have hfill := fillL_fill hcs
            have hz0 : (Array.range (ln * ie.size)).map (fun i => ie.zero.cells[i % ie.zero.cells.size]!) = ((List.replicate ln ie.zero.cells.toList).flatten).toArray := by
              apply Array.ext'
              rw [Array.toList_map, Array.toList_range]
              exact zeros_flat ie.zero.cells.toList ie.size hb4 ln
            rw [show execOp ac.eval ⟨some dd, .buildSlice t ln parts, ty, pos, after, gd⟩ = (do pure (.value (← Instr.buildSlice t ln (parts.map fun (x : Nat × Operand) => (x.1, ac.eval x.2)))) : Sem Next) by simp [execOp]]
            refine run_value ?_
            unfold Instr.buildSlice
            have hnz : ¬ (ln * ie.size = 0) := by omega
            simp only [Sem.run_bind, run_underlying hu, Result.andThen_ok, TI.sizeRun hTe, if_neg (show ¬ (ln * ie.size > 2 ^ 24) by omega), if_neg hnz, TI.zeroRun hTe, Sem.run_pure, hpm, hz0, hfill]
            simp [newRow, Sem.run_bind, Result.andThen]
        · simp at he
      · simp at he
    · simp at he
  · simp at he

/-- the source of 'append(v, x)': the literal's block -/
theorem src_one {α : Type} {d : Rp α} {F : Nat → Prop} {g e : Nat} {cs : List Value} {y : α} (hB : Blk w g cs e) (hk : d.K w F y cs) : SrcAt d w F (adOf (some ⟨g, 0, none⟩)) [y] := by
  intro j z hj
  cases j with
  | zero =>
    simp at hj
    subst hj
    refine ⟨cs, hk, ?_⟩
    rw [Nat.zero_mul]
    exact hB.cellsAll.move rfl
  | succ j => simp at hj
/-- .. and of 'append(v, ys...)' -/
theorem Sl.src {α : Type} {d : Rp α} {F : Nat → Prop} {A : Option Addr} {c : Nat} {ys : List α} (h : Sl d w F A c ys) : SrcAt d w F (adOf A) ys := fun j y hj => (h.at_ j y hj).2.2

end
end Go.Vc
end

section
/- Arguments that were handed in, opened to cells: structs of any depth, slices of them. -/
set_option linter.unusedVariables false
namespace Go.Vc
open Go Go.RowKit Go.ChangeShapes Go.WideShapes Go.Deep

inductive CK where
  | int (k : IntKind) | bool | str | slice (t e : TypeId)

section
variable (P : Program)
def flatFs (g : TypeId → Option (List CK)) : Nat → List Field → Option (List CK)
  | _, [] => some []
  | off, f :: fs => match g f.type with
    | none => none
    | some a => bif f.offset == off && P.cellsOf f.type == a.length then (match flatFs g (off + a.length) fs with | none => none | some r => some (a ++ r)) else none
/-- the kinds of a type's cells -/
def flatK : Nat → TypeId → Option (List CK)
  | 0, _ => none
  | n + 1, t => match P.underlying t with
    | some (.int k) => some [.int k]
    | some .bool => some [.bool]
    | some .string => some [.str]
    | some (.slice e) => some [.slice t e]
    | some (.struct fs) => (match flatFs P (flatK n) 0 fs.toList with | none => none | some r => bif P.cellsOf t == r.length then some r else none)
    | _ => none
end

section
variable {H : Type} {enc : TypeId × Value → H} {P : Program} {w : World} {base : Nat} {spare : Nat → Bool} {held : Bool}
def okK (enc : TypeId × Value → H) (P : Program) (w : World) (base : Nat) (spare : Nat → Bool) (held : Bool) : CK → Value → Prop
  | .int k, v => ∃ n, v = .int k n ∧ (Lit.int k n).wf = true
  | .bool, v => ∃ b, v = .bool b
  | .str, v => ∃ s : ByteArray, v = .string s ∧ s.size ≤ maxLen
  | .slice t e, v => P.underlying t = some (.slice e) ∧ ∃ n y, DataW.trod enc P w base spare held n t [v] = some y
def All2 (enc : TypeId × Value → H) (P : Program) (w : World) (base : Nat) (spare : Nat → Bool) (held : Bool) : List CK → List Value → Prop
  | [], [] => True
  | k :: ks, c :: cs => okK enc P w base spare held k c ∧ All2 enc P w base spare held ks cs
  | _, _ => False
theorem All2.nil_iff {cs : List Value} : All2 enc P w base spare held [] cs ↔ cs = [] := by cases cs <;> simp [All2]
theorem All2.cons_iff {k : CK} {ks : List CK} {cs : List Value} : All2 enc P w base spare held (k :: ks) cs ↔ ∃ c cs', cs = c :: cs' ∧ okK enc P w base spare held k c ∧ All2 enc P w base spare held ks cs' := by
  cases cs with
  | nil => simp [All2]
  | cons c cs => exact ⟨fun h => ⟨c, cs, rfl, h⟩, fun ⟨_, _, e, h⟩ => by cases e; exact h⟩
theorem okK_int {k : IntKind} {v : Value} : okK enc P w base spare held (.int k) v ↔ ∃ n, v = .int k n ∧ (Lit.int k n).wf = true := Iff.rfl
theorem okK_bool {v : Value} : okK enc P w base spare held .bool v ↔ ∃ b, v = .bool b := Iff.rfl
theorem okK_str {v : Value} : okK enc P w base spare held .str v ↔ ∃ s : ByteArray, v = .string s ∧ s.size ≤ maxLen := Iff.rfl
theorem All2.append : ∀ {a : List CK} {x : List Value} {b : List CK} {y : List Value}, All2 enc P w base spare held a x → All2 enc P w base spare held b y → All2 enc P w base spare held (a ++ b) (x ++ y)
  | [], [], _, _, _, h => h
  | _ :: _, _ :: _, _, _, h, h2 => ⟨h.1, h.2.append h2⟩
  | [], _ :: _, _, _, h, _ => h.elim
  | _ :: _, [], _, _, h, _ => h.elim
theorem All2.length : ∀ {a : List CK} {x : List Value}, All2 enc P w base spare held a x → x.length = a.length
  | [], [], _ => rfl
  | _ :: _, _ :: _, h => by simp [h.2.length]
  | [], _ :: _, h => h.elim
  | _ :: _, [], h => h.elim

theorem flatFs_ok {g : TypeId → Option (List CK)} {n : Nat} (hg : ∀ t ks, g t = some ks → ∀ cs y, DataW.trod enc P w base spare held n t cs = some y → All2 enc P w base spare held ks cs) :
    ∀ (fs : List Field) (off : Nat) (r : List CK) (cs : List Value), flatFs P g off fs = some r → (∀ f ∈ fs, ∃ y, DataW.trod enc P w base spare held n f.type ((cs.drop f.offset).take (P.cellsOf f.type)) = some y) →
      All2 enc P w base spare held r ((cs.drop off).take r.length)
  | [], off, r, cs, h, _ => by simp [flatFs] at h; subst h; simp [All2]
  | f :: fs, off, r, cs, h, hf => by
    simp only [flatFs] at h
    split at h
    · cases h
    · rename_i a ha
      cases hb : (f.offset == off && P.cellsOf f.type == a.length) with
      | false => rw [hb] at h; cases h
      | true =>
        rw [hb] at h
        simp only [cond_true] at h
        simp only [Bool.and_eq_true, beq_iff_eq] at hb
        split at h
        · cases h
        · rename_i r' hr'
          cases h
          obtain ⟨y, hy⟩ := hf f (by simp)
          rw [hb.1, hb.2] at hy
          have h1 := hg _ _ ha _ _ hy
          have h2 := flatFs_ok hg fs _ r' cs hr' (fun f' hf' => hf f' (by simp [hf']))
          rw [List.length_append, List.take_add, List.drop_drop]
          exact h1.append h2

theorem flatK_ok : ∀ (fuel : Nat) (t : TypeId) (ks : List CK), flatK P fuel t = some ks → ∀ (n : Nat) (cs : List Value) (y : DataW H × List MemPlace), DataW.trod enc P w base spare held n t cs = some y → All2 enc P w base spare held ks cs
  | 0, t, ks, h => by cases h
  | fuel + 1, t, ks, h => by
    intro n cs y hy
    simp only [flatK] at h
    split at h
    · rename_i k hk
      cases h
      obtain ⟨m, rfl, _, hw⟩ := DataW.trod_int hk hy
      exact ⟨⟨m, rfl, hw⟩, trivial⟩
    · rename_i hk
      cases h
      cases n with
      | zero => simp [DataW.trod] at hy
      | succ n =>
        unfold DataW.trod at hy
        rw [hk] at hy
        split at hy <;> simp_all
        exact ⟨⟨_, rfl⟩, trivial⟩
    · rename_i hk
      cases h
      obtain ⟨s, rfl, _, hs⟩ := DataW.trod_string hk hy
      exact ⟨⟨s, rfl, hs⟩, trivial⟩
    · rename_i e hk
      cases h
      rcases DataW.trod_slice hk hy with ⟨rfl, _⟩ | ⟨a, l, c, _, _, _, _, rfl, _⟩
      · exact ⟨⟨hk, n, y, hy⟩, trivial⟩
      · exact ⟨⟨hk, n, y, hy⟩, trivial⟩
    · rename_i fs hk
      split at h
      · cases h
      · rename_i r hr
        cases hb : (P.cellsOf t == r.length) with
        | false => rw [hb] at h; cases h
        | true =>
          rw [hb] at h
          cases h
          simp only [beq_iff_eq] at hb
          obtain ⟨xs, m, rfl, _, hlen, hxl, hf⟩ := DataW.trod_struct hk hy
          have h2 := flatFs_ok (cs := cs) (fun t' ks' h' cs' y' hy' => flatK_ok fuel t' ks' h' m cs' y' hy') fs.toList 0 _ hr (fun f hf' => by
            obtain ⟨i, hi, he⟩ := List.getElem_of_mem hf'
            have := hf i f (by rw [← he]; simp)
            rw [this]
            exact ⟨_, List.getElem?_eq_getElem (by rw [hxl]; simpa using hi)⟩)
          rw [List.drop_zero, List.take_of_length_le (by omega)] at h2
          exact h2
    · cases h

/-- a slice whose elements are of one form -/
theorem open_rows {α : Type} {en : α → List Value} {sz : Nat} {hl : ∀ x, (en x).length = sz} {hp : ∀ x, ∀ c ∈ en x, c.oneCell' = true} {t e : TypeId} {ks : List CK} (fuel : Nat) (dec : List Value → α) (hk : flatK P fuel e = some ks) (hdec : ∀ cs, All2 enc P w base spare held ks cs → en (dec cs) = cs)
    (hsz : P.cellsOf e = sz) (hpos : 0 < sz) {v : Value} (h : okK enc P w base spare held (.slice t e) v) :
    ∃ A xs c, v = .slice A xs.length c ∧ Sl (Rp.flat en sz hl hp) w (· < w.heap.size) A c xs ∧ ∀ x ∈ xs, All2 enc P w base spare held ks (en x) := by
  obtain ⟨ht, n, y, hy⟩ := h
  rcases open_slice ht hy with ⟨hcs, _⟩ | ⟨a, len, cap, m, n', _, _, hcs, _, hlc, hcm, hm, _, hi⟩
  · cases hcs
    exact ⟨none, [], 0, rfl, ⟨Nat.le_refl _, Nat.zero_le _, fun j x hj => by simp at hj⟩, by simp⟩
  · cases hcs
    have hml : len ≤ m := by rw [hm]; split <;> omega
    obtain ⟨f, hf⟩ := choose_lt (n := len) (p := fun i cs' => w.cells? base (a.add (i * P.cellsOf e)) (P.cellsOf e) = some cs' ∧ All2 enc P w base spare held ks cs') (fun i hi' => by
      obtain ⟨cs', h1, h2⟩ := hi i (by omega)
      exact ⟨cs', h1, flatK_ok fuel e ks hk _ _ _ h2⟩)
    refine ⟨some a, (List.range len).map fun i => dec (f i), cap, by simp, ⟨by simpa using hlc, hcm, fun j x hj => ?_⟩, ?_⟩
    · have hlt : j < len := by
        have := (List.getElem?_eq_some_iff.1 hj).1
        simpa using this
      have hx : x = dec (f j) := by
        rw [List.getElem?_map, List.getElem?_range hlt] at hj
        simpa using hj.symm
      obtain ⟨h1, h2⟩ := hf j hlt
      have he := hdec _ h2
      rw [hsz] at h1
      obtain ⟨_, hlen, hc⟩ := World.cells?_some h1
      have hC : Cells w ((adOf (some a)).add (j * sz)) (f j) := fun q u hq => by
        have hql : q < sz := by rw [← hlen]; exact (List.getElem?_eq_some_iff.1 hq).1
        show w.cell? ((a.add (j * sz)).add q) = some u
        rw [hc q hql]; exact hq
      refine ⟨rfl, ?_, f j, ?_, hC⟩
      · have := hC.lt (by omega)
        rw [add_block] at this
        exact this
      · show f j = en x
        rw [hx, he]
    · intro x hx
      simp only [List.mem_map, List.mem_range] at hx
      obtain ⟨i, hi', rfl⟩ := hx
      obtain ⟨_, h2⟩ := hf i hi'
      rw [hdec _ h2]; exact h2

theorem open_agg {r : Reach} {b0 : Nat} {t : TypeId} {fs : Array Field} {v : Value} {d : DataW H} {p : List MemPlace} {ks : List CK} (fuel : Nat) (hs : P.underlying t = some (.struct fs)) (hk : flatK P fuel t = some ks) (hv : Value.okWide P w r b0 t v) (h : DataW.Trod enc P w base spare held t v d p) :
    ∃ cs, v = .agg cs.toArray ∧ All2 enc P w base spare held ks cs := by
  obtain ⟨cs, rfl, hsz⟩ := okWide_struct hs hv
  obtain ⟨l⟩ := cs
  obtain ⟨n, hn⟩ := h
  have := flatK_ok fuel t ks hk n _ _ hn
  refine ⟨l, rfl, ?_⟩
  simpa [Value.cells] using this
end
end Go.Vc
end

section
/- The context of this seat's program for the calculus V. -/
namespace Go.Proofs.Ytaimlmfncjbmjaa
open Go.Vc
def tab : Tab := [
  (1, ⟨.other, 1, .nilFunc, 8⟩),
  (2, ⟨.int .i64, 1, (.int .i64 0), 8⟩),
  (3, ⟨.int .i64, 1, (.int .i64 0), 8⟩),
  (4, ⟨.bool, 1, (.bool false), 1⟩),
  (5, ⟨.int .u8, 1, (.int .u8 0), 1⟩),
  (9, ⟨.string, 1, (.string ⟨#[]⟩), 16⟩),
  (12, ⟨.int .u64, 1, (.int .u64 0), 8⟩),
  (20, ⟨.other, 1, .nilIface, 16⟩),
  (21, ⟨.int .i32, 1, (.int .i32 0), 4⟩),
  (22, ⟨.struct [(0, 1), (1, 1)], 2, (.agg #[(.int .i64 0), (.int .i64 0)]), 16⟩),
  (23, ⟨.struct [(0, 1), (1, 1)], 2, (.agg #[(.int .i64 0), (.int .i64 0)]), 16⟩),
  (24, ⟨.slice 80, 1, (.slice none 0 0), 24⟩),
  (25, ⟨.struct [(0, 1), (1, 1), (2, 2), (4, 1)], 5, (.agg #[(.int .i64 0), (.int .i64 0), (.int .i64 0), (.int .i64 0), (.slice none 0 0)]), 56⟩),
  (26, ⟨.struct [(0, 1), (1, 1), (2, 2), (4, 1)], 5, (.agg #[(.int .i64 0), (.int .i64 0), (.int .i64 0), (.int .i64 0), (.slice none 0 0)]), 56⟩),
  (27, ⟨.slice 3, 1, (.slice none 0 0), 24⟩),
  (28, ⟨.struct [(0, 1), (1, 1)], 2, (.agg #[(.slice none 0 0), (.slice none 0 0)]), 48⟩),
  (29, ⟨.struct [(0, 1), (1, 1)], 2, (.agg #[(.slice none 0 0), (.slice none 0 0)]), 48⟩),
  (30, ⟨.struct [(0, 1), (1, 1)], 2, (.agg #[(.int .i64 0), (.slice none 0 0)]), 32⟩),
  (31, ⟨.struct [(0, 1), (1, 1)], 2, (.agg #[(.int .i64 0), (.slice none 0 0)]), 32⟩),
  (32, ⟨.other, 1, .nilFunc, 8⟩),
  (33, ⟨.other, 1, .nilFunc, 8⟩),
  (34, ⟨.int .i64, 1, (.int .i64 0), 8⟩),
  (35, ⟨.other, 1, .nilFunc, 8⟩),
  (36, ⟨.struct [(0, 1), (1, 1)], 2, (.agg #[(.int .i64 0), (.int .i64 0)]), 16⟩),
  (37, ⟨.slice 105, 1, (.slice none 0 0), 24⟩),
  (38, ⟨.struct [(0, 1), (1, 1), (2, 2), (4, 1)], 5, (.agg #[(.int .i64 0), (.int .i64 0), (.int .i64 0), (.int .i64 0), (.slice none 0 0)]), 56⟩),
  (39, ⟨.struct [(0, 1), (1, 1), (2, 2), (4, 1)], 5, (.agg #[(.int .i64 0), (.int .i64 0), (.int .i64 0), (.int .i64 0), (.slice none 0 0)]), 56⟩),
  (40, ⟨.other, 1, .nilFunc, 8⟩),
  (41, ⟨.slice 4, 1, (.slice none 0 0), 24⟩),
  (43, ⟨.other, 1, .nilFunc, 8⟩),
  (44, ⟨.struct [(0, 1), (1, 1)], 2, (.agg #[(.slice none 0 0), (.slice none 0 0)]), 48⟩),
  (45, ⟨.other, 1, .nilFunc, 8⟩),
  (46, ⟨.struct [(0, 1), (1, 1)], 2, (.agg #[(.int .i64 0), (.slice none 0 0)]), 32⟩),
  (47, ⟨.other, 1, .nilFunc, 8⟩),
  (48, ⟨.other, 1, .nilFunc, 8⟩),
  (49, ⟨.other, 1, .nilFunc, 8⟩),
  (50, ⟨.other, 1, .nilFunc, 8⟩),
  (52, ⟨.other, 1, .nilFunc, 8⟩),
  (53, ⟨.other, 1, .nilFunc, 8⟩),
  (54, ⟨.other, 1, .nilFunc, 8⟩),
  (55, ⟨.slice 85, 1, (.slice none 0 0), 24⟩),
  (56, ⟨.other, 1, .nilFunc, 8⟩),
  (57, ⟨.other, 1, .nilFunc, 8⟩),
  (59, ⟨.other, 1, .nilFunc, 8⟩),
  (60, ⟨.slice 103, 1, (.slice none 0 0), 24⟩),
  (61, ⟨.other, 1, .nilFunc, 8⟩),
  (62, ⟨.other, 1, .nilFunc, 8⟩),
  (63, ⟨.other, 1, .nilFunc, 8⟩),
  (65, ⟨.other, 1, .nilFunc, 8⟩),
  (66, ⟨.other, 1, .nilFunc, 8⟩),
  (67, ⟨.other, 1, .nilFunc, 8⟩),
  (69, ⟨.other, 1, .nilFunc, 8⟩),
  (70, ⟨.other, 1, .nilFunc, 8⟩),
  (71, ⟨.other, 1, .nilFunc, 8⟩),
  (72, ⟨.slice 159, 1, (.slice none 0 0), 24⟩),
  (73, ⟨.other, 1, .nilFunc, 8⟩),
  (74, ⟨.other, 1, .nilFunc, 8⟩),
  (75, ⟨.slice 36, 1, (.slice none 0 0), 24⟩),
  (77, ⟨.other, 1, .nilFunc, 8⟩),
  (78, ⟨.other, 1, .nilFunc, 8⟩),
  (79, ⟨.struct [(0, 1), (1, 1), (2, 1), (3, 2)], 5, (.agg #[(.int .i64 0), (.int .i64 0), (.int .i64 0), (.int .i64 0), (.int .i64 0)]), 40⟩),
  (80, ⟨.struct [(0, 1), (1, 1), (2, 1), (3, 2)], 5, (.agg #[(.int .i64 0), (.int .i64 0), (.int .i64 0), (.int .i64 0), (.int .i64 0)]), 40⟩),
  (81, ⟨.other, 1, .nilFunc, 8⟩),
  (82, ⟨.other, 1, .nilFunc, 8⟩),
  (83, ⟨.array 4 3, 4, (.agg #[(.int .i64 0), (.int .i64 0), (.int .i64 0), (.int .i64 0)]), 32⟩),
  (84, ⟨.struct [(0, 1), (1, 2)], 3, (.agg #[(.int .i64 0), (.int .i64 0), (.int .i64 0)]), 24⟩),
  (85, ⟨.struct [(0, 1), (1, 2)], 3, (.agg #[(.int .i64 0), (.int .i64 0), (.int .i64 0)]), 24⟩),
  (86, ⟨.other, 1, .nilFunc, 8⟩),
  (87, ⟨.other, 1, .nilFunc, 8⟩),
  (88, ⟨.int .u64, 1, (.int .u64 0), 8⟩),
  (90, ⟨.other, 1, .nilFunc, 8⟩),
  (91, ⟨.other, 1, .nilFunc, 8⟩),
  (92, ⟨.other, 1, .nilFunc, 8⟩),
  (93, ⟨.other, 1, .nilFunc, 8⟩),
  (94, ⟨.other, 1, .nilFunc, 8⟩),
  (95, ⟨.slice 23, 1, (.slice none 0 0), 24⟩),
  (97, ⟨.other, 1, .nilFunc, 8⟩),
  (98, ⟨.other, 1, .nilFunc, 8⟩),
  (99, ⟨.other, 1, .nilFunc, 8⟩),
  (100, ⟨.other, 1, .nilFunc, 8⟩),
  (101, ⟨.other, 1, .nilFunc, 8⟩),
  (102, ⟨.struct [(0, 1), (1, 2)], 3, (.agg #[(.int .i64 0), (.int .i64 0), (.int .i64 0)]), 24⟩),
  (103, ⟨.struct [(0, 1), (1, 2)], 3, (.agg #[(.int .i64 0), (.int .i64 0), (.int .i64 0)]), 24⟩),
  (104, ⟨.struct [(0, 1), (1, 1), (2, 1), (3, 2)], 5, (.agg #[(.int .i64 0), (.int .i64 0), (.int .i64 0), (.int .i64 0), (.int .i64 0)]), 40⟩),
  (105, ⟨.struct [(0, 1), (1, 1), (2, 1), (3, 2)], 5, (.agg #[(.int .i64 0), (.int .i64 0), (.int .i64 0), (.int .i64 0), (.int .i64 0)]), 40⟩),
  (106, ⟨.other, 1, .nilFunc, 8⟩),
  (107, ⟨.other, 1, .nilFunc, 8⟩),
  (108, ⟨.other, 1, .nilFunc, 8⟩),
  (109, ⟨.other, 1, .nilFunc, 8⟩),
  (110, ⟨.other, 1, .nilFunc, 8⟩),
  (111, ⟨.other, 1, .nilFunc, 8⟩),
  (112, ⟨.other, 1, .nilFunc, 8⟩),
  (114, ⟨.other, 1, .nilFunc, 8⟩),
  (116, ⟨.other, 1, .nilFunc, 8⟩),
  (117, ⟨.other, 1, .nilFunc, 8⟩),
  (118, ⟨.other, 1, .nilFunc, 8⟩),
  (119, ⟨.other, 1, .nilFunc, 8⟩),
  (120, ⟨.other, 1, .nilFunc, 8⟩),
  (121, ⟨.slice 139, 1, (.slice none 0 0), 24⟩),
  (123, ⟨.other, 1, .nilFunc, 8⟩),
  (124, ⟨.other, 1, .nilFunc, 8⟩),
  (125, ⟨.other, 1, .nilFunc, 8⟩),
  (126, ⟨.other, 1, (.pointer none), 8⟩),
  (127, ⟨.other, 1, (.map none), 8⟩),
  (128, ⟨.other, 1, .nilFunc, 8⟩),
  (129, ⟨.other, 1, .nilFunc, 8⟩),
  (130, ⟨.struct [(0, 5), (5, 1), (6, 1), (7, 1), (8, 1), (9, 1)], 10, (.agg #[(.int .i64 0), (.int .i64 0), (.int .i64 0), (.int .i64 0), (.slice none 0 0), .nilFunc, .nilFunc, .nilFunc, .nilFunc, (.map none)]), 96⟩),
  (131, ⟨.struct [(0, 5), (5, 1), (6, 1), (7, 1), (8, 1), (9, 1)], 10, (.agg #[(.int .i64 0), (.int .i64 0), (.int .i64 0), (.int .i64 0), (.slice none 0 0), .nilFunc, .nilFunc, .nilFunc, .nilFunc, (.map none)]), 96⟩),
  (133, ⟨.other, 1, .nilFunc, 8⟩),
  (134, ⟨.slice 27, 1, (.slice none 0 0), 24⟩),
  (135, ⟨.other, 1, .nilFunc, 8⟩),
  (136, ⟨.other, 1, .nilFunc, 8⟩),
  (137, ⟨.other, 1, .nilFunc, 8⟩),
  (138, ⟨.array 401 4, 401, (.agg (Array.replicate 401 (.bool false))), 401⟩),
  (139, ⟨.array 401 4, 401, (.agg (Array.replicate 401 (.bool false))), 401⟩),
  (141, ⟨.other, 1, .nilFunc, 8⟩),
  (142, ⟨.other, 1, .nilFunc, 8⟩),
  (143, ⟨.array 6 4, 6, (.agg #[(.bool false), (.bool false), (.bool false), (.bool false), (.bool false), (.bool false)]), 6⟩),
  (144, ⟨.other, 1, .nilFunc, 8⟩),
  (145, ⟨.other, 1, .nilFunc, 8⟩),
  (146, ⟨.other, 1, .nilFunc, 8⟩),
  (147, ⟨.other, 1, .nilFunc, 8⟩),
  (148, ⟨.other, 1, .nilFunc, 8⟩),
  (149, ⟨.other, 1, .nilFunc, 8⟩),
  (150, ⟨.other, 1, .nilFunc, 8⟩),
  (151, ⟨.other, 1, .nilFunc, 8⟩),
  (152, ⟨.other, 1, .nilFunc, 8⟩),
  (153, ⟨.other, 1, .nilFunc, 8⟩),
  (154, ⟨.struct [(0, 1), (1, 1)], 2, (.agg #[(.int .i64 0), (.int .i64 0)]), 16⟩),
  (155, ⟨.struct [(0, 1), (1, 1)], 2, (.agg #[(.int .i64 0), (.int .i64 0)]), 16⟩),
  (156, ⟨.other, 1, .nilFunc, 8⟩),
  (158, ⟨.other, 1, .nilFunc, 8⟩),
  (159, ⟨.int .u16, 1, (.int .u16 0), 2⟩),
  (160, ⟨.other, 1, .nilFunc, 8⟩),
  (161, ⟨.other, 1, .nilFunc, 8⟩),
  (162, ⟨.other, 1, .nilFunc, 8⟩),
  (163, ⟨.other, 1, .nilFunc, 8⟩),
  (164, ⟨.other, 1, .nilFunc, 8⟩),
  (165, ⟨.struct [(0, 1)], 1, (.agg #[.nilFunc]), 8⟩),
  (166, ⟨.struct [(0, 1)], 1, (.agg #[.nilFunc]), 8⟩),
  (167, ⟨.other, 1, .nilFunc, 8⟩),
  (168, ⟨.other, 1, .nilFunc, 8⟩),
  (169, ⟨.other, 1, .nilFunc, 8⟩),
  (170, ⟨.other, 1, .nilFunc, 8⟩),
  (171, ⟨.other, 1, .nilFunc, 8⟩),
  (172, ⟨.other, 1, .nilFunc, 8⟩),
  (178, ⟨.int .u32, 1, (.int .u32 0), 4⟩),
  (181, ⟨.other, 1, .nilFunc, 8⟩),
  (182, ⟨.other, 1, (.pointer none), 8⟩)]
theorem tab_ok : tab.ok Try.prog :=
  ⟨⟨⟨_, Try.underlying1, rfl⟩, by kernel_rfl⟩,
   ⟨Try.underlying2, by kernel_rfl⟩,
   ⟨Try.underlying3, by kernel_rfl⟩,
   ⟨Try.underlying4, by kernel_rfl⟩,
   ⟨Try.underlying5, by kernel_rfl⟩,
   ⟨Try.underlying9, by kernel_rfl⟩,
   ⟨Try.underlying12, by kernel_rfl⟩,
   ⟨⟨_, Try.underlying20, rfl⟩, by kernel_rfl⟩,
   ⟨Try.underlying21, by kernel_rfl⟩,
   ⟨⟨_, Try.underlying22, by kernel_rfl⟩, by kernel_rfl⟩,
   ⟨⟨_, Try.underlying23, by kernel_rfl⟩, by kernel_rfl⟩,
   ⟨Try.underlying24, by kernel_rfl⟩,
   ⟨⟨_, Try.underlying25, by kernel_rfl⟩, by kernel_rfl⟩,
   ⟨⟨_, Try.underlying26, by kernel_rfl⟩, by kernel_rfl⟩,
   ⟨Try.underlying27, by kernel_rfl⟩,
   ⟨⟨_, Try.underlying28, by kernel_rfl⟩, by kernel_rfl⟩,
   ⟨⟨_, Try.underlying29, by kernel_rfl⟩, by kernel_rfl⟩,
   ⟨⟨_, Try.underlying30, by kernel_rfl⟩, by kernel_rfl⟩,
   ⟨⟨_, Try.underlying31, by kernel_rfl⟩, by kernel_rfl⟩,
   ⟨⟨_, Try.underlying32, rfl⟩, by kernel_rfl⟩,
   ⟨⟨_, Try.underlying33, rfl⟩, by kernel_rfl⟩,
   ⟨Try.underlying34, by kernel_rfl⟩,
   ⟨⟨_, Try.underlying35, rfl⟩, by kernel_rfl⟩,
   ⟨⟨_, Try.underlying36, by kernel_rfl⟩, by kernel_rfl⟩,
   ⟨Try.underlying37, by kernel_rfl⟩,
   ⟨⟨_, Try.underlying38, by kernel_rfl⟩, by kernel_rfl⟩,
   ⟨⟨_, Try.underlying39, by kernel_rfl⟩, by kernel_rfl⟩,
   ⟨⟨_, Try.underlying40, rfl⟩, by kernel_rfl⟩,
   ⟨Try.underlying41, by kernel_rfl⟩,
   ⟨⟨_, Try.underlying43, rfl⟩, by kernel_rfl⟩,
   ⟨⟨_, Try.underlying44, by kernel_rfl⟩, by kernel_rfl⟩,
   ⟨⟨_, Try.underlying45, rfl⟩, by kernel_rfl⟩,
   ⟨⟨_, Try.underlying46, by kernel_rfl⟩, by kernel_rfl⟩,
   ⟨⟨_, Try.underlying47, rfl⟩, by kernel_rfl⟩,
   ⟨⟨_, Try.underlying48, rfl⟩, by kernel_rfl⟩,
   ⟨⟨_, Try.underlying49, rfl⟩, by kernel_rfl⟩,
   ⟨⟨_, Try.underlying50, rfl⟩, by kernel_rfl⟩,
   ⟨⟨_, Try.underlying52, rfl⟩, by kernel_rfl⟩,
   ⟨⟨_, Try.underlying53, rfl⟩, by kernel_rfl⟩,
   ⟨⟨_, Try.underlying54, rfl⟩, by kernel_rfl⟩,
   ⟨Try.underlying55, by kernel_rfl⟩,
   ⟨⟨_, Try.underlying56, rfl⟩, by kernel_rfl⟩,
   ⟨⟨_, Try.underlying57, rfl⟩, by kernel_rfl⟩,
   ⟨⟨_, Try.underlying59, rfl⟩, by kernel_rfl⟩,
   ⟨Try.underlying60, by kernel_rfl⟩,
   ⟨⟨_, Try.underlying61, rfl⟩, by kernel_rfl⟩,
   ⟨⟨_, Try.underlying62, rfl⟩, by kernel_rfl⟩,
   ⟨⟨_, Try.underlying63, rfl⟩, by kernel_rfl⟩,
   ⟨⟨_, Try.underlying65, rfl⟩, by kernel_rfl⟩,
   ⟨⟨_, Try.underlying66, rfl⟩, by kernel_rfl⟩,
   ⟨⟨_, Try.underlying67, rfl⟩, by kernel_rfl⟩,
   ⟨⟨_, Try.underlying69, rfl⟩, by kernel_rfl⟩,
   ⟨⟨_, Try.underlying70, rfl⟩, by kernel_rfl⟩,
   ⟨⟨_, Try.underlying71, rfl⟩, by kernel_rfl⟩,
   ⟨Try.underlying72, by kernel_rfl⟩,
   ⟨⟨_, Try.underlying73, rfl⟩, by kernel_rfl⟩,
   ⟨⟨_, Try.underlying74, rfl⟩, by kernel_rfl⟩,
   ⟨Try.underlying75, by kernel_rfl⟩,
   ⟨⟨_, Try.underlying77, rfl⟩, by kernel_rfl⟩,
   ⟨⟨_, Try.underlying78, rfl⟩, by kernel_rfl⟩,
   ⟨⟨_, Try.underlying79, by kernel_rfl⟩, by kernel_rfl⟩,
   ⟨⟨_, Try.underlying80, by kernel_rfl⟩, by kernel_rfl⟩,
   ⟨⟨_, Try.underlying81, rfl⟩, by kernel_rfl⟩,
   ⟨⟨_, Try.underlying82, rfl⟩, by kernel_rfl⟩,
   ⟨Try.underlying83, by kernel_rfl⟩,
   ⟨⟨_, Try.underlying84, by kernel_rfl⟩, by kernel_rfl⟩,
   ⟨⟨_, Try.underlying85, by kernel_rfl⟩, by kernel_rfl⟩,
   ⟨⟨_, Try.underlying86, rfl⟩, by kernel_rfl⟩,
   ⟨⟨_, Try.underlying87, rfl⟩, by kernel_rfl⟩,
   ⟨Try.underlying88, by kernel_rfl⟩,
   ⟨⟨_, Try.underlying90, rfl⟩, by kernel_rfl⟩,
   ⟨⟨_, Try.underlying91, rfl⟩, by kernel_rfl⟩,
   ⟨⟨_, Try.underlying92, rfl⟩, by kernel_rfl⟩,
   ⟨⟨_, Try.underlying93, rfl⟩, by kernel_rfl⟩,
   ⟨⟨_, Try.underlying94, rfl⟩, by kernel_rfl⟩,
   ⟨Try.underlying95, by kernel_rfl⟩,
   ⟨⟨_, Try.underlying97, rfl⟩, by kernel_rfl⟩,
   ⟨⟨_, Try.underlying98, rfl⟩, by kernel_rfl⟩,
   ⟨⟨_, Try.underlying99, rfl⟩, by kernel_rfl⟩,
   ⟨⟨_, Try.underlying100, rfl⟩, by kernel_rfl⟩,
   ⟨⟨_, Try.underlying101, rfl⟩, by kernel_rfl⟩,
   ⟨⟨_, Try.underlying102, by kernel_rfl⟩, by kernel_rfl⟩,
   ⟨⟨_, Try.underlying103, by kernel_rfl⟩, by kernel_rfl⟩,
   ⟨⟨_, Try.underlying104, by kernel_rfl⟩, by kernel_rfl⟩,
   ⟨⟨_, Try.underlying105, by kernel_rfl⟩, by kernel_rfl⟩,
   ⟨⟨_, Try.underlying106, rfl⟩, by kernel_rfl⟩,
   ⟨⟨_, Try.underlying107, rfl⟩, by kernel_rfl⟩,
   ⟨⟨_, Try.underlying108, rfl⟩, by kernel_rfl⟩,
   ⟨⟨_, Try.underlying109, rfl⟩, by kernel_rfl⟩,
   ⟨⟨_, Try.underlying110, rfl⟩, by kernel_rfl⟩,
   ⟨⟨_, Try.underlying111, rfl⟩, by kernel_rfl⟩,
   ⟨⟨_, Try.underlying112, rfl⟩, by kernel_rfl⟩,
   ⟨⟨_, Try.underlying114, rfl⟩, by kernel_rfl⟩,
   ⟨⟨_, Try.underlying116, rfl⟩, by kernel_rfl⟩,
   ⟨⟨_, Try.underlying117, rfl⟩, by kernel_rfl⟩,
   ⟨⟨_, Try.underlying118, rfl⟩, by kernel_rfl⟩,
   ⟨⟨_, Try.underlying119, rfl⟩, by kernel_rfl⟩,
   ⟨⟨_, Try.underlying120, rfl⟩, by kernel_rfl⟩,
   ⟨Try.underlying121, by kernel_rfl⟩,
   ⟨⟨_, Try.underlying123, rfl⟩, by kernel_rfl⟩,
   ⟨⟨_, Try.underlying124, rfl⟩, by kernel_rfl⟩,
   ⟨⟨_, Try.underlying125, rfl⟩, by kernel_rfl⟩,
   ⟨⟨_, Try.underlying126, rfl⟩, by kernel_rfl⟩,
   ⟨⟨_, Try.underlying127, rfl⟩, by kernel_rfl⟩,
   ⟨⟨_, Try.underlying128, rfl⟩, by kernel_rfl⟩,
   ⟨⟨_, Try.underlying129, rfl⟩, by kernel_rfl⟩,
   ⟨⟨_, Try.underlying130, by kernel_rfl⟩, by kernel_rfl⟩,
   ⟨⟨_, Try.underlying131, by kernel_rfl⟩, by kernel_rfl⟩,
   ⟨⟨_, Try.underlying133, rfl⟩, by kernel_rfl⟩,
   ⟨Try.underlying134, by kernel_rfl⟩,
   ⟨⟨_, Try.underlying135, rfl⟩, by kernel_rfl⟩,
   ⟨⟨_, Try.underlying136, rfl⟩, by kernel_rfl⟩,
   ⟨⟨_, Try.underlying137, rfl⟩, by kernel_rfl⟩,
   ⟨Try.underlying138, by kernel_rfl⟩,
   ⟨Try.underlying139, by kernel_rfl⟩,
   ⟨⟨_, Try.underlying141, rfl⟩, by kernel_rfl⟩,
   ⟨⟨_, Try.underlying142, rfl⟩, by kernel_rfl⟩,
   ⟨Try.underlying143, by kernel_rfl⟩,
   ⟨⟨_, Try.underlying144, rfl⟩, by kernel_rfl⟩,
   ⟨⟨_, Try.underlying145, rfl⟩, by kernel_rfl⟩,
   ⟨⟨_, Try.underlying146, rfl⟩, by kernel_rfl⟩,
   ⟨⟨_, Try.underlying147, rfl⟩, by kernel_rfl⟩,
   ⟨⟨_, Try.underlying148, rfl⟩, by kernel_rfl⟩,
   ⟨⟨_, Try.underlying149, rfl⟩, by kernel_rfl⟩,
   ⟨⟨_, Try.underlying150, rfl⟩, by kernel_rfl⟩,
   ⟨⟨_, Try.underlying151, rfl⟩, by kernel_rfl⟩,
   ⟨⟨_, Try.underlying152, rfl⟩, by kernel_rfl⟩,
   ⟨⟨_, Try.underlying153, rfl⟩, by kernel_rfl⟩,
   ⟨⟨_, Try.underlying154, by kernel_rfl⟩, by kernel_rfl⟩,
   ⟨⟨_, Try.underlying155, by kernel_rfl⟩, by kernel_rfl⟩,
   ⟨⟨_, Try.underlying156, rfl⟩, by kernel_rfl⟩,
   ⟨⟨_, Try.underlying158, rfl⟩, by kernel_rfl⟩,
   ⟨Try.underlying159, by kernel_rfl⟩,
   ⟨⟨_, Try.underlying160, rfl⟩, by kernel_rfl⟩,
   ⟨⟨_, Try.underlying161, rfl⟩, by kernel_rfl⟩,
   ⟨⟨_, Try.underlying162, rfl⟩, by kernel_rfl⟩,
   ⟨⟨_, Try.underlying163, rfl⟩, by kernel_rfl⟩,
   ⟨⟨_, Try.underlying164, rfl⟩, by kernel_rfl⟩,
   ⟨⟨_, Try.underlying165, by kernel_rfl⟩, by kernel_rfl⟩,
   ⟨⟨_, Try.underlying166, by kernel_rfl⟩, by kernel_rfl⟩,
   ⟨⟨_, Try.underlying167, rfl⟩, by kernel_rfl⟩,
   ⟨⟨_, Try.underlying168, rfl⟩, by kernel_rfl⟩,
   ⟨⟨_, Try.underlying169, rfl⟩, by kernel_rfl⟩,
   ⟨⟨_, Try.underlying170, rfl⟩, by kernel_rfl⟩,
   ⟨⟨_, Try.underlying171, rfl⟩, by kernel_rfl⟩,
   ⟨⟨_, Try.underlying172, rfl⟩, by kernel_rfl⟩,
   ⟨Try.underlying178, by kernel_rfl⟩,
   ⟨⟨_, Try.underlying181, rfl⟩, by kernel_rfl⟩,
   ⟨⟨_, Try.underlying182, rfl⟩, by kernel_rfl⟩, trivial⟩
noncomputable def G : Ctx := { P := Try.prog, T := tab, nf := 124, ok := tab_ok, mixed := by kernel_rfl, fok := by kernel_rfl }
end Go.Proofs.Ytaimlmfncjbmjaa
end

section
/- The data of package lamp (and of its reference), and its small functions, in plain Lean. -/
namespace Lp

structure Night where
  hours : Int
  least : Int
  most : Int
  lo : Int
  hi : Int
structure Store where
  cap : Int
  can : Int
  lo : Int
  hi : Int
  nights : List Night
structure Plan where
  cans : List Int
  wicks : List Int
structure Truth where
  start : Int
  burn : List Int
structure Dip where
  night : Int
  lo : Int
  hi : Int
structure Rng where
  lo : Int
  hi : Int
  deriving DecidableEq

def within (x lo hi : Int) : Bool := decide (lo ≤ x) && decide (x ≤ hi)
def rto (lo hi most : Int) : Bool := decide (0 ≤ lo) && (decide (lo ≤ hi) && decide (hi ≤ most))
def Night.valid (n : Night) : Bool := within n.hours 1 14 && (decide (1 ≤ n.least) && (decide (n.least ≤ n.most) && (decide (n.most ≤ 4) && rto n.lo n.hi 10)))
def Store.bad (s : Store) : Bool := !within s.cap 1 400 || (!within s.can 1 200 || (!rto s.lo s.hi s.cap || (decide ((s.nights.length : Int) = 0) || !s.nights.all Night.valid)))
def checkStore (s : Store) : Int := if (s.nights.length : Int) > 6 then 3 else if s.bad then 1 else 0
def cansOk (s : Store) (l : List Int) : Bool := decide ((l.length : Int) = s.nights.length) && l.all fun n => within n 0 2
def wicksOk (s : Store) (l : List Int) : Bool := decide ((l.length : Int) = s.nights.length) && (l.zip s.nights).all fun p => within p.1 p.2.least p.2.most
def check (s : Store) (p : Plan) : Int := if checkStore s ≠ 0 then checkStore s else if !cansOk s p.cans || !wicksOk s p.wicks then 2 else 0
def truthOk (s : Store) (t : Truth) : Bool := within t.start s.lo s.hi && (decide ((t.burn.length : Int) = s.nights.length) && (t.burn.zip s.nights).all fun p => within p.1 p.2.lo p.2.hi)

/-- a valid store -/
structure Store.Ok (s : Store) : Prop where
  few : s.nights.length ≤ 6
  some_ : 0 < s.nights.length
  cap : 1 ≤ s.cap ∧ s.cap ≤ 400
  can : 1 ≤ s.can ∧ s.can ≤ 200
  start : 0 ≤ s.lo ∧ s.lo ≤ s.hi ∧ s.hi ≤ s.cap
  night : ∀ n ∈ s.nights, 1 ≤ n.hours ∧ n.hours ≤ 14 ∧ 1 ≤ n.least ∧ n.least ≤ n.most ∧ n.most ≤ 4 ∧ 0 ≤ n.lo ∧ n.lo ≤ n.hi ∧ n.hi ≤ 10

theorem within_iff {x lo hi : Int} : within x lo hi = true ↔ lo ≤ x ∧ x ≤ hi := by simp [within]
theorem rto_iff {lo hi m : Int} : rto lo hi m = true ↔ 0 ≤ lo ∧ lo ≤ hi ∧ hi ≤ m := by simp [rto]
theorem checkStore_ok {s : Store} (h : checkStore s = 0) : s.Ok := by
  unfold checkStore at h
  split at h
  · omega
  · rename_i h6
    split at h
    · omega
    · rename_i hb
      simp only [Store.bad, Bool.or_eq_true, Bool.not_eq_true', not_or, Bool.not_eq_false, decide_eq_true_eq, within_iff, rto_iff] at hb
      obtain ⟨h1, h2, h3, h4, h5⟩ := hb
      refine ⟨by omega, by omega, h1, h2, h3, fun n hn => ?_⟩
      have := List.all_eq_true.1 h5 n hn
      simp only [Night.valid, Bool.and_eq_true, within_iff, rto_iff, decide_eq_true_eq] at this
      omega

/-- the oil after an evening -/
def now (s : Store) (oil cans : Int) : Int := if oil + cans * s.can < s.cap then oil + cans * s.can else s.cap
def need (n : Night) (wicks burn : Int) : Int := n.hours * wicks * burn
def rest (n : Night) (oil wicks burn : Int) : Int := if oil < need n wicks burn then 0 else oil - need n wicks burn
def litB (n : Night) (oil wicks burn : Int) : Bool := !decide (oil < need n wicks burn)

end Lp
end

section
/- How the data of package lamp lie in memory. -/
set_option linter.unusedVariables false
namespace Lp
open Go Go.Vc Go.RowKit
def encNight (x : Night) : List Value := [.int .i64 x.hours, .int .i64 x.least, .int .i64 x.most, .int .i64 x.lo, .int .i64 x.hi]
def dNight : Rp Night := Rp.flat encNight 5 (fun _ => rfl) (fun x c h => by simp [encNight] at h; rcases h with rfl | rfl | rfl | rfl | rfl <;> rfl)
def encDip (x : Dip) : List Value := [.int .i64 x.night, .int .i64 x.lo, .int .i64 x.hi]
def dDip : Rp Dip := Rp.flat encDip 3 (fun _ => rfl) (fun x c h => by simp [encDip] at h; rcases h with rfl | rfl | rfl <;> rfl)
def encRng (x : Rng) : List Value := [.int .i64 x.lo, .int .i64 x.hi]
def dRng : Rp Rng := Rp.flat encRng 2 (fun _ => rfl) (fun x c h => by simp [encRng] at h; rcases h with rfl | rfl <;> rfl)
abbrev dI : Rp Int := Rp.int .i64
abbrev dB : Rp Bool := Rp.bool

def vStore (s : Store) (A : Option Addr) (c : Nat) : Value := .agg #[.int .i64 s.cap, .int .i64 s.can, .int .i64 s.lo, .int .i64 s.hi, .slice A s.nights.length c]
def vPlan (p : Plan) (A : Option Addr) (c : Nat) (A' : Option Addr) (c' : Nat) : Value := .agg #[.slice A p.cans.length c, .slice A' p.wicks.length c']
def vTruth (t : Truth) (A : Option Addr) (c : Nat) : Value := .agg #[.int .i64 t.start, .slice A t.burn.length c]

/-- readable in w -/
abbrev Rd {α : Type} (d : Rp α) (w : World) (A : Option Addr) (c : Nat) (xs : List α) : Prop := Sl d w (· < w.heap.size) A c xs
theorem Rd.mv {α : Type} {d : Rp α} {w w' : World} {A : Option Addr} {c : Nat} {xs : List α} (h : Rd d w A c xs) (g : w.grownBy w' none) : Rd d w' A c xs := h.since (gr_below g)

theorem _root_.Go.Vc.Sl.bd {α : Type} {d : Rp α} {w : World} {F : Nat → Prop} {A : Option Addr} {c : Nat} {xs : List α} (h : Sl d w F A c xs) : (xs.length : Int) ≤ 9223372036854775807 := by
  have h1 := h.cap
  have h2 := h.big
  unfold maxLen at h2
  omega

/-- an element of a list of one form: its place and its cells, in every later world -/
theorem rd_flat {α : Type} {enc : α → List Value} {sz : Nat} {hl : ∀ x, (enc x).length = sz} {hp : ∀ x, ∀ c ∈ enc x, c.oneCell' = true} {w : World} {A : Option Addr} {c : Nat} {xs : List α}
    (h : Rd (Rp.flat enc sz hl hp) w A c xs) {j : Nat} (hj : j < xs.length) : A = some (adOf A) ∧ ∀ w', Below w.heap.size w w' → Cells w' ((adOf A).add (j * sz)) (enc (xs[j]'hj)) := by
  obtain ⟨h1, h2, cs, hk, hc⟩ := h.at_ j _ (List.getElem?_eq_getElem hj)
  have hk' : cs = enc (xs[j]'hj) := hk
  subst hk'
  exact ⟨h1, fun w' hb => hc.move (by rw [add_block]; exact hb.block _ h2)⟩

theorem flat_drop {α : Type} {enc : α → List Value} {sz : Nat} (hl : ∀ x, (enc x).length = sz) : ∀ (xs : List α) (j : Nat) (hj : j < xs.length), enc (xs[j]'hj) <+: (xs.flatMap enc).drop (j * sz)
  | [], j, hj => by simp at hj
  | x :: xs, 0, _ => by simp [List.flatMap_cons]
  | x :: xs, j + 1, hj => by
    have h := flat_drop hl xs j (by simpa using hj)
    simp only [List.flatMap_cons, List.getElem_cons_succ]
    rw [Nat.add_mul, Nat.one_mul, Nat.add_comm, ← hl x, List.drop_length_add_append]
    rw [hl x]; exact h
/-- a literal, as a slice that is read -/
theorem rd_lit {α : Type} {enc : α → List Value} {sz : Nat} {hl : ∀ x, (enc x).length = sz} {hp : ∀ x, ∀ c ∈ enc x, c.oneCell' = true} {w : World} {g e : Nat} {cs : List Value} (hB : Blk w g cs e) (xs : List α) (hcs : cs = xs.flatMap enc)
    (hn : xs.length ≤ maxLen) : Rd (Rp.flat enc sz hl hp) w (some ⟨g, 0, none⟩) xs.length xs := by
  subst hcs
  refine ⟨Nat.le_refl _, hn, fun j x hj => ⟨rfl, hB.lt, enc x, rfl, ?_⟩⟩
  obtain ⟨hlt, he⟩ := List.getElem?_eq_some_iff.1 hj
  subst he
  have := hB.cells (j * sz) (a := (⟨g, 0, none⟩ : Addr).add (j * sz)) (by rw [add_plain, Nat.zero_add]) (flat_drop hl xs j hlt)
  exact this

theorem w64 {x : Int} (h1 : -9223372036854775808 ≤ x) (h2 : x ≤ 9223372036854775807) : IntKind.i64.wrap x = x := by
  rw [IntKind.wrap_i64]
  omega
end Lp
end

section
/- Walks: package lamp's small functions; what is asked of all elements of a list. -/
set_option linter.unusedVariables false
namespace Go.Proofs.Ytaimlmfncjbmjaa
open Go Go.Vc Go.RowKit Lp

theorem within_ok (x lo hi : Int) (w : World) : Calls Try.prog 59 #[.int .i64 x, .int .i64 lo, .int .i64 hi] w fun e w' => e = .returned (.bool (within x lo hi)) ∧ w.grownBy w' none := by
  refine calls (G := G) (args := [.int .i64 x, .int .i64 lo, .int .i64 hi]) Try.func59 rfl rfl rfl ?_
  refine M.at_ [10] rfl (M.case 10 rfl (fun h1 => ?_) (fun h1 => ?_))
  · refine M.run rfl (M.retF rfl rfl ⟨?_, gr_refl _ _⟩)
    simp [within, h1, oneOrTuple]
  · refine M.run rfl (M.retF rfl rfl ⟨?_, gr_refl _ _⟩)
    simp [within, h1, oneOrTuple]

theorem has_ok (lo hi x : Int) (w : World) : Calls Try.prog 97 #[.agg #[.int .i64 lo, .int .i64 hi], .int .i64 x] w fun e w' => e = .returned (.bool (within x lo hi)) ∧ w.grownBy w' none := by
  refine calls (G := G) (args := [.agg #[.int .i64 lo, .int .i64 hi], .int .i64 x]) Try.func97 rfl rfl rfl ?_
  refine M.run rfl (M.nw rfl fun g w1 b1 e1 l1 => M.run rfl (M.ld rfl (b1.cell rfl rfl) (M.run rfl (M.ld rfl (b1.cell rfl rfl) (M.run rfl (M.cl rfl (within_ok _ _ _ _) ?_))))))
  rintro e w2 ⟨rfl, e2⟩
  exact ⟨_, rfl, M.run rfl (M.retF rfl rfl ⟨rfl, gr_trans e1 e2⟩)⟩

theorem to_ok (lo hi m : Int) (w : World) : Calls Try.prog 60 #[.agg #[.int .i64 lo, .int .i64 hi], .int .i64 m] w fun e w' => e = .returned (.bool (rto lo hi m)) ∧ w.grownBy w' none := by
  refine calls (G := G) (args := [.agg #[.int .i64 lo, .int .i64 hi], .int .i64 m]) Try.func60 rfl rfl rfl ?_
  refine M.run rfl (M.nw rfl fun g w1 b1 e1 l1 => M.run rfl (M.ld rfl (b1.cell rfl rfl) (M.at_ [8] rfl (M.case 8 rfl (fun h1 => ?_) (fun h1 => ?_)))))
  · refine M.run rfl (M.ld rfl (b1.cell rfl rfl) (M.run rfl (M.ld rfl (b1.cell rfl rfl) (M.at_ [15] rfl (M.case 15 rfl (fun h2 => ?_) (fun h2 => ?_))))))
    · refine M.run rfl (M.ld rfl (b1.cell rfl rfl) (M.run rfl (M.retF rfl rfl ⟨?_, e1⟩)))
      simp [rto, h1, h2, oneOrTuple]
    · refine M.run rfl (M.retF rfl rfl ⟨?_, e1⟩)
      simp [rto, h1, h2, oneOrTuple]
  · refine M.run rfl (M.retF rfl rfl ⟨?_, e1⟩)
    simp [rto, h1, oneOrTuple]

theorem valid_ok (x : Night) (w : World) : Calls Try.prog 62 #[.agg (encNight x).toArray] w fun e w' => e = .returned (.bool x.valid) ∧ w.grownBy w' none := by
  refine calls (G := G) (args := [.agg (encNight x).toArray]) Try.func62 rfl rfl rfl ?_
  refine M.run rfl (M.nw rfl fun g w1 b1 e1 l1 => M.run rfl (M.ld rfl (b1.cell rfl rfl) (M.run rfl (M.cl rfl (within_ok _ _ _ _) ?_))))
  rintro e w2 ⟨rfl, e2⟩
  replace e1 := gr_trans e1 e2
  replace b1 := b1.mv0 e2
  refine ⟨_, rfl, M.at_ [6] rfl (M.case 6 rfl (fun h1 => ?_) (fun h1 => ?_))⟩
  · refine M.run rfl (M.ld rfl (b1.cell rfl rfl) (M.at_ [11] rfl (M.case 11 rfl (fun h2 => ?_) (fun h2 => ?_))))
    · refine M.run rfl (M.ld rfl (b1.cell rfl rfl) (M.run rfl (M.ld rfl (b1.cell rfl rfl) (M.at_ [18] rfl (M.case 18 rfl (fun h3 => ?_) (fun h3 => ?_))))))
      · refine M.run rfl (M.ld rfl (b1.cell rfl rfl) (M.at_ [23] rfl (M.case 23 rfl (fun h4 => ?_) (fun h4 => ?_))))
        · refine M.run rfl (M.ldA rfl rfl (b1.cells 3 rfl ⟨[], rfl⟩ : Cells _ _ [_, _]) (M.run rfl (M.cl rfl (to_ok _ _ _ _) ?_)))
          rintro e w3 ⟨rfl, e3⟩
          refine ⟨_, rfl, M.run rfl (M.retF rfl rfl ⟨?_, gr_trans e1 e3⟩)⟩
          simp [Night.valid, h1, h2, h3, h4, oneOrTuple]
        · refine M.run rfl (M.retF rfl rfl ⟨?_, e1⟩)
          simp [Night.valid, h1, h2, h3, h4, oneOrTuple]
      · refine M.run rfl (M.retF rfl rfl ⟨?_, e1⟩)
        simp [Night.valid, h1, h2, h3, oneOrTuple]
    · refine M.run rfl (M.retF rfl rfl ⟨?_, e1⟩)
      simp [Night.valid, h1, h2, oneOrTuple]
  · refine M.run rfl (M.retF rfl rfl ⟨?_, e1⟩)
    simp [Night.valid, h1, oneOrTuple]
end Go.Proofs.Ytaimlmfncjbmjaa
end

section
/- The lamp's arguments, as they come in: opened to what the walks read. -/
set_option linter.unusedVariables false
namespace Go.Proofs.Ytaimlmfncjbmjaa
open Go Go.Vc Go.RowKit Lp Go.ChangeShapes Go.WideShapes Go.ChangeAt

theorem own : ownKnob Try.prog.godebug = none := by kernel_rfl
theorem laidOut : laidOutB Try.prog = true := by kernel_rfl

section
variable {H : Type} {enc : TypeId × Value → H} {w : World} {base : Nat} {spare : Nat → Bool} {held : Bool} {r : Reach} {b0 : Nat} {v : Value} {d : DataW H} {p : List MemPlace}
theorem open_ints {t e : TypeId} (he : flatK Try.prog 8 e = some [.int .i64]) (hc : Try.prog.cellsOf e = 1) (h : okK enc Try.prog w base spare held (.slice t e) v) : ∃ A xs c, v = .slice A xs.length c ∧ Rd dI w A c xs := by
  obtain ⟨A, xs, c, h1, h2, _⟩ := open_rows (α := Int) (en := fun x => [.int .i64 x]) (sz := 1) (hl := fun _ => rfl) (hp := fun _ c h => by simp at h; subst h; rfl) 8 (fun cs => match cs with | [.int _ n] => n | _ => 0) he
    (fun cs h => by
      simp only [All2.cons_iff, All2.nil_iff, okK_int] at h
      obtain ⟨_, _, rfl, ⟨n, rfl, _⟩, rfl⟩ := h
      rfl) hc (by decide) h
  exact ⟨A, xs, c, h1, h2⟩
theorem open_nights {t e : TypeId} (he : flatK Try.prog 8 e = some [.int .i64, .int .i64, .int .i64, .int .i64, .int .i64]) (hc : Try.prog.cellsOf e = 5) (h : okK enc Try.prog w base spare held (.slice t e) v) : ∃ A xs c, v = .slice A xs.length c ∧ Rd dNight w A c xs := by
  obtain ⟨A, xs, c, h1, h2, _⟩ := open_rows (α := Night) (en := encNight) (sz := 5) (hl := fun _ => rfl) (hp := fun x c h => by simp [encNight] at h; rcases h with rfl | rfl | rfl | rfl | rfl <;> rfl) 8
    (fun cs => match cs with | [.int _ a, .int _ b, .int _ c, .int _ d, .int _ e] => ⟨a, b, c, d, e⟩ | _ => ⟨0, 0, 0, 0, 0⟩) he
    (fun cs h => by
      simp only [All2.cons_iff, All2.nil_iff, okK_int] at h
      obtain ⟨_, _, rfl, ⟨n0, rfl, _⟩, _, _, rfl, ⟨n1, rfl, _⟩, _, _, rfl, ⟨n2, rfl, _⟩, _, _, rfl, ⟨n3, rfl, _⟩, _, _, rfl, ⟨n4, rfl, _⟩, rfl⟩ := h
      rfl) hc (by decide) h
  exact ⟨A, xs, c, h1, h2⟩
theorem open_dips {t e : TypeId} (he : flatK Try.prog 8 e = some [.int .i64, .int .i64, .int .i64]) (hc : Try.prog.cellsOf e = 3) (h : okK enc Try.prog w base spare held (.slice t e) v) : ∃ A xs c, v = .slice A xs.length c ∧ Rd dDip w A c xs := by
  obtain ⟨A, xs, c, h1, h2, _⟩ := open_rows (α := Dip) (en := encDip) (sz := 3) (hl := fun _ => rfl) (hp := fun x c h => by simp [encDip] at h; rcases h with rfl | rfl | rfl <;> rfl) 8
    (fun cs => match cs with | [.int _ a, .int _ b, .int _ c] => ⟨a, b, c⟩ | _ => ⟨0, 0, 0⟩) he
    (fun cs h => by
      simp only [All2.cons_iff, All2.nil_iff, okK_int] at h
      obtain ⟨_, _, rfl, ⟨n0, rfl, _⟩, _, _, rfl, ⟨n1, rfl, _⟩, _, _, rfl, ⟨n2, rfl, _⟩, rfl⟩ := h
      rfl) hc (by decide) h
  exact ⟨A, xs, c, h1, h2⟩
end
end Go.Proofs.Ytaimlmfncjbmjaa
end

section
/- The lamp's parameters, opened one by one. -/
set_option linter.unusedVariables false
set_option maxRecDepth 100000
namespace Go.Proofs.Ytaimlmfncjbmjaa
open Go Go.Vc Go.RowKit Lp Go.ChangeShapes Go.WideShapes Go.ChangeAt

theorem kNight : flatK Try.prog 8 80 = some [.int .i64, .int .i64, .int .i64, .int .i64, .int .i64] := by kernel_rfl
theorem kDip : flatK Try.prog 8 85 = some [.int .i64, .int .i64, .int .i64] := by kernel_rfl
theorem kInt : flatK Try.prog 8 3 = some [.int .i64] := by kernel_rfl
theorem kWord : flatK Try.prog 8 159 = some [.int .u16] := by kernel_rfl
theorem kStore : flatK Try.prog 8 26 = some [.int .i64, .int .i64, .int .i64, .int .i64, .slice 24 80] := by kernel_rfl
theorem kPlan : flatK Try.prog 8 29 = some [.slice 27 3, .slice 27 3] := by kernel_rfl
theorem kTruth : flatK Try.prog 8 31 = some [.int .i64, .slice 27 3] := by kernel_rfl
section
variable {H : Type} {enc : TypeId × Value → H} {w : World} {base : Nat} {spare : Nat → Bool} {held : Bool} {r : Reach} {b0 : Nat} {v : Value} {d : DataW H} {p : List MemPlace}
theorem open_store (hv : Value.okWide Try.prog w r b0 26 v) (h : DataW.Trod enc Try.prog w base spare held 26 v d p) : ∃ s A c, v = vStore s A c ∧ Rd dNight w A c s.nights := by
  obtain ⟨cs, rfl, hh⟩ := open_agg 8 Try.underlying26 kStore hv h
  simp only [All2.cons_iff, All2.nil_iff, okK_int] at hh
  obtain ⟨_, _, rfl, ⟨a, rfl, _⟩, _, _, rfl, ⟨b, rfl, _⟩, _, _, rfl, ⟨c, rfl, _⟩, _, _, rfl, ⟨e, rfl, _⟩, x, _, rfl, hs, rfl⟩ := hh
  obtain ⟨A, xs, k, rfl, hr⟩ := open_nights kNight (by kernel_rfl) hs
  exact ⟨⟨a, b, c, e, xs⟩, A, k, rfl, hr⟩
theorem open_plan (hv : Value.okWide Try.prog w r b0 29 v) (h : DataW.Trod enc Try.prog w base spare held 29 v d p) : ∃ q A c A' c', v = vPlan q A c A' c' ∧ Rd dI w A c q.cans ∧ Rd dI w A' c' q.wicks := by
  obtain ⟨cs, rfl, hh⟩ := open_agg 8 Try.underlying29 kPlan hv h
  simp only [All2.cons_iff, All2.nil_iff] at hh
  obtain ⟨x, _, rfl, hs, y, _, rfl, hs', rfl⟩ := hh
  obtain ⟨A, xs, k, rfl, hr⟩ := open_ints kInt (by kernel_rfl) hs
  obtain ⟨A', xs', k', rfl, hr'⟩ := open_ints kInt (by kernel_rfl) hs'
  exact ⟨⟨xs, xs'⟩, A, k, A', k', rfl, hr, hr'⟩
theorem open_truth (hv : Value.okWide Try.prog w r b0 31 v) (h : DataW.Trod enc Try.prog w base spare held 31 v d p) : ∃ t A c, v = vTruth t A c ∧ Rd dI w A c t.burn := by
  obtain ⟨cs, rfl, hh⟩ := open_agg 8 Try.underlying31 kTruth hv h
  simp only [All2.cons_iff, All2.nil_iff, okK_int] at hh
  obtain ⟨_, _, rfl, ⟨a, rfl, _⟩, x, _, rfl, hs, rfl⟩ := hh
  obtain ⟨A, xs, k, rfl, hr⟩ := open_ints kInt (by kernel_rfl) hs
  exact ⟨⟨a, xs⟩, A, k, rfl, hr⟩
theorem open_k {t e : TypeId} (ht : Try.prog.underlying t = some (.slice e)) (hv : Value.okWide Try.prog w r b0 t v) (h : DataW.Trod enc Try.prog w base spare held t v d p) : okK enc Try.prog w base spare held (.slice t e) v := by
  obtain ⟨A, l, c, rfl⟩ := okWide_slice ht hv
  obtain ⟨n, hn⟩ := h
  exact ⟨ht, n, _, hn⟩
theorem open_list (hv : Value.okWide Try.prog w r b0 27 v) (h : DataW.Trod enc Try.prog w base spare held 27 v d p) : ∃ A xs c, v = .slice A xs.length c ∧ Rd dI w A c xs :=
  open_ints kInt (by kernel_rfl) (open_k Try.underlying27 hv h)
theorem open_dipsL (hv : Value.okWide Try.prog w r b0 55 v) (h : DataW.Trod enc Try.prog w base spare held 55 v d p) : ∃ A xs c, v = .slice A xs.length c ∧ Rd dDip w A c xs :=
  open_dips kDip (by kernel_rfl) (open_k Try.underlying55 hv h)
theorem open_dip1 (hv : Value.okWide Try.prog w r b0 85 v) (h : DataW.Trod enc Try.prog w base spare held 85 v d p) : ∃ x : Dip, v = .agg #[.int .i64 x.night, .int .i64 x.lo, .int .i64 x.hi] := by
  obtain ⟨cs, rfl, hh⟩ := open_agg 8 Try.underlying85 kDip hv h
  simp only [All2.cons_iff, All2.nil_iff, okK_int] at hh
  obtain ⟨_, _, rfl, ⟨a, rfl, _⟩, _, _, rfl, ⟨b, rfl, _⟩, _, _, rfl, ⟨c, rfl, _⟩, rfl⟩ := hh
  exact ⟨⟨a, b, c⟩, rfl⟩
theorem open_words (hv : Value.okWide Try.prog w r b0 72 v) (h : DataW.Trod enc Try.prog w base spare held 72 v d p) : ∃ A xs c, v = .slice A xs.length c ∧ Rd (Rp.int .u16) w A c xs ∧ ∀ x ∈ xs, 0 ≤ x ∧ x ≤ 65535 := by
  obtain ⟨A, xs, c, h1, h2, h3⟩ := open_rows (α := Int) (en := fun x => [.int .u16 x]) (sz := 1) (hl := fun _ => rfl) (hp := fun _ c h => by simp at h; subst h; rfl) 8 (fun cs => match cs with | [.int _ n] => n | _ => 0) kWord
    (fun cs h => by
      simp only [All2.cons_iff, All2.nil_iff, okK_int] at h
      obtain ⟨_, _, rfl, ⟨n, rfl, _⟩, rfl⟩ := h
      rfl) (by kernel_rfl) (by decide) (open_k Try.underlying72 hv h)
  refine ⟨A, xs, c, h1, h2, fun x hx => ?_⟩
  have := h3 x hx
  simp only [All2.cons_iff, All2.nil_iff, okK_int] at this
  obtain ⟨_, _, e, ⟨n, e2, hw⟩, e3⟩ := this
  cases e; cases e2
  simp [Lit.wf, IntKind.min, IntKind.max, IntKind.bits, IntKind.signed] at hw
  omega
theorem open_u8 (hv : Value.okWide Try.prog w r b0 5 v) (h : DataW.Trod enc Try.prog w base spare held 5 v d p) : ∃ x : Int, v = .int .u8 x ∧ 0 ≤ x ∧ x ≤ 255 := by
  obtain ⟨x, rfl, _, _, hw⟩ := open_int Try.underlying5 hv h
  simp [Lit.wf, IntKind.min, IntKind.max, IntKind.bits, IntKind.signed] at hw
  exact ⟨x, rfl, by omega, by omega⟩
end
end Go.Proofs.Ytaimlmfncjbmjaa
end

section
/- Plain lemmas on finding in lists. -/
namespace Lp
def idxOf {α : Type} (p : α → Bool) (xs : List α) : Int := match xs.findIdx? p with
  | some i => (i : Int)
  | none => -1
theorem idx_at {α : Type} {p : α → Bool} {xs : List α} {i : Nat} (hi : i < xs.length) (hn : ∀ (j : Nat) x, j < i → xs[j]? = some x → p x = false) (ht : p (xs[i]'hi) = true) : idxOf p xs = i := by
  have : xs.findIdx? p = some i := by
    rw [List.findIdx?_eq_some_iff_getElem]
    exact ⟨hi, ht, fun j hj => by simpa using hn j _ hj (List.getElem?_eq_getElem (by omega))⟩
  simp [idxOf, this]
theorem idx_none {α : Type} {p : α → Bool} {xs : List α} (hn : ∀ (j : Nat) x, xs[j]? = some x → p x = false) : idxOf p xs = -1 := by
  have : xs.findIdx? p = none := by
    rw [List.findIdx?_eq_none_iff]
    intro x hx
    obtain ⟨j, hj⟩ := List.mem_iff_getElem?.1 hx
    exact hn j x hj
  simp [idxOf, this]
theorem idx_step {α : Type} {p : α → Bool} {xs : List α} {i : Nat} (hi : i < xs.length) (hn : ∀ (j : Nat) x, j < i → xs[j]? = some x → p x = false) (hf : p (xs[i]'hi) = false) : ∀ j x, j < i + 1 → xs[j]? = some x → p x = false := by
  intro j x hj hx
  by_cases h : j < i
  · exact hn j x h hx
  · have : j = i := by omega
    subst this
    rw [List.getElem?_eq_getElem hi] at hx
    injection hx with hx
    rw [← hx]; exact hf
theorem idx_any {α : Type} {p : α → Bool} {xs : List α} : decide (idxOf p xs ≥ 0) = xs.any p := by
  unfold idxOf
  cases h : xs.findIdx? p with
  | none =>
    have : xs.any p = false := by
      rw [List.any_eq_false]
      rw [List.findIdx?_eq_none_iff] at h
      intro x hx; simp [h x hx]
    rw [this]; rfl
  | some i =>
    have : xs.any p = true := by
      rw [List.findIdx?_eq_some_iff_getElem] at h
      obtain ⟨hi, ht, _⟩ := h
      exact List.any_eq_true.2 ⟨_, List.getElem_mem hi, ht⟩
    rw [this]; simp
theorem any_not {α : Type} {p : α → Bool} {xs : List α} : (!xs.any fun x => !p x) = xs.all p := by
  induction xs with
  | nil => rfl
  | cons x xs ih => simp only [List.any_cons, List.all_cons, Bool.not_or, Bool.not_not, ih]
end Lp
namespace Lp
def minOf : List Int → Int
  | [] => 0
  | x :: r => r.foldl (fun m y => if y < m then y else m) x
theorem minOf_snoc (ys : List Int) (y : Int) (h : ys ≠ []) : minOf (ys ++ [y]) = if y < minOf ys then y else minOf ys := by
  cases ys with
  | nil => exact absurd rfl h
  | cons x r => simp only [minOf, List.cons_append, List.foldl_append, List.foldl_cons, List.foldl_nil]; rfl
end Lp
end

section
/- Walks: slices.IndexFunc, slices.ContainsFunc and 'all' at nights, dips and numbers. -/
set_option linter.unusedVariables false
namespace Go.Proofs.Ytaimlmfncjbmjaa
open Go Go.Vc Go.RowKit Lp

/-! ### night -/
theorem indexFunc_night (w : World) (A : Option Addr) (c : Nat) (xs : List Night) (f : Nat) (hf3 : (Nat.ble 3 f && Nat.blt f G.nf) = true) (fst cap : Array Value) (p : Night → Bool) (hA : Rd dNight w A c xs)
    (hp : ∀ x ∈ xs, ∀ w', Below w.heap.size w w' → Calls Try.prog f (fst.toList ++ ((.agg (encNight x).toArray) :: cap.toList)).toArray w' fun e w'' => e = .returned (.bool (p x)) ∧ w'.grownBy w'' none) :
    Calls Try.prog 113 #[.slice A xs.length c, .func (.func f) fst cap] w fun e w' => e = .returned (.int .i64 (idxOf p xs)) ∧ w.grownBy w' none := by
  refine calls (G := G) (args := [.slice A xs.length c, .func (.func f) fst cap]) Try.func113 rfl rfl rfl ?_
  refine M.run rfl ?_
  refine M.loop (σ := Nat) (fun i => [(0, .slice A xs.length c), (1, .func (.func f) fst cap), (7, .int .i64 xs.length), (8, .int .i64 (i : Int))]) (fun i w' => i ≤ xs.length ∧ w.grownBy w' none ∧ ∀ j x, j < i → xs[j]? = some x → p x = false)
    (fun i => xs.length - i) 0 ⟨rfl, rfl, rfl, rfl, trivial⟩ ⟨Nat.zero_le _, gr_refl _ _, fun j x h => by omega⟩ ?_
  rintro i w1 ⟨hi, e1, hn⟩
  refine M.run rfl (M.cond rfl (fun h => ?_) (fun h => ?_))
  · have hlt : i < xs.length := by have := of_decide_eq_true h; omega
    obtain ⟨hA1, hC⟩ := rd_flat hA hlt
    have hb1 : Below w.heap.size w w1 := gr_below e1
    refine M.run rfl (M.ix rfl (by omega) (by omega) hA1 ?_)
    refine M.run rfl (M.ldA rfl rfl (hC w1 hb1) ?_)
    refine M.run rfl (M.clV rfl (calleeE_of hf3) (hp _ (List.getElem_mem hlt) w1 hb1) ?_)
    rintro e w2 ⟨rfl, e2⟩
    refine ⟨_, rfl, M.run rfl (M.cond rfl (fun h2 => ?_) (fun h2 => ?_))⟩
    · exact M.run rfl (M.retF rfl rfl ⟨by rw [idx_at hlt hn h2]; rfl, gr_trans e1 e2⟩)
    · refine M.run rfl (M.end_ ⟨i + 1, ⟨rfl, rfl, rfl, ?_, trivial⟩, ⟨by omega, gr_trans e1 e2, idx_step hlt hn h2⟩, by omega⟩)
      exact congrArg (fun z => some (Value.int .i64 z)) (w64 (by omega) (by have := hA.bd; omega))
  · refine M.run rfl (M.retF rfl rfl ⟨?_, e1⟩)
    rw [idx_none (fun j x hj => hn j x (by have := of_decide_eq_false h; have := (List.getElem?_eq_some_iff.1 hj).1; omega) hj)]
    rfl

theorem containsFunc_night (w : World) (A : Option Addr) (c : Nat) (xs : List Night) (f : Nat) (hf3 : (Nat.ble 3 f && Nat.blt f G.nf) = true) (fst cap : Array Value) (p : Night → Bool) (hA : Rd dNight w A c xs)
    (hp : ∀ x ∈ xs, ∀ w', Below w.heap.size w w' → Calls Try.prog f (fst.toList ++ ((.agg (encNight x).toArray) :: cap.toList)).toArray w' fun e w'' => e = .returned (.bool (p x)) ∧ w'.grownBy w'' none) :
    Calls Try.prog 95 #[.slice A xs.length c, .func (.func f) fst cap] w fun e w' => e = .returned (.bool (xs.any p)) ∧ w.grownBy w' none := by
  refine calls (G := G) (args := [.slice A xs.length c, .func (.func f) fst cap]) Try.func95 rfl rfl rfl ?_
  refine M.run rfl (M.cl rfl (indexFunc_night w A c xs f hf3 fst cap p hA hp) ?_)
  rintro e w2 ⟨rfl, e2⟩
  exact ⟨_, rfl, M.run rfl (M.retF rfl rfl ⟨by rw [← idx_any]; rfl, e2⟩)⟩

theorem not_night (w : World) (x : Night) (g f : Nat) (hf3 : (Nat.ble 3 f && Nat.blt f G.nf) = true) (fst cap : Array Value) (b : Bool) (hB : Blk w g [.func (.func f) fst cap] 110)
    (hp : ∀ w', Below w.heap.size w w' → Calls Try.prog f (fst.toList ++ ((.agg (encNight x).toArray) :: cap.toList)).toArray w' fun e w'' => e = .returned (.bool b) ∧ w'.grownBy w'' none) :
    Calls Try.prog 96 #[(.agg (encNight x).toArray), .pointer (some ⟨g, 0, none⟩)] w fun e w' => e = .returned (.bool !b) ∧ w.grownBy w' none := by
  refine calls (G := G) (args := [(.agg (encNight x).toArray), .pointer (some ⟨g, 0, none⟩)]) Try.func96 rfl rfl rfl ?_
  refine M.run rfl (M.nw rfl fun g1 w1 b1 e1 l1 => M.run rfl (M.ld rfl ((hB.mv0 e1).cell rfl rfl) (M.run rfl (M.ldA rfl rfl b1.cellsAll (M.run rfl (M.clV rfl (calleeE_of hf3) (hp w1 (gr_below e1)) ?_))))))
  rintro e w2 ⟨rfl, e2⟩
  exact ⟨_, rfl, M.run rfl (M.retF rfl rfl ⟨rfl, gr_trans e1 e2⟩)⟩

theorem all_night (w : World) (A : Option Addr) (c : Nat) (xs : List Night) (f : Nat) (hf3 : (Nat.ble 3 f && Nat.blt f G.nf) = true) (fst cap : Array Value) (p : Night → Bool) (hA : Rd dNight w A c xs)
    (hp : ∀ x ∈ xs, ∀ w', Below w.heap.size w w' → Calls Try.prog f (fst.toList ++ ((.agg (encNight x).toArray) :: cap.toList)).toArray w' fun e w'' => e = .returned (.bool (p x)) ∧ w'.grownBy w'' none) :
    Calls Try.prog 61 #[.slice A xs.length c, .func (.func f) fst cap] w fun e w' => e = .returned (.bool (xs.all p)) ∧ w.grownBy w' none := by
  refine calls (G := G) (args := [.slice A xs.length c, .func (.func f) fst cap]) Try.func61 rfl rfl rfl ?_
  refine M.run rfl (M.nw rfl fun g w1 b1 e1 l1 => M.run rfl (M.cl rfl (containsFunc_night w1 A c xs 96 rfl #[] #[.pointer (some ⟨g, 0, none⟩)] (fun x => !p x) (hA.mv e1) ?_) ?_))
  · intro x hx w' hb
    exact not_night w' x g f hf3 fst cap (p x) (b1.since hb) (fun w'' hb2 => hp x hx w'' ((gr_below e1).trans ((hb.mono e1.size).trans (hb2.mono (Nat.le_trans e1.size hb.size)))))
  · rintro e w2 ⟨rfl, e2⟩
    exact ⟨_, rfl, M.run rfl (M.retF rfl rfl ⟨by rw [← any_not]; rfl, gr_trans e1 e2⟩)⟩

/-! ### dip -/
theorem indexFunc_dip (w : World) (A : Option Addr) (c : Nat) (xs : List Dip) (f : Nat) (hf3 : (Nat.ble 3 f && Nat.blt f G.nf) = true) (fst cap : Array Value) (p : Dip → Bool) (hA : Rd dDip w A c xs)
    (hp : ∀ x ∈ xs, ∀ w', Below w.heap.size w w' → Calls Try.prog f (fst.toList ++ ((.agg (encDip x).toArray) :: cap.toList)).toArray w' fun e w'' => e = .returned (.bool (p x)) ∧ w'.grownBy w'' none) :
    Calls Try.prog 122 #[.slice A xs.length c, .func (.func f) fst cap] w fun e w' => e = .returned (.int .i64 (idxOf p xs)) ∧ w.grownBy w' none := by
  refine calls (G := G) (args := [.slice A xs.length c, .func (.func f) fst cap]) Try.func122 rfl rfl rfl ?_
  refine M.run rfl ?_
  refine M.loop (σ := Nat) (fun i => [(0, .slice A xs.length c), (1, .func (.func f) fst cap), (7, .int .i64 xs.length), (8, .int .i64 (i : Int))]) (fun i w' => i ≤ xs.length ∧ w.grownBy w' none ∧ ∀ j x, j < i → xs[j]? = some x → p x = false)
    (fun i => xs.length - i) 0 ⟨rfl, rfl, rfl, rfl, trivial⟩ ⟨Nat.zero_le _, gr_refl _ _, fun j x h => by omega⟩ ?_
  rintro i w1 ⟨hi, e1, hn⟩
  refine M.run rfl (M.cond rfl (fun h => ?_) (fun h => ?_))
  · have hlt : i < xs.length := by have := of_decide_eq_true h; omega
    obtain ⟨hA1, hC⟩ := rd_flat hA hlt
    have hb1 : Below w.heap.size w w1 := gr_below e1
    refine M.run rfl (M.ix rfl (by omega) (by omega) hA1 ?_)
    refine M.run rfl (M.ldA rfl rfl (hC w1 hb1) ?_)
    refine M.run rfl (M.clV rfl (calleeE_of hf3) (hp _ (List.getElem_mem hlt) w1 hb1) ?_)
    rintro e w2 ⟨rfl, e2⟩
    refine ⟨_, rfl, M.run rfl (M.cond rfl (fun h2 => ?_) (fun h2 => ?_))⟩
    · exact M.run rfl (M.retF rfl rfl ⟨by rw [idx_at hlt hn h2]; rfl, gr_trans e1 e2⟩)
    · refine M.run rfl (M.end_ ⟨i + 1, ⟨rfl, rfl, rfl, ?_, trivial⟩, ⟨by omega, gr_trans e1 e2, idx_step hlt hn h2⟩, by omega⟩)
      exact congrArg (fun z => some (Value.int .i64 z)) (w64 (by omega) (by have := hA.bd; omega))
  · refine M.run rfl (M.retF rfl rfl ⟨?_, e1⟩)
    rw [idx_none (fun j x hj => hn j x (by have := of_decide_eq_false h; have := (List.getElem?_eq_some_iff.1 hj).1; omega) hj)]
    rfl

theorem containsFunc_dip (w : World) (A : Option Addr) (c : Nat) (xs : List Dip) (f : Nat) (hf3 : (Nat.ble 3 f && Nat.blt f G.nf) = true) (fst cap : Array Value) (p : Dip → Bool) (hA : Rd dDip w A c xs)
    (hp : ∀ x ∈ xs, ∀ w', Below w.heap.size w w' → Calls Try.prog f (fst.toList ++ ((.agg (encDip x).toArray) :: cap.toList)).toArray w' fun e w'' => e = .returned (.bool (p x)) ∧ w'.grownBy w'' none) :
    Calls Try.prog 115 #[.slice A xs.length c, .func (.func f) fst cap] w fun e w' => e = .returned (.bool (xs.any p)) ∧ w.grownBy w' none := by
  refine calls (G := G) (args := [.slice A xs.length c, .func (.func f) fst cap]) Try.func115 rfl rfl rfl ?_
  refine M.run rfl (M.cl rfl (indexFunc_dip w A c xs f hf3 fst cap p hA hp) ?_)
  rintro e w2 ⟨rfl, e2⟩
  exact ⟨_, rfl, M.run rfl (M.retF rfl rfl ⟨by rw [← idx_any]; rfl, e2⟩)⟩

theorem not_dip (w : World) (x : Dip) (g f : Nat) (hf3 : (Nat.ble 3 f && Nat.blt f G.nf) = true) (fst cap : Array Value) (b : Bool) (hB : Blk w g [.func (.func f) fst cap] 148)
    (hp : ∀ w', Below w.heap.size w w' → Calls Try.prog f (fst.toList ++ ((.agg (encDip x).toArray) :: cap.toList)).toArray w' fun e w'' => e = .returned (.bool b) ∧ w'.grownBy w'' none) :
    Calls Try.prog 116 #[(.agg (encDip x).toArray), .pointer (some ⟨g, 0, none⟩)] w fun e w' => e = .returned (.bool !b) ∧ w.grownBy w' none := by
  refine calls (G := G) (args := [(.agg (encDip x).toArray), .pointer (some ⟨g, 0, none⟩)]) Try.func116 rfl rfl rfl ?_
  refine M.run rfl (M.nw rfl fun g1 w1 b1 e1 l1 => M.run rfl (M.ld rfl ((hB.mv0 e1).cell rfl rfl) (M.run rfl (M.ldA rfl rfl b1.cellsAll (M.run rfl (M.clV rfl (calleeE_of hf3) (hp w1 (gr_below e1)) ?_))))))
  rintro e w2 ⟨rfl, e2⟩
  exact ⟨_, rfl, M.run rfl (M.retF rfl rfl ⟨rfl, gr_trans e1 e2⟩)⟩

theorem all_dip (w : World) (A : Option Addr) (c : Nat) (xs : List Dip) (f : Nat) (hf3 : (Nat.ble 3 f && Nat.blt f G.nf) = true) (fst cap : Array Value) (p : Dip → Bool) (hA : Rd dDip w A c xs)
    (hp : ∀ x ∈ xs, ∀ w', Below w.heap.size w w' → Calls Try.prog f (fst.toList ++ ((.agg (encDip x).toArray) :: cap.toList)).toArray w' fun e w'' => e = .returned (.bool (p x)) ∧ w'.grownBy w'' none) :
    Calls Try.prog 101 #[.slice A xs.length c, .func (.func f) fst cap] w fun e w' => e = .returned (.bool (xs.all p)) ∧ w.grownBy w' none := by
  refine calls (G := G) (args := [.slice A xs.length c, .func (.func f) fst cap]) Try.func101 rfl rfl rfl ?_
  refine M.run rfl (M.nw rfl fun g w1 b1 e1 l1 => M.run rfl (M.cl rfl (containsFunc_dip w1 A c xs 116 rfl #[] #[.pointer (some ⟨g, 0, none⟩)] (fun x => !p x) (hA.mv e1) ?_) ?_))
  · intro x hx w' hb
    exact not_dip w' x g f hf3 fst cap (p x) (b1.since hb) (fun w'' hb2 => hp x hx w'' ((gr_below e1).trans ((hb.mono e1.size).trans (hb2.mono (Nat.le_trans e1.size hb.size)))))
  · rintro e w2 ⟨rfl, e2⟩
    exact ⟨_, rfl, M.run rfl (M.retF rfl rfl ⟨by rw [← any_not]; rfl, gr_trans e1 e2⟩)⟩

/-! ### int -/
theorem indexFunc_int (w : World) (A : Option Addr) (c : Nat) (xs : List Int) (f : Nat) (hf3 : (Nat.ble 3 f && Nat.blt f G.nf) = true) (fst cap : Array Value) (p : Int → Bool) (hA : Rd dI w A c xs)
    (hp : ∀ x ∈ xs, ∀ w', Below w.heap.size w w' → Calls Try.prog f (fst.toList ++ ((.int .i64 x) :: cap.toList)).toArray w' fun e w'' => e = .returned (.bool (p x)) ∧ w'.grownBy w'' none) :
    Calls Try.prog 120 #[.slice A xs.length c, .func (.func f) fst cap] w fun e w' => e = .returned (.int .i64 (idxOf p xs)) ∧ w.grownBy w' none := by
  refine calls (G := G) (args := [.slice A xs.length c, .func (.func f) fst cap]) Try.func120 rfl rfl rfl ?_
  refine M.run rfl ?_
  refine M.loop (σ := Nat) (fun i => [(0, .slice A xs.length c), (1, .func (.func f) fst cap), (7, .int .i64 xs.length), (8, .int .i64 (i : Int))]) (fun i w' => i ≤ xs.length ∧ w.grownBy w' none ∧ ∀ j x, j < i → xs[j]? = some x → p x = false)
    (fun i => xs.length - i) 0 ⟨rfl, rfl, rfl, rfl, trivial⟩ ⟨Nat.zero_le _, gr_refl _ _, fun j x h => by omega⟩ ?_
  rintro i w1 ⟨hi, e1, hn⟩
  refine M.run rfl (M.cond rfl (fun h => ?_) (fun h => ?_))
  · have hlt : i < xs.length := by have := of_decide_eq_true h; omega
    obtain ⟨hA1, hC⟩ := rd_flat hA hlt
    have hb1 : Below w.heap.size w w1 := gr_below e1
    refine M.run rfl (M.ix rfl (by omega) (by omega) hA1 ?_)
    refine M.run rfl (M.ld rfl ((hC w1 hb1).one 0 rfl (by simp [Addr.add])) ?_)
    refine M.run rfl (M.clV rfl (calleeE_of hf3) (hp _ (List.getElem_mem hlt) w1 hb1) ?_)
    rintro e w2 ⟨rfl, e2⟩
    refine ⟨_, rfl, M.run rfl (M.cond rfl (fun h2 => ?_) (fun h2 => ?_))⟩
    · exact M.run rfl (M.retF rfl rfl ⟨by rw [idx_at hlt hn h2]; rfl, gr_trans e1 e2⟩)
    · refine M.run rfl (M.end_ ⟨i + 1, ⟨rfl, rfl, rfl, ?_, trivial⟩, ⟨by omega, gr_trans e1 e2, idx_step hlt hn h2⟩, by omega⟩)
      exact congrArg (fun z => some (Value.int .i64 z)) (w64 (by omega) (by have := hA.bd; omega))
  · refine M.run rfl (M.retF rfl rfl ⟨?_, e1⟩)
    rw [idx_none (fun j x hj => hn j x (by have := of_decide_eq_false h; have := (List.getElem?_eq_some_iff.1 hj).1; omega) hj)]
    rfl

theorem containsFunc_int (w : World) (A : Option Addr) (c : Nat) (xs : List Int) (f : Nat) (hf3 : (Nat.ble 3 f && Nat.blt f G.nf) = true) (fst cap : Array Value) (p : Int → Bool) (hA : Rd dI w A c xs)
    (hp : ∀ x ∈ xs, ∀ w', Below w.heap.size w w' → Calls Try.prog f (fst.toList ++ ((.int .i64 x) :: cap.toList)).toArray w' fun e w'' => e = .returned (.bool (p x)) ∧ w'.grownBy w'' none) :
    Calls Try.prog 105 #[.slice A xs.length c, .func (.func f) fst cap] w fun e w' => e = .returned (.bool (xs.any p)) ∧ w.grownBy w' none := by
  refine calls (G := G) (args := [.slice A xs.length c, .func (.func f) fst cap]) Try.func105 rfl rfl rfl ?_
  refine M.run rfl (M.cl rfl (indexFunc_int w A c xs f hf3 fst cap p hA hp) ?_)
  rintro e w2 ⟨rfl, e2⟩
  exact ⟨_, rfl, M.run rfl (M.retF rfl rfl ⟨by rw [← idx_any]; rfl, e2⟩)⟩

theorem not_int (w : World) (x : Int) (g f : Nat) (hf3 : (Nat.ble 3 f && Nat.blt f G.nf) = true) (fst cap : Array Value) (b : Bool) (hB : Blk w g [.func (.func f) fst cap] 108)
    (hp : ∀ w', Below w.heap.size w w' → Calls Try.prog f (fst.toList ++ ((.int .i64 x) :: cap.toList)).toArray w' fun e w'' => e = .returned (.bool b) ∧ w'.grownBy w'' none) :
    Calls Try.prog 121 #[(.int .i64 x), .pointer (some ⟨g, 0, none⟩)] w fun e w' => e = .returned (.bool !b) ∧ w.grownBy w' none := by
  refine calls (G := G) (args := [(.int .i64 x), .pointer (some ⟨g, 0, none⟩)]) Try.func121 rfl rfl rfl ?_
  refine M.run rfl (M.ld rfl (hB.cell rfl rfl) (M.run rfl (M.clV rfl (calleeE_of hf3) (hp w (Below.refl _ _)) ?_)))
  rintro e w2 ⟨rfl, e2⟩
  exact ⟨_, rfl, M.run rfl (M.retF rfl rfl ⟨rfl, e2⟩)⟩

theorem all_int (w : World) (A : Option Addr) (c : Nat) (xs : List Int) (f : Nat) (hf3 : (Nat.ble 3 f && Nat.blt f G.nf) = true) (fst cap : Array Value) (p : Int → Bool) (hA : Rd dI w A c xs)
    (hp : ∀ x ∈ xs, ∀ w', Below w.heap.size w w' → Calls Try.prog f (fst.toList ++ ((.int .i64 x) :: cap.toList)).toArray w' fun e w'' => e = .returned (.bool (p x)) ∧ w'.grownBy w'' none) :
    Calls Try.prog 109 #[.slice A xs.length c, .func (.func f) fst cap] w fun e w' => e = .returned (.bool (xs.all p)) ∧ w.grownBy w' none := by
  refine calls (G := G) (args := [.slice A xs.length c, .func (.func f) fst cap]) Try.func109 rfl rfl rfl ?_
  refine M.run rfl (M.nw rfl fun g w1 b1 e1 l1 => M.run rfl (M.cl rfl (containsFunc_int w1 A c xs 121 rfl #[] #[.pointer (some ⟨g, 0, none⟩)] (fun x => !p x) (hA.mv e1) ?_) ?_))
  · intro x hx w' hb
    exact not_int w' x g f hf3 fst cap (p x) (b1.since hb) (fun w'' hb2 => hp x hx w'' ((gr_below e1).trans ((hb.mono e1.size).trans (hb2.mono (Nat.le_trans e1.size hb.size)))))
  · rintro e w2 ⟨rfl, e2⟩
    exact ⟨_, rfl, M.run rfl (M.retF rfl rfl ⟨by rw [← any_not]; rfl, gr_trans e1 e2⟩)⟩

end Go.Proofs.Ytaimlmfncjbmjaa
end

section
/- Walks: CheckStore, check, truth, filled, burned. -/
set_option linter.unusedVariables false
namespace Go.Proofs.Ytaimlmfncjbmjaa
open Go Go.Vc Go.RowKit Lp

theorem checkStore_go (s : Store) (A : Option Addr) (c : Nat) (w : World) (hA : Rd dNight w A c s.nights) :
    Calls Try.prog 18 #[vStore s A c] w fun e w' => e = .returned (.int .i64 (checkStore s)) ∧ w.grownBy w' none := by
  refine calls (G := G) (args := [vStore s A c]) Try.func18 rfl rfl rfl ?_
  refine M.run rfl (M.nw rfl fun g w1 b1 e1 l1 => M.run rfl (M.ld rfl (b1.cell rfl rfl) (M.run rfl (M.cond rfl (fun h => ?_) (fun h => ?_)))))
  · have h' := of_decide_eq_true h
    exact M.run rfl (M.retF rfl rfl ⟨by simp [checkStore, h', oneOrTuple], e1⟩)
  have h' := of_decide_eq_false h
  have done : s.bad = true → checkStore s = 1 := fun hb => by simp [checkStore, hb]; omega
  have fine : s.bad = false → checkStore s = 0 := fun hb => by simp [checkStore, hb]; omega
  refine M.run rfl (M.ld rfl (b1.cell rfl rfl) (M.run rfl (M.cl rfl (within_ok _ _ _ _) ?_)))
  rintro e w2 ⟨rfl, e2⟩
  replace b1 := b1.mv0 e2; replace e1 := gr_trans e1 e2
  refine ⟨_, rfl, M.at_ [13] rfl (M.case 13 rfl (fun h1 => ?_) (fun h1 => ?_))⟩
  · exact M.run rfl (M.condT rfl rfl (M.run rfl (M.retF rfl rfl ⟨by rw [done (by simp [Store.bad, h1])]; rfl, e1⟩)))
  refine M.run rfl (M.ld rfl (b1.cell rfl rfl) (M.run rfl (M.cl rfl (within_ok _ _ _ _) ?_)))
  rintro e w3 ⟨rfl, e3⟩
  replace b1 := b1.mv0 e3; replace e1 := gr_trans e1 e3
  refine ⟨_, rfl, M.at_ [19] rfl (M.case 19 rfl (fun h2 => ?_) (fun h2 => ?_))⟩
  · exact M.run rfl (M.condT rfl rfl (M.run rfl (M.retF rfl rfl ⟨by rw [done (by simp [Store.bad, h1, h2])]; rfl, e1⟩)))
  refine M.run rfl (M.ldA rfl rfl (b1.cells 2 rfl ⟨[_], rfl⟩ : Cells _ _ [_, _]) (M.run rfl (M.ld rfl (b1.cell rfl rfl) (M.run rfl (M.cl rfl (to_ok _ _ _ _) ?_)))))
  rintro e w4 ⟨rfl, e4⟩
  replace b1 := b1.mv0 e4; replace e1 := gr_trans e1 e4
  refine ⟨_, rfl, M.at_ [27] rfl (M.case 27 rfl (fun h3 => ?_) (fun h3 => ?_))⟩
  · exact M.run rfl (M.condT rfl rfl (M.run rfl (M.retF rfl rfl ⟨by rw [done (by simp [Store.bad, h1, h2, h3])]; rfl, e1⟩)))
  refine M.run rfl (M.ld rfl (b1.cell rfl rfl) (M.at_ [33] rfl (M.case 33 rfl (fun h4 => ?_) (fun h4 => ?_))))
  · exact M.run rfl (M.condT rfl rfl (M.run rfl (M.retF rfl rfl ⟨by rw [done (by simp [Store.bad, h1, h2, h3]; have := of_decide_eq_true (by simpa using h4 : decide ((s.nights.length : Int) = 0) = true); simp_all)]; rfl, e1⟩)))
  refine M.run rfl (M.ld rfl (b1.cell rfl rfl) (M.run rfl (M.cl rfl (all_night w4 A c s.nights 62 rfl #[] #[] Night.valid (hA.mv e1) (fun x _ w' _ => valid_ok x w')) ?_)))
  rintro e w5 ⟨rfl, e5⟩
  replace e1 := gr_trans e1 e5
  have h4' : decide ((s.nights.length : Int) = 0) = false := by simpa using h4
  refine ⟨_, rfl, M.run rfl (M.cond rfl (fun h5 => ?_) (fun h5 => ?_))⟩
  · exact M.run rfl (M.retF rfl rfl ⟨by rw [done (by simp only [Store.bad, h1, h2, h3, h4', h5]; rfl)]; rfl, e1⟩)
  · exact M.run rfl (M.retF rfl rfl ⟨by rw [fine (by simp only [Store.bad, h1, h2, h3, h4', h5]; rfl)]; rfl, e1⟩)

theorem within2_ok (x : Int) (w : World) : Calls Try.prog 110 #[.int .i64 x] w fun e w' => e = .returned (.bool (within x 0 2)) ∧ w.grownBy w' none := by
  refine calls (G := G) (args := [.int .i64 x]) Try.func110 rfl rfl rfl ?_
  refine M.run rfl (M.cl rfl (within_ok _ _ _ _) ?_)
  rintro e w2 ⟨rfl, e2⟩
  exact ⟨_, rfl, M.run rfl (M.retF rfl rfl ⟨rfl, e2⟩)⟩

theorem cans_go (s : Store) (A : Option Addr) (c : Nat) (l : List Int) (B : Option Addr) (b : Nat) (w : World) (hA : Rd dNight w A c s.nights) (hB : Rd dI w B b l) :
    Calls Try.prog 84 #[vStore s A c, .slice B l.length b] w fun e w' => e = .returned (.bool (cansOk s l)) ∧ w.grownBy w' none := by
  refine calls (G := G) (args := [vStore s A c, .slice B l.length b]) Try.func84 rfl rfl rfl ?_
  refine M.run rfl (M.nw rfl fun g w1 b1 e1 l1 => M.run rfl (M.ld rfl (b1.cell rfl rfl) (M.at_ [11] rfl (M.case 11 rfl (fun h1 => ?_) (fun h1 => ?_)))))
  · refine M.run rfl (M.cl rfl (all_int w1 B b l 110 rfl #[] #[] (fun n => within n 0 2) (hB.mv e1) (fun x _ w' _ => within2_ok x w')) ?_)
    rintro e w2 ⟨rfl, e2⟩
    refine ⟨_, rfl, M.run rfl (M.retF rfl rfl ⟨?_, gr_trans e1 e2⟩)⟩
    have : (l.length : Int) = s.nights.length := by simpa using h1
    simp [cansOk, this, oneOrTuple]
  · refine M.run rfl (M.retF rfl rfl ⟨?_, e1⟩)
    have : ¬ (l.length : Int) = s.nights.length := by simpa using h1
    simp [cansOk, oneOrTuple]
    omega

theorem wicks_go (s : Store) (A : Option Addr) (c : Nat) (l : List Int) (B : Option Addr) (b : Nat) (w : World) (hA : Rd dNight w A c s.nights) (hB : Rd dI w B b l) :
    Calls Try.prog 77 #[vStore s A c, .slice B l.length b] w fun e w' => e = .returned (.bool (wicksOk s l)) ∧ w.grownBy w' none := by
  refine calls (G := G) (args := [vStore s A c, .slice B l.length b]) Try.func77 rfl rfl rfl ?_
  refine M.run rfl (M.nw rfl fun g w1 b1 e1 l1 => M.run rfl (M.ld rfl (b1.cell rfl rfl) (M.run rfl (M.cond rfl (fun h1 => ?_) (fun h1 => ?_)))))
  · refine M.run rfl (M.retF rfl rfl ⟨?_, e1⟩)
    have : ¬ (l.length : Int) = s.nights.length := by simpa using h1
    simp [wicksOk, oneOrTuple]
    omega
  have hl : l.length = s.nights.length := by have : (l.length : Int) = s.nights.length := by simpa using h1
                                             omega
  refine M.run rfl (M.ld rfl (b1.cell rfl rfl) (M.run rfl ?_))
  refine M.loop (σ := Nat) (fun i => [(0, vStore s A c), (1, .slice B l.length b), (14, .slice A s.nights.length c), (15, .int .i64 s.nights.length), (16, .int .i64 (i : Int))])
    (fun i w' => i ≤ l.length ∧ w.grownBy w' none ∧ ∀ (j : Nat) x, j < i → (l.zip s.nights)[j]? = some x → within x.1 x.2.least x.2.most = true)
    (fun i => l.length - i) 0 ⟨rfl, rfl, rfl, rfl, rfl, trivial⟩ ⟨Nat.zero_le _, e1, fun j x h => by omega⟩ ?_
  rintro i w2 ⟨hi, e2, hn⟩
  refine M.run rfl (M.cond rfl (fun h => ?_) (fun h => ?_))
  · have hlt : i < s.nights.length := by have := of_decide_eq_true h; omega
    have hlt' : i < l.length := by omega
    obtain ⟨hA1, hC⟩ := rd_flat hA hlt
    obtain ⟨hB1, hD⟩ := rd_flat hB hlt'
    refine M.run rfl (M.ix rfl (by omega) (by omega) hA1 (M.run rfl (M.ldA rfl rfl (hC w2 (gr_below e2)) (M.run rfl (M.nw rfl fun g3 w3 b3 e3 l3 => M.run rfl ?_)))))
    refine M.store rfl rfl b3 rfl rfl fun w4 b4 e4 => ?_
    have e5 := gr_fresh (gr_trans e2 e3) e4 (Nat.le_trans e2.size l3)
    refine M.run rfl (M.quiet (by kernel_rfl) ?_)
    refine LQ.run rfl (LQ.ix rfl (by omega) (by omega) hB1 (LQ.run rfl (LQ.ld rfl (fun w' hw => (hD w' (gr_below (gr_trans e5 hw))).one 0 rfl (by simp [Addr.add])) (LQ.run rfl (LQ.ld rfl (fun w' hw => (b4.mv0 hw).cell rfl rfl) (LQ.run rfl (LQ.ld rfl (fun w' hw => (b4.mv0 hw).cell rfl rfl) (LQ.run rfl
      (LQ.clG rfl (fun w' _ => within_ok _ _ _ w') (LQ.run rfl (LQ.nil fun w5 e6 => ?_)))))))))))
    have e7 := gr_trans e5 e6
    have hz : (l.zip s.nights)[i]? = some (l[i], s.nights[i]) := by simp [List.getElem?_zip_eq_some, hlt, hlt']
    refine M.run rfl (M.cond rfl (fun h2 => ?_) (fun h2 => ?_))
    · refine M.run rfl (M.retF rfl rfl ⟨?_, e7⟩)
      have h2' : within l[i] s.nights[i].least s.nights[i].most = false := by simpa using h2
      have : (l.zip s.nights).all (fun p => within p.1 p.2.least p.2.most) = false := by
        rw [List.all_eq_false]
        exact ⟨_, List.mem_of_getElem? hz, by simp [h2']⟩
      simp [wicksOk, this, oneOrTuple]
    · refine M.run rfl (M.end_ ⟨i + 1, ⟨rfl, rfl, rfl, rfl, ?_, trivial⟩, ⟨by omega, e7, fun j x hj hx => ?_⟩, by omega⟩)
      · exact congrArg (fun z => some (Value.int .i64 z)) (w64 (by omega) (by have := hA.bd; omega))
      · by_cases hji : j < i
        · exact hn j x hji hx
        · have : j = i := by omega
          subst this
          rw [hz] at hx
          injection hx with hx
          subst hx
          simpa using h2
  · refine M.run rfl (M.retF rfl rfl ⟨?_, e2⟩)
    have hall : (l.zip s.nights).all (fun p => within p.1 p.2.least p.2.most) = true := by
      rw [List.all_eq_true]
      intro x hx
      obtain ⟨j, hj⟩ := List.mem_iff_getElem?.1 hx
      refine hn j x ?_ hj
      have := (List.getElem?_eq_some_iff.1 hj).1
      have := of_decide_eq_false h
      simp at *
      omega
    simp [wicksOk, hall, hl, oneOrTuple]
end Go.Proofs.Ytaimlmfncjbmjaa
end

section
/- Walks: check, truth, burned, minimum, filled. -/
set_option linter.unusedVariables false
namespace Go.Proofs.Ytaimlmfncjbmjaa
open Go Go.Vc Go.RowKit Lp

theorem check_go (s : Store) (p : Plan) (A : Option Addr) (c : Nat) (B : Option Addr) (b : Nat) (D : Option Addr) (d : Nat) (w : World) (hA : Rd dNight w A c s.nights) (hB : Rd dI w B b p.cans) (hD : Rd dI w D d p.wicks) :
    Calls Try.prog 63 #[vStore s A c, vPlan p B b D d] w fun e w' => e = .returned (.int .i64 (check s p)) ∧ w.grownBy w' none := by
  refine calls (G := G) (args := [vStore s A c, vPlan p B b D d]) Try.func63 rfl rfl rfl ?_
  refine M.run rfl (M.nw rfl fun g1 w1 b1 e1 l1 => M.run rfl (M.nw rfl fun g2 w2 b2 e2 l2 => M.run rfl (M.ldA rfl rfl (b1.mv0 e2).cellsAll (M.run rfl (M.cl rfl (checkStore_go s A c w2 (hA.mv (gr_trans e1 e2))) ?_)))))
  rintro e w3 ⟨rfl, e3⟩
  replace b1 := (b1.mv0 e2).mv0 e3
  replace b2 := b2.mv0 e3
  have e03 := gr_trans (gr_trans e1 e2) e3
  refine ⟨_, rfl, M.run rfl (M.cond rfl (fun h => ?_) (fun h => ?_))⟩
  · have h' : checkStore s ≠ 0 := by simpa using h
    exact M.run rfl (M.retF rfl rfl ⟨by simp [check, h', oneOrTuple], e03⟩)
  have h' : checkStore s = 0 := by simpa using h
  refine M.run rfl (M.ldA rfl rfl b1.cellsAll (M.run rfl (M.ld rfl (b2.cell rfl rfl) (M.run rfl (M.cl rfl (cans_go s A c p.cans B b w3 (hA.mv e03) (hB.mv e03)) ?_)))))
  rintro e w4 ⟨rfl, e4⟩
  replace b1 := b1.mv0 e4
  replace b2 := b2.mv0 e4
  have e04 := gr_trans e03 e4
  refine ⟨_, rfl, M.at_ [16] rfl (M.case 16 rfl (fun h1 => ?_) (fun h1 => ?_))⟩
  · have h1' : cansOk s p.cans = false := by simpa using h1
    exact M.run rfl (M.condT rfl rfl (M.run rfl (M.retF rfl rfl ⟨by simp [check, h', h1', oneOrTuple], e04⟩)))
  have h1' : cansOk s p.cans = true := by simpa using h1
  refine M.run rfl (M.ldA rfl rfl b1.cellsAll (M.run rfl (M.ld rfl (b2.cell rfl rfl) (M.run rfl (M.cl rfl (wicks_go s A c p.wicks D d w4 (hA.mv e04) (hD.mv e04)) ?_)))))
  rintro e w5 ⟨rfl, e5⟩
  have e05 := gr_trans e04 e5
  refine ⟨_, rfl, M.run rfl (M.cond rfl (fun h2 => ?_) (fun h2 => ?_))⟩
  · have h2' : wicksOk s p.wicks = false := by simpa using h2
    exact M.run rfl (M.retF rfl rfl ⟨by simp [check, h', h1', h2', oneOrTuple], e05⟩)
  · have h2' : wicksOk s p.wicks = true := by simpa using h2
    exact M.run rfl (M.retF rfl rfl ⟨by simp [check, h', h1', h2', oneOrTuple], e05⟩)

theorem need_bd {n : Night} {wi bu : Int} (hh : 0 ≤ n.hours ∧ n.hours ≤ 1000) (hw : 0 ≤ wi ∧ wi ≤ 1000) (hb : 0 ≤ bu ∧ bu ≤ 1000) : 0 ≤ n.hours * wi ∧ n.hours * wi ≤ 1000000 ∧ 0 ≤ need n wi bu ∧ need n wi bu ≤ 1000000000 := by
  have h1 : 0 ≤ n.hours * wi := Int.mul_nonneg hh.1 hw.1
  have h2 : n.hours * wi ≤ 1000 * 1000 := Int.mul_le_mul hh.2 hw.2 hw.1 (by omega)
  have h3 : 0 ≤ n.hours * wi * bu := Int.mul_nonneg h1 hb.1
  have h4 : n.hours * wi * bu ≤ 1000 * 1000 * 1000 := Int.mul_le_mul h2 hb.2 hb.1 (by omega)
  unfold need
  omega

theorem burned_go (x : Night) (oil wi bu : Int) (w : World) (ho : -1000000 ≤ oil ∧ oil ≤ 1000000) (hh : 0 ≤ x.hours ∧ x.hours ≤ 1000) (hw : 0 ≤ wi ∧ wi ≤ 1000) (hb : 0 ≤ bu ∧ bu ≤ 1000) :
    Calls Try.prog 66 #[.agg (encNight x).toArray, .int .i64 oil, .int .i64 wi, .int .i64 bu] w fun e w' => e = .returned (.tuple #[.int .i64 (rest x oil wi bu), .bool (litB x oil wi bu)]) ∧ w.grownBy w' none := by
  have hn := need_bd hh hw hb
  have hwn : IntKind.i64.wrap (IntKind.i64.wrap (x.hours * wi) * bu) = need x wi bu := by
    rw [w64 (x := x.hours * wi) (by omega) (by omega)]
    unfold need at hn ⊢
    exact w64 (by omega) (by omega)
  refine calls (G := G) (args := [.agg (encNight x).toArray, .int .i64 oil, .int .i64 wi, .int .i64 bu]) Try.func66 rfl rfl rfl ?_
  refine M.run rfl (M.nw rfl fun g1 w1 b1 e1 l1 => M.run rfl (M.ld rfl (b1.cell rfl rfl) (M.run rfl (M.cond rfl (fun h => ?_) (fun h => ?_)))))
  · rw [hwn] at h
    have h' := of_decide_eq_true h
    refine M.run rfl (M.retF rfl rfl ⟨?_, e1⟩)
    simp [rest, litB, h', oneOrTuple]
  · rw [hwn] at h
    have h' := of_decide_eq_false h
    refine M.run rfl (M.retF rfl rfl ⟨?_, e1⟩)
    rw [hwn]
    rw [w64 (by omega) (by omega)]
    simp [rest, litB, h', oneOrTuple]

theorem min_go (xs : List Int) (A : Option Addr) (c : Nat) (w : World) (hA : Rd dI w A c xs) (hn : xs ≠ []) :
    Calls Try.prog 114 #[.slice A xs.length c] w fun e w' => e = .returned (.int .i64 (minOf xs)) ∧ w.grownBy w' none := by
  have hpos : 0 < xs.length := List.length_pos_iff.2 hn
  obtain ⟨hA1, hC0⟩ := rd_flat hA hpos
  refine calls (G := G) (args := [.slice A xs.length c]) Try.func114 rfl rfl rfl ?_
  refine M.run rfl (M.cond rfl (fun h => ?_) (fun h => ?_))
  · have := of_decide_eq_true h; omega
  refine M.run rfl (M.ix rfl (by omega) (by omega) hA1 (M.run rfl (M.ld rfl ((hC0 w (Below.refl _ _)).one 0 rfl (by simp [Addr.add])) (M.run rfl ?_))))
  refine M.loop (σ := Nat) (fun i => [(0, .slice A xs.length c), (3, .int .i64 (minOf (xs.take (i + 1)))), (4, .int .i64 ((i + 1 : Nat) : Int))])
    (fun i w' => i < xs.length ∧ w.grownBy w' none) (fun i => xs.length - i) 0 ⟨rfl, ?_, rfl, trivial⟩ ⟨hpos, gr_refl _ _⟩ ?_
  · have : xs.take (0 + 1) = [xs[0]] := by
      cases xs with
      | nil => exact absurd rfl hn
      | cons x r => simp
    rw [this]; rfl
  rintro i w2 ⟨hi, e2⟩
  refine M.run rfl (M.cond rfl (fun h => ?_) (fun h => ?_))
  · have hlt : i + 1 < xs.length := by have := of_decide_eq_true h; omega
    obtain ⟨_, hC⟩ := rd_flat hA hlt
    refine M.run rfl (M.ix rfl (by omega) (by omega) hA1 (M.run rfl (M.ld rfl ((hC w2 (gr_below e2)).one 0 rfl (by simp [Addr.add])) (M.run rfl (M.end_ ⟨i + 1, ⟨rfl, ?_, ?_, trivial⟩, ⟨hlt, e2⟩, by omega⟩)))))
    · have : xs.take (i + 1 + 1) = xs.take (i + 1) ++ [xs[i + 1]] := by rw [List.take_add_one, List.getElem?_eq_getElem hlt]; rfl
      rw [this, minOf_snoc _ _ (by simp [hn])]
      rfl
    · exact congrArg (fun z => some (Value.int .i64 z)) (w64 (by omega) (by have := hA.bd; omega))
  · refine M.run rfl (M.retF rfl rfl ⟨?_, e2⟩)
    rw [List.take_of_length_le (by have := of_decide_eq_false h; omega)]
    rfl

theorem minimum_go (xs : List Int) (A : Option Addr) (c : Nat) (w : World) (hA : Rd dI w A c xs) (hn : xs ≠ []) :
    Calls Try.prog 98 #[.slice A xs.length c] w fun e w' => e = .returned (.int .i64 (minOf xs)) ∧ w.grownBy w' none := by
  refine calls (G := G) (args := [.slice A xs.length c]) Try.func98 rfl rfl rfl ?_
  refine M.run rfl (M.cl rfl (min_go xs A c w hA hn) ?_)
  rintro e w2 ⟨rfl, e2⟩
  exact ⟨_, rfl, M.run rfl (M.retF rfl rfl ⟨rfl, e2⟩)⟩

theorem filled_go (s : Store) (A : Option Addr) (c : Nat) (oil cans : Int) (w : World) (h0 : -1000000 ≤ cans * s.can ∧ cans * s.can ≤ 1000000) (h1 : -1000000 ≤ oil ∧ oil ≤ 1000000) (h2 : -1000000 ≤ s.cap ∧ s.cap ≤ 1000000) :
    Calls Try.prog 65 #[vStore s A c, .int .i64 oil, .int .i64 cans] w fun e w' => e = .returned (.tuple #[.int .i64 (now s oil cans), .int .i64 (oil + cans * s.can - now s oil cans)]) ∧ w.grownBy w' none := by
  have hw : IntKind.i64.wrap (oil + IntKind.i64.wrap (cans * s.can)) = oil + cans * s.can := by
    rw [w64 (x := cans * s.can) (by omega) (by omega), w64 (by omega) (by omega)]
  refine calls (G := G) (args := [vStore s A c, .int .i64 oil, .int .i64 cans]) Try.func65 rfl rfl rfl ?_
  refine M.run rfl (M.nw rfl fun g1 w1 b1 e1 l1 => M.run rfl (M.ld rfl (b1.cell rfl rfl) (M.run rfl (M.ld rfl (b1.cell rfl rfl) (M.run rfl (M.bs rfl fun g2 w2 b2 e2 l2 => M.run rfl
    (M.cl rfl (minimum_go [s.cap, IntKind.i64.wrap (oil + IntKind.i64.wrap (cans * s.can))] _ _ w2 (rd_lit b2 [s.cap, IntKind.i64.wrap (oil + IntKind.i64.wrap (cans * s.can))] rfl (by simp [maxLen])) (by simp)) ?_)))))))
  rintro e w3 ⟨rfl, e3⟩
  replace b1 := (b1.mv0 e2).mv0 e3
  have hm : minOf [s.cap, IntKind.i64.wrap (oil + IntKind.i64.wrap (cans * s.can))] = now s oil cans := by rw [hw]; rfl
  rw [hm]
  refine ⟨_, rfl, M.run rfl (M.quiet (by kernel_rfl) (LQ.run rfl (LQ.ld rfl (fun w' hw' => (b1.mv0 hw').cell rfl rfl) (LQ.run rfl (LQ.nil fun w4 e4 => M.run rfl (M.retF rfl rfl ⟨?_, gr_trans (gr_trans (gr_trans e1 e2) e3) e4⟩))))))⟩
  rw [hw]
  have : -2000000 ≤ now s oil cans ∧ now s oil cans ≤ 2000000 := by unfold now; split <;> omega
  rw [w64 (by omega) (by omega)]
  rfl
end Go.Proofs.Ytaimlmfncjbmjaa
end

section
/- What happens by a plan in a truth, night by night. -/
namespace Lp
def nt (s : Store) (i : Nat) : Night := s.nights.getD i ⟨0, 0, 0, 0, 0⟩
def at0 (l : List Int) (i : Nat) : Int := l.getD i 0

theorem at0_get {l : List Int} {i : Nat} (h : i < l.length) : l[i] = at0 l i := by simp [at0, List.getD_eq_getElem?_getD, h]
theorem nt_get {s : Store} {i : Nat} (h : i < s.nights.length) : s.nights[i] = nt s i := by simp [nt, List.getD_eq_getElem?_getD, h]

def oilAt (s : Store) (p : Plan) (t : Truth) : Nat → Int
  | 0 => t.start
  | i + 1 => rest (nt s i) (now s (oilAt s p t i) (at0 p.cans i)) (at0 p.wicks i) (at0 t.burn i)
def nowAt (s : Store) (p : Plan) (t : Truth) (i : Nat) : Int := now s (oilAt s p t i) (at0 p.cans i)
def backAt (s : Store) (p : Plan) (t : Truth) (i : Nat) : Int := oilAt s p t i + at0 p.cans i * s.can - nowAt s p t i
def litAt (s : Store) (p : Plan) (t : Truth) (i : Nat) : Bool := litB (nt s i) (nowAt s p t i) (at0 p.wicks i) (at0 t.burn i)
def leftL (s : Store) (p : Plan) (t : Truth) (n : Nat) : List Int := (List.range n).map fun i => oilAt s p t (i + 1)
def backL (s : Store) (p : Plan) (t : Truth) (n : Nat) : List Int := (List.range n).map (backAt s p t)
def litL (s : Store) (p : Plan) (t : Truth) (n : Nat) : List Bool := (List.range n).map (litAt s p t)
theorem leftL_succ (s : Store) (p : Plan) (t : Truth) (n : Nat) : leftL s p t (n + 1) = leftL s p t n ++ [oilAt s p t (n + 1)] := by simp [leftL, List.range_succ]
theorem backL_succ (s : Store) (p : Plan) (t : Truth) (n : Nat) : backL s p t (n + 1) = backL s p t n ++ [backAt s p t n] := by simp [backL, List.range_succ]
theorem litL_succ (s : Store) (p : Plan) (t : Truth) (n : Nat) : litL s p t (n + 1) = litL s p t n ++ [litAt s p t n] := by simp [litL, List.range_succ]

/-- the truth that burns the most, from the least oil -/
def lowT (s : Store) : Truth := ⟨s.lo, s.nights.map (·.hi)⟩
def darkL (s : Store) (p : Plan) (n : Nat) : List Int := ((List.range n).filter fun i => !litAt s p (lowT s) i).map Int.ofNat
theorem darkL_succ (s : Store) (p : Plan) (n : Nat) : darkL s p (n + 1) = if litAt s p (lowT s) n then darkL s p n else darkL s p n ++ [Int.ofNat n] := by
  unfold darkL
  rw [List.range_succ, List.filter_append, List.map_append]
  cases h : litAt s p (lowT s) n <;> simp [List.filter_cons, h]
theorem darkL_len (s : Store) (p : Plan) (n : Nat) : (darkL s p n).length ≤ n := by
  unfold darkL
  rw [List.length_map]
  exact Nat.le_trans (List.length_filter_le _ _) (by simp)

/-! ### valid arguments -/
theorem check_ok {s : Store} {p : Plan} (h : check s p = 0) : s.Ok ∧ cansOk s p.cans = true ∧ wicksOk s p.wicks = true := by
  unfold check at h
  split at h
  · omega
  · rename_i h0
    split at h
    · omega
    · rename_i h1
      have h0' : checkStore s = 0 := by omega
      simp only [Bool.or_eq_true, Bool.not_eq_true', not_or, Bool.not_eq_false] at h1
      exact ⟨checkStore_ok h0', h1.1, h1.2⟩
theorem cansOk_spec {s : Store} {l : List Int} (h : cansOk s l = true) : l.length = s.nights.length ∧ ∀ i, i < l.length → 0 ≤ at0 l i ∧ at0 l i ≤ 2 := by
  simp only [cansOk, Bool.and_eq_true, decide_eq_true_eq, List.all_eq_true, within_iff] at h
  refine ⟨by omega, fun i hi => ?_⟩
  rw [← at0_get hi]
  exact h.2 _ (List.getElem_mem hi)
theorem zip_get {α β : Type} {l : List α} {r : List β} {i : Nat} (hi : i < l.length) (hj : i < r.length) : (l[i], r[i]) ∈ l.zip r :=
  List.mem_iff_getElem.2 ⟨i, by simp; omega, by simp⟩
theorem wicksOk_spec {s : Store} {l : List Int} (h : wicksOk s l = true) : l.length = s.nights.length ∧ ∀ i, i < l.length → (nt s i).least ≤ at0 l i ∧ at0 l i ≤ (nt s i).most := by
  simp only [wicksOk, Bool.and_eq_true, decide_eq_true_eq, List.all_eq_true, within_iff] at h
  have hl : l.length = s.nights.length := by omega
  refine ⟨hl, fun i hi => ?_⟩
  rw [← at0_get hi, ← nt_get (by omega)]
  exact h.2 _ (zip_get hi (by omega))
theorem truthOk_spec {s : Store} {t : Truth} (h : truthOk s t = true) : s.lo ≤ t.start ∧ t.start ≤ s.hi ∧ t.burn.length = s.nights.length ∧ ∀ i, i < t.burn.length → (nt s i).lo ≤ at0 t.burn i ∧ at0 t.burn i ≤ (nt s i).hi := by
  simp only [truthOk, Bool.and_eq_true, decide_eq_true_eq, List.all_eq_true, within_iff] at h
  have hl : t.burn.length = s.nights.length := by omega
  refine ⟨h.1.1, h.1.2, hl, fun i hi => ?_⟩
  rw [← at0_get hi, ← nt_get (by omega)]
  exact h.2.2 _ (zip_get hi (by omega))
theorem Store.Ok.nt {s : Store} (h : s.Ok) {i : Nat} (hi : i < s.nights.length) : 1 ≤ (nt s i).hours ∧ (nt s i).hours ≤ 14 ∧ 1 ≤ (nt s i).least ∧ (nt s i).least ≤ (nt s i).most ∧ (nt s i).most ≤ 4 ∧ 0 ≤ (nt s i).lo ∧ (nt s i).lo ≤ (nt s i).hi ∧ (nt s i).hi ≤ 10 := by
  rw [← nt_get hi]
  exact h.night _ (List.getElem_mem hi)

/-- a plan and a truth within bounds -/
structure Fine (s : Store) (p : Plan) : Prop where
  ok : s.Ok
  cl : p.cans.length = s.nights.length
  cans : ∀ i, i < s.nights.length → 0 ≤ at0 p.cans i ∧ at0 p.cans i ≤ 2
  wl : p.wicks.length = s.nights.length
  wicks : ∀ i, i < s.nights.length → 1 ≤ at0 p.wicks i ∧ at0 p.wicks i ≤ 4
theorem check_fine {s : Store} {p : Plan} (h : check s p = 0) : Fine s p := by
  obtain ⟨h1, h2, h3⟩ := check_ok h
  obtain ⟨a, b⟩ := cansOk_spec h2
  obtain ⟨c, d⟩ := wicksOk_spec h3
  exact ⟨h1, a, fun i hi => b i (by omega), c, fun i hi => by have := d i (by omega); have := h1.nt hi; omega⟩
theorem mul_bd {a b A B : Int} (ha : 0 ≤ a ∧ a ≤ A) (hb : 0 ≤ b ∧ b ≤ B) (hA : 0 ≤ A) : 0 ≤ a * b ∧ a * b ≤ A * B :=
  ⟨Int.mul_nonneg ha.1 hb.1, Int.mul_le_mul ha.2 hb.2 hb.1 hA⟩
theorem Fine.add {s : Store} {p : Plan} (h : Fine s p) {i : Nat} (hi : i < s.nights.length) : 0 ≤ at0 p.cans i * s.can ∧ at0 p.cans i * s.can ≤ 400 := by
  have := mul_bd (h.cans i hi) ⟨Int.le_trans (by omega) h.ok.can.1, h.ok.can.2⟩ (by omega : (0:Int) ≤ 2)
  omega
theorem now_bd {s : Store} {oil c : Int} (h0 : 0 ≤ oil) (hc : 0 ≤ c * s.can) (hcap : 0 ≤ s.cap) : 0 ≤ now s oil c ∧ now s oil c ≤ s.cap ∧ now s oil c ≤ oil + c * s.can := by
  unfold now; split <;> omega
theorem rest_bd {n : Night} {o w b : Int} (h0 : 0 ≤ o) (hn : 0 ≤ need n w b) : 0 ≤ rest n o w b ∧ rest n o w b ≤ o := by
  unfold rest; split <;> omega
theorem need_nn {n : Night} {w b : Int} (h1 : 0 ≤ n.hours) (h2 : 0 ≤ w) (h3 : 0 ≤ b) : 0 ≤ need n w b := Int.mul_nonneg (Int.mul_nonneg h1 h2) h3
theorem oil_bd {s : Store} {p : Plan} {t : Truth} (h : Fine s p) (h0 : 0 ≤ t.start) (h1 : t.start ≤ s.cap) (hb : ∀ i, i < s.nights.length → 0 ≤ at0 t.burn i) : ∀ i, i ≤ s.nights.length → 0 ≤ oilAt s p t i ∧ oilAt s p t i ≤ s.cap
  | 0, _ => ⟨h0, h1⟩
  | i + 1, hi => by
    have ih := oil_bd h h0 h1 hb i (by omega)
    have hn := h.ok.nt (show i < s.nights.length by omega)
    have hw := h.wicks i (by omega)
    have a := now_bd ih.1 (h.add (show i < s.nights.length by omega)).1 (by have := h.ok.cap; omega : (0:Int) ≤ s.cap)
    have b := rest_bd (n := nt s i) (w := at0 p.wicks i) (b := at0 t.burn i) a.1 (need_nn (by omega) (by omega) (hb i (by omega)))
    unfold oilAt
    omega

/-! ### what the functions answer -/
def dipOk (s : Store) (x : Dip) : Bool := within x.night 0 ((s.nights.length : Int) - 1) && rto x.lo x.hi 400
def dippedE (s : Store) (p : Plan) (l : List Dip) : Int := if check s p ≠ 0 then check s p else if (l.length : Int) > 6 then 3 else if !l.all (dipOk s) then 2 else 0
def playE (s : Store) (p : Plan) (t : Truth) : Int := if check s p ≠ 0 then check s p else if truthOk s t then 0 else 2
def playL (s : Store) (p : Plan) (t : Truth) : List Int := if playE s p t = 0 then leftL s p t s.nights.length else []
def playB (s : Store) (p : Plan) (t : Truth) : List Int := if playE s p t = 0 then backL s p t s.nights.length else []
def playI (s : Store) (p : Plan) (t : Truth) : List Bool := if playE s p t = 0 then litL s p t s.nights.length else []
def darkR (s : Store) (p : Plan) : List Int := if check s p = 0 then darkL s p s.nights.length else []
def provePlan (s : Store) (p : Plan) : Bool := decide (check s p = 0) && decide (darkL s p s.nights.length = [])
end Lp
end

section
/- Walks: truth, fewest, most, least, dark, Dark, ProvePlan. -/
set_option linter.unusedVariables false
namespace Go.Proofs.Ytaimlmfncjbmjaa
open Go Go.Vc Go.RowKit Lp

theorem truth_go (s : Store) (t : Truth) (A : Option Addr) (c : Nat) (B : Option Addr) (b : Nat) (w : World) (hA : Rd dNight w A c s.nights) (hB : Rd dI w B b t.burn) :
    Calls Try.prog 64 #[vStore s A c, vTruth t B b] w fun e w' => e = .returned (.bool (truthOk s t)) ∧ w.grownBy w' none := by
  refine calls (G := G) (args := [vStore s A c, vTruth t B b]) Try.func64 rfl rfl rfl ?_
  refine M.run rfl (M.nw rfl fun g1 w1 b1 e1 l1 => M.run rfl (M.nw rfl fun g2 w2 b2 e2 l2 => M.run rfl (M.ldA rfl rfl ((b1.mv0 e2).cells 2 rfl ⟨[_], rfl⟩ : Cells _ _ [_, _]) (M.run rfl (M.ld rfl (b2.cell rfl rfl) (M.run rfl (M.cl rfl (has_ok _ _ _ _) ?_)))))))
  rintro e w3 ⟨rfl, e3⟩
  replace b1 := (b1.mv0 e2).mv0 e3
  replace b2 := b2.mv0 e3
  have e03 := gr_trans (gr_trans e1 e2) e3
  refine ⟨_, rfl, M.at_ [13] rfl (M.case 13 rfl (fun h1 => ?_) (fun h1 => ?_))⟩
  · have h1' : within t.start s.lo s.hi = false := by simpa using h1
    exact M.run rfl (M.condT rfl rfl (M.run rfl (M.retF rfl rfl ⟨by simp [truthOk, h1', oneOrTuple], e03⟩)))
  have h1' : within t.start s.lo s.hi = true := by simpa using h1
  refine M.run rfl (M.ld rfl (b2.cell rfl rfl) (M.run rfl (M.ld rfl (b1.cell rfl rfl) (M.run rfl (M.cond rfl (fun h2 => ?_) (fun h2 => ?_))))))
  · have h2' : ¬ (t.burn.length : Int) = s.nights.length := by simpa using h2
    exact M.run rfl (M.retF rfl rfl ⟨by simp [truthOk, h1', oneOrTuple]; omega, e03⟩)
  have hl : t.burn.length = s.nights.length := by have : (t.burn.length : Int) = s.nights.length := by simpa using h2
                                                  omega
  refine M.run rfl (M.ld rfl (b1.cell rfl rfl) (M.run rfl ?_))
  refine M.loop (σ := Nat) (fun i => [(3, .pointer (some ⟨g2, 0, none⟩)), (23, .slice A s.nights.length c), (24, .int .i64 s.nights.length), (25, .int .i64 (i : Int))])
    (fun i w' => i ≤ t.burn.length ∧ w.grownBy w' none ∧ w3.grownBy w' none ∧ ∀ (j : Nat) x, j < i → (t.burn.zip s.nights)[j]? = some x → within x.1 x.2.lo x.2.hi = true)
    (fun i => t.burn.length - i) 0 ⟨rfl, rfl, rfl, rfl, trivial⟩ ⟨Nat.zero_le _, e03, gr_refl _ _, fun j x h => by omega⟩ ?_
  rintro i w4 ⟨hi, e04, e34, hn⟩
  refine M.run rfl (M.cond rfl (fun h => ?_) (fun h => ?_))
  · have hlt : i < s.nights.length := by have := of_decide_eq_true h; omega
    have hlt' : i < t.burn.length := by omega
    obtain ⟨hA1, hC⟩ := rd_flat hA hlt
    obtain ⟨hB1, hD⟩ := rd_flat hB hlt'
    refine M.run rfl (M.ix rfl (by omega) (by omega) hA1 (M.run rfl (M.ldA rfl rfl (hC w4 (gr_below e04)) (M.run rfl (M.nw rfl fun g5 w5 b5 e5 l5 => M.run rfl ?_)))))
    refine M.store rfl rfl b5 rfl rfl fun w6 b6 e6 => ?_
    have e06 := gr_fresh (gr_trans e04 e5) e6 (Nat.le_trans e04.size l5)
    have e36 := gr_fresh (gr_trans e34 e5) e6 (Nat.le_trans e34.size l5)
    refine M.run rfl (M.quiet (by kernel_rfl) ?_)
    refine LQ.run rfl (LQ.ldA rfl rfl (fun w' hw => ((b6.mv0 hw).cells 3 rfl ⟨[], rfl⟩ : Cells _ _ [_, _])) (LQ.run rfl (LQ.ld rfl (fun w' hw => (b2.mv0 (gr_trans e36 hw)).cell rfl rfl) (LQ.run rfl (LQ.ix rfl (by omega) (by omega) hB1 (LQ.run rfl (LQ.ld rfl (fun w' hw => (hD w' (gr_below (gr_trans e06 hw))).one 0 rfl (by simp [Addr.add])) (LQ.run rfl
      (LQ.clG rfl (fun w' _ => has_ok _ _ _ w') (LQ.run rfl (LQ.nil fun w7 e7 => ?_)))))))))))
    have e07 := gr_trans e06 e7
    have hz : (t.burn.zip s.nights)[i]? = some (t.burn[i], s.nights[i]) := by simp [List.getElem?_zip_eq_some, hlt, hlt']
    refine M.run rfl (M.cond rfl (fun h3 => ?_) (fun h3 => ?_))
    · refine M.run rfl (M.retF rfl rfl ⟨?_, e07⟩)
      have h3' : within t.burn[i] s.nights[i].lo s.nights[i].hi = false := by simpa using h3
      have : (t.burn.zip s.nights).all (fun p => within p.1 p.2.lo p.2.hi) = false := by
        rw [List.all_eq_false]
        exact ⟨_, List.mem_of_getElem? hz, by simp [h3']⟩
      simp [truthOk, this, oneOrTuple]
    · refine M.run rfl (M.end_ ⟨i + 1, ⟨rfl, rfl, rfl, ?_, trivial⟩, ⟨by omega, e07, gr_trans e36 e7, fun j x hj hx => ?_⟩, by omega⟩)
      · exact congrArg (fun z => some (Value.int .i64 z)) (w64 (by omega) (by have := hA.bd; omega))
      · by_cases hji : j < i
        · exact hn j x hji hx
        · have : j = i := by omega
          subst this
          rw [hz] at hx
          injection hx with hx
          subst hx
          simpa using h3
  · refine M.run rfl (M.retF rfl rfl ⟨?_, e04⟩)
    have hall : (t.burn.zip s.nights).all (fun p => within p.1 p.2.lo p.2.hi) = true := by
      rw [List.all_eq_true]
      intro x hx
      obtain ⟨j, hj⟩ := List.mem_iff_getElem?.1 hx
      refine hn j x ?_ hj
      have := (List.getElem?_eq_some_iff.1 hj).1
      have := of_decide_eq_false h
      simp at *
      omega
    simp [truthOk, h1', hall, hl, oneOrTuple]

theorem fewest_go (x : Night) (w : World) : Calls Try.prog 117 #[.agg (encNight x).toArray] w fun e w' => e = .returned (.int .i64 x.lo) ∧ w.grownBy w' none := by
  refine calls (G := G) (args := [.agg (encNight x).toArray]) Try.func117 rfl rfl rfl ?_
  exact M.run rfl (M.nw rfl fun g1 w1 b1 e1 l1 => M.run rfl (M.ld rfl (b1.cell rfl rfl) (M.run rfl (M.retF rfl rfl ⟨rfl, e1⟩))))
theorem most_go (x : Night) (w : World) : Calls Try.prog 118 #[.agg (encNight x).toArray] w fun e w' => e = .returned (.int .i64 x.hi) ∧ w.grownBy w' none := by
  refine calls (G := G) (args := [.agg (encNight x).toArray]) Try.func118 rfl rfl rfl ?_
  exact M.run rfl (M.nw rfl fun g1 w1 b1 e1 l1 => M.run rfl (M.ld rfl (b1.cell rfl rfl) (M.run rfl (M.retF rfl rfl ⟨rfl, e1⟩))))

theorem least_go (s : Store) (A : Option Addr) (c : Nat) (i : Nat) (oil cans wi : Int) (w : World) (hA : Rd dNight w A c s.nights) (hi : i < s.nights.length)
    (h0 : 0 ≤ cans * s.can ∧ cans * s.can ≤ 1000) (h1 : 0 ≤ oil ∧ oil ≤ 1000) (h2 : 0 ≤ s.cap ∧ s.cap ≤ 1000) (hh : 0 ≤ (nt s i).hours ∧ (nt s i).hours ≤ 1000) (hw : 0 ≤ wi ∧ wi ≤ 1000) (hb : 0 ≤ (nt s i).hi ∧ (nt s i).hi ≤ 1000) :
    Calls Try.prog 112 #[vStore s A c, .int .i64 i, .int .i64 oil, .int .i64 cans, .int .i64 wi] w fun e w' =>
      e = .returned (.tuple #[.int .i64 (rest (nt s i) (now s oil cans) wi (nt s i).hi), .bool (litB (nt s i) (now s oil cans) wi (nt s i).hi)]) ∧ w.grownBy w' none := by
  obtain ⟨hA1, hC⟩ := rd_flat hA hi
  rw [nt_get hi] at hC
  have hnb := now_bd h1.1 h0.1 h2.1
  refine calls (G := G) (args := [vStore s A c, .int .i64 i, .int .i64 oil, .int .i64 cans, .int .i64 wi]) Try.func112 rfl rfl rfl ?_
  refine M.run rfl (M.nw rfl fun g1 w1 b1 e1 l1 => M.run rfl (M.nw rfl fun g2 w2 b2 e2 l2 => M.run rfl ?_))
  refine M.store rfl rfl b2 rfl rfl fun w3 b3 e3 => ?_
  have e13 : w1.grownBy w3 none := gr_fresh e2 e3 l2
  have e03 := gr_trans e1 e13
  replace b1 := b1.mv0 e13
  refine M.run rfl (M.ld rfl (b1.cell rfl rfl) (M.run rfl (M.ix rfl (by omega) (by omega) hA1 (M.run rfl (M.ldA rfl rfl (hC w3 (gr_below e03)) (M.run rfl (M.nw rfl fun g4 w4 b4 e4 l4 => M.run rfl ?_)))))))
  refine M.store rfl rfl b4 rfl rfl fun w5 b5 e5 => ?_
  have e35 : w3.grownBy w5 none := gr_fresh e4 e5 l4
  have e05 := gr_trans e03 e35
  replace b1 := b1.mv0 e35
  replace b3 := b3.mv0 e35
  refine M.run rfl (M.ldA rfl rfl b1.cellsAll (M.run rfl (M.cl rfl (filled_go s A c oil cans w5 (by omega) (by omega) (by omega)) ?_)))
  rintro e w6 ⟨rfl, e6⟩
  replace b3 := b3.mv0 e6
  replace b5 := b5.mv0 e6
  refine ⟨_, rfl, M.run rfl (M.quiet (by kernel_rfl) ?_)⟩
  refine LQ.run rfl (LQ.ldA rfl rfl (fun w' hw => (b5.mv0 hw).cellsAll) (LQ.run rfl (LQ.ld rfl (fun w' hw => (b3.mv0 hw).cell rfl rfl) (LQ.run rfl (LQ.ldA rfl rfl (fun w' hw => (b5.mv0 hw).cellsAll) (LQ.run rfl (LQ.clG rfl (fun w' _ => most_go (nt s i) w') (LQ.run rfl (LQ.clG rfl (fun w' _ => burned_go (nt s i) _ _ _ w' (by omega) (by omega) (by omega) (by omega)) (LQ.run rfl (LQ.nil fun w7 e7 => ?_)))))))))))
  exact M.run rfl (M.retF rfl rfl ⟨rfl, gr_trans (gr_trans e05 e6) e7⟩)

end Go.Proofs.Ytaimlmfncjbmjaa
end

section
/- Walks: dark, Dark, ProvePlan, dip, dipped. -/
set_option linter.unusedVariables false
namespace Go.Proofs.Ytaimlmfncjbmjaa
open Go Go.Vc Go.RowKit Lp

abbrev no : Nat → Prop := fun _ => False

theorem lowT_burn (s : Store) (i : Nat) (h : i < s.nights.length) : at0 (lowT s).burn i = (nt s i).hi := by
  simp [lowT, at0, nt, List.getD_eq_getElem?_getD, h]

theorem dark_go (s : Store) (p : Plan) (A : Option Addr) (c : Nat) (B : Option Addr) (b : Nat) (D : Option Addr) (d : Nat) (w : World) (hA : Rd dNight w A c s.nights) (hB : Rd dI w B b p.cans) (hD : Rd dI w D d p.wicks) (hf : Fine s p) :
    Calls Try.prog 92 #[vStore s A c, vPlan p B b D d] w fun e w' => ∃ X x, e = .returned (.slice X (darkL s p s.nights.length).length x) ∧ Vc.Own dI 3 w' w.heap.size no X x (darkL s p s.nights.length) ∧ w.grownBy w' none := by
  have hn6 := hf.ok.few
  refine calls (G := G) (args := [vStore s A c, vPlan p B b D d]) Try.func92 rfl rfl rfl ?_
  refine M.run rfl (M.nw rfl fun g1 w1 b1 e1 l1 => M.run rfl (M.nw rfl fun g2 w2 b2 e2 l2 => M.run rfl (M.ld rfl ((b1.mv0 e2).cell rfl rfl) (M.run rfl (M.ld rfl ((b1.mv0 e2).cell rfl rfl) (M.run rfl ?_))))))
  have e02 := gr_trans e1 e2
  replace b1 := b1.mv0 e2
  refine M.loop (σ := Nat × Option Addr × Nat) (fun (i, X, x) => [(2, .pointer (some ⟨g1, 0, none⟩)), (3, .pointer (some ⟨g2, 0, none⟩)), (4, .slice X (darkL s p i).length x), (5, .int .i64 (oilAt s p (lowT s) i)), (14, .int .i64 s.nights.length), (15, .int .i64 (i : Int))])
    (fun (i, X, x) w' => i ≤ s.nights.length ∧ w2.grownBy w' none ∧ Vc.Own dI 3 w' w2.heap.size no X x (darkL s p i))
    (fun (i, _, _) => s.nights.length - i) (0, none, 0) ⟨rfl, rfl, rfl, rfl, rfl, rfl, trivial⟩ ⟨Nat.zero_le _, gr_refl _ _, Own.nil _ _ _ _ _⟩ ?_
  rintro ⟨i, X, x⟩ w3 ⟨hi, e23, hO⟩
  have e03 := gr_trans e02 e23
  refine M.run rfl (M.cond rfl (fun h => ?_) (fun h => ?_))
  · have hlt : i < s.nights.length := by have := of_decide_eq_true h; omega
    have hltc : i < p.cans.length := by rw [hf.cl]; exact hlt
    have hltw : i < p.wicks.length := by rw [hf.wl]; exact hlt
    obtain ⟨hB1, hBC⟩ := rd_flat hB hltc
    obtain ⟨hD1, hDC⟩ := rd_flat hD hltw
    rw [at0_get hltc] at hBC
    rw [at0_get hltw] at hDC
    have hnt := hf.ok.nt hlt
    have hca := hf.add hlt
    have hwi := hf.wicks i hlt
    have hcap := hf.ok.cap
    have hst := hf.ok.start
    have hoil := oil_bd (t := lowT s) hf hst.1 (show s.lo ≤ s.cap by omega) (fun j hj => by rw [lowT_burn s j hj]; have := hf.ok.nt hj; omega) i hi
    refine M.run rfl (M.quiet (by kernel_rfl) ?_)
    refine LQ.run rfl (LQ.ldA rfl rfl (fun w' hw => (b1.mv0 (gr_trans e23 hw)).cellsAll) (LQ.run rfl (LQ.ld rfl (fun w' hw => (b2.mv0 (gr_trans e23 hw)).cell rfl rfl) (LQ.run rfl (LQ.ix rfl (by omega) (by omega) hB1 (LQ.run rfl (LQ.ld rfl (fun w' hw => (hBC w' (gr_below (gr_trans e03 hw))).one 0 rfl (by simp [Addr.add])) (LQ.run rfl
      (LQ.ld rfl (fun w' hw => (b2.mv0 (gr_trans e23 hw)).cell rfl rfl) (LQ.run rfl (LQ.ix rfl (by omega) (by omega) hD1 (LQ.run rfl (LQ.ld rfl (fun w' hw => (hDC w' (gr_below (gr_trans e03 hw))).one 0 rfl (by simp [Addr.add])) (LQ.run rfl
      (LQ.clG rfl (fun w' hw => least_go s A c i _ _ _ w' (hA.mv (gr_trans e03 hw)) hlt (by omega) (by omega) (by omega) (by omega) (by omega) (by omega)) (LQ.run rfl (LQ.nil fun w4 e4 => ?_)))))))))))))))))
    have e24 := gr_trans e23 e4
    have hO4 := hO.mv0 e4
    have hoil' : rest (nt s i) (now s (oilAt s p (lowT s) i) (at0 p.cans i)) (at0 p.wicks i) (nt s i).hi = oilAt s p (lowT s) (i + 1) := by rw [← lowT_burn s i hlt]; rfl
    have hlit' : litB (nt s i) (now s (oilAt s p (lowT s) i) (at0 p.cans i)) (at0 p.wicks i) (nt s i).hi = litAt s p (lowT s) i := by rw [← lowT_burn s i hlt]; rfl
    rw [hoil', hlit']
    have hlen := darkL_len s p i
    have hnext : some (Value.int .i64 (IntKind.i64.wrap ((i : Int) + 1))) = some (Value.int .i64 ((i + 1 : Nat) : Int)) := congrArg (fun z => some (Value.int .i64 z)) (w64 (by omega) (by omega))
    refine M.run rfl (M.cond rfl (fun h2 => ?_) (fun h2 => ?_))
    · have h2' : litAt s p (lowT s) i = false := by simpa using h2
      refine M.run rfl (M.bs rfl fun g5 w5 b5 e5 l5 => M.run rfl ?_)
      refine M.app (d := dI) rfl rfl (hO4.mv0 e5) rfl (by decide) rfl (ys := [(i : Int)]) rfl rfl (src_one b5 rfl) (Nat.le_trans e24.size e5.size) (by simp; omega) (by decide) fun X' x' w6 hO6 e6 hat => ?_
      have e26 := (hO4.mv0 e5).gr (gr_trans e24 e5) e6 (Nat.le_refl _)
      refine M.run rfl (M.end_ ⟨(i + 1, X', x'), ⟨rfl, rfl, ?_, rfl, rfl, hnext, trivial⟩, ⟨by omega, e26, ?_⟩, by simp; omega⟩)
      · show some (Value.slice X' (darkL s p i ++ [(i : Int)]).length x') = some (Value.slice X' (darkL s p (i + 1)).length x')
        rw [darkL_succ, h2']; rfl
      · show Vc.Own dI 3 w6 w2.heap.size no X' x' (darkL s p (i + 1))
        rw [darkL_succ, h2']; exact hO6
    · have h2' : litAt s p (lowT s) i = true := by simpa using h2
      refine M.run rfl (M.end_ ⟨(i + 1, X, x), ⟨rfl, rfl, ?_, rfl, rfl, hnext, trivial⟩, ⟨by omega, e24, ?_⟩, by simp; omega⟩)
      · show some (Value.slice X (darkL s p i).length x) = some (Value.slice X (darkL s p (i + 1)).length x)
        rw [darkL_succ, h2']; rfl
      · show Vc.Own dI 3 w4 w2.heap.size no X x (darkL s p (i + 1))
        rw [darkL_succ, h2']; exact hO4
  · have : i = s.nights.length := by have := of_decide_eq_false h; omega
    subst this
    exact M.run rfl (M.retF rfl rfl ⟨X, x, rfl, hO.weaken (Nat.le_trans e1.size e2.size) (fun _ h => h), e03⟩)

theorem nil_own {w w' : World} {d : Rp Int} : Vc.Own d 3 w' w.heap.size no none 0 [] := Own.nil _ _ _ _ _

theorem Dark_go (s : Store) (p : Plan) (A : Option Addr) (c : Nat) (B : Option Addr) (b : Nat) (D : Option Addr) (d : Nat) (w : World) (hA : Rd dNight w A c s.nights) (hB : Rd dI w B b p.cans) (hD : Rd dI w D d p.wicks) :
    Calls Try.prog 46 #[vStore s A c, vPlan p B b D d] w fun e w' => ∃ X x, e = .returned (.tuple #[.slice X (darkR s p).length x, .int .i64 (check s p)]) ∧ Vc.Own dI 3 w' w.heap.size no X x (darkR s p) ∧ w.grownBy w' none := by
  refine calls (G := G) (args := [vStore s A c, vPlan p B b D d]) Try.func46 rfl rfl rfl ?_
  refine M.run rfl (M.nw rfl fun g1 w1 b1 e1 l1 => M.run rfl (M.nw rfl fun g2 w2 b2 e2 l2 => M.run rfl (M.ldA rfl rfl (b1.mv0 e2).cellsAll (M.run rfl (M.ldA rfl rfl b2.cellsAll (M.run rfl (M.cl rfl (check_go s p A c B b D d w2 (hA.mv (gr_trans e1 e2)) (hB.mv (gr_trans e1 e2)) (hD.mv (gr_trans e1 e2))) ?_)))))))
  rintro e w3 ⟨rfl, e3⟩
  have e03 := gr_trans (gr_trans e1 e2) e3
  replace b1 := (b1.mv0 e2).mv0 e3
  replace b2 := b2.mv0 e3
  refine ⟨_, rfl, M.run rfl (M.cond rfl (fun h => ?_) (fun h => ?_))⟩
  · have h' : check s p ≠ 0 := by simpa using h
    have hr : darkR s p = [] := by simp [darkR, h']
    rw [hr]
    exact M.run rfl (M.retF rfl rfl ⟨none, 0, rfl, nil_own, e03⟩)
  · have h' : check s p = 0 := by simpa using h
    have hr : darkR s p = darkL s p s.nights.length := by simp [darkR, h']
    rw [hr]
    refine M.run rfl (M.ldA rfl rfl b1.cellsAll (M.run rfl (M.ldA rfl rfl b2.cellsAll (M.run rfl (M.cl rfl (dark_go s p A c B b D d w3 (hA.mv e03) (hB.mv e03) (hD.mv e03) (check_fine h')) ?_)))))
    rintro e w4 ⟨X, x, rfl, hO, e4⟩
    refine ⟨_, rfl, M.run rfl (M.retF rfl rfl ⟨X, x, ?_, hO.weaken e03.size (fun _ h => h), gr_trans e03 e4⟩)⟩
    rw [h']; rfl

theorem ProvePlan_go (s : Store) (p : Plan) (A : Option Addr) (c : Nat) (B : Option Addr) (b : Nat) (D : Option Addr) (d : Nat) (w : World) (hA : Rd dNight w A c s.nights) (hB : Rd dI w B b p.cans) (hD : Rd dI w D d p.wicks) :
    Calls Try.prog 51 #[vStore s A c, vPlan p B b D d] w fun e w' => e = .returned (.bool (provePlan s p)) ∧ w.grownBy w' none := by
  refine calls (G := G) (args := [vStore s A c, vPlan p B b D d]) Try.func51 rfl rfl rfl ?_
  refine M.run rfl (M.nw rfl fun g1 w1 b1 e1 l1 => M.run rfl (M.nw rfl fun g2 w2 b2 e2 l2 => M.run rfl (M.ldA rfl rfl (b1.mv0 e2).cellsAll (M.run rfl (M.ldA rfl rfl b2.cellsAll (M.run rfl (M.cl rfl (check_go s p A c B b D d w2 (hA.mv (gr_trans e1 e2)) (hB.mv (gr_trans e1 e2)) (hD.mv (gr_trans e1 e2))) ?_)))))))
  rintro e w3 ⟨rfl, e3⟩
  have e03 := gr_trans (gr_trans e1 e2) e3
  replace b1 := (b1.mv0 e2).mv0 e3
  replace b2 := b2.mv0 e3
  refine ⟨_, rfl, M.at_ [9] rfl (M.case 9 rfl (fun h => ?_) (fun h => ?_))⟩
  · have h' : check s p = 0 := by simpa using h
    refine M.run rfl (M.ldA rfl rfl b1.cellsAll (M.run rfl (M.ldA rfl rfl b2.cellsAll (M.run rfl (M.cl rfl (dark_go s p A c B b D d w3 (hA.mv e03) (hB.mv e03) (hD.mv e03) (check_fine h')) ?_)))))
    rintro e w4 ⟨X, x, rfl, hO, e4⟩
    refine ⟨_, rfl, M.run rfl (M.retF rfl rfl ⟨?_, gr_trans e03 e4⟩)⟩
    have : (((darkL s p s.nights.length).length : Int) == 0) = decide (darkL s p s.nights.length = []) := by
      rw [Bool.eq_iff_iff]; simp
    simp [provePlan, h', oneOrTuple, this]
  · have h' : check s p ≠ 0 := by simpa using h
    exact M.run rfl (M.retF rfl rfl ⟨by simp [provePlan, h', oneOrTuple], e03⟩)

theorem dip_go (s : Store) (x : Dip) (A : Option Addr) (c : Nat) (w : World) (hA : Rd dNight w A c s.nights) :
    Calls Try.prog 100 #[vStore s A c, .agg (encDip x).toArray] w fun e w' => e = .returned (.bool (dipOk s x)) ∧ w.grownBy w' none := by
  have hb := hA.bd
  have hw : IntKind.i64.wrap ((s.nights.length : Int) - 1) = (s.nights.length : Int) - 1 := w64 (by omega) (by omega)
  refine calls (G := G) (args := [vStore s A c, .agg (encDip x).toArray]) Try.func100 rfl rfl rfl ?_
  refine M.run rfl (M.nw rfl fun g1 w1 b1 e1 l1 => M.run rfl (M.nw rfl fun g2 w2 b2 e2 l2 => M.run rfl (M.ld rfl (b2.cell rfl rfl) (M.run rfl (M.ld rfl ((b1.mv0 e2).cell rfl rfl) (M.run rfl (M.cl rfl (within_ok _ _ _ _) ?_)))))))
  rintro e w3 ⟨rfl, e3⟩
  have e03 := gr_trans (gr_trans e1 e2) e3
  replace b2 := b2.mv0 e3
  rw [hw]
  refine ⟨_, rfl, M.at_ [12] rfl (M.case 12 rfl (fun h => ?_) (fun h => ?_))⟩
  · refine M.run rfl (M.ldA rfl rfl (b2.cells 1 rfl ⟨[], rfl⟩ : Cells _ _ [_, _]) (M.run rfl (M.cl rfl (to_ok _ _ _ _) ?_)))
    rintro e w4 ⟨rfl, e4⟩
    exact ⟨_, rfl, M.run rfl (M.retF rfl rfl ⟨by simp [dipOk, h, oneOrTuple], gr_trans e03 e4⟩)⟩
  · exact M.run rfl (M.retF rfl rfl ⟨by simp [dipOk, h, oneOrTuple], e03⟩)

theorem dipped_go (s : Store) (p : Plan) (l : List Dip) (A : Option Addr) (c : Nat) (B : Option Addr) (b : Nat) (D : Option Addr) (d : Nat) (E : Option Addr) (f : Nat) (w : World) (hA : Rd dNight w A c s.nights) (hB : Rd dI w B b p.cans) (hD : Rd dI w D d p.wicks) (hE : Rd dDip w E f l) :
    Calls Try.prog 71 #[vStore s A c, vPlan p B b D d, .slice E l.length f] w fun e w' => e = .returned (.int .i64 (dippedE s p l)) ∧ w.grownBy w' none := by
  refine calls (G := G) (args := [vStore s A c, vPlan p B b D d, .slice E l.length f]) Try.func71 rfl rfl rfl ?_
  refine M.run rfl (M.nw rfl fun g1 w1 b1 e1 l1 => M.run rfl (M.nw rfl fun g2 w2 b2 e2 l2 => M.run rfl (M.ldA rfl rfl (b1.mv0 e2).cellsAll (M.run rfl (M.ldA rfl rfl b2.cellsAll (M.run rfl (M.cl rfl (check_go s p A c B b D d w2 (hA.mv (gr_trans e1 e2)) (hB.mv (gr_trans e1 e2)) (hD.mv (gr_trans e1 e2))) ?_)))))))
  rintro e w3 ⟨rfl, e3⟩
  have e03 := gr_trans (gr_trans e1 e2) e3
  replace b1 := (b1.mv0 e2).mv0 e3
  refine ⟨_, rfl, M.run rfl (M.cond rfl (fun h => ?_) (fun h => ?_))⟩
  · have h' : check s p ≠ 0 := by simpa using h
    exact M.run rfl (M.retF rfl rfl ⟨by simp [dippedE, h', oneOrTuple], e03⟩)
  have h' : check s p = 0 := by simpa using h
  refine M.run rfl (M.ldA rfl rfl b1.cellsAll (M.run rfl (M.cond rfl (fun h1 => ?_) (fun h1 => ?_))))
  · have h1' := of_decide_eq_true h1
    exact M.run rfl (M.retF rfl rfl ⟨by simp [dippedE, h', oneOrTuple]; omega, e03⟩)
  have h1' := of_decide_eq_false h1
  refine M.run rfl (M.cl rfl (all_dip w3 E f l 100 rfl #[vStore s A c] #[] (dipOk s) (hE.mv e03) (fun x _ w' hb => dip_go s x A c w' ((hA.mv e03).since hb))) ?_)
  rintro e w4 ⟨rfl, e4⟩
  refine ⟨_, rfl, M.run rfl (M.cond rfl (fun h2 => ?_) (fun h2 => ?_))⟩
  · have h2' : l.all (dipOk s) = false := by simpa using h2
    refine M.run rfl (M.retF rfl rfl ⟨?_, gr_trans e03 e4⟩)
    have : ¬ (l.length : Int) > 6 := h1'
    simp only [dippedE, h', h2', this]; rfl
  · have h2' : l.all (dipOk s) = true := by simpa using h2
    refine M.run rfl (M.retF rfl rfl ⟨?_, gr_trans e03 e4⟩)
    have : ¬ (l.length : Int) > 6 := h1'
    simp only [dippedE, h', h2', this]; rfl
end Go.Proofs.Ytaimlmfncjbmjaa
end

section
/- Walk: Play. -/
set_option linter.unusedVariables false
namespace Go.Proofs.Ytaimlmfncjbmjaa
open Go Go.Vc Go.RowKit Lp


theorem truth_fine {s : Store} {p : Plan} {t : Truth} (hf : Fine s p) (h : truthOk s t = true) : 0 ≤ t.start ∧ t.start ≤ s.cap ∧ t.burn.length = s.nights.length ∧ ∀ i, i < s.nights.length → 0 ≤ at0 t.burn i ∧ at0 t.burn i ≤ 10 := by
  obtain ⟨h1, h2, h3, h4⟩ := truthOk_spec h
  have := hf.ok.start
  exact ⟨by omega, by omega, h3, fun i hi => by have := h4 i (by omega); have := hf.ok.nt hi; omega⟩

set_option maxHeartbeats 1000000 in
theorem Play_go (s : Store) (p : Plan) (t : Truth) (A : Option Addr) (c : Nat) (B : Option Addr) (b : Nat) (D : Option Addr) (d : Nat) (E : Option Addr) (f : Nat) (w : World) (hA : Rd dNight w A c s.nights) (hB : Rd dI w B b p.cans) (hD : Rd dI w D d p.wicks) (hE : Rd dI w E f t.burn) :
    Calls Try.prog 20 #[vStore s A c, vPlan p B b D d, vTruth t E f] w fun e w' => ∃ X x Y y Z z,
      e = .returned (.tuple #[.slice X (playL s p t).length x, .slice Y (playB s p t).length y, .slice Z (playI s p t).length z, .int .i64 (playE s p t)]) ∧
      Vc.Own dI 3 w' w.heap.size no X x (playL s p t) ∧ Vc.Own dI 3 w' w.heap.size no Y y (playB s p t) ∧ Vc.Own dB 4 w' w.heap.size no Z z (playI s p t) ∧ w.grownBy w' none := by
  refine calls (G := G) (args := [vStore s A c, vPlan p B b D d, vTruth t E f]) Try.func20 rfl rfl rfl ?_
  refine M.run rfl (M.nw rfl fun g1 w1 b1 e1 l1 => M.run rfl (M.nw rfl fun g2 w2 b2 e2 l2 => M.run rfl (M.nw rfl fun g3 w3 b3 e3 l3 => ?_)))
  have e03 := gr_trans (gr_trans e1 e2) e3
  replace b1 := (b1.mv0 e2).mv0 e3
  replace b2 := b2.mv0 e3
  refine M.run rfl (M.ldA rfl rfl b1.cellsAll (M.run rfl (M.ldA rfl rfl b2.cellsAll (M.run rfl (M.cl rfl (check_go s p A c B b D d w3 (hA.mv e03) (hB.mv e03) (hD.mv e03)) ?_)))))
  rintro e w4 ⟨rfl, e4⟩
  replace e03 := gr_trans e03 e4
  replace b1 := b1.mv0 e4
  replace b2 := b2.mv0 e4
  replace b3 := b3.mv0 e4
  refine ⟨_, rfl, M.run rfl (M.cond rfl (fun h => ?_) (fun h => ?_))⟩
  · have h' : check s p ≠ 0 := by simpa using h
    have hr : playE s p t = check s p := by simp [playE, h']
    have r1 : playL s p t = [] := by simp [playL, hr, h']
    have r2 : playB s p t = [] := by simp [playB, hr, h']
    have r3 : playI s p t = [] := by simp [playI, hr, h']
    rw [r1, r2, r3, hr]
    exact M.run rfl (M.retF rfl rfl ⟨none, 0, none, 0, none, 0, rfl, Own.nil _ _ _ _ _, Own.nil _ _ _ _ _, Own.nil _ _ _ _ _, e03⟩)
  have h' : check s p = 0 := by simpa using h
  have hf := check_fine h'
  refine M.run rfl (M.ldA rfl rfl b1.cellsAll (M.run rfl (M.ldA rfl rfl b3.cellsAll (M.run rfl (M.cl rfl (truth_go s t A c E f w4 (hA.mv e03) (hE.mv e03)) ?_)))))
  rintro e w5 ⟨rfl, e5⟩
  replace e03 := gr_trans e03 e5
  replace b1 := b1.mv0 e5
  replace b2 := b2.mv0 e5
  replace b3 := b3.mv0 e5
  refine ⟨_, rfl, M.run rfl (M.cond rfl (fun h1 => ?_) (fun h1 => ?_))⟩
  · have h1' : truthOk s t = false := by simpa using h1
    have hr : playE s p t = 2 := by simp [playE, h', h1']
    have r1 : playL s p t = [] := by simp [playL, hr]
    have r2 : playB s p t = [] := by simp [playB, hr]
    have r3 : playI s p t = [] := by simp [playI, hr]
    rw [r1, r2, r3, hr]
    exact M.run rfl (M.retF rfl rfl ⟨none, 0, none, 0, none, 0, rfl, Own.nil _ _ _ _ _, Own.nil _ _ _ _ _, Own.nil _ _ _ _ _, e03⟩)
  have h1' : truthOk s t = true := by simpa using h1
  obtain ⟨ht0, ht1, htl, htb⟩ := truth_fine hf h1'
  have hr : playE s p t = 0 := by simp [playE, h', h1']
  have r1 : playL s p t = leftL s p t s.nights.length := by simp [playL, hr]
  have r2 : playB s p t = backL s p t s.nights.length := by simp [playB, hr]
  have r3 : playI s p t = litL s p t s.nights.length := by simp [playI, hr]
  rw [r1, r2, r3, hr]
  refine M.run rfl (M.ld rfl (b3.cell rfl rfl) (M.run rfl (M.ld rfl (b1.cell rfl rfl) (M.run rfl ?_))))
  refine M.loop (σ := Nat × (Option Addr × Nat) × (Option Addr × Nat) × (Option Addr × Nat)) (fun (i, (X, x), (Y, y), (Z, z)) => [(3, .pointer (some ⟨g1, 0, none⟩)), (4, .pointer (some ⟨g2, 0, none⟩)), (5, .pointer (some ⟨g3, 0, none⟩)), (6, .slice X (leftL s p t i).length x), (7, .slice Y (backL s p t i).length y), (8, .slice Z (litL s p t i).length z),
      (11, .int .i64 (oilAt s p t i)), (31, .slice A s.nights.length c), (32, .int .i64 s.nights.length), (33, .int .i64 (i : Int))])
    (fun (i, (X, x), (Y, y), (Z, z)) w' => i ≤ s.nights.length ∧ w5.grownBy w' none ∧ Vc.Own dI 3 w' w5.heap.size no X x (leftL s p t i) ∧ Vc.Own dI 3 w' w5.heap.size no Y y (backL s p t i) ∧ Vc.Own dB 4 w' w5.heap.size no Z z (litL s p t i) ∧ Ne2 X Y)
    (fun (i, _) => s.nights.length - i) (0, (none, 0), (none, 0), (none, 0)) ⟨rfl, rfl, rfl, rfl, rfl, rfl, rfl, rfl, rfl, rfl, trivial⟩ ⟨Nat.zero_le _, gr_refl _ _, Own.nil _ _ _ _ _, Own.nil _ _ _ _ _, Own.nil _ _ _ _ _, Ne2.nil _⟩ ?_
  rintro ⟨i, ⟨X, x⟩, ⟨Y, y⟩, ⟨Z, z⟩⟩ w6 ⟨hi, e56, hX, hY, hZ, hXY⟩
  have e06 := gr_trans e03 e56
  refine M.run rfl (M.cond rfl (fun h2 => ?_) (fun h2 => ?_))
  · have hn6 := hf.ok.few
    have hlt : i < s.nights.length := by have := of_decide_eq_true h2; omega
    have hltc : i < p.cans.length := by rw [hf.cl]; exact hlt
    have hltw : i < p.wicks.length := by rw [hf.wl]; exact hlt
    have hltb : i < t.burn.length := by rw [htl]; exact hlt
    obtain ⟨hA1, hAC⟩ := rd_flat hA hlt
    obtain ⟨hB1, hBC⟩ := rd_flat hB hltc
    obtain ⟨hD1, hDC⟩ := rd_flat hD hltw
    obtain ⟨hE1, hEC⟩ := rd_flat hE hltb
    rw [nt_get hlt] at hAC
    rw [at0_get hltc] at hBC
    rw [at0_get hltw] at hDC
    rw [at0_get hltb] at hEC
    have hnt := hf.ok.nt hlt
    have hca := hf.add hlt
    have hwi := hf.wicks i hlt
    have hcap := hf.ok.cap
    have hst := hf.ok.start
    have hbu := htb i hlt
    have hoil := oil_bd (t := t) hf ht0 ht1 (fun j hj => (htb j hj).1) i hi
    refine M.run rfl (M.ix rfl (by omega) (by omega) hA1 (M.run rfl (M.ldA rfl rfl (hAC w6 (gr_below e06)) (M.run rfl (M.nw rfl fun g7 w7 b7 e7 l7 => M.run rfl ?_)))))
    refine M.store rfl rfl b7 rfl rfl fun w8 b8 e8 => ?_
    have e68 : w6.grownBy w8 none := gr_fresh e7 e8 l7
    have e58 := gr_trans e56 e68
    have e08 := gr_trans e06 e68
    have hnow := now_bd (s := s) hoil.1 hca.1 (show 0 ≤ s.cap by omega)
    refine M.run rfl (M.quiet (by kernel_rfl) ?_)
    refine LQ.run rfl (LQ.ldA rfl rfl (fun w' hw => (b1.mv0 (gr_trans e58 hw)).cellsAll) (LQ.run rfl (LQ.ld rfl (fun w' hw => (b2.mv0 (gr_trans e58 hw)).cell rfl rfl) (LQ.run rfl (LQ.ix rfl (by omega) (by omega) hB1 (LQ.run rfl (LQ.ld rfl (fun w' hw => (hBC w' (gr_below (gr_trans e08 hw))).one 0 rfl (by simp [Addr.add])) (LQ.run rfl
      (LQ.clG rfl (fun w' hw => filled_go s A c _ _ w' (by omega) (by omega) (by omega)) (LQ.run rfl (LQ.nil fun w9 e9 => ?_)))))))))))
    have e59 := gr_trans e58 e9
    have e09 := gr_trans e08 e9
    replace b8 := b8.mv0 e9
    refine M.run rfl (M.quiet (by kernel_rfl) ?_)
    refine LQ.run rfl (LQ.ldA rfl rfl (fun w' hw => (b8.mv0 hw).cellsAll) (LQ.run rfl (LQ.ld rfl (fun w' hw => (b2.mv0 (gr_trans e59 hw)).cell rfl rfl) (LQ.run rfl (LQ.ix rfl (by omega) (by omega) hD1 (LQ.run rfl (LQ.ld rfl (fun w' hw => (hDC w' (gr_below (gr_trans e09 hw))).one 0 rfl (by simp [Addr.add])) (LQ.run rfl
      (LQ.ld rfl (fun w' hw => (b3.mv0 (gr_trans e59 hw)).cell rfl rfl) (LQ.run rfl (LQ.ix rfl (by omega) (by omega) hE1 (LQ.run rfl (LQ.ld rfl (fun w' hw => (hEC w' (gr_below (gr_trans e09 hw))).one 0 rfl (by simp [Addr.add])) (LQ.run rfl
      (LQ.clG rfl (fun w' hw => burned_go (nt s i) _ _ _ w' (by omega) (by omega) (by omega) (by omega)) (LQ.run rfl (LQ.nil fun w10 e10 => ?_)))))))))))))))))
    have e510 := gr_trans e59 e10
    have e610 := gr_trans (gr_trans e68 e9) e10
    refine M.run rfl (M.bs rfl fun ga wa ba ea la => M.run rfl ?_)
    have hl1 : (leftL s p t i).length = i := by simp [leftL]
    have hl2 : (backL s p t i).length = i := by simp [backL]
    have hl3 : (litL s p t i).length = i := by simp [litL]
    refine M.app (d := dI) rfl rfl ((hX.mv0 e610).mv0 ea) rfl (by decide) rfl (ys := [oilAt s p t (i + 1)]) rfl rfl (src_one ba rfl) (Nat.le_trans e510.size ea.size) (by simp [hl1]; omega) (by decide) fun X' x' wb hXb eb hatb => ?_
    have e5b := ((hX.mv0 e610).mv0 ea).gr (gr_trans e510 ea) eb (Nat.le_refl _)
    have hYb := ((hY.mv0 e610).mv0 ea).mvN eb hXY.symm
    have hZb := ((hZ.mv0 e610).mv0 ea).mvN eb (Own.ne_tag ((hZ.mv0 e610).mv0 ea) ((hX.mv0 e610).mv0 ea) (by decide))
    have hXY' : Ne2 X' Y := hXY.app hatb ((hY.mv0 e610).mv0 ea)
    refine M.run rfl (M.bs rfl fun gc wc bc ec lc => M.run rfl ?_)
    refine M.app (d := dI) rfl rfl (hYb.mv0 ec) rfl (by decide) rfl (ys := [backAt s p t i]) rfl rfl (src_one bc rfl) (Nat.le_trans e5b.size ec.size) (by simp [hl2]; omega) (by decide) fun Y' y' wd hYd ed hatd => ?_
    have e5d := (hYb.mv0 ec).gr (gr_trans e5b ec) ed (Nat.le_refl _)
    have hXd := (hXb.mv0 ec).mvN ed hXY'
    have hZd := (hZb.mv0 ec).mvN ed (Own.ne_tag (hZb.mv0 ec) (hYb.mv0 ec) (by decide))
    have hXY'' : Ne2 X' Y' := (hXY'.symm.app hatd (hXb.mv0 ec)).symm
    refine M.run rfl (M.bs rfl fun ge we be ee le_ => M.run rfl ?_)
    refine M.app (d := dB) rfl rfl (hZd.mv0 ee) rfl (by decide) rfl (ys := [litAt s p t i]) rfl rfl (src_one be rfl) (Nat.le_trans e5d.size ee.size) (by simp [hl3]; omega) (by decide) fun Z' z' wf hZf ef hatf => ?_
    have e5f := (hZd.mv0 ee).gr (gr_trans e5d ee) ef (Nat.le_refl _)
    have hXf := (hXd.mv0 ee).mvN ef (Own.ne_tag (hXd.mv0 ee) (hZd.mv0 ee) (by decide))
    have hYf := (hYd.mv0 ee).mvN ef (Own.ne_tag (hYd.mv0 ee) (hZd.mv0 ee) (by decide))
    have hnext : some (Value.int .i64 (IntKind.i64.wrap ((i : Int) + 1))) = some (Value.int .i64 ((i + 1 : Nat) : Int)) := congrArg (fun z => some (Value.int .i64 z)) (w64 (by omega) (by omega))
    refine M.run rfl (M.end_ ⟨(i + 1, (X', x'), (Y', y'), (Z', z')), ⟨rfl, rfl, rfl, ?_, ?_, ?_, rfl, rfl, rfl, hnext, trivial⟩, ⟨by omega, e5f, ?_, ?_, ?_, hXY''⟩, by simp; omega⟩)
    · rw [leftL_succ]; rfl
    · rw [backL_succ]; rfl
    · rw [litL_succ]; rfl
    · show Vc.Own dI 3 wf w5.heap.size no X' x' (leftL s p t (i + 1))
      rw [leftL_succ]; exact hXf
    · show Vc.Own dI 3 wf w5.heap.size no Y' y' (backL s p t (i + 1))
      rw [backL_succ]; exact hYf
    · show Vc.Own dB 4 wf w5.heap.size no Z' z' (litL s p t (i + 1))
      rw [litL_succ]; exact hZf
  · have : i = s.nights.length := by have := of_decide_eq_false h2; omega
    subst this
    exact M.run rfl (M.retF rfl rfl ⟨X, x, Y, y, Z, z, rfl, hX.weaken e03.size (fun _ h => h), hY.weaken e03.size (fun _ h => h), hZ.weaken e03.size (fun _ h => h), e06⟩)
end Go.Proofs.Ytaimlmfncjbmjaa
end

section
/- A region that draws its order and has effects: what only computes and loads of cells that stay are taken first, in the text's order; at an effect all that may come up. -/
set_option linter.unusedVariables false
set_option linter.unusedSimpArgs false
namespace Go.Vc
open Go.RowKit

section
variable {P : Program} {ops : Array Oper} {Q : Exit → Act → World → Prop} {R RL : World → World → Prop} {late : List Nat}

/-- whatever order is picked; behind each operation that is not late the world stands in R to the one before it, behind a late one in RL -/
def wpR (P : Program) (ops : Array Oper) (Q : Exit → Act → World → Prop) (R RL : World → World → Prop) (late : List Nat) : Nat → Array Bool → Act → World → Prop
  | 0, listed, a, w => Region.ready .any ops listed = [] ∧ Q .normal a w
  | f + 1, listed, a, w => (Region.ready .any ops listed = [] → Q .normal a w) ∧
    ∀ i ∈ Region.ready .any ops listed, wpOp P ops Q i (fun a' w' => ((memN i late = true ∧ RL w w') ∨ R w w') ∧ wpR P ops Q R RL late f (listed.setIfInBounds i true) a' w') a w

theorem wpAny_of_R : ∀ (f : Nat) (listed : Array Bool) (a : Act) (w : World), wpR P ops Q R RL late f listed a w → wpAny P .any ops Q f listed a w
  | 0, _, _, _, h => h
  | f + 1, _, _, _, h => ⟨h.1, fun i hi => wpOp_mono (fun a' w' h' => wpAny_of_R f _ a' w' h'.2) (h.2 i hi)⟩

/-- it waits neither for i nor for one that waits for i -/
def NotOn2 (ops : Array Oper) (o : Oper) (i : Nat) : Prop := ∀ e ∈ o.after, Region.binds .any e = true → e.on ≠ i ∧ ∀ oe, ops[e.on]? = some oe → ∀ e' ∈ oe.after, Region.binds .any e' = true → e'.on ≠ i
theorem wpR_first (hR : ∀ w, R w w) {W : World → Prop} (hW : ∀ w w', W w → R w w' → W w') (X : Bool) (hWL : X = true → ∀ w w', W w → RL w w' → W w') {i : Nat} {oi : Oper} {v : Value} (hi : ops[i]? = some oi)
    (hsel : ∀ (j : Nat) (o : Oper) cs b, ops[j]? = some o → o.op ≠ .select cs b) (hQ : ∀ c a w, Q (.panic c) (a.put oi.dst v) w → Q (.panic c) a w) :
    ∀ (f : Nat) (listed : Array Bool) (a : Act) (w : World),
      (∀ j oj, ops[j]? = some oj → j ≠ i → listed.getD j true = false → NotOn2 ops oj i → oi.apart ops oj = true ∧ (X = true ∨ memN j late = false)) →
      (∀ j oj, ops[j]? = some oj → listed.getD j false = true → ∀ e ∈ oj.after, Region.binds .any e = true → listed.getD e.on false = true) →
      i ∈ Region.ready .any ops listed → YieldsIf P ops W oi v a → W w →
      wpR P ops Q R RL late f (listed.setIfInBounds i true) (a.put oi.dst v) w → wpR P ops Q R RL late (f + 1) listed a w := by
  intro f
  induction f with
  | zero =>
    intro listed a w _ _ hr hy hS H
    refine ⟨fun h => (by rw [h] at hr; cases hr), fun j hj => ?_⟩
    by_cases hji : j = i
    · subst hji; exact hy.wpOp hi hS ⟨.inr (hR w), H⟩
    · have := ready_mono hj hji
      rw [H.1] at this
      cases this
  | succ f ih =>
    intro listed a w hfree hdc hr hy hS H
    refine ⟨fun h => (by rw [h] at hr; cases hr), fun j hj => ?_⟩
    by_cases hji : j = i
    · subst hji; exact hy.wpOp hi hS ⟨.inr (hR w), H⟩
    · have h1 := H.2 j (ready_mono hj hji)
      obtain ⟨hjun, oj, hoj, hall⟩ := mem_ready.1 hj
      have hun : listed.getD i false = true → False := fun h1 => by
        have h0 := (mem_ready.1 hr).1
        rcases Nat.lt_or_ge i listed.size with h' | h'
        · simp [h'] at h0 h1; rw [h0] at h1; cases h1
        · simp [Array.getElem?_eq_none h'] at h1
      have hnot : NotOn2 ops oj i := fun e he hb => ⟨fun heq => hun (heq ▸ hall e he hb), fun oe hoe e' he' hb' heq => hun (heq ▸ hdc e.on oe hoe (hall e he hb) e' he' hb')⟩
      obtain ⟨hap, hnl⟩ := hfree j oj hoj hji hjun hnot
      have h2 := wpOp_putIf hoj hap (fun cs b => hsel i oi cs b hi) (fun cs b => hsel j oj cs b hoj) hQ hy h1
      have hfree' : ∀ k ok, ops[k]? = some ok → k ≠ i → (listed.setIfInBounds j true).getD k true = false →
          NotOn2 ops ok i → oi.apart ops ok = true ∧ (X = true ∨ memN k late = false) := fun k ok hk hki hun hno => by
        refine hfree k ok hk hki ?_ hno
        by_cases hjk : j = k
        · subst hjk; exact hjun
        · rw [getD_set_ne true hjk] at hun; exact hun
      have hdc' : ∀ k ok, ops[k]? = some ok → (listed.setIfInBounds j true).getD k false = true → ∀ e ∈ ok.after, Region.binds .any e = true → (listed.setIfInBounds j true).getD e.on false = true := fun k ok hk hkl e he hb => by
        have keep : ∀ x, listed.getD x false = true → (listed.setIfInBounds j true).getD x false = true := fun x hx => by
          by_cases hxj : j = x
          · subst hxj
            rcases Nat.lt_or_ge j listed.size with h' | h'
            · simp [Array.getD_eq_getD_getElem?, Array.getElem?_setIfInBounds, h']
            · simp [Array.getElem?_eq_none h'] at hx
          · rw [getD_set_ne false hxj]; exact hx
        by_cases hkj : j = k
        · subst hkj
          rw [hoj] at hk
          injection hk with hk
          subst hk
          exact keep _ (hall e he hb)
        · rw [getD_set_ne false hkj] at hkl
          exact keep _ (hdc k ok hk hkl e he hb)
      refine wpOp_mono (fun a' w' h3 => ⟨h3.2.1, ih (listed.setIfInBounds j true) a' w' hfree' hdc' (ready_mono hr (Ne.symm hji)) h3.1 ?_ ?_⟩) h2
      · rcases h3.2.1 with h | h
        · rcases hnl with hx | hnl
          · exact hWL hx _ _ hS h.2
          · rw [hnl] at h; cases h.1
        · exact hW _ _ hS h
      · rw [Array.setIfInBounds_comm _ _ hji]
        exact h3.2.2
end

theorem wp_monoQ {P : Program} {o : Oper} {a : Act} {w : World} {K : Act → World → Prop} {Q Q' : Exit → Act → World → Prop} (h : ∀ e a w, e ≠ .normal → Q e a w → Q' e a w) (hh : o.wp P a w K Q) : o.wp P a w K Q' := by
  have hl : LetsOut Q → LetsOut Q' := fun ⟨a, w, hq⟩ => ⟨a, w, h _ _ _ (by simp) hq⟩
  unfold Oper.wp at *
  generalize (execOp a.eval o).run P w = r at *
  cases r with
  | ok x w' =>
    cases x <;> simp only [Oper.upon] at hh ⊢
    case enter f args =>
      refine Calls.mono hh fun e w'' he => ?_
      cases e with
      | returned u => exact he
      | panicked c => exact h _ _ _ (by simp) he
      | outgrown => exact hl he
    all_goals exact hh
  | halt x w' =>
    cases x <;> simp only [Oper.upon] at hh ⊢
    case panic u => exact h _ _ _ (by simp) hh

/-! ### closed checks -/
def edgesOk (done : List Nat) : List Edge → Bool
  | [] => true
  | e :: r => bif Region.binds .any e then (bif memN e.on done then edgesOk done r else false) else edgesOk done r
def waitsOn (o : Oper) (i : Nat) : Bool := o.after.toList.any fun e => Region.binds .any e && Nat.beq e.on i
/-- directly, or by one between -/
def waits2 (all : Array Oper) (o : Oper) (i : Nat) : Bool := waitsOn o i || o.after.toList.any fun e => Region.binds .any e && (match all[e.on]? with | some q => waitsOn q i | none => false)
def readyGo (done : List Nat) : Nat → List Oper → List Nat
  | _, [] => []
  | i, o :: l => bif memN i done then readyGo done (i + 1) l else bif edgesOk done o.after.toList then i :: readyGo done (i + 1) l else readyGo done (i + 1) l
def regB (all : Array Oper) (late ex sk : List Nat) : Bool := Region.noSelect all && (all.toList.zipIdx.all fun (o, i) => memN i sk || (all.toList.zipIdx.all fun (p, j) =>
  Nat.beq i j || waits2 all p i || waitsOn o j || (o.apart all p && (memN i ex || !memN j late))))

def Lst (all : Array Oper) (done : List Nat) (listed : Array Bool) : Prop := listed.size = all.size ∧ (∀ i, listed.getD i false = memN i done) ∧ ∀ j o, all[j]? = some o → memN j done = true → edgesOk done o.after.toList = true

theorem beq_ne {i j : Nat} (h : i ≠ j) : Nat.beq i j = false := by
  cases hb : Nat.beq i j with
  | true => exact absurd (Nat.eq_of_beq_eq_true hb) h
  | false => rfl
theorem memN_iff {d : Nat} : ∀ {l : List Nat}, memN d l = true ↔ d ∈ l
  | [] => by simp [memN]
  | x :: r => by
    simp only [memN, List.mem_cons]
    cases hb : Nat.beq x d with
    | true => simp [Nat.eq_of_beq_eq_true hb]
    | false =>
      have := Nat.ne_of_beq_eq_false hb
      simp only [cond_false, memN_iff]
      exact ⟨.inr, fun h => h.resolve_left (fun e => this e.symm)⟩

theorem edgesOk_iff {done : List Nat} : ∀ {l : List Edge}, edgesOk done l = true ↔ ∀ e ∈ l, Region.binds .any e = true → memN e.on done = true
  | [] => by simp [edgesOk]
  | e :: r => by
    simp only [edgesOk]
    cases hb : Region.binds .any e with
    | false => simp [edgesOk_iff, hb]
    | true =>
      cases hm : memN e.on done with
      | false => simp [hb, hm]
      | true => simp [edgesOk_iff, hb, hm]

theorem lst_start (all : Array Oper) : Lst all [] (Array.replicate all.size false) := by
  refine ⟨by simp, fun i => ?_, fun j o _ h => by simp [memN] at h⟩
  simp [Array.getD_eq_getD_getElem?, memN, Array.getElem?_replicate]
  split <;> rfl
theorem memN_more {d i : Nat} {done : List Nat} (h : memN d done = true) : memN d (i :: done) = true := by
  rw [memN_iff] at h ⊢
  exact List.mem_cons_of_mem _ h
theorem edgesOk_more {i : Nat} {done : List Nat} {l : List Edge} (h : edgesOk done l = true) : edgesOk (i :: done) l = true :=
  edgesOk_iff.2 fun e he hb => memN_more (edgesOk_iff.1 h e he hb)
theorem Lst.add {all : Array Oper} {done : List Nat} {listed : Array Bool} (h : Lst all done listed) {i : Nat} {o : Oper} (ho : all[i]? = some o) (he : edgesOk done o.after.toList = true) : Lst all (i :: done) (listed.setIfInBounds i true) := by
  have hi := (Array.getElem?_eq_some_iff.1 ho).1
  refine ⟨by simp [h.1], fun j => ?_, fun j p hp hj => ?_⟩
  · by_cases e : i = j
    · subst e
      simp [Array.getD_eq_getD_getElem?, Array.getElem?_setIfInBounds, h.1, hi, memN]
    · rw [getD_set_ne false e, h.2.1]
      simp only [memN]
      rw [beq_ne e]
      rfl
  · by_cases e : i = j
    · subst e
      rw [ho] at hp
      injection hp with hp
      subst hp
      exact edgesOk_more he
    · simp only [memN] at hj
      rw [beq_ne e] at hj
      exact edgesOk_more (h.2.2 j p hp hj)
theorem Lst.getT {all : Array Oper} {done : List Nat} {listed : Array Bool} (h : Lst all done listed) {i : Nat} (hi : i < all.size) : listed.getD i true = memN i done := by
  rw [← h.2.1 i]
  have : i < listed.size := by rw [h.1]; exact hi
  simp [Array.getD, this]

theorem mem_readyGo {done : List Nat} : ∀ {l : List Oper} {k i : Nat}, i ∈ readyGo done k l ↔ ∃ j o, l[j]? = some o ∧ i = k + j ∧ memN i done = false ∧ edgesOk done o.after.toList = true
  | [], k, i => by simp [readyGo]
  | o :: l, k, i => by
    have ih := @mem_readyGo done l (k + 1) i
    have split : (∃ j o', (o :: l)[j]? = some o' ∧ i = k + j ∧ memN i done = false ∧ edgesOk done o'.after.toList = true) ↔
        (i = k ∧ memN i done = false ∧ edgesOk done o.after.toList = true) ∨ (∃ j o', l[j]? = some o' ∧ i = k + 1 + j ∧ memN i done = false ∧ edgesOk done o'.after.toList = true) := by
      constructor
      · rintro ⟨j, o', hj, rfl, h1, h2⟩
        cases j with
        | zero => simp at hj; subst hj; exact .inl ⟨rfl, h1, h2⟩
        | succ j => exact .inr ⟨j, o', by simpa using hj, by omega, h1, h2⟩
      · rintro (⟨rfl, h1, h2⟩ | ⟨j, o', hj, rfl, h1, h2⟩)
        · exact ⟨0, o, rfl, rfl, h1, h2⟩
        · exact ⟨j + 1, o', by simpa using hj, by omega, h1, h2⟩
    rw [split]
    simp only [readyGo]
    cases hm : memN k done with
    | true =>
      simp only [cond_true]
      rw [ih]
      refine ⟨.inr, fun h => h.resolve_left ?_⟩
      rintro ⟨rfl, h1, _⟩
      rw [hm] at h1; cases h1
    | false =>
      simp only [cond_false]
      cases he : edgesOk done o.after.toList with
      | true =>
        simp only [cond_true, List.mem_cons]
        rw [ih]
        constructor
        · rintro (rfl | h)
          · exact .inl ⟨rfl, hm, trivial⟩
          · exact .inr h
        · rintro (⟨rfl, _, _⟩ | h)
          · exact .inl rfl
          · exact .inr h
      | false =>
        simp only [cond_false]
        rw [ih]
        refine ⟨.inr, fun h => h.resolve_left ?_⟩
        rintro ⟨rfl, _, h2⟩
        cases h2

theorem mem_ready_iff {all : Array Oper} {done : List Nat} {listed : Array Bool} (h : Lst all done listed) {i : Nat} : i ∈ Region.ready .any all listed ↔ i ∈ readyGo done 0 all.toList := by
  rw [mem_ready, mem_readyGo]
  constructor
  · rintro ⟨h1, o, ho, h2⟩
    have hlt := (Array.getElem?_eq_some_iff.1 ho).1
    refine ⟨i, o, by simpa using ho, by omega, by rw [← h.getT hlt]; exact h1, edgesOk_iff.2 fun e he hb => ?_⟩
    rw [← h.2.1]
    exact h2 e (by simpa using he) hb
  · rintro ⟨j, o, hj, rfl, h1, h2⟩
    have ho : all[0 + j]? = some o := by simpa using hj
    have hlt := (Array.getElem?_eq_some_iff.1 ho).1
    refine ⟨by rw [h.getT hlt]; exact h1, o, ho, fun e he hb => ?_⟩
    have := edgesOk_iff.1 h2 e (by simpa using he) hb
    rw [← h.2.1] at this
    exact this
theorem ready_nil_iff {all : Array Oper} {done : List Nat} {listed : Array Bool} (h : Lst all done listed) : Region.ready .any all listed = [] ↔ readyGo done 0 all.toList = [] := by
  simp only [List.eq_nil_iff_forall_not_mem, mem_ready_iff h]

/-! ### the judgement -/
structure D (G : Ctx) (n : Nat) (all : Array Oper) (R RL : World → World → Prop) (late ex sk : List Nat) (k : List It) (Q : QT) (m : Nat) (done : List Nat) (ρ : Env) (w : World) : Prop where
  mk :: (out : (∀ w, R w w) → (∀ a b c, R a b → R b c → R a c) → (∀ a b, R a b → RL a b) → (∀ a b c, RL a b → RL b c → RL a c) → (∀ c ρ w, ¬ Q (.panic c) ρ w) → regB all late ex sk = true → ∀ a, Fits n ρ a → ∀ listed, Lst all done listed → wpR G.P all (lift n (post G n k Q)) R RL late m listed a w)

/-- an operation that yields one value and leaves the world, in all worlds of a class -/
def YS (G : Ctx) (n : Nat) (all : Array Oper) (ρ : Env) (o : Oper) (W : World → Prop) (v : Value) : Prop :=
  wantedE ρ all o = some true ∧ inB n o.dst = true ∧ ∀ ac, Fits n ρ ac → ∀ w, W w → (execOp ac.eval o).run G.P w = .ok (.value v) w

section
variable {G : Ctx} {n : Nat} {all : Array Oper} {R RL : World → World → Prop} {late ex sk : List Nat} {k : List It} {Q : QT} {m : Nat} {done : List Nat} {ρ : Env} {w : World}

theorem post_panic (c) : ∀ {k : List It}, post G n k Q (.panic c) = Q (.panic c)
  | [] => rfl
  | .code _ :: k => by funext ρ w; simp only [post]; rw [post_panic c]
  | .ops _ _ :: k => by funext ρ w; simp only [post]; rw [post_panic c]
  | .blk _ :: k => by funext ρ w; simp only [post]; rw [post_panic c]
  | .stop _ :: k => by funext ρ w; simp only [post]; rw [post_panic c]

/-- the region -/
theorem M.draw (R RL : World → World → Prop) (late ex sk : List Nat) (hp : ∀ c ρ w, ¬ Q (.panic c) ρ w) (hR : ∀ w, R w w) (hT : ∀ a b c, R a b → R b c → R a c) (hS : ∀ a b, R a b → RL a b) (hL : ∀ a b c, RL a b → RL b c → RL a c) {id : Nat} (hB : regB all late ex sk = true)
    (h : D G n all R RL late ex sk k Q all.size [] ρ (w.drewN 1)) : M G n (.code (.region id all true) :: k) Q ρ w :=
  ⟨fun a hf => wp_region_any G.mixed (wpAny_of_R _ _ _ _ (h.out hR hT hS hL hp hB a hf _ (lst_start all)))⟩
/-- the most common kind: memory grows alone; late ones are stores -/
theorem M.drawG (late : List Nat) {fn : Func} {S : Ending → World → Prop} {id : Nat} (hB : regB all late [] [] = true)
    (h : ∀ w', w.grownBy w' none → D G n all (fun w w' => w.grownBy w' none) (fun _ _ => True) late [] [] k (fin G n fn S) all.size [] ρ w') : M G n (.code (.region id all true) :: k) (fin G n fn S) ρ w :=
  M.draw (fun w w' => w.grownBy w' none) (fun _ _ => True) late [] [] (fun _ _ _ h => h) (fun w => gr_refl w none) (fun a b c => gr_trans) (fun _ _ _ => trivial) (fun _ _ _ _ _ => trivial) hB (h _ (gr_drewN w 1))
/-- the late ones write one block alone; those of ex may come behind them -/
theorem M.drawL (g : Nat) (late ex sk : List Nat) {fn : Func} {S : Ending → World → Prop} {id : Nat} (hB : regB all late ex sk = true)
    (h : ∀ w', w.grownBy w' none → D G n all (fun w w' => w.grownBy w' none) (fun w w' => w.grownBy w' (some g)) late ex sk k (fin G n fn S) all.size [] ρ w') : M G n (.code (.region id all true) :: k) (fin G n fn S) ρ w :=
  M.draw (fun w w' => w.grownBy w' none) (fun w w' => w.grownBy w' (some g)) late ex sk (fun _ _ _ h => h) (fun w => gr_refl w none) (fun a b c => gr_trans) (fun _ _ h => ⟨h.os, h.tape, h.output, h.size, fun k hk _ => h.block k hk (by simp)⟩)
    (fun _ _ _ h k => ⟨k.os.trans h.os, k.tape.trans h.tape, k.output.trans h.output, Nat.le_trans h.size k.size, fun i hi hr => (k.block i (Nat.lt_of_lt_of_le hi h.size) hr).trans (h.block i hi hr)⟩) hB (h _ (gr_drewN w 1))

theorem D.done_ (hr : readyGo done 0 all.toList = []) (h : M G n k Q ρ w) : D G n all R RL late ex sk k Q m done ρ w := by
  refine ⟨fun hR hT hS hL hp hB a hf listed hl => ?_⟩
  have h0 := (ready_nil_iff hl).2 hr
  cases m with
  | zero => exact ⟨h0, ρ, hf, h.out⟩
  | succ m => exact ⟨fun _ => ⟨ρ, hf, h.out⟩, by rw [h0]; simp⟩

def takeB (all : Array Oper) (done sk : List Nat) (i : Nat) : Bool := !memN i done && !memN i sk && (match all[i]? with | some o => edgesOk done o.after.toList | none => false)

/-- taken first; X: it is one of ex, its class is kept by the late ones, too -/
theorem D.takeG (X : Bool) {i : Nat} {o : Oper} {v : Value} {W : World → Prop} (ho : all[i]? = some o) (ht : takeB all done sk i = true) (hX : X = memN i ex)
    (hW : ∀ w', (bif X then RL w w' else R w w') → W w') (hy : ∀ a, Fits n ρ a → YieldsIf G.P all W o v a) (hb : inB n o.dst = true)
    (h : D G n all R RL late ex sk k Q m (i :: done) (putE ρ o.dst v) w) : D G n all R RL late ex sk k Q (m + 1) done ρ w := by
  refine ⟨fun hR hT hS hL hp hB a hf listed hl => ?_⟩
  have hlt := (Array.getElem?_eq_some_iff.1 ho).1
  simp only [takeB, Bool.and_eq_true, Bool.not_eq_true', ho] at ht
  obtain ⟨⟨hd, hx⟩, he⟩ := ht
  have hB0 := hB
  simp only [regB, Bool.and_eq_true, List.all_eq_true] at hB
  have hB2 := hB.2 (o, i) (by rw [List.mem_zipIdx_iff_getElem?]; simpa using ho)
  simp only [hx, Bool.false_or, List.all_eq_true] at hB2
  refine wpR_first hR (W := fun w' => bif X then RL w w' else R w w') ?_ X ?_ ho (Region.noSelect_spec hB.1) ?_ m listed a w ?_ ?_ ?_ ?_ ?_ (h.out hR hT hS hL hp hB0 _ (hf.put hb) _ (hl.add ho he))
  · intro w1 w2 h1 h2
    cases X with
    | true => exact hL _ _ _ h1 (hS _ _ h2)
    | false => exact hT _ _ _ h1 h2
  · intro hXt w1 w2 h1 h2
    subst hXt
    exact hL _ _ _ h1 h2
  · rintro c a' w' ⟨ρ', hf', hq⟩
    rw [post_panic] at hq
    exact (hp c ρ' w' hq).elim
  · intro j oj hj hji hun hno
    have hjlt := (Array.getElem?_eq_some_iff.1 hj).1
    have := hB2 (oj, j) (by rw [List.mem_zipIdx_iff_getElem?]; simpa using hj)
    have hij : Nat.beq i j = false := beq_ne (fun e => hji e.symm)
    have hw1 : waits2 all oj i = false := by
      unfold waits2
      rw [Bool.or_eq_false_iff]
      constructor
      · unfold waitsOn
        rw [List.any_eq_false]
        intro e he hbe
        simp only [Bool.and_eq_true] at hbe
        exact (hno e (by simpa using he) hbe.1).1 (Nat.eq_of_beq_eq_true hbe.2)
      · rw [List.any_eq_false]
        intro e he hbe
        simp only [Bool.and_eq_true] at hbe
        obtain ⟨hb1, hb2⟩ := hbe
        split at hb2
        · rename_i q hq
          unfold waitsOn at hb2
          obtain ⟨e', he', hb'⟩ := List.any_eq_true.1 hb2
          simp only [Bool.and_eq_true] at hb'
          exact (hno e (by simpa using he) hb1).2 q hq e' (by simpa using he') hb'.1 (Nat.eq_of_beq_eq_true hb'.2)
        · cases hb2
    have hw2 : waitsOn o j = false := by
      unfold waitsOn
      rw [List.any_eq_false]
      intro e he' hbe
      simp only [Bool.and_eq_true] at hbe
      have h1 := edgesOk_iff.1 he e he' hbe.1
      have h2 := Nat.eq_of_beq_eq_true hbe.2
      rw [h2] at h1
      rw [hl.getT hjlt, h1] at hun
      cases hun
    rw [hX]
    simpa [hij, hw1, hw2] using this
  · intro j oj hj hjl e he' hb'
    rw [hl.2.1] at hjl ⊢
    exact edgesOk_iff.1 (hl.2.2 j oj hj hjl) e (by simpa using he') hb'
  · rw [mem_ready_iff hl, mem_readyGo]
    exact ⟨i, o, by simpa using ho, by omega, hd, he⟩
  · exact (hy a hf).imp (fun ⟨h1, h2⟩ => ⟨h1, fun w' hw' => h2 w' (hW w' hw')⟩) id
  · cases X with
    | true => exact hS _ _ (hR w)
    | false => exact hR w

theorem D.take {i : Nat} {o : Oper} {v : Value} (ho : all[i]? = some o) (ht : takeB all done sk i = true) (hx : memN i ex = false) (hy : YS G n all ρ o (fun w' => R w w') v)
    (h : D G n all R RL late ex sk k Q m (i :: done) (putE ρ o.dst v) w) : D G n all R RL late ex sk k Q (m + 1) done ρ w :=
  D.takeG false ho ht hx.symm (fun _ h => h) (fun a hf => .inl ⟨wantedE_sound hf hy.1, hy.2.2 a hf⟩) hy.2.1 h
theorem D.takeX {i : Nat} {o : Oper} {v : Value} (ho : all[i]? = some o) (ht : takeB all done sk i = true) (hx : memN i ex = true) (hy : YS G n all ρ o (fun w' => RL w w') v)
    (h : D G n all R RL late ex sk k Q m (i :: done) (putE ρ o.dst v) w) : D G n all R RL late ex sk k Q (m + 1) done ρ w :=
  D.takeG true ho ht hx.symm (fun _ h => h) (fun a hf => .inl ⟨wantedE_sound hf hy.1, hy.2.2 a hf⟩) hy.2.1 h

theorem YS.comp {o : Oper} {v : Value} (hw : wantedE ρ all o = some true) (hp : pureOp G.T ρ o.op = some v) (hb : inB n o.dst = true) (W : World → Prop) : YS G n all ρ o W v :=
  ⟨hw, hb, fun ac hf w _ => pureOp_sound hf hp w⟩

/-! one pass over the text, through what only computes -/
inductive RunD where
  | ok (m : Nat) (done : List Nat) (ρ : Env)
  | bad
def stepD (T : Tab) (n : Nat) (all : Array Oper) (ρ : Env) (o : Oper) : Option Env :=
  match wantedE ρ all o with
  | some true => match pureOp T ρ o.op with
    | some v => bif inB n o.dst then some (putE ρ o.dst v) else none
    | none => none
  | some false => bif inB n o.dst then some (putE ρ o.dst undef) else none
  | none => none
def runD (T : Tab) (n : Nat) (all : Array Oper) (sk gs : List Nat) : Nat → List Nat → Env → Nat → List Oper → RunD
  | m, done, ρ, _, [] => .ok m done ρ
  | 0, done, ρ, _, _ => .ok 0 done ρ
  | m + 1, done, ρ, i, o :: l => bif memN i done then runD T n all sk gs (m + 1) done ρ (i + 1) l else bif memN i sk then runD T n all sk gs (m + 1) done ρ (i + 1) l else
    bif edgesOk done o.after.toList then (match stepD T n all ρ o with
      | some ρ' => bif stopAt gs o.dst then .ok m (i :: done) ρ' else runD T n all sk gs m (i :: done) ρ' (i + 1) l
      | none => runD T n all sk gs (m + 1) done ρ (i + 1) l)
    else runD T n all sk gs (m + 1) done ρ (i + 1) l

theorem stepD_take {i : Nat} {o : Oper} {ρ' : Env} (ho : all[i]? = some o) (ht : takeB all done sk i = true) (hs : stepD G.T n all ρ o = some ρ')
    (h : D G n all R RL late ex sk k Q m (i :: done) ρ' w) : D G n all R RL late ex sk k Q (m + 1) done ρ w := by
  unfold stepD at hs
  split at hs
  · rename_i hw
    split at hs
    · rename_i v hv
      cases hb : inB n o.dst with
      | false => rw [hb] at hs; simp at hs
      | true =>
        rw [hb] at hs; simp at hs; subst hs
        exact D.takeG (W := fun _ => True) _ ho ht rfl (fun _ _ => trivial) (fun a hf => .inl ⟨wantedE_sound hf hw, fun w _ => pureOp_sound hf hv w⟩) hb h
    · simp at hs
  · rename_i hw
    cases hb : inB n o.dst with
    | false => rw [hb] at hs; simp at hs
    | true =>
      rw [hb] at hs; simp at hs; subst hs
      exact D.takeG (W := fun _ => True) _ ho ht rfl (fun _ _ => trivial) (fun a hf => .inr ⟨wantedE_sound hf hw, rfl⟩) hb h
  · simp at hs

theorem runD_sound (gs : List Nat) : ∀ (l : List Oper) (i m m' : Nat) (done done' : List Nat) (ρ ρ' : Env), (∀ j, l[j]? = all[i + j]?) → runD G.T n all sk gs m done ρ i l = .ok m' done' ρ' →
    D G n all R RL late ex sk k Q m' done' ρ' w → D G n all R RL late ex sk k Q m done ρ w
  | [], i, m, m', done, done', ρ, ρ', hl, h, hd => by cases m <;> simp [runD] at h <;> obtain ⟨rfl, rfl, rfl⟩ := h <;> exact hd
  | o :: l, i, 0, m', done, done', ρ, ρ', hl, h, hd => by simp [runD] at h; obtain ⟨rfl, rfl, rfl⟩ := h; exact hd
  | o :: l, i, m + 1, m', done, done', ρ, ρ', hl, h, hd => by
    have hl' : ∀ j, l[j]? = all[i + 1 + j]? := fun j => by
      have := hl (j + 1)
      simpa [Nat.add_assoc, Nat.add_comm 1 j] using this
    simp only [runD] at h
    cases hm : memN i done with
    | true => rw [hm] at h; exact runD_sound gs l (i + 1) (m + 1) m' done done' ρ ρ' hl' h hd
    | false =>
      rw [hm] at h
      simp only [cond_false] at h
      cases hx : memN i sk with
      | true => rw [hx] at h; exact runD_sound gs l (i + 1) (m + 1) m' done done' ρ ρ' hl' h hd
      | false =>
        rw [hx] at h
        simp only [cond_false] at h
        cases he : edgesOk done o.after.toList with
        | false => rw [he] at h; exact runD_sound gs l (i + 1) (m + 1) m' done done' ρ ρ' hl' h hd
        | true =>
          rw [he] at h
          simp only [cond_true] at h
          have ho : all[i]? = some o := by simpa using (hl 0).symm
          have ht : takeB all done sk i = true := by simp [takeB, hm, hx, ho, he]
          split at h
          · rename_i ρ'' hs
            cases hb : stopAt gs o.dst with
            | true => rw [hb] at h; simp at h; obtain ⟨rfl, rfl, rfl⟩ := h; exact stepD_take ho ht hs hd
            | false => rw [hb] at h; exact stepD_take ho ht hs (runD_sound gs l (i + 1) m m' (i :: done) done' ρ'' ρ' hl' h hd)
          · exact runD_sound gs l (i + 1) (m + 1) m' done done' ρ ρ' hl' h hd

theorem D.at_ (gs : List Nat) {m' : Nat} {done' : List Nat} {ρ' : Env} (h : runD G.T n all sk gs m done ρ 0 all.toList = .ok m' done' ρ') (hd : D G n all R RL late ex sk k Q m' done' ρ' w) :
    D G n all R RL late ex sk k Q m done ρ w := runD_sound gs all.toList 0 m m' done done' ρ ρ' (fun j => by simp) h hd
theorem D.run {m' : Nat} {done' : List Nat} {ρ' : Env} (h : runD G.T n all sk [] m done ρ 0 all.toList = .ok m' done' ρ') (hd : D G n all R RL late ex sk k Q m' done' ρ' w) :
    D G n all R RL late ex sk k Q m done ρ w := D.at_ [] h hd

/-- an effect: the only one that may come up -/
theorem D.oneG (hall : ∀ i ∈ readyGo done 0 all.toList, ∃ o, all[i]? = some o ∧ M G n (.ops all [o] :: .stop (fun ρ' w' => ((memN i late = true ∧ RL w w') ∨ R w w') ∧ D G n all R RL late ex sk k Q m (i :: done) ρ' w') :: k) Q ρ w)
    (hne : readyGo done 0 all.toList ≠ []) : D G n all R RL late ex sk k Q (m + 1) done ρ w := by
  refine ⟨fun hR hT hS hL hp hB a hf listed hl => ⟨fun h0 => absurd ((ready_nil_iff hl).1 h0) hne, fun i hi => ?_⟩⟩
  obtain ⟨o, ho, h⟩ := hall i ((mem_ready_iff hl).1 hi)
  have hed : edgesOk done o.after.toList = true := by
    obtain ⟨j, o', hj, hij, _, h2⟩ := mem_readyGo.1 ((mem_ready_iff hl).1 hi)
    have : all[i]? = some o' := by rw [hij]; simpa using hj
    rw [ho] at this
    injection this with this
    rw [this]; exact h2
  have hlt := (Array.getElem?_eq_some_iff.1 ho).1
  have h1 := h.out a hf
  have hmono : ∀ e a' w', lift n (post G n (.stop (fun ρ' w' => ((memN i late = true ∧ RL w w') ∨ R w w') ∧ D G n all R RL late ex sk k Q m (i :: done) ρ' w') :: k) Q) e a' w' → e ≠ .normal → lift n (post G n k Q) e a' w' := by
    rintro e a' w' ⟨ρ', hf', hq⟩ hne'
    rw [post_stop hne'] at hq
    exact ⟨ρ', hf', hq⟩
  unfold wpOp
  simp only [ho]
  unfold wpList at h1
  have hK : ∀ a' w', wpList G.P all (lift n (post G n (.stop (fun ρ' w' => ((memN i late = true ∧ RL w w') ∨ R w w') ∧ D G n all R RL late ex sk k Q m (i :: done) ρ' w') :: k) Q)) [] a' w' →
      ((memN i late = true ∧ RL w w') ∨ R w w') ∧ wpR G.P all (lift n (post G n k Q)) R RL late m (listed.setIfInBounds i true) a' w' := by
    intro a' w' h2
    unfold wpList at h2
    obtain ⟨ρ', hf', hs, hd⟩ := h2
    exact ⟨hs, hd.out hR hT hS hL hp hB a' hf' _ (hl.add ho hed)⟩
  split
  · rename_i hw
    rw [if_pos hw] at h1
    rcases h1 with h1 | ⟨h1, h2⟩
    · left
      exact wp_monoQ (fun e a' w' he hq => hmono e a' w' hq he) (Oper.wp_mono hK h1)
    · right
      exact ⟨h1, let ⟨a', w', hq⟩ := h2; ⟨a', w', hmono _ _ _ hq (by simp)⟩⟩
  · rename_i hw
    rw [if_neg hw] at h1
    exact hK _ _ h1
end
end Go.Vc
end
