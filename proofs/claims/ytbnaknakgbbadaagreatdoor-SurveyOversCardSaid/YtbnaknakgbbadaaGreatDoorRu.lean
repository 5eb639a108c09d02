/-
  The quick run answers as the model does, instruction by instruction and region by region.
-/
import Derived.Test.YtbnaknakgbbadaaGreatDoorSt
import Derived.Laws.StructEq
import Derived.Lib.UnsafeStr
import Derived.LoopN
import Derived.Recover
section
namespace Ax
open Go Go.RowKit

def abs1 : Value → Option V
  | .bool b => some (.bool b)
  | .int k n => some (.int k n)
  | .string s => some (.str s.size (numOf s.data.toList))
  | .pointer none => some .nilp
  | .slice none 0 0 => some .nils
  | .map none => some .nilm
  | .nilFunc => some .nilf
  | .nilIface => some .nili
  | _ => none
def absL : List Value → Option (List V)
  | [] => some []
  | v :: l => match abs1 v, absL l with
    | some x, some xs => some (x :: xs)
    | _, _ => none
def absV : Value → Option V
  | .agg cs => (absL cs.toList).map .agg
  | .tuple cs => (absL cs.toList).map .tup
  | v => abs1 v

theorem abs1_rel {φ : Phi} {v : Value} {x : V} (h : abs1 v = some x) : VRel φ x v := by
  unfold abs1 at h
  split at h <;> simp only [Option.some.injEq, reduceCtorEq] at h <;> subst h <;> simp only [VRel]
  rw [strOf_list]
theorem absL_rel {φ : Phi} : ∀ {l : List Value} {xs : List V}, absL l = some xs → VRels φ xs l
  | [], xs, h => by simp only [absL, Option.some.injEq] at h; subst h; simp only [VRels]
  | v :: l, xs, h => by
    simp only [absL] at h
    cases h1 : abs1 v with
    | none => rw [h1] at h; cases h
    | some x =>
      cases h2 : absL l with
      | none => rw [h1, h2] at h; cases h
      | some ys =>
        rw [h1, h2] at h
        cases h
        simp only [VRels]
        exact ⟨v, l, rfl, abs1_rel h1, absL_rel h2⟩
theorem absV_rel {φ : Phi} {v : Value} {x : V} (h : absV v = some x) : VRel φ x v := by
  unfold absV at h
  split at h
  · cases hl : absL _ with
    | none => rw [hl] at h; cases h
    | some l => rw [hl] at h; cases h; simp only [VRel]; exact ⟨_, rfl, absL_rel hl⟩
  · cases hl : absL _ with
    | none => rw [hl] at h; cases h
    | some l => rw [hl] at h; cases h; simp only [VRel]; exact ⟨_, rfl, absL_rel hl⟩
  · exact abs1_rel h

/-- A type's size, and whether a value of it is many cells. -/
def tySz (P : Program) (t : TypeId) : Option (Nat × Bool) :=
  match P.underlying t, P.info? t with
  | some d, some i => some (i.size, aggD d)
  | _, _ => none
def zcells (P : Program) (t : TypeId) : Option (List V) :=
  match P.info? t with
  | some i => match i.zero with
    | some z => absL z.cells.toList
    | none => none
  | none => none
def fplaces (P : Program) (fs : Array Field) : List (Nat × Operand) → Option (List (Nat × Nat))
  | [] => some []
  | p :: l => match fs[p.1]?, fplaces P fs l with
    | some f, some r => some ((f.offset, P.cellsOf f.type) :: r)
    | _, _ => none
def isConstO : Operand → Bool
  | .const _ => true
  | _ => false
def isU8 (P : Program) (t : TypeId) : Bool := match P.underlying t with
  | some (.int .u8) => true
  | _ => false

def compBuild (P : Program) (t : TypeId) (parts : Array (Nat × Operand)) : Option (C × List Operand) :=
  match P.underlying t, zcells P t with
  | some (.struct fs), some z =>
    if fs.toList.all (fun f => (P.info? f.type).isSome) then
      match fplaces P fs parts.toList with
      | some ps => some (.build z ps, parts.toList.map (·.2))
      | none => none
    else none
  | some (.array _ el), some z =>
    match P.info? el with
    | some i => some (.build z (parts.toList.map fun p => (p.1 * i.size, i.size)), parts.toList.map (·.2))
    | none => none
  | _, _ => none
def compBslice (P : Program) (t : TypeId) (len : Nat) (parts : Array (Nat × Operand)) : Option (C × List Operand) :=
  match P.underlying t with
  | some (.slice el) =>
    match P.info? el, zcells P el with
    | some i, some z =>
      if len * i.size ≤ 2 ^ 24 ∧ z.length = i.size then
        some (.bslice el len i.size (if len * i.size = 0 then [] else (List.replicate len z).flatten) (parts.toList.map fun p => (p.1 * i.size, i.size)), parts.toList.map (·.2))
      else none
    | _, _ => none
  | _ => none
def compEq (P : Program) (op : BinOp) (t : TypeId) (x y : Operand) : Option (C × List Operand) :=
  match op with
  | .eql => (eqTy P 20 t).map fun e => (.eq false e, [x, y])
  | .neq => (eqTy P 20 t).map fun e => (.eq true e, [x, y])
  | _ => none
def compBin (P : Program) (op : BinOp) (t : TypeId) (x y : Operand) : Option (C × List Operand) :=
  match P.underlying t with
  | some (.int _) => some (.bin op, [x, y])
  | some .string => some (.bin op, [x, y])
  | some (.interface _) => if isConstO x || isConstO y then compEq P op t x y else none
  | some _ => if P.eqGuardType P.depth t then none else compEq P op t x y
  | none => none
def compConv (P : Program) (src dst : TypeId) (x : Operand) : Option (C × List Operand) :=
  match P.underlying src, P.underlying dst with
  | some (.int _), some (.int k) => some (.conv k, [x])
  | some .string, some .string => some (.strstr, [x])
  | some (.slice _), some (.slice e) => if Nat.beq src dst && isU8 P e then some (.s2s, [x]) else none
  | some .string, some (.slice e) => if isU8 P e then some (.s2b e, [x]) else none
  | some (.slice e), some .string => if isU8 P e then some (.b2s, [x]) else none
  | some (.pointer t), some .unsafePointer => match P.info? t with
    | some i => if i.size = 0 then none else some (.uptr1, [x])
    | none => none
  | some .unsafePointer, some (.pointer u) => match P.info? u with
    | some i => if i.size = 0 then none else some (.uptr2 u i.size, [x])
    | none => none
  | _, _ => none
def compMksl (P : Program) (t : TypeId) (l c : Operand) : Option (C × List Operand) :=
  match P.underlying t with
  | some (.slice el) =>
    match P.info? el, zcells P el with
    | some i, some z => if z.length = i.size ∧ i.size ≠ 0 then some (.mksl el i.size i.bytes z, [l, c]) else none
    | _, _ => none
  | _ => none
def compSlice (P : Program) (t : TypeId) (x : Operand) (lo hi mx : Option Operand) : Option (C × List Operand) :=
  match mx with
  | some _ => none
  | none =>
    match P.underlying t with
    | some .string => some (.slstr lo.isSome hi.isSome, x :: (lo.toList ++ hi.toList))
    | some (.slice el) => match P.info? el with
      | some i => some (.sl i.size lo.isSome hi.isSome, x :: (lo.toList ++ hi.toList))
      | none => none
    | _ => none
def compFieldA (P : Program) (s : TypeId) (x : Operand) (f : Nat) : Option (C × List Operand) :=
  match P.underlying s with
  | some (.struct fs) => match fs[f]? with
    | some fd => match P.info? fd.type with
      | some i => if i.size = 0 then none else some (.fieldA fd.offset, [x])
      | none => none
    | none => none
  | _ => none
def compField (P : Program) (s : TypeId) (x : Operand) (f : Nat) : Option (C × List Operand) :=
  match P.underlying s with
  | some (.struct fs) => match fs[f]? with
    | some fd => match tySz P fd.type with
      | some (n, true) => some (.fieldn fd.offset n, [x])
      | some (_, false) => some (.field1 fd.offset, [x])
      | none => none
    | none => none
  | _ => none
def compIndexA (P : Program) (t : TypeId) (x i : Operand) : Option (C × List Operand) :=
  match P.underlying t with
  | some (.slice el) => match P.info? el with
    | some inf => some (.indexA inf.size, [x, i])
    | none => none
  | some (.array len el) => match P.info? el with
    | some inf => some (.indexR len inf.size, [x, i])
    | none => none
  | _ => none
def compIndex (P : Program) (t : TypeId) (x i : Operand) : Option (C × List Operand) :=
  match P.underlying t with
  | some .string => some (.indexS, [x, i])
  | some (.array len el) => match tySz P el with
    | some (1, false) => some (.index1 len, [x, i])
    | _ => none
  | _ => none
def compLookup (P : Program) (t : TypeId) (m k : Operand) (ok : Bool) : Option (C × List Operand) :=
  match P.underlying t with
  | some (.map kt et) => match eqTy P 20 kt, P.info? et with
    | some e, some i => match i.zero.bind absV with
      | some z => some (.lookup e z ok, [m, k])
      | none => none
    | _, _ => none
  | _ => none
def compMapupd (P : Program) (t : TypeId) (m k x : Operand) : Option (C × List Operand) :=
  match P.underlying t with
  | some (.map kt _) => match eqTy P 20 kt with
    | some e => some (.mapupd e, [m, k, x])
    | none => none
  | _ => none
def isSlStr (d : TypeDesc) : Bool := match d with
  | .slice _ => true
  | .string => true
  | _ => false
def compAppend (P : Program) (ts : Array TypeId) (args : Array Operand) : Option (C × List Operand) :=
  match ts.toList, args.toList with
  | [s, x], [a, b] =>
    match P.underlying s, P.underlying x with
    | some (.slice e), some dx =>
      if isSlStr dx then
        match P.info? e with
        | some i => match i.zero with
          | some z => if z.cells.size = i.size then some (.append e i.size i.bytes, [a, b]) else none
          | none => none
        | none => none
      else none
    | _, _ => none
  | _, _ => none
def compCopy (P : Program) (ts : Array TypeId) (args : Array Operand) : Option (C × List Operand) :=
  match ts.toList, args.toList with
  | [s, _], [a, b] =>
    match P.underlying s with
    | some (.slice e) => match P.info? e with
      | some i => some (.copy i.size, [a, b])
      | none => none
    | _ => none
  | _, _ => none
def compLen (P : Program) (ts : Array TypeId) (args : Array Operand) : Option (C × List Operand) :=
  match ts.toList, args.toList with
  | [t], [a] =>
    match P.underlying t with
    | some .string => some (.lens, [a])
    | some (.slice _) => some (.len, [a])
    | some (.map _ _) => some (.lenm, [a])
    | _ => none
  | _, _ => none
def compCall (P : Program) (c : Call) : Option (C × List Operand) :=
  match c.callee with
  | .value f => some (.call, f :: c.args.toList)
  | .builtin .append => compAppend P c.argTypes c.args
  | .builtin .copy => compCopy P c.argTypes c.args
  | .builtin .len => compLen P c.argTypes c.args
  | .builtin .cap => match c.argTypes.toList, c.args.toList with
    | [t], [a] => match P.underlying t with
      | some (.slice _) => some (.cap, [a])
      | _ => none
    | _, _ => none
  | .builtin .unsafeSliceData => match c.args.toList with
    | [a] => some (.sldata, [a])
    | _ => none
  | .builtin .unsafeString => match c.argTypes.toList, c.args.toList with
    | [t, _], [a, b] => match P.underlying t with
      | some (.pointer e) => if isU8 P e && Nat.beq (P.cellsOf e) 1 then some (.ustr e, [a, b]) else none
      | _ => none
    | _, _ => none
  | .builtin .min => match c.args.toList with
    | [a, b] => some (.bmin, [a, b])
    | _ => none
  | .builtin .max => match c.args.toList with
    | [a, b] => some (.bmax, [a, b])
    | _ => none
  | _ => none

def compOp (P : Program) (op : Op) : Option (C × List Operand) :=
  match op with
  | .move x => some (.mov, [x])
  | .assign x => some (.mov, [x])
  | .pick c a b => some (.pick, [c, a, b])
  | .alloc el => match P.info? el with
    | some i => match i.zero with
      | some z => some (.box el, [.const z])
      | none => none
    | none => none
  | .box el x => some (.box el, [x])
  | .build t parts => compBuild P t parts
  | .buildSlice t len parts => compBslice P t len parts
  | .load t a => match tySz P t with
    | some (n, true) => some (.loadn n, [a])
    | some (_, false) => some (.load1, [a])
    | none => none
  | .store t a x => match P.info? t with
    | some i => some (.store i.size, [a, x])
    | none => none
  | .nilCheck x => some (.nilck, [x])
  | .binOp op t x y _ => compBin P op t x y
  | .unOp .not _ x => some (.not, [x])
  | .unOp .neg _ x => some (.neg, [x])
  | .convert s d x => compConv P s d x
  | .makeInterface t x => match P.underlying t with
    | some (.interface _) => none
    | some _ => some (.mki t, [x])
    | none => none
  | .makeFunc (.func f) first cap => if first.size = 0 then some (.mkf f, cap.toList) else none
  | .makeMap _ none => some (.mkmap, [])
  | .makeSlice t l c => compMksl P t l c
  | .slice t x lo hi mx => compSlice P t x lo hi mx
  | .fieldAddr s x f => compFieldA P s x f
  | .field s x f => compField P s x f
  | .indexAddr t x i => compIndexA P t x i
  | .index t x i => compIndex P t x i
  | .lookup t m k ok => compLookup P t m k ok
  | .mapUpdate t m k x => compMapupd P t m k x
  | .insert t m k x => compMapupd P t m k x
  | .range t x => match P.underlying t with
    | some .string => some (.range, [x])
    | _ => none
  | .next it true => some (.next, [it])
  | .extract x i => some (.extract i, [x])
  | .call c => compCall P c
  | _ => none

end Ax
end
section
namespace Ax
open Go

inductive Opd where
  | tmp (t : Nat)
  | const (v : V)
inductive I where
  | mk (c : C) (d : Option Nat) (xs : List Opd) (g : Option (Nat × Bool))
  | dfr (d : Option Nat) (x : Opd)
/-- How an operation of a region without an order is run: pure; a read (behind so many effects, of these blocks); a new block; an effect (and the blocks that come later). -/
inductive Kd where
  | p
  | r (lo mask : Nat)
  | a
  | e (later : List Nat)
inductive D where
  | mk (idx rk : Nat) (kd : Kd) (i : I)
inductive Rw where
  | mk (idx rk : Nat) (o : O)
inductive S where
  | reg (l : List I)
  | regD (l : List D) (n : Nat)
  | seq (a b : S)
  | cond (x : Opd) (a b : S)
  | block (id : Nat) (b : S)
  | loop (b : S)
  | exit (id : Nat)
  | skip
  | ret
  | stop
inductive RV where
  | tmp (t : Nat)
  | cell (t : Nat) (n : Option Nat)
inductive Fn' where
  | mk (body : S) (rs : List RV)
inductive X where
  | norm
  | exit (id : Nat)
  | ret
inductive R where
  | ok (x : X) (f : Fr) (h : H)
  | bad (n : Nat)

def has (m i : Nat) : Bool := Nat.testBit m i
noncomputable section
/-- Are two values the very same (where it can be told)? -/
def veq1 (x y : V) : Bool :=
  match x, y with
  | .bool a, .bool b => Bool.rec (Bool.rec true false b) b a
  | .int k a, .int k' b => Bool.rec false (ieq a b) (Nat.beq (kno k) (kno k'))
  | .str n b, .str n' b' => Bool.rec false (Nat.beq b b') (Nat.beq n n')
  | .ptr a b, .ptr a' b' => Bool.rec false (Nat.beq b b') (Nat.beq a a')
  | .slice a b c d e, .slice a' b' c' d' e' => Bool.rec false (Bool.rec false (Bool.rec false (Bool.rec false (Nat.beq e e') (Nat.beq d d')) (Nat.beq c c')) (Nat.beq b b')) (Nat.beq a a')
  | .map a, .map b => Nat.beq a b
  | .nilp, .nilp => true
  | .nils, .nils => true
  | .nilm, .nilm => true
  | .nilf, .nilf => true
  | .nili, .nili => true
  | _, _ => false
def veqs : List V → List V → Bool
  | [], [] => true
  | x :: xs, y :: ys => Bool.rec false (veqs xs ys) (veq1 x y)
  | _, _ => false
def veq (x y : V) : Bool :=
  match x, y with
  | .agg l, .agg m => veqs l m
  | .tup l, .tup m => veqs l m
  | .iface t x, .iface t' y => Bool.rec false (veq1 x y) (Nat.beq t t')
  | x, y => veq1 x y

def evO (o : Opd) : Fr → V := Opd.rec (fun t f => f.get t) (fun v _ => v) o
def evs (l : List Opd) : Fr → List V := List.rec (motive := fun _ => Fr → List V) (fun _ => []) (fun o _ ih f => evO o f :: ih f) l
def putO (d : Option Nat) : Fr → V → Fr := Option.rec (motive := fun _ => Fr → V → Fr) (fun f _ => f) (fun t f v => f.put t v) d
/-- Is the operation wanted? -/
def wantV (want : Bool) (v : V) (yes no : R) : R :=
  V.rec (motive_1 := fun _ => R) (motive_2 := fun _ => R) (.bad 301) (fun b => Bool.rec (Bool.rec yes no b) (Bool.rec no yes b) want) (fun _ _ => no) (fun _ _ => no) (fun _ _ => no) no (fun _ _ _ _ _ => no) no (fun _ => no) no
    (fun _ _ _ _ _ => no) no (fun _ _ _ => no) no (fun _ _ => no) (fun _ _ => no) no (fun _ _ _ _ => no) v
def wantO (g : Option (Nat × Bool)) (f : Fr) (yes : R) (no : R) : R :=
  Option.rec (motive := fun _ => R) yes (fun p => Prod.rec (fun t want => wantV want (f.get t) yes no) p) g
/-- One of two ways. -/
def condV (v : V) (a b : R) : R :=
  V.rec (motive_1 := fun _ => R) (motive_2 := fun _ => R) (.bad 303) (fun c => Bool.rec b a c) (fun _ _ => (.bad 303)) (fun _ _ => (.bad 303)) (fun _ _ => (.bad 303)) (.bad 303) (fun _ _ _ _ _ => (.bad 303)) (.bad 303) (fun _ => (.bad 303)) (.bad 303)
    (fun _ _ _ _ _ => (.bad 303)) (.bad 303) (fun _ _ _ => (.bad 303)) (.bad 303) (fun _ _ => (.bad 303)) (fun _ _ => (.bad 303)) (.bad 303) (fun _ _ _ _ => (.bad 303)) v
/-- What may be deferred: a function that does nothing where nobody panics. -/
def quietV (quiet : Nat → Bool) (v : V) : Bool := match v with
  | .func f _ _ => quiet f
  | _ => false
def lenI (l : List I) : Nat := List.rec (motive := fun _ => Nat) 0 (fun _ _ ih => Nat.succ ih) l
/-- Operations one behind the other; new blocks are numbered by the operations' places. -/
def insl (quiet : Nat → Bool) (call : FuncId → List V → H → R1) (base : Nat) (l : List I) : Nat → Fr → H → R :=
  List.rec (motive := fun _ => Nat → Fr → H → R) (fun _ f h => .ok .norm f h)
    (fun i _ ih idx f h => I.rec (motive := fun _ => R) (fun c d xs g =>
      wantO g f (R1.rec (motive := fun _ => R) (fun v h' => ih (Nat.succ idx) (putO d f v) h') .bad (exC call c (Nat.add base idx) (evs xs f) h))
        (ih (Nat.succ idx) (putO d f (.tup [])) h))
      (fun d x => Bool.rec (.bad 305) (ih (Nat.succ idx) (putO d f (.tup [])) h) (quietV quiet (evO x f))) i) l
def setR (base : Nat) (pk : Nat → Nat → Bool) (rows : List Rw) (h : H) : H :=
  List.rec (motive := fun _ => H) h (fun r _ ih => Rw.rec (motive := fun _ => H) (fun i k o => Bool.rec ih (ih.set (Nat.add base i) o) (pk i k)) r) rows
def noneAll (base : Nat) (later : List Nat) (h : H) : Bool :=
  List.rec (motive := fun _ => Bool) true (fun i _ ih => O.rec (motive := fun _ => Bool) ih (fun _ => false) (fun _ _ => false) (fun _ _ _ => false) (h.get (Nat.add base i))) later
def pkR (K mask i k : Nat) : Bool := Bool.rec false (has mask i) (Nat.ble K k)
def pkE (K : Nat) : Nat → Nat → Bool := fun _ k => Nat.beq k K
/-- A store without blocks. -/
def emp0 : H := ⟨0, T.mk .none hd⟩
def rdOld (run : H → R1) (base mask lo : Nat) (rows : List Rw) (v : V) (k : R) (hs : List H) : Nat → R :=
  List.rec (motive := fun _ => Nat → R) (fun n => Bool.rec (.bad 340) k (Nat.ble n lo))
    (fun h _ ih n => Bool.rec (R1.rec (motive := fun _ => R) (fun v' _ => Bool.rec (.bad 341) (ih (Nat.pred n)) (veq v v')) .bad (run (setR base (pkR (Nat.pred n) mask) rows h))) k (Nat.ble n lo)) hs
def headH (hs : List H) (k : H → List H → R) : R := List.rec (motive := fun _ => R) (.bad 344) (fun h tl _ => k h tl) hs
def lenH (hs : List H) : Nat := List.rec (motive := fun _ => Nat) 0 (fun _ _ ih => Nat.succ ih) hs
/-- The operations of a region without an order, in an order that stands for all. -/
def exD (call : FuncId → List V → H → R1) (base : Nat) (l : List D) : List H → List Rw → Fr → R :=
  List.rec (motive := fun _ => List H → List Rw → Fr → R) (fun hs rows f => headH hs fun h tl => .ok .norm f (setR base (pkE (lenH tl)) rows h))
    (fun d _ ih hs rows f => D.rec (motive := fun _ => R) (fun idx rk kd i => I.rec (motive := fun _ => R) (fun c dst xs g =>
      wantO g f
        (Kd.rec (motive := fun _ => R)
          (R1.rec (motive := fun _ => R) (fun v _ => ih hs rows (putO dst f v)) .bad (exC call c (Nat.add base idx) (evs xs f) emp0))
          (fun lo mask => headH hs fun h tl => R1.rec (motive := fun _ => R) (fun v _ => rdOld (exC call c (Nat.add base idx) (evs xs f)) base mask lo rows v (ih hs rows (putO dst f v)) tl rk) .bad
            (exC call c (Nat.add base idx) (evs xs f) (setR base (pkR rk mask) rows h)))
          (R1.rec (motive := fun _ => R) (fun v h' => ih hs (Rw.mk idx rk (h'.get (Nat.add base idx)) :: rows) (putO dst f v)) .bad (exC call c (Nat.add base idx) (evs xs f) emp0))
          (fun later => headH hs fun h _ => R1.rec (motive := fun _ => R) (fun v h' => Bool.rec (.bad 342) (ih (h' :: hs) rows (putO dst f v)) (noneAll base later h')) .bad
            (exC call c (Nat.add base idx) (evs xs f) (setR base (pkE rk) rows h))) kd)
        (Kd.rec (motive := fun _ => R) (ih hs rows (putO dst f (.tup []))) (fun _ _ => ih hs rows (putO dst f (.tup []))) (ih hs rows (putO dst f (.tup [])))
          (fun later => headH hs fun h _ => Bool.rec (.bad 343) (ih (setR base (pkE rk) rows h :: hs) rows (putO dst f (.tup []))) (noneAll base later (setR base (pkE rk) rows h))) kd)) (fun _ _ => .bad 345) i) d) l
def loopN (b : Fr → H → R) (fuel : Nat) : Fr → H → R :=
  Nat.rec (motive := fun _ => Fr → H → R) (fun _ _ => .bad 302)
    (fun _ ih f h => R.rec (motive := fun _ => R) (fun x f h => X.rec (motive := fun _ => R) (ih f h) (fun i => .ok (.exit i) f h) (.ok .ret f h) x) .bad (b f h)) fuel
def exec (quiet : Nat → Bool) (call : FuncId → List V → H → R1) (F : Nat) (s : S) : Fr → H → R :=
  S.rec (motive := fun _ => Fr → H → R)
    (fun l f h => insl quiet call h.next l 0 f (h.bump (lenI l)))
    (fun l n f h => exD call h.next l [h.bump n] [] f)
    (fun _ _ ea eb f h => R.rec (motive := fun _ => R) (fun x f h => X.rec (motive := fun _ => R) (eb f h) (fun i => .ok (.exit i) f h) (.ok .ret f h) x) .bad (ea f h))
    (fun x _ _ ea eb f h => condV (evO x f) (ea f h) (eb f h))
    (fun id _ eb f h => R.rec (motive := fun _ => R) (fun x f h => X.rec (motive := fun _ => R) (.ok .norm f h) (fun j => Bool.rec (.ok (.exit j) f h) (.ok .norm f h) (Nat.beq j id)) (.ok .ret f h) x) .bad (eb f h))
    (fun _ eb => loopN eb F)
    (fun id f h => .ok (.exit id) f h)
    (fun f h => .ok .norm f h)
    (fun f h => .ok .ret f h)
    (fun _ _ => .bad 304) s

def frame0 : Fr := Fr.new
def setArgs (l : List V) : Nat → Fr → Fr := List.rec (motive := fun _ => Nat → Fr → Fr) (fun _ f => f) (fun v _ ih i f => ih (Nat.succ i) (f.put i v)) l
def readR (rs : List RV) : Fr → H → (List V → R1) → R1 :=
  List.rec (motive := fun _ => Fr → H → (List V → R1) → R1) (fun _ _ k => k [])
    (fun r _ ih f h k => RV.rec (motive := fun _ => R1) (fun t => ih f h fun l => k (f.get t :: l))
      (fun t n => dPtr 310 (f.get t) fun b o => dRow 311 (h.get b) fun r =>
        Option.rec (motive := fun _ => R1) (gate 312 (Nat.ble (Nat.succ o) r.n) (ih f h fun l => k (r.get o :: l))) (fun n => gate 313 (Nat.ble (Nat.add o n) r.n) (ih f h fun l => k (.agg (r.gets n o) :: l))) n) r) rs
def oneOr (l : List V) : V := match l with
  | [v] => v
  | l => .tup l
def runFn (quiet : Nat → Bool) (call : FuncId → List V → H → R1) (F : Nat) (fn : Fn') (vs : List V) (h : H) : R1 :=
  gate 321 (Nat.ble (leng vs) 256) <|
  Fn'.rec (motive := fun _ => R1) (fun body rs => R.rec (motive := fun _ => R1) (fun x f h => X.rec (motive := fun _ => R1) (readR rs f h fun l => .ok (oneOr l) h) (fun _ => .bad 320) (readR rs f h fun l => .ok (oneOr l) h) x) .bad
    (exec quiet call F body (setArgs vs 0 frame0) h)) fn

end

def compOpd : Operand → Option Opd
  | .tmp t => if t < 256 then some (.tmp t) else none
  | .const v => (absV v).map .const
  | .func f => some (.const (.func f [] []))
  | .global _ => none
def compOpds : List Operand → Option (List Opd)
  | [] => some []
  | o :: l => match compOpd o, compOpds l with
    | some x, some xs => some (x :: xs)
    | _, _ => none
def compG (ops : Array Oper) : Option (Nat × Bool) → Option (Option (Nat × Bool))
  | none => some none
  | some (j, want) => match ops[j]? with
    | some o => match o.dst with
      | some t => if t < 256 then some (some (t, want)) else none
      | none => none
    | none => none
def dstOk (n : Nat) : Option Nat → Bool
  | some t => Nat.blt t n && Nat.blt t 256
  | none => true
def compI (P : Program) (n : Nat) (ops : Array Oper) (o : Oper) : Option I :=
  match compG ops o.guard with
  | some g => if dstOk n o.dst then (match compOp P o.op with
    | some (c, xs) => match compOpds xs with
      | some ys => some (.mk c o.dst ys g)
      | none => some (.mk .stop o.dst [] g)
    | none => some (.mk .stop o.dst [] g)) else none
  | none => none
def compIs (P : Program) (n : Nat) (ops : Array Oper) : List Oper → Option (List I)
  | [] => some []
  | o :: l => match compI P n ops o, compIs P n ops l with
    | some x, some xs => some (x :: xs)
    | _, _ => none
/-- A deferred call of a function value without arguments. -/
def dfrO (o : Oper) : Option Opd :=
  match o.op, o.guard with
  | .defer c, none => match c.callee, c.args.size with
    | .value x, 0 => compOpd x
    | _, _ => none
  | _, _ => none
def compI' (P : Program) (n : Nat) (ops : Array Oper) (o : Oper) : Option I :=
  match dfrO o with
  | some x => if dstOk n o.dst then some (.dfr o.dst x) else none
  | none => compI P n ops o
def compIs' (P : Program) (n : Nat) (ops : Array Oper) : List Oper → Option (List I)
  | [] => some []
  | o :: l => match compI' P n ops o, compIs' P n ops l with
    | some x, some xs => some (x :: xs)
    | _, _ => none
/-- Edges' own set. -/
def edgesSet (pms : List Nat) : List Edge → Nat
  | [] => 0
  | e :: l => if Region.binds .any e then (edgesSet pms l) ||| (1 <<< e.on) ||| (pms.getD e.on 0) else edgesSet pms l
def preSets (pms : List Nat) : List Oper → List Nat
  | [] => pms
  | o :: l => preSets (pms ++ [edgesSet pms o.after.toList]) l
/-- Which operations come before each. -/
def pres (ops : Array Oper) : List Nat := preSets [] ops.toList
def preB (pm : List Nat) (i j : Nat) : Bool := has (pm.getD j 0) i

/-- Operations that don't look at the store. -/
def pureC : C → Bool
  | .mov | .pick | .build _ _ | .nilck | .bin _ | .not | .neg | .conv _ | .strstr | .mki _ | .mkf _ | .sl _ _ _ | .slstr _ _ | .fieldA _ | .field1 _ | .fieldn _ _ | .indexA _ | .indexR _ _ | .indexS | .index1 _ | .extract _ | .lens | .len | .cap | .sldata | .bmin | .bmax | .stop => true
  | _ => false
/-- Operations that leave the store. -/
def readC : C → Bool
  | .load1 | .loadn _ | .eq _ _ | .lookup _ _ _ | .lenm | .uptr1 | .uptr2 _ _ | .b2s => true
  | _ => false
/-- Operations that make one block. -/
def newC : C → Bool
  | .box _ | .bslice _ _ _ _ _ | .mksl _ _ _ _ | .mkmap | .s2b _ | .range => true
  | _ => false

def D.idx : D → Nat | .mk i _ _ _ => i
def D.rk : D → Nat | .mk _ r _ _ => r
def D.kd : D → Kd | .mk _ _ k _ => k
def D.i : D → I | .mk _ _ _ i => i
def I.c : I → C | .mk c _ _ _ => c | .dfr _ _ => .stop
def I.dst : I → Option Nat | .mk _ d _ _ => d | .dfr d _ => d
def I.xs : I → List Opd | .mk _ _ xs _ => xs | .dfr _ x => [x]
def I.g : I → Option (Nat × Bool) | .mk _ _ _ g => g | .dfr _ _ => none
def Kd.isE : Kd → Bool | .e _ => true | _ => false
def Kd.isP : Kd → Bool | .p => true | _ => false
def Kd.isA : Kd → Bool | .a => true | _ => false
def isEC (c : C) : Bool := !(pureC c || readC c || newC c)
def isE (is : List I) (i : Nat) : Bool := match is[i]? with
  | some x => isEC x.c
  | none => false
def isA (is : List I) (i : Nat) : Bool := match is[i]? with
  | some x => newC x.c
  | none => false
/-- An order: effects one behind the other, before each what it needs; the rest at the end. -/
def ordD (pms : List Nat) (n : Nat) : List Nat → Nat → List Nat → List Nat
  | [], done, acc => acc ++ (List.range n).filter fun i => !has done i
  | e :: es, done, acc => ordD pms n es (done ||| pms.getD e 0 ||| (1 <<< e)) (acc ++ ((List.range n).filter fun i => !has done i && has (pms.getD e 0) i) ++ [e])
def mkDs (pms : List Nat) (is : List I) : List Nat → Nat → List D
  | [], _ => []
  | i :: l, rk => match is[i]? with
    | some x => .mk i rk (if pureC x.c then .p else if readC x.c then .r (((List.range is.length).filter fun j => isE is j && has (pms.getD i 0) j).length) (pms.getD i 0) else if newC x.c then .a else .e (l.filter (isA is))) x
        :: mkDs pms is l (if isEC x.c then rk + 1 else rk)
    | none => mkDs pms is l rk
def opdIs (t : Nat) : Opd → Bool
  | .tmp u => Nat.beq t u
  | .const _ => false
def readsT (i : I) (t : Nat) : Bool := i.xs.any (opdIs t) || (match i.g with
  | some (u, _) => Nat.beq t u
  | none => false)
def readsD (i : I) (d : Option Nat) : Bool := match d with
  | some t => readsT i t
  | none => false
def dstNe (d e : Option Nat) : Bool := match d, e with
  | some t, some u => !(Nat.beq t u)
  | _, _ => true
/-- What is asked of two operations, one ahead of the other. -/
def pairD (pms : List Nat) (p q : D) : Bool :=
  !(Nat.beq p.idx q.idx) && dstNe p.i.dst q.i.dst && (!(readsD q.i p.i.dst) || preB pms p.idx q.idx) && (!(readsD p.i q.i.dst) || preB pms p.idx q.idx) &&
  (match q.kd with
    | .e _ => p.kd.isP || preB pms p.idx q.idx
    | .r lo _ => !(p.kd.isE && Nat.beq (p.rk + 1) lo) || preB pms p.idx q.idx
    | .a => (match p.kd with
      | .e later => later.contains q.idx
      | _ => true)
    | .p => true)
def pairsD (pms : List Nat) : List D → Bool
  | [] => true
  | d :: l => l.all (pairD pms d) && pairsD pms l
def ranksD : Nat → List D → Bool
  | _, [] => true
  | k, d :: l => Nat.beq d.rk k && ranksD (if d.kd.isE then k + 1 else k) l
def kdOk (pms : List Nat) (d : D) : Bool := match d.kd with
  | .p => pureC d.i.c
  | .r lo mask => readC d.i.c && Nat.ble lo d.rk && Nat.beq mask (pms.getD d.idx 0)
  | .a => newC d.i.c
  | .e _ => true
def afterOk (l : List Oper) (j : Nat) : Bool := match l with
  | [] => true
  | o :: l => o.after.toList.all (fun e => !Region.binds .any e || Nat.blt e.on j) && afterOk l (j + 1)
def chkD (ops : Array Oper) (ds : List D) : Bool :=
  let pms := pres ops
  ds.all (kdOk pms) && ranksD 0 ds && pairsD pms ds && (List.range ops.size).all (fun i => ds.any fun d => Nat.beq d.idx i) && afterOk ops.toList 0
def compD (ops : Array Oper) (is : List I) : S :=
  let pms := pres ops
  let ds := mkDs pms is (ordD pms is.length ((List.range is.length).filter (isE is)) 0 []) 0
  if chkD ops ds then .regD ds ops.size else .stop
def compS (P : Program) (n : Nat) : Code → Option S
  | .skip => some .skip
  | .region _ ops false => (compIs' P n ops ops.toList).map .reg
  | .region _ ops true => (compIs P n ops ops.toList).map fun l => compD ops l
  | .seq a b => match compS P n a, compS P n b with
    | some x, some y => some (.seq x y)
    | _, _ => none
  | .cond c a b => match compOpd c, compS P n a, compS P n b with
    | some x, some y, some z => some (.cond x y z)
    | _, _, _ => none
  | .block id b => (compS P n b).map (.block id)
  | .loop b => (compS P n b).map .loop
  | .exit id => some (.exit id)
  | .ret => some .ret
  | _ => some .stop
def compR (P : Program) : List ResultVar → Option (List RV)
  | [] => some []
  | .tmp t :: l => if t < 256 then (compR P l).map (RV.tmp t :: ·) else none
  | .cell a t :: l => if a < 256 then (match tySz P t with
    | some (n, true) => (compR P l).map (RV.cell a (some n) :: ·)
    | some (_, false) => (compR P l).map (RV.cell a none :: ·)
    | none => none) else none
def compF (P : Program) (fn : Func) : Option Fn' :=
  match fn.body with
  | some b => match compS P fn.ntmps b, compR P fn.results.toList with
    | some s, some r => some (.mk s r)
    | _, _ => none
  | none => none

noncomputable section
/-- A function of the program, run. -/
def runP (P : Program) (quiet : Nat → Bool) (call : FuncId → List V → H → R1) (F : Nat) (f : FuncId) (vs : List V) (h : H) : R1 :=
  Option.rec (motive := fun _ => R1) (.bad (Nat.add 1000 f)) (fun fn => runFn quiet call F fn vs h) ((P.funcs[f]?).bind (compF P))
/-- Calls, so deep; some of them by what is known of them. -/
def callT (P : Program) (quiet : Nat → Bool) (spec : (FuncId → List V → H → R1) → FuncId → List V → H → R1) (F : Nat) (n : Nat) : FuncId → List V → H → R1 :=
  Nat.rec (motive := fun _ => FuncId → List V → H → R1) (fun _ _ _ => .bad 330) (fun _ ih => spec (runP P quiet ih F)) n
end

end Ax
end
section
namespace Ax
open Go Go.RowKit

section
variable {P : Program} {w0 : Base} {w : World} {φ : Phi} {h : H} {nid : Nat} {call : FuncId → List V → H → R1} {ρ : Operand → Value} {o : Oper}

theorem rel1 {vs : List V} {x : Operand} {a : V} {r : List V} (hv : VRels φ vs ([x].map ρ)) (e : vs = a :: r) : VRel φ a (ρ x) := by
  subst e; simp only [List.map_cons, List.map_nil, VRels] at hv
  obtain ⟨y, ys, e, r1, _⟩ := hv
  simp only [List.cons.injEq] at e
  rw [e.1]; exact r1
theorem rel2 {vs : List V} {x y : Operand} {a b : V} {r : List V} (hv : VRels φ vs ([x, y].map ρ)) (e : vs = a :: b :: r) : VRel φ a (ρ x) ∧ VRel φ b (ρ y) := by
  subst e; simp only [List.map_cons, List.map_nil, VRels] at hv
  obtain ⟨u, us, e, r1, v, vs, e2, r2, _⟩ := hv
  simp only [List.cons.injEq] at e
  obtain ⟨rfl, rfl⟩ := e
  simp only [List.cons.injEq] at e2
  exact ⟨r1, e2.1 ▸ r2⟩
theorem rel3 {vs : List V} {x y z : Operand} {a b c : V} {r : List V} (hv : VRels φ vs ([x, y, z].map ρ)) (e : vs = a :: b :: c :: r) : VRel φ a (ρ x) ∧ VRel φ b (ρ y) ∧ VRel φ c (ρ z) := by
  subst e; simp only [List.map_cons, List.map_nil, VRels] at hv
  obtain ⟨u, us, e, r1, v, vs, e2, r2, t, ts, e3, r3, _⟩ := hv
  simp only [List.cons.injEq] at e
  obtain ⟨rfl, rfl⟩ := e
  simp only [List.cons.injEq] at e2
  obtain ⟨rfl, rfl⟩ := e2
  simp only [List.cons.injEq] at e3
  exact ⟨r1, r2, e3.1 ▸ r3⟩

/-- What is owed for one operation. -/
def Owed (P : Program) (w0 : Base) (φ : Phi) (h : H) (nid : Nat) (call : FuncId → List V → H → R1) (ρ : Operand → Value) (o : Oper) (w : World) (c : C) (vs : List V) : Prop :=
  ∀ v h', exC call c nid vs h = .ok v h' → Outc P ((execOp ρ o).run P w) fun v' w' => Pst w0 φ nid h v h' v' w'

theorem owe_mov {x : Operand} (ho : o.op = .move x ∨ o.op = .assign x) (hr : HRel w0 φ h w) {vs : List V} (hv : VRels φ vs ([x].map ρ)) : Owed P w0 φ h nid call ρ o w .mov vs := by
  intro v h' e
  obtain ⟨a, r, e1, e⟩ := a1_ok e
  cases e
  have := rel1 hv e1
  rcases ho with ho | ho <;> (simp only [execOp, ho]; exact Pst.same this hr)

theorem owe_pick {c a b : Operand} (ho : o.op = .pick c a b) (hr : HRel w0 φ h w) {vs : List V} (hv : VRels φ vs ([c, a, b].map ρ)) : Owed P w0 φ h nid call ρ o w .pick vs := by
  intro v h' e
  obtain ⟨x, y, z, r, e1, e⟩ := a3_ok e
  obtain ⟨t, rfl, e⟩ := dBool_ok e
  cases e
  obtain ⟨r1, r2, r3⟩ := rel3 hv e1
  simp only [VRel] at r1
  simp only [execOp, ho, r1, asBool, Sem.run_bind, Sem.run_pure, Result.andThen_ok]
  refine Pst.same ?_ hr
  cases t
  · exact r3
  · exact r2

theorem owe_box {el : TypeId} {x : Operand} (ho : o.op = .box el x) (hr : HRel w0 φ h w) (hn : nid < h.next) (hf : φ nid = none) {vs : List V} (hv : VRels φ vs ([x].map ρ)) : Owed P w0 φ h nid call ρ o w (.box el) vs := by
  intro v h' e
  obtain ⟨a, r, e1, e⟩ := a1_ok e
  obtain ⟨hu, e2⟩ := gate_ok e
  clear e
  cases e2
  have hx := rel1 hv e1
  have hnu : a ≠ .undef := by rintro rfl; cases hu
  obtain ⟨b1, b2⟩ := snd_box (P := P) (elem := el) hr hn hf hx hnu
  rw [leng_eq]
  simp only [execOp, ho]
  exact outc_val b1 b2

theorem owe_alloc {el : TypeId} {i : TypeInfo} {z : Value} (hi : P.info? el = some i) (hz : i.zero = some z) (ho : o.op = .alloc el) (hr : HRel w0 φ h w) (hn : nid < h.next) (hf : φ nid = none) {vs : List V} (hv : VRels φ vs [z]) : Owed P w0 φ h nid call ρ o w (.box el) vs := by
  intro v h' e
  obtain ⟨a, r, e1, e⟩ := a1_ok e
  obtain ⟨hu, e2⟩ := gate_ok e
  clear e
  cases e2
  subst e1
  simp only [VRels] at hv
  obtain ⟨y, ys, e3, hx, _⟩ := hv
  simp only [List.cons.injEq] at e3
  rw [← e3.1] at hx
  have hnu : a ≠ .undef := by rintro rfl; cases hu
  obtain ⟨b1, b2⟩ := snd_box (P := P) (elem := el) hr hn hf hx hnu
  rw [leng_eq]
  simp only [execOp, ho]
  refine outc_val (w' := w.alloc (.cells z.cells el)) ?_ b2
  simp only [Instr.alloc, Sem.run_bind, r_zero _ hi hz, Result.andThen_ok, Sem.run_pure]
  rfl

theorem owe_load {t : TypeId} {x : Operand} (ho : o.op = .load t x) {n : Nat} {b : Bool} (ht : tySz P t = some (n, b)) (hr : HRel w0 φ h w) {vs : List V} (hv : VRels φ vs ([x].map ρ)) :
    Owed P w0 φ h nid call ρ o w (if b then .loadn n else .load1) vs := by
  intro v h' e
  unfold tySz at ht
  cases hu : P.underlying t with
  | none => rw [hu] at ht; cases ht
  | some d =>
    cases hi : P.info? t with
    | none => rw [hu, hi] at ht; cases ht
    | some i =>
      rw [hu, hi] at ht
      simp only [Option.some.injEq, Prod.mk.injEq] at ht
      obtain ⟨rfl, hd⟩ := ht
      cases b with
      | true =>
        obtain ⟨a, r, e1, e⟩ := a1_ok e
        obtain ⟨b, off, rfl, e⟩ := dPtr_ok e
        obtain ⟨rw_, hb, e⟩ := dRow_ok e
        obtain ⟨hg, e2⟩ := gate_ok e
        clear e
        cases e2
        obtain ⟨v', h1, h2⟩ := snd_loadn (P := P) hu hd hi hr hb (by simpa [Nat.ble_eq] using hg) (rel1 hv e1)
        simp only [execOp, ho]
        exact outc_val h1 (Pst.same h2 hr)
      | false =>
        obtain ⟨a, r, e1, e⟩ := a1_ok e
        obtain ⟨b, off, rfl, e⟩ := dPtr_ok e
        obtain ⟨rw_, hb, e⟩ := dRow_ok e
        obtain ⟨hg, e2⟩ := gate_ok e
        clear e
        cases e2
        obtain ⟨v', h1, h2⟩ := snd_load1 (P := P) hu hd hr hb (ble_iff.1 hg) (rel1 hv e1)
        simp only [execOp, ho]
        exact outc_val h1 (Pst.same h2 hr)

theorem owe_store {t : TypeId} {x y : Operand} (ho : o.op = .store t x y) {i : TypeInfo} (hi : P.info? t = some i) (hr : HRel w0 φ h w) {vs : List V} (hv : VRels φ vs ([x, y].map ρ)) :
    Owed P w0 φ h nid call ρ o w (.store i.size) vs := by
  intro v h' e
  obtain ⟨a, b, r, e1, e⟩ := a2_ok e
  obtain ⟨bb, off, rfl, e⟩ := dPtr_ok e
  obtain ⟨rr, hb, e⟩ := dRow_ok e
  obtain ⟨hg, e2⟩ := gate_ok e
  clear e
  cases e2
  obtain ⟨r1, r2⟩ := rel2 hv e1
  rw [bandn, band, band, band] at hg
  obtain ⟨g1, g2, g3, g4, g5⟩ := hg
  rw [leng_eq] at g2
  rw [ones_eq] at g5
  obtain ⟨w', h1, h2⟩ := snd_store (P := P) hi hr hb g1 (by simpa [Nat.ble_eq] using g4) (by simpa [Nat.ble_eq] using g3) (Nat.eq_of_beq_eq_true g2) g5 r1 r2 (cells_undef g5)
  simp only [execOp, ho]
  exact outc_skip h1 (Pst.same' (by simp only [VRel]) (Nat.le_refl _) h2)

theorem owe_nilck {x : Operand} (ho : o.op = .nilCheck x) (hr : HRel w0 φ h w) {vs : List V} (hv : VRels φ vs ([x].map ρ)) : Owed P w0 φ h nid call ρ o w .nilck vs := by
  intro v h' e
  obtain ⟨a, r, e1, e⟩ := a1_ok e
  obtain ⟨hg, e2⟩ := gate_ok e
  clear e
  cases e2
  have hx := rel1 hv e1
  cases v <;> first | (cases hg; done) | skip
  all_goals
    have hx0 := hx
    simp only [VRel] at hx
  · obtain ⟨k, d, N, e2, e3⟩ := hx
    simp only [execOp, ho, e3]
    rw [← e3]
    exact Pst.same hx0 hr
  · obtain ⟨fs, cs, e3, _⟩ := hx
    simp only [execOp, ho, e3]
    rw [← e3]
    exact Pst.same hx0 hr
  · obtain ⟨y, e3, _⟩ := hx
    simp only [execOp, ho, e3]
    rw [← e3]
    exact Pst.same hx0 hr

end
end Ax
end
section
namespace Ax
open Go Go.RowKit

section
variable {P : Program} {w0 : Base} {w : World} {φ : Phi} {h : H} {nid : Nat} {call : FuncId → List V → H → R1} {ρ : Operand → Value} {o : Oper}

theorem r_shape {k : Nat} {c : Array Value} {e : TypeId} {fr : Nat × Nat} (hk : w.heap[k]? = some (.cells c e fr)) : (Go.shape k).run P w = .ok (some (e, c.size)) w := by
  have : w.shape? k = some (e, c.size) := by unfold World.shape?; simp [hk]
  rw [← this]; rfl
theorem r_viewAt {k : Nat} {c : Array Value} {e : TypeId} {fr : Nat × Nat} (hk : w.heap[k]? = some (.cells c e fr)) : (viewAt k).run P w = .ok none w := by
  simp [viewAt, r_shape hk]
theorem r_seenAt {a : Addr} {c : Array Value} {e : TypeId} {fr : Nat × Nat} (hk : w.heap[a.block]? = some (.cells c e fr)) : (Conv.seenAt a).run P w = .ok a w := by
  simp [Conv.seenAt, r_viewAt hk]
theorem r_cellsIn {k : Nat} {c : Array Value} {e : TypeId} {fr : Nat × Nat} (hk : w.heap[k]? = some (.cells c e fr)) : (cellsIn k).run P w = .ok (some c.size) w := by
  simp [cellsIn, r_shape hk]

theorem r_variablesAt {k off n : Nat} {u : TypeId} {c : Array Value} {e : TypeId} {fr : Nat × Nat} (hk : w.heap[k]? = some (.cells c e fr)) (hl : liesAt P P.depth e (c.size / P.cellsOf e) off u n = true) : (variablesAt ⟨k, off, none⟩ u n).run P w = .ok true w := by
  have : w.shape? k = some (e, c.size) := by unfold World.shape?; simp [hk]
  simp [variablesAt, this, hl]

theorem depth_pos (P : Program) : ∃ d, P.depth = d + 1 := ⟨2 * (P.types.size + Made.depth) + 1, rfl⟩
theorem sameLayout_refl (P : Program) (t : TypeId) : sameLayout P P.depth t t = true := by
  obtain ⟨d, hd⟩ := depth_pos P
  rw [hd, sameLayout]
  simp
theorem liesAt_self (P : Program) {u : TypeId} {n off c : Nat} (hz : P.cellsOf u ≠ 0) (h0 : off % P.cellsOf u = 0) (hc : off / P.cellsOf u + n ≤ c) : liesAt P P.depth u c off u n = true := by
  obtain ⟨d, hd⟩ := depth_pos P
  have hs := sameLayout_refl P u
  rw [hd] at hs
  rw [hd, liesAt, hd, rowAt]
  simp [hz, h0, hc, hs]

theorem owe_uptr1 {s d t : TypeId} {x : Operand} {i : TypeInfo} (hs : P.underlying s = some (.pointer t)) (hd : P.underlying d = some .unsafePointer) (hi : P.info? t = some i) (hz : i.size ≠ 0)
    (ho : o.op = .convert s d x) (hr : HRel w0 φ h w) {vs : List V} (hv : VRels φ vs ([x].map ρ)) : Owed P w0 φ h nid call ρ o w .uptr1 vs := by
  intro v h' e
  obtain ⟨a, r, e1, e⟩ := a1_ok e
  obtain ⟨b, off, rfl, e⟩ := dPtr_ok e
  obtain ⟨rw_, hb, e⟩ := dRow_ok e
  obtain ⟨hg, e2⟩ := gate_ok e
  clear e
  cases e2
  have hx := rel1 hv e1
  have hx0 := hx
  simp only [VRel] at hx
  obtain ⟨k, δ, N, hφ, hx⟩ := hx
  obtain ⟨k', δ', N', c, el, fr, q1, _, q3, q4⟩ := hr.row hb
  rw [hφ] at q1
  cases q1
  simp only [execOp, ho]
  rw [hx] at hx0 ⊢
  refine outc_val (w' := w) ?_ (Pst.same hx0 hr)
  have hlt : ¬ c.size ≤ off + δ := by have := q4.size; have := ble_iff.1 hg; omega
  simp [convert, run_underlying hs, run_underlying hd, Conv.unsafePointer, r_seenAt (a := ⟨k, off + δ, none⟩) q3, r_cellsIn q3, r_size _ hi, hz, hlt]

theorem owe_uptr2 {s d u : TypeId} {x : Operand} {i : TypeInfo} (hs : P.underlying s = some .unsafePointer) (hd : P.underlying d = some (.pointer u)) (hi : P.info? u = some i) (hz : i.size ≠ 0)
    (ho : o.op = .convert s d x) (hr : HRel w0 φ h w) {vs : List V} (hv : VRels φ vs ([x].map ρ)) : Owed P w0 φ h nid call ρ o w (.uptr2 u i.size) vs := by
  intro v h' e
  obtain ⟨a, r, e1, e⟩ := a1_ok e
  obtain ⟨b, off, rfl, e⟩ := dPtr_ok e
  obtain ⟨rw_, hb, e⟩ := dRow_ok e
  obtain ⟨hg, e2⟩ := gate_ok e
  clear e
  cases e2
  have hx := rel1 hv e1
  have hx0 := hx
  simp only [VRel] at hx
  obtain ⟨k, δ, N, hφ, hx⟩ := hx
  obtain ⟨k', δ', N', c, el, fr, q1, _, q3, q4⟩ := hr.row hb
  rw [hφ] at q1
  cases q1
  simp only [execOp, ho]
  rw [hx] at hx0 ⊢
  refine outc_val (w' := w) ?_ (Pst.same hx0 hr)
  rw [band, band, band] at hg
  obtain ⟨g1, g2, g3, g4⟩ := hg
  obtain ⟨z1, z2⟩ := q4.exact g1
  have g3' := Nat.eq_of_beq_eq_true g3
  have g2' := Nat.eq_of_beq_eq_true g2
  have g4' := Nat.eq_of_beq_eq_true g4
  have hel : el = u := q4.elem.trans g4'
  have hco : P.cellsOf u = i.size := by unfold Program.cellsOf; rw [hi]; rfl
  subst hel
  subst z1
  subst g3'
  have hlies : liesAt P P.depth el (c.size / P.cellsOf el) 0 el 1 = true :=
    liesAt_self P (by rw [hco]; exact hz) (by simp) (by rw [hco, z2, g2', Nat.div_self (by omega)]; simp)
  simp [convert, run_underlying hs, run_underlying hd, Conv.unsafePointer, r_seenAt (a := ⟨k, 0, none⟩) q3, r_variablesAt q3 hlies, r_size _ hi, hz]

end
end Ax
end
section
namespace Ax
open Go Go.RowKit

section
variable {P : Program} {w0 : Base} {w : World} {φ : Phi} {h : H} {nid : Nat} {call : FuncId → List V → H → R1} {ρ : Operand → Value} {o : Oper}

theorem guard_other {op : BinOp} {t : TypeId} {x y : Operand} {a b : Value} (h1 : ∀ l, a ≠ .agg l) (h2 : a ≠ .nilIface) : (eqGuard op t x y a b).run P w = .ok () w := by
  unfold eqGuard
  cases a <;> first
    | (cases op <;> simp; done)
    | exact absurd rfl (h1 _)
    | exact absurd rfl h2

theorem owe_bin {op : BinOp} {t yt : TypeId} {x y : Operand} (ho : o.op = .binOp op t x y yt) (hr : HRel w0 φ h w) {vs : List V} (hv : VRels φ vs ([x, y].map ρ)) : Owed P w0 φ h nid call ρ o w (.bin op) vs := by
  intro v h' e
  obtain ⟨a, b, r, e1, e⟩ := a2_ok e
  obtain ⟨r1, r2⟩ := rel2 hv e1
  obtain ⟨rfl, r, h1, h2⟩ := binV_snd (P := P) (w := w) e r1 r2 t
  simp only [execOp, ho]
  have hg : (eqGuard op t x y (ρ x) (ρ y)).run P w = .ok () w := by
    have : (∀ l, ρ x ≠ .agg l) ∧ ρ x ≠ .nilIface := by
      cases a <;> try (cases e; done)
      · simp only [VRel] at r1; rw [r1]; simp
      · simp only [VRel] at r1; rw [r1]; simp
    exact guard_other this.1 this.2
  refine outc_val (w' := w) ?_ (Pst.same h2 hr)
  simp only [Sem.run_bind, hg, Result.andThen_ok, h1]

def nonPrim (u : Value) : Bool := match u with
  | .int _ _ => false
  | .float _ _ => false
  | .complex _ _ _ => false
  | .string _ => false
  | _ => true
theorem binOp_eql {t : TypeId} {u v : Value} (hu : nonPrim u = true) : binOp .eql t u v = (do pure (.bool (← Op.equal t u v)) : Sem Value) := by
  cases u <;> first | rfl | cases hu
theorem binOp_neq {t : TypeId} {u v : Value} (hu : nonPrim u = true) : binOp .neq t u v = (do pure (.bool (!(← Op.equal t u v))) : Sem Value) := by
  cases u <;> first | rfl | cases hu
theorem nonPrim_of {a : V} {u : Value} (h : VRel φ a u) (h1 : a ≠ .undef) (h2 : ∀ k n, a ≠ .int k n) (h3 : ∀ n b, a ≠ .str n b) : nonPrim u = true := by
  cases a with
  | undef => exact absurd rfl h1
  | int k n => exact absurd rfl (h2 k n)
  | str n b => exact absurd rfl (h3 n b)
  | ptr b o => simp only [VRel] at h; obtain ⟨_, _, _, _, rfl⟩ := h; rfl
  | slice b o l c s => simp only [VRel] at h; obtain ⟨_, _, _, _, _, _, rfl, _⟩ := h; rfl
  | map b => simp only [VRel] at h; obtain ⟨_, _, _, _, rfl⟩ := h; rfl
  | func f a b => simp only [VRel] at h; obtain ⟨_, _, rfl, _⟩ := h; rfl
  | iface t v => simp only [VRel] at h; obtain ⟨_, rfl, _⟩ := h; rfl
  | agg l => simp only [VRel] at h; obtain ⟨_, rfl, _⟩ := h; rfl
  | tup l => simp only [VRel] at h; obtain ⟨_, rfl, _⟩ := h; rfl
  | _ => simp only [VRel] at h; subst h; rfl
theorem eqV_prim {et : EqT} {a b : V} {t : Bool} (ht : (eqV h et a b).is t) (h1 : et ≠ .int) (h2 : et ≠ .str) : a ≠ .undef ∧ (∀ k n, a ≠ .int k n) ∧ (∀ n s, a ≠ .str n s) := by
  refine ⟨?_, fun k n => ?_, fun n s => ?_⟩ <;> rintro rfl <;> cases et <;> cases b <;> simp only [eqV] at ht <;> first
    | (cases t <;> exact ht.elim)
    | exact absurd rfl h1
    | exact absurd rfl h2

theorem owe_eq {neg : Bool} {t yt : TypeId} {x y : Operand} (ho : o.op = .binOp (if neg then .neq else .eql) t x y yt) {n : Nat} (hn : n ≤ 10000) {et : EqT} (het : eqTy P n t = some et) (hr : HRel w0 φ h w) {vs : List V} (hv : VRels φ vs ([x, y].map ρ))
    (h1 : et ≠ .int) (h2 : et ≠ .str)
    (hgd : ∀ a b t', VRel φ a (ρ x) → VRel φ b (ρ y) → (eqV h et a b).is t' → ((eqGuard (if neg then .neq else .eql) t x y (ρ x) (ρ y)).run P w = .ok () w)) : Owed P w0 φ h nid call ρ o w (.eq neg et) vs := by
  intro v h' e
  obtain ⟨a, b, r, e1, e⟩ := a2_ok e
  obtain ⟨r1, r2⟩ := rel2 hv e1
  have key : ∀ t' : Bool, (eqV h et a b).is t' → (binOp (if neg then .neq else .eql) t (ρ x) (ρ y)).run P w = .ok (.bool (if neg then !t' else t')) w := by
    intro t' ht
    have hq : (Op.equal t (ρ x) (ρ y)).run P w = .ok t' w := eqTy_snd (P := P) hr n t et het Op.maxDepth hn r1 r2 ht
    obtain ⟨p1, p2, p3⟩ := eqV_prim ht h1 h2
    have hp := nonPrim_of r1 p1 p2 p3
    cases neg with
    | false =>
      simp only [Bool.false_eq_true, if_false]
      rw [binOp_eql hp]
      simp [hq]
    | true =>
      simp only [if_true]
      rw [binOp_neq hp]
      simp [hq]
  simp only [execOp, ho]
  have fin : ∀ t' : Bool, VRel φ (.bool (Bool.rec t' (bnot t') neg)) (.bool (if neg then !t' else t')) := by
    intro t'
    simp only [VRel, bnot_eq]
    cases neg <;> rfl
  rcases dB3_ok e with ⟨k1, k2⟩ | ⟨k1, k2⟩
  · cases k2
    refine outc_val (w' := w) ?_ (Pst.same (fin true) hr)
    simp only [Sem.run_bind, hgd _ _ _ r1 r2 (isYes.2 k1), Result.andThen_ok, key true (isYes.2 k1)]
  · cases k2
    refine outc_val (w' := w) ?_ (Pst.same (fin false) hr)
    simp only [Sem.run_bind, hgd _ _ _ r1 r2 (isNo.2 k1), Result.andThen_ok, key false (isNo.2 k1)]

theorem owe_not {t : TypeId} {x : Operand} (ho : o.op = .unOp .not t x) (hr : HRel w0 φ h w) {vs : List V} (hv : VRels φ vs ([x].map ρ)) : Owed P w0 φ h nid call ρ o w .not vs := by
  intro v h' e
  obtain ⟨a, r, e1, e⟩ := a1_ok e
  obtain ⟨b, rfl, e⟩ := dBool_ok e
  cases e
  have hx := rel1 hv e1
  simp only [VRel] at hx
  simp only [execOp, ho, hx]
  exact outc_val (v := .bool (!b)) rfl (Pst.same (by simp only [VRel, bnot_eq]) hr)

theorem owe_neg {t : TypeId} {x : Operand} (ho : o.op = .unOp .neg t x) (hr : HRel w0 φ h w) {vs : List V} (hv : VRels φ vs ([x].map ρ)) : Owed P w0 φ h nid call ρ o w .neg vs := by
  intro v h' e
  obtain ⟨a, r, e1, e⟩ := a1_ok e
  obtain ⟨k, b, rfl, e⟩ := dInt_ok e
  cases e
  have hx := rel1 hv e1
  simp only [VRel] at hx
  simp only [execOp, ho, hx]
  exact outc_val (v := .int k (k.wrap (0 - b))) rfl (Pst.same (by simp only [VRel]) hr)

theorem owe_s2s {s el1 el2 : TypeId} {x : Operand} (hs : P.underlying s = some (.slice el1)) (hs2 : P.underlying s = some (.slice el2)) (hu : P.underlying el2 = some (.int .u8)) (ho : o.op = .convert s s x) (hr : HRel w0 φ h w) {vs : List V} (hv : VRels φ vs ([x].map ρ)) :
    Owed P w0 φ h nid call ρ o w .s2s vs := by
  intro v h' e
  obtain ⟨a, r, e1, e⟩ := a1_ok e
  have hx := rel1 hv e1
  rcases dSl_ok e with ⟨b, off, n, cc, sz, rfl, e2⟩ | ⟨rfl, e2⟩
  case inr => cases e2
  obtain ⟨rr, hb, e3⟩ := dRow_ok e2
  obtain ⟨hg, e4⟩ := gate_ok e3
  rw [band, bnot_eq] at hg
  obtain ⟨hro0, hfz0⟩ := hg
  have hfz0 := Nat.eq_of_beq_eq_true hfz0
  have hro0 : rr.ro = false := by simpa using hro0
  cases e4
  have hel : el2 = el1 := by have := hs2.symm.trans hs; cases this; rfl
  subst hel
  have hx0 := hx
  simp only [VRel] at hx
  obtain ⟨kk, d, N, off', c', hφ, hval, _⟩ := hx
  obtain ⟨k', d', N', cells, el', fr, q1, qk, q3, q4⟩ := hr.row hb
  have qk := qk hro0
  rw [hφ] at q1
  cases q1
  have hfz : w.freeze ⟨kk, cells.size, none⟩ 1 = { w with heap := w.heap.setIfInBounds kk (.cells cells el' (if fr.1 == fr.2 then (cells.size, cells.size + 1) else (min fr.1 cells.size, max fr.2 (cells.size + 1)))) } := by
    unfold World.freeze
    rw [if_neg (by decide)]
    congr 1
    apply Array.ext_getElem?
    intro j
    rw [Array.getElem?_modify, Array.getElem?_setIfInBounds]
    by_cases hj : kk = j
    · subst hj
      rw [if_pos rfl, if_pos rfl, q3]
      have hlt : kk < w.heap.size := (Array.getElem?_eq_some_iff.1 q3).1
      rw [if_pos hlt]
      rfl
    · rw [if_neg hj, if_neg hj]
  simp only [execOp, ho]
  refine outc_val (v := ρ x) (w' := w.freeze ⟨kk, cells.size, none⟩ 1) ?_ (Pst.same' hx0 (Nat.le_refl _) ?_)
  · rw [hval]
    have hsh := r_shape (P := P) q3
    simp [convert, run_underlying hs, run_underlying hu, markStringish, hsh]
  · rw [hfz]
    refine hr.setObj (o := .row ⟨rr.elem, rr.n, rr.d, rr.t, rr.fz, true, rr.ro, rr.ex⟩) (ob := .cells cells el' (if fr.1 == fr.2 then (cells.size, cells.size + 1) else (min fr.1 cells.size, max fr.2 (cells.size + 1)))) (none_ne hb) hφ qk (by
      have hcl : cells.size ≤ (if fr.1 == fr.2 then (cells.size, cells.size + 1) else (min fr.1 cells.size, max fr.2 (cells.size + 1)) : Nat × Nat).1 := by
        rcases q4.clean hro0 hfz0 with h | ⟨_, h⟩
        · rw [h]; exact Nat.le_refl _
        · split
          · exact Nat.le_refl _
          · show cells.size ≤ min fr.1 cells.size
            omega
      exact ⟨.inl qk, cells, el', _, rfl, ⟨q4.ok.1, q4.ok.2⟩, q4.elem, q4.full, q4.size, q4.cell, fun _ => .inr ⟨rfl, hcl⟩, q4.exact, fun _ _ => .inr ⟨rfl, hcl⟩⟩)

theorem owe_conv {s d : TypeId} {x : Operand} (ho : o.op = .convert s d x) {c : C} {xs : List Operand} (hc : compConv P s d x = some (c, xs)) (hr : HRel w0 φ h w) (hn : nid < h.next) (hf : φ nid = none) {vs : List V} (hv : VRels φ vs (xs.map ρ)) :
    Owed P w0 φ h nid call ρ o w c vs := by
  unfold compConv at hc
  cases hs : P.underlying s with
  | none => rw [hs] at hc; simp at hc
  | some ds =>
    cases hd : P.underlying d with
    | none => rw [hs, hd] at hc; cases ds <;> simp at hc
    | some dd =>
      rw [hs, hd] at hc
      have u8 : ∀ e, isU8 P e = true → P.underlying e = some (.int .u8) := by
        intro e he
        unfold isU8 at he
        split at he
        · assumption
        · cases he
      cases ds <;> cases dd <;> simp only [reduceCtorEq] at hc
      case int.int k1 k2 =>
        cases hc
        intro v h' e
        obtain ⟨a, r, e1, e⟩ := a1_ok e
        obtain ⟨k, b, rfl, e⟩ := dInt_ok e
        cases e
        have hx := rel1 hv e1
        simp only [VRel] at hx
        simp only [execOp, ho, hx]
        refine outc_val (v := .int k2 (k2.wrap b)) ?_ (Pst.same (by simp only [VRel, wr_eq]) hr)
        simp [convert, run_underlying hs, run_underlying hd, Conv.intToInt]
      case string.string =>
        cases hc
        intro v h' e
        obtain ⟨a, r, e1, e⟩ := a1_ok e
        obtain ⟨n, b, rfl, e⟩ := dStr_ok e
        cases e
        have hx := rel1 hv e1
        have hx0 := hx
        simp only [VRel] at hx
        simp only [execOp, ho, hx]
        refine outc_val (v := .string (strOf n b)) (w' := w) ?_ (Pst.same (hx ▸ hx0) hr)
        simp [convert, run_underlying hs, run_underlying hd]
      case string.slice el =>
        by_cases hu : isU8 P el = true
        · rw [if_pos hu] at hc
          cases hc
          intro v h' e
          obtain ⟨a, r, e1, e⟩ := a1_ok e
          obtain ⟨n, b, rfl, e⟩ := dStr_ok e
          cases e
          obtain ⟨v', w', q1, q2⟩ := snd_s2b (P := P) hs hd (u8 _ hu) hr hn hf (rel1 hv e1)
          simp only [execOp, ho]
          exact outc_val q1 q2
        · rw [if_neg hu] at hc; cases hc
      case slice.slice el1 el2 =>
        by_cases hc0 : (Nat.beq s d && isU8 P el2) = true
        · rw [if_pos hc0] at hc
          cases hc
          obtain ⟨h1, h2⟩ := Bool.and_eq_true_iff.1 hc0
          have hsd := Nat.eq_of_beq_eq_true h1
          subst hsd
          exact owe_s2s hs hd (u8 _ h2) ho hr hv
        · rw [if_neg hc0] at hc; cases hc
      case slice.string el =>
        by_cases hu : isU8 P el = true
        · rw [if_pos hu] at hc
          cases hc
          intro v h' e
          obtain ⟨a, r, e1, e⟩ := a1_ok e
          have hx := rel1 hv e1
          rcases dSl_ok e with ⟨b, off, n, cc, sz, rfl, e⟩ | ⟨rfl, e⟩
          · obtain ⟨rr, hb, e⟩ := dRow_ok e
            obtain ⟨hg, e2⟩ := gate_ok e
            clear e
            obtain ⟨s', k1, v', q1, q2⟩ := snd_b2s (P := P) hs (u8 _ hu) hd hr hb e2 hx (by simpa [Nat.ble_eq] using hg)
            cases k1
            simp only [execOp, ho]
            exact outc_val q1 (Pst.same q2 hr)
          · cases e
            simp only [VRel] at hx
            simp only [execOp, ho, hx]
            have := run_convert_bytes_nil (P := P) w s el hs (u8 _ hu) 0 0 d hd
            exact outc_val this (Pst.same (by simp only [VRel]; rfl) hr)
        · rw [if_neg hu] at hc; cases hc
      case pointer.unsafePointer t =>
        cases hi : P.info? t with
        | none => rw [hi] at hc; cases hc
        | some i =>
          rw [hi] at hc
          simp only at hc
          split at hc
          · cases hc
          · rename_i hz
            cases hc
            exact owe_uptr1 hs hd hi hz ho hr hv
      case unsafePointer.pointer u =>
        cases hi : P.info? u with
        | none => rw [hi] at hc; cases hc
        | some i =>
          rw [hi] at hc
          simp only at hc
          split at hc
          · cases hc
          · rename_i hz
            cases hc
            exact owe_uptr2 hs hd hi hz ho hr hv

end
end Ax
end
section
namespace Ax
open Go Go.RowKit

section
variable {P : Program} {w0 : Base} {w : World} {φ : Phi} {h : H} {nid : Nat} {call : FuncId → List V → H → R1} {ρ : Operand → Value} {o : Oper}

theorem owe_mki {t : TypeId} {d : TypeDesc} (hd : P.underlying t = some d) (hni : ∀ ms, d ≠ .interface ms) {x : Operand} (ho : o.op = .makeInterface t x) (hr : HRel w0 φ h w) {vs : List V} (hv : VRels φ vs ([x].map ρ)) : Owed P w0 φ h nid call ρ o w (.mki t) vs := by
  intro v h' e
  obtain ⟨a, r, e1, e⟩ := a1_ok e
  cases e
  simp only [execOp, ho]
  refine outc_val (v := .iface t (ρ x)) (w' := w) ?_ (Pst.same (by simp only [VRel]; exact ⟨_, rfl, rel1 hv e1⟩) hr)
  simp only [Instr.makeInterface, Sem.run_bind, run_underlying hd, Result.andThen_ok]
  cases d <;> first | rfl | exact absurd rfl (hni _)

theorem owe_mkf {f : FuncId} {first cap : Array Operand} (h0 : first.size = 0) (ho : o.op = .makeFunc (.func f) first cap) (hr : HRel w0 φ h w) {vs : List V} (hv : VRels φ vs (cap.toList.map ρ)) : Owed P w0 φ h nid call ρ o w (.mkf f) vs := by
  intro v h' e
  cases e
  have hz : first = #[] := Array.eq_empty_of_size_eq_zero h0
  subst hz
  simp only [execOp, ho]
  refine outc_val (v := .func (.func f) #[] (cap.map ρ)) (w' := w) (by simp [Instr.makeFunc]) (Pst.same ?_ hr)
  simp only [VRel]
  exact ⟨#[], cap.map ρ, rfl, by simp [VRels], by simpa using hv⟩

theorem owe_mkmap {t : TypeId} (ho : o.op = .makeMap t none) (hr : HRel w0 φ h w) (hn : nid < h.next) (hf : φ nid = none) {vs : List V} : Owed P w0 φ h nid call ρ o w .mkmap vs := by
  intro v h' e
  cases e
  simp only [execOp, ho]
  refine outc_val (v := .map (some w.heap.size)) (w' := w.alloc (.map #[] 0)) rfl (Pst.new hf (x := (w.heap.size, 0, 0)) ?_ (by simp) (hr.alloc hn hf _ _ 0 ⟨.inl hr.below.size, _, rfl, by simp [MRel]⟩))
  simp only [VRel]
  exact ⟨_, _, _, Phi.add_same _ _ _, rfl⟩

theorem owe_fieldA {s : TypeId} {x : Operand} {f : Nat} {c : C} {xs : List Operand} (hc : compFieldA P s x f = some (c, xs)) (ho : o.op = .fieldAddr s x f) (hr : HRel w0 φ h w) {vs : List V} (hv : VRels φ vs (xs.map ρ)) : Owed P w0 φ h nid call ρ o w c vs := by
  unfold compFieldA at hc
  split at hc
  · rename_i fs hs
    split at hc
    · rename_i fd hf
      split at hc
      · rename_i i hi
        split at hc
        · cases hc
        · rename_i hz
          cases hc
          intro v h' e
          obtain ⟨a, r, e1, e⟩ := a1_ok e
          obtain ⟨b, off, rfl, e⟩ := dPtr_ok e
          cases e
          obtain ⟨v', q1, q2⟩ := snd_fieldA (P := P) (w := w) hs hf hi hz (rel1 hv e1)
          simp only [execOp, ho]
          exact outc_val q1 (Pst.same q2 hr)
      · cases hc
    · cases hc
  · cases hc

theorem tySz_inv {t : TypeId} {n : Nat} {b : Bool} (h : tySz P t = some (n, b)) : ∃ d i, P.underlying t = some d ∧ P.info? t = some i ∧ i.size = n ∧ aggD d = b := by
  unfold tySz at h
  split at h
  · rename_i d i h1 h2
    simp only [Option.some.injEq, Prod.mk.injEq] at h
    exact ⟨d, i, h1, h2, h.1, h.2⟩
  · cases h

theorem owe_field {s : TypeId} {x : Operand} {f : Nat} {c : C} {xs : List Operand} (hc : compField P s x f = some (c, xs)) (ho : o.op = .field s x f) (hr : HRel w0 φ h w) {vs : List V} (hv : VRels φ vs (xs.map ρ)) : Owed P w0 φ h nid call ρ o w c vs := by
  unfold compField at hc
  split at hc
  · rename_i fs hs
    split at hc
    · rename_i fd hf
      split at hc
      · rename_i n ht
        cases hc
        obtain ⟨d, i, h1, h2, rfl, h4⟩ := tySz_inv ht
        intro v h' e
        obtain ⟨a, r, e1, e⟩ := a1_ok e
        obtain ⟨l, rfl, e⟩ := dAgg_ok e
        cases e
        have hx := rel1 hv e1
        simp only [VRel] at hx
        obtain ⟨us, hx, hl⟩ := hx
        obtain ⟨v', q1, q2⟩ := snd_partn (P := P) (w := w) h1 h4 h2 hl (off := fd.offset)
        simp only [execOp, ho, hx]
        refine outc_val (w' := w) ?_ (Pst.same q2 hr)
        simp [Instr.field, run_underlying hs, hf, asAgg, q1]
      · rename_i n ht
        cases hc
        obtain ⟨d, i, h1, h2, rfl, h4⟩ := tySz_inv ht
        intro v h' e
        obtain ⟨a, r, e1, e⟩ := a1_ok e
        obtain ⟨l, rfl, e2⟩ := dAgg_ok e
        clear e
        have hx := rel1 hv e1
        simp only [VRel] at hx
        obtain ⟨us, hx, hl⟩ := hx
        cases hlo : l[fd.offset]? with
        | none => rw [hlo] at e2; cases e2
        | some y =>
          rw [hlo] at e2
          cases e2
          obtain ⟨v', q1, q2⟩ := snd_part1 (P := P) (w := w) h1 h4 hl hlo
          simp only [execOp, ho, hx]
          refine outc_val (w' := w) ?_ (Pst.same q2 hr)
          simp [Instr.field, run_underlying hs, hf, asAgg, q1]
      · cases hc
    · cases hc
  · cases hc

theorem owe_indexA {t : TypeId} {x i : Operand} {c : C} {xs : List Operand} (hc : compIndexA P t x i = some (c, xs)) (ho : o.op = .indexAddr t x i) (hr : HRel w0 φ h w) {vs : List V} (hv : VRels φ vs (xs.map ρ)) : Owed P w0 φ h nid call ρ o w c vs := by
  unfold compIndexA at hc
  split at hc
  · rename_i el ht
    split at hc
    · rename_i inf hi
      cases hc
      intro v h' e
      obtain ⟨a, b, r, e1, e⟩ := a2_ok e
      obtain ⟨r1, r2⟩ := rel2 hv e1
      obtain ⟨k, j, rfl, e⟩ := dInt_ok e
      rcases dSl_ok e with ⟨bb, off, n, cc, sz, rfl, e⟩ | ⟨rfl, e⟩
      · obtain ⟨q, rfl, hq, e⟩ := place_ok e
        cases e
        obtain ⟨v', q1, q2⟩ := snd_indexA (P := P) (w := w) ht hi hq r1 r2
        simp only [execOp, ho]
        exact outc_val q1 (Pst.same q2 hr)
      · cases e
    · cases hc
  · rename_i len el ht
    split at hc
    · rename_i inf hi
      cases hc
      intro v h' e
      obtain ⟨a, b, r, e1, e⟩ := a2_ok e
      obtain ⟨r1, r2⟩ := rel2 hv e1
      obtain ⟨k, j, rfl, e⟩ := dInt_ok e
      obtain ⟨bb, off, rfl, e⟩ := dPtr_ok e
      obtain ⟨q, rfl, hq, e⟩ := place_ok e
      cases e
      obtain ⟨v', q1, q2⟩ := snd_indexR (P := P) (w := w) ht hi hq r1 r2
      simp only [execOp, ho]
      exact outc_val q1 (Pst.same q2 hr)
    · cases hc
  · cases hc

theorem owe_index {t : TypeId} {x i : Operand} {c : C} {xs : List Operand} (hc : compIndex P t x i = some (c, xs)) (ho : o.op = .index t x i) (hr : HRel w0 φ h w) {vs : List V} (hv : VRels φ vs (xs.map ρ)) : Owed P w0 φ h nid call ρ o w c vs := by
  unfold compIndex at hc
  split at hc
  · rename_i ht
    cases hc
    intro v h' e
    obtain ⟨a, b, r, e1, e⟩ := a2_ok e
    obtain ⟨r1, r2⟩ := rel2 hv e1
    obtain ⟨k, j, rfl, e⟩ := dInt_ok e
    obtain ⟨n, s, rfl, e⟩ := dStr_ok e
    obtain ⟨q, rfl, hq, e⟩ := place_ok e
    cases e
    obtain ⟨v', q1, q2⟩ := snd_indexS (P := P) (w := w) ht hq r1 r2
    simp only [execOp, ho]
    exact outc_val q1 (Pst.same q2 hr)
  · rename_i len el ht
    split at hc
    · rename_i hsz
      cases hc
      obtain ⟨d, inf, h1, h2, h3, h4⟩ := tySz_inv hsz
      intro v h' e
      obtain ⟨a, b, r, e1, e⟩ := a2_ok e
      obtain ⟨r1, r2⟩ := rel2 hv e1
      obtain ⟨k, j, rfl, e⟩ := dInt_ok e
      obtain ⟨l, rfl, e⟩ := dAgg_ok e
      obtain ⟨q, rfl, hq, e2⟩ := place_ok e
      clear e
      simp only [VRel] at r1 r2
      obtain ⟨us, hx, hl⟩ := r1
      cases hlo : l[q]? with
      | none => rw [hlo] at e2; cases e2
      | some y =>
        rw [hlo] at e2
        cases e2
        obtain ⟨v', q1, q2⟩ := snd_part1 (P := P) (w := w) h1 h4 hl hlo
        simp only [execOp, ho, hx, r2]
        refine outc_val (w' := w) ?_ (Pst.same q2 hr)
        simp [Instr.index, asIntOf, run_underlying ht, hq, r_size _ h2, h3, q1]
    · cases hc
  · cases hc

theorem owe_extract {x : Operand} {i : Nat} (ho : o.op = .extract x i) (hr : HRel w0 φ h w) {vs : List V} (hv : VRels φ vs ([x].map ρ)) : Owed P w0 φ h nid call ρ o w (.extract i) vs := by
  intro v h' e
  obtain ⟨a, r, e1, e⟩ := a1_ok e
  obtain ⟨l, rfl, e2⟩ := dTup_ok e
  clear e
  cases hlo : l[i]? with
  | none => rw [hlo] at e2; cases e2
  | some y =>
    rw [hlo] at e2
    cases e2
    obtain ⟨v', q1, q2⟩ := snd_extract (P := P) (w := w) hlo (rel1 hv e1)
    simp only [execOp, ho]
    exact outc_val q1 (Pst.same q2 hr)

theorem owe_range {t : TypeId} (ht : P.underlying t = some .string) {x : Operand} (ho : o.op = .range t x) (hr : HRel w0 φ h w) (hn : nid < h.next) (hf : φ nid = none) {vs : List V} (hv : VRels φ vs ([x].map ρ)) : Owed P w0 φ h nid call ρ o w .range vs := by
  intro v h' e
  obtain ⟨a, r, e1, e⟩ := a1_ok e
  obtain ⟨n, s, rfl, e⟩ := dStr_ok e
  cases e
  obtain ⟨v', w', q1, q2⟩ := snd_range (P := P) ht hr hn hf (rel1 hv e1)
  simp only [execOp, ho]
  exact outc_val q1 q2

theorem owe_next {x : Operand} (ho : o.op = .next x true) (hr : HRel w0 φ h w) {vs : List V} (hv : VRels φ vs ([x].map ρ)) : Owed P w0 φ h nid call ρ o w .next vs := by
  intro v h' e
  obtain ⟨a, r, e1, e⟩ := a1_ok e
  obtain ⟨b, off, rfl, e⟩ := dPtr_ok e
  obtain ⟨hg, e2⟩ := gate_ok e
  clear e
  have h0 := Nat.eq_of_beq_eq_true hg
  subst h0
  obtain ⟨n, s, p, hb, e⟩ := dSit_ok e2
  clear e2
  obtain ⟨q1, q2⟩ := snd_next (P := P) (t := o.type) hr hb (rel1 hv e1)
  simp only [execOp, ho]
  cases hp : Nat.ble (Nat.succ p) n with
  | false =>
    rw [hp] at e
    cases e
    obtain ⟨v', a1, a2⟩ := q1 (by have := ble_false.1 hp; omega)
    exact outc_val a1 (Pst.same a2 hr)
  | true =>
    rw [hp] at e
    obtain ⟨hg2, e3⟩ := gate_ok e
    clear e
    cases e3
    obtain ⟨v', w', a1, a2, a3⟩ := q2 (ble_iff.1 hp) (ble_iff.1 hg2)
    exact outc_val a1 (Pst.same' a2 (Nat.le_refl _) a3)

theorem owe_call {c : Call} {f : Operand} (hcal : c.callee = .value f) (ho : o.op = .call c) (hr : HRel w0 φ h w) (hcall : CallOK P w0 call) {vs : List V} (hv : VRels φ vs ((f :: c.args.toList).map ρ)) : Owed P w0 φ h nid call ρ o w .call vs := by
  intro v h' e
  cases vs with
  | nil => cases e
  | cons a vs =>
    simp only [List.map_cons, VRels] at hv
    obtain ⟨y, ys, e0, r1, r2⟩ := hv
    simp only [List.cons.injEq] at e0
    obtain ⟨rfl, rfl⟩ := e0
    obtain ⟨g, first, cap, rfl, e⟩ := dFun_ok e
    simp only [VRel] at r1
    obtain ⟨fs, cs, hf, r3, r4⟩ := r1
    have := hcall g _ h v h' e φ w (fs ++ c.args.map ρ ++ cs) (by simpa using (r3.append r2).append r4) hr
    have hrun : (execOp ρ o).run P w = (callFunc g (fs ++ c.args.map ρ ++ cs)).run P w := by
      simp [execOp, ho, resolve, hcal, hf, Deferred.ofValue, invoke]
    rw [hrun]
    revert this
    generalize (callFunc g (fs ++ c.args.map ρ ++ cs)).run P w = res
    have mono : ∀ (R R' : Value → World → Prop), (∀ v w, R v w → R' v w) → Outc P res R → Outc P res R' := by
      intro R R' hRR hO
      cases res with
      | halt x w => exact hO
      | ok n w =>
        cases n <;> simp only [Outc] at hO ⊢ <;> first
          | exact hO
          | exact hRR _ _ hO
          | (refine Calls.mono hO fun e w' he => ?_
             cases e with
             | returned v => exact hRR _ _ he
             | panicked c => exact he
             | outgrown => exact he)
    exact mono _ _ fun v' w' ⟨φ', a1, a2, a3, a4, a5⟩ => ⟨φ', a1, fun b hb _ => a2 b hb, a3, a4, a5⟩

end
end Ax
end
section
namespace Ax
open Go Go.RowKit

section
variable {P : Program} {w0 : Base} {w : World} {φ : Phi} {h : H} {nid : Nat} {call : FuncId → List V → H → R1} {ρ : Operand → Value} {o : Oper}

theorem flat_get (z : List V) : ∀ n i, i < n * z.length → (List.replicate n z).flatten[i]? = z[i % z.length]? := by
  intro n
  induction n with
  | zero => intro i h; omega
  | succ n ih =>
    intro i h
    rw [List.replicate_succ, List.flatten_cons, List.getElem?_append]
    split
    · rename_i hi; rw [Nat.mod_eq_of_lt hi]
    · rename_i hi
      rw [ih _ (by rw [Nat.succ_mul] at h; omega), ← Nat.mod_eq_sub_mod (by omega)]
theorem flat_length (z : List V) (n : Nat) : (List.replicate n z).flatten.length = n * z.length := by
  simp [List.length_flatten]
theorem flat_rel {z : List V} {zs : Array Value} (hz : VRels φ z zs.toList) (n : Nat) {s : Nat} (hs : z.length = s) : VRels φ (List.replicate n z).flatten ((Array.range (n * s)).map (zs[· % zs.size]!)).toList := by
  subst hs
  have hl := hz.length
  simp only [Array.length_toList] at hl
  refine VRels.of_get (by rw [flat_length]; simp) fun i a b ha hb => ?_
  have hi : i < n * z.length := by
    have := (List.getElem?_eq_some_iff.1 ha).1
    rwa [flat_length] at this
  rw [flat_get _ _ _ hi] at ha
  obtain ⟨y, hy, hr⟩ := hz.get ha
  have hb' : b = zs[i % zs.size]! := by simp [hi] at hb; exact hb.symm
  rw [hb', ← hl]
  have : zs[i % z.length]! = y := by
    rw [Array.getElem?_toList] at hy
    simp [getElem!_def, hy]
  rw [this]
  exact hr

theorem blank_row {elem : TypeId} {c : Nat} {x : V} {v : Value} (hx : VRel φ x v) {vs : Array Value} (hn : vs.size = c) (hv : ∀ i, i < c → vs[i]? = some v) : RowRel φ (Row.blank elem c x) 0 c vs elem (0, 0) :=
  ⟨Row.ok_blank _ _ _, rfl, hn, by simp [Row.blank, hn], fun i hi => ⟨v, by simpa using hv i hi, by rw [Row.get_blank elem c x i hi]; exact hx⟩, fun _ => .inl (Nat.zero_le _), fun _ => ⟨rfl, hn⟩, fun _ _ => .inl rfl⟩

theorem r_askRoom {n : Nat} (hn : n ≤ 140737488355328) : (askRoom n).run P w = .ok () w := by
  unfold askRoom roomBytes
  rw [if_neg (by omega)]
  rfl

theorem snd_mksl {t el : TypeId} (ht : P.underlying t = some (.slice el)) {i : TypeInfo} (hi : P.info? el = some i) {zv : Value} (hz : i.zero = some zv) {z : List V} (hzr : VRels φ z zv.cells.toList) (hzl : z.length = i.size)
    (hr : HRel w0 φ h w) (hn : nid < h.next) (hf : φ nid = none) {l c : Nat} (hlc : l ≤ c) (hc : (c + 1) * (i.bytes + 1) ≤ 1099511627776) :
    ∃ v' w', (Instr.makeSlice t (.int .i64 (l : Int)) (.int .i64 (c : Int))).run P w = .ok v' w' ∧
      Pst w0 φ nid h (.slice nid 0 l c i.size) (h.set nid (.row (match i.size with
              | 1 => Row.blank el c (z.headD .undef)
              | _ => Row.make el (Nat.mul c i.size) ((List.replicate c z).flatten)))) v' w' := by
  have hcb : c ≤ 1099511627776 := by
    have : c + 1 ≤ (c + 1) * (i.bytes + 1) := Nat.le_mul_of_pos_right _ (by omega)
    omega
  have hprod : c * i.bytes ≤ 1099511627776 := Nat.le_trans (Nat.mul_le_mul (by omega) (by omega)) hc
  have hprodl : l * i.bytes ≤ 1099511627776 := Nat.le_trans (Nat.mul_le_mul hlc (Nat.le_refl _)) hprod
  have wl : IntKind.i64.wrap (l : Int) = (l : Int) := by simp [IntKind.wrap, IntKind.bits, IntKind.signed]; omega
  have wc : IntKind.i64.wrap (c : Int) = (c : Int) := by simp [IntKind.wrap, IntKind.bits, IntKind.signed]; omega
  have hzs : zv.cells.size = i.size := by have := hzr.length; simp at this; omega
  refine ⟨.slice (some ⟨w.heap.size, 0, none⟩) l c, w.alloc (.cells (if c * i.size = 0 then #[] else (Array.range (c * i.size)).map (zv.cells[· % zv.cells.size]!)) el), ?_, Pst.new hf (x := (w.heap.size, 0, c * i.size)) ?_ (by simp) ?_⟩
  · have hb0 : (i.bytes : Int) * (c : Int) = ((c * i.bytes : Nat) : Int) := by rw [Int.natCast_mul, Int.mul_comm]
    have hb1 : ((i.bytes : Int) * (c : Int) > 2 ^ 48) = False := eq_false (by rw [hb0]; omega)
    have ai : ∀ n, (asInt (.int .i64 n)).run P w = .ok n w := fun _ => rfl
    simp only [Instr.makeSlice, Sem.run_bind, run_underlying ht, Result.andThen_ok, ai, r_info _ hi, wl, wc]
    simp only [Bool.or_eq_true, decide_eq_true_eq, hb1]
    have e2 : ¬ ((((c : Int) < 0 ∨ False) ∨ (l : Int) < 0) ∨ (l : Int) > (c : Int)) := by
      rintro (((q | q) | q) | q)
      · omega
      · exact q
      · omega
      · omega
    rw [if_neg e2]
    simp only [Result.andThen_ok, Int.toNat_natCast, r_askRoom (show c * i.bytes ≤ 140737488355328 by omega), r_size _ hi, Sem.run_bind]
    by_cases h0 : c * i.size = 0
    · rw [if_pos h0, if_pos h0]
      have hr0 : (Array.range 0).map (fun x : Nat => (default : Value)) = #[] := by simp
      simp [h0, newRow]
      rw [hr0]
    · rw [if_neg h0, if_neg h0]
      simp only [Sem.run_bind, r_zero _ hi hz, Result.andThen_ok, Sem.run_pure]
      rfl
  · simp only [VRel]
    exact ⟨_, 0, _, 0, c, Phi.add_same _ _ _, rfl, hlc, Nat.le_refl _, .inr rfl, by omega⟩
  · have hx := Phi.ext_add (φ := φ) (w.heap.size, 0, c * i.size) hf
    have hcells : (if c * i.size = 0 then #[] else (Array.range (c * i.size)).map (zv.cells[· % zv.cells.size]!)) = (Array.range (c * i.size)).map (zv.cells[· % zv.cells.size]!) := by
      split
      · rename_i h0; rw [h0]; simp
      · rfl
    rw [hcells]
    refine hr.alloc hn hf _ _ _ ⟨.inl (.inl hr.below.size), _, _, _, rfl, ?_⟩
    have hrel := (flat_rel hzr c hzl).mono hx
    have mk : RowRel (φ.add nid (w.heap.size, 0, c * i.size)) (Row.make el (Nat.mul c i.size) ((List.replicate c z).flatten)) 0 (c * i.size) ((Array.range (c * i.size)).map (zv.cells[· % zv.cells.size]!)) el (0, 0) := by
      have := deep_row (elem := el) hrel
      rw [flat_length, hzl, Array.toArray_toList] at this
      exact this
    split
    · rename_i h1
      rw [h1] at hzl hzs hx ⊢
      obtain ⟨y, ys, e1, r1, r2⟩ : ∃ y ys, zv.cells.toList = y :: ys ∧ VRel φ (z.headD .undef) y ∧ ys = [] := by
        cases z with
        | nil => simp at hzl
        | cons a z =>
          have hzn : z = [] := by simpa using hzl
          subst hzn
          simp only [VRels] at hzr
          obtain ⟨y, ys, e, r, s⟩ := hzr
          exact ⟨y, ys, e, r, s⟩
      subst r2
      have hzc : zv.cells = #[y] := by apply Array.toList_inj.1; rw [e1]
      have hb := blank_row (elem := el) (c := c) (vs := (Array.range (c * 1)).map (zv.cells[· % zv.cells.size]!)) (r1.mono hx) (by simp) fun i hi => by
        simp [hzc, hi, Nat.mod_one]
      rw [Nat.mul_one] at hb ⊢
      exact hb
    · exact mk
end
end Ax
end
section
namespace Ax
open Go Go.RowKit

section
variable {P : Program} {w0 : Base} {w : World} {φ : Phi} {h : H} {nid : Nat} {call : FuncId → List V → H → R1} {ρ : Operand → Value} {o : Oper}

theorem zcells_inv {t : TypeId} {z : List V} (hz : zcells P t = some z) : ∃ i zv, P.info? t = some i ∧ i.zero = some zv ∧ VRels φ z zv.cells.toList := by
  unfold zcells at hz
  split at hz
  · rename_i i hi
    split at hz
    · rename_i zv hzv
      exact ⟨i, zv, hi, hzv, absL_rel hz⟩
    · cases hz
  · cases hz

theorem owe_mksl {t : TypeId} {l c : Operand} {cc : C} {xs : List Operand} (hc : compMksl P t l c = some (cc, xs)) (ho : o.op = .makeSlice t l c) (hr : HRel w0 φ h w) (hn : nid < h.next) (hf : φ nid = none) {vs : List V} (hv : VRels φ vs (xs.map ρ)) : Owed P w0 φ h nid call ρ o w cc vs := by
  unfold compMksl at hc
  split at hc
  · rename_i el ht
    split at hc
    · rename_i i z hi hz
      split at hc
      · rename_i hzl
        cases hc
        obtain ⟨i', zv, h1, h2, h3⟩ := zcells_inv (φ := φ) hz
        rw [hi] at h1
        cases h1
        intro v h' e
        obtain ⟨a, b, r, e1, e3⟩ := a2_ok e
        obtain ⟨r1, r2⟩ := rel2 hv e1
        obtain ⟨kl, ln, rfl, e4⟩ := dInt_ok e3
        obtain ⟨kc, cn, rfl, e5⟩ := dInt_ok e4
        clear e e3 e4
        cases ln with
        | negSucc m => cases e5
        | ofNat ln =>
          cases cn with
          | negSucc m => cases e5
          | ofNat cn =>
            obtain ⟨hg, e2⟩ := gate_ok e5
            clear e5
            rw [band, band, band, band] at hg
            obtain ⟨g1, g2, g3, g4, g5⟩ := hg
            have k1 := kno_inj (k := .i64) (Nat.eq_of_beq_eq_true g5)
            have k2 := kno_inj (k := .i64) (Nat.eq_of_beq_eq_true g4)
            subst k1 k2
            cases e2
            have g2' : ln ≤ cn := by simpa [Nat.ble_eq] using g2
            have g1' : (cn + 1) * (i.bytes + 1) ≤ 1099511627776 := by simpa [Nat.ble_eq] using g1
            obtain ⟨v', w', q1, q2⟩ := snd_mksl (P := P) ht hi h2 h3 hzl.1 hr hn hf g2' g1'
            simp only [VRel] at r1 r2
            simp only [execOp, ho, r1, r2]
            exact outc_val q1 q2
      · cases hc
    · cases hc
  · cases hc

theorem rels_map {l : List Operand} {vs : List V} (hv : VRels φ vs (l.map ρ)) : ∀ {a : V} {r : List V}, vs = a :: r → ∃ x l', l = x :: l' ∧ VRel φ a (ρ x) ∧ VRels φ r (l'.map ρ) := by
  intro a r e
  subst e
  cases l with
  | nil => simp [VRels] at hv
  | cons x l =>
    simp only [List.map_cons, VRels] at hv
    obtain ⟨y, ys, e, r1, r2⟩ := hv
    simp only [List.cons.injEq] at e
    obtain ⟨rfl, rfl⟩ := e
    exact ⟨x, l, rfl, r1, r2⟩

theorem dSlLen_spec {a : V} {k : IntKind} {n : Int} (e : exC.dSlLen a = .int k n) : ∃ m : Nat, n = (m : Int) ∧ ((∃ b o c s, a = .slice b o m c s) ∨ (a = .nils ∧ m = 0) ∨ ∃ s, a = .str m s) := by
  cases a <;> simp only [exC.dSlLen, V.int.injEq, reduceCtorEq] at e
  · exact ⟨_, e.2.symm, .inr (.inr ⟨_, rfl⟩)⟩
  · exact ⟨_, e.2.symm, .inl ⟨_, _, _, _, rfl⟩⟩
  · exact ⟨0, e.2.symm, .inr (.inl ⟨rfl, rfl⟩)⟩

/-- What the bounds of a slice are. -/
def LoIs (lo : Option Value) (i : V) : Prop := (∃ k n, lo = some (.int k n) ∧ i = .int k n) ∨ (lo = none ∧ i = .int .i64 0)
def HiIs (hi : Option Value) (a j : V) : Prop := (∃ k n, hi = some (.int k n) ∧ j = .int k n) ∨ (hi = none ∧ j = exC.dSlLen a)

theorem owe_slice {t : TypeId} {x : Operand} {lo hi mx : Option Operand} {c : C} {xs : List Operand} (hc : compSlice P t x lo hi mx = some (c, xs)) (ho : o.op = .slice t x lo hi mx) (hr : HRel w0 φ h w) {vs : List V} (hv : VRels φ vs (xs.map ρ)) : Owed P w0 φ h nid call ρ o w c vs := by
  unfold compSlice at hc
  split at hc
  · cases hc
  · rename_i hmx
    have gen : ∀ {a : V} {r : List V}, VRels φ r ((lo.toList ++ hi.toList).map ρ) → ∀ (go : V → V → R1) (n : Nat) {v : V} {h' : H},
        (match lo.isSome, hi.isSome, r with
          | true, true, [i, j] => go i j
          | true, false, [i] => go i (exC.dSlLen a)
          | false, true, [j] => go (.int .i64 0) j
          | false, false, [] => go (.int .i64 0) (exC.dSlLen a)
          | _, _, _ => .bad n) = R1.ok v h' → (∀ i j, go i j = .ok v h' → (∃ k n, i = .int k n) ∧ (∃ k n, j = .int k n)) →
        ∃ i j, go i j = .ok v h' ∧ LoIs (lo.map ρ) i ∧ HiIs (hi.map ρ) a j := by
      intro a r hr' go n v h' e hint
      cases lo with
      | none =>
        cases hi with
        | none =>
          cases r with
          | nil => exact ⟨_, _, e, .inr ⟨rfl, rfl⟩, .inr ⟨rfl, rfl⟩⟩
          | cons b r => cases e
        | some q =>
          cases r with
          | nil => cases e
          | cons b r =>
            cases r with
            | cons b2 r => cases e
            | nil =>
              have hr1 : VRel φ b (ρ q) := by simpa [VRels] using hr'
              obtain ⟨_, k, m, rfl⟩ := hint _ _ e
              simp only [VRel] at hr1
              exact ⟨_, _, e, .inr ⟨rfl, rfl⟩, .inl ⟨k, m, by simp [hr1], rfl⟩⟩
      | some p =>
        cases hi with
        | none =>
          cases r with
          | nil => cases e
          | cons b r =>
            cases r with
            | cons b2 r => cases e
            | nil =>
              have hr1 : VRel φ b (ρ p) := by simpa [VRels] using hr'
              obtain ⟨⟨k, m, rfl⟩, _⟩ := hint _ _ e
              simp only [VRel] at hr1
              exact ⟨_, _, e, .inl ⟨k, m, by simp [hr1], rfl⟩, .inr ⟨rfl, rfl⟩⟩
        | some q =>
          cases r with
          | nil => cases e
          | cons b r =>
            cases r with
            | nil => cases e
            | cons b2 r =>
              cases r with
              | cons b3 r => cases e
              | nil =>
                have hr1 : VRel φ b (ρ p) ∧ VRel φ b2 (ρ q) := rel2 (x := p) (y := q) (r := []) hr' rfl
                obtain ⟨⟨k, m, rfl⟩, k', m', rfl⟩ := hint _ _ e
                simp only [VRel] at hr1
                exact ⟨_, _, e, .inl ⟨k, m, by simp [hr1.1], rfl⟩, .inl ⟨k', m', by simp [hr1.2], rfl⟩⟩
    split at hc
    · rename_i ht
      cases hc
      intro v h' e
      cases vs with
      | nil => cases e
      | cons a r =>
        obtain ⟨x', l', el, r1, r2⟩ := rels_map hv rfl
        simp only [List.cons.injEq] at el
        obtain ⟨rfl, rfl⟩ := el
        obtain ⟨i, j, e2, hlo, hhi⟩ := gen (a := a) r2 (fun i j => dInt 141 i fun _ i => dInt 142 j fun _ j => dStr 143 a fun n s => bound 144 j n fun j => bound 145 i j fun i => .ok (.str (Nat.sub j i) (Nat.div s (Nat.pow 256 i))) h) 146 e (fun i j e => by
          obtain ⟨k1, i1, rfl, ea⟩ := dInt_ok e
          obtain ⟨k2, j1, rfl, eb⟩ := dInt_ok ea
          exact ⟨⟨_, _, rfl⟩, _, _, rfl⟩)
        obtain ⟨k1, i1, rfl, e3⟩ := dInt_ok e2
        obtain ⟨k2, j1, rfl, e4⟩ := dInt_ok e3
        obtain ⟨n, s, rfl, e5⟩ := dStr_ok e4
        obtain ⟨jn, rfl, hjn, e6⟩ := bound_ok e5
        obtain ⟨im, rfl, him, e7⟩ := bound_ok e6
        clear e e2 e3 e4 e5 e6
        cases e7
        obtain ⟨v', q1, q2⟩ := snd_slstr (P := P) (w := w) ht hjn him r1 (lo := lo.map ρ) (hi' := hi.map ρ)
          (by rcases hlo with ⟨k, n, e1, e2⟩ | ⟨e1, e2⟩
              · cases e2; exact .inl ⟨_, e1⟩
              · cases e2; exact .inr ⟨e1, rfl⟩)
          (by rcases hhi with ⟨k, n, e1, e2⟩ | ⟨e1, e2⟩
              · cases e2; exact .inl ⟨_, e1⟩
              · cases e2; exact .inr ⟨e1, rfl⟩)
        simp only [execOp, ho]
        exact outc_val q1 (Pst.same q2 hr)
    · rename_i el ht
      split at hc
      · rename_i inf hinf
        cases hc
        intro v h' e
        cases vs with
        | nil => cases e
        | cons a r =>
          obtain ⟨x', l', el', r1, r2⟩ := rels_map hv rfl
          simp only [List.cons.injEq] at el'
          obtain ⟨rfl, rfl⟩ := el'
          obtain ⟨i, j, e2, hlo, hhi⟩ := gen (a := a) r2 (fun i j => dInt 131 i fun _ i => dInt 132 j fun _ j => dSl 133 a (fun b o _ c s => gate 139 (Nat.beq s inf.size) <| bound 134 j c fun j => bound 135 i j fun i => .ok (.slice b (Nat.add o (Nat.mul i inf.size)) (Nat.sub j i) (Nat.sub c i) inf.size) h)
              (bound 136 j 0 fun j => bound 137 i j fun _ => .ok .nils h)) 138 e (fun i j e => by
            obtain ⟨k1, i1, rfl, ea⟩ := dInt_ok e
            obtain ⟨k2, j1, rfl, eb⟩ := dInt_ok ea
            exact ⟨⟨_, _, rfl⟩, _, _, rfl⟩)
          obtain ⟨k1, i1, rfl, e3⟩ := dInt_ok e2
          obtain ⟨k2, j1, rfl, e4⟩ := dInt_ok e3
          clear e e2 e3
          rcases dSl_ok e4 with ⟨b, off, n, cc, sz, rfl, e5⟩ | ⟨rfl, e5⟩
          · obtain ⟨hg, e6⟩ := gate_ok e5
            obtain ⟨jn, rfl, hjn, e7⟩ := bound_ok e6
            obtain ⟨im, rfl, him, e8⟩ := bound_ok e7
            clear e4 e5 e6 e7
            cases e8
            have hsz := Nat.eq_of_beq_eq_true hg
            subst hsz
            obtain ⟨v', q1, q2⟩ := snd_sl (P := P) (w := w) ht hinf hjn him r1 (lo := lo.map ρ) (hi' := hi.map ρ)
              (by rcases hlo with ⟨k, n, e1, e2⟩ | ⟨e1, e2⟩
                  · cases e2; exact .inl ⟨_, e1⟩
                  · cases e2; exact .inr ⟨e1, rfl⟩)
              (by rcases hhi with ⟨k, n, e1, e2⟩ | ⟨e1, e2⟩
                  · cases e2; exact .inl ⟨_, e1⟩
                  · cases e2; exact .inr ⟨e1, rfl⟩)
            simp only [execOp, ho]
            exact outc_val q1 (Pst.same q2 hr)
          · obtain ⟨jn, rfl, hjn, e7⟩ := bound_ok e5
            obtain ⟨im, rfl, him, e8⟩ := bound_ok e7
            clear e4 e5 e7
            cases e8
            have h1 : jn = 0 := by omega
            have h2 : im = 0 := by omega
            subst h1 h2
            obtain ⟨v', q1, q2⟩ := snd_slnil (P := P) (w := w) ht hinf r1 (lo := lo.map ρ) (hi' := hi.map ρ)
              (by rcases hlo with ⟨k, n, e1, e2⟩ | ⟨e1, e2⟩
                  · cases e2; exact .inl ⟨_, e1⟩
                  · exact .inr e1)
              (by rcases hhi with ⟨k, n, e1, e2⟩ | ⟨e1, e2⟩
                  · cases e2; exact .inl ⟨_, e1⟩
                  · exact .inr e1)
            simp only [execOp, ho]
            exact outc_val q1 (Pst.same q2 hr)
      · cases hc
    · cases hc

theorem owe_lookup {t : TypeId} {m k : Operand} {ok : Bool} {c : C} {xs : List Operand} (hc : compLookup P t m k ok = some (c, xs)) (ho : o.op = .lookup t m k ok) (hr : HRel w0 φ h w) {vs : List V} (hv : VRels φ vs (xs.map ρ)) : Owed P w0 φ h nid call ρ o w c vs := by
  unfold compLookup at hc
  split at hc
  · rename_i kt et ht
    split at hc
    · rename_i e i he hi
      split at hc
      · rename_i z hz
        cases hc
        intro v h' ex
        obtain ⟨a, b, r, e1, e2⟩ := a2_ok ex
        obtain ⟨r1, r2⟩ := rel2 hv e1
        obtain ⟨hg, e3⟩ := gate_ok e2
        cases hzv : i.zero with
        | none => rw [hzv] at hz; cases hz
        | some zv =>
          rw [hzv] at hz
          obtain ⟨rfl, v', q1, q2⟩ := snd_lookup (P := P) hr ht (n := 20) (by omega) he hi hzv (absV_rel hz) r2 hg r1 e3
          simp only [execOp, ho]
          exact outc_val q1 (Pst.same q2 hr)
      · cases hc
    · cases hc
  · cases hc

theorem owe_mapupd {t : TypeId} {m k x : Operand} {c : C} {xs : List Operand} (hc : compMapupd P t m k x = some (c, xs)) (ho : o.op = .mapUpdate t m k x ∨ o.op = .insert t m k x) (hr : HRel w0 φ h w) {vs : List V} (hv : VRels φ vs (xs.map ρ)) : Owed P w0 φ h nid call ρ o w c vs := by
  unfold compMapupd at hc
  split at hc
  · rename_i kt et ht
    split at hc
    · rename_i e he
      cases hc
      intro v h' ex
      obtain ⟨a, b, d, r, e1, e2⟩ := a3_ok ex
      obtain ⟨r1, r2, r3⟩ := rel3 hv e1
      obtain ⟨hg, e3⟩ := gate_ok e2
      obtain ⟨rfl, hnx, w', q1, q2⟩ := snd_mapupd (P := P) hr ht (n := 20) (by omega) he r2 hg r1 r3 e3
      rcases ho with ho | ho <;> (simp only [execOp, ho]; exact outc_skip q1 (Pst.same' (by simp only [VRel]) (Nat.le_of_eq hnx) q2))
    · cases hc
  · cases hc

end
end Ax
end
section
namespace Ax
open Go Go.RowKit

section
variable {P : Program} {w0 : Base} {w : World} {φ : Phi} {h : H} {nid : Nat} {call : FuncId → List V → H → R1} {ρ : Operand → Value} {o : Oper}

theorem guard_const {op : BinOp} {t : TypeId} {x y : Operand} {a b : Value} (h1 : ∀ l, a ≠ .agg l) (hc : isConstO x = true ∨ isConstO y = true) : (eqGuard op t x y a b).run P w = .ok () w := by
  unfold eqGuard
  cases a <;> first
    | (cases op <;> simp; done)
    | exact absurd rfl (h1 _)
    | skip
  cases b <;> first
    | (cases op <;> simp; done)
    | skip
  rcases hc with hc | hc
  · cases x with
    | const v => cases op <;> simp
    | _ => cases hc
  · cases y with
    | const v => cases x <;> cases op <;> simp
    | _ => cases hc

theorem guard_agg {op : BinOp} {t : TypeId} {x y : Operand} {a b : Value} (h1 : P.eqGuardType P.depth t = false) (h2 : a ≠ .nilIface) : (eqGuard op t x y a b).run P w = .ok () w := by
  cases a with
  | agg l =>
    cases b with
    | agg m => exact run_eqGuard_agg w op t x y l m h1
    | _ => unfold eqGuard; cases op <;> simp
  | _ => exact guard_other (by intro l e; cases e) h2

theorem eqV_iface {a b : V} {t : Bool} (e : (eqV h .iface a b).is t) {u : Value} (hu : VRel φ a u) : ∀ l, u ≠ .agg l := by
  intro l hl
  subst hl
  cases a <;> cases b <;> simp only [eqV] at e <;> first
    | exact e.elim
    | (cases t <;> exact e.elim)
    | (simp only [VRel] at hu; cases hu; done)
    | (simp only [VRel] at hu; obtain ⟨_, hu, _⟩ := hu; cases hu)
theorem eqV_notIface {et : EqT} {a b : V} {t : Bool} (e : (eqV h et a b).is t) (he : et ≠ .iface) (hu1 : et ≠ .int) (hu2 : et ≠ .str) {u : Value} (hu : VRel φ a u) : u ≠ .nilIface := by
  intro hl
  subst hl
  cases et <;> first
    | exact absurd rfl he
    | exact absurd rfl hu1
    | exact absurd rfl hu2
    | skip
  all_goals
    cases a <;> cases b <;> simp only [eqV] at e <;> first
    | exact e.elim
    | (cases t <;> exact e.elim)
    | (simp only [VRel] at hu; cases hu; done)
    | (simp only [VRel] at hu; obtain ⟨_, _, _, _, hu⟩ := hu; cases hu; done)
    | (simp only [VRel] at hu; obtain ⟨_, _, _, _, _, _, hu, _⟩ := hu; cases hu; done)
    | (simp only [VRel] at hu; obtain ⟨_, hu, _⟩ := hu; cases hu; done)
    | (simp only [VRel] at hu; obtain ⟨_, _, hu, _⟩ := hu; cases hu; done)

theorem eqTy_kind {n : Nat} {t : TypeId} {d : TypeDesc} {et : EqT} (hd : P.underlying t = some d) (he : eqTy P n t = some et) :
    ((∀ k, d ≠ .int k) → et ≠ .int) ∧ (d ≠ .string → et ≠ .str) ∧ ((∀ ms, d ≠ .interface ms) → et ≠ .iface) ∧ ((∃ ms, d = .interface ms) → et = .iface) := by
  cases n with
  | zero => cases he
  | succ n =>
    simp only [eqTy, hd] at he
    cases d with
    | bool => cases he; simp
    | int k => cases he; simp
    | string => cases he; simp
    | pointer el =>
      simp only at he
      split at he
      · split at he
        · cases he
        · cases he; simp
      · cases he
    | slice _ => cases he; simp
    | map _ _ => cases he; simp
    | func _ _ _ => cases he; simp
    | interface _ => cases he; simp
    | struct fs =>
      simp only at he
      split at he
      · cases he
      · cases hq : eqFs P (eqTy P n) fs.toList with
        | none => rw [hq] at he; cases he
        | some l => rw [hq] at he; cases he; simp
    | _ => cases he

theorem owe_binop {op : BinOp} {t yt : TypeId} {x y : Operand} {c : C} {xs : List Operand} (hc : compBin P op t x y = some (c, xs)) (ho : o.op = .binOp op t x y yt) (hr : HRel w0 φ h w) {vs : List V} (hv : VRels φ vs (xs.map ρ)) : Owed P w0 φ h nid call ρ o w c vs := by
  unfold compBin at hc
  cases hd : P.underlying t with
  | none => rw [hd] at hc; cases hc
  | some d =>
    rw [hd] at hc
    have eqs : ∀ (g : (∀ neg : Bool, ∀ et, eqTy P 20 t = some et → ∀ a b t', VRel φ a (ρ x) → VRel φ b (ρ y) → (eqV h et a b).is t' → ((eqGuard (if neg then .neq else .eql) t x y (ρ x) (ρ y)).run P w = .ok () w)))
        (_ : ∀ k, d ≠ .int k) (_ : d ≠ .string)
        (_ : compEq P op t x y = some (c, xs)), Owed P w0 φ h nid call ρ o w c vs := by
      intro g n1 n2 hm
      unfold compEq at hm
      cases het : eqTy P 20 t with
      | none => rw [het] at hm; cases op <;> cases hm
      | some et =>
        rw [het] at hm
        obtain ⟨k1, k2, _, _⟩ := eqTy_kind hd het
        cases op <;> simp only [Option.map_some, Option.some.injEq, Prod.mk.injEq, reduceCtorEq] at hm
        · obtain ⟨rfl, rfl⟩ := hm
          exact owe_eq (neg := false) ho (n := 20) (by omega) het hr hv (k1 n1) (k2 n2) (g false et het)
        · obtain ⟨rfl, rfl⟩ := hm
          exact owe_eq (neg := true) ho (n := 20) (by omega) het hr hv (k1 n1) (k2 n2) (g true et het)
    have other : (∀ k, d ≠ .int k) → d ≠ .string → (∀ ms, d ≠ .interface ms) → (if P.eqGuardType P.depth t then none else compEq P op t x y) = some (c, xs) → Owed P w0 φ h nid call ρ o w c vs := by
      intro n1 n2 n3 hm
      by_cases hg : P.eqGuardType P.depth t = true
      · rw [if_pos hg] at hm; cases hm
      · rw [if_neg hg] at hm
        refine eqs (fun neg et het a b t' ra rb ht' => ?_) n1 n2 hm
        obtain ⟨k1, k2, k3, _⟩ := eqTy_kind hd het
        exact guard_agg (by simpa using hg) (eqV_notIface ht' (k3 n3) (k1 n1) (k2 n2) ra)
    cases d with
    | int k => cases hc; exact owe_bin ho hr hv
    | string => cases hc; exact owe_bin ho hr hv
    | interface ms =>
      simp only at hc
      by_cases hcn : (isConstO x || isConstO y) = true
      · rw [if_pos hcn] at hc
        refine eqs (fun neg et het a b t' ra rb ht' => ?_) (by simp) (by simp) hc
        obtain ⟨_, _, _, k4⟩ := eqTy_kind hd het
        have := k4 ⟨_, rfl⟩
        subst this
        exact guard_const (eqV_iface ht' ra) (by simpa using hcn)
      · rw [if_neg hcn] at hc; cases hc
    | _ => exact other (by simp) (by simp) (by simp) hc

end
end Ax
end
section
namespace Ax
open Go Go.RowKit

section
variable {P : Program} {w0 : Base} {w : World} {φ : Phi} {h : H} {nid : Nat} {call : FuncId → List V → H → R1} {ρ : Operand → Value} {o : Oper}

theorem exec_builtin {c : Call} {b : Builtin} (hcal : c.callee = .builtin b) (ho : o.op = .call c) :
    ∃ cs, (execOp ρ o).run P w = (builtin b c.argTypes o.type cs (c.args.map ρ)).run P w := by
  refine ⟨c.args.map fun | .const _ => true | _ => false, ?_⟩
  simp only [execOp, ho, resolve, hcal, invoke, Sem.run_bind, Sem.run_pure, Result.andThen_ok]
  rfl
theorem arr1 {α β : Type} {f : α → β} {x : Array α} {a : α} (h : x.toList = [a]) : x.map f = #[f a] := by
  have : x = #[a] := Array.toList_inj.1 h
  rw [this]; simp
theorem arr2 {α β : Type} {f : α → β} {x : Array α} {a b : α} (h : x.toList = [a, b]) : x.map f = #[f a, f b] := by
  have : x = #[a, b] := Array.toList_inj.1 h
  rw [this]; simp
theorem arr1' {α : Type} {x : Array α} {a : α} (h : x.toList = [a]) : x = #[a] := Array.toList_inj.1 h
theorem arr2' {α : Type} {x : Array α} {a b : α} (h : x.toList = [a, b]) : x = #[a, b] := Array.toList_inj.1 h

theorem owe_len {c : Call} {cc : C} {xs : List Operand} (hc : compLen P c.argTypes c.args = some (cc, xs)) (hcal : c.callee = .builtin .len) (ho : o.op = .call c) (hr : HRel w0 φ h w) {vs : List V} (hv : VRels φ vs (xs.map ρ)) : Owed P w0 φ h nid call ρ o w cc vs := by
  unfold compLen at hc
  split at hc
  · rename_i t a ht ha
    split at hc
    · rename_i hu
      cases hc
      intro v h' e
      obtain ⟨x, r, e1, e2⟩ := a1_ok e
      have hx := rel1 hv e1
      obtain ⟨n, b, rfl, e3⟩ := dStr_ok e2
      cases e3
      obtain ⟨cs, hex⟩ := exec_builtin (P := P) (w := w) (ρ := ρ) hcal ho
      rw [hex, arr1 ha, arr1' ht]
      simp only [VRel] at hx
      rw [hx]
      refine outc_val (v := goInt n) (w' := w) ?_ (Pst.same (by simp only [VRel]; rfl) hr)
      simp [Builtin.len_, run_underlying hu]
    · rename_i hu
      cases hc
      intro v h' e
      obtain ⟨x, r, e1, e2⟩ := a1_ok e
      have hx := rel1 hv e1
      obtain ⟨cs, hex⟩ := exec_builtin (P := P) (w := w) (ρ := ρ) hcal ho
      rw [hex, arr1 ha, arr1' ht]
      rcases dSl_ok e2 with ⟨b, off, n, cc, sz, rfl, e3⟩ | ⟨rfl, e3⟩
      · cases e3
        simp only [VRel] at hx
        obtain ⟨k, d, N, of', c', _, hx, _⟩ := hx
        rw [hx]
        refine outc_val (v := goInt n) (w' := w) ?_ (Pst.same (by simp only [VRel]; rfl) hr)
        simp [Builtin.len_, run_underlying hu]
      · cases e3
        simp only [VRel] at hx
        rw [hx]
        refine outc_val (v := goInt 0) (w' := w) ?_ (Pst.same (by simp only [VRel]; rfl) hr)
        simp [Builtin.len_, run_underlying hu]
    · rename_i hu
      cases hc
      intro v h' e
      obtain ⟨x, r, e1, e2⟩ := a1_ok e
      have hx := rel1 hv e1
      obtain ⟨cs, hex⟩ := exec_builtin (P := P) (w := w) (ρ := ρ) hcal ho
      rw [hex, arr1 ha, arr1' ht]
      rcases dMap_ok e2 with ⟨b, rfl, e3⟩ | ⟨rfl, e3⟩
      · obtain ⟨es, cl, hb, e4⟩ := dMapO_ok e3
        cases e4
        obtain ⟨kk, d, N, es', hφ, hk0, hw, hM⟩ := hr.mapAt hb
        simp only [VRel] at hx
        obtain ⟨k2, d2, N2, hφ2, hx⟩ := hx
        rw [hφ] at hφ2; cases hφ2
        rw [hx]
        refine outc_val (v := goInt es'.size) (w' := w) ?_ (Pst.same ?_ hr)
        · simp [Builtin.len_, run_underlying hu, MapKept.run_getObj_map hw]
        · simp only [VRel, lenME_eq, hM.length]; simp [goInt]
      · cases e3
        simp only [VRel] at hx
        rw [hx]
        refine outc_val (v := goInt 0) (w' := w) ?_ (Pst.same (by simp only [VRel]; rfl) hr)
        simp [Builtin.len_, run_underlying hu]
    · cases hc
  · cases hc

theorem owe_cap {c : Call} {t : TypeId} {a : Operand} {el : TypeId} (ht : c.argTypes.toList = [t]) (ha : c.args.toList = [a]) (hu : P.underlying t = some (.slice el)) (hcal : c.callee = .builtin .cap) (ho : o.op = .call c) (hr : HRel w0 φ h w) {vs : List V} (hv : VRels φ vs ([a].map ρ)) : Owed P w0 φ h nid call ρ o w .cap vs := by
  intro v h' e
  obtain ⟨x, r, e1, e2⟩ := a1_ok e
  have hx := rel1 hv e1
  obtain ⟨cs, hex⟩ := exec_builtin (P := P) (w := w) (ρ := ρ) hcal ho
  rw [hex, arr1 ha, arr1' ht]
  rcases dSl_ok e2 with ⟨b, off, n, cc, sz, rfl, e3⟩ | ⟨rfl, e3⟩
  · cases e3
  · cases e3
    simp only [VRel] at hx
    rw [hx]
    refine outc_val (v := goInt 0) (w' := w) ?_ (Pst.same (by simp only [VRel]; rfl) hr)
    simp [Builtin.cap_, run_underlying hu]

theorem owe_minmax {c : Call} {a b : Operand} (ha : c.args.toList = [a, b]) {big : Bool} (hcal : c.callee = .builtin (if big then .max else .min)) (ho : o.op = .call c) (hr : HRel w0 φ h w) {vs : List V} (hv : VRels φ vs ([a, b].map ρ)) : Owed P w0 φ h nid call ρ o w (if big then .bmax else .bmin) vs := by
  intro v h' e
  cases big with
  | false =>
    obtain ⟨x, y, r, e1, e2⟩ := a2_ok e
    obtain ⟨r1, r2⟩ := rel2 hv e1
    obtain ⟨cs, hex⟩ := exec_builtin (P := P) (w := w) (ρ := ρ) hcal ho
    rw [hex, arr2 ha]
    obtain ⟨k, m, rfl, e3⟩ := dInt_ok e2
    obtain ⟨k', m', rfl, e4⟩ := dInt_ok e3
    cases e4
    simp only [VRel] at r1 r2
    rw [r1, r2]
    refine outc_val (v := .int k (if m' < m then m' else m)) (w' := w) (by simp [Builtin.min_, Builtin.min2]) (Pst.same ?_ hr)
    simp only [VRel, ilt_eq]
    by_cases hlt : m' < m <;> simp [hlt]
  | true =>
    obtain ⟨x, y, r, e1, e2⟩ := a2_ok e
    obtain ⟨r1, r2⟩ := rel2 hv e1
    obtain ⟨cs, hex⟩ := exec_builtin (P := P) (w := w) (ρ := ρ) hcal ho
    rw [hex, arr2 ha]
    obtain ⟨k, m, rfl, e3⟩ := dInt_ok e2
    obtain ⟨k', m', rfl, e4⟩ := dInt_ok e3
    cases e4
    simp only [VRel] at r1 r2
    rw [r1, r2]
    refine outc_val (v := .int k (if m' > m then m' else m)) (w' := w) (by simp [Builtin.max_, Builtin.max2]) (Pst.same ?_ hr)
    simp only [VRel, ilt_eq]
    by_cases hlt : m < m' <;> simp [hlt]

theorem owe_append {c : Call} {cc : C} {xs : List Operand} (hc : compAppend P c.argTypes c.args = some (cc, xs)) (hcal : c.callee = .builtin .append) (ho : o.op = .call c) (hr : HRel w0 φ h w) (hn : nid < h.next) (hf : φ nid = none) {vs : List V} (hv : VRels φ vs (xs.map ρ)) : Owed P w0 φ h nid call ρ o w cc vs := by
  unfold compAppend at hc
  split at hc
  · rename_i s x a b ht ha
    split at hc
    · rename_i e dx hs hx
      split at hc
      · rename_i hdx
        split at hc
        · rename_i i hi
          split at hc
          · rename_i z hz
            split at hc
            · rename_i hzs
              cases hc
              have hxi : (∃ u, dx = .slice u) ∨ dx = .string := by
                unfold isSlStr at hdx
                cases dx <;> first
                  | exact .inl ⟨_, rfl⟩
                  | exact .inr rfl
                  | (exact absurd hdx (by simp))
              intro v h' ex
              obtain ⟨p, q, r, e1, e2⟩ := a2_ok ex
              obtain ⟨r1, r2⟩ := rel2 hv e1
              obtain ⟨cs, hex⟩ := exec_builtin (P := P) (w := w) (ρ := ρ) hcal ho
              rw [hex, arr2 ha, arr2' ht]
              have fin : ∀ {m : Nat} {news : List Value} {l : List V}, Src P w i.size m (ρ b) news → VRels φ l news → l.length = m * i.size → appendV e i.bytes nid p i.size m l h = .ok v h' →
                  Outc P ((builtin .append #[s, x] o.type cs #[ρ a, ρ b]).run P w) fun v' w' => Pst w0 φ nid h v h' v' w' := by
                intro m news l hsrc hl hlm hap
                obtain ⟨v', w', q1, q2⟩ := snd_append (P := P) (ty := o.type) hs hx hxi hi hz hzs hr hn hf r1 hsrc hl hlm hap
                exact outc_val q1 q2
              cases q <;> try (cases e2; done)
              · rename_i n s
                obtain ⟨hg, e3⟩ := gate_ok e2
                have hsz := Nat.eq_of_beq_eq_true hg
                obtain ⟨news, h1, h2⟩ := src_str (P := P) (w := w) (φ := φ) r2
                rw [← hsz] at h1
                exact fin h1 h2 (by rw [byteCells_length, hsz, Nat.mul_one]) e3
              · rename_i b' off n c' sz
                change (Bool.rec (dRow 178 (h.get b') fun r => gate 179 (Nat.ble (Nat.add off (Nat.mul n i.size)) r.n) (appendV e i.bytes nid p i.size n (r.gets (Nat.mul n i.size) off) h)) (appendV e i.bytes nid p i.size 0 [] h) (Nat.beq n 0) : R1) = _ at e2
                cases hn0 : Nat.beq n 0 with
                | true =>
                  have hn1 := Nat.eq_of_beq_eq_true hn0
                  subst hn1
                  rw [hn0] at e2
                  exact fin (src_zero (P := P) (w := w) r2 i.size) (by simp [VRels]) (by simp) e2
                | false =>
                  rw [hn0] at e2
                  obtain ⟨rr, hb, e3⟩ := dRow_ok e2
                  obtain ⟨hg, e4⟩ := gate_ok e3
                  obtain ⟨news, h1, h2⟩ := src_slice (P := P) hr hb r2 i.size (by simpa [Nat.ble_eq] using hg)
                  exact fin h1 h2 (by simp) e4
              · exact fin (src_nil (P := P) r2 i.size) (by simp [VRels]) (by simp) e2
            · cases hc
          · cases hc
        · cases hc
      · cases hc
    · cases hc
  · cases hc

end
end Ax
end
section
namespace Ax
open Go Go.RowKit

section
variable {P : Program} {w0 : Base} {w : World} {φ : Phi} {h : H} {nid : Nat} {call : FuncId → List V → H → R1} {ρ : Operand → Value} {o : Oper}

theorem copyFrom_ok (hr : HRel w0 φ h w) {size n : Nat} {s : V} {u : Value} (hs : VRel φ s u) {k : Nat → List V → R1} {x : V} {h' : H} (e : copyFrom size n s h k = .ok x h') :
    ∃ m news l, Src P w size m u news ∧ VRels φ l (news.take (Nat.min m n * size)) ∧ l.length ≤ n * size ∧ k (Nat.min m n) l = .ok x h' := by
  unfold copyFrom at e
  cases s <;> try (cases e; done)
  · rename_i n' b'
    obtain ⟨hg, e2⟩ := gate_ok e
    have hsz := Nat.eq_of_beq_eq_true hg
    subst hsz
    obtain ⟨news, h1, h2⟩ := src_str (P := P) (w := w) (φ := φ) hs
    refine ⟨n', news, _, h1, ?_, ?_, e2⟩
    · have : byteCells (Nat.min n' n) b' = (byteCells n' b').take (Nat.min n' n) := by
        rw [byteCells_eq, byteCells_eq, ← List.map_take, bytesOf_take _ _ _ (Nat.min_le_left _ _)]
      rw [this, Nat.mul_one]
      have := h2.extract 0 (Nat.min n' n)
      simpa using this
    · rw [byteCells_length, Nat.mul_one]; exact Nat.min_le_right _ _
  · rename_i b' o' n' c' sz
    obtain ⟨rr, hb, e2⟩ := dRow_ok e
    obtain ⟨hg, e3⟩ := gate_ok e2
    obtain ⟨news, h1, h2⟩ := src_slice (P := P) hr hb hs size (by simpa [Nat.ble_eq] using hg)
    refine ⟨n', news, _, h1, ?_, ?_, e3⟩
    · have := h2.extract 0 (Nat.min n' n * size)
      rw [List.drop_zero, List.drop_zero] at this
      have h3 : (rr.gets (n' * size) o').take (Nat.min n' n * size) = rr.gets (Nat.min n' n * size) o' := by
        have hle : Nat.min n' n * size ≤ n' * size := Nat.mul_le_mul_right _ (Nat.min_le_left _ _)
        apply List.ext_getElem?
        intro j
        rw [List.getElem?_take]
        by_cases hj : j < Nat.min n' n * size
        · rw [if_pos hj, Row.gets_get _ _ _ _ hj, Row.gets_get _ _ _ _ (by omega)]
        · rw [if_neg hj, List.getElem?_eq_none (by simpa using hj)]
      rw [h3] at this
      exact this
    · rw [show (rr.gets (Nat.mul (Nat.min n' n) size) o').length = Nat.min n' n * size by simp]
      exact Nat.mul_le_mul_right _ (Nat.min_le_right _ _)
  · exact ⟨0, [], [], src_nil (P := P) hs size, by simp [VRels], by simp, by simpa using e⟩

theorem owe_copy {c : Call} {cc : C} {xs : List Operand} (hc : compCopy P c.argTypes c.args = some (cc, xs)) (hcal : c.callee = .builtin .copy) (ho : o.op = .call c) (hr : HRel w0 φ h w) {vs : List V} (hv : VRels φ vs (xs.map ρ)) : Owed P w0 φ h nid call ρ o w cc vs := by
  unfold compCopy at hc
  split at hc
  · rename_i s x a b ht ha
    split at hc
    · rename_i e hs
      split at hc
      · rename_i i hi
        cases hc
        intro v h' ex
        obtain ⟨p, q, r, e1, e2⟩ := a2_ok ex
        obtain ⟨r1, r2⟩ := rel2 hv e1
        obtain ⟨cs, hex⟩ := exec_builtin (P := P) (w := w) (ρ := ρ) hcal ho
        rw [hex, arr2 ha, arr2' ht]
        rcases dSl_ok e2 with ⟨bb, off, n, cc, sz, rfl, e3⟩ | ⟨rfl, e3⟩
        · obtain ⟨hg, e4⟩ := gate_ok e3
          have hsz := Nat.eq_of_beq_eq_true hg
          subst hsz
          obtain ⟨m, news, l, k1, k2, k3, e5⟩ := copyFrom_ok (P := P) hr r2 e4
          obtain ⟨rr, hb, e6⟩ := dRow_ok e5
          obtain ⟨hg2, e7⟩ := gate_ok e6
          clear ex e2 e3 e4 e5 e6
          cases e7
          rw [bandn, band, band, leng_eq] at hg2
          obtain ⟨g1, g2, g3, g4⟩ := hg2
          obtain ⟨w', q1, q2⟩ := snd_copy (P := P) (xT := x) (ty := o.type) hs hi hr hb r1 k1 k2 g4 g1 (by simpa [Nat.ble_eq] using g3) (by simpa [Nat.ble_eq] using g2) k3
          exact outc_val q1 (Pst.same' (by simp only [VRel]; rfl) (Nat.le_refl _) q2)
        · obtain ⟨m, news, l, k1, k2, k3, e5⟩ := copyFrom_ok (P := P) hr r2 e3
          cases e5
          simp only [VRel] at r1
          obtain ⟨s1, s2⟩ := k1 w rfl
          have s3 := s2 0 (Nat.zero_le _)
          rw [r1]
          refine outc_val (v := goInt 0) (w' := w) ?_ (Pst.same (by simp only [VRel]; rfl) hr)
          simp [Builtin.copy_, run_underlying hs, s1, r_size _ hi, s3]
      · cases hc
    · cases hc
  · cases hc

theorem owe_sldata {c : Call} {a : Operand} (ha : c.args.toList = [a]) (hcal : c.callee = .builtin .unsafeSliceData) (ho : o.op = .call c) (hr : HRel w0 φ h w) {vs : List V} (hv : VRels φ vs ([a].map ρ)) : Owed P w0 φ h nid call ρ o w .sldata vs := by
  intro v h' e
  obtain ⟨x, r, e1, e2⟩ := a1_ok e
  have hx := rel1 hv e1
  obtain ⟨cs, hex⟩ := exec_builtin (P := P) (w := w) (ρ := ρ) hcal ho
  rw [hex, arr1 ha]
  rcases dSl_ok e2 with ⟨b, off, n, cc, sz, rfl, e3⟩ | ⟨rfl, e3⟩
  · obtain ⟨hg, e4⟩ := gate_ok e3
    cases e4
    have hg' : 1 ≤ cc := by simpa [Nat.ble_eq] using hg
    simp only [VRel] at hx
    obtain ⟨k, d, N, of', c', hφ, hx, g1, g2, g3, g4⟩ := hx
    rw [hx]
    have hc' : c' ≠ 0 := by omega
    have hof : of' = off + d := by
      rcases g3 with g3 | g3
      · exact absurd g3 hc'
      · exact g3
    subst hof
    exact outc_val (Go.Lib.run_unsafeSliceData_row w c.argTypes o.type ⟨k, off + d, none⟩ n c' hc') (Pst.same (by simp only [VRel]; exact ⟨_, _, _, hφ, rfl⟩) hr)
  · cases e3
    simp only [VRel] at hx
    rw [hx]
    exact outc_val (Go.Lib.run_unsafeSliceData_nil w c.argTypes o.type 0 0) (Pst.same (by simp only [VRel]) hr)

theorem owe_ustr {c : Call} {pt it el : TypeId} {a b : Operand} (ht : c.argTypes.toList = [pt, it]) (ha : c.args.toList = [a, b]) (hp : P.underlying pt = some (.pointer el)) (hel : P.cellsOf el = 1)
    (hcal : c.callee = .builtin .unsafeString) (ho : o.op = .call c) (hr : HRel w0 φ h w) {vs : List V} (hv : VRels φ vs ([a, b].map ρ)) : Owed P w0 φ h nid call ρ o w (.ustr el) vs := by
  intro v h' e
  obtain ⟨p, q, r, e1, e2⟩ := a2_ok e
  obtain ⟨r1, r2⟩ := rel2 hv e1
  obtain ⟨cs, hex⟩ := exec_builtin (P := P) (w := w) (ρ := ρ) hcal ho
  rw [hex, arr2 ha, arr2' ht]
  obtain ⟨k, m, rfl, e3⟩ := dInt_ok e2
  simp only [VRel] at r2
  rw [r2]
  have hmax : IntKind.i64.max = 9223372036854775807 := rfl
  cases m with
  | negSucc m => cases e3
  | ofNat n =>
    change (Bool.rec _ _ (Nat.beq n 0) : R1) = _ at e3
    cases hn : Nat.beq n 0 with
    | true =>
      rw [hn] at e3
      have h0 := Nat.eq_of_beq_eq_true hn
      subst h0
      cases p <;> try (cases e3; done)
      · cases e3
        simp only [VRel] at r1
        obtain ⟨kk, d, N, hφ, hx⟩ := r1
        rw [hx]
        refine outc_val (v := .string .empty) (w' := w) ?_ (Pst.same (by simp only [VRel]; rfl) hr)
        refine (congrArg (fun s => Sem.run P s w) (show Builtin.unsafeString_ _ _ #[_, .int _ _] = asInt (.int k _) >>= _ from rfl)).trans ?_
        simp [asInt, asIntOf, hmax]
      · cases e3
        simp only [VRel] at r1
        rw [r1]
        refine outc_val (v := .string .empty) (w' := w) ?_ (Pst.same (by simp only [VRel]; rfl) hr)
        refine (congrArg (fun s => Sem.run P s w) (show Builtin.unsafeString_ _ _ #[_, .int _ _] = asInt (.int k _) >>= _ from rfl)).trans ?_
        simp [asInt, asIntOf, hmax]
    | false =>
      rw [hn] at e3
      have hn0 : n ≠ 0 := fun h => by subst h; cases hn
      obtain ⟨bb, off, rfl, e4⟩ := dPtr_ok e3
      obtain ⟨rr, hb, e5⟩ := dRow_ok e4
      obtain ⟨hg, e6⟩ := gate_ok e5
      rw [bandn, band, band, band, bnot_eq] at hg
      obtain ⟨g1, g2, g3, g4, g5⟩ := hg
      obtain ⟨s, k1, h2⟩ := rowBytes_ok e6
      clear e e2 e3 e4 e5 e6
      cases k1
      simp only [VRel] at r1
      obtain ⟨kk, d, N, hφ, hx⟩ := r1
      rw [hx]
      obtain ⟨k', d', N', cells, el', fr, q1, qk, q3, q4⟩ := hr.row hb
      rw [hφ] at q1
      cases q1
      have hroom : off + n ≤ rr.n := by simpa [Nat.ble_eq] using g2
      have hst : rr.st = false := by simpa using g3
      have hel' : el' = el := q4.elem.trans (Nat.eq_of_beq_eq_true g4)
      have hn63 : n ≤ 9223372036854775807 := by simpa [Nat.ble_eq] using g5
      have hcell : ∀ j x, (bytesOf n s)[j]? = some x → w.cell? ((⟨kk, off + d, none⟩ : Addr).add j) = some (.int .u8 x.toNat) := fun j x hj => by
        have hj' : j < n := by
          have := (List.getElem?_eq_some_iff.1 hj).1
          simpa using this
        obtain ⟨m, a1, a2, a3⟩ := h2 j hj'
        obtain ⟨v', b1, b2⟩ := hr.cell hb hφ (i := off + j) (by omega)
        rw [a1] at b2
        simp only [VRel] at b2
        subst b2
        rw [addr_add, show off + d + j = d + (off + j) by omega, b1]
        rw [hj, Option.some.injEq] at a3
        rw [a3]
        congr 2
        simp; omega
      have hlb := Go.Lib.run_loadBytes (P := P) w (bytesOf n s) ⟨kk, off + d, none⟩ .empty hcell
      rw [bytesOf_length] at hlb
      subst hel'
      have hlies : liesAt P P.depth el' (cells.size / P.cellsOf el') (off + d) el' n = true :=
        liesAt_self P (by rw [hel]; omega) (by rw [hel]; exact Nat.mod_one _) (by rw [hel, Nat.div_one, Nat.div_one]; have := q4.size; omega)
      refine outc_val (v := .string (strOf n s)) (w' := w.freeze ⟨kk, off + d, none⟩ n) ?_ (Pst.same' (by simp only [VRel]) (Nat.le_refl _) ?_)
      · have h1 : ¬ (9223372036854775807 : Int) < (n : Int) := by omega
        have h2 : ¬ (n : Int) < 0 := by omega
        refine (congrArg (fun s => Sem.run P s w) (show Builtin.unsafeString_ _ _ #[_, .int _ _] = asInt (.int k _) >>= _ from rfl)).trans ?_
        simp [asInt, asIntOf, hmax, h1, h2, hn0, r_variablesAt q3 hlies, elemOf, run_underlying hp, hlb]
        rfl
      · have hfz : w.freeze ⟨kk, off + d, none⟩ n = { w with heap := w.heap.setIfInBounds kk (.cells cells el' (if fr.1 == fr.2 then (off + d, off + d + n) else (min fr.1 (off + d), max fr.2 (off + d + n)))) } := by
          unfold World.freeze
          rw [if_neg hn0]
          congr 1
          apply Array.ext_getElem?
          intro j
          rw [Array.getElem?_modify, Array.getElem?_setIfInBounds]
          by_cases hj : kk = j
          · subst hj
            rw [if_pos rfl, if_pos rfl, q3]
            have hlt : kk < w.heap.size := (Array.getElem?_eq_some_iff.1 q3).1
            rw [if_pos hlt]
            rfl
          · rw [if_neg hj, if_neg hj]
        rw [hfz]
        refine hr.setObj (none_ne hb) hφ (qk (by simpa using g1)) ⟨.inl (qk (by simpa using g1)), cells, el', _, rfl, q4.ok, q4.elem, q4.full, q4.size, q4.cell, fun hro => ?_, q4.exact, fun _ h0 => ?_⟩
        · left
          have hthaw := q4.thaw g1
          rw [hst] at hthaw
          have h3 : fr.2 ≤ d + rr.fz := by simpa using hthaw
          show (if fr.1 == fr.2 then _ else _ : Nat × Nat).2 ≤ d + Nat.max rr.fz (off + n)
          have hm1 : rr.fz ≤ Nat.max rr.fz (off + n) := Nat.le_max_left _ _
          have hm2 : off + n ≤ Nat.max rr.fz (off + n) := Nat.le_max_right _ _
          split
          · show off + d + n ≤ _
            omega
          · show max fr.2 (off + d + n) ≤ _
            omega
        · have hm2 : off + n ≤ Nat.max rr.fz (off + n) := Nat.le_max_right _ _
          have h0' : Nat.max rr.fz (off + n) = 0 := h0
          omega

end
end Ax
end
section
namespace Ax
open Go Go.RowKit

section
variable {P : Program} {w0 : Base} {w : World} {φ : Phi} {h : H} {nid : Nat} {call : FuncId → List V → H → R1} {ρ : Operand → Value} {o : Oper}

theorem fplaces_inv {fs : Array Field} : ∀ {l : List (Nat × Operand)} {ps : List (Nat × Nat)}, fplaces P fs l = some ps →
    (l.map (·.1)).length = ps.length ∧ ∀ (j i : Nat), (l.map (·.1))[j]? = some i → (fs[i]?).map (fun f => (f.offset, P.cellsOf f.type)) = ps[j]? := by
  intro l
  induction l with
  | nil => intro ps h; cases h; exact ⟨rfl, by simp⟩
  | cons p l ih =>
    intro ps h
    simp only [fplaces] at h
    split at h
    · rename_i f r hf hr
      cases h
      obtain ⟨a, b⟩ := ih hr
      refine ⟨by simpa using a, fun j i hj => ?_⟩
      cases j with
      | zero => simp at hj; subst hj; simp [hf]
      | succ j => simpa using b j i (by simpa using hj)
    · cases h

theorem zip_parts (parts : Array (Nat × Operand)) : parts.map (fun (i, x) => (i, ρ x)) = ((parts.toList.map (·.1)).zip ((parts.toList.map (·.2)).map ρ)).toArray := by
  apply Array.toList_inj.1
  rw [Array.toList_map]
  show _ = (parts.toList.map (·.1)).zip ((parts.toList.map (·.2)).map ρ)
  induction parts.toList with
  | nil => rfl
  | cons p l ih => simp [ih]

theorem owe_build {t : TypeId} {parts : Array (Nat × Operand)} {c : C} {xs : List Operand} (hc : compBuild P t parts = some (c, xs)) (ho : o.op = .build t parts) (hr : HRel w0 φ h w) {vs : List V} (hv : VRels φ vs (xs.map ρ)) : Owed P w0 φ h nid call ρ o w c vs := by
  unfold compBuild at hc
  split at hc
  · rename_i fs z hu hz
    split at hc
    · rename_i hall
      split at hc
      · rename_i ps hps
        cases hc
        obtain ⟨i, zv, h1, h2, h3⟩ := zcells_inv (φ := φ) hz
        obtain ⟨p1, p2⟩ := fplaces_inv hps
        intro v h' e
        have hf : ∀ f ∈ fs.toList, ∃ i, P.info? f.type = some i := fun f hf => by
          have := List.all_eq_true.1 hall f hf
          exact Option.isSome_iff_exists.1 this
        obtain ⟨rfl, v', q1, q2⟩ := snd_build_struct (P := P) (w := w) hu hf h1 h2 h3 p1 p2 hv e
        simp only [execOp, ho]
        rw [← zip_parts] at q1
        exact outc_val q1 (Pst.same q2 hr)
      · cases hc
    · cases hc
  · rename_i n el z hu hz
    split at hc
    · rename_i iel hie
      cases hc
      obtain ⟨i, zv, h1, h2, h3⟩ := zcells_inv (φ := φ) hz
      intro v h' e
      obtain ⟨rfl, v', q1, q2⟩ := snd_build_array (P := P) (w := w) hu h1 hie h2 h3 (idx := parts.toList.map (·.1)) (by simp) (fun j i hj => by
        rw [List.getElem?_map] at hj ⊢
        cases hp : parts.toList[j]? with
        | none => rw [hp] at hj; cases hj
        | some p => rw [hp] at hj; simp at hj; subst hj; simp) hv e
      simp only [execOp, ho]
      rw [← zip_parts] at q1
      exact outc_val q1 (Pst.same q2 hr)
    · cases hc
  · cases hc

theorem owe_bslice {t : TypeId} {len : Nat} {parts : Array (Nat × Operand)} {c : C} {xs : List Operand} (hc : compBslice P t len parts = some (c, xs)) (ho : o.op = .buildSlice t len parts) (hr : HRel w0 φ h w) (hn : nid < h.next) (hf : φ nid = none) {vs : List V} (hv : VRels φ vs (xs.map ρ)) : Owed P w0 φ h nid call ρ o w c vs := by
  unfold compBslice at hc
  split at hc
  · rename_i el hu
    split at hc
    · rename_i i z hi hz
      split at hc
      · rename_i hsz
        cases hc
        obtain ⟨i', zv, h1, h2, h3⟩ := zcells_inv (φ := φ) hz
        rw [hi] at h1
        cases h1
        intro v h' e
        obtain ⟨hg, e2⟩ := gate_ok e
        have hzl := Nat.eq_of_beq_eq_true hg
        by_cases h0 : len * i.size = 0
        · obtain ⟨v', w', q1, q2⟩ := snd_bslice (P := P) (w := w) (zc := #[]) hu hi (.inl ⟨h0, rfl⟩) hsz.1 (by rw [if_pos h0, h0]; simp [VRels]) (idx := parts.toList.map (·.1)) (by simp) (fun j i hj => by
            rw [List.getElem?_map] at hj ⊢
            cases hp : parts.toList[j]? with
            | none => rw [hp] at hj; cases hj
            | some p => rw [hp] at hj; simp at hj; subst hj; simp) hr hn hf hv hzl e2
          simp only [execOp, ho]
          rw [← zip_parts] at q1
          exact outc_val q1 q2
        · obtain ⟨v', w', q1, q2⟩ := snd_bslice (P := P) (w := w) (zc := zv.cells) hu hi (.inr ⟨h0, zv, h2, rfl⟩) hsz.1 (by rw [if_neg h0]; exact flat_rel h3 len hsz.2) (idx := parts.toList.map (·.1)) (by simp) (fun j i hj => by
            rw [List.getElem?_map] at hj ⊢
            cases hp : parts.toList[j]? with
            | none => rw [hp] at hj; cases hj
            | some p => rw [hp] at hj; simp at hj; subst hj; simp) hr hn hf hv hzl e2
          simp only [execOp, ho]
          rw [← zip_parts] at q1
          exact outc_val q1 q2
      · cases hc
    · cases hc
  · cases hc

theorem owe_cl {c : Call} {cc : C} {xs : List Operand} (hc : compCall P c = some (cc, xs)) (ho : o.op = .call c) (hr : HRel w0 φ h w) (hn : nid < h.next) (hf : φ nid = none) (hcall : CallOK P w0 call) {vs : List V} (hv : VRels φ vs (xs.map ρ)) : Owed P w0 φ h nid call ρ o w cc vs := by
  unfold compCall at hc
  split at hc
  · rename_i f hcal
    cases hc
    exact owe_call hcal ho hr hcall hv
  · rename_i hcal; exact owe_append hc hcal ho hr hn hf hv
  · rename_i hcal; exact owe_copy hc hcal ho hr hv
  · rename_i hcal; exact owe_len hc hcal ho hr hv
  · rename_i hcal
    split at hc
    · rename_i t a ht ha
      split at hc
      · rename_i el hu
        cases hc
        exact owe_cap ht ha hu hcal ho hr hv
      · cases hc
    · cases hc
  · rename_i hcal
    split at hc
    · rename_i a ha
      cases hc
      exact owe_sldata ha hcal ho hr hv
    · cases hc
  · rename_i hcal
    split at hc
    · rename_i t t2 a b ht ha
      split at hc
      · rename_i e hu
        split at hc
        · rename_i hu8
          cases hc
          have h1 : P.cellsOf e = 1 := by
            have := (Bool.and_eq_true_iff.1 hu8).2
            exact Nat.eq_of_beq_eq_true this
          exact owe_ustr ht ha hu h1 hcal ho hr hv
        · cases hc
      · cases hc
    · cases hc
  · rename_i hcal
    split at hc
    · rename_i a b ha
      cases hc
      exact owe_minmax (big := false) ha hcal ho hr hv
    · cases hc
  · rename_i hcal
    split at hc
    · rename_i a b ha
      cases hc
      exact owe_minmax (big := true) ha hcal ho hr hv
    · cases hc
  · cases hc

/-- A constant operand is itself. -/
def Consts (ρ : Operand → Value) : Prop := ∀ v, ρ (.const v) = v

theorem exC_sound {c : C} {xs : List Operand} (hc : compOp P o.op = some (c, xs)) (hρ : Consts ρ) (hr : HRel w0 φ h w) (hn : nid < h.next) (hf : φ nid = none) (hcall : CallOK P w0 call) {vs : List V} (hv : VRels φ vs (xs.map ρ)) : Owed P w0 φ h nid call ρ o w c vs := by
  unfold compOp at hc
  split at hc
  · rename_i x ho; cases hc; exact owe_mov (.inl ho) hr hv
  · rename_i x ho; cases hc; exact owe_mov (.inr ho) hr hv
  · rename_i c a b ho; cases hc; exact owe_pick ho hr hv
  · rename_i el ho
    split at hc
    · rename_i i hi
      split at hc
      · rename_i z hz
        cases hc
        have hz' : ρ (.const z) = z := hρ z
        simp only [List.map_cons, List.map_nil, hz'] at hv
        exact owe_alloc hi hz ho hr hn hf hv
      · cases hc
    · cases hc
  · rename_i el x ho; cases hc; exact owe_box ho hr hn hf hv
  · rename_i t parts ho; exact owe_build hc ho hr hv
  · rename_i t len parts ho; exact owe_bslice hc ho hr hn hf hv
  · rename_i t a ho
    split at hc
    · rename_i n ht; cases hc; exact owe_load (b := true) ho ht hr hv
    · rename_i n ht; cases hc; exact owe_load (b := false) ho ht hr hv
    · cases hc
  · rename_i t a x ho
    split at hc
    · rename_i i hi; cases hc; exact owe_store ho hi hr hv
    · cases hc
  · rename_i x ho; cases hc; exact owe_nilck ho hr hv
  · rename_i op t x y yt ho; exact owe_binop hc ho hr hv
  · rename_i t x ho; cases hc; exact owe_not ho hr hv
  · rename_i t x ho; cases hc; exact owe_neg ho hr hv
  · rename_i s d x ho; exact owe_conv ho hc hr hn hf hv
  · rename_i t x ho
    split at hc
    · cases hc
    · rename_i d hd hni
      cases hc
      exact owe_mki hni (fun ms h => hd ms h) ho hr hv
    · cases hc
  · rename_i f first cap ho
    split at hc
    · rename_i h0; cases hc; exact owe_mkf h0 ho hr hv
    · cases hc
  · rename_i t ho; cases hc; exact owe_mkmap ho hr hn hf
  · rename_i t l c ho; exact owe_mksl hc ho hr hn hf hv
  · rename_i t x lo hi mx ho; exact owe_slice hc ho hr hv
  · rename_i s x f ho; exact owe_fieldA hc ho hr hv
  · rename_i s x f ho; exact owe_field hc ho hr hv
  · rename_i t x i ho; exact owe_indexA hc ho hr hv
  · rename_i t x i ho; exact owe_index hc ho hr hv
  · rename_i t m k ok ho; exact owe_lookup hc ho hr hv
  · rename_i t m k x ho; exact owe_mapupd hc (.inl ho) hr hv
  · rename_i t m k x ho; exact owe_mapupd hc (.inr ho) hr hv
  · rename_i t x ho
    split at hc
    · rename_i ht; cases hc; exact owe_range ht ho hr hn hf hv
    · cases hc
  · rename_i it ho; cases hc; exact owe_next ho hr hv
  · rename_i x i ho; cases hc; exact owe_extract ho hr hv
  · rename_i c ho; exact owe_cl hc ho hr hn hf hcall hv
  · cases hc

end
end Ax
end
section
namespace Ax
open Go Go.RowKit

/-- The frame's variables. -/
structure FRel (φ : Phi) (n : Nat) (f : Fr) (tm : Array Value) : Prop where
  full : f.Full 8
  size : n ≤ tm.size
  get : ∀ t, t < 256 → VRel φ (f.get t) (tm.getD t undef)

theorem FRel.mono {φ φ' : Phi} (h : Ext φ φ') {n : Nat} {f : Fr} {tm : Array Value} (r : FRel φ n f tm) : FRel φ' n f tm :=
  ⟨r.full, r.size, fun t ht => (r.get t ht).mono h⟩

theorem FRel.put {φ : Phi} {n : Nat} {f : Fr} {a : Act} (r : FRel φ n f a.tmps) {d : Option Tmp} (hd : ∀ t, d = some t → t < n ∧ t < 256) {x : V} {v : Value} (hx : VRel φ x v) : FRel φ n (putO d f x) (a.put d v).tmps := by
  cases d with
  | none => exact r
  | some t =>
    obtain ⟨h1, h2⟩ := hd t rfl
    refine ⟨Fr.full_put _ _ _ _ r.full, by simpa [Act.put] using r.size, fun s hs => ?_⟩
    show VRel φ ((f.put t x).get s) _
    rw [Fr.get_put 8 _ _ _ _ r.full h2 hs]
    have hsz := r.size
    show VRel φ _ ((a.tmps.setIfInBounds t v).getD s undef)
    by_cases e : t = s
    · subst e
      rw [if_pos rfl]
      have hlt : t < a.tmps.size := Nat.lt_of_lt_of_le h1 hsz
      simp [hlt]
      exact hx
    · rw [if_neg e]
      have := r.get s hs
      simpa [Array.getElem?_setIfInBounds_ne e] using this

theorem opd_rel {φ : Phi} {n : Nat} {f : Fr} {a : Act} (r : FRel φ n f a.tmps) {o : Operand} {x : Opd} (h : compOpd o = some x) : VRel φ (evO x f) (a.eval o) := by
  cases o with
  | tmp t =>
    simp only [compOpd] at h
    split at h
    · rename_i ht; cases h; exact r.get t ht
    · cases h
  | const v =>
    simp only [compOpd] at h
    cases hv : absV v with
    | none => rw [hv] at h; cases h
    | some y => rw [hv] at h; cases h; exact absV_rel hv
  | func g =>
    cases h
    show VRel φ (.func g [] []) (.func (.func g) #[] #[])
    simp only [VRel]
    exact ⟨#[], #[], rfl, by simp [VRels], by simp [VRels]⟩
  | global g => cases h

theorem opds_rel {φ : Phi} {n : Nat} {f : Fr} {a : Act} (r : FRel φ n f a.tmps) : ∀ {l : List Operand} {xs : List Opd}, compOpds l = some xs → VRels φ (evs xs f) (l.map a.eval)
  | [], xs, h => by cases h; simp [VRels, evs]
  | o :: l, xs, h => by
    simp only [compOpds] at h
    split at h
    · rename_i x ys h1 h2
      cases h
      show VRels φ (evO x f :: evs ys f) _
      simp only [List.map_cons, VRels]
      exact ⟨_, _, rfl, opd_rel r h1, opds_rel r h2⟩
    · cases h

/-- Is the operation wanted: the abstract answer. -/
theorem wanted_rel {φ : Phi} {n : Nat} {f : Fr} {a : Act} (r : FRel φ n f a.tmps) {ops : Array Oper} {o : Oper} {g : Option (Nat × Bool)} (hg : compG ops o.guard = some g) {yes no : R} {x : X} {f' : Fr} {h' : H}
    (e : wantO g f yes no = .ok x f' h') : (Region.wanted o (yielded ops a.tmps) = true ∧ yes = .ok x f' h') ∨ (Region.wanted o (yielded ops a.tmps) = false ∧ no = .ok x f' h') := by
  unfold Region.wanted
  cases ho : o.guard with
  | none =>
    rw [ho] at hg
    cases hg
    exact .inl ⟨rfl, e⟩
  | some p =>
    obtain ⟨j, want⟩ := p
    rw [ho] at hg
    simp only [compG] at hg
    split at hg
    · rename_i oj hj
      split at hg
      · rename_i t ht
        split at hg
        · rename_i hlt
          cases hg
          have hy : yielded ops a.tmps j = match a.tmps.getD t undef with
              | .bool b => some b
              | _ => none := by
            unfold yielded
            rw [hj]
            simp only [Option.bind_some, ht]
            cases hat : a.tmps[t]? with
            | none => simp [hat, undef]
            | some v => simp [hat]; cases v <;> rfl
          have hr := r.get t hlt
          simp only [hy]
          change wantV want (f.get t) yes no = _ at e
          cases hf : f.get t with
          | undef => rw [hf] at e; cases e
          | bool b =>
            rw [hf] at e hr
            simp only [VRel] at hr
            rw [hr]
            cases b <;> cases want <;> first
              | exact .inl ⟨rfl, e⟩
              | exact .inr ⟨rfl, e⟩
          | _ =>
            rw [hf] at e hr
            refine .inr ⟨?_, e⟩
            simp only [VRel] at hr
            first
              | (rw [hr]; cases want <;> rfl)
              | (obtain ⟨_, _, _, _, hr⟩ := hr; rw [hr]; cases want <;> rfl)
              | (obtain ⟨_, _, _, _, _, _, hr, _⟩ := hr; rw [hr]; cases want <;> rfl)
              | (obtain ⟨_, _, hr, _⟩ := hr; rw [hr]; cases want <;> rfl)
              | (obtain ⟨_, hr, _⟩ := hr; rw [hr]; cases want <;> rfl)
        · cases hg
      · cases hg
    · cases hg

/-- Calls that are deferred, of functions that do nothing where nobody panics. -/
def DExt (quiet : Nat → Bool) (ds ds' : List Deferred) : Prop := ∃ l, ds' = l ++ ds ∧ ∀ d ∈ l, ∃ g cap args, d = { target := .fn (.func g) cap, args := args } ∧ quiet g = true
theorem DExt.refl (quiet : Nat → Bool) (ds : List Deferred) : DExt quiet ds ds := ⟨[], rfl, by simp⟩
theorem DExt.trans {quiet : Nat → Bool} {a b c : List Deferred} (h : DExt quiet a b) (k : DExt quiet b c) : DExt quiet a c := by
  obtain ⟨l, rfl, h⟩ := h
  obtain ⟨m, rfl, k⟩ := k
  refine ⟨m ++ l, by rw [List.append_assoc], fun d hd => ?_⟩
  rcases List.mem_append.1 hd with hd | hd
  · exact k d hd
  · exact h d hd

/-- What stands behind a piece of code. -/
def Beh (w0 : Base) (quiet : Nat → Bool) (φ : Phi) (n : Nat) (nx : Nat) (f' : Fr) (h' : H) (ds : List Deferred) (a' : Act) (w' : World) : Prop :=
  DExt quiet ds a'.defers ∧ ∃ φ', Ext φ φ' ∧ (∀ b, b < nx → φ' b = φ b) ∧ nx ≤ h'.next ∧ FRel φ' n f' a'.tmps ∧ HRel w0 φ' h' w'
theorem Beh.trans {w0 : Base} {quiet : Nat → Bool} {φ φ' : Phi} {n nx nx' : Nat} {f' : Fr} {h' : H} {ds ds' : List Deferred} {a' : Act} {w' : World} (hd : DExt quiet ds ds') (hx : Ext φ φ') (hf : ∀ b, b < nx → φ' b = φ b) (hn : nx ≤ nx') (b : Beh w0 quiet φ' n nx' f' h' ds' a' w') : Beh w0 quiet φ n nx f' h' ds a' w' := by
  obtain ⟨d, φ'', e1, e2, e3, e4, e5⟩ := b
  exact ⟨hd.trans d, φ'', hx.trans e1, fun b hb => (e2 b (by omega)).trans (hf b hb), by omega, e4, e5⟩

theorem consts_eval (a : Act) : Consts a.eval := fun _ => rfl
@[simp] theorem put_defers (a : Act) (d : Option Tmp) (v : Value) : (a.put d v).defers = a.defers := by cases d <;> rfl

section
variable {P : Program} {w0 : Base} {call : FuncId → List V → H → R1}

theorem compI_inv {ops : Array Oper} {n : Nat} {o : Oper} {i : I} (h : compI P n ops o = some i) : ∃ c ys g, i = .mk c o.dst ys g ∧ ((∃ xs, compOp P o.op = some (c, xs) ∧ compOpds xs = some ys) ∨ c = .stop) ∧ compG ops o.guard = some g ∧ ∀ t, o.dst = some t → t < n ∧ t < 256 := by
  unfold compI at h
  split at h
  · rename_i g h2
    split at h
    · rename_i h3
      have hd : ∀ t, o.dst = some t → t < n ∧ t < 256 := fun t ht => by
        rw [ht, dstOk] at h3
        have := Bool.and_eq_true_iff.1 h3
        exact ⟨by simpa [Nat.blt_eq] using this.1, by simpa [Nat.blt_eq] using this.2⟩
      split at h
      · rename_i c xs hc
        split at h
        · rename_i ys h1
          cases h
          exact ⟨c, ys, g, rfl, .inl ⟨xs, hc, h1⟩, h2, hd⟩
        · cases h
          exact ⟨.stop, [], g, rfl, .inr rfl, h2, hd⟩
      · cases h
        exact ⟨.stop, [], g, rfl, .inr rfl, h2, hd⟩
    · cases h
  · cases h

/-- One operation, and what comes behind. -/
theorem one_snd {n : Nat} {o : Oper} {c : C} {xs : List Operand} {ys : List Opd} (hc : compOp P o.op = some (c, xs)) (hy : compOpds xs = some ys) (hd : ∀ t, o.dst = some t → t < n ∧ t < 256)
    (hcall : CallOK P w0 call) {φ : Phi} {f : Fr} {h : H} {w : World} {a : Act} (hf : FRel φ n f a.tmps) (hr : HRel w0 φ h w) {nid : Nat} (hn : nid < h.next) (hfree : φ nid = none) {v : V} {h' : H}
    (e : exC call c nid (evs ys f) h = .ok v h') {next : Act → World → Prop} {Q : Exit → Act → World → Prop}
    (k : ∀ φ' v' w', Ext φ φ' → (∀ b, b < h.next → b ≠ nid → φ' b = φ b) → h.next ≤ h'.next → FRel φ' n (putO o.dst f v) (a.put o.dst v').tmps → HRel w0 φ' h' w' → next (a.put o.dst v') w') :
    o.wp P a w next Q := by
  have := exC_sound (P := P) (o := o) (ρ := a.eval) hc (consts_eval a) hr hn hfree hcall (opds_rel hf hy) v h' e
  refine Outc.upon this fun v' w' ⟨φ', e1, e2, e3, e4, e5⟩ => ?_
  exact k φ' v' w' e1 e2 e3 ((hf.mono e1).put hd e4) e5

theorem wantO_ok {g : Option (Nat × Bool)} {f : Fr} {yes no : R} {x : X} {f' : Fr} {h' : H} (e : wantO g f yes no = .ok x f' h') : yes = .ok x f' h' ∨ no = .ok x f' h' := by
  cases g with
  | none => exact .inl e
  | some p =>
    obtain ⟨t, want⟩ := p
    change wantV want (f.get t) yes no = _ at e
    cases hf : f.get t with
    | undef => rw [hf] at e; cases e
    | bool b =>
      rw [hf] at e
      cases want <;> cases b <;> first
        | exact .inl e
        | exact .inr e
    | _ => rw [hf] at e; exact .inr e

theorem insl_norm {quiet : Nat → Bool} {base : Nat} : ∀ (is : List I) {i : Nat} {f : Fr} {h : H} {x : X} {f' : Fr} {h' : H}, insl quiet call base is i f h = .ok x f' h' → x = .norm
  | [], i, f, h, x, f', h', e => by cases e; rfl
  | .mk c d xs g :: is, i, f, h, x, f', h', e => by
    rcases wantO_ok e with e | e
    · cases hex : exC call c (Nat.add base i) (evs xs f) h with
      | bad m => rw [hex] at e; cases e
      | ok v h1 => rw [hex] at e; exact insl_norm is e
    · exact insl_norm is e
  | .dfr d y :: is, i, f, h, x, f', h', e => by
    change (Bool.rec (.bad 305) (insl quiet call base is (Nat.succ i) (putO d f (.tup [])) h) (quietV quiet (evO y f)) : R) = _ at e
    cases hq : quietV quiet (evO y f) with
    | false => rw [hq] at e; cases e
    | true => rw [hq] at e; exact insl_norm is e

theorem compI'_inv {ops : Array Oper} {n : Nat} {o : Oper} {i : I} (h : compI' P n ops o = some i) : (∃ x c y, o.op = .defer c ∧ o.guard = none ∧ c.callee = .value y ∧ c.args.size = 0 ∧ compOpd y = some x ∧ i = .dfr o.dst x ∧ ∀ t, o.dst = some t → t < n ∧ t < 256) ∨ compI P n ops o = some i := by
  unfold compI' at h
  split at h
  · rename_i x hx
    split at h
    · rename_i h3
      cases h
      unfold dfrO at hx
      split at hx
      · rename_i c h1 h2
        split at hx
        · rename_i y h4 h5
          refine .inl ⟨x, c, y, h1, h2, h4, h5, hx, rfl, fun t ht => ?_⟩
          rw [ht, dstOk] at h3
          have := Bool.and_eq_true_iff.1 h3
          exact ⟨by simpa [Nat.blt_eq] using this.1, by simpa [Nat.blt_eq] using this.2⟩
        · cases hx
      · cases hx
    · cases h
  · exact .inr h

theorem insl_snd {quiet : Nat → Bool} {ops : Array Oper} {n : Nat} (hcall : CallOK P w0 call) {Q : Exit → Act → World → Prop} : ∀ (l : List Oper) (is : List I) (idx : List Nat), compIs' P n ops l = some is → idx.map (ops[·]?) = l.map some →
    ∀ {base i : Nat} {φ : Phi} {f : Fr} {h : H} {w : World} {a : Act} {x : X} {f' : Fr} {h' : H}, insl quiet call base is i f h = .ok x f' h' → FRel φ n f a.tmps → HRel w0 φ h w →
    (∀ j, i ≤ j → j < i + l.length → φ (base + j) = none) → base + i + l.length ≤ h.next →
    (∀ a' w', Beh w0 quiet φ n base f' h' a.defers a' w' → Q .normal a' w') → wpOps P ops Q idx a w
  | [], is, idx, hc, hi, base, i, φ, f, h, w, a, x, f', h', e, hf, hr, hfree, hroom, k => by
    cases hc
    cases idx with
    | nil => cases e; exact k _ _ ⟨DExt.refl _ _, φ, Ext.refl _, fun _ _ => rfl, by omega, hf, hr⟩
    | cons j js => simp at hi
  | o :: l, is, idx, hc, hi, base, i, φ, f, h, w, a, x, f', h', e, hf, hr, hfree, hroom, k => by
    simp only [compIs'] at hc
    simp only [List.length_cons] at hfree hroom
    split at hc
    · rename_i i0 js h1 h2
      cases hc
      cases idx with
      | nil => simp at hi
      | cons j idx =>
        simp only [List.map_cons, List.cons.injEq] at hi
        obtain ⟨hj, hi⟩ := hi
        rcases compI'_inv h1 with ⟨x0, c, y, ho, hg, hcal, hargs, hx0, rfl, hdst⟩ | h1
        · change (Bool.rec (.bad 305) (insl quiet call base js (Nat.succ i) (putO o.dst f (.tup [])) h) (quietV quiet (evO x0 f)) : R) = _ at e
          cases hq : quietV quiet (evO x0 f) with
          | false => rw [hq] at e; cases e
          | true =>
            rw [hq] at e
            have hv := opd_rel hf hx0
            cases hev : evO x0 f with
            | func g fi ca =>
              rw [hev] at hq hv
              simp only [VRel] at hv
              obtain ⟨fs, cs, hval, _, _⟩ := hv
              have hw : Region.wanted o (yielded ops a.tmps) = true := by unfold Region.wanted; rw [hg]
              simp only [wpOps, hj, hw, if_true]
              refine .inl ?_
              have hargs0 : c.args = #[] := Array.eq_empty_of_size_eq_zero hargs
              have hrun : (execOp a.eval o).run P w = .ok (.defer { target := .fn (.func g) cs, args := fs }) w := by
                simp [execOp, ho, resolve, hcal, hargs0, Deferred.ofValue, hval]
              unfold Oper.wp
              rw [hrun]
              show wpOps P ops Q idx ({ a with defers := _ :: a.defers }.put o.dst undef) w
              refine insl_snd hcall l js idx h2 hi (base := base) (i := i + 1) e (a := { a with defers := { target := .fn (.func g) cs, args := fs } :: a.defers }.put o.dst undef) ?_ hr (fun j h3 h4 => hfree j (by omega) (by omega)) (by omega) fun a' w' hb => k a' w' ?_
              · have h0 : FRel φ n f ({ a with defers := { target := .fn (.func g) cs, args := fs } :: a.defers } : Act).tmps := hf
                refine h0.put hdst (x := .tup []) (v := undef) ?_
                simp only [VRel]; exact ⟨#[], rfl, by simp [VRels]⟩
              · rw [put_defers] at hb
                refine hb.trans ⟨[_], rfl, fun d hd => ?_⟩ (Ext.refl _) (fun _ _ => rfl) (Nat.le_refl _)
                simp only [List.mem_singleton] at hd
                exact ⟨g, cs, fs, hd, hq⟩
            | _ => rw [hev] at hq; cases hq
        obtain ⟨c, ys, g, rfl, q12, q3, q4⟩ := compI_inv h1
        rcases wanted_rel hf q3 e with ⟨hw, e1⟩ | ⟨hw, e1⟩
        · cases hex : exC call c (Nat.add base i) (evs ys f) h with
          | bad m => rw [hex] at e1; cases e1
          | ok v h1' =>
            rw [hex] at e1
            rcases q12 with ⟨xs, q1, q2⟩ | rfl
            case inr => cases hex
            have hfree0 : φ (base + i) = none := hfree i (Nat.le_refl _) (by omega)
            simp only [wpOps, hj, hw, if_true]
            refine .inl (one_snd q1 q2 q4 hcall hf hr (nid := base + i) (by omega) hfree0 hex fun φ' v' w' p1 p2 p3 p4 p5 => ?_)
            refine insl_snd hcall l js idx h2 hi (base := base) (i := i + 1) e1 p4 p5 (fun j h3 h4 => ?_) (by omega) fun a' w' hb => k a' w' ?_
            · rw [p2 _ (by omega) (by omega)]; exact hfree j (by omega) (by omega)
            · rw [put_defers] at hb
              exact hb.trans (DExt.refl _ _) p1 (fun b hb' => p2 b (by omega) (by omega)) (Nat.le_refl _)
        · simp only [wpOps, hj, hw, Bool.false_eq_true, if_false]
          refine insl_snd hcall l js idx h2 hi (base := base) (i := i + 1) e1 (hf.put q4 (x := .tup []) (v := undef) ?_) hr (fun j h3 h4 => hfree j (by omega) (by omega)) (by omega) fun a' w' hb => k a' w' ?_
          · simp only [VRel]; exact ⟨#[], rfl, by simp [VRels]⟩
          · rw [put_defers] at hb; exact hb
    · cases hc

theorem lenI_eq (l : List I) : lenI l = l.length := by
  induction l with
  | nil => rfl
  | cons x l ih => show Nat.succ (lenI l) = _; rw [ih]; rfl
theorem compIs'_length {ops : Array Oper} {n : Nat} : ∀ {l : List Oper} {is : List I}, compIs' P n ops l = some is → is.length = l.length
  | [], is, h => by cases h; rfl
  | o :: l, is, h => by
    simp only [compIs'] at h
    split at h
    · rename_i x xs h1 h2; cases h; simp [compIs'_length h2]
    · cases h

end
end Ax
end
section
namespace Ax
open Go Go.RowKit

def XRel : X → Exit → Prop
  | .norm, .normal => True
  | .exit i, .exit j => i = j
  | .ret, .ret => True
  | _, _ => False

theorem rounds_mono {P : Program} {c : Code} {Q Q' : Exit → Act → World → Prop} (hq : ∀ e a w, Q e a w → Q' e a w) : ∀ n a w, Code.rounds P c Q n a w → Code.rounds P c Q' n a w
  | 0, _, _, h => h
  | n + 1, _, _, h => wp_mono h fun e a w he => by
    cases e <;> first | exact rounds_mono hq n a w he | exact hq _ _ _ he

/-- What an abstract run owes. -/
def Post (w0 : Base) (quiet : Nat → Bool) (φ : Phi) (n nx : Nat) (x : X) (f' : Fr) (h' : H) (ds : List Deferred) : Exit → Act → World → Prop :=
  fun e a' w' => XRel x e ∧ Beh w0 quiet φ n nx f' h' ds a' w'

/-- That drawn regions are run rightly. -/
def DrawOK (P : Program) (w0 : Base) (quiet : Nat → Bool) (call : FuncId → List V → H → R1) : Prop :=
  ∀ (n id : Nat) (ops : Array Oper) (s : S), compS P n (.region id ops true) = some s → ∀ (F : Nat) (f : Fr) (h : H) (x : X) (f' : Fr) (h' : H), exec quiet call F s f h = .ok x f' h' →
    ∀ (φ : Phi) (w : World) (a : Act), FRel φ n f a.tmps → HRel w0 φ h w → (Code.region id ops true).wp P (Post w0 quiet φ n h.next x f' h' a.defers) a w

section
variable {P : Program} {w0 : Base} {quiet : Nat → Bool} {call : FuncId → List V → H → R1}

theorem bind_ok {r : R} {k : Fr → H → R} {x : X} {f' : Fr} {h' : H}
    (e : (R.rec (motive := fun _ => R) (fun x f h => X.rec (motive := fun _ => R) (k f h) (fun i => .ok (.exit i) f h) (.ok .ret f h) x) .bad r : R) = .ok x f' h') :
    (∃ f1 h1, r = .ok .norm f1 h1 ∧ k f1 h1 = .ok x f' h') ∨ (r = .ok x f' h' ∧ x ≠ .norm) := by
  cases r with
  | bad n => cases e
  | ok x1 f1 h1 =>
    cases x1 with
    | norm => exact .inl ⟨f1, h1, rfl, e⟩
    | exit i => cases e; exact .inr ⟨rfl, by simp⟩
    | ret => cases e; exact .inr ⟨rfl, by simp⟩

theorem exec_snd (hcall : CallOK P w0 call) (hdraw : DrawOK P w0 quiet call) (F : Nat) (n : Nat) : ∀ (c : Code) (s : S), compS P n c = some s → ∀ (f : Fr) (h : H) (x : X) (f' : Fr) (h' : H), exec quiet call F s f h = .ok x f' h' →
    ∀ (φ : Phi) (w : World) (a : Act), FRel φ n f a.tmps → HRel w0 φ h w → c.wp P (Post w0 quiet φ n h.next x f' h' a.defers) a w := by
  intro c
  induction c with
  | skip =>
    intro s hs f h x f' h' e φ w a hf hr
    cases hs; cases e
    exact wp_skip ⟨trivial, DExt.refl _ _, φ, Ext.refl _, fun _ _ => rfl, Nat.le_refl _, hf, hr⟩
  | exit id =>
    intro s hs f h x f' h' e φ w a hf hr
    cases hs; cases e
    exact wp_exit ⟨rfl, DExt.refl _ _, φ, Ext.refl _, fun _ _ => rfl, Nat.le_refl _, hf, hr⟩
  | ret =>
    intro s hs f h x f' h' e φ w a hf hr
    cases hs; cases e
    exact wp_ret ⟨trivial, DExt.refl _ _, φ, Ext.refl _, fun _ _ => rfl, Nat.le_refl _, hf, hr⟩
  | region id ops draw =>
    cases draw with
    | true => intro s hs f h x f' h' e φ w a hf hr; exact hdraw n id ops s hs F f h x f' h' e φ w a hf hr
    | false =>
      intro s hs f h x f' h' e φ w a hf hr
      simp only [compS] at hs
      cases hl : compIs' P n ops ops.toList with
      | none => rw [hl] at hs; cases hs
      | some is =>
        rw [hl] at hs
        cases hs
        change insl quiet call h.next is 0 f (h.bump (lenI is)) = _ at e
        have hx : x = .norm := insl_norm is e
        subst hx
        have hlen : lenI is = ops.toList.length := by rw [lenI_eq]; exact compIs'_length hl
        refine wp_region (insl_snd hcall ops.toList is (List.range ops.size) hl ?_ e hf (hr.bump _) (fun j _ _ => hr.free _ (by omega)) (by rw [H.next_bump]; omega) fun a' w' hb => ⟨trivial, hb⟩)
        apply List.ext_getElem?
        intro i
        simp only [List.getElem?_map]
        by_cases hi : i < ops.size
        · simp [hi]
        · rw [List.getElem?_eq_none (by simpa using hi), List.getElem?_eq_none (by simpa using hi)]; rfl
  | seq c1 c2 ih1 ih2 =>
    intro s hs f h x f' h' e φ w a hf hr
    simp only [compS] at hs
    split at hs
    · rename_i s1 s2 e1 e2
      cases hs
      rcases bind_ok e with ⟨f1, h1, q1, q2⟩ | ⟨q1, q2⟩
      · refine wp_seq (wp_mono (ih1 s1 e1 f h _ f1 h1 q1 φ w a hf hr) fun ex a1 w1 hp => ?_)
        obtain ⟨hx, hd, φ1, p1, p2, p3, p4, p5⟩ := hp
        cases ex <;> simp only [XRel] at hx
        refine wp_mono (ih2 s2 e2 f1 h1 x f' h' q2 φ1 w1 a1 p4 p5) fun ex a2 w2 hp => ?_
        exact ⟨hp.1, hp.2.trans hd p1 p2 p3⟩
      · refine wp_seq (wp_mono (ih1 s1 e1 f h x f' h' q1 φ w a hf hr) fun ex a1 w1 hp => ?_)
        cases ex with
        | normal => cases x <;> first | exact absurd rfl q2 | exact hp.1.elim
        | _ => exact hp
    · cases hs
  | cond c c1 c2 ih1 ih2 =>
    intro s hs f h x f' h' e φ w a hf hr
    simp only [compS] at hs
    split at hs
    · rename_i y s1 s2 e0 e1 e2
      cases hs
      have hv := opd_rel hf e0
      change condV (evO y f) (exec quiet call F s1 f h) (exec quiet call F s2 f h) = _ at e
      cases hb : evO y f with
      | bool b =>
        rw [hb] at hv e
        simp only [VRel] at hv
        cases b with
        | true => exact wp_cond_true hv (ih1 s1 e1 f h x f' h' e φ w a hf hr)
        | false => exact wp_cond_false hv (ih2 s2 e2 f h x f' h' e φ w a hf hr)
      | _ => rw [hb] at e; cases e
    · cases hs
  | block id c ih =>
    intro s hs f h x f' h' e φ w a hf hr
    simp only [compS] at hs
    cases hb : compS P n c with
    | none => rw [hb] at hs; cases hs
    | some s1 =>
      rw [hb] at hs
      cases hs
      change (R.rec (motive := fun _ => R) (fun x f h => X.rec (motive := fun _ => R) (.ok .norm f h) (fun j => Bool.rec (.ok (.exit j) f h) (.ok .norm f h) (Nat.beq j id)) (.ok .ret f h) x) .bad (exec quiet call F s1 f h) : R) = _ at e
      cases he : exec quiet call F s1 f h with
      | bad m => rw [he] at e; cases e
      | ok x1 f1 h1 =>
        rw [he] at e
        refine wp_block (wp_mono (ih s1 hb f h x1 f1 h1 he φ w a hf hr) fun ex a1 w1 hp => ?_)
        cases x1 with
        | norm =>
          cases e
          obtain ⟨hx, hp⟩ := hp
          cases ex <;> simp only [XRel] at hx
          exact ⟨trivial, hp⟩
        | ret =>
          cases e
          obtain ⟨hx, hp⟩ := hp
          cases ex <;> simp only [XRel] at hx
          exact ⟨trivial, hp⟩
        | exit j =>
          obtain ⟨hx, hp⟩ := hp
          cases ex <;> simp only [XRel] at hx
          rename_i j'
          subst hx
          change (Bool.rec (.ok (.exit j) f1 h1) (.ok .norm f1 h1) (Nat.beq j id) : R) = _ at e
          cases hj : Nat.beq j id with
          | true =>
            rw [hj] at e
            cases e
            have := Nat.eq_of_beq_eq_true hj
            subst this
            simp only [Exit.inBlock, if_true]
            exact ⟨trivial, hp⟩
          | false =>
            rw [hj] at e
            cases e
            have hne : j ≠ id := fun h => by rw [h, Nat.beq_refl] at hj; cases hj
            simp only [Exit.inBlock, if_neg hne]
            exact ⟨rfl, hp⟩
  | loop c ih =>
    intro s hs f h x f' h' e φ w a hf hr
    simp only [compS] at hs
    cases hb : compS P n c with
    | none => rw [hb] at hs; cases hs
    | some s1 =>
      rw [hb] at hs
      cases hs
      have key : ∀ (m : Nat) (f : Fr) (h : H), loopN (exec quiet call F s1) m f h = .ok x f' h' → ∀ (φ : Phi) (w : World) (a : Act), FRel φ n f a.tmps → HRel w0 φ h w → Code.rounds P c (Post w0 quiet φ n h.next x f' h' a.defers) m a w := by
        intro m
        induction m with
        | zero => intro f h e; cases e
        | succ m ihm =>
          intro f h e φ w a hf hr
          rcases bind_ok (k := loopN (exec quiet call F s1) m) e with ⟨f1, h1, q1, q2⟩ | ⟨q1, q2⟩
          · refine wp_mono (ih s1 hb f h _ f1 h1 q1 φ w a hf hr) fun ex a1 w1 hp => ?_
            obtain ⟨hx, hd, φ1, p1, p2, p3, p4, p5⟩ := hp
            cases ex <;> simp only [XRel] at hx
            exact rounds_mono (fun _ _ _ hq => ⟨hq.1, hq.2.trans hd p1 p2 p3⟩) _ _ _ (ihm f1 h1 q2 φ1 w1 a1 p4 p5)
          · refine wp_mono (ih s1 hb f h x f' h' q1 φ w a hf hr) fun ex a1 w1 hp => ?_
            cases ex with
            | normal => cases x <;> first | exact absurd rfl q2 | exact hp.1.elim
            | _ => exact hp
      exact wp_loop_rounds F (key F f h e φ w a hf hr)
  | _ =>
    intro s hs f h x f' h' e φ w a hf hr
    cases hs
    cases e

end
end Ax
end
section
namespace Ax
open Go Go.RowKit

theorem setArgs_spec : ∀ (l : List V) (i : Nat) (f : Fr), f.Full 8 → i + l.length ≤ 256 →
    (setArgs l i f).Full 8 ∧ ∀ t, t < 256 → (setArgs l i f).get t = if i ≤ t ∧ t < i + l.length then l.getD (t - i) .undef else f.get t
  | [], i, f, hf, _ => ⟨hf, fun t _ => by rw [if_neg (by simp)]; rfl⟩
  | v :: l, i, f, hf, hi => by
    simp only [List.length_cons] at hi
    obtain ⟨a, b⟩ := setArgs_spec l (i + 1) (f.put i v) (Fr.full_put _ _ _ _ hf) (by omega)
    refine ⟨a, fun t ht => ?_⟩
    show (setArgs l (i + 1) (f.put i v)).get t = _
    rw [b t ht, Fr.get_put 8 _ _ _ _ hf (by omega) (by omega)]
    by_cases h1 : i + 1 ≤ t ∧ t < i + 1 + l.length
    · rw [if_pos h1, if_pos (by simp; omega), show t - i = (t - (i + 1)) + 1 by omega, List.getD_cons_succ]
    · rw [if_neg h1]
      by_cases h2 : i = t
      · subst h2; simp
      · rw [if_neg h2, if_neg (by simp; omega)]

theorem args_rel {φ : Phi} {vs : List V} {args : Array Value} (hv : VRels φ vs args.toList) (hl : vs.length ≤ 256) (n : Nat) : FRel φ n (setArgs vs 0 frame0) (args ++ Array.replicate (n - args.size) undef) := by
  obtain ⟨a, b⟩ := setArgs_spec vs 0 frame0 trivial (by omega)
  have hlen := hv.length
  simp only [Array.length_toList] at hlen
  refine ⟨a, by simp; omega, fun t ht => ?_⟩
  rw [b t ht]
  by_cases h1 : t < vs.length
  · rw [if_pos (by omega)]
    obtain ⟨v, q1, q2⟩ := hv.get (i := t) (a := vs[t]) (by simp [h1])
    have h2 : args[t]? = some v := by simpa using q1
    have h3 : (args ++ Array.replicate (n - args.size) undef).getD t undef = v := by
      simp only [Array.getD_eq_getD_getElem?]
      rw [Array.getElem?_append_left (by omega), h2]; rfl
    rw [h3]
    simpa [List.getD, h1] using q2
  · rw [if_neg (by omega)]
    have : frame0.get t = .undef := Fr.get_new _
    rw [this]
    simp only [VRel]

section
variable {P : Program} {w0 : Base} {quiet : Nat → Bool} {w : World} {φ : Phi} {h : H} {call : FuncId → List V → H → R1}

theorem load_var1 {t : TypeId} {d : TypeDesc} (ht : P.underlying t = some d) (hd : aggD d = false)
    (hr : HRel w0 φ h w) {b o : Nat} {r : Row} (hb : h.get b = .row r) (ho : o < r.n) {v : Value} (hv : VRel φ (.ptr b o) v) :
    ∃ v', (do loadVar t (← asAddr v) : Sem Value).run P w = .ok v' w ∧ VRel φ (r.get o) v' := by
  obtain ⟨v', h1, h2⟩ := snd_load1 (P := P) ht hd hr hb ho hv
  refine ⟨v', ?_, h2⟩
  simp only [VRel] at hv
  obtain ⟨k, δ, N, e, rfl⟩ := hv
  simpa [Instr.loadAt, Instr.sureAddr, asAddr] using h1
theorem load_varn {t : TypeId} {d : TypeDesc} {i : TypeInfo} (ht : P.underlying t = some d) (hd : aggD d = true)
    (hi : P.info? t = some i)
    (hr : HRel w0 φ h w) {b o : Nat} {r : Row} (hb : h.get b = .row r) (ho : o + i.size ≤ r.n) {v : Value} (hv : VRel φ (.ptr b o) v) :
    ∃ v', (do loadVar t (← asAddr v) : Sem Value).run P w = .ok v' w ∧ VRel φ (.agg (r.gets i.size o)) v' := by
  obtain ⟨v', h1, h2⟩ := snd_loadn (P := P) ht hd hi hr hb ho hv
  refine ⟨v', ?_, h2⟩
  simp only [VRel] at hv
  obtain ⟨k, δ, N, e, rfl⟩ := hv
  simpa [Instr.loadAt, Instr.sureAddr, asAddr] using h1

def oneRes (tm : Array Value) : ResultVar → Sem Value
  | .tmp t => pure (tm.getD t undef)
  | .cell a t => do loadVar t (← asAddr (tm.getD a undef))

theorem readR_snd {n : Nat} {f : Fr} {tm : Array Value} (hf : FRel φ n f tm) (hr : HRel w0 φ h w) : ∀ (l : List ResultVar) (rs : List RV), compR P l = some rs → ∀ {k : List V → R1} {x : V} {h' : H}, readR rs f h k = .ok x h' →
    ∃ xs vs, (l.mapM (oneRes tm) : Sem (List Value)).run P w = .ok vs w ∧ VRels φ xs vs ∧ k xs = .ok x h'
  | [], rs, hc, k, x, h', e => by
    cases hc
    exact ⟨[], [], by simp, by simp [VRels], e⟩
  | .tmp t :: l, rs, hc, k, x, h', e => by
    simp only [compR] at hc
    split at hc
    · rename_i ht
      cases hl : compR P l with
      | none => rw [hl] at hc; cases hc
      | some rs' =>
        rw [hl] at hc
        cases hc
        change readR rs' f h (fun l => k (f.get t :: l)) = _ at e
        obtain ⟨xs, vs, q1, q2, q3⟩ := readR_snd hf hr l rs' hl e
        refine ⟨f.get t :: xs, tm.getD t undef :: vs, ?_, by simp only [VRels]; exact ⟨_, _, rfl, hf.get t ht, q2⟩, q3⟩
        simp only [List.mapM_cons, oneRes, Sem.run_bind, Sem.run_pure, Result.andThen_ok, q1]
    · cases hc
  | .cell a t :: l, rs, hc, k, x, h', e => by
    simp only [compR] at hc
    split at hc
    · rename_i ha
      have hp := hf.get a ha
      split at hc
      · rename_i m hsz
        obtain ⟨d, i, h1, h2, rfl, h4⟩ := tySz_inv hsz
        cases hl : compR P l with
        | none => rw [hl] at hc; cases hc
        | some rs' =>
          rw [hl] at hc
          cases hc
          obtain ⟨b, o, hv, e2⟩ := dPtr_ok e
          obtain ⟨r, hb, e3⟩ := dRow_ok e2
          obtain ⟨hg, e4⟩ := gate_ok e3
          rw [hv] at hp
          obtain ⟨v', p1, p2⟩ := load_varn (P := P) h1 h4 h2 hr hb (by simpa [Nat.ble_eq] using hg) hp
          obtain ⟨xs, vs, q1, q2, q3⟩ := readR_snd hf hr l rs' hl e4
          refine ⟨_ :: xs, v' :: vs, ?_, by simp only [VRels]; exact ⟨_, _, rfl, p2, q2⟩, q3⟩
          simp only [List.mapM_cons, oneRes, Sem.run_bind, Sem.run_pure] at p1 ⊢
          rw [p1]
          simp [q1]
      · rename_i m hsz
        obtain ⟨d, i, h1, h2, rfl, h4⟩ := tySz_inv hsz
        cases hl : compR P l with
        | none => rw [hl] at hc; cases hc
        | some rs' =>
          rw [hl] at hc
          cases hc
          obtain ⟨b, o, hv, e2⟩ := dPtr_ok e
          obtain ⟨r, hb, e3⟩ := dRow_ok e2
          obtain ⟨hg, e4⟩ := gate_ok e3
          rw [hv] at hp
          obtain ⟨v', p1, p2⟩ := load_var1 (P := P) h1 h4 hr hb (ble_iff.1 hg) hp
          obtain ⟨xs, vs, q1, q2, q3⟩ := readR_snd hf hr l rs' hl e4
          refine ⟨_ :: xs, v' :: vs, ?_, by simp only [VRels]; exact ⟨_, _, rfl, p2, q2⟩, q3⟩
          simp only [List.mapM_cons, oneRes, Sem.run_bind, Sem.run_pure] at p1 ⊢
          rw [p1]
          simp [q1]
      · cases hc
    · cases hc

theorem results_snd {n : Nat} {f : Fr} {tm : Array Value} (hf : FRel φ n f tm) (hr : HRel w0 φ h w) {fn : Func} {rs : List RV} (hc : compR P fn.results.toList = some rs) {x : V} {h' : H} (e : readR rs f h (fun l => .ok (oneOr l) h) = .ok x h') :
    h' = h ∧ ∃ v, (results fn tm).run P w = .ok v w ∧ VRel φ x v := by
  obtain ⟨xs, vs, q1, q2, q3⟩ := readR_snd hf hr _ rs hc e
  cases q3
  refine ⟨rfl, if h : vs.toArray.size = 1 then vs.toArray[0] else .tuple vs.toArray, ?_, ?_⟩
  · have hdef : results fn tm = (do
        let vs ← fn.results.mapM (oneRes tm)
        pure (if h : vs.size = 1 then vs[0] else .tuple vs)) := rfl
    rw [hdef, Array.mapM_eq_mapM_toList]
    simp only [Sem.run_bind, Sem.run_map, q1, Result.andThen_ok, Sem.run_pure]
  · cases xs with
    | nil =>
      simp only [VRels] at q2
      subst q2
      show VRel φ (.tup []) (.tuple #[])
      simp only [VRel]
      exact ⟨#[], rfl, by simp [VRels]⟩
    | cons a xs =>
      have q2' := q2
      simp only [VRels] at q2
      obtain ⟨y, ys, rfl, r1, r2⟩ := q2
      cases xs with
      | nil =>
        simp only [VRels] at r2
        subst r2
        exact r1
      | cons b xs =>
        have r2' := r2
        simp only [VRels] at r2
        obtain ⟨z, zs, rfl, r3, r4⟩ := r2
        have hne : ¬ ((y :: z :: zs).toArray.size = 1) := by simp
        rw [dif_neg hne]
        show VRel φ (.tup (a :: b :: xs)) _
        simp only [VRel]
        exact ⟨_, rfl, q2'⟩

theorem run_enter {f : FuncId} {fn : Func} (hf : P.funcs[f]? = some fn) (hname : (fn.name == "runtime.NumGoroutine") = false) {c : Code} (hb : fn.body = some c) args w :
    (callFunc f args).run P w = .ok (.enter f args) w := by
  simp only [beq_eq_false_iff_ne] at hname
  simp [callFunc, hf, hname, hb]

/-- More is there; what was there is as it was. -/
abbrev Grows (w w' : World) : Prop := Below w.heap.size w w'
theorem HRel.grows {w w' : World} (hr : HRel w0 φ h w) (g : Grows w w') : HRel w0 φ h w' where
  ok := hr.ok
  below := ⟨g.os.trans hr.below.os, g.tape.trans hr.below.tape, g.output.trans hr.below.output, Nat.le_trans hr.below.size g.size, fun k hk hkk => (g.block k (Nat.lt_of_lt_of_le hk hr.below.size)).trans (hr.below.block k hk hkk)⟩
  free := hr.free
  obj := fun b hb => by
    obtain ⟨k, d, N, e1, e2⟩ := hr.obj b hb
    exact ⟨k, d, N, e1, by rw [g.block k (hr.lt hb e1)]; exact e2⟩
  inj := hr.inj

/-- A deferred function that does nothing where nobody panics. -/
def Quiet (P : Program) (g : FuncId) : Prop := ∀ (args : Array Value) (w : World), (callFunc g args).run P w = .ok (.enter g args) w ∧
  CallsD P g args .returning w fun e u' w' => (∃ v, e = .returned v) ∧ u' = .returning ∧ Grows w w'

theorem leaves_quiet {quiet : Nat → Bool} (hq : ∀ g, quiet g = true → Quiet P g) {fn : Func} {tmps : Array Value} {R : Ending → World → Prop} (hR : ∀ w', HRel w0 φ h w' → ∃ v, (results fn tmps).run P w' = .ok v w' ∧ R (.returned v) w') :
    ∀ (l : List Deferred), (∀ d ∈ l, ∃ g cap args, d = { target := .fn (.func g) cap, args := args } ∧ quiet g = true) → ∀ w, HRel w0 φ h w → Leaves P fn tmps R l .returning w
  | [], _, w, hr => hR w hr
  | d :: l, hl, w, hr => by
    obtain ⟨g, cap, args, rfl, hg⟩ := hl _ (List.mem_cons_self ..)
    obtain ⟨h1, h2⟩ := hq g hg (args ++ cap) w
    refine leaves_cons (by simp) h1 (CallsD.mono h2 fun e u' w' hp => ?_)
    obtain ⟨⟨v, rfl⟩, rfl, hgr⟩ := hp
    exact leaves_quiet hq hR l (fun d hd => hl d (List.mem_cons_of_mem _ hd)) w' (hr.grows hgr)

theorem runP_snd (hq : ∀ g, quiet g = true → Quiet P g) (hcall : CallOK P w0 call) (hdraw : DrawOK P w0 quiet call) (F : Nat) (hnm : ∀ (f : Nat) (fn : Func), P.funcs[f]? = some fn → (fn.name == "runtime.NumGoroutine") = false) : CallOK P w0 (runP P quiet call F) := by
  intro f vs h v h' e φ w args hv hr
  unfold runP at e
  cases hfn : P.funcs[f]? with
  | none => rw [hfn] at e; cases e
  | some fn =>
    rw [hfn] at e
    cases hcf : compF P fn with
    | none => simp only [Option.bind_some, hcf] at e; cases e
    | some fn' =>
      simp only [Option.bind_some, hcf] at e
      unfold compF at hcf
      cases hb : fn.body with
      | none => rw [hb] at hcf; cases hcf
      | some c =>
        rw [hb] at hcf
        simp only at hcf
        split at hcf
        · rename_i s rs hs hrs
          cases hcf
          rw [run_enter hfn (hnm f fn hfn) hb args w]
          obtain ⟨hg, e1⟩ := gate_ok e
          have hlen : vs.length ≤ 256 := by rw [leng_eq] at hg; simpa [Nat.ble_eq] using hg
          have hf0 := args_rel hv hlen fn.ntmps
          change (R.rec (motive := fun _ => R1) (fun x f h => X.rec (motive := fun _ => R1) (readR rs f h fun l => .ok (oneOr l) h) (fun _ => .bad 320) (readR rs f h fun l => .ok (oneOr l) h) x) .bad (exec quiet call F s (setArgs vs 0 frame0) h) : R1) = _ at e1
          cases hex : exec quiet call F s (setArgs vs 0 frame0) h with
          | bad m => rw [hex] at e1; cases e1
          | ok x f1 h1 =>
            rw [hex] at e1
            have hwp := exec_snd hcall hdraw F fn.ntmps c s hs _ h x f1 h1 hex φ w { tmps := args ++ Array.replicate (fn.ntmps - args.size) undef, defers := [] } hf0 hr
            refine calls_of_wp_defers hfn hb (wp_mono hwp fun ex a' w' hp => ?_)
            obtain ⟨hx, ⟨l, hd, hl⟩, φ', p1, p2, p3, p4, p5⟩ := hp
            rw [List.append_nil] at hd
            cases x with
            | exit i => cases e1
            | norm =>
              cases ex <;> simp only [XRel] at hx
              show Leaves P fn a'.tmps _ a'.defers .returning w'
              rw [hd]
              refine leaves_quiet hq (fun w2 p5' => ?_) l hl w' p5
              obtain ⟨rfl, v', r1, r2⟩ := results_snd p4 p5' hrs e1
              exact ⟨v', r1, φ', p1, p2, p3, r2, p5'⟩
            | ret =>
              cases ex <;> simp only [XRel] at hx
              show Leaves P fn a'.tmps _ a'.defers .returning w'
              rw [hd]
              refine leaves_quiet hq (fun w2 p5' => ?_) l hl w' p5
              obtain ⟨rfl, v', r1, r2⟩ := results_snd p4 p5' hrs e1
              exact ⟨v', r1, φ', p1, p2, p3, r2, p5'⟩
        · cases hcf

/-- A call's contract, whatever was there before. -/
def CallsOK (P : Program) (call : FuncId → List V → H → R1) : Prop := ∀ w0, CallOK P w0 call

theorem callT_snd (hq : ∀ g, quiet g = true → Quiet P g) {spec : (FuncId → List V → H → R1) → FuncId → List V → H → R1} (hspec : ∀ k, CallsOK P k → CallsOK P (spec k)) (hdraw : ∀ k, CallsOK P k → ∀ w0, DrawOK P w0 quiet k) (F : Nat)
    (hnm : ∀ (f : Nat) (fn : Func), P.funcs[f]? = some fn → (fn.name == "runtime.NumGoroutine") = false) : ∀ n, CallsOK P (callT P quiet spec F n)
  | 0 => fun w0 f vs h v h' e => by cases e
  | n + 1 => hspec _ fun w0 => runP_snd hq (callT_snd hq hspec hdraw F hnm n w0) (hdraw _ (callT_snd hq hspec hdraw F hnm n) w0) F hnm

end
end Ax
end
