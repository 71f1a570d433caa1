/- The evaluator, part 3: regions, code, calls, and that they do what the machine does. No condition. -/
import Derived.Test.YtejcbkhhnibnaaaGreatDoorEng2
import Derived.RangeFuncRecord
import Derived.Recover
import Derived.Test.YtejcbkhhnibnaaaGreatDoorEng1
set_option linter.unusedVariables false
set_option linter.unusedSimpArgs false
namespace Go.Eng

/-! ### Regions that draw their order -/
def veqS : Value → Value → Bool
  | .bool a, .bool b => a == b
  | .int k a, .int l b => k == l && a == b
  | .string a, .string b => a.data.toList == b.data.toList
  | .pointer none, .pointer none => true
  | .pointer (some a), .pointer (some b) => a == b
  | .slice none n c, .slice none m d => n == m && c == d
  | .slice (some a) n c, .slice (some b) m d => a == b && n == m && c == d
  | .map none, .map none => true
  | .map (some a), .map (some b) => a == b
  | .nilFunc, .nilFunc => true
  | .nilIface, .nilIface => true
  | _, _ => false
def veqL : List Value → List Value → Bool
  | [], [] => true
  | a :: l, b :: m => veqS a b && veqL l m
  | _, _ => false
def veq : Value → Value → Bool
  | .func f a b, .func g c d => f == g && veqL a.toList c.toList && veqL b.toList d.toList
  | .agg a, .agg b => veqL a.toList b.toList
  | .iface t a, .iface u b => t == u && veqS a b
  | a, b => veqS a b

def qv : Option AOut → Option Value
  | some (.val v _) => some v
  | _ => none
def isIntV : Value → Bool
  | .int _ _ => true
  | _ => false
def isIntT (P : Program) (t : TypeId) : Bool :=
  match P.underlying t with
  | some (.int _) => true
  | _ => false
def quietK (E : Env) (a : AAct) (o : Oper) : Bool :=
  match o.op with
  | .move _ | .assign _ | .pick _ _ _ | .build _ _ | .load _ _ | .nilCheck _ | .binOp _ _ _ _ _ | .unOp _ _ _ | .makeInterface _ _ | .makeFunc _ _ _ | .slice _ _ _ _ _
  | .fieldAddr _ _ _ | .field _ _ _ | .indexAddr _ _ _ | .index _ _ _ | .typeAssert _ _ _ _ | .extract _ _ | .lookup _ _ _ _ => true
  | .convert _ d x => isIntV (a.ev E.gl x) && isIntT E.P d
  | .call c => (match c.callee with | .builtin .len | .builtin .max | .builtin .min | .builtin .unsafeSliceData => true | _ => false)
  | _ => false
/-- What an operation gives that changes nothing. -/
def aquiet (E : Env) (a : AAct) (o : Oper) (h : AHeap) : Option Value := if quietK E a o then qv (aop E a true o h) else none

/-- Does it look at memory? -/
def looks (o : Oper) : Bool :=
  match o.op with
  | .load _ _ => true
  | .lookup _ _ _ _ => true
  | .call _ => true
  | _ => false

inductive EStep where
  | go (v : Value) (h : AHeap)
  | panic (chain : List PanicEntry) (h : AHeap)

/-- One wanted operation that neither defers nor recovers. -/
def estep (C : Ctx) (a : AAct) (o : Oper) (h : AHeap) : Option EStep :=
  match aop C.E a C.ro.isSome o h with
  | some (.val v h') => some (.go v h')
  | some (.skip h') => some (.go undef h')
  | some (.enter f args h') => (match C.call f args h' with
    | some (.returned v, h2) => some (.go v h2)
    | some (.panicked ch, h2) => some (.panic ch h2)
    | _ => none)
  | some (.round l args h') => (match C.round l args h' with
    | some (.returned v, h2) => some (.go v h2)
    | some (.panicked ch, h2) => some (.panic ch h2)
    | _ => none)
  | some (.panic v h') => some (.panic [{ v := v, recovered := false }] h')
  | _ => none

/-- May it give something without changing anything? -/
def qkind (o : Oper) : Bool :=
  match o.op with
  | .move _ | .assign _ | .pick _ _ _ | .build _ _ | .load _ _ | .nilCheck _ | .binOp _ _ _ _ _ | .unOp _ _ _ | .makeInterface _ _ | .makeFunc _ _ _ | .slice _ _ _ _ _
  | .fieldAddr _ _ _ | .field _ _ _ | .indexAddr _ _ _ | .index _ _ _ | .typeAssert _ _ _ _ | .extract _ _ | .convert _ _ _ | .lookup _ _ _ _ => true
  | .call c => (match c.callee with | .builtin .len | .builtin .max | .builtin .min | .builtin .unsafeSliceData => true | _ => false)
  | _ => false
def akind (o : Oper) : Bool :=
  match o.op with
  | .alloc _ | .box _ _ | .buildSlice _ _ _ => true
  | _ => false
def skind (o : Oper) : Bool :=
  match o.op with
  | .store _ _ _ => true
  | _ => false

inductive Kd where
  | skip | pure | load | alloc | eff | tail
  deriving DecidableEq

def maskOf (acc : List Nat) (o : Oper) : Nat :=
  o.after.toList.foldl (fun s e => if Region.binds .any e then s ||| (2 ^ e.on ||| acc.getD e.on 0) else s) 0
def masks : List Oper → List Nat → List Nat
  | [], acc => acc
  | o :: os, acc => masks os (acc ++ [maskOf acc o])

/-- The numbers of the operations of a kind, as bits. -/
def bitsOf (p : Oper → Nat → Bool) : List Oper → Nat → Nat
  | [], _ => 0
  | o :: os, i => (if p o i then 2 ^ i else 0) ||| bitsOf p os (i + 1)

def chainOk (ms : List Nat) : List Nat → Bool
  | a :: b :: l => (ms.getD b 0).testBit a && chainOk ms (b :: l)
  | _ => true

/-- How a region's operations are taken: those that lay blocks and wait for no effect first, with what they wait for; the stores that nothing but stores waits for last. -/
structure Plan where
  p1 : List Nat
  p2 : List Nat
  p3 : List Nat

def planOf (ops : List Oper) (ms : List Nat) : Plan :=
  let effs := bitsOf (fun o _ => !qkind o && !akind o) ops 0
  let fl := bitsOf (fun o i => akind o && ((ms.getD i 0) &&& effs == 0)) ops 0
  let used := (ops.zipIdx.foldl (fun s (x : Oper × Nat) => if skind x.1 then s else s ||| ms.getD x.2 0) 0)
  let idx := List.range ops.length
  let tl := if chainOk ms (idx.filter fun i => (bitsOf (fun o _ => !qkind o) ops 0).testBit i && !fl.testBit i) then 0 else bitsOf (fun o i => skind o && !(used.testBit i)) ops 0
  let d := (ops.zipIdx.foldl (fun s (x : Oper × Nat) => if fl.testBit x.2 then s ||| (2 ^ x.2 ||| ms.getD x.2 0) else s) 0)
  { p1 := idx.filter (fun i => d.testBit i), p2 := idx.filter (fun i => !d.testBit i && !tl.testBit i), p3 := idx.filter (fun i => !d.testBit i && tl.testBit i) }

/-- One operation in its turn: what it was, what it gave, the activation and the memory ahead of it; where it put what it gave, and the memory behind it. -/
structure DRec where
  i : Nat
  o : Oper
  k : Kd
  v : Value
  a : AAct
  h : AHeap
  d : Option Tmp
  n : AHeap

inductive DEnd where
  | done (a : AAct) (h : AHeap)
  | panic (a : AAct) (h : AHeap) (i : Nat) (chain : List PanicEntry) (h' : AHeap) (rest : List Nat)

/-- Behind a panic of operation k: what hangs on nothing of it may still have been. -/
def drest (C : Ctx) (ops : Array Oper) (ms : List Nat) (k : Nat) : List Nat → AAct → AHeap → Option (List DRec)
  | [], _, _ => some []
  | i :: rest, a, h =>
    if (ms.getD i 0).testBit k then drest C ops ms k rest a h else
    match ops[i]? with
    | none => none
    | some o =>
      match awanted ops a o with
      | none => none
      | some false => (match drest C ops ms k rest (a.put o.dst undef) h with | some l => some (⟨i, o, .skip, undef, a, h, o.dst, h⟩ :: l) | none => none)
      | some true =>
        match aquiet C.E a o h with
        | some v => (match drest C ops ms k rest (a.put o.dst v) h with | some l => some (⟨i, o, if looks o then .load else .pure, v, a, h, o.dst, h⟩ :: l) | none => none)
        | none => none

def kindOk (kd : Kd) (o : Oper) : Bool :=
  match kd with
  | .alloc => akind o
  | .tail => skind o
  | .eff => true
  | _ => false

/-- A part of a region: what is not quiet is of kind kd. -/
def dsec (C : Ctx) (ops : Array Oper) (kd : Kd) : List Nat → AAct → AHeap → Option (List DRec × DEnd)
  | [], a, h => some ([], .done a h)
  | i :: rest, a, h =>
    match ops[i]? with
    | none => none
    | some o =>
      match awanted ops a o with
      | none => none
      | some false => (match dsec C ops kd rest (a.put o.dst undef) h with | some (l, e) => some (⟨i, o, .skip, undef, a, h, o.dst, h⟩ :: l, e) | none => none)
      | some true =>
        match aquiet C.E a o h with
        | some v => (match dsec C ops kd rest (a.put o.dst v) h with | some (l, e) => some (⟨i, o, if looks o then .load else .pure, v, a, h, o.dst, h⟩ :: l, e) | none => none)
        | none =>
          if kindOk kd o then
            (match estep C a o h with
            | some (.go v h') => (match dsec C ops kd rest (a.put o.dst v) h' with
              | some (l, e) => some (⟨i, o, kd, v, a, h, o.dst, h'⟩ :: l, e)
              | none => none)
            | some (.panic ch h') => if kd = .eff then some ([⟨i, o, .eff, undef, a, h, none, h⟩], .panic a h i ch h' rest) else none
            | none => none)
          else none

def tmpsOf (l : List Operand) : List Tmp := l.filterMap fun | .tmp t => some t | _ => none
/-- The temporaries that an operation reads. -/
def readsOf (ops : Array Oper) (o : Oper) : List Tmp :=
  (match o.guard with
   | some (j, _) => (match ops[j]? with | some g => g.dst.toList | none => [])
   | none => []) ++ tmpsOf o.op.operands.toList

/-- Edges lead back; no two operations have one result. -/
def regOk (ops : List Oper) : Bool :=
  let l := ops.zipIdx
  (l.all fun x => x.1.after.toList.all fun e => !Region.binds .any e || decide (e.on < x.2)) &&
  (l.all fun x => l.all fun y => decide (x.2 = y.2) || decide (x.1.dst = none) || decide (x.1.dst ≠ y.1.dst))

/-- Whoever reads a result of the region stands to its writer as in our order. x: those that have been. -/
def ordOk (ops : Array Oper) (ms : List Nat) : List Nat → Nat → Bool
  | [], _ => true
  | i :: rest, x =>
    !x.testBit i &&
    (match ops[i]? with
     | some o => (readsOf ops o).all fun t => ops.toList.zipIdx.all fun y =>
        decide (y.1.dst ≠ some t) || decide (y.2 = i) || (x.testBit y.2 && (ms.getD i 0).testBit y.2) || (!x.testBit y.2 && (ms.getD y.2 0).testBit i)
     | none => false) && ordOk ops ms rest (x ||| 2 ^ i)

def recsOf (k : Kd) (l : List DRec) : List DRec := l.filter fun r => r.k = k

/-- Each read of memory gives the same wherever it may come to stand, and each block laid lies untouched. es: the effects behind the stage, pre: those ahead of it. -/
def stageOk (E : Env) (ms : List Nat) (loads : List DRec) (pre es : List Nat) (h : AHeap) : Bool :=
  loads.all fun r =>
    es.any (fun e => (ms.getD r.i 0).testBit e) || pre.any (fun e => (ms.getD e 0).testBit r.i) ||
    (match aquiet E r.a r.o h with | some v => veq v r.v | none => false)

def cellsOf? (h : AHeap) (B : Nat) : Option (List Value × TypeId) :=
  match h.get B with
  | some (.cells vs t 0 none 0) => some (vs, t)
  | _ => none

def allocOk (ms : List Nat) (r : DRec) (h : AHeap) (pre : List Nat) : Bool :=
  pre.any (fun e => (ms.getD e 0).testBit r.i) ||
  (match cellsOf? r.n r.h.n, cellsOf? h r.h.n with
   | some (vs, t), some (vs', t') => decide (t = t') && veqL vs vs'
   | _, _ => false)

def stagesOk (E : Env) (ms : List Nat) (loads : List DRec) (allocs : List DRec) (last : AHeap) : List Nat → List DRec → Bool
  | pre, [] => stageOk E ms loads pre [] last && allocs.all (fun x => allocOk ms x last pre)
  | pre, e :: es => stageOk E ms loads pre (e.i :: es.map (·.i)) e.h && allocs.all (fun x => allocOk ms x e.h pre) && stagesOk E ms loads allocs last (pre ++ [e.i]) es

/-- Where a store goes. -/
def spanOf (E : Env) (r : DRec) : Option (Nat × Nat × Nat × Option Nat) :=
  match r.o.op with
  | .store _ x y => (match r.a.ev E.gl x with
    | .pointer (some ⟨B, o, none⟩) => (match r.h.get B with
      | some (.cells _ _ _ root _) => some (B, o, (r.a.ev E.gl y).cells.size, root)
      | _ => none)
    | _ => none)
  | _ => none
def apartSpans : Nat × Nat × Nat × Option Nat → Nat × Nat × Nat × Option Nat → Bool
  | (B, o, n, r), (B', o', n', r') => if B = B' then decide (o + n ≤ o') || decide (o' + n' ≤ o) else decide (r = none) || decide (r ≠ r')
def spansOk : List (Option (Nat × Nat × Nat × Option Nat)) → Bool
  | [] => true
  | none :: _ => false
  | some s :: l => (l.all fun t => match t with | some t => apartSpans s t | none => false) && spansOk l

def junkAll (ops : Array Oper) (a : AAct) : AAct := ops.toList.foldl (fun a o => a.put o.dst junk) a

def idsOk : Nat → List DRec → Bool
  | _, [] => true
  | n, r :: l => decide (n ≤ r.h.n) && idsOk (r.h.n + 1) l

/-- The checks of a region that draws its order. base: the memory ahead of the last stores. -/
def drawOk (C : Ctx) (ops : Array Oper) (ms : List Nat) (h0 : AHeap) (r1 r2 r3 : List DRec) (base : AHeap) (pk : Option Nat) : Bool :=
  let recs := r1 ++ (r2 ++ r3)
  let effs := recsOf .eff r2
  let tails := recsOf .tail r3
  let allocs := recsOf .alloc r1
  let loads := recsOf .load recs
  let loud := (recs.filter fun r => r.k = .eff || r.k = .load || r.k = .alloc)
  regOk ops.toList && ordOk ops ms (recs.map (·.i)) 0 &&
  ((List.range ops.size).all fun i => recs.any (fun r => r.i == i) || (match pk with | some k => (ms.getD i 0).testBit k | none => false)) &&
  chainOk ms (effs.map (·.i)) && idsOk h0.n allocs &&
  stagesOk C.E ms loads allocs base [] effs &&
  (tails.all fun r => loud.all fun s => (ms.getD r.i 0).testBit s.i) && spansOk (tails.map (spanOf C.E))

/-- What of the checks hangs on the text alone. -/
def staticOk (ops : Array Oper) (l : List Nat) : Bool :=
  regOk ops.toList && ordOk ops (masks ops.toList []) l 0 && (List.range ops.size).all fun i => l.any fun j => j == i
/-- What of the checks hangs on the run. -/
def dynOk (C : Ctx) (ms : List Nat) (h0 : AHeap) (r1 r2 r3 : List DRec) (base : AHeap) : Bool :=
  let recs := r1 ++ (r2 ++ r3)
  let effs := recsOf .eff r2
  let tails := recsOf .tail r3
  let allocs := recsOf .alloc r1
  let loads := recsOf .load recs
  chainOk ms (effs.map (·.i)) && idsOk h0.n allocs &&
  ((loads.isEmpty && allocs.isEmpty) || stagesOk C.E ms loads allocs base [] effs) &&
  (tails.isEmpty || ((tails.all fun r => (recs.filter fun r => r.k = .eff || r.k = .load || r.k = .alloc).all fun s => (ms.getD r.i 0).testBit s.i) && spansOk (tails.map (spanOf C.E))))

def adraw (C : Ctx) (ops : Array Oper) (a : AAct) (u : Option FrameMode) (h : AHeap) : Option ARes :=
  let ms := masks ops.toList []
  let p := planOf ops.toList ms
  match dsec C ops .alloc p.p1 a h with
  | some (r1, .done a1 h1) =>
    (match dsec C ops .eff p.p2 a1 h1 with
    | some (r2, .done a2 h2) =>
      (match dsec C ops .tail p.p3 a2 h2 with
      | some (r3, .done a3 h3) => if staticOk ops (p.p1 ++ (p.p2 ++ p.p3)) && dynOk C ms h r1 r2 r3 h2 then some ⟨.normal, a3, u, h3⟩ else none
      | _ => none)
    | some (r2, .panic a2 h2 i ch h' rest) =>
      (match drest C ops ms i (rest ++ p.p3) a2 h2 with
      | some r3 => if drawOk C ops ms h r1 (r2 ++ r3) [] h2 (some i) then some ⟨.panic ch, junkAll ops a, u, h'⟩ else none
      | none => none)
    | _ => none)
  | _ => none

/-! ### Code -/
def acode (C : Ctx) : Code → AAct → Option FrameMode → AHeap → Option ARes
  | .skip, a, u, h => some ⟨.normal, a, u, h⟩
  | .label _, a, u, h => some ⟨.normal, a, u, h⟩
  | .region _ ops draw, a, u, h => if draw then adraw C ops a u h else aops C ops (List.range ops.size) a u h
  | .seq x y, a, u, h =>
    match acode C x a u h with
    | some ⟨.normal, a', u', h'⟩ => acode C y a' u' h'
    | r => r
  | .cond c x y, a, u, h =>
    match a.ev C.E.gl c with
    | .bool true => acode C x a u h
    | .bool false => acode C y a u h
    | _ => none
  | .block id c, a, u, h =>
    match acode C c a u h with
    | some ⟨.exit id', a', u', h'⟩ => if id' = id then some ⟨.normal, a', u', h'⟩ else some ⟨.exit id', a', u', h'⟩
    | r => r
  | .loop c, a, u, h => aloop (fun a u h => acode C c a u h) C.fuel a u h
  | .scope c, a, u, h =>
    match acode C c a u h with
    | some ⟨.goto _, _, _, _⟩ => none
    | r => r
  | .exit id, a, u, h => some ⟨.exit id, a, u, h⟩
  | .ret, a, u, h => some ⟨.ret, a, u, h⟩
  | .rangeFunc f params assign body, a, u, h => arangeFunc C f params assign body a u h
  | .goto _, _, _, _ => none
  | .refuse _, _, _, _ => none

/-! ### Calls -/
def fillArgs : Nat → List Value → Tr Value → Tr Value
  | _, [], t => t
  | i, v :: l, t => fillArgs (i + 1) l (t.set i v)

def enterAct (fn : Func) (args : Array Value) : AAct := { nt := args.size + (fn.ntmps - args.size), tmps := fillArgs 0 args.toList .nil, defers := [] }

def aresult (E : Env) (a : AAct) (h : AHeap) : ResultVar → Option Value
  | .tmp t => some (a.tmp t)
  | .cell x t => aload E.P t (a.tmp x) h

def aresultsL (E : Env) (a : AAct) (h : AHeap) : List ResultVar → Option (List Value)
  | [] => some []
  | r :: l => match aresult E a h r with
    | some v => (match aresultsL E a h l with | some vs => some (v :: vs) | none => none)
    | none => none

def aresults (E : Env) (fn : Func) (a : AAct) (h : AHeap) : Option Value :=
  match aresultsL E a h fn.results.toList with
  | some [v] => some v
  | some vs => some (.tuple vs.toArray)
  | none => none

def aleave (E : Env) (callD : CallDH) (fn : Func) (a : AAct) : List Deferred → FrameMode → AHeap → Option (Ending × AHeap)
  | [], .returning, h => (match aresults E fn a h with | some v => some (.returned v, h) | none => none)
  | [], .panicking ch, h => some (.panicked ch, h)
  | [], .run, _ => none
  | d :: ds, u, h =>
    match u with
    | .run => none
    | u =>
      match d.target with
      | .collected B => (match h.get B with
        | some (.deferred true) => aleave E callD fn a ds u (h.set B (.deferred false))
        | _ => none)
      | .fn (.func f) captured => (match callD f (d.args ++ captured) u h with
        | some (.returned _, u', h') => aleave E callD fn a ds (settle u') h'
        | some (.panicked ch, u', h') => aleave E callD fn a ds (raised u' ch) h'
        | _ => none)
      | _ => none

def setParams : List (Tmp × Value) → AAct → AAct
  | [], a => a
  | (t, v) :: l, a => setParams l (a.set t v)

/-- What a function's body comes to, given what it may call. -/
def abody (E : Env) (fuel : Nat) (call : CallH) (round : Nat → Array Value → AHeap → Option (Ending × AHeap)) (f : FuncId) (u : Option FrameMode) (args : Array Value) (h : AHeap) : Option (Func × ARes) :=
  match E.P.funcs[f]? with
  | some fn => (match fn.body with
    | some c => (match acode { E := E, fid := f, ro := none, call := call, round := round, fuel := fuel } c (enterAct fn args) u h with
      | some r => some (fn, r)
      | none => none)
    | none => none)
  | none => none

def acallBy (E : Env) (fuel : Nat) (call : CallH) (round : Nat → Array Value → AHeap → Option (Ending × AHeap)) (callD : CallDH) : CallH := fun f args h =>
  match abody E fuel call round f none args h with
  | some (fn, ⟨.normal, a, _, h'⟩) => aleave E callD fn a a.defers .returning h'
  | some (fn, ⟨.ret, a, _, h'⟩) => aleave E callD fn a a.defers .returning h'
  | some (fn, ⟨.panic ch, a, _, h'⟩) => aleave E callD fn a a.defers (.panicking ch) h'
  | _ => none

def acallDBy (E : Env) (fuel : Nat) (call : CallH) (round : Nat → Array Value → AHeap → Option (Ending × AHeap)) : CallDH := fun f args u h =>
  match E.ext f with
  | some _ => none
  | none =>
  match abody E fuel call round f (some u) args h with
  | some (fn, ⟨.panic ch, a, some u', h'⟩) => if a.defers.isEmpty then some (.panicked ch, u', h') else none
  | some (fn, ⟨.normal, a, some u', h'⟩) => if a.defers.isEmpty then (match aresults E fn a h' with | some v => some (.returned v, u', h') | none => none) else none
  | some (fn, ⟨.ret, a, some u', h'⟩) => if a.defers.isEmpty then (match aresults E fn a h' with | some v => some (.returned v, u', h') | none => none) else none
  | _ => none

def aendRound (l : Nat) (jump : Option Code) (h : AHeap) : Option (Ending × AHeap) :=
  match h.get l with
  | some (.loop L) => some (.returned (.bool jump.isNone), h.set l (.loop { L with state := if jump.isNone then .ready else .done, pending := jump }))
  | _ => none

def aroundBy (E : Env) (fuel : Nat) (call : CallH) (round : Nat → Array Value → AHeap → Option (Ending × AHeap)) : Nat → Array Value → AHeap → Option (Ending × AHeap) := fun l args h =>
  match h.get l with
  | some (.loop L) =>
    if L.params.size = args.size then
      let C : Ctx := { E := E, fid := L.fn, ro := some l, call := call, round := round, fuel := fuel }
      match acode C L.assign (setParams (L.params.toList.zip args.toList) { L.act with defers := [] }) none h with
      | some ⟨.normal, a1, _, h1⟩ =>
        (match h1.get l with
        | some (.loop L1) =>
          if L1.state = .ready then
            (match acode C L.body a1 none (h1.set l (.loop { L1 with state := .busy })) with
            | some ⟨.normal, a2, _, h2⟩ => if a2.defers.isEmpty then aendRound l none h2 else none
            | some ⟨.ret, a2, _, h2⟩ => if a2.defers.isEmpty then aendRound l (some .ret) h2 else none
            | some ⟨.exit id, a2, _, h2⟩ => if a2.defers.isEmpty then aendRound l (some (.exit id)) h2 else none
            | some ⟨.panic ch, a2, _, h2⟩ => if a2.defers.isEmpty && (E.P.funcs[L.fn]?).isSome then some (.panicked ch, h2) else none
            | _ => none)
          else none
        | _ => none)
      | _ => none
    else none
  | _ => none

structure Hands where
  call : CallH
  round : Nat → Array Value → AHeap → Option (Ending × AHeap)
  callD : CallDH

def hands (E : Env) (fuel : Nat) : Nat → Hands
  | 0 => { call := fun _ _ _ => none, round := fun _ _ _ => none, callD := fun _ _ _ _ => none }
  | n + 1 =>
    let H := hands E fuel n
    { call := acallBy E fuel H.call H.round H.callD, round := aroundBy E fuel H.call H.round, callD := acallDBy E fuel H.call H.round }

def acall (E : Env) (fuel n : Nat) : CallH := (hands E fuel n).call
end Go.Eng

set_option linter.unusedVariables false
set_option linter.unusedSimpArgs false
namespace Go.Eng

/-! ### The relation on modes, exits, endings -/
inductive PER (β : Emb) : PanicEntry → PanicEntry → Prop
  | mk (v v' : Value) (r g : Bool) (h : VR β v v') : PER β { v := v, recovered := r, goexit := g } { v := v', recovered := r, goexit := g }
inductive ChR (β : Emb) : List PanicEntry → List PanicEntry → Prop
  | nil : ChR β [] []
  | cons {x x' : PanicEntry} {l l' : List PanicEntry} (h : PER β x x') (t : ChR β l l') : ChR β (x :: l) (x' :: l')
inductive MR (β : Emb) : FrameMode → FrameMode → Prop
  | run : MR β .run .run
  | returning : MR β .returning .returning
  | panicking (ch ch' : List PanicEntry) (h : ChR β ch ch') : MR β (.panicking ch) (.panicking ch')
inductive OMR (β : Emb) : Option FrameMode → Option FrameMode → Prop
  | none : OMR β none none
  | some (m m' : FrameMode) (h : MR β m m') : OMR β (some m) (some m')
inductive ExR (β : Emb) : Exit → Exit → Prop
  | normal : ExR β .normal .normal
  | exit (id : Nat) : ExR β (.exit id) (.exit id)
  | ret : ExR β .ret .ret
  | panic (ch ch' : List PanicEntry) (h : ChR β ch ch') : ExR β (.panic ch) (.panic ch')
inductive EnR (β : Emb) : Ending → Ending → Prop
  | returned (v v' : Value) (h : VR β v v') : EnR β (.returned v) (.returned v')
  | panicked (ch ch' : List PanicEntry) (h : ChR β ch ch') : EnR β (.panicked ch) (.panicked ch')

theorem PER.mono {β β' : Emb} (hle : Emb.le β β') {x x' : PanicEntry} (h : PER β x x') : PER β' x x' := by
  cases h with | mk v v' r g h => exact .mk _ _ _ _ (h.mono hle)
theorem ChR.mono {β β' : Emb} (hle : Emb.le β β') {x x' : List PanicEntry} (h : ChR β x x') : ChR β' x x' := by
  induction h with
  | nil => exact .nil
  | cons h _ ih => exact .cons (h.mono hle) ih
theorem ChR.append {β : Emb} {x x' y y' : List PanicEntry} (h : ChR β x x') (k : ChR β y y') : ChR β (x ++ y) (x' ++ y') := by
  induction h with
  | nil => exact k
  | cons h _ ih => exact .cons h ih
theorem MR.mono {β β' : Emb} (hle : Emb.le β β') {x x' : FrameMode} (h : MR β x x') : MR β' x x' := by
  cases h with
  | run => exact .run
  | returning => exact .returning
  | panicking ch ch' h => exact .panicking _ _ (h.mono hle)
theorem OMR.mono {β β' : Emb} (hle : Emb.le β β') {x x' : Option FrameMode} (h : OMR β x x') : OMR β' x x' := by
  cases h with
  | none => exact .none
  | some m m' h => exact .some _ _ (h.mono hle)

def lay (c0 : Frame) (rest cs : List Frame) : Option FrameMode → List Frame
  | none => cs
  | some m => { c0 with mode := m } :: rest

def KindR : Option FrameMode → CallKind → Prop
  | none, k => k = .normal
  | some _, k => k = .deferred

def RoR (β : Emb) : Option Nat → Option Nat → Prop
  | none, none => True
  | some l, some c => ∃ e, β l = some e ∧ e.c = c
  | _, _ => False
theorem RoR.mono {β β' : Emb} (hle : Emb.le β β') {x x' : Option Nat} (h : RoR β x x') : RoR β' x x' := by
  cases x <;> cases x' <;> first | exact h | (obtain ⟨e, h1, h2⟩ := h; exact ⟨e, hle _ _ h1, h2⟩)
theorem RoR.isSome {β : Emb} {x x' : Option Nat} (h : RoR β x x') : x'.isSome = x.isSome := by
  cases x <;> cases x' <;> first | rfl | exact h.elim

structure StR (E : Env) (β : Emb) (a : AAct) (u : Option FrameMode) (h : AHeap) (a₁ : Act) (u₁ : Option FrameMode) (w : World) : Prop where
  hr : HR β h w.heap
  gl : GlR E.gl β
  act : ActR β a a₁
  u : OMR β u u₁

/-! ### What a call, a round, a deferred call is to be -/
def CallOK (E : Env) (call : CallH) : Prop := ∀ f args h e h', call f args h = some (e, h') → ∀ β w args', HR β h w.heap → GlR E.gl β → ArrR β args args' → ∀ cs,
  ∃ β' e' w' fr, HR β' h' w'.heap ∧ Ext β h w β' h' w' ∧ EnR β' e e' ∧ Steps E.P (lone (Frame.enter E.P f args' .normal) cs w) (lone fr cs w') ∧ fr.fn = f ∧ fr.leaving E.P w' e'

def RoundOK (E : Env) (round : Nat → Array Value → AHeap → Option (Ending × AHeap)) : Prop := ∀ l args h e h', round l args h = some (e, h') → ∀ β w args' em, HR β h w.heap → GlR E.gl β → ArrR β args args' → β l = some em →
  ∃ f tmps assign body, (Instr.yield em.c args').run E.P w = .ok (.round em.c f tmps assign body) w ∧ ∀ c cs,
    ∃ β' e' w' fr, HR β' h' w'.heap ∧ Ext β h w β' h' w' ∧ EnR β' e e' ∧ Steps E.P (lone (Frame.round em.c f tmps assign body .normal) (c :: cs) w)
      (lone fr cs w') ∧ (match e' with | .returned v' => fr = c.finish v' | .panicked ch' => fr = c.raise ch' | .outgrown => False)

def CallDOK (E : Env) (callD : CallDH) : Prop := ∀ f args u h e u' h', callD f args u h = some (e, u', h') → ∀ β w args' m, HR β h w.heap → GlR E.gl β → ArrR β args args' → MR β u m → ∀ c cs, c.mode = m →
  ∃ β' e' m' w' fr, HR β' h' w'.heap ∧ Ext β h w β' h' w' ∧ EnR β' e e' ∧ MR β' u' m' ∧ Steps E.P (lone (Frame.enter E.P f args' .deferred) (c :: cs) w) (lone fr ({ c with mode := m' } :: cs) w') ∧
    fr.kind = .deferred ∧ fr.going E.P w' e' ∧ (callFunc f args').run E.P w = .ok (.enter f args') w

structure CtxOK (C : Ctx) : Prop where
  env : EnvOK C.E
  call : CallOK C.E C.call
  round : RoundOK C.E C.round

/-! ### Activations -/
theorem AAct.tmp_set (a : AAct) (t : Nat) (v : Value) (t' : Nat) : (a.set t v).tmp t' = if t' = t ∧ t < a.nt then v else a.tmp t' := by
  obtain ⟨nt, tmps, ds⟩ := a
  simp only [AAct.set]
  split
  · rename_i h
    simp only [AAct.tmp, Tr.get_set]
    by_cases he : t' = t
    · subst he; simp [h]
    · simp [he]
  · rename_i h; simp [h]

theorem AAct.nt_set (a : AAct) (t : Nat) (v : Value) : (a.set t v).nt = a.nt := by obtain ⟨nt, tmps, ds⟩ := a; simp only [AAct.set]; split <;> rfl
theorem AAct.defers_set (a : AAct) (t : Nat) (v : Value) : (a.set t v).defers = a.defers := by obtain ⟨nt, tmps, ds⟩ := a; simp only [AAct.set]; split <;> rfl

theorem getD_setIfInBounds (ts : Array Value) (t : Nat) (v d : Value) (t' : Nat) : (ts.setIfInBounds t v).getD t' d = if t' = t ∧ t < ts.size then v else ts.getD t' d := by
  simp only [Array.getD_eq_getD_getElem?, Array.getElem?_setIfInBounds]
  by_cases he : t' = t
  · subst he
    by_cases hl : t' < ts.size
    · simp [hl]
    · simp [hl]
  · simp [he, Ne.symm he]

theorem ActR.set {β : Emb} {a : AAct} {a₁ : Act} (h : ActR β a a₁) {v v' : Value} (hv : VR β v v') (t : Nat) : ActR β (a.set t v) { a₁ with tmps := a₁.tmps.setIfInBounds t v' } := by
  refine ⟨by simpa [AAct.nt_set] using h.size, fun t' => ?_, by simpa [AAct.defers_set] using h.defers⟩
  rw [AAct.tmp_set, getD_setIfInBounds, h.size]
  split
  · exact hv
  · exact h.tmp t'

theorem ActR.put {β : Emb} {a : AAct} {a₁ : Act} (h : ActR β a a₁) {v v' : Value} (hv : VR β v v') (dst : Option Tmp) : ActR β (a.put dst v) (a₁.put dst v') := by
  cases dst with
  | none => exact h
  | some d => exact h.set hv d

theorem ActR.defer {β : Emb} {a : AAct} {a₁ : Act} (h : ActR β a a₁) {d d' : List Deferred} (hd : DsR β d d') : ActR β { a with defers := d } { a₁ with defers := d' } :=
  ⟨h.size, h.tmp, hd⟩

theorem VR.inv_bool {β : Emb} {b : Bool} {x : Value} (h : VR β (.bool b) x) : x = .bool b := by cases h; rfl

theorem wanted_ok {β : Emb} {ops : Array Oper} {a : AAct} {a₁ : Act} (h : ActR β a a₁) {o : Oper} {t : Bool} (hw : awanted ops a o = some t) : Region.wanted o (yielded ops a₁.tmps) = t := by
  unfold awanted at hw
  unfold Region.wanted
  split at hw
  · rename_i hg; cases hw; simp [hg]
  · rename_i j want hg
    simp only [hg]
    split at hw
    · rename_i b hy
      cases hw
      unfold ayielded at hy
      split at hy
      case h_2 => cases hy
      rename_i o2 ho2
      split at hy
      case h_2 => cases hy
      rename_i d hd
      split at hy
      case h_2 => cases hy
      rename_i b' hb
      cases hy
      have hv := h.tmp d
      rw [hb] at hv
      have := hv.inv_bool
      have hsome : a₁.tmps[d]? = some (.bool b) := by
        rw [Array.getD_eq_getD_getElem?] at this
        cases hx : a₁.tmps[d]? with
        | none => rw [hx] at this; simp [undef] at this
        | some x => rw [hx] at this; simpa using this
      have hy : yielded ops a₁.tmps j = some b := by simp [yielded, ho2, hd, hsome]
      rw [hy]
      cases b <;> cases want <;> rfl
    · split at hw
      case h_2 => cases hw
      rename_i o2 ho2
      split at hw
      case h_2 => cases hw
      rename_i d hd
      split at hw
      case h_2 => cases hw
      rename_i vs hvs
      split at hw
      case isFalse => cases hw
      rename_i hz
      cases hw
      have hv := h.tmp d
      rw [hvs] at hv
      have hy : yielded ops a₁.tmps j = none := by
        simp only [yielded, ho2, Option.bind_some, hd]
        rw [Array.getD_eq_getD_getElem?] at hv
        cases hx : a₁.tmps[d]? with
        | none => rfl
        | some x =>
          rw [hx] at hv
          simp only [Option.getD_some] at hv
          cases hv
          rfl
      rw [hy]
      rfl

/-! ### One step -/
theorem steps_one {P : Program} {b : Frame} {a₁ : Act} {ops : Array Oper} {i : Nat} {rest : List Nat} {k : List Item} {cs : List Frame} {w w' : World} {o : Oper} {v : Value} {d : List Deferred} {cs' : List Frame}
    (ho : ops[i]? = some o) (hw : Region.wanted o (yielded ops a₁.tmps) = true)
    (h : (stepG.apply P true (b.atR a₁ (.inRegion ops (i :: rest) :: k)) cs none (o.semAt b.roundOf a₁.eval) w).bare =
      .go { frame := b.atR (({ a₁ with defers := d } : Act).put o.dst v) (.inRegion ops rest :: k), callers := cs', status := .running, dying := none } w') :
    Steps P (lone (b.atR a₁ (.inRegion ops (i :: rest) :: k)) cs w) (lone (b.atR (({ a₁ with defers := d } : Act).put o.dst v) (.inRegion ops rest :: k)) cs' w') :=
  .one (step_lone_go (by rw [stepGR_op ho hw]; exact h))

/-- What one wanted operation comes to, told of the machine. -/
def StepR (C : Ctx) (β : Emb) (h : AHeap) (w : World) (b : Frame) (a₁ : Act) (o : Oper) (ops : Array Oper) (rest : List Nat) (k : List Item) (c0 : Frame) (rs cs : List Frame) (u₁ : Option FrameMode) (m : Machine) : AStep → Prop
  | .go v d u' h' => ∃ β' v' d' u₁' w', HR β' h' w'.heap ∧ Ext β h w β' h' w' ∧ VR β' v v' ∧ DsR β' d d' ∧ OMR β' u' u₁' ∧ KindR u' b.kind ∧
      Steps C.E.P m (lone (b.atR (({ a₁ with defers := d' } : Act).put o.dst v') (.inRegion ops rest :: k)) (lay c0 rs cs u₁') w')
  | .panic ch h' => ∃ β' ch' w' todo, HR β' h' w'.heap ∧ Ext β h w β' h' w' ∧ ChR β' ch ch' ∧ Steps C.E.P m (lone { b.atR a₁ todo with mode := .panicking ch' } (lay c0 rs cs u₁) w')

theorem step_ok {C : Ctx} (hC : CtxOK C) {β : Emb} {a : AAct} {u : Option FrameMode} {h : AHeap} {a₁ : Act} {u₁ : Option FrameMode} {w : World} {b : Frame} {ops : Array Oper} {i : Nat} {rest : List Nat} {k : List Item}
    {c0 : Frame} {rs cs : List Frame} {o : Oper} {s : AStep} (S : StR C.E β a u h a₁ u₁ w) (hk : KindR u b.kind) (hro : RoR β C.ro b.roundOf) (ho : ops[i]? = some o)
    (hw : Region.wanted o (yielded ops a₁.tmps) = true) (hs : astep C a u o h = some s) :
    StepR C β h w b a₁ o ops rest k c0 rs cs u₁ (lone (b.atR a₁ (.inRegion ops (i :: rest) :: k)) (lay c0 rs cs u₁) w) s := by
  have hfin : ∀ v, (b.atR a₁ (.inRegion ops (i :: rest) :: k)).finish v = b.atR (({ a₁ with defers := a₁.defers } : Act).put o.dst v) (.inRegion ops rest :: k) := by
    intro v; rw [Frame.finish_atR, ho]; rfl
  unfold astep at hs
  rw [← hro.isSome] at hs
  split at hs
  · -- a value
    rename_i v h' hop
    cases hs
    obtain ⟨β', v', w', hr, hv, H', X⟩ := op_ok hC.env S.hr S.gl S.act hop
    refine ⟨β', v', a₁.defers, u₁, w', H', X, hv, S.act.defers.mono X.le, S.u.mono X.le, hk, steps_one ho hw ?_⟩
    rw [← hfin]; simp [stepG.apply, hr]
  · rename_i h' hop
    cases hs
    obtain ⟨β', w', hr, H', X⟩ := op_ok hC.env S.hr S.gl S.act hop
    refine ⟨β', undef, a₁.defers, u₁, w', H', X, VR.undef _, S.act.defers.mono X.le, S.u.mono X.le, hk, steps_one ho hw ?_⟩
    rw [← hfin]; simp [stepG.apply, hr]
  · -- a call
    rename_i f args h' hop
    obtain ⟨rfl, args', hr, hargs⟩ := op_ok hC.env S.hr S.gl S.act hop
    have henter : step C.E.P (lone (b.atR a₁ (.inRegion ops (i :: rest) :: k)) (lay c0 rs cs u₁) w) =
        .next (lone (Frame.enter C.E.P f args' .normal) (b.atR a₁ (.inRegion ops (i :: rest) :: k) :: lay c0 rs cs u₁) w) :=
      step_lone_go (by rw [stepGR_op ho hw]; simp [stepG.apply, hr, Frame.atR])
    split at hs
    · rename_i v h2 hcall
      cases hs
      obtain ⟨β', e', w', fr, H', X, he, hst, hfn, hl⟩ := hC.call f args h' _ _ hcall β w args' S.hr S.gl hargs (b.atR a₁ (.inRegion ops (i :: rest) :: k) :: lay c0 rs cs u₁)
      cases he with
      | returned _ v' hv =>
        refine ⟨β', v', a₁.defers, u₁, w', H', X, hv, S.act.defers.mono X.le, S.u.mono X.le, hk, ?_⟩
        rw [← hfin]
        exact .head henter (hst.trans (.one (step_leave_returned hl)))
    · rename_i ch h2 hcall
      cases hs
      obtain ⟨β', e', w', fr, H', X, he, hst, hfn, hl⟩ := hC.call f args h' _ _ hcall β w args' S.hr S.gl hargs (b.atR a₁ (.inRegion ops (i :: rest) :: k) :: lay c0 rs cs u₁)
      cases he with
      | panicked _ ch' hch =>
        refine ⟨β', ch', w', .inRegion ops (i :: rest) :: k, H', X, hch, ?_⟩
        rw [← Frame.raise_atR]
        exact .head henter (hst.trans (.one (step_leave_panicked hl)))
    · cases hs
  · -- a round
    rename_i l args h' hop
    obtain ⟨rfl, args', em, hem, hr, hargs⟩ := op_ok hC.env S.hr S.gl S.act hop
    split at hs
    · rename_i v h2 hcall
      cases hs
      obtain ⟨f, tmps, assign, body, hy, hrun⟩ := hC.round l args h' _ _ hcall β w args' em S.hr S.gl hargs hem
      rw [hy] at hr
      have henter : step C.E.P (lone (b.atR a₁ (.inRegion ops (i :: rest) :: k)) (lay c0 rs cs u₁) w) =
          .next (lone (Frame.round em.c f tmps assign body .normal) (b.atR a₁ (.inRegion ops (i :: rest) :: k) :: lay c0 rs cs u₁) w) :=
        step_lone_go (by rw [stepGR_op ho hw]; simp [stepG.apply, hr, Frame.atR])
      obtain ⟨β', e', w', fr, H', X, he, hst, hfr⟩ := hrun (b.atR a₁ (.inRegion ops (i :: rest) :: k)) (lay c0 rs cs u₁)
      cases he with
      | returned _ v' hv =>
        simp only at hfr
        subst hfr
        refine ⟨β', v', a₁.defers, u₁, w', H', X, hv, S.act.defers.mono X.le, S.u.mono X.le, hk, ?_⟩
        rw [← hfin]
        exact .head henter hst
    · rename_i ch h2 hcall
      cases hs
      obtain ⟨f, tmps, assign, body, hy, hrun⟩ := hC.round l args h' _ _ hcall β w args' em S.hr S.gl hargs hem
      rw [hy] at hr
      have henter : step C.E.P (lone (b.atR a₁ (.inRegion ops (i :: rest) :: k)) (lay c0 rs cs u₁) w) =
          .next (lone (Frame.round em.c f tmps assign body .normal) (b.atR a₁ (.inRegion ops (i :: rest) :: k) :: lay c0 rs cs u₁) w) :=
        step_lone_go (by rw [stepGR_op ho hw]; simp [stepG.apply, hr, Frame.atR])
      obtain ⟨β', e', w', fr, H', X, he, hst, hfr⟩ := hrun (b.atR a₁ (.inRegion ops (i :: rest) :: k)) (lay c0 rs cs u₁)
      cases he with
      | panicked _ ch' hch =>
        simp only at hfr
        subst hfr
        refine ⟨β', ch', w', .inRegion ops (i :: rest) :: k, H', X, hch, ?_⟩
        rw [← Frame.raise_atR]
        exact .head henter hst
    · cases hs
  · -- a deferred call
    rename_i d h' hop
    cases hs
    obtain ⟨rfl, d', hr, hd⟩ := op_ok hC.env S.hr S.gl S.act hop
    refine ⟨β, undef, d' :: a₁.defers, u₁, w, S.hr, Ext.refl _ _ _, VR.undef _, .cons hd S.act.defers, S.u, hk, steps_one ho hw ?_⟩
    have : ({ b.atR a₁ (.inRegion ops (i :: rest) :: k) with defers := d' :: a₁.defers } : Frame).finish undef =
        b.atR ({ a₁ with defers := d' :: a₁.defers }.put o.dst undef) (.inRegion ops rest :: k) := by
      have := Frame.finish_atR b { a₁ with defers := d' :: a₁.defers } ops i rest k undef
      rw [ho] at this; exact this
    simp only [stepG.apply, Sem.runT_eq, hr, GStep.bare_after, if_true]
    exact congrArg (fun fr => GStep.go { frame := fr, callers := lay c0 rs cs u₁, status := .running, dying := none } w) this
  · -- recover
    rename_i h' hop
    split at hs
    · cases hs
    rename_i hnr
    have hnr' : b.roundOf = none := by
      cases hb : b.roundOf with
      | none => rfl
      | some x => rw [hb] at hnr; simp at hnr
    obtain ⟨rfl, hr⟩ := op_ok hC.env S.hr S.gl S.act hop
    have hnorec : tryRecover (b.atR a₁ (.inRegion ops (i :: rest) :: k)) (lay c0 rs cs u₁) = none →
        Steps C.E.P (lone (b.atR a₁ (.inRegion ops (i :: rest) :: k)) (lay c0 rs cs u₁) w) (lone (b.atR (({ a₁ with defers := a₁.defers } : Act).put o.dst .nilIface) (.inRegion ops rest :: k)) (lay c0 rs cs u₁) w) := by
      intro htr
      refine steps_one ho hw ?_
      rw [← hfin]
      have hrn : (b.atR a₁ (.inRegion ops (i :: rest) :: k)).roundOf = none := hnr'
      simp only [stepG.apply, Sem.runT_eq, hr, GStep.bare_after, if_true]
      rw [hrn]
      simp only [htr, GStep.bare_go]
    have hrec : ∀ v' cs', tryRecover (b.atR a₁ (.inRegion ops (i :: rest) :: k)) (lay c0 rs cs u₁) = some (v', cs') →
        Steps C.E.P (lone (b.atR a₁ (.inRegion ops (i :: rest) :: k)) (lay c0 rs cs u₁) w) (lone (b.atR (({ a₁ with defers := a₁.defers } : Act).put o.dst v') (.inRegion ops rest :: k)) cs' w) := by
      intro v' cs' htr
      refine steps_one ho hw ?_
      rw [← hfin]
      have hrn : (b.atR a₁ (.inRegion ops (i :: rest) :: k)).roundOf = none := hnr'
      simp only [stepG.apply, Sem.runT_eq, hr, GStep.bare_after, if_true]
      rw [hrn]
      simp only [htr, GStep.bare_go]
    have hnone : (s = .go .nilIface a.defers u h') → tryRecover (b.atR a₁ (.inRegion ops (i :: rest) :: k)) (lay c0 rs cs u₁) = none →
        StepR C β h' w b a₁ o ops rest k c0 rs cs u₁ (lone (b.atR a₁ (.inRegion ops (i :: rest) :: k)) (lay c0 rs cs u₁) w) s := by
      intro hs htr
      subst hs
      exact ⟨β, .nilIface, a₁.defers, u₁, w, S.hr, Ext.refl _ _ _, .nilIface, S.act.defers, S.u, hk, hnorec htr⟩
    have hu := S.u
    cases hu with
    | none =>
      cases hs
      refine hnone rfl ?_
      have hkn : (b.atR a₁ (.inRegion ops (i :: rest) :: k)).kind = .normal := hk
      unfold tryRecover
      rw [hkn]
    | some m m₁ hm =>
      have hkn : (b.atR a₁ (.inRegion ops (i :: rest) :: k)).kind = .deferred := hk
      have htr := tryRecover_deferred hkn (lay c0 rs cs (some m₁))
      cases hm with
      | run => cases hs; exact hnone rfl (by rw [htr]; rfl)
      | returning => cases hs; exact hnone rfl (by rw [htr]; rfl)
      | panicking ch ch' hch =>
        cases hch with
        | nil => cases hs; exact hnone rfl (by rw [htr]; rfl)
        | cons hx ht =>
          cases hx with
          | mk v v' r g hv =>
            cases r with
            | true => cases hs; exact hnone rfl (by rw [htr]; rfl)
            | false =>
              cases g with
              | true => cases hs; exact hnone rfl (by rw [htr]; rfl)
              | false =>
                cases hs
                exact ⟨β, v', a₁.defers, some (.panicking ({ v := v', recovered := true } :: _)), w, S.hr, Ext.refl _ _ _, hv, S.act.defers,
                  .some _ _ (.panicking _ _ (.cons (.mk _ _ _ _ hv) ht)), hk, hrec _ _ (by rw [htr]; rfl)⟩
  · -- a panic
    rename_i v h' hop
    cases hs
    obtain ⟨rfl, v', hr, hv⟩ := op_ok hC.env S.hr S.gl S.act hop
    refine ⟨β, [{ v := v', recovered := false }], w, .inRegion ops (i :: rest) :: k, S.hr, Ext.refl _ _ _, .cons (.mk _ _ _ _ hv) .nil, .one (step_lone_go ?_)⟩
    rw [stepGR_op ho hw, ← Frame.raise_atR]; simp [stepG.apply, hr]
  · cases hs
end Go.Eng

set_option linter.unusedVariables false
set_option linter.unusedSimpArgs false
namespace Go.Eng

/-- How a piece of code is left: an exit and a return are not yet made. -/
def Arr (P : Program) (m : Machine) (b : Frame) (k : List Item) (cs : List Frame) : Exit → Act → World → Prop
  | .normal, a, w => Steps P m (lone (b.atR a k) cs w)
  | .exit id, a, w => ∃ k₁, exitTo id k₁ = exitTo id k ∧ Steps P m (lone (b.atR a (.code (.exit id) :: k₁)) cs w)
  | .ret, a, w => ∃ k₁, Steps P m (lone (b.atR a (.code .ret :: k₁)) cs w)
  | .panic ch, a, w => ∃ todo, Steps P m (lone { b.atR a todo with mode := .panicking ch } cs w)
  | _, _, _ => False

theorem Arr.of_steps {P : Program} {m m₁ : Machine} {b : Frame} {k : List Item} {cs : List Frame} {e : Exit} {a : Act} {w : World} (h : Steps P m m₁) (h' : Arr P m₁ b k cs e a w) : Arr P m b k cs e a w := by
  cases e with
  | normal => exact h.trans h'
  | exit id => obtain ⟨k₁, h1, h2⟩ := h'; exact ⟨k₁, h1, h.trans h2⟩
  | ret => obtain ⟨k₁, h2⟩ := h'; exact ⟨k₁, h.trans h2⟩
  | panic ch => obtain ⟨k₁, h2⟩ := h'; exact ⟨k₁, h.trans h2⟩
  | goto l => exact h'
  | outgrown => exact h'

/-- Another rest, where the exits lead the same way, for what does not end normally. -/
theorem Arr.other {P : Program} {m : Machine} {b : Frame} {k k' : List Item} {cs : List Frame} {e : Exit} {a : Act} {w : World} (hn : e ≠ .normal) (hk : ∀ id, e = .exit id → exitTo id k = exitTo id k')
    (h' : Arr P m b k cs e a w) : Arr P m b k' cs e a w := by
  cases e with
  | normal => exact absurd rfl hn
  | exit id => obtain ⟨k₁, h1, h2⟩ := h'; exact ⟨k₁, h1.trans (hk id rfl), h2⟩
  | ret => exact h'
  | panic ch => exact h'
  | goto l => exact h'
  | outgrown => exact h'

def Goes (E : Env) (b : Frame) (r : ARes) (β : Emb) (h : AHeap) (w : World) (m : Machine) (k : List Item) (c0 : Frame) (rs cs : List Frame) : Prop :=
  ∃ β' a₁' u₁' w' e', StR E β' r.a r.u r.h a₁' u₁' w' ∧ Ext β h w β' r.h w' ∧ KindR r.u b.kind ∧ ExR β' r.e e' ∧ Arr E.P m b k (lay c0 rs cs u₁') e' a₁' w'

theorem Goes.of_steps {E : Env} {b : Frame} {r : ARes} {β β₁ : Emb} {h h₁ : AHeap} {w w₁ : World} {m m₁ : Machine} {k : List Item} {c0 : Frame} {rs cs : List Frame}
    (X : Ext β h w β₁ h₁ w₁) (hs : Steps E.P m m₁) (g : Goes E b r β₁ h₁ w₁ m₁ k c0 rs cs) : Goes E b r β h w m k c0 rs cs := by
  obtain ⟨β', a₁', u₁', w', e', S, X', hk, he, ha⟩ := g
  exact ⟨β', a₁', u₁', w', e', S, X.trans X', hk, he, ha.of_steps hs⟩

theorem ExR.normal_iff {β : Emb} {e e' : Exit} (h : ExR β e e') : e ≠ .normal → e' ≠ .normal := by
  cases h <;> simp

theorem Goes.other {E : Env} {b : Frame} {r : ARes} {β : Emb} {h : AHeap} {w : World} {m : Machine} {k k' : List Item} {c0 : Frame} {rs cs : List Frame}
    (hn : r.e ≠ .normal) (hk : ∀ id, r.e = .exit id → exitTo id k = exitTo id k') (g : Goes E b r β h w m k c0 rs cs) : Goes E b r β h w m k' c0 rs cs := by
  obtain ⟨β', a₁', u₁', w', e', S, X', hkr, he, ha⟩ := g
  refine ⟨β', a₁', u₁', w', e', S, X', hkr, he, ha.other (he.normal_iff hn) ?_⟩
  intro id hid
  subst hid
  generalize hre : r.e = re at he
  cases he
  exact hk id hre

theorem aops_ok {C : Ctx} (hC : CtxOK C) {b : Frame} {ops : Array Oper} {k : List Item} {c0 : Frame} {rs cs : List Frame} :
    ∀ (l : List Nat) (a : AAct) (u : Option FrameMode) (h : AHeap) (r : ARes), aops C ops l a u h = some r → ∀ (β : Emb) (a₁ : Act) (u₁ : Option FrameMode) (w : World),
      StR C.E β a u h a₁ u₁ w → KindR u b.kind → RoR β C.ro b.roundOf →
      Goes C.E b r β h w (lone (b.atR a₁ (.inRegion ops l :: k)) (lay c0 rs cs u₁) w) k c0 rs cs := by
  intro l
  induction l with
  | nil =>
    intro a u h r hr β a₁ u₁ w S hk hro
    cases hr
    exact ⟨β, a₁, u₁, w, .normal, S, Ext.refl _ _ _, hk, .normal, .one stepR_region_end⟩
  | cons i rest ih =>
    intro a u h r hr β a₁ u₁ w S hk hro
    simp only [aops] at hr
    split at hr
    · rename_i ho
      have hs := stepR_op_skip (P := C.E.P) (b := b) (a := a₁) (k := k) (cs := lay c0 rs cs u₁) (w := w) (ops := ops) (i := i) (rest := rest) (by simp [ho])
      simp only [ho, Option.bind_none, Act.put] at hs
      exact (ih a u h r hr β a₁ u₁ w S hk hro).of_steps (Ext.refl _ _ _) (.one hs)
    · rename_i o ho
      split at hr
      · rename_i hw
        have hw' := wanted_ok S.act hw
        split at hr
        · rename_i v d u' h' hst
          obtain ⟨β', v', d', u₁', w', H', X, hv, hd, hu', hk', hss⟩ := step_ok (rest := rest) (k := k) (c0 := c0) (rs := rs) (cs := cs) hC S hk hro ho hw' hst
          exact (ih _ _ _ _ hr β' _ u₁' w' ⟨H', S.gl.mono X.le, ((S.act.mono X.le).defer hd).put hv _, hu'⟩ hk' (hro.mono X.le)).of_steps X hss
        · rename_i ch h' hst
          cases hr
          obtain ⟨β', ch', w', todo, H', X, hch, hss⟩ := step_ok (rest := rest) (k := k) (c0 := c0) (rs := rs) (cs := cs) hC S hk hro ho hw' hst
          exact ⟨β', a₁, u₁, w', .panic ch', ⟨H', S.gl.mono X.le, S.act.mono X.le, S.u.mono X.le⟩, X, hk, .panic _ _ hch, todo, hss⟩
        · cases hr
      · rename_i hw
        have hw' := wanted_ok S.act hw
        have hs := stepR_op_skip (P := C.E.P) (b := b) (a := a₁) (k := k) (cs := lay c0 rs cs u₁) (w := w) (ops := ops) (i := i) (rest := rest) (by simp [ho, hw'])
        simp only [ho, Option.bind_some] at hs
        exact (ih _ u h r hr β _ u₁ w ⟨S.hr, S.gl, S.act.put (VR.undef _) _, S.u⟩ hk hro).of_steps (Ext.refl _ _ _) (.one hs)
      · cases hr

/-- A region that draws its order does as adraw says. -/
def DrawOK (C : Ctx) : Prop := ∀ (id : Nat) (ops : Array Oper) (a : AAct) (u : Option FrameMode) (h : AHeap) (r : ARes), adraw C ops a u h = some r → ∀ (b : Frame) (k : List Item) (c0 : Frame) (rs cs : List Frame) (β : Emb) (a₁ : Act) (u₁ : Option FrameMode) (w : World),
    StR C.E β a u h a₁ u₁ w → KindR u b.kind → b.fn = C.fid → RoR β C.ro b.roundOf →
    Goes C.E b r β h w (lone (b.atR a₁ (.code (.region id ops true) :: k)) (lay c0 rs cs u₁) w) k c0 rs cs

/-! ### The loop of a range over a function -/
theorem getLoop_of {β : Emb} {h : AHeap} {hp : Array Obj} (H : HR β h hp) {l : Nat} {e : Em} {L : ALoop} (he : β l = some e) (hg : h.get l = some (.loop L)) : ∃ L', hp[e.c]? = some (.loop L') ∧ LpR β L L' := by
  obtain ⟨L', h1, h2⟩ := H.con l e _ he hg (by simp [AHeap.liveO, AObj.root, AHeap.live])
  exact ⟨L', h1, h2⟩

/-- A loop's record is put anew. -/
theorem HR.putLoop {β : Emb} {h : AHeap} {w : World} (H : HR β h w.heap) {l : Nat} {e : Em} {L L1 : ALoop} {L1' : Loop} (he : β l = some e) (hg : h.get l = some (.loop L)) (hL : LpR β L1 L1') :
    HR β (h.set l (.loop L1)) (w.putObj e.c (.loop L1')).heap ∧ Ext β h w β (h.set l (.loop L1)) (w.putObj e.c (.loop L1')) := by
  have hlt := (H.dom l e he).2
  have hat : AtOne w.heap (w.putObj e.c (.loop L1')).heap e.c := ⟨by simp, fun k hk => World.putObj_heap_other hk⟩
  have hnew : (w.putObj e.c (.loop L1')).heap[e.c]? = some (.loop L1') := World.putObj_heap_same hlt
  refine ⟨H.change (o := .loop L) (o1 := .loop L1) he hg rfl (fun X => AHeap.get_set _ _ _ _) (fun X x hx => by simpa using hx) rfl rfl rfl hat ⟨L1', hnew, hL⟩ ?_,
    Ext.change (o := .loop L) (o1 := .loop L1) he hg (by simp [AObj.st]) rfl (fun X => AHeap.get_set _ _ _ _) rfl hat rfl rfl rfl⟩
  intro X ex ox hne hX hgx hc _
  exfalso
  rcases H.sep X l ex e ox _ hX he hgx hg hne hc with ⟨_, h4⟩ | ⟨r, _, h5⟩
  · simp [AObj.st] at h4
  · simp [AObj.root] at h5


theorem run_enterLoop_inner {P : Program} {w : World} {l : Nat} {L : Loop} (hl : w.heap[l]? = some (.loop L)) (fn : FuncId) (tmps : Array Value) (ps : Array Tmp) (assign body : Code) :
    (Instr.enterLoop fn tmps ps assign body (some l)).run P w =
      .ok (w.heap.size, []) (w.alloc (.loop { state := .ready, pending := none, fn, tmps, params := ps, assign, body, defers := L.defers })) := by
  unfold Instr.enterLoop
  simp only [Sem.run_bind, run_getLoop hl, run_newObj_alloc, Result.andThen, Sem.run_pure]

theorem rangeEnter_ok {C : Ctx} {β : Emb} {a a1 : AAct} {u : Option FrameMode} {h h1 : AHeap} {a₁ : Act} {u₁ : Option FrameMode} {w : World} {b : Frame} {ps : Array Tmp} {assign body : Code} {l : Nat}
    (S : StR C.E β a u h a₁ u₁ w) (hfn : b.fn = C.fid) (hro : RoR β C.ro b.roundOf) (he : arangeEnter C a ps assign body h = some (l, a1, h1)) :
    ∃ β' mark w₁ em, (Instr.enterLoop b.fn a₁.tmps ps assign body b.roundOf).run C.E.P w = .ok (em.c, mark) w₁ ∧ HR β' h1 w₁.heap ∧ Ext β h w β' h1 w₁ ∧ β' l = some em ∧
      ActR β' a1 { a₁ with defers := mark ++ a₁.defers } := by
  unfold arangeEnter at he
  split at he
  · rename_i l0 hl0
    rw [hl0] at hro
    split at he
    case h_2 => cases he
    rename_i L hL
    cases he
    cases hb : b.roundOf with
    | none => rw [hb] at hro; exact hro.elim
    | some c =>
      rw [hb] at hro
      obtain ⟨e0, h1, h2⟩ := hro
      obtain ⟨L', h3, h4⟩ := getLoop_of S.hr h1 hL
      subst h2
      obtain ⟨ed, h5, h6⟩ := h4.defers
      have hle := Emb.le_upd (e := ⟨w.heap.size, 0, 0⟩) S.hr.fresh
      refine ⟨_, [], _, ⟨w.heap.size, 0, 0⟩, run_enterLoop_inner h3 _ _ _ _ _, S.hr.alloc _ _ 0 rfl ?_, Ext.alloc S.hr _ _ 0, Emb.upd_same _ _ _, S.act.mono hle⟩
      exact ⟨{ state := .ready, pending := none, fn := b.fn, tmps := a₁.tmps, params := ps, assign := assign, body := body, defers := L'.defers }, by simp, ⟨rfl, rfl, hfn, ⟨S.act.size, fun t => (S.act.tmp t).mono hle⟩, rfl, rfl, rfl, ed, hle _ _ h5, h6⟩⟩
  · rename_i hl0
    rw [hl0] at hro
    cases hb : b.roundOf with
    | some c => rw [hb] at hro; exact hro.elim
    | none =>
      cases he
      have hle := Emb.le_upd (e := ⟨w.heap.size, 0, 0⟩) S.hr.fresh
      have H1 := S.hr.alloc (.deferred true) (.deferred (some [])) 0 rfl (by simp [OR])
      have X1 := Ext.alloc S.hr (.deferred true) (.deferred (some [])) 0
      have hw1 : (w.alloc (.deferred (some []))).heap = w.heap.push (.deferred (some [])) := rfl
      rw [← hw1] at H1
      have hle2 := Emb.le_upd (e := ⟨(w.alloc (.deferred (some []))).heap.size, 0, 0⟩) H1.fresh
      have hds : (β.upd h.n ⟨w.heap.size, 0, 0⟩).upd (h.push (.deferred true)).n ⟨(w.alloc (.deferred (some []))).heap.size, 0, 0⟩ h.n = some ⟨w.heap.size, 0, 0⟩ := by
        refine hle2 _ _ (Emb.upd_same _ _ _)
      refine ⟨_, [{ target := .collected w.heap.size, args := #[] }], (w.alloc (.deferred (some []))).alloc (.loop { state := .ready, pending := none, fn := b.fn, tmps := a₁.tmps, params := ps, assign, body, defers := w.heap.size }), ⟨(w.alloc (.deferred (some []))).heap.size, 0, 0⟩, ?_, H1.alloc _ _ 0 rfl ?_, X1.trans (Ext.alloc H1 _ _ 0), Emb.upd_same _ _ _, ?_⟩
      · rw [run_enterLoop_outer]
        simp
      · exact ⟨{ state := .ready, pending := none, fn := b.fn, tmps := a₁.tmps, params := ps, assign := assign, body := body, defers := w.heap.size }, World.alloc_heap_new _ _, ⟨rfl, rfl, hfn, ⟨S.act.size, fun t => ((S.act.tmp t).mono hle).mono hle2⟩, rfl, rfl, rfl, _, hds, rfl⟩⟩
      · exact ⟨S.act.size, fun t => ((S.act.tmp t).mono hle).mono hle2, .cons ⟨.collected _ _ hds, ArrR.empty _⟩ ((S.act.defers.mono hle).mono hle2)⟩

theorem rangeFunc_ok {C : Ctx} (hC : CtxOK C) {f : Operand} {ps : Array Tmp} {assign body : Code} {b : Frame} {k : List Item} {c0 : Frame} {rs cs : List Frame}
    {a : AAct} {u : Option FrameMode} {h : AHeap} {r : ARes} (hr : arangeFunc C f ps assign body a u h = some r) {β : Emb} {a₁ : Act} {u₁ : Option FrameMode} {w : World}
    (S : StR C.E β a u h a₁ u₁ w) (hk : KindR u b.kind) (hfn : b.fn = C.fid) (hro : RoR β C.ro b.roundOf) :
    Goes C.E b r β h w (lone (b.atR a₁ (.code (.rangeFunc f ps assign body) :: k)) (lay c0 rs cs u₁) w) k c0 rs cs := by
  unfold arangeFunc at hr
  split at hr
  · cases hr
  rename_i l a1 h1 hent
  obtain ⟨β1, mark, w₁, em, henter, H1, X1, hem, hact⟩ := rangeEnter_ok S hfn hro hent
  split at hr
  case h_2 => cases hr
  rename_i g first captured hf
  split at hr
  case h_2 => cases hr
  rename_i g' args h2 hcf
  have hv := ev_ok (S.gl.mono X1.le) hact f
  rw [hf] at hv
  generalize hfv : ({ a₁ with defers := mark ++ a₁.defers } : Act).eval f = fv at hv
  cases hv with
  | func _ fn' _ f' _ c' hfr hs1 h1' hs2 h2' =>
    have hA1 : ArrR β1 first f' := ⟨hs1, h1'⟩
    have hA2 : ArrR β1 captured c' := ⟨hs2, h2'⟩
    have hy : LsR β1 [Value.func (.yield l) #[] #[]] [Value.func (.yield em.c) #[] #[]] :=
      .cons (.func _ _ _ _ _ _ (.yield _ _ hem) rfl (fun i v v' h => by simp at h) rfl (fun i v v' h => by simp at h)) .nil
    have hargs : LsR β1 (first.toList ++ [.func (.yield l) #[] #[]]) (f' ++ #[Value.func (.yield em.c) #[] #[]]).toList := by
      simpa using hA1.toLs.append hy
    have hres : (resolve ({ a₁ with defers := mark ++ a₁.defers } : Act).eval (rangeCall f em.c) 0).run C.E.P w₁ = .ok { target := .fn fn' c', args := f' ++ #[Value.func (.yield em.c) #[] #[]] } w₁ := by
      have hcst : ∀ v, ({ a₁ with defers := mark ++ a₁.defers } : Act).eval (.const v) = v := fun v => rfl
      simp only [resolve, hfv, Deferred.ofValue, Sem.run_bind, Sem.run_pure, Result.andThen_ok, List.map_toArray, List.map_cons, List.map_nil, hcst]
    have hinv := invoke_ok hC.env H1 (fn := .func g) (args := first.toList ++ [Value.func (Fn.yield l) #[] #[]]) (captured := captured.toList) (out := .enter g' args h2) hcf hfr hargs hA2.toLs
    obtain ⟨rfl, args', hinv, hargs'⟩ := hinv
    have s1 := stepR_rangeFunc (P := C.E.P) (b := b) (a := a₁) (k := k) (cs := lay c0 rs cs u₁) henter (by
      have := hres
      have he : ({ a₁ with defers := mark ++ a₁.defers } : Act).eval = a₁.eval := funext fun x => by cases x <;> rfl
      rw [he] at this; exact this) hinv
    split at hr
    · rename_i v h3 hcall
      obtain ⟨β2, e', w2, fr, H2, X2, hen, hst, hfr2, hl⟩ := hC.call g' args h2 _ _ hcall β1 w₁ args' H1 (S.gl.mono X1.le) hargs' (b.atR { a₁ with defers := mark ++ a₁.defers } (.inRangeFunc em.c :: k) :: lay c0 rs cs u₁)
      cases hen with
      | returned _ v' hv' =>
      split at hr
      case h_2 => cases hr
      rename_i L hL
      split at hr
      · cases hr
      rename_i hnb
      have hem2 := X2.le _ _ hem
      obtain ⟨L', hg', hLR⟩ := getLoop_of H2 hem2 hL
      have hnb' : L'.state ≠ .busy := by rw [hLR.state]; exact hnb
      have hend := run_endLoop (P := C.E.P) hg' hnb'
      have hput := H2.putLoop (L1 := { L with state := .exhausted }) (L1' := { L' with state := .exhausted }) hem2 hL ⟨rfl, hLR.pending, hLR.fn, hLR.tmps, hLR.params, hLR.assign, hLR.body, hLR.defers⟩
      have hsteps : Steps C.E.P (lone (b.atR a₁ (.code (.rangeFunc f ps assign body) :: k)) (lay c0 rs cs u₁) w)
          (lone (b.atR { a₁ with defers := mark ++ a₁.defers } ((L'.pending.map Item.code).toList ++ k)) (lay c0 rs cs u₁) (w2.putObj em.c (.loop { L' with state := .exhausted }))) := by
        refine .head s1 (hst.trans (.head ?_ (.one (stepR_endRangeFunc hend))))
        rw [← finish_atR_inRangeFunc em.c v']
        exact step_leave_returned hl
      have hst2 : ∀ j, L'.pending = j → Steps C.E.P (lone (b.atR a₁ (.code (.rangeFunc f ps assign body) :: k)) (lay c0 rs cs u₁) w)
          (lone (b.atR { a₁ with defers := mark ++ a₁.defers } ((j.map Item.code).toList ++ k)) (lay c0 rs cs u₁) (w2.putObj em.c (.loop { L' with state := .exhausted }))) := by
        intro j hj; subst hj; exact hsteps
      have XX := (X1.trans X2).trans hput.2
      have SS : StR C.E β2 a1 u (h3.set l (.loop { L with state := .exhausted })) { a₁ with defers := mark ++ a₁.defers } u₁ (w2.putObj em.c (.loop { L' with state := .exhausted })) :=
        ⟨hput.1, S.gl.mono XX.le, hact.mono X2.le, S.u.mono XX.le⟩
      split at hr
      · rename_i hp
        cases hr
        have hsteps := hst2 _ (hLR.pending.trans hp)
        exact ⟨β2, _, u₁, _, .normal, SS, XX, hk, .normal, hsteps⟩
      · rename_i hp
        cases hr
        have hsteps := hst2 _ (hLR.pending.trans hp)
        exact ⟨β2, _, u₁, _, .ret, SS, XX, hk, .ret, k, hsteps⟩
      · rename_i id hp
        cases hr
        have hsteps := hst2 _ (hLR.pending.trans hp)
        exact ⟨β2, _, u₁, _, .exit id, SS, XX, hk, .exit id, k, rfl, hsteps⟩
      · cases hr
    · rename_i ch h3 hcall
      cases hr
      obtain ⟨β2, e', w2, fr, H2, X2, hen, hst, hfr2, hl⟩ := hC.call g' args h2 _ _ hcall β1 w₁ args' H1 (S.gl.mono X1.le) hargs' (b.atR { a₁ with defers := mark ++ a₁.defers } (.inRangeFunc em.c :: k) :: lay c0 rs cs u₁)
      cases hen with
      | panicked _ ch' hch =>
      have XX := X1.trans X2
      refine ⟨β2, _, u₁, _, .panic ch', ⟨H2, S.gl.mono XX.le, hact.mono X2.le, S.u.mono XX.le⟩, XX, hk, .panic _ _ hch, .inRangeFunc em.c :: k, .head s1 (hst.trans (.one ?_))⟩
      rw [← Frame.raise_atR]
      exact step_leave_panicked hl
    · cases hr

/-! ### Code -/
theorem stepR_scope {P : Program} {b : Frame} {a : Act} {k : List Item} {cs : List Frame} {w : World} {c : Code} :
    step P (lone (b.atR a (.code (.scope c) :: k)) cs w) = .next (lone (b.atR a (.code c :: .inScope c :: k)) cs w) :=
  step_lone_go (by simp [stepG, stepG.exec, Frame.atR])
theorem stepR_inScope {P : Program} {b : Frame} {a : Act} {k : List Item} {cs : List Frame} {w : World} {c : Code} :
    step P (lone (b.atR a (.inScope c :: k)) cs w) = .next (lone (b.atR a k) cs w) :=
  step_lone_go (by simp [stepG, stepG.exec, Frame.atR])

def CodeOK (C : Ctx) (c : Code) : Prop := ∀ (a : AAct) (u : Option FrameMode) (h : AHeap) (r : ARes), acode C c a u h = some r → ∀ (b : Frame) (k : List Item) (c0 : Frame) (rs cs : List Frame) (β : Emb) (a₁ : Act) (u₁ : Option FrameMode) (w : World),
    StR C.E β a u h a₁ u₁ w → KindR u b.kind → b.fn = C.fid → RoR β C.ro b.roundOf →
    Goes C.E b r β h w (lone (b.atR a₁ (.code c :: k)) (lay c0 rs cs u₁) w) k c0 rs cs

theorem Goes.normal {E : Env} {b : Frame} {r : ARes} {β : Emb} {h : AHeap} {w : World} {m : Machine} {k : List Item} {c0 : Frame} {rs cs : List Frame} (hn : r.e = .normal) (g : Goes E b r β h w m k c0 rs cs) :
    ∃ β' a₁' u₁' w', StR E β' r.a r.u r.h a₁' u₁' w' ∧ Ext β h w β' r.h w' ∧ KindR r.u b.kind ∧ Steps E.P m (lone (b.atR a₁' k) (lay c0 rs cs u₁') w') := by
  obtain ⟨β', a₁', u₁', w', e', S, X, hk, he, ha⟩ := g
  rw [hn] at he
  cases he
  exact ⟨β', a₁', u₁', w', S, X, hk, ha⟩

theorem aloop_ok {C : Ctx} {c : Code} (hc : CodeOK C c) : ∀ (n : Nat) (a : AAct) (u : Option FrameMode) (h : AHeap) (r : ARes), aloop (fun a u h => acode C c a u h) n a u h = some r →
    ∀ (b : Frame) (k : List Item) (c0 : Frame) (rs cs : List Frame) (β : Emb) (a₁ : Act) (u₁ : Option FrameMode) (w : World),
    StR C.E β a u h a₁ u₁ w → KindR u b.kind → b.fn = C.fid → RoR β C.ro b.roundOf →
    Goes C.E b r β h w (lone (b.atR a₁ (.code c :: .inLoop c :: k)) (lay c0 rs cs u₁) w) k c0 rs cs := by
  intro n
  induction n with
  | zero => intro a u h r hr; cases hr
  | succ n ih =>
    intro a u h r hr b k c0 rs cs β a₁ u₁ w S hk hfn hro
    simp only [aloop] at hr
    split at hr
    · rename_i a' u' h' hbody
      obtain ⟨β', a₁', u₁', w', S', X, hk', hs⟩ := (hc a u h _ hbody b (.inLoop c :: k) c0 rs cs β a₁ u₁ w S hk hfn hro).normal rfl
      exact (ih a' u' h' r hr b k c0 rs cs β' a₁' u₁' w' S' hk' hfn (hro.mono X.le)).of_steps X (hs.trans (.one stepR_inLoop))
    · rename_i hne
      have g := hc a u h _ hr b (.inLoop c :: k) c0 rs cs β a₁ u₁ w S hk hfn hro
      refine g.other (k := .inLoop c :: k) (k' := k) ?_ (fun id _ => rfl)
      intro hn
      obtain ⟨e, a', u', h'⟩ := r
      simp only at hn
      subst hn
      exact hne _ _ _ hr

theorem acode_ok {C : Ctx} (hC : CtxOK C) (hD : DrawOK C) : ∀ (c : Code), CodeOK C c := by
  intro c
  induction c with
  | skip =>
    intro a u h r hr b k c0 rs cs β a₁ u₁ w S hk hfn hro
    simp only [acode] at hr
    cases hr
    exact ⟨β, a₁, u₁, w, .normal, S, Ext.refl _ _ _, hk, .normal, .one stepR_skip⟩
  | label l =>
    intro a u h r hr b k c0 rs cs β a₁ u₁ w S hk hfn hro
    simp only [acode] at hr
    cases hr
    exact ⟨β, a₁, u₁, w, .normal, S, Ext.refl _ _ _, hk, .normal, .one stepR_label⟩
  | region id ops draw =>
    intro a u h r hr b k c0 rs cs β a₁ u₁ w S hk hfn hro
    simp only [acode] at hr
    split at hr
    · rename_i hd
      subst hd
      exact hD id ops a u h r hr b k c0 rs cs β a₁ u₁ w S hk hfn hro
    · rename_i hd
      have hd : draw = false := by cases draw <;> simp_all
      subst hd
      exact (aops_ok hC _ _ _ _ _ hr β a₁ u₁ w S hk hro).of_steps (Ext.refl _ _ _) (.one stepR_region)
  | seq x y ihx ihy =>
    intro a u h r hr b k c0 rs cs β a₁ u₁ w S hk hfn hro
    simp only [acode] at hr
    split at hr
    · rename_i a' u' h' hx
      obtain ⟨β', a₁', u₁', w', S', X, hk', hs⟩ := (ihx a u h _ hx b (.code y :: k) c0 rs cs β a₁ u₁ w S hk hfn hro).normal rfl
      exact (ihy a' u' h' r hr b k c0 rs cs β' a₁' u₁' w' S' hk' hfn (hro.mono X.le)).of_steps X (.head stepR_seq hs)
    · rename_i hne
      have g := (ihx a u h _ hr b (.code y :: k) c0 rs cs β a₁ u₁ w S hk hfn hro).of_steps (Ext.refl _ _ _) (.one stepR_seq)
      refine g.other (k := .code y :: k) (k' := k) ?_ (fun id _ => rfl)
      intro hn
      obtain ⟨e, a', u', h'⟩ := r
      simp only at hn
      subst hn
      exact hne _ _ _ hr
  | cond c x y ihx ihy =>
    intro a u h r hr b k c0 rs cs β a₁ u₁ w S hk hfn hro
    simp only [acode] at hr
    have hv := ev_ok S.gl S.act c
    split at hr
    · rename_i hc
      rw [hc] at hv
      exact (ihx a u h r hr b k c0 rs cs β a₁ u₁ w S hk hfn hro).of_steps (Ext.refl _ _ _) (.one (stepR_cond (t := true) hv.inv_bool))
    · rename_i hc
      rw [hc] at hv
      exact (ihy a u h r hr b k c0 rs cs β a₁ u₁ w S hk hfn hro).of_steps (Ext.refl _ _ _) (.one (stepR_cond (t := false) hv.inv_bool))
    · cases hr
  | block id c ih =>
    intro a u h r hr b k c0 rs cs β a₁ u₁ w S hk hfn hro
    simp only [acode] at hr
    split at hr
    · rename_i id' a' u' h' hx
      obtain ⟨β', a₁', u₁', w', e', S', X, hk', he, ha⟩ := (ih a u h _ hx b (.inBlock id :: k) c0 rs cs β a₁ u₁ w S hk hfn hro).of_steps (Ext.refl _ _ _) (.one stepR_block)
      generalize hre : (⟨.exit id', a', u', h'⟩ : ARes).e = re at he
      cases he <;> cases hre
      obtain ⟨k₁, h1, h2⟩ := ha
      split at hr
      · rename_i hid
        cases hr
        subst hid
        have h1' : exitTo id' k₁ = some k := by rw [h1]; simp [exitTo]
        exact ⟨β', a₁', u₁', w', .normal, S', X, hk', .normal, h2.trans (.one (stepR_exit h1'))⟩
      · rename_i hid
        cases hr
        refine ⟨β', a₁', u₁', w', .exit id', S', X, hk', .exit _, k₁, ?_, h2⟩
        rw [h1]
        simp only [exitTo]
        rw [if_neg (by simpa using Ne.symm hid)]
    · rename_i hne
      obtain ⟨e, a', u', h'⟩ := r
      by_cases hn : e = .normal
      · subst hn
        obtain ⟨β', a₁', u₁', w', S', X, hk', hs⟩ := (ih a u h _ hr b (.inBlock id :: k) c0 rs cs β a₁ u₁ w S hk hfn hro).normal rfl
        exact ⟨β', a₁', u₁', w', .normal, S', X, hk', .normal, .head stepR_block (hs.trans (.one stepR_inBlock))⟩
      · have g := (ih a u h _ hr b (.inBlock id :: k) c0 rs cs β a₁ u₁ w S hk hfn hro).of_steps (Ext.refl _ _ _) (.one stepR_block)
        refine g.other hn ?_
        intro id' hid'
        simp only at hid'
        subst hid'
        exact absurd hr (hne _ _ _ _)
  | loop c ih =>
    intro a u h r hr b k c0 rs cs β a₁ u₁ w S hk hfn hro
    simp only [acode] at hr
    exact (aloop_ok ih _ _ _ _ _ hr b k c0 rs cs β a₁ u₁ w S hk hfn hro).of_steps (Ext.refl _ _ _) (.one stepR_loop)
  | scope c ih =>
    intro a u h r hr b k c0 rs cs β a₁ u₁ w S hk hfn hro
    simp only [acode] at hr
    split at hr
    · cases hr
    · rename_i hne
      obtain ⟨e, a', u', h'⟩ := r
      by_cases hn : e = .normal
      · subst hn
        obtain ⟨β', a₁', u₁', w', S', X, hk', hs⟩ := (ih a u h _ hr b (.inScope c :: k) c0 rs cs β a₁ u₁ w S hk hfn hro).normal rfl
        exact ⟨β', a₁', u₁', w', .normal, S', X, hk', .normal, .head stepR_scope (hs.trans (.one stepR_inScope))⟩
      · exact ((ih a u h _ hr b (.inScope c :: k) c0 rs cs β a₁ u₁ w S hk hfn hro).of_steps (Ext.refl _ _ _) (.one stepR_scope)).other (k := .inScope c :: k) (k' := k) hn (fun id _ => rfl)
  | exit id =>
    intro a u h r hr b k c0 rs cs β a₁ u₁ w S hk hfn hro
    simp only [acode] at hr
    cases hr
    exact ⟨β, a₁, u₁, w, .exit id, S, Ext.refl _ _ _, hk, .exit id, k, rfl, Steps.refl _ _⟩
  | ret =>
    intro a u h r hr b k c0 rs cs β a₁ u₁ w S hk hfn hro
    simp only [acode] at hr
    cases hr
    exact ⟨β, a₁, u₁, w, .ret, S, Ext.refl _ _ _, hk, .ret, k, Steps.refl _ _⟩
  | rangeFunc f ps assign body =>
    intro a u h r hr b k c0 rs cs β a₁ u₁ w S hk hfn hro
    simp only [acode] at hr
    exact rangeFunc_ok hC hr S hk hfn hro
  | goto l => intro a u h r hr; simp [acode] at hr
  | refuse why => intro a u h r hr; simp [acode] at hr
end Go.Eng

set_option linter.unusedVariables false
set_option linter.unusedSimpArgs false
namespace Go.Eng

theorem fillArgs_get : ∀ (l : List Value) (i : Nat) (t : Tr Value) (k : Nat), (fillArgs i l t).get k = if i ≤ k ∧ k < i + l.length then l[k - i]? else t.get k := by
  intro l
  induction l with
  | nil => intro i t k; simp [fillArgs]; intro h1 h2; omega
  | cons v l ih =>
    intro i t k
    simp only [fillArgs, ih, Tr.get_set, List.length_cons]
    by_cases hk : k = i
    · subst hk
      rw [if_neg (by omega), if_pos rfl, if_pos (by omega)]; simp
    · by_cases h1 : i + 1 ≤ k ∧ k < i + 1 + l.length
      · rw [if_pos h1, if_pos (by omega)]
        have : k - i = (k - (i + 1)) + 1 := by omega
        rw [this]; simp
      · rw [if_neg h1, if_neg hk, if_neg (by omega)]

theorem enterAct_ok {β : Emb} {fn : Func} {args args' : Array Value} (h : ArrR β args args') : ActR β (enterAct fn args) { tmps := args' ++ Array.replicate (fn.ntmps - args'.size) undef, defers := [] } := by
  refine ⟨by simp [enterAct, h.1], fun t => ?_, .nil⟩
  simp only [enterAct, AAct.tmp, fillArgs_get, Nat.zero_le, true_and, Nat.zero_add, Nat.sub_zero, Array.length_toList, Array.getElem?_toList, Tr.get_nil]
  rw [Array.getD_eq_getD_getElem?, Array.getElem?_append]
  by_cases hlt : t < args.size
  · have hlt' : t < args'.size := h.1 ▸ hlt
    rw [if_pos (by omega), if_pos hlt, if_pos hlt']
    have := h.2 t _ _ (Array.getElem?_eq_getElem hlt) (Array.getElem?_eq_getElem hlt')
    rw [Array.getElem?_eq_getElem hlt, Array.getElem?_eq_getElem hlt']
    exact this
  · have hlt' : ¬ t < args'.size := h.1 ▸ hlt
    rw [if_neg hlt, if_neg hlt']
    have e1 : (if t < args.size + (fn.ntmps - args.size) then (Option.none : Option Value).getD undef else undef) = undef := by split <;> rfl
    rw [e1]
    have e2 : (Array.replicate (fn.ntmps - args'.size) undef)[t - args'.size]?.getD undef = undef := by
      rw [Array.getElem?_replicate]; split <;> rfl
    rw [e2]
    exact VR.undef _

/-! ### Results -/
theorem result_ok {E : Env} {β : Emb} {a : AAct} {ts : Array Value} {h : AHeap} {w : World} (H : HR β h w.heap) (ht : TmpsR β a ts) {r : ResultVar} {v : Value} (hr : aresult E a h r = some v) :
    ∃ v', ((match r with | .tmp t => pure (ts.getD t undef) | .cell a t => do loadVar t (← asAddr (ts.getD a undef)) : Sem Value)).run E.P w = .ok v' w ∧ VR β v v' := by
  cases r with
  | tmp t => cases hr; exact ⟨_, rfl, ht.tmp t⟩
  | cell x t =>
    simp only [aresult] at hr
    obtain ⟨v', h1, h2⟩ := load_ok H hr (ht.tmp x)
    refine ⟨v', ?_, h2⟩
    have hp := ht.tmp x
    unfold aload at hr
    split at hr
    case h_2 => cases hr
    rename_i B o hpx
    rw [hpx] at hp
    generalize hg : ts.getD x undef = p at hp h1
    cases hp with
    | ptr _ _ e hB =>
      simp only [Instr.loadAt, Instr.sureAddr, Sem.run_bind, Sem.run_pure, Result.andThen_ok] at h1
      simp only [hg, asAddr, Sem.run_bind, Sem.run_pure, Result.andThen_ok]
      exact h1

theorem resultsL_ok {E : Env} {β : Emb} {a : AAct} {ts : Array Value} {h : AHeap} {w : World} (H : HR β h w.heap) (ht : TmpsR β a ts) : ∀ {rs : List ResultVar} {vs : List Value}, aresultsL E a h rs = some vs →
    ∃ vs', (rs.mapM (fun r => (match r with | .tmp t => pure (ts.getD t undef) | .cell a t => do loadVar t (← asAddr (ts.getD a undef)) : Sem Value))).run E.P w = .ok vs' w ∧ LsR β vs vs' := by
  intro rs
  induction rs with
  | nil => intro vs h; cases h; exact ⟨[], by simp, .nil⟩
  | cons r rs ih =>
    intro vs hv
    simp only [aresultsL] at hv
    split at hv
    case h_2 => cases hv
    rename_i v hr
    split at hv
    case h_2 => cases hv
    rename_i vs1 hvs
    cases hv
    obtain ⟨v', h1, h2⟩ := result_ok H ht hr
    obtain ⟨vs', h3, h4⟩ := ih hvs
    refine ⟨v' :: vs', ?_, .cons h2 h4⟩
    rw [List.mapM_cons]
    simp only [Sem.run_bind, h1, Result.andThen_ok, h3, Sem.run_pure]

theorem results_ok {E : Env} {β : Emb} {fn : Func} {a : AAct} {ts : Array Value} {h : AHeap} {w : World} (H : HR β h w.heap) (ht : TmpsR β a ts) {v : Value} (hr : aresults E fn a h = some v) :
    ∃ v', (results fn ts).run E.P w = .ok v' w ∧ VR β v v' := by
  unfold aresults at hr
  have key : ∀ {vs : List Value}, aresultsL E a h fn.results.toList = some vs → ∃ vs', (fn.results.mapM (fun r => (match r with | .tmp t => pure (ts.getD t undef) | .cell a t => do loadVar t (← asAddr (ts.getD a undef)) : Sem Value))).run E.P w = .ok vs'.toArray w ∧ LsR β vs vs' := by
    intro vs hv
    obtain ⟨vs', h1, h2⟩ := resultsL_ok H ht hv
    refine ⟨vs', ?_, h2⟩
    rw [Array.mapM_eq_mapM_toList]
    simp only [Sem.run_map, h1, Result.andThen_ok]
  split at hr
  · rename_i v1 hl
    cases hr
    obtain ⟨vs', h1, h2⟩ := key hl
    cases h2 with
    | cons hv ht =>
      cases ht
      refine ⟨_, ?_, hv⟩
      unfold results
      rw [Sem.run_bind]
      erw [h1]
      simp [Result.andThen_ok, Sem.run_pure]
  · rename_i vs hne hl
    cases hr
    have hl0 := hl
    obtain ⟨vs', h1, h2⟩ := key hl
    refine ⟨.tuple vs'.toArray, ?_, .tuple _ _ h2.toArr.1 h2.toArr.2⟩
    have hlen : vs'.length ≠ 1 := by
      intro h1l
      have h2l : vs.length = 1 := h2.length.trans h1l
      match vs, h2l, hne with
      | [x], _, hne => exact hne x rfl
    unfold results
    rw [Sem.run_bind]
    erw [h1]
    simp [Result.andThen_ok, Sem.run_pure, hlen]
  · cases hr

/-! ### On the way out -/
theorem ChR.dropWhile {β : Emb} {x x' : List PanicEntry} (h : ChR β x x') : ChR β (x.dropWhile (!·.goexit)) (x'.dropWhile (!·.goexit)) := by
  induction h with
  | nil => exact .nil
  | cons h t ih =>
    cases h with
    | mk v v' r g hv =>
      simp only [List.dropWhile]
      cases g with
      | true => exact .cons (.mk _ _ _ _ hv) t
      | false => exact ih

theorem MR.settle {β : Emb} {m m' : FrameMode} (h : MR β m m') : MR β (Go.settle m) (Go.settle m') := by
  cases h with
  | run => exact .run
  | returning => exact .returning
  | panicking ch ch' hch =>
    cases hch with
    | nil => exact .panicking _ _ .nil
    | cons hx ht =>
      cases hx with
      | mk v v' r g hv =>
        cases r with
        | false => exact .panicking _ _ (.cons (.mk _ _ _ _ hv) ht)
        | true =>
          have hd := ht.dropWhile
          unfold Go.settle
          simp only
          split
          · rename_i h1
            rw [h1] at hd
            generalize hq : List.dropWhile _ _ = q at hd
            cases hd
            exact .returning
          · rename_i h1
            split
            · rename_i h2
              rw [h2] at hd
              generalize hq : List.dropWhile _ _ = q at hd
              cases hd
              exact absurd hq h1
            · exact .panicking _ _ hd

theorem MR.raised {β : Emb} {m m' : FrameMode} {ch ch' : List PanicEntry} (h : MR β m m') (hc : ChR β ch ch') : MR β (Go.raised m ch) (Go.raised m' ch') := by
  cases h with
  | run => exact .panicking _ _ hc
  | returning => exact .panicking _ _ hc
  | panicking x x' hx => exact .panicking _ _ (hc.append hx)

/-- A block of deferred calls is shut. -/
theorem HR.shut {β : Emb} {h : AHeap} {w : World} (H : HR β h w.heap) {l : Nat} {e : Em} (he : β l = some e) (hg : h.get l = some (.deferred true)) :
    HR β (h.set l (.deferred false)) (w.putObj e.c (.deferred none)).heap ∧ Ext β h w β (h.set l (.deferred false)) (w.putObj e.c (.deferred none)) := by
  have hlt := (H.dom l e he).2
  have hat : AtOne w.heap (w.putObj e.c (.deferred none)).heap e.c := ⟨by simp, fun k hk => World.putObj_heap_other hk⟩
  have hnew : (w.putObj e.c (.deferred none)).heap[e.c]? = some (.deferred none) := World.putObj_heap_same hlt
  refine ⟨H.change (o := .deferred true) (o1 := .deferred false) he hg rfl (fun X => AHeap.get_set _ _ _ _) (fun X x hx => by simpa using hx) rfl rfl rfl hat (by simp only [OR]; exact hnew) ?_,
    Ext.change (o := .deferred true) (o1 := .deferred false) he hg (by simp [AObj.st]) rfl (fun X => AHeap.get_set _ _ _ _) rfl hat rfl rfl rfl⟩
  intro X ex ox hne hX hgx hc _
  exfalso
  rcases H.sep X l ex e ox _ hX he hgx hg hne hc with ⟨_, h4⟩ | ⟨r, _, h5⟩
  · simp [AObj.st] at h4
  · simp [AObj.root] at h5

theorem aleave_cons {E : Env} {callD : CallDH} {fn : Func} {a : AAct} {d : Deferred} {ds : List Deferred} {u : FrameMode} {h : AHeap} (hu : u ≠ .run) :
    aleave E callD fn a (d :: ds) u h = (match d.target with
      | .collected B => (match h.get B with
        | some (.deferred true) => aleave E callD fn a ds u (h.set B (.deferred false))
        | _ => none)
      | .fn (.func f) captured => (match callD f (d.args ++ captured) u h with
        | some (.returned _, u', h') => aleave E callD fn a ds (Go.settle u') h'
        | some (.panicked ch, u', h') => aleave E callD fn a ds (Go.raised u' ch) h'
        | _ => none)
      | _ => none) := by
  cases u <;> first | exact absurd rfl hu | rfl

theorem leave_ok {E : Env} {callD : CallDH} (hC : CallDOK E callD) {fn : Func} {a : AAct} : ∀ (ds : List Deferred) (u : FrameMode) (h : AHeap) (e : Ending) (h' : AHeap), aleave E callD fn a ds u h = some (e, h') →
    ∀ (β : Emb) (w : World) (fr : Frame) (cs : List Frame), HR β h w.heap → GlR E.gl β → DsR β ds fr.defers → MR β u fr.mode → TmpsR β a fr.tmps → E.P.funcs[fr.fn]? = some fn → fr.kind = .normal →
    ∃ β' e' w' fr', HR β' h' w'.heap ∧ Ext β h w β' h' w' ∧ EnR β' e e' ∧ Steps E.P (lone fr cs w) (lone fr' cs w') ∧ fr'.fn = fr.fn ∧ fr'.leaving E.P w' e' := by
  intro ds
  induction ds with
  | nil =>
    intro u h e h' hl β w fr cs H hg hd hm ht hf hk
    generalize hfd : fr.defers = fd at hd
    cases hd
    generalize hfm : fr.mode = fm at hm
    cases hm with
    | run => simp [aleave] at hl
    | returning =>
      simp only [aleave] at hl
      split at hl
      case h_2 => cases hl
      rename_i v hv
      cases hl
      obtain ⟨v', h1, h2⟩ := results_ok H ht hv
      exact ⟨β, .returned v', w, fr, H, Ext.refl _ _ _, .returned _ _ h2, Steps.refl _ _, rfl, hfm, hfd, hk, fn, hf, h1⟩
    | panicking ch ch' hch =>
      simp only [aleave] at hl
      cases hl
      exact ⟨β, .panicked ch', w, fr, H, Ext.refl _ _ _, .panicked _ _ hch, Steps.refl _ _, rfl, hfm, hfd, fn, hf⟩
  | cons d ds ih =>
    intro u h e h' hl β w fr cs H hg hd hm ht hf hk
    have hrun : u ≠ .run := by rintro rfl; simp [aleave] at hl
    have hrun' : fr.mode ≠ .run := by
      intro he; rw [he] at hm; cases hm; exact hrun rfl
    generalize hfd : fr.defers = fd at hd
    cases hd with
    | @cons _ d' _ ds' hdd hdt =>
    rw [aleave_cons hrun] at hl
    have htg := hdd.target
    split at hl
    · -- a mark
      rename_i B hB
      split at hl
      case h_2 => cases hl
      rename_i hgB
      rw [hB] at htg
      generalize htd : d'.target = td at htg
      cases htg with
      | collected _ em hem =>
        have hcon : w.heap[em.c]? = some (.deferred (some [])) := by
          have := H.con B em _ hem hgB (by simp [AHeap.liveO, AObj.root, AHeap.live])
          simpa [OR] using this
        have hst := step_collected (P := E.P) (cs := cs) hrun' hfd htd (run_takeDeferred hcon)
        have hput := H.shut hem hgB
        obtain ⟨β', e', w', fr', H', X, he, hs, hfn, hlv⟩ := ih u _ e h' hl β _ { fr with defers := [] ++ ds' } cs hput.1 hg hdt hm ht hf hk
        exact ⟨β', e', w', fr', H', hput.2.trans X, he, .head hst hs, hfn, hlv⟩
    · -- a function
      rename_i f captured hfn
      rw [hfn] at htg
      generalize htd : d'.target = td at htg
      cases htg with
      | fn _ f' _ c' hfr hcap =>
        cases hfr
        have hargs : ArrR β (d.args ++ captured) (d'.args ++ c') := hdd.args.append hcap
        split at hl
        · rename_i v u' h1 hcall
          obtain ⟨β1, e1, m1, w1, fr1, H1, X1, he1, hm1, hs1, hk1, hgo1, hcf⟩ := hC f _ u h _ u' h1 hcall β w _ fr.mode H hg hargs hm { fr with defers := ds' } cs rfl
          have hinv : (invoke d'.target d'.args).run E.P w = .ok (.enter f (d'.args ++ c')) w := by rw [htd]; exact hcf
          have hst := step_defer (P := E.P) (cs := cs) hrun' hfd htd hinv
          cases he1 with
          | returned _ v' hv =>
            have h2 := step_going_returned (c := { { fr with defers := ds' } with mode := m1 }) (cs := cs) hk1 hgo1
            obtain ⟨β', e', w', fr', H', X, he, hs, hfn, hlv⟩ := ih (Go.settle u') _ e h' hl β1 w1 { { { fr with defers := ds' } with mode := m1 } with mode := Go.settle m1 } cs H1 (hg.mono X1.le) (hdt.mono X1.le) hm1.settle (ht.mono X1.le) hf hk
            exact ⟨β', e', w', fr', H', X1.trans X, he, .head hst (hs1.trans (.head h2 hs)), hfn, hlv⟩
        · rename_i ch u' h1 hcall
          obtain ⟨β1, e1, m1, w1, fr1, H1, X1, he1, hm1, hs1, hk1, hgo1, hcf⟩ := hC f _ u h _ u' h1 hcall β w _ fr.mode H hg hargs hm { fr with defers := ds' } cs rfl
          have hinv : (invoke d'.target d'.args).run E.P w = .ok (.enter f (d'.args ++ c')) w := by rw [htd]; exact hcf
          have hst := step_defer (P := E.P) (cs := cs) hrun' hfd htd hinv
          cases he1 with
          | panicked _ ch' hch =>
            have h2 := step_going_panicked (c := { { fr with defers := ds' } with mode := m1 }) (cs := cs) hgo1
            obtain ⟨β', e', w', fr', H', X, he, hs, hfn, hlv⟩ := ih (Go.raised u' ch) _ e h' hl β1 w1 { { { fr with defers := ds' } with mode := m1 } with mode := Go.raised m1 ch' } cs H1 (hg.mono X1.le) (hdt.mono X1.le) (hm1.raised hch) (ht.mono X1.le) hf hk
            exact ⟨β', e', w', fr', H', X1.trans X, he, .head hst (hs1.trans (.head h2 hs)), hfn, hlv⟩
        · cases hl
    · cases hl

theorem ActR.tmps {β : Emb} {a : AAct} {a₁ : Act} (h : ActR β a a₁) : TmpsR β a a₁.tmps := ⟨h.size, h.tmp⟩

/-! ### A function -/
theorem body_ok {E : Env} (hE : EnvOK E) (hD : ∀ C, C.E = E → CtxOK C → DrawOK C) {fuel : Nat} {call : CallH} {round : Nat → Array Value → AHeap → Option (Ending × AHeap)} (hcall : CallOK E call) (hround : RoundOK E round)
    {f : FuncId} {u : Option FrameMode} {args : Array Value} {h : AHeap} {fn : Func} {r : ARes} (hb : abody E fuel call round f u args h = some (fn, r)) :
    E.P.funcs[f]? = some fn ∧ fn.body.isSome = true ∧ ∀ (β : Emb) (w : World) (args' : Array Value) (u₁ : Option FrameMode) (kind : CallKind) (c0 : Frame) (rs cs : List Frame), HR β h w.heap → GlR E.gl β → ArrR β args args' → OMR β u u₁ → KindR u kind →
      Goes E { (default : Frame) with fn := f, kind := kind } r β h w (lone (Frame.enter E.P f args' kind) (lay c0 rs cs u₁) w) [] c0 rs cs := by
  unfold abody at hb
  split at hb
  case h_2 => cases hb
  rename_i fn0 hfn
  split at hb
  case h_2 => cases hb
  rename_i c hc
  split at hb
  case h_2 => cases hb
  rename_i r0 hr
  cases hb
  refine ⟨hfn, by rw [hc]; rfl, ?_⟩
  intro β w args' u₁ kind c0 rs cs H hg ha hu hk
  have hCtx : CtxOK { E := E, fid := f, ro := none, call := call, round := round, fuel := fuel } := ⟨hE, hcall, hround⟩
  have g := acode_ok hCtx (hD _ rfl hCtx) c _ _ _ _ hr { (default : Frame) with fn := f, kind := kind } [] c0 rs cs β _ u₁ w ⟨H, hg, enterAct_ok ha, hu⟩ hk rfl trivial
  have henter : Frame.enter E.P f args' kind =
      ({ (default : Frame) with fn := f, kind := kind } : Frame).atR { tmps := args' ++ Array.replicate (fn.ntmps - args'.size) undef, defers := [] } [.code c] := by
    simp [Frame.enter, Frame.atR, hfn, hc]
    rfl
  rw [henter]
  exact g

theorem call_ok {E : Env} (hE : EnvOK E) (hD : ∀ C, C.E = E → CtxOK C → DrawOK C) {fuel : Nat} {call : CallH} {round : Nat → Array Value → AHeap → Option (Ending × AHeap)} {callD : CallDH} (hcall : CallOK E call) (hround : RoundOK E round)
    (hcallD : CallDOK E callD) : CallOK E (acallBy E fuel call round callD) := by
  intro f args h e h' hc β w args' H hg ha cs
  unfold acallBy at hc
  have key : ∀ {fn : Func} {r : ARes} {m : FrameMode}, abody E fuel call round f none args h = some (fn, r) → aleave E callD fn r.a r.a.defers m r.h = some (e, h') →
      ((r.e = .normal ∨ r.e = .ret) ∧ m = .returning ∨ ∃ ch, r.e = .panic ch ∧ m = .panicking ch) →
      ∃ β' e' w' fr, HR β' h' w'.heap ∧ Ext β h w β' h' w' ∧ EnR β' e e' ∧ Steps E.P (lone (Frame.enter E.P f args' .normal) cs w) (lone fr cs w') ∧ fr.fn = f ∧ fr.leaving E.P w' e' := by
    intro fn r m hb hl hm
    obtain ⟨hfn, hbd, hgo⟩ := body_ok hE hD hcall hround hb
    obtain ⟨β1, a₁, u₁, w1, e1, S1, X1, hk1, he1, harr⟩ := hgo β w args' none .normal default [] cs H hg ha .none rfl
    have hu1 : u₁ = none := by
      have := S1.u
      cases hu : r.u with
      | none => rw [hu] at this; cases this; rfl
      | some x => rw [hu] at hk1; cases hk1
    subst hu1
    simp only [lay] at harr
    have fin : ∀ (fr : Frame), Steps E.P (lone (Frame.enter E.P f args' .normal) cs w) (lone fr cs w1) → fr.fn = f → fr.kind = .normal → fr.tmps = a₁.tmps → fr.defers = a₁.defers → MR β1 m fr.mode →
        ∃ β' e' w' fr, HR β' h' w'.heap ∧ Ext β h w β' h' w' ∧ EnR β' e e' ∧ Steps E.P (lone (Frame.enter E.P f args' .normal) cs w) (lone fr cs w') ∧ fr.fn = f ∧ fr.leaving E.P w' e' := by
      intro fr hs hff hkk htt hdd hmm
      obtain ⟨β', e', w', fr', H', X, he, hs', hfn', hlv⟩ := leave_ok hcallD r.a.defers m r.h e h' hl β1 w1 fr cs S1.hr S1.gl (hdd ▸ S1.act.defers) hmm (htt ▸ S1.act.tmps) (by rw [hff]; exact hfn) hkk
      exact ⟨β', e', w', fr', H', X1.trans X, he, hs.trans hs', hfn'.trans hff, hlv⟩
    rcases hm with ⟨hre, rfl⟩ | ⟨ch, hre, rfl⟩
    · rcases hre with hre | hre
      · rw [hre] at he1
        cases he1
        exact fin { ({ (default : Frame) with fn := f, kind := .normal } : Frame).atR a₁ [] with mode := .returning } (Steps.trans harr (.one (stepR_end rfl))) rfl rfl rfl rfl .returning
      · rw [hre] at he1
        cases he1
        obtain ⟨k₁, hs⟩ := harr
        exact fin { ({ (default : Frame) with fn := f, kind := .normal } : Frame).atR a₁ (.code .ret :: k₁) with mode := .returning } (Steps.trans hs (.one (stepR_ret rfl))) rfl rfl rfl rfl .returning
    · rw [hre] at he1
      cases he1 with
      | panic _ ch' hch =>
      obtain ⟨todo, hs⟩ := harr
      exact fin { ({ (default : Frame) with fn := f, kind := .normal } : Frame).atR a₁ todo with mode := .panicking ch' } hs rfl rfl rfl rfl (.panicking _ _ hch)
  split at hc
  · rename_i fn a u h1 hb
    exact key hb hc (.inl ⟨.inl rfl, rfl⟩)
  · rename_i fn a u h1 hb
    exact key hb hc (.inl ⟨.inr rfl, rfl⟩)
  · rename_i fn ch a u h1 hb
    exact key hb hc (.inr ⟨ch, rfl, rfl⟩)
  · cases hc

theorem callD_ok {E : Env} (hE : EnvOK E) (hD : ∀ C, C.E = E → CtxOK C → DrawOK C) {fuel : Nat} {call : CallH} {round : Nat → Array Value → AHeap → Option (Ending × AHeap)} (hcall : CallOK E call) (hround : RoundOK E round) :
    CallDOK E (acallDBy E fuel call round) := by
  intro f args u h e u' h' hc β w args' m H hg ha hm c cs hcm
  unfold acallDBy at hc
  split at hc
  · cases hc
  rename_i hext
  have key : ∀ {fn : Func} {r : ARes}, abody E fuel call round f (some u) args h = some (fn, r) → r.u = some u' → r.h = h' → r.a.defers.isEmpty = true →
      ((r.e = .normal ∨ r.e = .ret) ∧ (∃ v, aresults E fn r.a r.h = some v ∧ e = .returned v) ∨ ∃ ch, r.e = .panic ch ∧ e = .panicked ch) →
      ∃ β' e' m' w' fr, HR β' h' w'.heap ∧ Ext β h w β' h' w' ∧ EnR β' e e' ∧ MR β' u' m' ∧ Steps E.P (lone (Frame.enter E.P f args' .deferred) (c :: cs) w) (lone fr ({ c with mode := m' } :: cs) w') ∧
        fr.kind = .deferred ∧ fr.going E.P w' e' ∧ (callFunc f args').run E.P w = .ok (.enter f args') w := by
    intro fn r hb hru hrh hde hm'
    obtain ⟨hfn, hbd, hgo⟩ := body_ok hE hD hcall hround hb
    obtain ⟨β1, a₁, u₁, w1, e1, S1, X1, hk1, he1, harr⟩ := hgo β w args' (some m) .deferred c cs [] H hg ha (.some _ _ hm) rfl
    subst hrh
    have hlay : lay c cs [] (some m) = c :: cs := by subst hcm; rfl
    rw [hlay] at harr
    have hcf : (callFunc f args').run E.P w = .ok (.enter f args') w := by
      have hn := hE.num f fn hfn hbd
      have hn' : fn.body.isNone = false := by cases hbb : fn.body <;> simp_all
      simp only [callFunc, Sem.run_bind, run_program, Result.andThen_ok, hfn, hn, Bool.false_eq_true, if_false, hn', Sem.run_pure]
    have hu1 := S1.u
    rw [hru] at hu1
    cases hu1 with
    | some _ m1 hm1 =>
    have hds : a₁.defers = [] := by
      have := S1.act.defers
      generalize a₁.defers = x at this
      cases hd : r.a.defers with
      | nil => rw [hd] at this; cases this; rfl
      | cons x y => rw [hd] at hde; simp at hde
    rcases hm' with ⟨hre, v, hv, rfl⟩ | ⟨ch, hre, rfl⟩
    · obtain ⟨v', hv1, hv2⟩ := results_ok S1.hr S1.act.tmps hv
      rcases hre with hre | hre
      · rw [hre] at he1
        cases he1
        exact ⟨β1, .returned v', m1, w1, { ({ (default : Frame) with fn := f, kind := .deferred } : Frame).atR a₁ [] with mode := .returning }, S1.hr, X1, .returned _ _ hv2, hm1,
          Steps.trans harr (.one (stepR_end rfl)), rfl, ⟨rfl, hds, fn, hfn, hv1⟩, hcf⟩
      · rw [hre] at he1
        cases he1
        obtain ⟨k₁, hs⟩ := harr
        exact ⟨β1, .returned v', m1, w1, { ({ (default : Frame) with fn := f, kind := .deferred } : Frame).atR a₁ (.code .ret :: k₁) with mode := .returning }, S1.hr, X1, .returned _ _ hv2, hm1,
          Steps.trans hs (.one (stepR_ret rfl)), rfl, ⟨rfl, hds, fn, hfn, hv1⟩, hcf⟩
    · rw [hre] at he1
      cases he1 with
      | panic _ ch' hch =>
      obtain ⟨todo, hs⟩ := harr
      exact ⟨β1, .panicked ch', m1, w1, { ({ (default : Frame) with fn := f, kind := .deferred } : Frame).atR a₁ todo with mode := .panicking ch' }, S1.hr, X1, .panicked _ _ hch, hm1, hs, rfl, ⟨rfl, hds, fn, hfn⟩, hcf⟩
  split at hc
  · rename_i fn ch a u1 h1 hb
    split at hc
    case isFalse => cases hc
    rename_i hde
    cases hc
    exact key hb rfl rfl hde (.inr ⟨ch, rfl, rfl⟩)
  · rename_i fn a u1 h1 hb
    split at hc
    case isFalse => cases hc
    rename_i hde
    split at hc
    case h_2 => cases hc
    rename_i v hv
    cases hc
    exact key hb rfl rfl hde (.inl ⟨.inl rfl, v, hv, rfl⟩)
  · rename_i fn a u1 h1 hb
    split at hc
    case isFalse => cases hc
    rename_i hde
    split at hc
    case h_2 => cases hc
    rename_i v hv
    cases hc
    exact key hb rfl rfl hde (.inl ⟨.inr rfl, v, hv, rfl⟩)
  · cases hc

/-! ### A round -/
theorem setParams_ok {β : Emb} : ∀ {ps : List Tmp} {args args' : List Value} {a : AAct} {ts : Array Value}, TmpsR β a ts → LsR β args args' →
    TmpsR β (setParams (ps.zip args) a) ((ps.zip args').foldl (fun tmps (x : Tmp × Value) => tmps.setIfInBounds x.1 x.2) ts) ∧ (setParams (ps.zip args) a).defers = a.defers := by
  intro ps
  induction ps with
  | nil => intro args args' a ts ht hl; simp [setParams]; exact ht
  | cons p ps ih =>
    intro args args' a ts ht hl
    cases hl with
    | nil => simp [setParams]; exact ht
    | @cons v v' l l' hv hl =>
      simp only [List.zip_cons_cons, setParams, List.foldl_cons]
      have h1 : TmpsR β (a.set p v) (ts.setIfInBounds p v') := by
        refine ⟨by simpa [AAct.nt_set] using ht.size, fun t' => ?_⟩
        rw [AAct.tmp_set, getD_setIfInBounds, ht.size]
        split
        · exact hv
        · exact ht.tmp t'
      obtain ⟨h2, h3⟩ := ih h1 hl
      exact ⟨h2, by rw [h3, AAct.defers_set]⟩

theorem endRound_ok {E : Env} {β : Emb} {h h' : AHeap} {w : World} {l : Nat} {em : Em} {jump : Option Code} {e : Ending} (H : HR β h w.heap) (hem : β l = some em) (he : aendRound l jump h = some (e, h')) :
    ∃ w', (Instr.endRound em.c jump).run E.P w = .ok (.bool jump.isNone) w' ∧ HR β h' w'.heap ∧ Ext β h w β h' w' ∧ e = .returned (.bool jump.isNone) := by
  unfold aendRound at he
  split at he
  case h_2 => cases he
  rename_i L hL
  cases he
  obtain ⟨L', hg', hLR⟩ := getLoop_of H hem hL
  have hput := H.putLoop (L1 := { L with state := if jump.isNone then .ready else .done, pending := jump }) (L1' := { L' with state := if jump.isNone then .ready else .done, pending := jump }) hem hL
    ⟨rfl, rfl, hLR.fn, hLR.tmps, hLR.params, hLR.assign, hLR.body, hLR.defers⟩
  exact ⟨_, run_endRound jump hg', hput.1, hput.2, rfl⟩

theorem round_ok {E : Env} (hE : EnvOK E) (hD : ∀ C, C.E = E → CtxOK C → DrawOK C) {fuel : Nat} {call : CallH} {round : Nat → Array Value → AHeap → Option (Ending × AHeap)} (hcall : CallOK E call) (hround : RoundOK E round) :
    RoundOK E (aroundBy E fuel call round) := by
  intro l args h e h' hr β w args' em H hg ha hem
  unfold aroundBy at hr
  split at hr
  case h_2 => cases hr
  rename_i L hL
  split at hr
  case isFalse => cases hr
  rename_i hsz
  obtain ⟨L', hg', hLR⟩ := getLoop_of H hem hL
  have hy := run_yield (P := E.P) hg' (args := args') (by rw [hLR.params, hsz, ha.1])
  refine ⟨_, _, _, _, hy, fun c cs => ?_⟩
  simp only at hr
  have hCtx : CtxOK { E := E, fid := L.fn, ro := some l, call := call, round := round, fuel := fuel } := ⟨hE, hcall, hround⟩
  have hDC := hD _ rfl hCtx
  split at hr
  case h_2 => cases hr
  rename_i a1 u1 h1 hassign
  have htm := setParams_ok (ps := L.params.toList) (a := { L.act with defers := [] }) (ts := L'.tmps) ⟨hLR.tmps.size, hLR.tmps.tmp⟩ ha.toLs
  have hfold : (L'.params.zip args').foldl (fun tmps (x : Tmp × Value) => tmps.setIfInBounds x.1 x.2) L'.tmps = (L.params.toList.zip args'.toList).foldl (fun tmps (x : Tmp × Value) => tmps.setIfInBounds x.1 x.2) L'.tmps := by
    rw [← Array.foldl_toList, Array.toList_zip, hLR.params]
  have hact : ActR β (setParams (L.params.toList.zip args.toList) { L.act with defers := [] }) { tmps := (L'.params.zip args').foldl (fun tmps (x : Tmp × Value) => tmps.setIfInBounds x.1 x.2) L'.tmps, defers := [] } := by
    rw [hfold]
    exact ⟨htm.1.size, htm.1.tmp, by rw [htm.2]; exact .nil⟩
  have hb0 : Frame.round em.c L'.fn ((L'.params.zip args').foldl (fun tmps (x : Tmp × Value) => tmps.setIfInBounds x.1 x.2) L'.tmps) L'.assign L'.body .normal =
      ({ (default : Frame) with fn := L'.fn, kind := .normal, roundOf := some em.c } : Frame).atR { tmps := (L'.params.zip args').foldl (fun tmps (x : Tmp × Value) => tmps.setIfInBounds x.1 x.2) L'.tmps, defers := [] } [.code L'.assign, .beginRound, .code L'.body] := by
    simp [Frame.round, Frame.atR]
  have hbeta : ∀ {β' : Emb}, Emb.le β β' → RoR β' (some l) (some em.c) := fun hle => ⟨em, hle _ _ hem, rfl⟩
  obtain ⟨β1, a₁, u₁, w1, S1, X1, hk1, hs1⟩ := (acode_ok hCtx hDC L.assign _ _ _ _ hassign { (default : Frame) with fn := L'.fn, kind := .normal, roundOf := some em.c } [.beginRound, .code L'.body] default [] (c :: cs) β _ none w
    ⟨H, hg, hact, .none⟩ rfl hLR.fn (hbeta (Emb.le_refl _))).normal rfl
  have hu1 : u₁ = none := by
    have hS := S1.u
    cases u1 with
    | none => cases hS; rfl
    | some x => cases hk1
  subst hu1
  simp only [lay] at hs1
  rw [← hLR.assign, ← hb0] at hs1
  split at hr
  case h_2 => cases hr
  rename_i L1 hL1
  split at hr
  case isFalse => cases hr
  rename_i hready
  have hem1 := X1.le _ _ hem
  obtain ⟨L1', hg1', hLR1⟩ := getLoop_of S1.hr hem1 hL1
  have hput := S1.hr.putLoop (L1 := { L1 with state := .busy }) (L1' := { L1' with state := .busy }) hem1 hL1 ⟨rfl, hLR1.pending, hLR1.fn, hLR1.tmps, hLR1.params, hLR1.assign, hLR1.body, hLR1.defers⟩
  have hbr := stepR_beginRound (P := E.P) (b := { (default : Frame) with fn := L'.fn, kind := .normal, roundOf := some em.c }) (a := a₁) (k := [.code L'.body]) (cs := c :: cs) rfl (run_beginRound (P := E.P) hg1' (by rw [hLR1.state]; exact hready))
  have X2 := X1.trans hput.2
  have hbody : ∀ {r : ARes}, acode { E := E, fid := L.fn, ro := some l, call := call, round := round, fuel := fuel } L.body a1 none (h1.set l (.loop { L1 with state := .busy })) = some r →
      ∃ β2 a₂ w2 e2, StR E β2 r.a r.u r.h a₂ none w2 ∧ Ext β h w β2 r.h w2 ∧ β2 l = some em ∧ ExR β2 r.e e2 ∧ Arr E.P (lone (Frame.round em.c L'.fn ((L'.params.zip args').foldl (fun tmps (x : Tmp × Value) => tmps.setIfInBounds x.1 x.2) L'.tmps) L'.assign L'.body .normal) (c :: cs) w)
        { (default : Frame) with fn := L'.fn, kind := .normal, roundOf := some em.c } [] (c :: cs) e2 a₂ w2 := by
    intro r hrb
    obtain ⟨β2, a₂, u₂, w2, e2, S2, X3, hk2, he2, harr2⟩ := acode_ok hCtx hDC L.body _ _ _ _ hrb { (default : Frame) with fn := L'.fn, kind := .normal, roundOf := some em.c } [] default [] (c :: cs) β1 a₁ none _
      ⟨hput.1, S1.gl, S1.act, .none⟩ rfl hLR.fn (hbeta X1.le)
    have hu2 : u₂ = none := by
      have hS := S2.u
      obtain ⟨e, a, u, h⟩ := r
      cases u with
      | none => cases hS; rfl
      | some x => cases hk2
    subst hu2
    simp only [lay] at harr2
    rw [← hLR.body] at harr2
    exact ⟨β2, a₂, w2, e2, S2, X2.trans X3, (X2.trans X3).le _ _ hem, he2, harr2.of_steps (hs1.trans (.one hbr))⟩
  split at hr
  · rename_i a2 u2 h2 hb
    obtain ⟨β2, a₂, w2, e2, S2, X3, hem2, he2, harr⟩ := hbody hb
    split at hr
    case isFalse => cases hr
    cases he2
    obtain ⟨w3, hend, H3, X4, rfl⟩ := endRound_ok (E := E) S2.hr hem2 hr
    exact ⟨β2, .returned (.bool true), w3, _, H3, X3.trans X4, .returned _ _ (.bool _), Steps.trans harr (.one (stepR_round_end rfl rfl hend)), rfl⟩
  · rename_i a2 u2 h2 hb
    obtain ⟨β2, a₂, w2, e2, S2, X3, hem2, he2, harr⟩ := hbody hb
    split at hr
    case isFalse => cases hr
    cases he2
    obtain ⟨k₁, hs⟩ := harr
    obtain ⟨w3, hend, H3, X4, rfl⟩ := endRound_ok (E := E) S2.hr hem2 hr
    exact ⟨β2, .returned (.bool false), w3, _, H3, X3.trans X4, .returned _ _ (.bool _), Steps.trans hs (.one (stepR_round_ret rfl rfl hend)), rfl⟩
  · rename_i id a2 u2 h2 hb
    obtain ⟨β2, a₂, w2, e2, S2, X3, hem2, he2, harr⟩ := hbody hb
    split at hr
    case isFalse => cases hr
    cases he2
    obtain ⟨k₁, hk₁, hs⟩ := harr
    obtain ⟨w3, hend, H3, X4, rfl⟩ := endRound_ok (E := E) S2.hr hem2 hr
    exact ⟨β2, .returned (.bool false), w3, _, H3, X3.trans X4, .returned _ _ (.bool _), Steps.trans hs (.one (stepR_round_exit rfl rfl hk₁ hend)), rfl⟩
  · rename_i ch a2 u2 h2 hb
    obtain ⟨β2, a₂, w2, e2, S2, X3, hem2, he2, harr⟩ := hbody hb
    split at hr
    case isFalse => cases hr
    rename_i hde
    cases hr
    simp only [Bool.and_eq_true] at hde
    cases he2 with
    | panic _ ch' hch =>
    obtain ⟨todo, hs⟩ := harr
    have hds : a₂.defers = [] := by
      have := S2.act.defers
      have hde1 := hde.1
      generalize a₂.defers = x at this
      cases hd : a2.defers with
      | nil => simp only [hd] at this; cases this; rfl
      | cons x y => rw [hd] at hde1; simp at hde1
    obtain ⟨fn, hfn⟩ := Option.isSome_iff_exists.1 hde.2
    refine ⟨β2, .panicked ch', w2, _, S2.hr, X3, .panicked _ _ hch, Steps.trans hs (.one (step_leave_panicked ?_)), rfl⟩
    exact ⟨rfl, hds, fn, by rw [← hLR.fn] at hfn; exact hfn⟩
  · cases hr

/-! ### All -/
theorem hands_ok {E : Env} (hE : EnvOK E) (hD : ∀ C, C.E = E → CtxOK C → DrawOK C) (fuel : Nat) : ∀ (n : Nat), CallOK E (hands E fuel n).call ∧ RoundOK E (hands E fuel n).round ∧ CallDOK E (hands E fuel n).callD := by
  intro n
  induction n with
  | zero => exact ⟨fun _ _ _ _ _ h => (by cases h), fun _ _ _ _ _ h => (by cases h), fun _ _ _ _ _ _ _ h => (by cases h)⟩
  | succ n ih => exact ⟨call_ok hE hD ih.1 ih.2.1 ih.2.2, round_ok hE hD ih.1 ih.2.1, callD_ok hE hD ih.1 ih.2.1⟩

theorem acall_ok {E : Env} (hE : EnvOK E) (hD : ∀ C, C.E = E → CtxOK C → DrawOK C) (fuel n : Nat) : CallOK E (acall E fuel n) := (hands_ok hE hD fuel n).1
end Go.Eng

set_option linter.unusedVariables false
set_option linter.unusedSimpArgs false
namespace Go.Eng

structure HEq (h k : AHeap) : Prop where
  n : h.n = k.n
  get : ∀ B, h.get B = k.get B
  lv : ∀ r, h.lv.get r = k.lv.get r

theorem HEq.refl (h : AHeap) : HEq h h := ⟨rfl, fun _ => rfl, fun _ => rfl⟩
theorem HEq.symm {h k : AHeap} (a : HEq h k) : HEq k h := ⟨a.n.symm, fun B => (a.get B).symm, fun r => (a.lv r).symm⟩
theorem HEq.trans {h k m : AHeap} (a : HEq h k) (b : HEq k m) : HEq h m := ⟨a.n.trans b.n, fun B => (a.get B).trans (b.get B), fun r => (a.lv r).trans (b.lv r)⟩
theorem HEq.live {h k : AHeap} (a : HEq h k) (B : Nat) (r : Option Nat) : h.live B r = k.live B r := by
  cases r with
  | none => rfl
  | some r => simp [AHeap.live, a.lv r]

theorem HR.heq {β : Emb} {h k : AHeap} {hp : Array Obj} (H : HR β h hp) (a : HEq h k) : HR β k hp := by
  refine ⟨?_, ?_, ?_, ?_, ?_, ?_, ?_, ?_, ?_⟩
  · intro B e hB; rw [← a.n]; exact H.dom B e hB
  · intro B e hB; rw [← a.get]; exact H.has B e hB
  · intro B e o hB hg hl; rw [← a.get] at hg; exact H.con B e o hB hg (by rw [AHeap.liveO, a.live]; exact hl)
  · intro B1 B2 e1 e2 o1 o2 h1 h2 g1 g2; rw [← a.get] at g1 g2; exact H.sep B1 B2 e1 e2 o1 o2 h1 h2 g1 g2
  · intro B1 B2 e1 e2 o1 o2 r h1 h2 g1 g2; rw [← a.get] at g1 g2; exact H.mono B1 B2 e1 e2 o1 o2 r h1 h2 g1 g2
  · intro B1 B2 o1 o2 r g1 g2; rw [← a.get] at g1 g2; exact H.tip B1 B2 o1 o2 r g1 g2
  · intro B o hg; rw [← a.get] at hg; rw [← a.n]; exact H.bnd B o hg
  · intro B o r hg; rw [← a.get] at hg
    intro hr
    obtain ⟨y, h1, h2⟩ := H.rt B o r hg hr
    exact ⟨y, by rw [← a.get]; exact h1, h2⟩
  · intro B e o hB hg; rw [← a.get] at hg; exact H.b0 B e o hB hg

theorem Own.heq {β : Emb} {h k : AHeap} {C : Nat} (a : HEq h k) (o : Own β h C) : Own β k C := by
  obtain ⟨B, e, x, h1, h2, h3, h4⟩ := o
  exact ⟨B, e, x, h1, h2, by rw [← a.get]; exact h3, h4⟩

theorem Ext.heq {β β' : Emb} {h h' k' : AHeap} {w w' : World} (X : Ext β h w β' h' w') (a : HEq h' k') : Ext β h w β' k' w' :=
  ⟨X.le, X.os, X.tape, X.output, X.size, fun C hC => X.own C (hC.heq a.symm), X.keep, by rw [← a.n]; exact X.n, X.new⟩

/-! ### One cell -/
def AHeap.put1 (h : AHeap) (B : Nat) (x : AObj) : Option Nat → AHeap
  | none => h.set B x
  | some r => { h.set B x with lv := h.lv.set r B }

theorem put1_n (h : AHeap) (B : Nat) (x : AObj) (r : Option Nat) : (h.put1 B x r).n = h.n := by cases r <;> rfl
theorem put1_get (h : AHeap) (B : Nat) (x : AObj) (r : Option Nat) (X : Nat) : (h.put1 B x r).get X = if X = B then some x else h.get X := by cases r <;> exact AHeap.get_set _ _ _ _
theorem put1_lv (h : AHeap) (B : Nat) (x : AObj) (r : Option Nat) (q : Nat) : (h.put1 B x r).lv.get q = if r = some q then some B else h.lv.get q := by
  cases r with
  | none => simp [AHeap.put1, AHeap.set]
  | some r =>
    simp only [AHeap.put1, Tr.get_set, AHeap.set, Option.some.injEq]
    by_cases h : q = r
    · simp [h]
    · simp [h, Ne.symm h]

structure Wr (h : AHeap) (B o : Nat) (v : Value) (h' : AHeap) (vs : List Value) (t : TypeId) (root : Option Nat) (fz : Nat) : Prop where
  g : h.get B = some (.cells vs t 0 root fz)
  nfz : fz ≠ 2
  live : h.live B root = true
  lt : o < vs.length
  st : Eng.storable v = true
  eq : h' = h.put1 B (.cells (vs.set o v) t 0 root fz) root

theorem wr_iff {h h' : AHeap} {B o : Nat} {v : Value} (hw : h.wr B o v = some h') : ∃ vs t root fz, Wr h B o v h' vs t root fz := by
  unfold AHeap.wr at hw
  split at hw
  case h_2 => cases hw
  rename_i vs t st root fz hg
  split at hw
  case isFalse => cases hw
  rename_i hc
  obtain ⟨hst, hfz, hl, hlt, hsv⟩ := hc
  subst hst
  cases root with
  | none => simp only at hw; cases hw; exact ⟨vs, t, none, fz, hg, hfz, hl, hlt, hsv, rfl⟩
  | some r => simp only at hw; cases hw; exact ⟨vs, t, some r, fz, hg, hfz, hl, hlt, hsv, rfl⟩

theorem wr_mk {h : AHeap} {B o : Nat} {v : Value} {vs : List Value} {t : TypeId} {root : Option Nat} {fz : Nat} (g : h.get B = some (.cells vs t 0 root fz)) (hfz : fz ≠ 2) (hl : h.live B root = true) (hlt : o < vs.length)
    (hs : Eng.storable v = true) : h.wr B o v = some (h.put1 B (.cells (vs.set o v) t 0 root fz) root) := by
  unfold AHeap.wr
  rw [g]
  simp only [hfz, hl, hlt, hs, ne_eq, not_false_eq_true, and_self, if_true]
  cases root <;> rfl

theorem put1_heq {h k : AHeap} (a : HEq h k) (B : Nat) (x : AObj) (r : Option Nat) : HEq (h.put1 B x r) (k.put1 B x r) :=
  ⟨by rw [put1_n, put1_n]; exact a.n, fun X => by rw [put1_get, put1_get, a.get], fun q => by rw [put1_lv, put1_lv, a.lv]⟩

theorem wr_heq {h k h' : AHeap} (a : HEq h k) {B o : Nat} {v : Value} (hw : h.wr B o v = some h') : ∃ k', k.wr B o v = some k' ∧ HEq h' k' := by
  obtain ⟨vs, t, root, fz, W⟩ := wr_iff hw
  refine ⟨_, wr_mk (by rw [← a.get]; exact W.g) W.nfz (by rw [← a.live]; exact W.live) W.lt W.st, ?_⟩
  rw [W.eq]
  exact put1_heq a _ _ _

def AHeap.rootAt (h : AHeap) (B : Nat) : Option (Option Nat) := (h.get B).map AObj.root

theorem wr_root {h h' : AHeap} {B o : Nat} {v : Value} (hw : h.wr B o v = some h') (X : Nat) : h'.rootAt X = h.rootAt X := by
  obtain ⟨vs, t, root, fz, W⟩ := wr_iff hw
  rw [W.eq]
  simp only [AHeap.rootAt, put1_get]
  split
  · rename_i hX; subst hX; rw [W.g]; rfl
  · rfl

/-- Two places: the same block at other offsets; or blocks that are not of one chain. -/
def Apt (h : AHeap) (B1 o1 B2 o2 : Nat) : Prop := (B1 = B2 → o1 ≠ o2) ∧ (B1 ≠ B2 → ∀ r, h.rootAt B1 = some (some r) → h.rootAt B2 ≠ some (some r))

theorem wr_swap {h h1 h2 : AHeap} {B1 o1 B2 o2 : Nat} {v1 v2 : Value} (ha : Apt h B1 o1 B2 o2) (h1w : h.wr B1 o1 v1 = some h1) (h2w : h1.wr B2 o2 v2 = some h2) :
    ∃ k1 k2, h.wr B2 o2 v2 = some k1 ∧ k1.wr B1 o1 v1 = some k2 ∧ HEq h2 k2 := by
  obtain ⟨vs1, t1, root1, fz1, W1⟩ := wr_iff h1w
  obtain ⟨vs2, t2, root2, fz2, W2⟩ := wr_iff h2w
  have hg2 := W2.g
  rw [W1.eq, put1_get] at hg2
  have hl2 := W2.live
  by_cases hB : B1 = B2
  · subst hB
    have hne := ha.1 rfl
    rw [if_pos rfl] at hg2
    cases hg2
    have hlt2 : o2 < vs1.length := by simpa using W2.lt
    refine ⟨_, _, wr_mk W1.g W1.nfz W1.live hlt2 W2.st, wr_mk (by rw [put1_get, if_pos rfl]) W1.nfz ?_ (by simpa using W1.lt) W1.st, ?_⟩
    · cases root1 with
      | none => rfl
      | some r => simp [AHeap.live, put1_lv]
    · rw [W2.eq, W1.eq]
      refine ⟨by simp [put1_n], fun X => ?_, fun q => ?_⟩
      · simp only [put1_get]
        split
        · rw [List.set_comm _ _ hne]
        · rfl
      · simp only [put1_lv]
  · rw [if_neg (Ne.symm hB)] at hg2
    have hr := ha.2 hB
    have hrr : ∀ r, root1 = some r → root2 ≠ some r := by
      intro r h1 h2
      exact hr r (by simp [AHeap.rootAt, W1.g, AObj.root, h1]) (by simp [AHeap.rootAt, hg2, AObj.root, h2])
    have hl2' : h.live B2 root2 = true := by
      cases root2 with
      | none => rfl
      | some r =>
        rw [W1.eq] at hl2
        simp only [AHeap.live, put1_lv] at hl2 ⊢
        rw [if_neg (fun hc => hrr r hc rfl)] at hl2
        exact hl2
    refine ⟨_, _, wr_mk hg2 W2.nfz hl2' W2.lt W2.st, wr_mk (by rw [put1_get, if_neg hB]; exact W1.g) W1.nfz ?_ W1.lt W1.st, ?_⟩
    · cases root1 with
      | none => rfl
      | some r =>
        have := W1.live
        simp only [AHeap.live, put1_lv] at this ⊢
        rw [if_neg (hrr r rfl)]
        exact this
    · rw [W2.eq, W1.eq]
      refine ⟨by simp [put1_n], fun X => ?_, fun q => ?_⟩
      · simp only [put1_get]
        by_cases h1 : X = B2
        · subst h1; simp [Ne.symm hB]
        · simp [h1]
      · simp only [put1_lv]
        by_cases h1 : root2 = some q
        · have : root1 ≠ some q := fun hc => hrr q hc h1
          simp [h1, this]
        · simp [h1]

/-! ### Rows of cells -/
theorem wrN_heq : ∀ {l : List Value} {h k h' : AHeap} {B o : Nat}, HEq h k → h.wrN B o l = some h' → ∃ k', k.wrN B o l = some k' ∧ HEq h' k' := by
  intro l
  induction l with
  | nil => intro h k h' B o a hw; cases hw; exact ⟨k, rfl, a⟩
  | cons v l ih =>
    intro h k h' B o a hw
    simp only [AHeap.wrN] at hw ⊢
    split at hw
    case h_2 => cases hw
    rename_i h1 hw1
    obtain ⟨k1, hk1, a1⟩ := wr_heq a hw1
    obtain ⟨k', hk', a'⟩ := ih a1 hw
    exact ⟨k', by rw [hk1]; exact hk', a'⟩

theorem wrN_root : ∀ {l : List Value} {h h' : AHeap} {B o : Nat}, h.wrN B o l = some h' → ∀ X, h'.rootAt X = h.rootAt X := by
  intro l
  induction l with
  | nil => intro h h' B o hw X; cases hw; rfl
  | cons v l ih =>
    intro h h' B o hw X
    simp only [AHeap.wrN] at hw
    split at hw
    case h_2 => cases hw
    rename_i h1 hw1
    rw [ih hw X, wr_root hw1 X]

theorem Apt.of_root {h h' : AHeap} {B1 o1 B2 o2 : Nat} (ha : Apt h B1 o1 B2 o2) (hr : ∀ X, h'.rootAt X = h.rootAt X) : Apt h' B1 o1 B2 o2 :=
  ⟨ha.1, fun hne r => by rw [hr, hr]; exact ha.2 hne r⟩

theorem wr_wrN_swap : ∀ {l : List Value} {h h1 h2 : AHeap} {B1 o1 B2 o2 : Nat} {v1 : Value}, (∀ j, j < l.length → Apt h B1 o1 B2 (o2 + j)) → h.wr B1 o1 v1 = some h1 → h1.wrN B2 o2 l = some h2 →
    ∃ k1 k2, h.wrN B2 o2 l = some k1 ∧ k1.wr B1 o1 v1 = some k2 ∧ HEq h2 k2 := by
  intro l
  induction l with
  | nil => intro h h1 h2 B1 o1 B2 o2 v1 _ hw hw2; cases hw2; exact ⟨h, h1, rfl, hw, HEq.refl _⟩
  | cons v l ih =>
    intro h h1 h2 B1 o1 B2 o2 v1 ha hw hw2
    simp only [AHeap.wrN] at hw2
    split at hw2
    case h_2 => cases hw2
    rename_i h1' hw1'
    obtain ⟨g, g1, hg, hg1, hq⟩ := wr_swap (by simpa using ha 0 (by simp)) hw hw1'
    obtain ⟨g2, hg2, hq2⟩ := wrN_heq hq hw2
    obtain ⟨k1, k2, hk1, hk2, hq3⟩ := ih (o2 := o2 + 1) (fun j hj => ((by have := ha (j + 1) (by simpa using hj); rwa [show o2 + (j + 1) = o2 + 1 + j by omega] at this) : Apt h B1 o1 B2 (o2 + 1 + j)).of_root (fun X => wr_root hg X)) hg1 hg2
    exact ⟨k1, k2, by simp only [AHeap.wrN, hg]; exact hk1, hk2, hq2.trans hq3⟩

theorem wrN_wrN_swap : ∀ {l1 l2 : List Value} {h h1 h2 : AHeap} {B1 o1 B2 o2 : Nat}, (∀ i j, i < l1.length → j < l2.length → Apt h B1 (o1 + i) B2 (o2 + j)) → h.wrN B1 o1 l1 = some h1 → h1.wrN B2 o2 l2 = some h2 →
    ∃ k1 k2, h.wrN B2 o2 l2 = some k1 ∧ k1.wrN B1 o1 l1 = some k2 ∧ HEq h2 k2 := by
  intro l1
  induction l1 with
  | nil => intro l2 h h1 h2 B1 o1 B2 o2 _ hw hw2; cases hw; exact ⟨h2, h2, hw2, rfl, HEq.refl _⟩
  | cons v l1 ih =>
    intro l2 h h1 h2 B1 o1 B2 o2 ha hw hw2
    simp only [AHeap.wrN] at hw
    split at hw
    case h_2 => cases hw
    rename_i g hg
    obtain ⟨k1, k2, hk1, hk2, hq⟩ := ih (o1 := o1 + 1) (fun i j hi hj => ((by have := ha (i + 1) j (by simpa using hi) hj; rwa [show o1 + (i + 1) = o1 + 1 + i by omega] at this) : Apt h B1 (o1 + 1 + i) B2 (o2 + j)).of_root (fun X => wr_root hg X)) hw hw2
    obtain ⟨m1, m2, hm1, hm2, hq2⟩ := wr_wrN_swap (fun j hj => by simpa using ha 0 j (by simp) hj) hg hk1
    obtain ⟨m3, hm3, hq3⟩ := wrN_heq hq2 hk2
    exact ⟨m1, m3, hm1, by simp only [AHeap.wrN, hm2]; exact hm3, hq.trans hq3⟩

/-! ### Many stores -/
structure St where
  B : Nat
  o : Nat
  l : List Value

def seqW : List St → AHeap → Option AHeap
  | [], h => some h
  | s :: l, h => match h.wrN s.B s.o s.l with
    | some h1 => seqW l h1
    | none => none

def AptS (h : AHeap) (s t : St) : Prop := ∀ i j, i < s.l.length → j < t.l.length → Apt h s.B (s.o + i) t.B (t.o + j)

theorem seqW_heq : ∀ {l : List St} {h k h' : AHeap}, HEq h k → seqW l h = some h' → ∃ k', seqW l k = some k' ∧ HEq h' k' := by
  intro l
  induction l with
  | nil => intro h k h' a hw; cases hw; exact ⟨k, rfl, a⟩
  | cons s l ih =>
    intro h k h' a hw
    simp only [seqW] at hw ⊢
    split at hw
    case h_2 => cases hw
    rename_i h1 hw1
    obtain ⟨k1, hk1, a1⟩ := wrN_heq a hw1
    obtain ⟨k', hk', a'⟩ := ih a1 hw
    exact ⟨k', by rw [hk1]; exact hk', a'⟩

theorem seqW_front : ∀ {l1 l2 : List St} {x : St} {h h' : AHeap}, (∀ s ∈ l1, AptS h s x) → seqW (l1 ++ x :: l2) h = some h' → ∃ h1 h'', h.wrN x.B x.o x.l = some h1 ∧ seqW (l1 ++ l2) h1 = some h'' ∧ HEq h' h'' := by
  intro l1
  induction l1 with
  | nil =>
    intro l2 x h h' _ hw
    simp only [List.nil_append, seqW] at hw ⊢
    split at hw
    case h_2 => cases hw
    rename_i h1 hw1
    exact ⟨h1, h', hw1, hw, HEq.refl _⟩
  | cons s l1 ih =>
    intro l2 x h h' ha hw
    simp only [List.cons_append, seqW] at hw
    split at hw
    case h_2 => cases hw
    rename_i g hg
    obtain ⟨g1, h'', hg1, hs, hq⟩ := ih (fun t ht => (fun i j hi hj => (ha t (by simp [ht]) i j hi hj).of_root (fun X => wrN_root hg X))) hw
    obtain ⟨k1, k2, hk1, hk2, hq2⟩ := wrN_wrN_swap (ha s (by simp)) hg hg1
    obtain ⟨m, hm, hq3⟩ := seqW_heq hq2 hs
    refine ⟨k1, m, hk1, ?_, hq.trans hq3⟩
    simp only [List.cons_append, seqW, hk2]
    exact hm
end Go.Eng

set_option linter.unusedVariables false
set_option linter.unusedSimpArgs false
namespace Go.Eng

theorem veqS_eq {a b : Value} (h : veqS a b = true) : a = b := by
  unfold veqS at h
  split at h <;> simp_all
  · rename_i x y
    obtain ⟨⟨l⟩⟩ := x
    obtain ⟨⟨m⟩⟩ := y
    simp_all
theorem veqL_eq : ∀ {l m : List Value}, veqL l m = true → l = m := by
  intro l
  induction l with
  | nil => intro m h; cases m with
    | nil => rfl
    | cons => simp [veqL] at h
  | cons a l ih => intro m h; cases m with
    | nil => simp [veqL] at h
    | cons b m =>
      simp only [veqL, Bool.and_eq_true] at h
      rw [veqS_eq h.1, ih h.2]
theorem veq_eq {a b : Value} (h : veq a b = true) : a = b := by
  unfold veq at h
  split at h
  · simp only [Bool.and_eq_true, beq_iff_eq] at h
    obtain ⟨⟨h1, h2⟩, h3⟩ := h
    rw [h1, Array.toList_inj.1 (veqL_eq h2), Array.toList_inj.1 (veqL_eq h3)]
  · rw [Array.toList_inj.1 (veqL_eq h)]
  · simp only [Bool.and_eq_true, beq_iff_eq] at h
    rw [h.1, veqS_eq h.2]
  · exact veqS_eq h

/-- Two activations agree on what an operation names. -/
def Agree (E : Env) (a b : AAct) (o : Oper) : Prop := ∀ x ∈ o.op.operands.toList, a.ev E.gl x = b.ev E.gl x

theorem optEv {E : Env} {a b : AAct} {o : Option Operand} (h : ∀ x ∈ o.toList, a.ev E.gl x = b.ev E.gl x) : o.map (a.ev E.gl) = o.map (b.ev E.gl) := by
  cases o with
  | none => rfl
  | some x => simp [h x (by simp)]

theorem callOp_congr {E : Env} {a b : AAct} {c : Call} (h : ∀ x ∈ c.operands.toList, a.ev E.gl x = b.ev E.gl x) (hp : AHeap) : acallOp E a c hp = acallOp E b c hp := by
  have hargs : c.args.toList.map (a.ev E.gl) = c.args.toList.map (b.ev E.gl) := List.map_congr_left fun x hx => h x (by simp [Call.operands]; exact .inr (by simpa using hx))
  unfold acallOp
  rw [hargs]
  split
  · rfl
  · rename_i f hf
    rw [h f (by simp [Call.operands, hf])]
  · rfl

theorem aop_congr {E : Env} {a b : AAct} {o : Oper} (h : Agree E a b o) (ro : Bool) (hp : AHeap) : aop E a ro o hp = aop E b ro o hp := by
  unfold Agree at h
  rw [aop_def, aop_def]
  unfold aopBig
  cases hop : o.op <;> rw [hop] at h <;> simp only [Op.operands] at h
  case build t ps =>
    have : (ps.toList.map fun (i, x) => (i, a.ev E.gl x)) = (ps.toList.map fun (i, x) => (i, b.ev E.gl x)) := List.map_congr_left fun p hp => by
      obtain ⟨i, x⟩ := p
      simp only [Prod.mk.injEq, true_and]
      exact h x (by simp; exact ⟨i, by simpa using hp⟩)
    simp only [this]
  case buildSlice t n ps =>
    have : (ps.toList.map fun (i, x) => (i, a.ev E.gl x)) = (ps.toList.map fun (i, x) => (i, b.ev E.gl x)) := List.map_congr_left fun p hp => by
      obtain ⟨i, x⟩ := p
      simp only [Prod.mk.injEq, true_and]
      exact h x (by simp; exact ⟨i, by simpa using hp⟩)
    simp only [this]
  case makeFunc fn first captured =>
    have h1 : first.toList.map (a.ev E.gl) = first.toList.map (b.ev E.gl) := List.map_congr_left fun x hx => h x (by simp; exact .inl (by simpa using hx))
    have h2 : captured.toList.map (a.ev E.gl) = captured.toList.map (b.ev E.gl) := List.map_congr_left fun x hx => h x (by simp; exact .inr (by simpa using hx))
    simp only [h1, h2]
  case slice t x lo hi mx =>
    have h0 := h x (by simp)
    have h1 : lo.map (a.ev E.gl) = lo.map (b.ev E.gl) := optEv fun y hy => h y (by simp at hy ⊢; simp [hy])
    have h2 : hi.map (a.ev E.gl) = hi.map (b.ev E.gl) := optEv fun y hy => h y (by simp at hy ⊢; simp [hy])
    have h3 : mx.map (a.ev E.gl) = mx.map (b.ev E.gl) := optEv fun y hy => h y (by simp at hy ⊢; simp [hy])
    simp only [h0, h1, h2, h3]
  case makeMap t r =>
    have h1 : r.map (a.ev E.gl) = r.map (b.ev E.gl) := optEv fun y hy => h y (by simp at hy ⊢; simp [hy])
    simp only [h1]
  case call c => exact callOp_congr h hp
  case defer c =>
    have hargs : c.args.toList.map (a.ev E.gl) = c.args.toList.map (b.ev E.gl) := List.map_congr_left fun x hx => h x (by simp [Call.operands]; exact .inr (by simpa using hx))
    simp only [hargs]
    split
    · rfl
    split
    · rename_i f hf
      rw [h f (by simp [Call.operands, hf])]
    · rfl
  all_goals first | rfl | (simp at h; simp only [h])

theorem quietK_congr {E : Env} {a b : AAct} {o : Oper} (h : Agree E a b o) : quietK E a o = quietK E b o := by
  unfold quietK
  unfold Agree at h
  cases hop : o.op <;> rw [hop] at h <;> first | rfl | (simp [Op.operands] at h; simp only [h])

theorem quiet_congr {E : Env} {a b : AAct} {o : Oper} (h : Agree E a b o) (hp : AHeap) : aquiet E a o hp = aquiet E b o hp := by
  unfold aquiet
  rw [aop_congr h, quietK_congr h]

theorem estep_congr {C : Ctx} {a b : AAct} {o : Oper} (h : Agree C.E a b o) (hp : AHeap) : estep C a o hp = estep C b o hp := by
  unfold estep
  rw [aop_congr h]

theorem estep_go {C : Ctx} {a : AAct} {o : Oper} {hp h' : AHeap} {v : Value} (h : estep C a o hp = some (.go v h')) (u : Option FrameMode) : astep C a u o hp = some (.go v a.defers u h') := by
  unfold estep at h
  unfold astep
  split at h
  · rename_i he; rw [he]; cases h; rfl
  · rename_i he; rw [he]; cases h; rfl
  · rename_i he; rw [he]
    simp only
    split at h
    · rename_i hc; rw [hc]; cases h; rfl
    · cases h
    · cases h
  · rename_i he; rw [he]
    simp only
    split at h
    · rename_i hc; rw [hc]; cases h; rfl
    · cases h
    · cases h
  · cases h
  · cases h

theorem estep_panic {C : Ctx} {a : AAct} {o : Oper} {hp h' : AHeap} {ch : List PanicEntry} (h : estep C a o hp = some (.panic ch h')) (u : Option FrameMode) : astep C a u o hp = some (.panic ch h') := by
  unfold estep at h
  unfold astep
  split at h
  · cases h
  · cases h
  · rename_i he; rw [he]
    simp only
    split at h
    · cases h
    · rename_i hc; rw [hc]; cases h; rfl
    · cases h
  · rename_i he; rw [he]
    simp only
    split at h
    · cases h
    · rename_i hc; rw [hc]; cases h; rfl
    · cases h
  · rename_i he; rw [he]; cases h; rfl
  · cases h

theorem qvInv {x : Option AOut} {v : Value} (h : qv x = some v) : ∃ h', x = some (.val v h') := by
  unfold qv at h
  split at h
  · cases h; exact ⟨_, rfl⟩
  · cases h

theorem aop_round {E : Env} {a : AAct} {o : Oper} {h : AHeap} (hd : ∀ c, o.op ≠ .defer c) (ro ro' : Bool) : aop E a ro o h = aop E a ro' o h := by
  rw [aop_def, aop_def]
  unfold aopBig
  cases hop : o.op <;> first | rfl | exact absurd hop (hd _)

theorem optVal {x : Option Value} {h h' : AHeap} {v : Value} (he : (match x with | some y => some (AOut.val y h) | none => none) = some (.val v h')) : h' = h ∧ x = some v := by
  cases x with
  | none => cases he
  | some y => cases he; exact ⟨rfl, rfl⟩

theorem quiet_keeps {E : Env} {a : AAct} {o : Oper} {h h' : AHeap} {v : Value} {ro : Bool} (hk : quietK E a o = true) (he : aop E a ro o h = some (.val v h')) : h' = h ∧ (∀ c, o.op ≠ .defer c) := by
  unfold quietK at hk
  rw [aop_def] at he
  unfold aopBig at he
  cases hop : o.op <;> rw [hop] at hk <;> simp only [hop] at he <;> try (cases hk; done)
  all_goals refine ⟨?_, fun c hc => by cases hc⟩
  case move x => cases he; rfl
  case assign x => cases he; rfl
  case pick c x y => split at he <;> cases he; rfl
  case nilCheck x =>
    split at he
    · cases he; rfl
    · split at he <;> cases he; rfl
    · cases he; rfl
    · cases he
  case makeFunc fn f c => split at he <;> cases he; rfl
  case convert s d x =>
    simp only [Bool.and_eq_true] at hk
    obtain ⟨h1, h2⟩ := hk
    unfold isIntV at h1
    split at h1
    case h_2 => cases h1
    rename_i k n hx
    unfold isIntT at h2
    split at h2
    case h_2 => cases h2
    rename_i k2 hu
    rw [hx] at he
    simp only [aconv, hu] at he
    cases hs : E.P.underlying s with
    | none => rw [hs] at he; cases he
    | some ds => rw [hs] at he; cases he; rfl
  case call c =>
    simp only [acallOp] at he
    simp only at hk
    cases hc : c.callee with
    | value f => rw [hc] at hk; cases hk
    | invoke r m => rw [hc] at hk; cases hk
    | builtin b =>
      rw [hc] at hk
      simp only [hc] at he
      cases b <;> first | (cases hk; done) | skip
      all_goals
        unfold abuiltin at he
        (repeat' split at he) <;> first | contradiction | (cases he; done) | (cases he; rfl) | skip
  all_goals first
    | exact (optVal he).1

/-- A quiet operation, as the machine takes it. -/
theorem aquiet_aop {E : Env} {a : AAct} {o : Oper} {h : AHeap} {v : Value} (hq : aquiet E a o h = some v) (ro : Bool) : aop E a ro o h = some (.val v h) := by
  unfold aquiet at hq
  split at hq
  case isFalse => cases hq
  rename_i hk
  obtain ⟨h', he⟩ := qvInv hq
  obtain ⟨h1, h2⟩ := quiet_keeps hk he
  subst h1
  rw [aop_round h2 ro true, he]

/-- What does not look at memory gives the same whatever lies there. -/
theorem aquiet_blind {E : Env} {a : AAct} {o : Oper} {h : AHeap} {v : Value} (hl : looks o = false) (hq : aquiet E a o h = some v) (k : AHeap) : aquiet E a o k = some v := by
  unfold aquiet at hq ⊢
  split at hq
  case isFalse => cases hq
  rename_i hk
  rw [if_pos hk]
  have he := (qvInv hq)
  obtain ⟨h', he⟩ := he
  suffices aop E a true o k = some (.val v k) by rw [this]; rfl
  unfold quietK at hk
  rw [aop_def] at he ⊢
  unfold aopBig at he ⊢
  unfold looks at hl
  cases hop : o.op <;> rw [hop] at hk hl <;> simp only [hop] at he ⊢ <;> first | (cases hk; done) | (cases hl; done) | skip
  case move x => cases he; rfl
  case assign x => cases he; rfl
  case pick c x y => split at he <;> cases he; rfl
  case nilCheck x =>
    split at he
    · cases he; rfl
    · split at he
      · cases he; rw [if_pos (by assumption)]
      · cases he
    · cases he; rfl
    · cases he
  case makeFunc fn f c =>
    split at he
    · cases he; rw [if_pos (by assumption)]
    · cases he
  case convert s d x =>
    simp only [Bool.and_eq_true] at hk
    obtain ⟨h1, h2⟩ := hk
    unfold isIntV at h1
    split at h1
    case h_2 => cases h1
    rename_i kk n hx
    unfold isIntT at h2
    split at h2
    case h_2 => cases h2
    rename_i k2 hu
    rw [hx] at he ⊢
    simp only [aconv, hu] at he ⊢
    cases hs : E.P.underlying s with
    | none => rw [hs] at he; cases he
    | some ds => rw [hs] at he; cases he; rfl
  all_goals first
    | (rw [(optVal he).2])
end Go.Eng

