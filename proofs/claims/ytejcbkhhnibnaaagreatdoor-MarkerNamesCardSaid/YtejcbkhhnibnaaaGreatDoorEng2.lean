/- The evaluator, part 2: one operation, and that it does what the machine does. No condition. -/
import Derived.Test.YtejcbkhhnibnaaaGreatDoorEng1
import Derived.RangeFuncLeaves
import Derived.Recover
set_option linter.unusedVariables false
set_option linter.unusedSimpArgs false
namespace Go.Eng

/-- What a run is given beside the program: the package variables that lie mapped, and the functions without a body. -/
structure Env where
  P : Program
  gl : Nat → Bool
  ext : FuncId → Option (List Value → Option Value)

structure EnvOK (E : Env) : Prop where
  ext : ∀ (f : FuncId) (g : List Value → Option Value) (args : List Value) (v : Value), E.ext f = some g → g args = some v → ∀ (β : Emb) (args' : Array Value), ArrR β args.toArray args' → ∀ w : World, ∃ v', (callFunc f args').run E.P w = .ok (.value v') w ∧ VR β v v'
  mixed : E.P.follows .mixedOrders = true
  num : ∀ (f : FuncId) (fn : Func), E.P.funcs[f]? = some fn → fn.body.isSome = true → (fn.name == "runtime.NumGoroutine") = false

def flatc : Value → Bool
  | .agg cs => cs.toList.all flat0
  | v => flat0 v
theorem VR.flatc {β : Emb} {v : Value} (h : Eng.flatc v = true) : VR β v v := by
  cases v with
  | agg cs => exact VR.flatAgg (z := .agg cs) h
  | _ => exact .flat h

def AAct.ev (a : AAct) (gl : Nat → Bool) : Operand → Value
  | .tmp t => a.tmp t
  | .const v => if flatc v then v else junk
  | .global g => if gl g then .pointer (some ⟨g, 0, none⟩) else junk
  | .func f => .func (.func f) #[] #[]

def GlR (gl : Nat → Bool) (β : Emb) : Prop := ∀ g, gl g = true → ∃ e, β g = some e ∧ e.c = g ∧ e.base = 0
theorem GlR.mono {gl : Nat → Bool} {β β' : Emb} (hle : Emb.le β β') (h : GlR gl β) : GlR gl β' := fun g hg => let ⟨e, a, b⟩ := h g hg; ⟨e, hle _ _ a, b⟩

theorem ev_ok {gl : Nat → Bool} {β : Emb} {a : AAct} {a' : Act} (hg : GlR gl β) (ha : ActR β a a') (x : Operand) : VR β (a.ev gl x) (a'.eval x) := by
  cases x with
  | tmp t => exact ha.tmp t
  | const v =>
    simp only [AAct.ev, Act.eval]
    split
    · rename_i h; exact .flatc h
    · exact .junk _
  | global g =>
    simp only [AAct.ev, Act.eval]
    split
    · rename_i h
      obtain ⟨e, h1, h2, h3⟩ := hg g h
      have := VR.ptr (β := β) g 0 e h1
      rw [h2, h3] at this
      simpa using this
    · exact .junk _
  | func f => exact .func _ _ _ _ _ _ (.same _ (by intro l h; cases h)) rfl (fun i v v' h => by simp at h) rfl (fun i v v' h => by simp at h)

/-! ### Builtins -/
def aminmax (mx : Bool) : Value → List Value → Option Value
  | v, [] => some v
  | .int k a, .int k' b :: l => if k = k' then aminmax mx (.int k (if mx then (if b > a then b else a) else (if b < a then b else a))) l else none
  | _, _ => none

inductive AOut where
  | val (v : Value) (h : AHeap)
  | skip (h : AHeap)
  | enter (f : FuncId) (args : Array Value) (h : AHeap)
  | round (l : Nat) (args : Array Value) (h : AHeap)
  | defer (d : Deferred) (h : AHeap)
  | recov (h : AHeap)
  | panic (v : Value) (h : AHeap)

def amakeSlice (P : Program) (t : TypeId) (len cap : Value) (h : AHeap) : Option (Value × AHeap) :=
  match len, cap with
  | .int _ l, .int _ c =>
    match P.underlying t with
    | some (.slice elem) =>
      match P.info? elem with
      | some i => match i.zero with
        | some z =>
          if 0 ≤ l ∧ l ≤ c ∧ c ≤ 1099511627776 ∧ c * i.bytes ≤ 1099511627776 ∧ z.cells.size = i.size ∧ z.cells.toList.all flat0 = true then
            some (.slice (some ⟨h.n, 0, none⟩) l.toNat i.size, h.push (.cells (zeros z.cells.toList (l.toNat * i.size)) elem 0 none 0))
          else none
        | none => none
      | none => none
    | _ => none
  | _, _ => none

def acopy (P : Program) (ts : Array TypeId) (d s : Value) (h : AHeap) : Option (Value × AHeap) :=
  match ts[0]? with
  | none => none
  | some dt =>
  match P.underlying dt with
  | some (.slice elem) =>
    match P.info? elem with
    | some i =>
      match h.src i.size s with
      | some (xs, n) =>
        (match d with
        | .slice none 0 0 => some (.int .i64 0, h)
        | .slice (some ⟨B, off, none⟩) len esz =>
          if esz = i.size then
            (match h.wrN B off (xs.take (min n len * i.size)) with
            | some h' => some (.int .i64 (min n len : Nat), h')
            | none => none)
          else none
        | _ => none)
      | none => none
    | none => none
  | _ => none

def aclear (P : Program) (ts : Array TypeId) (x : Value) (h : AHeap) : Option AHeap :=
  match ts[0]? with
  | none => none
  | some t =>
  match P.underlying t, x with
  | some (.slice _), .slice none 0 0 => some h
  | some (.slice elem), .slice (some ⟨B, off, none⟩) n esz =>
    if n = 0 then some h else
    (match P.info? elem with
    | some i => match i.zero with
      | some z => if z.cells.size = i.size ∧ esz = i.size ∧ z.cells.toList.all flat0 = true then h.wrN B off (zeros z.cells.toList (n * i.size)) else none
      | none => none
    | none => none)
  | _, _ => none

def aunsafeString (P : Program) (ts : Array TypeId) (p len : Value) (h : AHeap) : Option (Value × AHeap) :=
  match p, len with
  | .pointer none, .int _ n => if n = 0 ∧ (ts[0]?).isSome = true then some (.string ⟨⟨[]⟩⟩, h) else none
  | .pointer (some ⟨B, o, none⟩), .int _ n =>
    if 0 < n ∧ n ≤ 1099511627776 then
    (match ts[0]? with
    | some pt =>
      (match P.underlying pt with
      | some (.pointer e) =>
        (match h.get B with
        | some (.cells vs t st root fz) =>
          if t = e ∧ st = 0 ∧ fz ≠ 1 ∧ h.live B root = true ∧ P.cellsOf e = 1 then
            (match h.rdN B o n.toNat with
            | some l => (match unbytes l with
              | some r => some (.string ⟨⟨r⟩⟩, h.set B (.cells vs t st root 2))
              | none => none)
            | none => none)
          else none
        | _ => none)
      | _ => none)
    | none => none)
    else none
  | _, _ => none

def abuiltin (P : Program) (b : Builtin) (ts : Array TypeId) (args : List Value) (h : AHeap) : Option AOut :=
  match b, args with
  | .append, [s, x] => (match aappend P ts s x h with | some (r, h') => some (.val r h') | none => none)
  | .len, [x] =>
    (match ts[0]? with
    | some t => (match P.underlying t, x with
      | some .string, .string s => some (.val (.int .i64 (s.data.toList.length : Nat)) h)
      | some (.array n _), _ => some (.val (.int .i64 (n : Nat)) h)
      | some (.slice _), .slice _ n _ => some (.val (.int .i64 (n : Nat)) h)
      | some (.map _ _), .map none => some (.val (.int .i64 0) h)
      | some (.map _ _), .map (some B) => (match h.get B with | some (.map es) => some (.val (.int .i64 (es.length : Nat)) h) | _ => none)
      | _, _ => none)
    | none => none)
  | .max, x :: l => (match aminmax true x l with | some v => some (.val v h) | none => none)
  | .min, x :: l => (match aminmax false x l with | some v => some (.val v h) | none => none)
  | .copy, [d, s] => (match acopy P ts d s h with | some (r, h') => some (.val r h') | none => none)
  | .clear, [x] => (match aclear P ts x h with | some h' => some (.val (.tuple #[]) h') | none => none)
  | .recover, _ => some (.recov h)
  | .unsafeSliceData, [.slice none _ _] => some (.val (.pointer none) h)
  | .unsafeSliceData, [.slice (some ⟨B, o, none⟩) n _] => if n = 0 then none else some (.val (.pointer (some ⟨B, o, none⟩)) h)
  | .unsafeString, [p, n] => (match aunsafeString P ts p n h with | some (r, h') => some (.val r h') | none => none)
  | _, _ => none

/-! ### Calls -/
def acallFn (E : Env) (f : FuncId) (args : List Value) (h : AHeap) : Option AOut :=
  match E.ext f with
  | some g => (match g args with | some v => some (.val v h) | none => none)
  | none => match E.P.funcs[f]? with
    | some fn => if fn.body.isSome then some (.enter f args.toArray h) else none
    | none => none

def ainvoke (E : Env) (fn : Fn) (args captured : List Value) (h : AHeap) : Option AOut :=
  match fn with
  | .func f => acallFn E f (args ++ captured) h
  | .yield l => some (.round l args.toArray h)
  | _ => none

def acallOp (E : Env) (a : AAct) (c : Call) (h : AHeap) : Option AOut :=
  match c.callee with
  | .builtin b => abuiltin E.P b c.argTypes (c.args.toList.map (a.ev E.gl)) h
  | .value f => (match a.ev E.gl f with
    | .func fn first captured => ainvoke E fn (first.toList ++ c.args.toList.map (a.ev E.gl)) captured.toList h
    | _ => none)
  | .invoke _ _ => none

def fnOk : Fn → Bool
  | .func _ => true
  | _ => false

def aopBig (E : Env) (a : AAct) (inRound : Bool) (o : Oper) (h : AHeap) : Option AOut :=
  let ρ := a.ev E.gl
  let v (r : Option Value) : Option AOut := match r with | some x => some (.val x h) | none => none
  let vh (r : Option (Value × AHeap)) : Option AOut := match r with | some (x, h') => some (.val x h') | none => none
  match o.op with
  | .move x | .assign x => some (.val (ρ x) h)
  | .pick c x y => (match ρ c with | .bool b => some (.val (if b then ρ x else ρ y) h) | _ => none)
  | .alloc t => vh (aalloc E.P t h)
  | .box t x => vh (abox t (ρ x) h)
  | .build t ps => v (abuild E.P t (ps.toList.map fun (i, x) => (i, ρ x)))
  | .buildSlice t n ps => vh (abuildSlice E.P t n (ps.toList.map fun (i, x) => (i, ρ x)) h)
  | .load t x => v (aload E.P t (ρ x) h)
  | .store t x y => (match astore E.P t (ρ x) (ρ y) h with | some h' => some (.skip h') | none => none)
  | .nilCheck x => (match ρ x with
    | .pointer (some ⟨B, k, none⟩) => some (.val (.pointer (some ⟨B, k, none⟩)) h)
    | .func fn f c => if fnOk fn then some (.val (.func fn f c) h) else none
    | .iface t y => some (.val (.iface t y) h)
    | _ => none)
  | .binOp op t x y _ => v (abin E.P op t x y (ρ x) (ρ y))
  | .unOp op _ x => v (aun op (ρ x))
  | .convert s d x => vh (aconv E.P s d (ρ x) h)
  | .makeInterface t x => v (amkIface E.P t (ρ x))
  | .makeFunc fn first captured => if fnOk fn then some (.val (.func fn (first.toList.map ρ).toArray (captured.toList.map ρ).toArray) h) else none
  | .makeSlice t l c => vh (amakeSlice E.P t (ρ l) (ρ c) h)
  | .slice t x lo hi mx => v (aslice E.P t (ρ x) (lo.map ρ) (hi.map ρ) (mx.map ρ))
  | .fieldAddr t x k => v (afieldAddr E.P t (ρ x) k)
  | .field t x k => v (afield E.P t (ρ x) k)
  | .indexAddr t x i => v (aindexAddr E.P t (ρ x) (ρ i))
  | .index t x i => v (aindex E.P t (ρ x) (ρ i))
  | .typeAssert x _ t ok => v (atypeAssert E.P (ρ x) t ok)
  | .extract x k => v (aextract (ρ x) k)
  | .makeMap t r => vh (amakeMap (r.map ρ) E.P t h)
  | .lookup t x i ok => v (alookup E.P t (ρ x) (ρ i) ok h)
  | .insert t m k x => (match amapUpdate E.P t (ρ m) (ρ k) (ρ x) h with | some h' => some (.skip h') | none => none)
  | .mapUpdate t m k x => (match amapUpdate E.P t (ρ m) (ρ k) (ρ x) h with | some h' => some (.skip h') | none => none)
  | .call c => acallOp E a c h
  | .defer c => if inRound then none else
    (match c.callee with
    | .value f => (match ρ f with
      | .func fn first captured => if fnOk fn then some (.defer { target := .fn fn captured, args := (first.toList ++ c.args.toList.map ρ).toArray } h) else none
      | _ => none)
    | _ => none)
  | .panic x => (match ρ x with | .iface t y => some (.panic (.iface t y) h) | _ => none)
  | _ => none

/-! The same, laid so that little is unfolded at a time. -/
abbrev OpF := Env → AAct → Bool → AHeap → Option AOut
def vOf (h : AHeap) (r : Option Value) : Option AOut := match r with | some x => some (.val x h) | none => none
def vhOf (r : Option (Value × AHeap)) : Option AOut := match r with | some (x, h') => some (.val x h') | none => none
def sOf (r : Option AHeap) : Option AOut := match r with | some h' => some (.skip h') | none => none
def opMove (x : Operand) : OpF := fun E a _ h => some (.val (a.ev E.gl x) h)
def opPick (c x y : Operand) : OpF := fun E a _ h => (match a.ev E.gl c with | .bool b => some (.val (if b then a.ev E.gl x else a.ev E.gl y) h) | _ => none)
def opAlloc (t : TypeId) : OpF := fun E a _ h => vhOf (aalloc E.P t h)
def opBox (t : TypeId) (x : Operand) : OpF := fun E a _ h => vhOf (abox t (a.ev E.gl x) h)
def opBuild (t : TypeId) (ps : Array (Nat × Operand)) : OpF := fun E a _ h => vOf h (abuild E.P t (ps.toList.map fun (i, x) => (i, a.ev E.gl x)))
def opBuildSlice (t : TypeId) (n : Nat) (ps : Array (Nat × Operand)) : OpF := fun E a _ h => vhOf (abuildSlice E.P t n (ps.toList.map fun (i, x) => (i, a.ev E.gl x)) h)
def opLoad (t : TypeId) (x : Operand) : OpF := fun E a _ h => vOf h (aload E.P t (a.ev E.gl x) h)
def opStore (t : TypeId) (x y : Operand) : OpF := fun E a _ h => sOf (astore E.P t (a.ev E.gl x) (a.ev E.gl y) h)
def opNil (x : Operand) : OpF := fun E a _ h => (match a.ev E.gl x with
    | .pointer (some ⟨B, k, none⟩) => some (.val (.pointer (some ⟨B, k, none⟩)) h)
    | .func fn f c => if fnOk fn then some (.val (.func fn f c) h) else none
    | .iface t y => some (.val (.iface t y) h)
    | _ => none)
def opBin (op : BinOp) (t : TypeId) (x y : Operand) : OpF := fun E a _ h => vOf h (abin E.P op t x y (a.ev E.gl x) (a.ev E.gl y))
def opUn (op : UnOp) (x : Operand) : OpF := fun E a _ h => vOf h (aun op (a.ev E.gl x))
def opConv (s d : TypeId) (x : Operand) : OpF := fun E a _ h => vhOf (aconv E.P s d (a.ev E.gl x) h)
def opIface (t : TypeId) (x : Operand) : OpF := fun E a _ h => vOf h (amkIface E.P t (a.ev E.gl x))
def opFunc (fn : Fn) (first captured : Array Operand) : OpF := fun E a _ h => if fnOk fn then some (.val (.func fn (first.toList.map (a.ev E.gl)).toArray (captured.toList.map (a.ev E.gl)).toArray) h) else none
def opMakeSlice (t : TypeId) (l c : Operand) : OpF := fun E a _ h => vhOf (amakeSlice E.P t (a.ev E.gl l) (a.ev E.gl c) h)
def opSlice (t : TypeId) (x : Operand) (lo hi mx : Option Operand) : OpF := fun E a _ h => vOf h (aslice E.P t (a.ev E.gl x) (lo.map (a.ev E.gl)) (hi.map (a.ev E.gl)) (mx.map (a.ev E.gl)))
def opFieldAddr (t : TypeId) (x : Operand) (k : Nat) : OpF := fun E a _ h => vOf h (afieldAddr E.P t (a.ev E.gl x) k)
def opField (t : TypeId) (x : Operand) (k : Nat) : OpF := fun E a _ h => vOf h (afield E.P t (a.ev E.gl x) k)
def opIndexAddr (t : TypeId) (x i : Operand) : OpF := fun E a _ h => vOf h (aindexAddr E.P t (a.ev E.gl x) (a.ev E.gl i))
def opIndex (t : TypeId) (x i : Operand) : OpF := fun E a _ h => vOf h (aindex E.P t (a.ev E.gl x) (a.ev E.gl i))
def opAssert (x : Operand) (t : TypeId) (ok : Bool) : OpF := fun E a _ h => vOf h (atypeAssert E.P (a.ev E.gl x) t ok)
def opExtract (x : Operand) (k : Nat) : OpF := fun E a _ h => vOf h (aextract (a.ev E.gl x) k)
def opMakeMap (t : TypeId) (r : Option Operand) : OpF := fun E a _ h => vhOf (amakeMap (r.map (a.ev E.gl)) E.P t h)
def opLookup (t : TypeId) (x i : Operand) (ok : Bool) : OpF := fun E a _ h => vOf h (alookup E.P t (a.ev E.gl x) (a.ev E.gl i) ok h)
def opUpdate (t : TypeId) (m k x : Operand) : OpF := fun E a _ h => sOf (amapUpdate E.P t (a.ev E.gl m) (a.ev E.gl k) (a.ev E.gl x) h)
def opCall (c : Call) : OpF := fun E a _ h => acallOp E a c h
def opDefer (c : Call) : OpF := fun E a r h => if r then none else
    (match c.callee with
    | .value f => (match a.ev E.gl f with
      | .func fn first captured => if fnOk fn then some (.defer { target := .fn fn captured, args := (first.toList ++ c.args.toList.map (a.ev E.gl)).toArray } h) else none
      | _ => none)
    | _ => none)
def opPanic (x : Operand) : OpF := fun E a _ h => (match a.ev E.gl x with | .iface t y => some (.panic (.iface t y) h) | _ => none)
def opNone : OpF := fun _ _ _ _ => none
def opD (op : Op) : OpF := match op with
  | .move x => opMove x
  | .assign x => opMove x
  | .pick c x y => opPick c x y
  | .alloc t => opAlloc t
  | .box t x => opBox t x
  | .build t ps => opBuild t ps
  | .buildSlice t n ps => opBuildSlice t n ps
  | .load t x => opLoad t x
  | .store t x y => opStore t x y
  | .nilCheck x => opNil x
  | .binOp op t x y _ => opBin op t x y
  | .unOp op _ x => opUn op x
  | .convert s d x => opConv s d x
  | .makeInterface t x => opIface t x
  | .makeFunc fn f c => opFunc fn f c
  | .makeSlice t l c => opMakeSlice t l c
  | .slice t x lo hi mx => opSlice t x lo hi mx
  | .fieldAddr t x k => opFieldAddr t x k
  | .field t x k => opField t x k
  | .indexAddr t x i => opIndexAddr t x i
  | .index t x i => opIndex t x i
  | .typeAssert x _ t ok => opAssert x t ok
  | .extract x k => opExtract x k
  | .makeMap t r => opMakeMap t r
  | .lookup t x i ok => opLookup t x i ok
  | .insert t m k x => opUpdate t m k x
  | .mapUpdate t m k x => opUpdate t m k x
  | .call c => opCall c
  | .defer c => opDefer c
  | .panic x => opPanic x
  | _ => opNone
def aop (E : Env) (a : AAct) (inRound : Bool) (o : Oper) (h : AHeap) : Option AOut := opD o.op E a inRound h
theorem aop_def (E : Env) (a : AAct) (inRound : Bool) (o : Oper) (h : AHeap) : aop E a inRound o h = aopBig E a inRound o h := by
  unfold aop aopBig opD
  cases o.op <;> rfl

/-- What an abstract outcome says of the machine's. -/
def OutR (P : Program) (β : Emb) (h : AHeap) (w : World) (out : AOut) (r : Result Next) : Prop :=
  match out with
  | .val v h' => ∃ β' v' w', r = .ok (.value v') w' ∧ VR β' v v' ∧ HR β' h' w'.heap ∧ Ext β h w β' h' w'
  | .skip h' => ∃ β' w', r = .ok .skip w' ∧ HR β' h' w'.heap ∧ Ext β h w β' h' w'
  | .enter f args h' => h' = h ∧ ∃ args', r = .ok (.enter f args') w ∧ ArrR β args args'
  | .round l args h' => h' = h ∧ ∃ args' e, β l = some e ∧ r = (Instr.yield e.c args').run P w ∧ ArrR β args args'
  | .defer d h' => h' = h ∧ ∃ d', r = .ok (.defer d') w ∧ DfR β d d'
  | .recov h' => h' = h ∧ r = .ok .recover w
  | .panic v h' => h' = h ∧ ∃ v', r = .halt (.panic v') w ∧ VR β v v'
end Go.Eng

set_option linter.unusedVariables false
set_option linter.unusedSimpArgs false
namespace Go.Eng
variable {P : Program}

theorem minmax_ok {β : Emb} {w : World} {mx : Bool} : ∀ {l l' : List Value} {v v' r : Value}, aminmax mx v l = some r → VR β v v' → LsR β l l' →
    ∃ r', (l'.foldlM (if mx then Builtin.max2 else Builtin.min2) v').run P w = .ok r' w ∧ VR β r r' := by
  intro l
  induction l with
  | nil => intro l' v v' r h hv hl; cases hl; simp only [aminmax, Option.some.injEq] at h; subst h; exact ⟨v', by simp, hv⟩
  | cons x l ih =>
    intro l' v v' r h hv hl
    cases hl with
    | cons hx ht =>
      unfold aminmax at h
      split at h
      · rename_i h1; cases h1
      · rename_i k a k' b l1 h1
        cases h1
        split at h
        · rename_i hk
          subst hk
          cases hv; cases hx
          cases mx
          · obtain ⟨r', q1, q2⟩ := ih h (.int _ _) ht
            refine ⟨r', ?_, q2⟩
            simp only [Bool.false_eq_true, if_false, List.foldlM_cons, Builtin.min2, Sem.run_bind, Sem.run_pure, Result.andThen_ok] at q1 ⊢
            exact q1
          · obtain ⟨r', q1, q2⟩ := ih h (.int _ _) ht
            refine ⟨r', ?_, q2⟩
            simp only [if_true, List.foldlM_cons, Builtin.max2, Sem.run_bind, Sem.run_pure, Result.andThen_ok] at q1 ⊢
            exact q1
        · cases h
      · cases h

theorem makeSlice_ok {β : Emb} {h h' : AHeap} {w : World} (H : HR β h w.heap) {t : TypeId} {l c l' c' r : Value} (hm : amakeSlice P t l c h = some (r, h')) (hl : VR β l l') (hc : VR β c c') : Res P β h w (Instr.makeSlice t l' c') r h' := by
  unfold amakeSlice at hm
  split at hm
  case h_2 => cases hm
  rename_i k1 l k2 c
  cases hl; cases hc
  split at hm
  case h_2 => cases hm
  rename_i elem hu
  split at hm
  case h_2 => cases hm
  rename_i i hi
  split at hm
  case h_2 => cases hm
  rename_i z hz
  split at hm
  case isFalse => cases hm
  rename_i hcond
  obtain ⟨h0, hlc, hcb, hcbb, hzs, hf⟩ := hcond
  cases hm
  have wl : IntKind.i64.wrap l = l := by unfold IntKind.wrap; simp only [IntKind.bits, IntKind.signed]; simp; omega
  have wc : IntKind.i64.wrap c = c := by unfold IntKind.wrap; simp only [IntKind.bits, IntKind.signed]; simp; omega
  obtain ⟨ln, rfl⟩ := Int.eq_ofNat_of_zero_le h0
  obtain ⟨cn, rfl⟩ := Int.eq_ofNat_of_zero_le (Int.le_trans h0 hlc)
  have hle : ln ≤ cn := by omega
  simp only [Int.toNat_natCast]
  have hzl : z.cells.toList.length = i.size := by simpa using hzs
  -- the cells
  have hcells : ∀ n, ((if n * i.size = 0 then (pure #[] : Sem (Array Value)) else do pure (← zeroValue elem).cells) >>= fun zero => (pure ((Array.range (n * i.size)).map (zero[· % zero.size]!)) : Sem (Array Value))).run P w = .ok (zeros z.cells.toList (n * i.size)).toArray w := by
    intro n
    by_cases hn : n * i.size = 0
    · simp [hn, zeros]
    · have := zeros_eq z (n * i.size) (fun _ => by intro h2; rw [hzs] at h2; rw [h2] at hn; simp at hn)
      simp only [if_neg hn, Sem.run_bind, run_zero hi hz, Result.andThen_ok, Sem.run_pure]
      congr 1
      apply Array.ext'
      simpa using this
  have hsplit : zeros z.cells.toList (cn * i.size) = zeros z.cells.toList (ln * i.size) ++ (zeros z.cells.toList (cn * i.size)).drop (ln * i.size) := by
    have hm : ln * i.size ≤ cn * i.size := Nat.mul_le_mul_right _ hle
    have : (zeros z.cells.toList (cn * i.size)).take (ln * i.size) = zeros z.cells.toList (ln * i.size) := by
      simp only [zeros, ← List.map_take, List.take_range, Nat.min_eq_left hm]
    rw [← this, List.take_append_drop]
  have hlen : ∀ n, (zeros z.cells.toList n).length = n := by intro n; simp [zeros]
  refine Res.newRow (l' := zeros z.cells.toList (ln * i.size)) (rest := ((zeros z.cells.toList (cn * i.size)).drop (ln * i.size)).toArray) (mk := fun a => .slice (some a) ln cn) H ?_ ?_ (fun β' hb => ?_)
  · refine LsR.flat (zeros_flat hf ?_)
    intro hn h2
    rw [hzl] at h2; rw [h2] at hn; simp at hn
  · have hc2 := hcells cn
    simp only [Sem.run_bind] at hc2
    have e : (zeros z.cells.toList (ln * i.size)).toArray ++ ((zeros z.cells.toList (cn * i.size)).drop (ln * i.size)).toArray = (zeros z.cells.toList (cn * i.size)).toArray := by
      rw [List.append_toArray, ← hsplit]
    rw [e]
    unfold Instr.makeSlice
    simp only [Sem.run_bind, run_underlying hu, Result.andThen_ok, asInt, asIntOf, Sem.run_pure, run_info hi, wl, wc]
    have hbb : (i.bytes : Int) * (cn : Int) ≤ 1099511627776 := by rw [Int.mul_comm]; exact hcbb
    rw [if_neg (by simp; omega)]
    simp only [Sem.run_bind, Sem.run_pure, Result.andThen_ok, run_askRoom, run_size hi, Int.toNat_natCast]
    by_cases hn : cn * i.size = 0
    · rw [if_pos hn]
      simp only [hn, Sem.run_pure, Result.andThen_ok, newRow, Sem.run_bind, run_newObj]
      have h00 : Array.range 0 = #[] := by apply Array.ext'; simp
      simp [zeros, h00]
    · rw [if_neg hn]
      simp only [if_neg hn, Sem.run_bind, Sem.run_pure, run_zero hi hz, Result.andThen_ok] at hc2
      simp only [Sem.run_bind, Sem.run_pure, run_zero hi hz, Result.andThen_ok, newRow, run_newObj]
      injection hc2 with hc3
      rw [hc3]
      simp
  · have := VR.slc (β := β') h.n 0 ln i.size _ cn hb hle (by
      simp only [Nat.zero_add, List.size_toArray, List.length_drop, hlen]
      have hm : ln * i.size ≤ cn * i.size := Nat.mul_le_mul_right _ hle
      omega)
    simpa using this

theorem LsR.getElem_eq {l : List Value} {j : Nat} {v : Value} {n : Nat} (h : (l.take n)[j]? = some v) : l[j]? = some v := by
  rw [List.getElem?_take] at h
  split at h
  · exact h
  · cases h

theorem firstCells_le {β : Emb} {h : AHeap} {w : World} (H : HR β h w.heap) {esz : Nat} {x x' : Value} {l : List Value} {n : Nat} (hx : VR β x x') (hs : h.src esz x = some (l, n)) :
    ∃ l', LsR β l l' ∧ ∀ m, m ≤ n → (Builtin.firstCells esz m x').run P w = .ok (l'.take (m * esz)).toArray w := by
  unfold AHeap.src at hs
  split at hs
  · cases hs
    cases hx
    exact ⟨[], .nil, fun m hm => by simp [Builtin.firstCells]⟩
  · rename_i B o n' es
    split at hs
    · rename_i hc
      obtain ⟨rfl, hn⟩ := hc
      split at hs
      · rename_i l1 hl1
        cases hs
        cases hx with
        | slc _ _ _ _ e cap hB hle hcap =>
          obtain ⟨h1, l', h2, h3⟩ := H.rdN hB hl1
          refine ⟨l', h2, fun m hm => ?_⟩
          simp only [Builtin.firstCells]
          refine run_loadCells_of ?_ (fun j v hv => h3 j v (LsR.getElem_eq hv))
          have : m * es ≤ n * es := Nat.mul_le_mul_right _ hm
          rw [List.length_take, ← h2.length, h1]; omega
        | slc0 _ _ _ e a hB => exact absurd rfl hn
      · cases hs
    · split at hs
      · rename_i hn
        subst hn
        cases hs
        refine ⟨[], .nil, fun m hm => ?_⟩
        have : m = 0 := by omega
        subst this
        cases hx <;> simp [Builtin.firstCells, loadCells, loadCellsFrom]
      · cases hs
  · rename_i s
    split at hs
    · rename_i h1
      subst h1
      cases hs
      cases hx
      refine ⟨bytesOf s, bytesOf_LsR β s, fun m hm => ?_⟩
      simp only [Builtin.firstCells, Sem.run_pure]
      congr 1
      apply Array.ext'
      simp [bytesOf, List.extract]
    · cases hs
  · cases hs

theorem copy_ok {β : Emb} {h h' : AHeap} {w : World} (H : HR β h w.heap) {ts : Array TypeId} {ty : TypeId} {d s d' s' r : Value} (hm : acopy P ts d s h = some (r, h')) (hd : VR β d d') (hs : VR β s s') : Res P β h w (Builtin.copy_ ts ty #[d', s']) r h' := by
  unfold acopy at hm
  split at hm
  · cases hm
  rename_i dt hts
  split at hm
  case h_2 => cases hm
  rename_i elem hu
  split at hm
  case h_2 => cases hm
  rename_i i hi
  split at hm
  case h_2 => cases hm
  rename_i xs n hsrc
  obtain ⟨hlen, _, _, _, _⟩ := run_lenOf_firstCells (P := P) H hs hsrc
  obtain ⟨l', hl', hfirst⟩ := firstCells_le (P := P) H hs hsrc
  have hrun : ∀ (base : Option Addr) (len cap : Nat), (Builtin.copy_ ts ty #[.slice base len cap, s']).run P w =
      (match base with
       | some a => ((storeCells a (l'.take (min n len * i.size))).run P w).andThen fun _ w' => .ok (goInt (min n len : Nat)) w'
       | none => .ok (goInt (min n len : Nat)) w) := by
    intro base len cap
    unfold Builtin.copy_
    simp only [hts, List.getElem?_toArray, List.getElem?_cons_zero, List.getElem?_cons_succ, Sem.run_bind, run_underlying hu, Result.andThen_ok, hlen, run_size hi]
    have e : Nat.min n len = min n len := rfl
    rw [e, hfirst _ (Nat.min_le_left _ _)]
    cases base <;> simp
  split at hm
  · cases hm
    cases hd
    refine ⟨β, _, w, ?_, .int .i64 0, H, Ext.refl _ _ _⟩
    rw [hrun]
    simp [goInt]
  · rename_i B off len esz
    split at hm
    case isFalse => cases hm
    rename_i he
    subst he
    split at hm
    case h_2 => cases hm
    rename_i h1 hw1
    cases hm
    cases hd with
    | slc _ _ _ _ e cap hB hle hcap =>
      obtain ⟨w', q1, q2, q3⟩ := HR.wrN (P := P) hB (k := e.base + off) (i := 0) H hw1 (hl'.take _) (by omega)
      refine ⟨β, _, w', ?_, .int .i64 _, q2, q3⟩
      rw [hrun]
      simp only [q1, Result.andThen_ok, goInt]
    | slc0 _ _ _ e a hB =>
      simp only [Nat.min_zero, Nat.zero_mul, List.take_zero, AHeap.wrN, Option.some.injEq] at hw1
      subst hw1
      refine ⟨β, _, w, ?_, .int .i64 _, H, Ext.refl _ _ _⟩
      rw [hrun]
      simp [storeCells, goInt]
  · cases hm

theorem clear_ok {β : Emb} {h h' : AHeap} {w : World} (H : HR β h w.heap) {ts : Array TypeId} {ty : TypeId} {x x' : Value} (hm : aclear P ts x h = some h') (hx : VR β x x') :
    ∃ w', (Builtin.clear_ ts ty #[x']).run P w = .ok (.tuple #[]) w' ∧ HR β h' w'.heap ∧ Ext β h w β h' w' := by
  unfold aclear at hm
  split at hm
  · cases hm
  rename_i t hts
  split at hm
  · rename_i e hu
    cases hm
    cases hx
    exact ⟨w, by simp [Builtin.clear_, hts, run_underlying hu], H, Ext.refl _ _ _⟩
  · rename_i elem B off n esz hu
    split at hm
    · rename_i hn
      subst hn
      cases hm
      refine ⟨w, ?_, H, Ext.refl _ _ _⟩
      cases hx <;> simp [Builtin.clear_, hts, run_underlying hu]
    · rename_i hn
      split at hm
      case h_2 => cases hm
      rename_i i hi
      split at hm
      case h_2 => cases hm
      rename_i z hz
      split at hm
      case isFalse => cases hm
      rename_i hc
      obtain ⟨hzs, he, hf⟩ := hc
      subst he
      cases hx with
      | slc _ _ _ _ e cap hB hle hcap =>
        have hzl : z.cells.toList.length = i.size := by simpa using hzs
        have hfl : LsR β (zeros z.cells.toList (n * i.size)) (zeros z.cells.toList (n * i.size)) := LsR.flat (zeros_flat hf (by
          intro h1 h2; rw [hzl] at h2; rw [h2] at h1; simp at h1))
        obtain ⟨w', q1, q2, q3⟩ := HR.wrN (P := P) hB (k := e.base + off) (i := 0) H hm hfl (by omega)
        refine ⟨w', ?_, q2, q3⟩
        have hz2 : (Builtin.zeroCells z.cells n).toList = zeros z.cells.toList (n * i.size) := by
          rw [← zeros_eq z (n * i.size) (by intro h1 h2; rw [hzs] at h2; rw [h2] at h1; simp at h1)]
          simp [Builtin.zeroCells, hzs]
        obtain ⟨n, rfl⟩ : ∃ m, n = m + 1 := ⟨n - 1, by omega⟩
        simp only [Builtin.clear_, hts, List.getElem?_toArray, List.getElem?_cons_zero, Sem.run_bind, run_underlying hu, Result.andThen_ok, run_zero hi hz, hz2, q1, Sem.run_pure]
      | slc0 => exact absurd rfl hn
  · cases hm

theorem run_loadBytes {c : Nat} {w : World} : ∀ {ns : List Int} {k : Nat} {acc : ByteArray}, (∀ (j : Nat) v, (ns.map (Value.int .u8))[j]? = some v → w.cell? ⟨c, k + j, none⟩ = some v) →
    (loadBytes ⟨c, k, none⟩ acc ns.length).run P w = .ok (ns.foldl (fun r n => r.push (UInt8.ofNat n.toNat)) acc) w := by
  intro ns
  induction ns with
  | nil => intro k acc _; simp [loadBytes]
  | cons n ns ih =>
    intro k acc h
    have h0 := h 0 (.int .u8 n) (by simp)
    simp only [Nat.add_zero] at h0
    simp only [List.length_cons, loadBytes, Sem.run_bind, run_load, h0, Result.andThen_ok, addr_add, List.foldl_cons]
    have e : n.toNat.toUInt8 = UInt8.ofNat n.toNat := rfl
    rw [e]
    refine ih (fun j v hv => ?_)
    have := h (j + 1) v (by simpa using hv)
    rw [← this]; congr 2; omega

theorem heap_freeze {w : World} {c o n : Nat} {cs : Array Value} {t : TypeId} {fr : Nat × Nat} (h : w.heap[c]? = some (.cells cs t fr)) (hn : n ≠ 0) :
    (w.freeze ⟨c, o, none⟩ n).heap[c]? = some (.cells cs t (if fr.1 == fr.2 then (o, o + n) else (min fr.1 o, max fr.2 (o + n)))) ∧ AtOne w.heap (w.freeze ⟨c, o, none⟩ n).heap c := by
  unfold World.freeze
  rw [if_neg hn]
  refine ⟨by simp [Array.getElem?_modify, h], ⟨by simp, fun k hk => ?_⟩⟩
  rw [Array.getElem?_modify, if_neg (Ne.symm hk)]

theorem freeze_rest (w : World) (a : Addr) (n : Nat) : (w.freeze a n).os = w.os ∧ (w.freeze a n).tape = w.tape ∧ (w.freeze a n).output = w.output := by
  unfold World.freeze; split <;> exact ⟨rfl, rfl, rfl⟩

theorem unsafeString_ok {β : Emb} {h h' : AHeap} {w : World} (H : HR β h w.heap) {ts : Array TypeId} {ty : TypeId} {p n p' n' r : Value} (hm : aunsafeString P ts p n h = some (r, h')) (hp : VR β p p') (hn : VR β n n') :
    Res P β h w (Builtin.unsafeString_ ts ty #[p', n']) r h' := by
  unfold aunsafeString at hm
  have hpt : ∀ (q : Option Addr), p' = .pointer q → (∃ pt, ts[0]? = some pt) ∨ ts[0]? = none := by
    intro q _; cases ts[0]? with
    | none => exact .inr rfl
    | some x => exact .inl ⟨x, rfl⟩
  split at hm
  · rename_i k n
    split at hm
    case isFalse => cases hm
    rename_i hc
    obtain ⟨rfl, hts⟩ := hc
    cases hm
    cases hp; cases hn
    obtain ⟨pt, hpt⟩ := Option.isSome_iff_exists.1 hts
    refine ⟨β, _, w, ?_, .str _, H, Ext.refl _ _ _⟩
    have hmax : IntKind.i64.max = 9223372036854775807 := by decide
    show (asInt (.int k _) >>= _ : Sem Value).run P _ = _
    simp only [asInt, asIntOf, Sem.run_bind, Sem.run_pure, Result.andThen_ok, hpt]
    rw [if_neg (by omega)]
    try simp only [Sem.run_bind, Sem.run_pure, Result.andThen_ok]
    rw [if_neg (by rw [hmax]; omega)]
    simp
    try rfl
  · rename_i B o k n
    split at hm
    case isFalse => cases hm
    rename_i hb
    split at hm
    case h_2 => cases hm
    rename_i pt hts
    split at hm
    case h_2 => cases hm
    rename_i e hu
    split at hm
    case h_2 => cases hm
    rename_i vs t st root fz hg
    split at hm
    case isFalse => cases hm
    rename_i hc
    obtain ⟨rfl, rfl, hfz, hl, hsz⟩ := hc
    split at hm
    case h_2 => cases hm
    rename_i l hrd
    split at hm
    case h_2 => cases hm
    rename_i bs hub
    cases hm
    cases hn
    cases hp with
    | ptr _ _ e1 hB =>
      obtain ⟨h1, l', h2, h3⟩ := H.rdN hB hrd
      obtain ⟨ns, rfl, rfl⟩ := unbytes_ok hub h2
      obtain ⟨cs, fr, hbk, hcr⟩ := H.con B e1 _ hB hg hl
      have hfits := hcr.fits
      have hnl : ns.length = n.toNat := by have := h2.length; simp at this; omega
      -- the row lies in the block
      have hrow : o + n.toNat ≤ vs.length := by
        by_cases h0 : n.toNat = 0
        · omega
        · have hlast : ∀ (m q : Nat) (l : List Value), h.rdN B q m = some l → m ≠ 0 → q + m ≤ vs.length := by
            intro m
            induction m with
            | zero => intro q l _ hne; exact absurd rfl hne
            | succ m ihm =>
              intro q l hq _
              simp only [AHeap.rdN] at hq
              split at hq
              case h_2 => cases hq
              rename_i v hv
              split at hq
              case h_2 => cases hq
              rename_i l1 hl1
              have hlt : q < vs.length := by
                unfold AHeap.rd at hv
                rw [hg] at hv
                simp only [hl, if_true] at hv
                exact (List.getElem?_eq_some_iff.1 hv).1
              by_cases hm0 : m = 0
              · omega
              · have := ihm (q + 1) l1 hl1 hm0; omega
          exact hlast _ _ _ hrd h0
      obtain ⟨hfrz, hat⟩ := heap_freeze (w := w) (o := e1.base + o) (n := n.toNat) hbk (by omega)
      have hvar : (variablesAt ⟨e1.c, e1.base + o, none⟩ t n.toNat).run P w = .ok true w := by
        have hsh : w.shape? e1.c = some (t, cs.size) := by simp [World.shape?, hbk]
        simp only [variablesAt, Sem.run_bind, run_program, Result.andThen_ok, run_shape, hsh, Sem.run_pure, hsz, Nat.div_one]
        congr 1
        have hd : P.depth = (2 * (P.types.size + Made.depth) + 1) + 1 := rfl
        rw [hd]
        have : (decide (e1.base + o + n.toNat ≤ cs.size)) = true := by rw [hcr.size]; simp; omega
        have hrow2 : rowAt P (fun x => sameLayout P (2 * (P.types.size + Made.depth) + 1 + 1) x t) (2 * (P.types.size + Made.depth) + 1 + 1) t cs.size (e1.base + o) n.toNat = true := by
          simp only [rowAt, hsz, Nat.div_one, Nat.mod_one, beq_self_eq_true, Bool.true_and, this]
          simp [sameLayout]
        simp only [liesAt, hd] at hrow2 ⊢
        rw [hrow2]
        rfl
      have hmax : IntKind.i64.max = 9223372036854775807 := by decide
      refine ⟨β, _, w.freeze ⟨e1.c, e1.base + o, none⟩ n.toNat, ?_, .str _, ?_, ?_⟩
      · show (asInt (.int k _) >>= _ : Sem Value).run P _ = _
        simp only [asInt, asIntOf, Sem.run_bind, Sem.run_pure, Result.andThen_ok, hts]
        rw [if_neg (by omega)]
        try simp only [Sem.run_bind, Sem.run_pure, Result.andThen_ok]
        rw [if_neg (by rw [hmax]; omega)]
        try simp only [Sem.run_bind, Sem.run_pure, Result.andThen_ok]
        rw [if_neg (by omega)]
        simp only [Sem.run_bind, Sem.run_pure, Result.andThen_ok, elemOf, run_underlying hu, hvar, if_true]
        have hlb := run_loadBytes (P := P) (w := w) (c := e1.c) (ns := ns) (k := e1.base + o) (acc := .empty) h3
        rw [hnl] at hlb
        rw [hlb, foldl_push]
        simp
      · refine H.change (o := .cells vs t 0 root fz) (o1 := .cells vs t 0 root 2) hB hg rfl (fun X => AHeap.get_set _ _ _ _) (fun X x hx => by simpa using hx) rfl rfl rfl hat ?_ ?_
        · refine ⟨cs, _, hfrz, ⟨hcr.size, hcr.fits, hcr.val, fun _ => ?_⟩⟩
          have hf := hcr.frz rfl
          unfold FZ at hf ⊢
          right; right
          refine ⟨rfl, ?_⟩
          split
          · simp only; omega
          · rename_i hne
            simp only [beq_iff_eq] at hne
            simp only
            omega
        · intro X ex ox hne hX hgx hc hlx
          have hm := H.con X ex ox hX hgx (by simpa using hlx)
          rcases H.sep X B ex e1 ox _ hX hB hgx hg hne hc with ⟨_, h4⟩ | ⟨r', h5, h6⟩
          · simp [AObj.st] at h4
          · cases ox with
            | cells vs2 t2 st2 root2 fz2 =>
              obtain ⟨cs2, fr2, k1, k2⟩ := hm
              rw [hc, hbk] at k1
              cases k1
              have hst2 : st2 ≠ 0 := by
                rcases Nat.lt_or_gt_of_ne hne with hlt | hgt
                · exact H.tip X B _ _ r' hgx hg hlt h5 h6
                · exact absurd rfl (H.tip B X _ _ r' hg hgx hgt h6 h5)
              exact ⟨cs, _, by rw [hc]; exact hfrz, ⟨k2.size, k2.fits, k2.val, fun h0 => absurd h0 hst2⟩⟩
            | loop l => cases h5
            | deferred b => cases h5
            | map es => cases h5
      · exact Ext.change (o := .cells vs t 0 root fz) (o1 := .cells vs t 0 root 2) hB hg (by simp [AObj.st]) rfl (fun X => AHeap.get_set _ _ _ _) rfl hat (freeze_rest _ _ _).1 (freeze_rest _ _ _).2.1 (freeze_rest _ _ _).2.2
  · cases hm
end Go.Eng

set_option linter.unusedVariables false
set_option linter.unusedSimpArgs false
namespace Go.Eng

theorem Res.out {P : Program} {β : Emb} {h h' : AHeap} {w : World} {s : Sem Value} {r : Value} (hr : Res P β h w s r h') : OutR P β h w (.val r h') ((do pure (.value (← s)) : Sem Next).run P w) := by
  obtain ⟨β', r', w', h1, h2, h3, h4⟩ := hr
  exact ⟨β', r', w', by simp [h1], h2, h3, h4⟩

theorem val_out {P : Program} {β : Emb} {h : AHeap} {w : World} (H : HR β h w.heap) {s : Sem Value} {r : Value} (hr : ∃ r', s.run P w = .ok r' w ∧ VR β r r') : OutR P β h w (.val r h) ((do pure (.value (← s)) : Sem Next).run P w) := by
  obtain ⟨r', h1, h2⟩ := hr
  exact ⟨β, r', w, by simp [h1], h2, H, Ext.refl _ _ _⟩

theorem LsR.inv2 {β : Emb} {a b : Value} {l' : List Value} (h : LsR β [a, b] l') : ∃ a' b', l' = [a', b'] ∧ VR β a a' ∧ VR β b b' := by
  cases h with
  | cons h1 t => cases t with
    | cons h2 t => cases t; exact ⟨_, _, rfl, h1, h2⟩
theorem LsR.inv1 {β : Emb} {a : Value} {l' : List Value} (h : LsR β [a] l') : ∃ a', l' = [a'] ∧ VR β a a' := by
  cases h with
  | cons h1 t => cases t; exact ⟨_, rfl, h1⟩
theorem LsR.invc {β : Emb} {a : Value} {l l' : List Value} (h : LsR β (a :: l) l') : ∃ a' m, l' = a' :: m ∧ VR β a a' ∧ LsR β l m := by
  cases h with
  | cons h1 t => exact ⟨_, _, rfl, h1, t⟩

theorem builtin_ok {P : Program} {β : Emb} {h : AHeap} {w : World} (H : HR β h w.heap) {b : Builtin} {ts : Array TypeId} {ty : TypeId} {cs : Array Bool} {args : List Value} {l' : List Value} {out : AOut}
    (hb : abuiltin P b ts args h = some out) (hl : LsR β args l') : OutR P β h w out ((builtin b ts ty cs l'.toArray).run P w) := by
  unfold abuiltin at hb
  split at hb
  · split at hb
    case h_2 => cases hb
    rename_i hr
    cases hb
    obtain ⟨s', x', rfl, hs, hx⟩ := hl.inv2
    exact (append_ok H hr hs hx).out
  · obtain ⟨x', rfl, hx⟩ := hl.inv1
    split at hb
    case h_2 => cases hb
    rename_i t ht
    have key : ∀ n : Int, (Builtin.len_ ts ty #[x']).run P w = .ok (.int .i64 n) w → OutR P β h w (.val (.int .i64 n) h) ((builtin .len ts ty cs [x'].toArray).run P w) := by
      intro n hn
      exact val_out H ⟨_, hn, .int _ _⟩
    split at hb
    · rename_i hu; cases hb; cases hx
      refine key _ ?_
      simp [Builtin.len_, ht, run_underlying hu, goInt]
    · rename_i n hu; cases hb
      refine key _ ?_
      simp only [Builtin.len_, ht, List.getElem?_toArray, List.getElem?_cons_zero, Sem.run_bind, run_underlying hu, Result.andThen_ok]
      cases x' <;> rfl
    · rename_i e a n c hu; cases hb
      refine key _ ?_
      cases hx <;> simp [Builtin.len_, ht, run_underlying hu, goInt]
    · rename_i k e hu; cases hb; cases hx
      refine key _ ?_
      simp [Builtin.len_, ht, run_underlying hu, goInt]
    · rename_i k e B hu
      split at hb
      case h_2 => cases hb
      rename_i es hg
      cases hb
      cases hx with
      | map _ e1 hB =>
        obtain ⟨es', ck, q1, q2⟩ := H.con B e1 _ hB hg rfl
        refine key _ ?_
        have hlen : es.length = es'.size := by
          have : ∀ {l : List (Value × Value)} {m : List MapEntry}, MapR β l m → l.length = m.length := by
            intro l m hm
            induction hm with
            | nil => rfl
            | cons _ _ _ ih => simp [ih]
          simpa using this q2
        simp [Builtin.len_, ht, run_underlying hu, goInt, getObj, Sem.run, q1, hlen]
    · cases hb
  · split at hb
    case h_2 => cases hb
    rename_i v hv
    cases hb
    obtain ⟨x', m, rfl, hx, hm⟩ := hl.invc
    refine val_out H ?_
    exact minmax_ok (mx := true) hv hx hm
  · split at hb
    case h_2 => cases hb
    rename_i v hv
    cases hb
    obtain ⟨x', m, rfl, hx, hm⟩ := hl.invc
    refine val_out H ?_
    exact minmax_ok (mx := false) hv hx hm
  · split at hb
    case h_2 => cases hb
    rename_i hr
    cases hb
    obtain ⟨s', x', rfl, hs, hx⟩ := hl.inv2
    exact (copy_ok H hr hs hx).out
  · split at hb
    case h_2 => cases hb
    rename_i hr
    cases hb
    obtain ⟨x', rfl, hx⟩ := hl.inv1
    obtain ⟨w', q1, q2, q3⟩ := clear_ok (P := P) (ty := ty) H hr hx
    refine ⟨β, .tuple #[], w', ?_, VR.undef _, q2, q3⟩
    simp [builtin, q1]
  · cases hb
    exact ⟨rfl, rfl⟩
  · cases hb
    obtain ⟨x', rfl, hx⟩ := hl.inv1
    refine val_out H ⟨.pointer none, ?_, .pnil⟩
    cases hx
    rfl
  · split at hb
    · cases hb
    rename_i hn
    cases hb
    obtain ⟨x', rfl, hx⟩ := hl.inv1
    cases hx with
    | slc _ _ _ _ e cap hB hle hcap =>
      refine val_out H ⟨.pointer (some ⟨e.c, e.base + _, none⟩), ?_, .ptr _ _ _ hB⟩
      show ((if cap ≠ 0 then pure (.pointer (some ⟨e.c, e.base + _, none⟩)) else _ : Sem Value)).run P w = _
      rw [if_pos (by omega)]
      rfl
    | slc0 => exact absurd rfl hn
  · split at hb
    case h_2 => cases hb
    rename_i hr
    cases hb
    obtain ⟨s', x', rfl, hs, hx⟩ := hl.inv2
    exact (unsafeString_ok H hr hs hx).out
  · cases hb

/-! ### Calls -/
theorem map_ev {E : Env} {β : Emb} {a : AAct} {a' : Act} (hg : GlR E.gl β) (ha : ActR β a a') (l : List Operand) : LsR β (l.map (a.ev E.gl)) (l.map a'.eval) := by
  induction l with
  | nil => exact .nil
  | cons x l ih => exact .cons (ev_ok hg ha x) ih

theorem arr_of_LsR {β : Emb} {l : List Value} {a : Array Value} (h : LsR β l a.toList) : ArrR β l.toArray a := by
  have := h.toArr
  simpa using this

theorem callFn_ok {E : Env} (hE : EnvOK E) {β : Emb} {h : AHeap} {w : World} (H : HR β h w.heap) {f : FuncId} {args : List Value} {args' : Array Value} {out : AOut} (hc : acallFn E f args h = some out)
    (hl : ArrR β args.toArray args') : OutR E.P β h w out ((callFunc f args').run E.P w) := by
  unfold acallFn at hc
  split at hc
  · rename_i g hg
    split at hc
    case h_2 => cases hc
    rename_i v hv
    cases hc
    obtain ⟨v', q1, q2⟩ := hE.ext f g args v hg hv β args' hl w
    exact ⟨β, v', w, q1, q2, H, Ext.refl _ _ _⟩
  · split at hc
    case h_2 => cases hc
    rename_i fn hf
    split at hc
    case isFalse => cases hc
    rename_i hb
    cases hc
    refine ⟨rfl, args', ?_, hl⟩
    have hn := hE.num f fn hf hb
    have hn' : fn.body.isNone = false := by cases hbb : fn.body <;> simp_all
    simp only [callFunc, Sem.run_bind, run_program, Result.andThen_ok, hf, hn, Bool.false_eq_true, if_false, hn', Sem.run_pure]

theorem invoke_ok {E : Env} (hE : EnvOK E) {β : Emb} {h : AHeap} {w : World} (H : HR β h w.heap) {fn fn' : Fn} {args captured : List Value} {args' captured' : Array Value} {out : AOut} (hc : ainvoke E fn args captured h = some out)
    (hf : FR β fn fn') (hl : LsR β args args'.toList) (hcap : LsR β captured captured'.toList) : OutR E.P β h w out ((invoke (.fn fn' captured') args').run E.P w) := by
  unfold ainvoke at hc
  split at hc
  · rename_i f
    cases hf
    have hA : ArrR β (args ++ captured).toArray (args' ++ captured') := by
      have := (hl.append hcap).toArr
      have e : (args'.toList ++ captured'.toList).toArray = args' ++ captured' := by apply Array.ext'; simp
      rw [e] at this
      exact this
    exact callFn_ok hE H hc hA
  · rename_i l
    cases hc
    cases hf with
    | same _ h => exact absurd rfl (h l)
    | yield _ e hB => exact ⟨rfl, args', e, hB, rfl, arr_of_LsR hl⟩
  · cases hc

theorem callOp_ok {E : Env} (hE : EnvOK E) {β : Emb} {h : AHeap} {w : World} (H : HR β h w.heap) (hg : GlR E.gl β) {a : AAct} {a' : Act} (ha : ActR β a a') {c : Call} {ty : TypeId} {out : AOut} (hc : acallOp E a c h = some out) :
    OutR E.P β h w out ((do let d ← resolve a'.eval c ty; invoke d.target d.args : Sem Next).run E.P w) := by
  unfold acallOp at hc
  have hargs := map_ev hg ha c.args.toList
  have he : (c.args.map a'.eval).toList = c.args.toList.map a'.eval := by simp
  split at hc
  · rename_i b hb
    have := builtin_ok (P := E.P) (ty := ty) (cs := c.args.map fun | .const _ => true | _ => false) H hc hargs
    simp only [resolve, hb, Sem.run_bind, Sem.run_pure, Result.andThen_ok, invoke]
    have e : (c.args.toList.map a'.eval).toArray = c.args.map a'.eval := by apply Array.ext'; simp
    rw [e] at this
    exact this
  · rename_i f hb
    split at hc
    case h_2 => cases hc
    rename_i fn first captured hf
    have hv := ev_ok hg ha f
    rw [hf] at hv
    generalize hfv : a'.eval f = fv at hv
    cases hv with
    | func _ fn' _ f' _ c' hfr hs1 h1 hs2 h2 =>
      have hA1 : ArrR β first f' := ⟨hs1, h1⟩
      have hA2 : ArrR β captured c' := ⟨hs2, h2⟩
      simp only [resolve, hb, Sem.run_bind, hfv, Deferred.ofValue, Sem.run_pure, Result.andThen_ok]
      refine invoke_ok hE H hc hfr ?_ hA2.toLs
      rw [Array.toList_append, he]
      exact hA1.toLs.append hargs
  · cases hc

theorem pairs_ev {E : Env} {β : Emb} {a : AAct} {a' : Act} (hg : GlR E.gl β) (ha : ActR β a a') (ps : Array (Nat × Operand)) :
    ((ps.toList.map fun (i, x) => (i, a.ev E.gl x)).length = (ps.map fun (i, x) => (i, a'.eval x)).size) ∧
    ∀ (i : Nat) x x', (ps.toList.map fun (i, x) => (i, a.ev E.gl x))[i]? = some x → (ps.map fun (i, x) => (i, a'.eval x))[i]? = some x' → x.1 = x'.1 ∧ VR β x.2 x'.2 := by
  refine ⟨by simp, fun i x x' h1 h2 => ?_⟩
  simp only [List.getElem?_map, Array.getElem?_map, Array.getElem?_toList] at h1 h2
  cases hp : ps[i]? with
  | none => rw [hp] at h1; cases h1
  | some y =>
    rw [hp] at h1 h2
    simp only [Option.map_some, Option.some.injEq] at h1 h2
    subst h1 h2
    exact ⟨rfl, ev_ok hg ha _⟩

theorem opt_ev {E : Env} {β : Emb} {a : AAct} {a' : Act} (hg : GlR E.gl β) (ha : ActR β a a') (o : Option Operand) :
    (∀ v, o.map (a.ev E.gl) = some v → ∃ v', o.map a'.eval = some v' ∧ VR β v v') ∧ (o.map (a.ev E.gl) = none → o.map a'.eval = none) := by
  cases o with
  | none => exact ⟨fun v h => (by cases h), fun _ => rfl⟩
  | some x => exact ⟨fun v h => (by cases h; exact ⟨_, rfl, ev_ok hg ha x⟩), fun h => (by cases h)⟩

theorem op_ok {E : Env} (hE : EnvOK E) {β : Emb} {h : AHeap} {w : World} (H : HR β h w.heap) (hg : GlR E.gl β) {a : AAct} {a' : Act} (ha : ActR β a a') {ro : Option Nat} {o : Oper} {out : AOut}
    (hc : aop E a ro.isSome o h = some out) : OutR E.P β h w out ((o.semAt ro a'.eval).run E.P w) := by
  have hev := fun x => ev_ok hg ha x
  have hsem : (∀ c, o.op ≠ .defer c) → o.semAt ro a'.eval = execOp a'.eval o := Oper.semAt_eq ro a'.eval o
  rw [aop_def] at hc
  unfold aopBig at hc
  simp only at hc
  split at hc
  · -- move
    rename_i x hop
    rw [hsem (by rw [hop]; intro c h; cases h)]
    cases hc
    simp only [execOp, hop]
    exact ⟨β, _, w, rfl, hev x, H, Ext.refl _ _ _⟩
  · rename_i x hop
    rw [hsem (by rw [hop]; intro c h; cases h)]
    cases hc
    simp only [execOp, hop]
    exact ⟨β, _, w, rfl, hev x, H, Ext.refl _ _ _⟩
  · -- pick
    rename_i c x y hop
    rw [hsem (by rw [hop]; intro c h; cases h)]
    split at hc
    case h_2 => cases hc
    rename_i b hb
    cases hc
    have hv := hev c
    rw [hb] at hv
    generalize hcv : a'.eval c = cv at hv
    cases hv
    refine ⟨β, if b then a'.eval x else a'.eval y, w, ?_, ?_, H, Ext.refl _ _ _⟩
    · simp only [execOp, hop, hcv, asBool, Sem.run_bind, Sem.run_pure, Result.andThen_ok]
    · cases b
      · exact hev y
      · exact hev x
  · -- alloc
    rename_i t hop
    rw [hsem (by rw [hop]; intro c h; cases h)]
    split at hc
    case h_2 => cases hc
    rename_i hr
    cases hc
    simp only [execOp, hop]
    exact (alloc_ok H hr).out
  · rename_i t x hop
    rw [hsem (by rw [hop]; intro c h; cases h)]
    split at hc
    case h_2 => cases hc
    rename_i hr
    cases hc
    simp only [execOp, hop]
    exact (box_ok H hr (hev x)).out
  · rename_i t ps hop
    rw [hsem (by rw [hop]; intro c h; cases h)]
    split at hc
    case h_2 => cases hc
    rename_i r hr
    cases hc
    simp only [execOp, hop]
    obtain ⟨q1, q2⟩ := pairs_ev hg ha ps
    exact val_out H (build_ok hr q1 q2)
  · rename_i t n ps hop
    rw [hsem (by rw [hop]; intro c h; cases h)]
    split at hc
    case h_2 => cases hc
    rename_i hr
    cases hc
    simp only [execOp, hop]
    obtain ⟨q1, q2⟩ := pairs_ev hg ha ps
    exact (buildSlice_ok H hr q1 q2).out
  · -- load
    rename_i t x hop
    rw [hsem (by rw [hop]; intro c h; cases h)]
    split at hc
    case h_2 => cases hc
    rename_i r hr
    cases hc
    simp only [execOp, hop]
    exact val_out H (load_ok H hr (hev x))
  · -- store
    rename_i t x y hop
    rw [hsem (by rw [hop]; intro c h; cases h)]
    split at hc
    case h_2 => cases hc
    rename_i h' hr
    cases hc
    obtain ⟨w', q1, q2, q3⟩ := store_ok (P := E.P) H hr (hev x) (hev y)
    refine ⟨β, w', ?_, q2, q3⟩
    simp only [execOp, hop, Sem.run_bind, q1, Result.andThen_ok, Sem.run_pure]
  · -- nilCheck
    rename_i x hop
    rw [hsem (by rw [hop]; intro c h; cases h)]
    have hv := hev x
    split at hc
    · rename_i B k hx
      cases hc
      rw [hx] at hv
      generalize hcv : a'.eval x = cv at hv
      cases hv with
      | ptr _ _ e hB => exact ⟨β, _, w, by simp only [execOp, hop, hcv]; rfl, .ptr _ _ _ hB, H, Ext.refl _ _ _⟩
    · rename_i fn f c hx
      split at hc
      case isFalse => cases hc
      rename_i hfn
      cases hc
      rw [hx] at hv
      generalize hcv : a'.eval x = cv at hv
      cases hv with
      | func _ fn' _ f' _ c' hfr hs1 h1 hs2 h2 =>
        cases fn <;> simp only [fnOk] at hfn <;> first | cases hfn | skip
        cases hfr
        exact ⟨β, _, w, by simp only [execOp, hop, hcv]; rfl, .func _ _ _ _ _ _ (.same _ (by intro l h; cases h)) hs1 h1 hs2 h2, H, Ext.refl _ _ _⟩
    · rename_i t y hx
      cases hc
      rw [hx] at hv
      generalize hcv : a'.eval x = cv at hv
      cases hv with
      | iface _ _ y' hy => exact ⟨β, _, w, by simp only [execOp, hop, hcv]; rfl, .iface _ _ _ hy, H, Ext.refl _ _ _⟩
    · cases hc
  · -- binOp
    rename_i op t x y yt hop
    rw [hsem (by rw [hop]; intro c h; cases h)]
    split at hc
    case h_2 => cases hc
    rename_i r hr
    cases hc
    simp only [execOp, hop]
    exact val_out H (bin_ok hr (hev x) (hev y))
  · rename_i op t x hop
    rw [hsem (by rw [hop]; intro c h; cases h)]
    split at hc
    case h_2 => cases hc
    rename_i r hr
    cases hc
    simp only [execOp, hop]
    exact val_out H (un_ok hr (hev x))
  · rename_i s d x hop
    rw [hsem (by rw [hop]; intro c h; cases h)]
    split at hc
    case h_2 => cases hc
    rename_i hr
    cases hc
    simp only [execOp, hop]
    exact (conv_ok H hr (hev x)).out
  · rename_i t x hop
    rw [hsem (by rw [hop]; intro c h; cases h)]
    split at hc
    case h_2 => cases hc
    rename_i r hr
    cases hc
    simp only [execOp, hop]
    exact val_out H (mkIface_ok hr (hev x))
  · -- makeFunc
    rename_i fn first captured hop
    rw [hsem (by rw [hop]; intro c h; cases h)]
    split at hc
    case isFalse => cases hc
    rename_i hfn
    cases hc
    simp only [execOp, hop]
    refine val_out H ⟨.func fn (first.map a'.eval) (captured.map a'.eval), rfl, ?_⟩
    have hA : ∀ l : Array Operand, ArrR β (l.toList.map (a.ev E.gl)).toArray (l.map a'.eval) := by
      intro l
      refine arr_of_LsR ?_
      rw [Array.toList_map]
      exact map_ev hg ha _
    refine .func _ _ _ _ _ _ (.same _ ?_) (hA first).1 (hA first).2 (hA captured).1 (hA captured).2
    intro l h
    subst h
    cases hfn
  · rename_i t l c hop
    rw [hsem (by rw [hop]; intro c h; cases h)]
    split at hc
    case h_2 => cases hc
    rename_i hr
    cases hc
    simp only [execOp, hop]
    exact (makeSlice_ok H hr (hev l) (hev c)).out
  · rename_i t x lo hi mx hop
    rw [hsem (by rw [hop]; intro c h; cases h)]
    split at hc
    case h_2 => cases hc
    rename_i r hr
    cases hc
    simp only [execOp, hop]
    exact val_out H (slice_ok hr (hev x) (opt_ev hg ha lo).1 (opt_ev hg ha lo).2 (opt_ev hg ha hi).1 (opt_ev hg ha hi).2 (opt_ev hg ha mx).2)
  · rename_i t x k hop
    rw [hsem (by rw [hop]; intro c h; cases h)]
    split at hc
    case h_2 => cases hc
    rename_i r hr
    cases hc
    simp only [execOp, hop]
    exact val_out H (fieldAddr_ok hr (hev x))
  · rename_i t x k hop
    rw [hsem (by rw [hop]; intro c h; cases h)]
    split at hc
    case h_2 => cases hc
    rename_i r hr
    cases hc
    simp only [execOp, hop]
    exact val_out H (field_ok hr (hev x))
  · rename_i t x i hop
    rw [hsem (by rw [hop]; intro c h; cases h)]
    split at hc
    case h_2 => cases hc
    rename_i r hr
    cases hc
    simp only [execOp, hop]
    exact val_out H (indexAddr_ok hr (hev x) (hev i))
  · rename_i t x i hop
    rw [hsem (by rw [hop]; intro c h; cases h)]
    split at hc
    case h_2 => cases hc
    rename_i r hr
    cases hc
    simp only [execOp, hop]
    exact val_out H (index_ok hr (hev x) (hev i))
  · rename_i x xt t ok hop
    rw [hsem (by rw [hop]; intro c h; cases h)]
    split at hc
    case h_2 => cases hc
    rename_i r hr
    cases hc
    simp only [execOp, hop]
    exact val_out H (typeAssert_ok hr (hev x))
  · rename_i x k hop
    rw [hsem (by rw [hop]; intro c h; cases h)]
    split at hc
    case h_2 => cases hc
    rename_i r hr
    cases hc
    simp only [execOp, hop]
    exact val_out H (extract_ok hr (hev x))
  · -- a map is made
    rename_i t r hop
    rw [hsem (by rw [hop]; intro c h; cases h)]
    split at hc
    case h_2 => cases hc
    rename_i hr
    cases hc
    simp only [execOp, hop]
    exact (makeMap_ok H hr (opt_ev hg ha r).1 (opt_ev hg ha r).2).out
  · rename_i t x i ok hop
    rw [hsem (by rw [hop]; intro c h; cases h)]
    split at hc
    case h_2 => cases hc
    rename_i r hr
    cases hc
    simp only [execOp, hop]
    exact val_out H (lookup_ok H hr (hev x) (hev i))
  · rename_i t m k x hop
    rw [hsem (by rw [hop]; intro c h; cases h)]
    split at hc
    case h_2 => cases hc
    rename_i h' hr
    cases hc
    obtain ⟨w', q1, q2, q3⟩ := mapUpdate_ok H hr (hev m) (hev k) (hev x)
    refine ⟨β, w', ?_, q2, q3⟩
    simp only [execOp, hop, Sem.run_bind, q1, Result.andThen_ok, Sem.run_pure]
  · rename_i t m k x hop
    rw [hsem (by rw [hop]; intro c h; cases h)]
    split at hc
    case h_2 => cases hc
    rename_i h' hr
    cases hc
    obtain ⟨w', q1, q2, q3⟩ := mapUpdate_ok H hr (hev m) (hev k) (hev x)
    refine ⟨β, w', ?_, q2, q3⟩
    simp only [execOp, hop, Sem.run_bind, q1, Result.andThen_ok, Sem.run_pure]
  · -- call
    rename_i c hop
    rw [hsem (by rw [hop]; intro c h; cases h)]
    simp only [execOp, hop]
    exact callOp_ok hE H hg ha hc
  · -- defer
    rename_i c hop
    split at hc
    · cases hc
    rename_i hro
    have hro' : ro = none := by cases ro <;> simp_all
    subst hro'
    split at hc
    case h_2 => cases hc
    rename_i f hb
    split at hc
    case h_2 => cases hc
    rename_i fn first captured hf
    split at hc
    case isFalse => cases hc
    rename_i hfn
    cases hc
    have hv := hev f
    rw [hf] at hv
    generalize hfv : a'.eval f = fv at hv
    cases hv with
    | func _ fn' _ f' _ c' hfr hs1 h1 hs2 h2 =>
      have hA1 : ArrR β first f' := ⟨hs1, h1⟩
      have hA2 : ArrR β captured c' := ⟨hs2, h2⟩
      refine ⟨rfl, { target := .fn fn' c', args := f' ++ c.args.map a'.eval }, ?_, .fn _ _ _ _ hfr hA2, ?_⟩
      · simp only [Oper.semAt, execOp, hop, resolve, hb, hfv, Deferred.ofValue, Sem.run_bind, Sem.run_pure, Result.andThen_ok]
      · refine arr_of_LsR ?_
        rw [Array.toList_append, Array.toList_map]
        exact hA1.toLs.append (map_ev hg ha _)
  · -- panic
    rename_i x hop
    rw [hsem (by rw [hop]; intro c h; cases h)]
    split at hc
    case h_2 => cases hc
    rename_i t y hx
    cases hc
    have hv := hev x
    rw [hx] at hv
    generalize hcv : a'.eval x = cv at hv
    cases hv with
    | iface _ _ y' hy =>
      refine ⟨rfl, .iface t y', ?_, .iface _ _ _ hy⟩
      simp only [execOp, hop, hcv, Instr.panic, Sem.run_bind, run_goPanic, Result.andThen_halt]
  · cases hc
end Go.Eng

set_option linter.unusedVariables false
set_option linter.unusedSimpArgs false
namespace Go.Eng

abbrev CallH := FuncId → Array Value → AHeap → Option (Ending × AHeap)
abbrev CallDH := FuncId → Array Value → FrameMode → AHeap → Option (Ending × FrameMode × AHeap)

structure ARes where
  e : Exit
  a : AAct
  u : Option FrameMode
  h : AHeap

/-- What an activation knows of itself: its function, its round, and what it may call. -/
structure Ctx where
  E : Env
  fid : FuncId
  ro : Option Nat
  call : CallH
  round : Nat → Array Value → AHeap → Option (Ending × AHeap)
  fuel : Nat

def ayielded (ops : Array Oper) (a : AAct) (j : Nat) : Option Bool :=
  match ops[j]? with
  | some o => (match o.dst with
    | some d => (match a.tmp d with | .bool b => some b | _ => none)
    | none => none)
  | none => none

/-- some: whether the operation is wanted; none: it cannot be told. -/
def awanted (ops : Array Oper) (a : AAct) (o : Oper) : Option Bool :=
  match o.guard with
  | none => some true
  | some (j, want) => (match ayielded ops a j with
    | some b => some (b == want)
    | none => (match ops[j]? with
      | some o2 => (match o2.dst with
        | some d => (match a.tmp d with | .tuple vs => if vs.size = 0 then some false else none | _ => none)
        | none => none)
      | none => none))

/-- What one wanted operation comes to: a value and a heap; or the activation is left. -/
inductive AStep where
  | go (v : Value) (d : List Deferred) (u : Option FrameMode) (h : AHeap)
  | panic (chain : List PanicEntry) (h : AHeap)

def astep (C : Ctx) (a : AAct) (u : Option FrameMode) (o : Oper) (h : AHeap) : Option AStep :=
  match aop C.E a C.ro.isSome o h with
  | some (.val v h') => some (.go v a.defers u h')
  | some (.skip h') => some (.go undef a.defers u h')
  | some (.enter f args h') => (match C.call f args h' with
    | some (.returned v, h2) => some (.go v a.defers u h2)
    | some (.panicked ch, h2) => some (.panic ch h2)
    | _ => none)
  | some (.round l args h') => (match C.round l args h' with
    | some (.returned v, h2) => some (.go v a.defers u h2)
    | some (.panicked ch, h2) => some (.panic ch h2)
    | _ => none)
  | some (.defer d h') => some (.go undef (d :: a.defers) u h')
  | some (.recov h') => if C.ro.isSome then none else
    (match u with
    | some (.panicking ({ v := v, recovered := false, goexit := false } :: older)) => some (.go v a.defers (some (.panicking ({ v := v, recovered := true } :: older))) h')
    | _ => some (.go .nilIface a.defers u h'))
  | some (.panic v h') => some (.panic [{ v := v, recovered := false }] h')
  | none => none

def AAct.with : AAct → List Deferred → Option Tmp → Value → AAct
  | ⟨nt, tmps, _⟩, d, dst, v => AAct.put ⟨nt, tmps, d⟩ dst v

def aops (C : Ctx) (ops : Array Oper) : List Nat → AAct → Option FrameMode → AHeap → Option ARes
  | [], a, u, h => some ⟨.normal, a, u, h⟩
  | i :: rest, a, u, h =>
    match ops[i]? with
    | none => aops C ops rest a u h
    | some o =>
      match awanted ops a o with
      | some true => (match astep C a u o h with
        | some (.go v d u' h') => aops C ops rest (a.with d o.dst v) u' h'
        | some (.panic ch h') => some ⟨.panic ch, a, u, h'⟩
        | none => none)
      | some false => aops C ops rest (a.put o.dst undef) u h
      | none => none

def arangeEnter (C : Ctx) (a : AAct) (params : Array Tmp) (assign body : Code) (h : AHeap) : Option (Nat × AAct × AHeap) :=
  match C.ro with
  | some l => (match h.get l with
    | some (.loop L) => some (h.n, a, h.push (.loop { state := .ready, pending := none, fn := C.fid, act := { a with defers := [] }, params, assign, body, defers := L.defers }))
    | _ => none)
  | none =>
    let h1 := h.push (.deferred true)
    some (h.n + 1, { a with defers := { target := .collected h.n, args := #[] } :: a.defers }, h1.push (.loop { state := .ready, pending := none, fn := C.fid, act := { a with defers := [] }, params, assign, body, defers := h.n }))

def arangeFunc (C : Ctx) (f : Operand) (params : Array Tmp) (assign body : Code) (a : AAct) (u : Option FrameMode) (h : AHeap) : Option ARes :=
  match arangeEnter C a params assign body h with
  | none => none
  | some (l, a1, h1) =>
    match a1.ev C.E.gl f with
    | .func (.func g) first captured =>
      (match acallFn C.E g (first.toList ++ [.func (.yield l) #[] #[]] ++ captured.toList) h1 with
      | some (.enter g args h2) =>
        (match C.call g args h2 with
        | some (.returned _, h3) =>
          (match h3.get l with
          | some (.loop L) =>
            if L.state = .busy then none else
            let h4 := h3.set l (.loop { L with state := .exhausted })
            (match L.pending with
            | none => some ⟨.normal, a1, u, h4⟩
            | some .ret => some ⟨.ret, a1, u, h4⟩
            | some (.exit id) => some ⟨.exit id, a1, u, h4⟩
            | _ => none)
          | _ => none)
        | some (.panicked ch, h3) => some ⟨.panic ch, a1, u, h3⟩
        | _ => none)
      | _ => none)
    | _ => none

def aloop (body : AAct → Option FrameMode → AHeap → Option ARes) : Nat → AAct → Option FrameMode → AHeap → Option ARes
  | 0, _, _, _ => none
  | n + 1, a, u, h =>
    match body a u h with
    | some ⟨.normal, a', u', h'⟩ => aloop body n a' u' h'
    | r => r
end Go.Eng

