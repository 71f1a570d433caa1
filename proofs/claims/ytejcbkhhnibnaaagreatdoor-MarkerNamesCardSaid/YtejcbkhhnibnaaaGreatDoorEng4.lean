/- What code must come to, as a formula, and that the formula is enough. No condition. -/
import Derived.Test.YtejcbkhhnibnaaaGreatDoorEng3
set_option linter.unusedVariables false
set_option linter.unusedSimpArgs false
namespace Go.Eng

/-! ### Regions, an operation at a time -/
def DoesL (C : Ctx) (ops : Array Oper) (l : List Nat) (a : AAct) (u : Option FrameMode) (h : AHeap) (Q : ARes → Prop) : Prop :=
  ∀ (b : Frame) (k : List Item) (c0 : Frame) (rs cs : List Frame) (β : Emb) (a₁ : Act) (u₁ : Option FrameMode) (w : World),
    StR C.E β a u h a₁ u₁ w → KindR u b.kind → RoR β C.ro b.roundOf →
    ∃ r, Q r ∧ Goes C.E b r β h w (lone (b.atR a₁ (.inRegion ops l :: k)) (lay c0 rs cs u₁) w) k c0 rs cs

section
variable {C : Ctx} {Q Q' : ARes → Prop} {ops : Array Oper} {a a' : AAct} {u : Option FrameMode} {h : AHeap} {i : Nat} {rest : List Nat} {o : Oper}

theorem DoesL.mono {l : List Nat} (hq : ∀ r, Q r → Q' r) (t : DoesL C ops l a u h Q) : DoesL C ops l a u h Q' :=
  fun b k c0 rs cs β a₁ u₁ w S hk hro => let ⟨r, q, g⟩ := t b k c0 rs cs β a₁ u₁ w S hk hro; ⟨r, hq r q, g⟩

theorem DoesL.nil (q : Q ⟨.normal, a, u, h⟩) : DoesL C ops [] a u h Q :=
  fun b k c0 rs cs β a₁ u₁ w S hk hro => ⟨_, q, β, a₁, u₁, w, .normal, S, Ext.refl _ _ _, hk, .normal, .one stepR_region_end⟩

theorem DoesL.none (ho : ops[i]? = none) (t : DoesL C ops rest a u h Q) : DoesL C ops (i :: rest) a u h Q := by
  intro b k c0 rs cs β a₁ u₁ w S hk hro
  obtain ⟨r, q, g⟩ := t b k c0 rs cs β a₁ u₁ w S hk hro
  have hs := stepR_op_skip (P := C.E.P) (b := b) (a := a₁) (k := k) (cs := lay c0 rs cs u₁) (w := w) (ops := ops) (i := i) (rest := rest) (by simp [ho])
  simp only [ho, Option.bind_none, Act.put] at hs
  exact ⟨r, q, g.of_steps (Ext.refl _ _ _) (.one hs)⟩

theorem DoesL.unwanted (ho : ops[i]? = some o) (hw : awanted ops a o = some false) (t : DoesL C ops rest (a.put o.dst undef) u h Q) : DoesL C ops (i :: rest) a u h Q := by
  intro b k c0 rs cs β a₁ u₁ w S hk hro
  have hw' := wanted_ok S.act hw
  have hs := stepR_op_skip (P := C.E.P) (b := b) (a := a₁) (k := k) (cs := lay c0 rs cs u₁) (w := w) (ops := ops) (i := i) (rest := rest) (by simp [ho, hw'])
  simp only [ho, Option.bind_some] at hs
  obtain ⟨r, q, g⟩ := t b k c0 rs cs β _ u₁ w ⟨S.hr, S.gl, S.act.put (VR.undef _) _, S.u⟩ hk hro
  exact ⟨r, q, g.of_steps (Ext.refl _ _ _) (.one hs)⟩

theorem DoesL.go (hC : CtxOK C) (ho : ops[i]? = some o) (hw : awanted ops a o = some true) {v : Value} {h' : AHeap} (hs : astep C a u o h = some (.go v a.defers u h')) (t : DoesL C ops rest (a.put o.dst v) u h' Q) : DoesL C ops (i :: rest) a u h Q := by
  intro b k c0 rs cs β a₁ u₁ w S hk hro
  have hw' := wanted_ok S.act hw
  obtain ⟨β', v', d', u₁', w', H', X, hv, hd, hu', hk', hss⟩ := step_ok (rest := rest) (k := k) (c0 := c0) (rs := rs) (cs := cs) hC S hk hro ho hw' hs
  obtain ⟨r, q, g⟩ := t b k c0 rs cs β' _ u₁' w' ⟨H', S.gl.mono X.le, ((S.act.mono X.le).defer hd).put hv _, hu'⟩ hk' (hro.mono X.le)
  exact ⟨r, q, g.of_steps X hss⟩

theorem DoesL.panic (hC : CtxOK C) (ho : ops[i]? = some o) (hw : awanted ops a o = some true) {ch : List PanicEntry} {h' : AHeap} (hs : astep C a u o h = some (.panic ch h')) (q : Q ⟨.panic ch, a, u, h'⟩) : DoesL C ops (i :: rest) a u h Q := by
  intro b k c0 rs cs β a₁ u₁ w S hk hro
  have hw' := wanted_ok S.act hw
  obtain ⟨β', ch', w', todo, H', X, hch, hss⟩ := step_ok (rest := rest) (k := k) (c0 := c0) (rs := rs) (cs := cs) hC S hk hro ho hw' hs
  exact ⟨_, q, β', a₁, u₁, w', .panic ch', ⟨H', S.gl.mono X.le, S.act.mono X.le, S.u.mono X.le⟩, X, hk, .panic _ _ hch, todo, hss⟩

theorem DoesL.call (hC : CtxOK C) (ho : ops[i]? = some o) (hw : awanted ops a o = some true) {f : FuncId} {args : Array Value} {K : Ending → AHeap → Prop} (hop : aop C.E a C.ro.isSome o h = some (.enter f args h)) (hc : CallDoes C.E f args h K)
    (t : ∀ e h', K e h' → match e with | .returned v => DoesL C ops rest (a.put o.dst v) u h' Q | .panicked ch => Q ⟨.panic ch, a, u, h'⟩ | .outgrown => False) : DoesL C ops (i :: rest) a u h Q := by
  intro b k c0 rs cs β a₁ u₁ w S hk hro
  have hw' := wanted_ok S.act hw
  have hfin : ∀ v, (b.atR a₁ (.inRegion ops (i :: rest) :: k)).finish v = b.atR (({ a₁ with defers := a₁.defers } : Act).put o.dst v) (.inRegion ops rest :: k) := by
    intro v; rw [Frame.finish_atR, ho]; rfl
  have hop' := hop
  rw [← hro.isSome] at hop'
  obtain ⟨_, args', hr, hargs⟩ := op_ok hC.env S.hr S.gl S.act hop'
  have henter : step C.E.P (lone (b.atR a₁ (.inRegion ops (i :: rest) :: k)) (lay c0 rs cs u₁) w) =
      .next (lone (Frame.enter C.E.P f args' .normal) (b.atR a₁ (.inRegion ops (i :: rest) :: k) :: lay c0 rs cs u₁) w) :=
    step_lone_go (by rw [stepGR_op ho hw']; simp [stepG.apply, hr, Frame.atR])
  obtain ⟨e, h', β', e', w', fr, hK, H', X, he, hst, hfn, hl⟩ := hc β w args' S.hr S.gl hargs (b.atR a₁ (.inRegion ops (i :: rest) :: k) :: lay c0 rs cs u₁)
  have t := t e h' hK
  cases he with
  | returned v v' hv =>
    obtain ⟨r, q, g⟩ := t b k c0 rs cs β' (({ a₁ with defers := a₁.defers } : Act).put o.dst v') u₁ w' ⟨H', S.gl.mono X.le, (S.act.mono X.le).put hv _, S.u.mono X.le⟩ hk (hro.mono X.le)
    refine ⟨r, q, g.of_steps X ?_⟩
    rw [← hfin]
    exact .head henter (hst.trans (.one (step_leave_returned hl)))
  | panicked ch ch' hch =>
    refine ⟨_, t, β', a₁, u₁, w', .panic ch', ⟨H', S.gl.mono X.le, S.act.mono X.le, S.u.mono X.le⟩, X, hk, .panic _ _ hch, .inRegion ops (i :: rest) :: k, ?_⟩
    rw [← Frame.raise_atR]
    exact .head henter (hst.trans (.one (step_leave_panicked hl)))

/-- A state told otherwise, of the same temporaries. -/
theorem DoesL.same {l : List Nat} (e1 : a'.nt = a.nt) (e2 : ∀ t, a'.tmp t = a.tmp t) (e3 : a'.defers = a.defers) (t : DoesL C ops l a' u h Q) : DoesL C ops l a u h Q := by
  intro b k c0 rs cs β a₁ u₁ w S hk hro
  exact t b k c0 rs cs β a₁ u₁ w ⟨S.hr, S.gl, ⟨by rw [e1]; exact S.act.size, fun t => by rw [e2]; exact S.act.tmp t, by rw [e3]; exact S.act.defers⟩, S.u⟩ hk hro

theorem Does.region {id : Nat} (t : DoesL C ops (List.range ops.size) a u h Q) : Does C (.region id ops false) a u h Q := by
  intro b k c0 rs cs β a₁ u₁ w S hk hfn hro
  obtain ⟨r, q, g⟩ := t b k c0 rs cs β a₁ u₁ w S hk hro
  exact ⟨r, q, g.of_steps (Ext.refl _ _ _) (.one stepR_region)⟩
end
end Go.Eng

set_option linter.unusedVariables false
set_option linter.unusedSimpArgs false
namespace Go.Eng

/-- A condition, not to be looked into. -/
inductive Cnd (p : Prop) : Prop
  | mk (h : p) : Cnd p
theorem Cnd.out {p : Prop} (h : Cnd p) : p := let ⟨h⟩ := h; h

/-! ### Shapes of values -/
inductive Sh where
  | int (k : IntKind)
  | bool
  | str
  | slc
  | ptr
  | any

def exSh : Sh → (Value → Prop) → Prop
  | .int k, K => ∃ n : Int, K (.int k n)
  | .bool, K => ∃ b : Bool, K (.bool b)
  | .str, K => ∃ s : List UInt8, K (.string ⟨⟨s⟩⟩)
  | .slc, K => ∃ (p : Option Addr) (n e : Nat), K (.slice p n e)
  | .ptr, K => ∃ p : Option Addr, K (.pointer p)
  | .any, K => ∃ v : Value, K v
def allSh : Sh → (Value → Prop) → Prop
  | .int k, K => ∀ n : Int, K (.int k n)
  | .bool, K => ∀ b : Bool, K (.bool b)
  | .str, K => ∀ s : List UInt8, K (.string ⟨⟨s⟩⟩)
  | .slc, K => ∀ (p : Option Addr) (n e : Nat), K (.slice p n e)
  | .ptr, K => ∀ p : Option Addr, K (.pointer p)
  | .any, K => ∀ v : Value, K v
def exShs : List Sh → (List Value → Prop) → Prop
  | [], K => K []
  | s :: l, K => exSh s fun v => exShs l fun vs => K (v :: vs)
def allShs : List Sh → (List Value → Prop) → Prop
  | [], K => K []
  | s :: l, K => allSh s fun v => allShs l fun vs => K (v :: vs)
def shOk : Sh → Value → Bool
  | .int k, .int k' _ => k == k'
  | .bool, .bool _ => true
  | .str, .string _ => true
  | .slc, .slice _ _ _ => true
  | .ptr, .pointer _ => true
  | .any, _ => true
  | _, _ => false
def shsOk : List Sh → List Value → Bool
  | [], [] => true
  | s :: l, v :: vs => shOk s v && shsOk l vs
  | _, _ => false

theorem exSh_get : ∀ {s : Sh} {K : Value → Prop}, exSh s K → ∃ v, K v
  | .int k, K, ⟨n, h⟩ => ⟨_, h⟩
  | .bool, K, ⟨n, h⟩ => ⟨_, h⟩
  | .str, K, ⟨n, h⟩ => ⟨_, h⟩
  | .slc, K, ⟨p, n, e, h⟩ => ⟨_, h⟩
  | .ptr, K, ⟨n, h⟩ => ⟨_, h⟩
  | .any, K, ⟨n, h⟩ => ⟨_, h⟩
theorem exShs_get : ∀ {l : List Sh} {K : List Value → Prop}, exShs l K → ∃ v, K v
  | [], K, h => ⟨_, h⟩
  | s :: l, K, h => let ⟨v, h⟩ := exSh_get h; let ⟨vs, h⟩ := exShs_get h; ⟨_, h⟩
theorem allSh_at : ∀ {s : Sh} {K : Value → Prop}, allSh s K → ∀ v, shOk s v = true → K v
  | .int k, K, h, v, hs => by cases v <;> simp only [shOk, Bool.false_eq_true] at hs; rename_i k' n; have := eq_of_beq hs; subst this; exact h n
  | .bool, K, h, v, hs => by cases v <;> simp only [shOk, Bool.false_eq_true] at hs; exact h _
  | .str, K, h, v, hs => by cases v <;> simp only [shOk, Bool.false_eq_true] at hs; exact h _
  | .slc, K, h, v, hs => by cases v <;> simp only [shOk, Bool.false_eq_true] at hs; exact h _ _ _
  | .ptr, K, h, v, hs => by cases v <;> simp only [shOk, Bool.false_eq_true] at hs; exact h _
  | .any, K, h, v, hs => h v
theorem allShs_at : ∀ {l : List Sh} {K : List Value → Prop}, allShs l K → ∀ vs, shsOk l vs = true → K vs
  | [], K, h, vs, hs => by cases vs with | nil => exact h | cons v vs => cases hs
  | s :: l, K, h, vs, hs => by
    cases vs with
    | nil => cases hs
    | cons v vs =>
      simp only [shsOk, Bool.and_eq_true] at hs
      exact allShs_at (allSh_at h v hs.1) vs hs.2

/-! ### Operations -/
abbrev VK := Value → AHeap → Prop
structure WC where
  C : Ctx
  spec : FuncId → List Value → AHeap → (Ending → AHeap → Prop) → Prop

def okP : Option Addr → Bool
  | some ⟨_, _, none⟩ => true
  | _ => false
def pB : Option Addr → Nat
  | some a => a.block
  | none => 0
def pO : Option Addr → Nat
  | some a => a.off
  | none => 0
theorem okP_eq {p : Option Addr} (h : okP p = true) : p = some ⟨pB p, pO p, none⟩ := by
  match p, h with
  | some ⟨B, o, none⟩, _ => rfl

def req (b : Bool) (x : Prop) : Prop := cond b x False
theorem req_out {b : Bool} {x : Prop} (h : req b x) : b = true ∧ x := by
  cases b with
  | true => exact ⟨rfl, h⟩
  | false => exact h.elim
theorem req_mk {b : Bool} {x : Prop} (h : b = true) (hx : x) : req b x := by subst h; exact hx

def shOf : TypeDesc → Sh
  | .int k => .int k
  | .bool => .bool
  | .string => .str
  | .slice _ => .slc
  | .pointer _ => .ptr
  | _ => .any
def shV : Value → Sh
  | .int k _ => .int k
  | .bool _ => .bool
  | .string _ => .str
  | .slice _ _ _ => .slc
  | .pointer _ => .ptr
  | _ => .any

def byteAt (s : List UInt8) (i : Int) : Int := (((s[i.toNat]?).getD 0).toNat : Int)

/-- What it must come to directly. -/
def wDir (W : WC) (a : AAct) (o : Oper) (h : AHeap) (k : VK) (kp : List PanicEntry → AHeap → Prop) : Prop :=
  match aop W.C.E a false o h with
  | some (.val v h') => k v h'
  | some (.skip h') => k undef h'
  | some (.enter f args h') => W.spec f args.toList h' fun e h2 => match e with
    | .returned v => k v h2
    | .panicked ch => kp ch h2
    | .outgrown => False
  | some (.panic v h') => kp [{ v := v, recovered := false }] h'
  | _ => False

def wEx (W : WC) (a : AAct) (o : Oper) (h : AHeap) (k : VK) : Prop := ∃ v h', Cnd (aop W.C.E a false o h = some (.val v h')) ∧ k v h'
def wSh (W : WC) (s : Sh) (a : AAct) (o : Oper) (h : AHeap) (k : VK) : Prop := exSh s fun v => ∃ h', Cnd (aop W.C.E a false o h = some (.val v h')) ∧ k v h'

def wIndex (W : WC) (t : TypeId) (x i : Operand) (a : AAct) (o : Oper) (h : AHeap) (k : VK) (kp : List PanicEntry → AHeap → Prop) : Prop :=
  match a.ev W.C.E.gl x, a.ev W.C.E.gl i with
  | .string s, .int _ n => (match W.C.E.P.underlying t with
    | some .string => Cnd (0 ≤ n ∧ n < (s.data.toList.length : Int)) ∧ k (.int .u8 (byteAt s.data.toList n)) h
    | _ => False)
  | _, _ => wDir W a o h k kp

def wIndexAddr (W : WC) (t : TypeId) (x i : Operand) (a : AAct) (h : AHeap) (k : VK) : Prop :=
  match a.ev W.C.E.gl i with
  | .int _ n =>
    (match W.C.E.P.underlying t with
    | some (.array len elem) => (match a.ev W.C.E.gl x with
      | .pointer p => req (okP p) (match W.C.E.P.info? elem with
        | some ie => Cnd (0 ≤ n ∧ n < (len : Int)) ∧ k (.pointer (some ⟨pB p, pO p + n.toNat * ie.size, none⟩)) h
        | none => False)
      | _ => False)
    | some (.slice elem) => (match a.ev W.C.E.gl x with
      | .slice p len _ => req (okP p) (match W.C.E.P.info? elem with
        | some ie => Cnd (0 ≤ n ∧ n < (len : Int)) ∧ k (.pointer (some ⟨pB p, pO p + n.toNat * ie.size, none⟩)) h
        | none => False)
      | _ => False)
    | _ => False)
  | _ => False

def wFieldAddr (W : WC) (s : TypeId) (x : Operand) (j : Nat) (a : AAct) (h : AHeap) (k : VK) : Prop :=
  match a.ev W.C.E.gl x with
  | .pointer p => req (okP p) (match W.C.E.P.underlying s with
    | some (.struct fields) => (match fields[j]? with
      | some f => (match W.C.E.P.info? f.type with
        | some i => req (!(Nat.beq i.size 0)) (k (.pointer (some ⟨pB p, pO p + f.offset, none⟩)) h)
        | none => False)
      | none => False)
    | _ => False)
  | _ => False

def wLoad (W : WC) (t : TypeId) (x : Operand) (a : AAct) (h : AHeap) (k : VK) : Prop :=
  match a.ev W.C.E.gl x with
  | .pointer p => req (okP p) (match W.C.E.P.underlying t with
    | some d => cond (isAggD d)
        (match W.C.E.P.info? t with
        | some i => (match i.zero with
          | some z => exShs (z.cells.toList.map shV) fun l => Cnd (h.rdN (pB p) (pO p) i.size = some l) ∧ k (.agg l.toArray) h
          | none => False)
        | none => False)
        (exSh (shOf d) fun v => Cnd (h.rd (pB p) (pO p) = some v) ∧ k v h)
    | none => False)
  | _ => False

def wStore (W : WC) (t : TypeId) (x y : Operand) (a : AAct) (h : AHeap) (k : VK) : Prop :=
  match a.ev W.C.E.gl x with
  | .pointer p => req (okP p) (match W.C.E.P.info? t with
    | some i => req (!(isJunk (a.ev W.C.E.gl y)) && Nat.beq (a.ev W.C.E.gl y).cells.size i.size) (∃ h', Cnd (h.wrN (pB p) (pO p) (a.ev W.C.E.gl y).cells.toList = some h') ∧ k undef h')
    | none => False)
  | _ => False

def isDiv : BinOp → Bool
  | .quo | .rem => true
  | _ => false
def isAddB : BinOp → Bool
  | .add => true
  | _ => false
def divV (op : BinOp) (k : IntKind) (m n : Int) : Value :=
  match op with
  | .quo => .int k (k.wrap (m.tdiv n))
  | _ => .int k (m.tmod n)
def shiftV (op : BinOp) (k : IntKind) (m n : Int) : Value :=
  match op with
  | .shl => .int k (k.wrap (m * 2 ^ (min n.toNat k.bits)))
  | _ => .int k (m.fdiv (2 ^ (min n.toNat k.bits)))

def wBin (W : WC) (op : BinOp) (t : TypeId) (x y : Operand) (a : AAct) (o : Oper) (h : AHeap) (k : VK) (kp : List PanicEntry → AHeap → Prop) : Prop :=
  match a.ev W.C.E.gl x, a.ev W.C.E.gl y with
  | .int k1 m, .int k2 n => cond (isShift op) (Cnd (0 ≤ n) ∧ k (shiftV op k1 m n) h) (cond (isDiv op) (req (k1 == k2) (Cnd (n ≠ 0) ∧ k (divV op k1 m n) h)) (wDir W a o h k kp))
  | .string s, .string r => cond (isAddB op) (Cnd (s.data.toList.length + r.data.toList.length ≤ 1099511627776) ∧ k (.string ⟨⟨s.data.toList ++ r.data.toList⟩⟩) h) (wDir W a o h k kp)
  | _, _ => wDir W a o h k kp

def wConv (W : WC) (t d : TypeId) (x : Operand) (a : AAct) (o : Oper) (h : AHeap) (k : VK) (kp : List PanicEntry → AHeap → Prop) : Prop :=
  match a.ev W.C.E.gl x, W.C.E.P.underlying d with
  | .slice p n e, some .string => exSh .str fun v => ∃ h', Cnd (aconv W.C.E.P t d (.slice p n e) h = some (v, h')) ∧ k v h'
  | _, _ => wDir W a o h k kp

def wSlice (W : WC) (t : TypeId) (x : Operand) (lo hi : Option Operand) (a : AAct) (o : Oper) (h : AHeap) (k : VK) : Prop :=
  match a.ev W.C.E.gl x with
  | .string s => (match W.C.E.P.underlying t with
    | some .string =>
      (match lo.map (a.ev W.C.E.gl), hi.map (a.ev W.C.E.gl) with
      | none, none => k (.string ⟨⟨s.data.toList⟩⟩) h
      | some (.int _ l), none => Cnd (0 ≤ l ∧ l ≤ (s.data.toList.length : Int)) ∧ k (.string ⟨⟨s.data.toList.drop l.toNat⟩⟩) h
      | none, some (.int _ r) => Cnd (0 ≤ r ∧ r ≤ (s.data.toList.length : Int)) ∧ k (.string ⟨⟨s.data.toList.take r.toNat⟩⟩) h
      | some (.int _ l), some (.int _ r) => Cnd (0 ≤ l ∧ l ≤ r ∧ r ≤ (s.data.toList.length : Int)) ∧ k (.string ⟨⟨(s.data.toList.drop l.toNat).take (r.toNat - l.toNat)⟩⟩) h
      | _, _ => False)
    | _ => False)
  | .slice p n e => exSh .slc fun v => Cnd (aslice W.C.E.P t (.slice p n e) (lo.map (a.ev W.C.E.gl)) (hi.map (a.ev W.C.E.gl)) none = some v) ∧ k v h
  | _ => False

def wAppend (W : WC) (c : Call) (a : AAct) (h : AHeap) (k : VK) : Prop :=
  match c.args.toList.map (a.ev W.C.E.gl) with
  | [s, x] => exSh .slc fun v => ∃ h', Cnd (aappend W.C.E.P c.argTypes s x h = some (v, h')) ∧ k v h'
  | _ => False
def wCopy (W : WC) (c : Call) (a : AAct) (h : AHeap) (k : VK) : Prop :=
  match c.args.toList.map (a.ev W.C.E.gl) with
  | [s, x] => exSh (.int .i64) fun v => ∃ h', Cnd (acopy W.C.E.P c.argTypes s x h = some (v, h')) ∧ k v h'
  | _ => False

def wCall (W : WC) (c : Call) (a : AAct) (o : Oper) (h : AHeap) (k : VK) (kp : List PanicEntry → AHeap → Prop) : Prop :=
  match c.callee with
  | .builtin .append => wAppend W c a h k
  | .builtin .copy => wCopy W c a h k
  | .builtin .clear => wEx W a o h k
  | .builtin .unsafeString => wSh W .str a o h k
  | _ => wDir W a o h k kp

def wOp (W : WC) (a : AAct) (o : Oper) (h : AHeap) (k : VK) (kp : List PanicEntry → AHeap → Prop) : Prop :=
  match o.op with
  | .pick c x y => (match a.ev W.C.E.gl c with | .bool b => cond b (k (a.ev W.C.E.gl x) h) (k (a.ev W.C.E.gl y) h) | _ => False)
  | .binOp op t x y _ => wBin W op t x y a o h k kp
  | .index t x i => wIndex W t x i a o h k kp
  | .indexAddr t x i => wIndexAddr W t x i a h k
  | .fieldAddr t x j => wFieldAddr W t x j a h k
  | .load t x => wLoad W t x a h k
  | .store t x y => wStore W t x y a h k
  | .convert t d x => wConv W t d x a o h k kp
  | .slice t x lo hi none => wSlice W t x lo hi a o h k
  | .makeSlice t l c => exSh .slc fun v => ∃ h', Cnd (amakeSlice W.C.E.P t (a.ev W.C.E.gl l) (a.ev W.C.E.gl c) h = some (v, h')) ∧ k v h'
  | .lookup t x i ok => ∃ v, Cnd (alookup W.C.E.P t (a.ev W.C.E.gl x) (a.ev W.C.E.gl i) ok h = some v) ∧ k v h
  | .insert t m j x => ∃ h', Cnd (amapUpdate W.C.E.P t (a.ev W.C.E.gl m) (a.ev W.C.E.gl j) (a.ev W.C.E.gl x) h = some h') ∧ k undef h'
  | .mapUpdate t m j x => ∃ h', Cnd (amapUpdate W.C.E.P t (a.ev W.C.E.gl m) (a.ev W.C.E.gl j) (a.ev W.C.E.gl x) h = some h') ∧ k undef h'
  | .call c => wCall W c a o h k kp
  | _ => wDir W a o h k kp

/-! ### It is enough -/
def SpecOK (W : WC) : Prop := ∀ f args h K, W.spec f args h K → CallDoes W.C.E f args.toArray h K

/-- What an operation comes to. -/
def OpComes (W : WC) (a : AAct) (o : Oper) (h : AHeap) (k : VK) (kp : List PanicEntry → AHeap → Prop) : Prop :=
  (∃ v h', astep W.C a none o h = some (.go v a.defers none h') ∧ k v h') ∨
  (∃ ch h', astep W.C a none o h = some (.panic ch h') ∧ kp ch h') ∨
  ∃ f args, aop W.C.E a W.C.ro.isSome o h = some (.enter f args h) ∧ CallDoes W.C.E f args h fun e h2 => match e with
    | .returned v => k v h2
    | .panicked ch => kp ch h2
    | .outgrown => False

variable {W : WC} {a : AAct} {o : Oper} {h : AHeap} {k : VK} {kp : List PanicEntry → AHeap → Prop}

theorem comes_val (hro : W.C.ro = none) {v : Value} {h' : AHeap} (he : aop W.C.E a false o h = some (.val v h')) (hk : k v h') : OpComes W a o h k kp :=
  .inl ⟨v, h', by simp [astep, hro, he], hk⟩
theorem comes_skip (hro : W.C.ro = none) {h' : AHeap} (he : aop W.C.E a false o h = some (.skip h')) (hk : k undef h') : OpComes W a o h k kp :=
  .inl ⟨undef, h', by simp [astep, hro, he], hk⟩

theorem enter_same {E : Env} {a : AAct} {o : Oper} {h h' : AHeap} {r : Bool} {f : FuncId} {args : Array Value} (he : aop E a r o h = some (.enter f args h')) : h' = h := by
  have fn : ∀ {f : FuncId} {l : List Value} {g : FuncId} {args : Array Value}, acallFn E f l h = some (.enter g args h') → h' = h := by
    intro f l g args hc
    unfold acallFn at hc
    split at hc
    · split at hc <;> simp at hc
    · split at hc
      · split at hc
        · simp at hc; exact hc.2.2.symm
        · cases hc
      · cases hc
  unfold aop opD at he
  cases hop : o.op with
  | call c =>
    rw [hop] at he
    simp only [opCall, acallOp] at he
    split at he
    · rename_i b hb
      exfalso
      unfold abuiltin at he
      repeat' (first | (simp at he; done) | split at he)
    · split at he
      · unfold ainvoke at he
        split at he
        · exact fn he
        · simp at he
        · cases he
      · cases he
    · cases he
  | _ =>
    rw [hop] at he
    simp only [opMove, opPick, opAlloc, opBox, opBuild, opBuildSlice, opLoad, opStore, opNil, opBin, opUn, opConv, opIface, opFunc, opMakeSlice, opSlice, opFieldAddr, opField, opIndexAddr, opIndex, opAssert, opExtract, opMakeMap, opLookup, opUpdate, opDefer, opPanic, opNone, vOf, vhOf, sOf] at he
    repeat' (first | (simp at he; done) | split at he)

theorem wDir_ok (hro : W.C.ro = none) (hS : SpecOK W) (hw : wDir W a o h k kp) : OpComes W a o h k kp := by
  unfold wDir at hw
  split at hw
  · rename_i v h' he; exact comes_val hro he hw
  · rename_i h' he; exact comes_skip hro he hw
  · rename_i f args h' he
    have := enter_same he
    subst this
    exact .inr (.inr ⟨f, args, by rw [hro]; exact he, by simpa using hS f _ _ _ hw⟩)
  · rename_i v h' he
    exact .inr (.inl ⟨_, h', by simp [astep, hro, he], hw⟩)
  · exact hw.elim

theorem wEx_ok (hro : W.C.ro = none) (hw : wEx W a o h k) : OpComes W a o h k kp := let ⟨v, h', he, hk⟩ := hw; comes_val hro he.out hk
theorem wSh_ok (hro : W.C.ro = none) {s : Sh} (hw : wSh W s a o h k) : OpComes W a o h k kp := let ⟨v, h', he, hk⟩ := exSh_get hw; comes_val hro he.out hk

theorem wIndex_ok (hro : W.C.ro = none) (hS : SpecOK W) {t : TypeId} {x i : Operand} (ho : o.op = .index t x i) (hw : wIndex W t x i a o h k kp) : OpComes W a o h k kp := by
  unfold wIndex at hw
  split at hw
  · rename_i s ik n hx hi
    split at hw
    · rename_i hu
      obtain ⟨hc, hk⟩ := hw
      obtain ⟨h0, h1⟩ := hc.out
      refine comes_val hro ?_ hk
      have hlt : n.toNat < s.data.toList.length := by omega
      simp only [aop, opD, ho, opIndex, hx, hi, aindex, hu, vOf, if_pos h0, byteAt, List.getElem?_eq_getElem hlt, Option.getD_some]
    · exact hw.elim
  · exact wDir_ok hro hS hw

theorem wIndexAddr_ok (hro : W.C.ro = none) {t : TypeId} {x i : Operand} (ho : o.op = .indexAddr t x i) (hw : wIndexAddr W t x i a h k) : OpComes W a o h k kp := by
  unfold wIndexAddr at hw
  split at hw
  · rename_i ik n hi
    split at hw
    · rename_i len elem hu
      split at hw
      · rename_i p hx
        obtain ⟨hp, hw⟩ := req_out hw
        split at hw
        · rename_i ie hie
          obtain ⟨hc, hk⟩ := hw
          refine comes_val hro ?_ hk
          rw [okP_eq hp] at hx
          simp only [aop, opD, ho, opIndexAddr, hx, hi, aindexAddr, hu, hie, vOf, if_pos hc.out]
        · exact hw.elim
      · exact hw.elim
    · rename_i elem hu
      split at hw
      · rename_i p len es hx
        obtain ⟨hp, hw⟩ := req_out hw
        split at hw
        · rename_i ie hie
          obtain ⟨hc, hk⟩ := hw
          refine comes_val hro ?_ hk
          rw [okP_eq hp] at hx
          simp only [aop, opD, ho, opIndexAddr, hx, hi, aindexAddr, hu, hie, vOf, if_pos hc.out]
        · exact hw.elim
      · exact hw.elim
    · exact hw.elim
  · exact hw.elim

theorem wFieldAddr_ok (hro : W.C.ro = none) {t : TypeId} {x : Operand} {j : Nat} (ho : o.op = .fieldAddr t x j) (hw : wFieldAddr W t x j a h k) : OpComes W a o h k kp := by
  unfold wFieldAddr at hw
  split at hw
  · rename_i p hx
    obtain ⟨hp, hw⟩ := req_out hw
    split at hw
    · rename_i fields hu
      split at hw
      · rename_i f hf
        split at hw
        · rename_i i hi
          obtain ⟨h0, hk⟩ := req_out hw
          refine comes_val hro ?_ hk
          rw [okP_eq hp] at hx
          have hne : ¬ i.size = 0 := by
            intro e
            rw [e] at h0
            simp at h0
          simp only [aop, opD, ho, opFieldAddr, hx, afieldAddr, hu, hf, hi, vOf, if_neg hne]
        · exact hw.elim
      · exact hw.elim
    · exact hw.elim
  · exact hw.elim

theorem wLoad_ok (hro : W.C.ro = none) {t : TypeId} {x : Operand} (ho : o.op = .load t x) (hw : wLoad W t x a h k) : OpComes W a o h k kp := by
  unfold wLoad at hw
  split at hw
  · rename_i p hx
    obtain ⟨hp, hw⟩ := req_out hw
    rw [okP_eq hp] at hx
    split at hw
    · rename_i d hu
      cases hd : isAggD d with
      | true =>
        rw [hd] at hw
        simp only [cond] at hw
        split at hw
        · rename_i i hi
          split at hw
          · rename_i z hz
            obtain ⟨l, hc, hk⟩ := exShs_get hw
            refine comes_val hro ?_ hk
            simp only [aop, opD, ho, opLoad, hx, aload, hu, hd, if_true, hi, hc.out, vOf]
          · exact hw.elim
        · exact hw.elim
      | false =>
        rw [hd] at hw
        simp only [cond] at hw
        obtain ⟨v, hc, hk⟩ := exSh_get hw
        refine comes_val hro ?_ hk
        simp only [aop, opD, ho, opLoad, hx, aload, hu, hd, Bool.false_eq_true, if_false, hc.out, vOf]
    · exact hw.elim
  · exact hw.elim

theorem wStore_ok (hro : W.C.ro = none) {t : TypeId} {x y : Operand} (ho : o.op = .store t x y) (hw : wStore W t x y a h k) : OpComes W a o h k kp := by
  unfold wStore at hw
  split at hw
  · rename_i p hx
    obtain ⟨hp, hw⟩ := req_out hw
    rw [okP_eq hp] at hx
    split at hw
    · rename_i i hi
      obtain ⟨hj, h', hc, hk⟩ := req_out hw
      simp only [Bool.and_eq_true, Bool.not_eq_true'] at hj
      refine comes_skip hro ?_ hk
      simp only [aop, opD, ho, opStore, hx, astore, hi, if_pos (And.intro hj.1 (Nat.eq_of_beq_eq_true hj.2)), hc.out, sOf]
    · exact hw.elim
  · exact hw.elim

theorem wBin_ok (hro : W.C.ro = none) (hS : SpecOK W) {op : BinOp} {t t' : TypeId} {x y : Operand} (ho : o.op = .binOp op t x y t') (hw : wBin W op t x y a o h k kp) : OpComes W a o h k kp := by
  unfold wBin at hw
  split at hw
  · rename_i k1 m k2 n hx hy
    cases hs : isShift op with
    | true =>
      rw [hs] at hw
      obtain ⟨hc, hk⟩ := hw
      refine comes_val hro ?_ hk
      have hn : ¬ n < 0 := by have := hc.out; omega
      cases op <;> simp [isShift] at hs <;> simp only [aop, opD, ho, opBin, hx, hy, abin, isShift, if_true, ashift, if_neg hn, vOf, shiftV]
    | false =>
      rw [hs] at hw
      simp only [cond] at hw
      cases hd : isDiv op with
      | true =>
        rw [hd] at hw
        obtain ⟨he, hc, hk⟩ := req_out hw
        have := eq_of_beq he
        subst this
        refine comes_val hro ?_ hk
        cases op <;> simp [isDiv] at hd <;> simp only [aop, opD, ho, opBin, hx, hy, abin, isShift, Bool.false_eq_true, if_false, if_true, aintOp, if_neg hc.out, vOf, divV]
      | false =>
        rw [hd] at hw
        exact wDir_ok hro hS hw
  · rename_i s r hx hy
    cases hd : isAddB op with
    | true =>
      rw [hd] at hw
      obtain ⟨hc, hk⟩ := hw
      refine comes_val hro ?_ hk
      cases op <;> simp [isAddB] at hd
      simp only [aop, opD, ho, opBin, hx, hy, abin, isShift, Bool.false_eq_true, if_false, astrOp, if_pos hc.out, vOf, bcat]
    | false =>
      rw [hd] at hw
      exact wDir_ok hro hS hw
  · exact wDir_ok hro hS hw

theorem wConv_ok (hro : W.C.ro = none) (hS : SpecOK W) {t d : TypeId} {x : Operand} (ho : o.op = .convert t d x) (hw : wConv W t d x a o h k kp) : OpComes W a o h k kp := by
  unfold wConv at hw
  split at hw
  · rename_i hx _
    obtain ⟨v, h', he, hk⟩ := exSh_get hw
    exact comes_val hro (by simp only [aop, opD, ho, opConv, hx, he.out, vhOf]) hk
  · exact wDir_ok hro hS hw

theorem wSlice_ok (hro : W.C.ro = none) {t : TypeId} {x : Operand} {lo hi : Option Operand} (ho : o.op = .slice t x lo hi none) (hw : wSlice W t x lo hi a o h k) : OpComes W a o h k kp := by
  unfold wSlice at hw
  split at hw
  · rename_i s hx
    split at hw
    case h_2 => exact hw.elim
    rename_i hu
    split at hw
    · rename_i h1 h2
      refine comes_val hro ?_ hw
      simp only [aop, opD, ho, opSlice, hx, aslice, hu, h1, h2, bound, vOf, Option.map_none, List.drop_zero, Nat.sub_zero, List.take_length]
    · rename_i ik l h1 h2
      obtain ⟨hc, hk⟩ := hw
      refine comes_val hro ?_ hk
      simp only [aop, opD, ho, opSlice, hx, aslice, hu, h1, h2, bound, vOf, Option.map_none, if_pos hc.out]
      rw [List.take_of_length_le (by simp)]
    · rename_i ik r h1 h2
      obtain ⟨hc, hk⟩ := hw
      refine comes_val hro ?_ hk
      simp only [aop, opD, ho, opSlice, hx, aslice, hu, h1, h2, bound, vOf, Option.map_none, if_pos hc.out, List.drop_zero, Nat.sub_zero]
    · rename_i ik l jk r h1 h2
      obtain ⟨hc, hk⟩ := hw
      refine comes_val hro ?_ hk
      have := hc.out
      have c1 : 0 ≤ r ∧ r ≤ (s.data.toList.length : Int) := by omega
      have c2 : 0 ≤ l ∧ l ≤ ((r.toNat : Nat) : Int) := by omega
      simp only [aop, opD, ho, opSlice, hx, aslice, hu, h1, h2, bound, vOf, Option.map_none, if_pos c1, if_pos c2]
    · exact hw.elim
  · rename_i hx
    obtain ⟨v, he, hk⟩ := exSh_get hw
    exact comes_val hro (by simp only [aop, opD, ho, opSlice, hx, he.out, vOf, Option.map_none]) hk
  · exact hw.elim

theorem wOp_ok (hro : W.C.ro = none) (hS : SpecOK W) (hw : wOp W a o h k kp) : OpComes W a o h k kp := by
  unfold wOp at hw
  split at hw
  · rename_i c x y ho
    split at hw
    · rename_i b hc
      cases b with
      | true => exact comes_val hro (by simp only [aop, opD, ho, opPick, hc, if_true]) hw
      | false => exact comes_val hro (by simp only [aop, opD, ho, opPick, hc, Bool.false_eq_true, if_false]) hw
    · exact hw.elim
  · rename_i ho; exact wBin_ok hro hS ho hw
  · rename_i ho; exact wIndex_ok hro hS ho hw
  · rename_i ho; exact wIndexAddr_ok hro ho hw
  · rename_i ho; exact wFieldAddr_ok hro ho hw
  · rename_i ho; exact wLoad_ok hro ho hw
  · rename_i ho; exact wStore_ok hro ho hw
  · rename_i ho; exact wConv_ok hro hS ho hw
  · rename_i ho; exact wSlice_ok hro ho hw
  · rename_i ho
    obtain ⟨v, h', he, hk⟩ := exSh_get hw
    exact comes_val hro (by simp only [aop, opD, ho, opMakeSlice, he.out, vhOf]) hk
  · rename_i ho
    obtain ⟨v, he, hk⟩ := hw
    exact comes_val hro (by simp only [aop, opD, ho, opLookup, he.out, vOf]) hk
  · rename_i ho
    obtain ⟨h', he, hk⟩ := hw
    exact comes_skip hro (by simp only [aop, opD, ho, opUpdate, he.out, sOf]) hk
  · rename_i ho
    obtain ⟨h', he, hk⟩ := hw
    exact comes_skip hro (by simp only [aop, opD, ho, opUpdate, he.out, sOf]) hk
  · rename_i c ho
    unfold wCall at hw
    split at hw
    · rename_i hb
      unfold wAppend at hw
      split at hw
      · rename_i s x hargs
        obtain ⟨v, h', he, hk⟩ := exSh_get hw
        exact comes_val hro (by simp only [aop, opD, ho, opCall, acallOp, hb, hargs, abuiltin, he.out]) hk
      · exact hw.elim
    · rename_i hb
      unfold wCopy at hw
      split at hw
      · rename_i s x hargs
        obtain ⟨v, h', he, hk⟩ := exSh_get hw
        exact comes_val hro (by simp only [aop, opD, ho, opCall, acallOp, hb, hargs, abuiltin, he.out]) hk
      · exact hw.elim
    · exact wEx_ok hro hw
    · exact wSh_ok hro hw
    · exact wDir_ok hro hS hw
  · exact wDir_ok hro hS hw
end Go.Eng

set_option linter.unusedVariables false
set_option linter.unusedSimpArgs false
namespace Go.Eng

abbrev AK := AAct → AHeap → Prop
abbrev PK := List PanicEntry → AAct → AHeap → Prop
abbrev QK := Exit → AAct → AHeap → Prop

def wBit (W : WC) (o : Oper) (want : Bool) (h : AHeap) (t : Bool) (a : AAct) (k : AK) (kp : PK) : Prop :=
  cond (t == want) (wOp W a o h (fun v h' => k (a.put o.dst v) h') (fun ch h' => kp ch a h')) (k (a.put o.dst undef) h)

def wOps (W : WC) (ops : Array Oper) : List Nat → AAct → AHeap → AK → PK → Prop
  | [], a, h, k, kp => k a h
  | i :: rest, a, h, k, kp => match ops[i]? with
    | none => wOps W ops rest a h k kp
    | some o => match o.guard with
      | none => wOp W a o h (fun v h' => wOps W ops rest (a.put o.dst v) h' k kp) (fun ch h' => kp ch a h')
      | some (j, want) => match ops[j]? with
        | some oj => (match oj.dst with
          | some d => (match a.tmp d with
            | .bool b => cond b (wBit W o want h true (a.put (some d) (.bool true)) (fun a h => wOps W ops rest a h k kp) kp) (wBit W o want h false (a.put (some d) (.bool false)) (fun a h => wOps W ops rest a h k kp) kp)
            | .tuple vs => req (Nat.beq vs.size 0) (wOps W ops rest (a.put o.dst undef) h k kp)
            | _ => False)
          | none => False)
        | none => False

/-! ### What stays of an activation -/
structure Fr (ds : List Tmp) (a a' : AAct) : Prop where
  nt : a'.nt = a.nt
  defers : a'.defers = a.defers
  tmp : ∀ t, t ∉ ds → a'.tmp t = a.tmp t

theorem Fr.refl (ds : List Tmp) (a : AAct) : Fr ds a a := ⟨rfl, rfl, fun _ _ => rfl⟩
theorem Fr.trans {ds : List Tmp} {a b c : AAct} (x : Fr ds a b) (y : Fr ds b c) : Fr ds a c := ⟨y.nt.trans x.nt, y.defers.trans x.defers, fun t ht => (y.tmp t ht).trans (x.tmp t ht)⟩
theorem Fr.mono {ds es : List Tmp} {a b : AAct} (hs : ∀ t, t ∈ ds → t ∈ es) (x : Fr ds a b) : Fr es a b := ⟨x.nt, x.defers, fun t ht => x.tmp t fun h => ht (hs t h)⟩
theorem Fr.put {ds : List Tmp} {a : AAct} {d : Option Tmp} {v : Value} (hd : ∀ t, d = some t → t ∈ ds) : Fr ds a (a.put d v) := by
  cases d with
  | none => exact Fr.refl _ _
  | some d =>
    refine ⟨AAct.nt_set _ _ _, AAct.defers_set _ _ _, fun t ht => ?_⟩
    show (a.set d v).tmp t = _
    rw [AAct.tmp_set, if_neg]
    rintro ⟨rfl, _⟩
    exact ht (hd _ rfl)
/-- A temporary that is put as it stands. -/
theorem put_self {a : AAct} {d : Tmp} {v : Value} (h : a.tmp d = v) : (a.put (some d) v).nt = a.nt ∧ (∀ t, (a.put (some d) v).tmp t = a.tmp t) ∧ (a.put (some d) v).defers = a.defers := by
  refine ⟨AAct.nt_set _ _ _, fun t => ?_, AAct.defers_set _ _ _⟩
  show (a.set d v).tmp t = _
  rw [AAct.tmp_set]
  split
  · rename_i ht; rw [ht.1, h]
  · rfl

def dstsOps (ops : Array Oper) : List Tmp := ops.toList.filterMap (·.dst)
theorem dst_mem {ops : Array Oper} {i : Nat} {o : Oper} (ho : ops[i]? = some o) : ∀ t, o.dst = some t → t ∈ dstsOps ops :=
  fun t ht => List.mem_filterMap.2 ⟨o, Array.mem_toList_iff.2 (Array.mem_of_getElem? ho), ht⟩

theorem DoesL.comes {W : WC} (hC : CtxOK W.C) {ops : Array Oper} {a : AAct} {h : AHeap} {i : Nat} {rest : List Nat} {o : Oper} {Q : ARes → Prop} {k : VK} {kp : List PanicEntry → AHeap → Prop} (ho : ops[i]? = some o) (hw : awanted ops a o = some true)
    (c : OpComes W a o h k kp) (t1 : ∀ v h', k v h' → DoesL W.C ops rest (a.put o.dst v) Option.none h' Q) (t2 : ∀ ch h', kp ch h' → Q ⟨.panic ch, a, Option.none, h'⟩) : DoesL W.C ops (i :: rest) a Option.none h Q := by
  rcases c with ⟨v, h', he, hk⟩ | ⟨ch, h', he, hk⟩ | ⟨f, args, he, hc⟩
  · exact DoesL.go hC ho hw he (t1 v h' hk)
  · exact DoesL.panic hC ho hw he (t2 ch h' hk)
  · refine DoesL.call hC ho hw he hc fun e h' hK => ?_
    cases e with
    | returned v => exact t1 v h' hK
    | panicked ch => exact t2 ch h' hK
    | outgrown => exact hK

def PostL (ds : List Tmp) (a : AAct) (k : AK) (kp : PK) (r : ARes) : Prop := r.u = none ∧ Fr ds a r.a ∧ ((r.e = .normal ∧ k r.a r.h) ∨ ∃ ch, r.e = .panic ch ∧ kp ch r.a r.h)
theorem PostL.from {ds : List Tmp} {a b : AAct} {k : AK} {kp : PK} {r : ARes} (x : Fr ds a b) (p : PostL ds b k kp r) : PostL ds a k kp r := ⟨p.1, x.trans p.2.1, p.2.2⟩

theorem wOps_ok {W : WC} (hC : CtxOK W.C) (hro : W.C.ro = none) (hS : SpecOK W) {ops : Array Oper} {k : AK} {kp : PK} : ∀ (l : List Nat) (a : AAct) (h : AHeap), wOps W ops l a h k kp → DoesL W.C ops l a none h (PostL (dstsOps ops) a k kp) := by
  intro l
  induction l with
  | nil => intro a h hw; exact DoesL.nil ⟨rfl, Fr.refl _ _, .inl ⟨rfl, hw⟩⟩
  | cons i rest ih =>
    intro a h hw
    simp only [wOps] at hw
    split at hw
    · rename_i ho; exact DoesL.none ho (ih a h hw)
    · rename_i o ho
      have hdst : ∀ (b : AAct) v, Fr (dstsOps ops) b (b.put o.dst v) := fun b v => Fr.put (dst_mem ho)
      split at hw
      · rename_i hg
        refine DoesL.comes hC ho (awanted_plain hg) (wOp_ok hro hS hw) (fun v h' hk => (ih _ _ hk).mono fun r p => PostL.from (hdst a v) p) (fun ch h' hk => ⟨rfl, Fr.refl _ _, .inr ⟨ch, rfl, hk⟩⟩)
      · rename_i j want hg
        split at hw
        case h_2 => exact hw.elim
        rename_i oj hoj
        split at hw
        case h_2 => exact hw.elim
        rename_i d hd
        split at hw
        case h_3 => exact hw.elim
        · rename_i b hb
          have key : ∀ t, a.tmp d = .bool t → wBit W o want h t (a.put (some d) (.bool t)) (fun a h => wOps W ops rest a h k kp) kp → DoesL W.C ops (i :: rest) a none h (PostL (dstsOps ops) a k kp) := by
            intro t ht hw
            obtain ⟨e1, e2, e3⟩ := put_self ht
            have hsame : Fr (dstsOps ops) a (a.put (some d) (.bool t)) := ⟨e1, e3, fun x _ => e2 x⟩
            have hwt : awanted ops (a.put (some d) (.bool t)) o = some (t == want) := by
              simp only [awanted, hg, ayielded, hoj, hd, e2, ht]
            refine (DoesL.same e1 e2 e3 ?_).mono fun r p => PostL.from hsame p
            unfold wBit at hw
            cases hc : (t == want) with
            | true =>
              rw [hc] at hwt
              rw [hc, cond_true] at hw
              refine DoesL.comes hC ho hwt (wOp_ok hro hS hw) (fun v h' hk => (ih _ _ hk).mono fun r p => PostL.from (hdst _ v) p) (fun ch h' hk => ⟨rfl, Fr.refl _ _, .inr ⟨ch, rfl, hk⟩⟩)
            | false =>
              rw [hc] at hwt
              rw [hc, cond_false] at hw
              exact DoesL.unwanted ho hwt ((ih _ _ hw).mono fun r p => PostL.from (hdst _ _) p)
          cases b with
          | true => exact key true hb hw
          | false => exact key false hb hw
        · rename_i vs hb
          obtain ⟨h0, hw⟩ := req_out hw
          have hz : vs.size = 0 := Nat.eq_of_beq_eq_true h0
          have hwt : awanted ops a o = some false := by
            simp only [awanted, hg, ayielded, hoj, hd, hb, hz, if_true]
          exact DoesL.unwanted ho hwt ((ih _ _ hw).mono fun r p => PostL.from (hdst _ _) p)

/-! ### Regions that draw, where they can be run -/
theorem dsec_fr {C : Ctx} {ops : Array Oper} {kd : Kd} : ∀ (l : List Nat) (a : AAct) (h : AHeap) (rs : List DRec) (e : DEnd), dsec C ops kd l a h = some (rs, e) → ∀ a' h', e = .done a' h' → Fr (dstsOps ops) a a' := by
  intro l
  induction l with
  | nil => intro a h rs e he a' h' hd; simp only [dsec, Option.some.injEq, Prod.mk.injEq] at he; rw [← he.2] at hd; cases hd; exact Fr.refl _ _
  | cons i rest ih =>
    intro a h rs e he a' h' hd
    simp only [dsec] at he
    split at he
    · cases he
    · rename_i o ho
      have hdst : ∀ v, Fr (dstsOps ops) a (a.put o.dst v) := fun v => Fr.put (dst_mem ho)
      split at he
      · cases he
      · split at he
        · rename_i l' e' hr; simp only [Option.some.injEq, Prod.mk.injEq] at he; obtain ⟨_, rfl⟩ := he; exact (hdst _).trans (ih _ _ _ _ hr _ _ hd)
        · cases he
      · split at he
        · split at he
          · rename_i l' e' hr; simp only [Option.some.injEq, Prod.mk.injEq] at he; obtain ⟨_, rfl⟩ := he; exact (hdst _).trans (ih _ _ _ _ hr _ _ hd)
          · cases he
        · split at he
          · split at he
            · split at he
              · rename_i l' e' hr; simp only [Option.some.injEq, Prod.mk.injEq] at he; obtain ⟨_, rfl⟩ := he; exact (hdst _).trans (ih _ _ _ _ hr _ _ hd)
              · cases he
            · split at he
              · simp only [Option.some.injEq, Prod.mk.injEq] at he; rw [← he.2] at hd; cases hd
              · cases he
            · cases he
          · cases he

theorem adraw_fr {C : Ctx} {ops : Array Oper} {a a' : AAct} {u u' : Option FrameMode} {h h' : AHeap} {e : Exit} (hr : adraw C ops a u h = some ⟨e, a', u', h'⟩) : Fr (dstsOps ops) a a' := by
  unfold adraw at hr
  simp only at hr
  split at hr
  · rename_i r1 a1 h1 e1
    have f1 := dsec_fr _ _ _ _ _ e1 _ _ rfl
    split at hr
    · rename_i r2 a2 h2 e2
      have f2 := dsec_fr _ _ _ _ _ e2 _ _ rfl
      split at hr
      · rename_i r3 a3 h3 e3
        have f3 := dsec_fr _ _ _ _ _ e3 _ _ rfl
        split at hr
        · cases hr; exact f1.trans (f2.trans f3)
        · cases hr
      · cases hr
    · split at hr
      · split at hr
        · cases hr
          have : ∀ (l : List Oper) (b : AAct), (∀ o ∈ l, ∀ t, o.dst = some t → t ∈ dstsOps ops) → Fr (dstsOps ops) b (l.foldl (fun a o => a.put o.dst junk) b) := by
            intro l
            induction l with
            | nil => intro b _; exact Fr.refl _ _
            | cons o l ih => intro b hl; exact (Fr.put (hl o List.mem_cons_self)).trans (ih _ fun x hx => hl x (List.mem_cons_of_mem _ hx))
          exact this _ _ fun o ho t ht => List.mem_filterMap.2 ⟨o, ho, ht⟩
        · cases hr
      · cases hr
    · cases hr
  · cases hr

def wDraw (W : WC) (ops : Array Oper) (a : AAct) (h : AHeap) (Q : QK) : Prop :=
  match adraw W.C ops a none h with
  | some ⟨e, a', none, h'⟩ => Q e a' h'
  | _ => False

/-! ### Code -/
inductive LI where
  | unroll (n : Nat)
  | inv (live : List (Tmp × Sh)) (I : Nat → List Value → AHeap → Prop)

def firstId : Code → Nat
  | .region id _ _ => id
  | .seq x _ => firstId x
  | .cond _ x _ => firstId x
  | .block _ c => firstId c
  | .loop c => firstId c
  | .scope c => firstId c
  | _ => 0

def dsts : Code → List Tmp
  | .region _ ops _ => dstsOps ops
  | .seq x y => dsts x ++ dsts y
  | .cond _ x y => dsts x ++ dsts y
  | .block _ c => dsts c
  | .loop c => dsts c
  | .scope c => dsts c
  | _ => []

def wIter (body : AAct → AHeap → QK → Prop) (Q : QK) : Nat → AAct → AHeap → Prop
  | 0, _, _ => False
  | n + 1, a, h => body a h fun e a' h' => match e with
    | .normal => wIter body Q n a' h'
    | e => Q e a' h'

def putL : List (Tmp × Value) → AAct → AAct
  | [], a => a
  | (t, v) :: l, a => putL l (a.put (some t) v)
def junkL : List Tmp → AAct → AAct
  | [], a => a
  | t :: l, a => junkL l (a.put (some t) junk)
def headAct (a : AAct) (mod : List Tmp) (live : List Tmp) (vals : List Value) : AAct := putL (live.zip vals) (junkL mod a)

def wLoop (L : LI) (mod : List Tmp) (body : AAct → AHeap → QK → Prop) (a : AAct) (h : AHeap) (Q : QK) : Prop :=
  match L with
  | .unroll n => wIter body Q n a h
  | .inv live I =>
    req (shsOk (live.map (·.2)) (live.map fun p => a.tmp p.1)) ((∃ n, Cnd (I n (live.map fun p => a.tmp p.1) h)) ∧
      ∀ (n : Nat) (h' : AHeap), allShs (live.map (·.2)) fun vals => Cnd (I n vals h') →
        body (headAct a mod (live.map (·.1)) vals) h' fun e a' h'' => match e with
          | .normal => req (shsOk (live.map (·.2)) (live.map fun p => a'.tmp p.1)) (∃ m, Cnd (m < n ∧ I m (live.map fun p => a'.tmp p.1) h''))
          | e => Q e a' h'')

def wCode (W : WC) (inv : Nat → AAct → AHeap → LI) : Code → AAct → AHeap → QK → Prop
  | .skip, a, h, Q => Q .normal a h
  | .label _, a, h, Q => Q .normal a h
  | .region _ ops draw, a, h, Q => cond draw (wDraw W ops a h Q) (wOps W ops (List.range ops.size) a h (fun a h => Q .normal a h) (fun ch a h => Q (.panic ch) a h))
  | .seq x y, a, h, Q => wCode W inv x a h fun e a' h' => match e with
    | .normal => wCode W inv y a' h' Q
    | e => Q e a' h'
  | .cond c x y, a, h, Q => match a.ev W.C.E.gl c with
    | .bool b => cond b (wCode W inv x a h Q) (wCode W inv y a h Q)
    | _ => False
  | .block id c, a, h, Q => wCode W inv c a h fun e a' h' => match e with
    | .exit i => cond (Nat.beq i id) (Q .normal a' h') (Q (.exit i) a' h')
    | e => Q e a' h'
  | .loop c, a, h, Q => wLoop (inv (firstId c) a h) (dsts c) (wCode W inv c) a h Q
  | .exit id, a, h, Q => Q (.exit id) a h
  | .ret, a, h, Q => Q .ret a h
  | _, _, _, _ => False

def PostC (ds : List Tmp) (a : AAct) (Q : QK) (r : ARes) : Prop := r.u = none ∧ Fr ds a r.a ∧ Q r.e r.a r.h

theorem wIter_ok {W : WC} {c : Code} {ds : List Tmp} {body : AAct → AHeap → QK → Prop} (ih : ∀ a h Q, body a h Q → Does W.C c a none h (PostC ds a Q)) {Q : QK} : ∀ (n : Nat) (a : AAct) (h : AHeap), wIter body Q n a h →
    Does W.C (.loop c) a none h (PostC ds a Q) := by
  intro n a h hw
  -- the rounds left, as a measure
  refine Does.loop (Q := PostC ds a Q) (fun m b u h' => u = none ∧ Fr ds a b ∧ wIter body Q m b h') ?_ n a none h ⟨rfl, Fr.refl _ _, hw⟩
  rintro m b u h' ⟨rfl, hfr, hb⟩
  cases m with
  | zero => exact hb.elim
  | succ m =>
    refine (ih b h' _ hb).mono ?_
    rintro r ⟨hu, hf, hq⟩
    cases he : r.e with
    | normal => rw [he] at hq; exact .inl ⟨rfl, m, Nat.lt_succ_self m, hu, hfr.trans hf, hq⟩
    | _ => rw [he] at hq; exact .inr ⟨by simp, hu, hfr.trans hf, by rw [he]; exact hq⟩

theorem putL_tmp : ∀ (l : List (Tmp × Value)) (a : AAct) (t : Tmp), (∃ p ∈ l, p.1 = t ∧ t < a.nt ∧ (putL l a).tmp t = p.2) ∨ ((∀ p ∈ l, p.1 ≠ t ∨ ¬ t < a.nt) ∧ (putL l a).tmp t = a.tmp t) := by
  intro l
  induction l with
  | nil => intro a t; exact .inr ⟨fun p h => (by cases h), rfl⟩
  | cons q l ih =>
    intro a t
    obtain ⟨d, v⟩ := q
    have hnt : (a.put (some d) v).nt = a.nt := AAct.nt_set _ _ _
    rcases ih (a.put (some d) v) t with ⟨p, h1, h2, h3, h4⟩ | ⟨h1, h2⟩
    · exact .inl ⟨p, List.mem_cons_of_mem _ h1, h2, by rw [← hnt]; exact h3, h4⟩
    · simp only [putL]
      rw [h2]
      have e : (a.put (some d) v).tmp t = if t = d ∧ d < a.nt then v else a.tmp t := AAct.tmp_set _ _ _ _
      rw [e]
      by_cases hc : t = d ∧ d < a.nt
      · rw [if_pos hc]
        exact .inl ⟨(d, v), List.mem_cons_self, hc.1.symm, hc.1 ▸ hc.2, rfl⟩
      · rw [if_neg hc]
        refine .inr ⟨fun p hp => ?_, rfl⟩
        rcases List.mem_cons.1 hp with rfl | hp
        · by_cases hd : d = t
          · right; intro ht; exact hc ⟨hd.symm, hd ▸ ht⟩
          · left; exact hd
        · have := h1 p hp; rw [hnt] at this; exact this
theorem putL_nt : ∀ (l : List (Tmp × Value)) (a : AAct), (putL l a).nt = a.nt ∧ (putL l a).defers = a.defers := by
  intro l
  induction l with
  | nil => intro a; exact ⟨rfl, rfl⟩
  | cons q l ih => intro a; obtain ⟨h1, h2⟩ := ih (a.put (some q.1) q.2); exact ⟨h1.trans (AAct.nt_set _ _ _), h2.trans (AAct.defers_set _ _ _)⟩
theorem junkL_tmp : ∀ (l : List Tmp) (a : AAct) (t : Tmp), (junkL l a).tmp t = a.tmp t ∨ (t ∈ l ∧ (junkL l a).tmp t = junk) := by
  intro l
  induction l with
  | nil => intro a t; exact .inl rfl
  | cons d l ih =>
    intro a t
    rcases ih (a.put (some d) junk) t with h | ⟨h1, h2⟩
    · simp only [junkL]
      rw [h]
      have e : (a.put (some d) junk).tmp t = if t = d ∧ d < a.nt then junk else a.tmp t := AAct.tmp_set _ _ _ _
      rw [e]
      split
      · rename_i hc; exact .inr ⟨by rw [hc.1]; exact List.mem_cons_self, rfl⟩
      · exact .inl rfl
    · exact .inr ⟨List.mem_cons_of_mem _ h1, h2⟩
theorem junkL_mem : ∀ (l : List Tmp) (a : AAct) (t : Tmp), t ∈ l → t < a.nt → (junkL l a).tmp t = junk := by
  intro l
  induction l with
  | nil => intro a t h; cases h
  | cons d l ih =>
    intro a t h hlt
    by_cases hm : t ∈ l
    · exact ih _ t hm (by rw [show (a.put (some d) junk).nt = a.nt from AAct.nt_set _ _ _]; exact hlt)
    · have hd : t = d := by rcases List.mem_cons.1 h with h | h; exact h; exact absurd h hm
      rcases junkL_tmp l (a.put (some d) junk) t with h1 | ⟨h1, _⟩
      · simp only [junkL]
        rw [h1]
        have e : (a.put (some d) junk).tmp t = if t = d ∧ d < a.nt then junk else a.tmp t := AAct.tmp_set _ _ _ _
        rw [e, if_pos ⟨hd, hd ▸ hlt⟩]
      · exact absurd h1 hm
theorem junkL_nt : ∀ (l : List Tmp) (a : AAct), (junkL l a).nt = a.nt ∧ (junkL l a).defers = a.defers := by
  intro l
  induction l with
  | nil => intro a; exact ⟨rfl, rfl⟩
  | cons q l ih => intro a; obtain ⟨h1, h2⟩ := ih (a.put (some q) junk); exact ⟨h1.trans (AAct.nt_set _ _ _), h2.trans (AAct.defers_set _ _ _)⟩

theorem headAct_nt (a : AAct) (mod live : List Tmp) (vals : List Value) : (headAct a mod live vals).nt = a.nt ∧ (headAct a mod live vals).defers = a.defers := by
  obtain ⟨h1, h2⟩ := putL_nt (live.zip vals) (junkL mod a)
  obtain ⟨h3, h4⟩ := junkL_nt mod a
  exact ⟨h1.trans h3, h2.trans h4⟩

/-- A state that parts from a in the changed temporaries alone is told at the head by what lives. -/
theorem head_less {a b : AAct} {mod : List Tmp} {live : List (Tmp × Sh)} (hb : b.nt = a.nt) (hd : b.defers = a.defers) (ht : ∀ t, t ∉ mod → b.tmp t = a.tmp t) : Less b (headAct a mod (live.map (·.1)) (live.map fun p => b.tmp p.1)) := by
  obtain ⟨h1, h2⟩ := headAct_nt a mod (live.map (·.1)) (live.map fun p => b.tmp p.1)
  refine ⟨h1.trans hb.symm, fun t => ?_, h2.trans hd.symm⟩
  unfold headAct
  rcases putL_tmp ((live.map (·.1)).zip (live.map fun p => b.tmp p.1)) (junkL mod a) t with ⟨p, hp, h3, h4, h5⟩ | ⟨_, h5⟩
  · left
    rw [h5]
    have : ∀ (l : List (Tmp × Sh)), p ∈ (l.map (·.1)).zip (l.map fun p => b.tmp p.1) → p.2 = b.tmp p.1 := by
      intro l
      induction l with
      | nil => intro h; cases h
      | cons q l ih =>
        intro h
        simp only [List.map_cons, List.zip_cons_cons, List.mem_cons] at h
        rcases h with rfl | h
        · rfl
        · exact ih h
    rw [this live hp, h3]
  · rw [h5]
    rcases junkL_tmp mod a t with h | ⟨h, hj⟩
    · by_cases hm : t ∈ mod
      · by_cases hlt : t < a.nt
        · right; exact junkL_mem mod a t hm hlt
        · left
          rw [h]
          have e : ∀ c : AAct, ¬ t < c.nt → c.tmp t = undef := fun c hc => by simp [AAct.tmp, hc]
          rw [e a hlt, e b (by rw [hb]; exact hlt)]
      · left; rw [h, ht t hm]
    · exact .inr hj

theorem wLoop_ok {W : WC} {c : Code} {L : LI} {body : AAct → AHeap → QK → Prop} (ih : ∀ a h Q, body a h Q → Does W.C c a none h (PostC (dsts c) a Q)) {a : AAct} {h : AHeap} {Q : QK} (hw : wLoop L (dsts c) body a h Q) :
    Does W.C (.loop c) a none h (PostC (dsts c) a Q) := by
  unfold wLoop at hw
  split at hw
  · exact wIter_ok ih _ _ _ hw
  · rename_i live I
    obtain ⟨hs, ⟨n, hn⟩, hstep⟩ := req_out hw
    refine Does.loop (Q := PostC (dsts c) a Q) (fun m b u h' => u = none ∧ Fr (dsts c) a b ∧ shsOk (live.map (·.2)) (live.map fun p => b.tmp p.1) = true ∧ I m (live.map fun p => b.tmp p.1) h') ?_ n a none h
      ⟨rfl, Fr.refl _ _, hs, hn.out⟩
    rintro m b u h' ⟨rfl, hfr, hsb, hI⟩
    have hb := allShs_at (hstep m h') _ hsb ⟨hI⟩
    have hl := head_less (a := a) (b := b) (mod := dsts c) (live := live) hfr.nt hfr.defers hfr.tmp
    refine ((ih _ h' _ hb).less hl).mono ?_
    rintro r ⟨hu, hf, hq⟩
    have hra : Fr (dsts c) a r.a := by
      obtain ⟨h1, h2⟩ := headAct_nt a (dsts c) (live.map (·.1)) (live.map fun p => b.tmp p.1)
      refine ⟨hf.nt.trans h1, hf.defers.trans h2, fun t ht => ?_⟩
      rw [hf.tmp t ht]
      rcases hl.tmp t with e | e
      · rw [e]; exact hfr.tmp t ht
      · -- what is not changed is not junked
        unfold headAct at e ⊢
        rcases putL_tmp ((live.map (·.1)).zip (live.map fun p => b.tmp p.1)) (junkL (dsts c) a) t with ⟨p, hp, h3, h4, h5⟩ | ⟨_, h5⟩
        · rw [h5]
          have : ∀ (l : List (Tmp × Sh)), p ∈ (l.map (·.1)).zip (l.map fun p => b.tmp p.1) → p.2 = b.tmp p.1 := by
            intro l
            induction l with
            | nil => intro h; cases h
            | cons q l ih =>
              intro h
              simp only [List.map_cons, List.zip_cons_cons, List.mem_cons] at h
              rcases h with rfl | h
              · rfl
              · exact ih h
          rw [this live hp, h3]; exact hfr.tmp t ht
        · rw [h5]
          rcases junkL_tmp (dsts c) a t with h | ⟨h, _⟩
          · exact h
          · exact absurd h ht
    cases he : r.e with
    | normal =>
      rw [he] at hq
      obtain ⟨hs', m', hm'⟩ := req_out hq
      exact .inl ⟨rfl, m', hm'.out.1, hu, hra, hs', hm'.out.2⟩
    | _ => rw [he] at hq; exact .inr ⟨by simp, hu, hra, by rw [he]; exact hq⟩

theorem wCode_ok {W : WC} (hC : CtxOK W.C) (hro : W.C.ro = none) (hS : SpecOK W) {inv : Nat → AAct → AHeap → LI} : ∀ (c : Code) (a : AAct) (h : AHeap) (Q : QK), wCode W inv c a h Q → Does W.C c a none h (PostC (dsts c) a Q) := by
  intro c
  induction c with
  | skip => intro a h Q hw; exact Does.eval hC (r := ⟨.normal, a, none, h⟩) rfl ⟨rfl, Fr.refl _ _, hw⟩
  | label l => intro a h Q hw; exact Does.eval hC (r := ⟨.normal, a, none, h⟩) rfl ⟨rfl, Fr.refl _ _, hw⟩
  | region id ops draw =>
    intro a h Q hw
    cases draw with
    | true =>
      simp only [wCode, cond, wDraw] at hw
      split at hw
      · rename_i e a' h' hr
        exact Does.eval hC (r := ⟨e, a', none, h'⟩) (by simpa [acode] using hr) ⟨rfl, adraw_fr hr, hw⟩
      · exact hw.elim
    | false =>
      refine (Does.region (wOps_ok hC hro hS _ _ _ hw)).mono ?_
      rintro r ⟨hu, hf, ⟨he, hk⟩ | ⟨ch, he, hk⟩⟩
      · exact ⟨hu, hf, by rw [he]; exact hk⟩
      · exact ⟨hu, hf, by rw [he]; exact hk⟩
  | seq x y ihx ihy =>
    intro a h Q hw
    refine Does.seq ((ihx a h _ hw).mono ?_)
    rintro r ⟨hu, hf, hq⟩
    have hf' : Fr (dsts (.seq x y)) a r.a := hf.mono fun t ht => List.mem_append_left _ ht
    cases he : r.e with
    | normal =>
      rw [he] at hq
      refine .inl ⟨he, ?_⟩
      rw [hu]
      refine (ihy _ _ _ hq).mono ?_
      rintro r2 ⟨hu2, hf2, hq2⟩
      exact ⟨hu2, hf'.trans (hf2.mono fun t ht => List.mem_append_right _ ht), hq2⟩
    | _ => rw [he] at hq; exact .inr ⟨by rw [he]; simp, hu, hf', by rw [he]; exact hq⟩
  | cond c x y ihx ihy =>
    intro a h Q hw
    simp only [wCode] at hw
    split at hw
    case h_2 => exact hw.elim
    rename_i b hb
    cases b with
    | true => exact Does.cond hb ((ihx a h Q hw).mono fun r p => ⟨p.1, p.2.1.mono fun t ht => List.mem_append_left _ ht, p.2.2⟩)
    | false => exact Does.cond hb ((ihy a h Q hw).mono fun r p => ⟨p.1, p.2.1.mono fun t ht => List.mem_append_right _ ht, p.2.2⟩)
  | block id c ih =>
    intro a h Q hw
    refine Does.block ((ih a h _ hw).mono ?_)
    rintro ⟨e, a', u', h'⟩ ⟨hu, hf, hq⟩
    unfold Out
    cases e with
    | exit i =>
      simp only at hq ⊢
      by_cases hi : i = id
      · subst hi
        simp only [if_true]
        simp only [Nat.beq_eq_true_eq, cond] at hq
        refine ⟨hu, hf, ?_⟩
        have : Nat.beq i i = true := by simp
        rw [this] at hq
        exact hq
      · simp only [if_neg hi]
        refine ⟨hu, hf, ?_⟩
        have : Nat.beq i id = false := by
          cases hb : Nat.beq i id with
          | false => rfl
          | true => exact absurd (Nat.eq_of_beq_eq_true hb) hi
        rw [this] at hq
        exact hq
    | _ => exact ⟨hu, hf, hq⟩
  | loop c ih => intro a h Q hw; exact wLoop_ok ih hw
  | exit id => intro a h Q hw; exact Does.eval hC (r := ⟨.exit id, a, none, h⟩) rfl ⟨rfl, Fr.refl _ _, hw⟩
  | ret => intro a h Q hw; exact Does.eval hC (r := ⟨.ret, a, none, h⟩) rfl ⟨rfl, Fr.refl _ _, hw⟩
  | _ => intro a h Q hw; exact hw.elim

/-! ### Functions -/
def wRes (E : Env) (fn : Func) (K : Ending → AHeap → Prop) : QK := fun e a h => match e with
  | .normal => (match aresults E fn a h with | some v => K (.returned v) h | none => False)
  | .ret => (match aresults E fn a h with | some v => K (.returned v) h | none => False)
  | .panic ch => K (.panicked ch) h
  | _ => False
def wFun (W : WC) (inv : Nat → AAct → AHeap → LI) (fn : Func) (args : List Value) (h : AHeap) (K : Ending → AHeap → Prop) : Prop :=
  match fn.body with
  | some c => wCode W inv c (enterAct fn args.toArray) h (wRes W.C.E fn K)
  | none => False

theorem wFun_ok {W : WC} (hC : CtxOK W.C) (hro : W.C.ro = none) (hS : SpecOK W) {inv : Nat → AAct → AHeap → LI} {fn : Func} {args : List Value} {h : AHeap} {K : Ending → AHeap → Prop} (hf : W.C.E.P.funcs[W.C.fid]? = some fn)
    (hw : wFun W inv fn args h K) : CallDoes W.C.E W.C.fid args.toArray h K := by
  unfold wFun at hw
  split at hw
  case h_2 => exact hw.elim
  rename_i c hb
  have t := wCode_ok hC hro hS c _ h _ hw
  have hCe : W.C = { E := W.C.E, fid := W.C.fid, ro := none, call := W.C.call, round := W.C.round, fuel := W.C.fuel } := by
    rw [← hro]
  rw [hCe] at t
  refine CallDoes.of_body hf hb (t.mono ?_)
  rintro ⟨e, a', u', h'⟩ ⟨hu, hfr, hq⟩
  refine ⟨hfr.defers.trans rfl, ?_⟩
  simp only at hq ⊢
  cases e with
  | normal =>
    simp only [wRes] at hq
    split at hq
    · rename_i v hv; exact ⟨v, hv, hq⟩
    · exact hq.elim
  | ret =>
    simp only [wRes] at hq
    split at hq
    · rename_i v hv; exact ⟨v, hv, hq⟩
    · exact hq.elim
  | panic ch => exact hq
  | _ => exact hq.elim
end Go.Eng

set_option linter.unusedVariables false
set_option linter.unusedSimpArgs false
namespace Go.Eng

/-- Values without memory. -/
def flatV : Value → Bool
  | .tuple cs => cs.toList.all flat0
  | .agg cs => cs.toList.all flat0
  | v => flat0 v
theorem VR.flat0_any {β β' : Emb} {v v' : Value} (hf : flat0 v = true) (h : VR β v v') : VR β' v v' := by
  unfold flat0 at hf
  split at hf <;> first | (cases h; constructor; done) | cases hf
theorem flatV_any {β β' : Emb} {v v' : Value} (hf : flatV v = true) (h : VR β v v') : VR β' v v' := by
  have arr : ∀ {cs cs' : Array Value}, cs.toList.all flat0 = true → (∀ (i : Nat) v v', cs[i]? = some v → cs'[i]? = some v' → VR β v v') → ∀ (i : Nat) v v', cs[i]? = some v → cs'[i]? = some v' → VR β' v v' := by
    intro cs cs' hc h i v v' h1 h2
    rw [List.all_eq_true] at hc
    exact VR.flat0_any (hc v (Array.mem_toList_iff.2 (Array.mem_of_getElem? h1))) (h i v v' h1 h2)
  unfold flatV at hf
  split at hf
  · cases h with | tuple _ cs' hs hh => exact .tuple _ _ hs (arr hf hh)
  · cases h with | agg _ cs' hs hh => exact .agg _ _ hs (arr hf hh)
  · exact VR.flat0_any hf h

theorem CallDoes.pure {E : Env} {f : FuncId} {args : List Value} {v : Value} (hgl : ∀ g, E.gl g = false) (hargs : args.all flatV = true) (hv : flatV v = true) (t : CallDoes E f args.toArray heap0 (fun e _ => e = .returned v)) (h : AHeap) :
    CallDoes E f args.toArray h (fun e h' => e = .returned v ∧ h' = h) := by
  intro β w args' H hg ha cs
  have ha0 : ArrR (fun _ => none) args.toArray args' := by
    refine ⟨ha.1, fun i v v' h1 h2 => ?_⟩
    rw [List.all_eq_true] at hargs
    exact flatV_any (hargs v (by simpa using Array.mem_toList_iff.2 (Array.mem_of_getElem? h1))) (ha.2 i v v' h1 h2)
  obtain ⟨e, h1, β', e', w', fr, rfl, H', X, hen, hst, hfn, hl⟩ := t (fun _ => none) w args' (HR.zero _) (fun g hg => by rw [hgl g] at hg; cases hg) ha0 cs
  obtain ⟨x1, x2, x3, x4⟩ := Ext.zero X
  refine ⟨.returned v, h, β, e', w', fr, ⟨rfl, rfl⟩, ?_, ⟨Emb.le_refl _, x1, X.tape, x2, x3, fun C hC _ => hC, fun C hlt _ => x4 C hlt, Nat.le_refl _, fun _ _ hB _ => hB⟩, ?_, hst, hfn, hl⟩
  · refine ⟨fun B e hB => ⟨(H.dom B e hB).1, Nat.lt_of_lt_of_le (H.dom B e hB).2 x3⟩, H.has, fun B e o hB hg hlv => ?_, H.sep, H.mono, H.tip, H.bnd, H.rt, H.b0⟩
    exact (H.con B e o hB hg hlv).move (Emb.le_refl _) (x4 _ (H.dom B e hB).2)
  · cases hen with
    | returned _ v' hv' => exact .returned _ _ (flatV_any hv hv')

/-! ### Tables of contracts -/
abbrev SP := FuncId → List Value → AHeap → (Ending → AHeap → Prop) → Prop
def SPOK (E : Env) (s : SP) : Prop := ∀ f args h K, s f args h K → CallDoes E f args.toArray h K
def sp0 : SP := fun _ _ _ _ => False
def spAdd (f : FuncId) (s : List Value → AHeap → (Ending → AHeap → Prop) → Prop) (r : SP) : SP := fun g args h K => cond (Nat.beq g f) (s args h K) (r g args h K)
theorem sp0_ok (E : Env) : SPOK E sp0 := fun _ _ _ _ h => h.elim
theorem spAdd_ok {E : Env} {f : FuncId} {s : List Value → AHeap → (Ending → AHeap → Prop) → Prop} {r : SP} (h1 : ∀ args h K, s args h K → CallDoes E f args.toArray h K) (h2 : SPOK E r) : SPOK E (spAdd f s r) := by
  intro g args h K hs
  unfold spAdd at hs
  cases hb : Nat.beq g f with
  | true => rw [hb] at hs; rw [Nat.eq_of_beq_eq_true hb]; exact h1 args h K hs
  | false => rw [hb] at hs; exact h2 g args h K hs

/-- A pure function's contract. -/
def pureS (p : List Value → Option Value) : List Value → AHeap → (Ending → AHeap → Prop) → Prop := fun args h K => match p args with
  | some v => K (.returned v) h
  | none => False
theorem pureS_ok {E : Env} {f : FuncId} {p : List Value → Option Value} (hgl : ∀ g, E.gl g = false) (hp : ∀ args v, p args = some v → args.all flatV = true ∧ flatV v = true ∧ CallDoes E f args.toArray heap0 (fun e _ => e = .returned v)) :
    ∀ args h K, pureS p args h K → CallDoes E f args.toArray h K := by
  intro args h K hs
  unfold pureS at hs
  split at hs
  · rename_i v hv
    obtain ⟨h1, h2, h3⟩ := hp args v hv
    exact (CallDoes.pure hgl h1 h2 h3 h).mono fun e h' ⟨he, hh⟩ => by rw [he, hh]; exact hs
  · exact hs.elim

/-! ### Memory -/
section
variable {h h' : AHeap} {B : Nat} {vs : List Value} {t : TypeId} {st fz : Nat} {root : Option Nat}
theorem live_none (h : AHeap) (B : Nat) : h.live B none = true := rfl
theorem rd_of (hg : h.get B = some (.cells vs t st root fz)) (hl : h.live B root = true) (o : Nat) : h.rd B o = vs[o]? := by
  unfold AHeap.rd; rw [hg]; simp only [hl, if_true]
theorem rdN_of (hg : h.get B = some (.cells vs t st root fz)) (hl : h.live B root = true) : ∀ (n o : Nat), o + n ≤ vs.length → h.rdN B o n = some ((vs.drop o).take n) := by
  intro n
  induction n with
  | zero => intro o _; simp [AHeap.rdN]
  | succ n ih =>
    intro o ho
    have hlt : o < vs.length := by omega
    simp only [AHeap.rdN, rd_of hg hl, List.getElem?_eq_getElem hlt, ih (o + 1) (by omega)]
    exact congrArg some (by rw [List.drop_eq_getElem_cons hlt, List.take_succ_cons])
theorem rdN_all (hg : h.get B = some (.cells vs t st root fz)) (hl : h.live B root = true) {n : Nat} (hn : n = vs.length) : h.rdN B 0 n = some vs := by
  rw [rdN_of hg hl n 0 (by omega)]; simp [hn]
theorem wr1_of {o : Nat} {v : Value} (hg : h.get B = some (.cells vs t 0 none fz)) (hf : fz ≠ 2) (ho : o < vs.length) (hs : storable v = true) :
    h.wrN B o [v] = some (h.set B (.cells (vs.set o v) t 0 none fz)) := by
  simp only [AHeap.wrN, AHeap.wr, hg]
  rw [if_pos ⟨trivial, hf, rfl, ho, hs⟩]
theorem get_set_same (h : AHeap) (B : Nat) (o : AObj) : (h.set B o).get B = some o := by rw [AHeap.get_set, if_pos rfl]
theorem get_push_n (h : AHeap) (o : AObj) : (h.push o).get h.n = some o := by rw [AHeap.get_push, if_pos rfl]
theorem lv_push (h : AHeap) (o : AObj) : (h.push o).lv = h.lv := rfl
theorem lv_set (h : AHeap) (B : Nat) (o : AObj) : (h.set B o).lv = h.lv := rfl
end

/-! ### Bytes -/
def bV (c : UInt8) : Value := .int .u8 (c.toNat : Int)
def bVs (l : List UInt8) : List Value := l.map bV
theorem bytesOf_mk (l : List UInt8) : bytesOf ⟨⟨l⟩⟩ = bVs l := rfl
theorem unbytes_bVs : ∀ l : List UInt8, unbytes (bVs l) = some l := by
  intro l
  induction l with
  | nil => rfl
  | cons c l ih =>
    show (match unbytes (bVs l) with | some r => some (UInt8.ofNat (c.toNat : Int).toNat :: r) | none => none) = _
    rw [ih]
    simp
@[simp] theorem bVs_length (l : List UInt8) : (bVs l).length = l.length := by simp [bVs]
theorem bVs_get {l : List UInt8} {i : Nat} (hi : i < l.length) : (bVs l)[i]? = some (bV l[i]) := by simp [bVs, hi]
theorem bVs_set (l : List UInt8) (i : Nat) (c : UInt8) : (bVs l).set i (bV c) = bVs (l.set i c) := by simp [bVs, List.map_set]
theorem bVs_append (l m : List UInt8) : bVs l ++ bVs m = bVs (l ++ m) := by simp [bVs]
theorem byteAt_of {l : List UInt8} {i : Nat} (hi : i < l.length) : byteAt l (i : Int) = ((l[i]).toNat : Int) := by simp [byteAt, hi]

theorem conv_str {P : Program} {s d e : TypeId} {h : AHeap} {B n : Nat} {l : List UInt8} {t : TypeId} {st fz : Nat} {root : Option Nat} (h1 : P.underlying s = some (.slice e)) (h2 : P.underlying d = some .string) (h3 : P.underlying e = some (.int .u8))
    (hg : h.get B = some (.cells (bVs l) t st root fz)) (hl : h.live B root = true) (hn : n = l.length) (esz : Nat) : aconv P s d (.slice (some ⟨B, 0, none⟩) n esz) h = some (.string ⟨⟨l⟩⟩, h) := by
  simp only [aconv, h1, h2, h3, rdN_all hg hl (n := n) (by simp [hn]), unbytes_bVs]
theorem conv_str_nil {P : Program} {s d e : TypeId} {h : AHeap} {n : Nat} (h1 : P.underlying s = some (.slice e)) (h2 : P.underlying d = some .string) (h3 : P.underlying e = some (.int .u8)) (esz : Nat) :
    aconv P s d (.slice none n esz) h = some (.string ⟨⟨[]⟩⟩, h) := by
  simp only [aconv, h1, h2, h3]
end Go.Eng

set_option linter.unusedVariables false
set_option linter.unusedSimpArgs false
namespace Go.Eng

theorem live_nil {h : AHeap} (hl : h.lv = .nil) (B : Nat) (root : Option Nat) : h.live B root = true := by
  cases root with
  | none => rfl
  | some r => simp [AHeap.live, hl, Tr.get]

/-- What the type table says of a slice of elements of one cell. -/
structure One (P : Program) (ts : Array TypeId) (elem : TypeId) : Prop where
  sl : ∃ st, ts[0]? = some st ∧ P.underlying st = some (.slice elem)
  info : ∃ i z, P.info? elem = some i ∧ i.zero = some z ∧ z.cells.size = i.size ∧ i.size = 1 ∧ i.bytes ≤ 64
  ni : notInt P ts = true

variable {P : Program} {ts : Array TypeId} {elem : TypeId} {h : AHeap} {v : Value}

theorem src_one (B : Nat) (v : Value) (t : TypeId) (h : AHeap) (hl : h.lv = .nil) (hg : h.get B = some (.cells [v] t 0 none 0)) : h.src 1 (.slice (some ⟨B, 0, none⟩) 1 1) = some ([v], 1) := by
  unfold AHeap.src
  simp only [ne_eq, Nat.one_ne_zero, not_false_eq_true, and_self, if_true, Nat.mul_one, rdN_of hg (live_nil hl _ _) 1 0 (by simp)]
  rfl

theorem fits_small {n b : Nat} (hn : n ≤ 1073741824) (hb : b ≤ 64) : fitsApp n b = true := by
  have : n * b ≤ 1073741824 * 64 := Nat.mul_le_mul hn hb
  simp only [fitsApp, Bool.and_eq_true, decide_eq_true_eq]
  omega

theorem append1_nil (o : One P ts elem) (hl : h.lv = .nil) (hs : storable v = true) :
    aappend P ts (.slice none 0 0) (.slice (some ⟨h.n, 0, none⟩) 1 1) (h.push (.cells [v] elem 0 none 0)) =
      some (.slice (some ⟨h.n + 1, 0, none⟩) 1 1, (h.push (.cells [v] elem 0 none 0)).push (.cells [v] elem 0 none 0)) := by
  obtain ⟨⟨st, h1, h2⟩, ⟨i, z, h3, h4, h5, h6, h7⟩, h8⟩ := o
  unfold aappend
  have hsrc : (h.push (.cells [v] elem 0 none 0)).src i.size (.slice (some ⟨h.n, 0, none⟩) 1 1) = some ([v], 1) := by
    rw [h6]; exact src_one h.n v elem _ hl (get_push_n _ _)
  simp only [h1, h2, h3, h4, h5, h8, and_self, if_true, hsrc, List.all_cons, hs, List.all_nil, Bool.and_self, Nat.one_ne_zero, if_false, fits_small (n := 1) (by omega) h7, AHeap.n_push]
  rw [h6]

theorem append1_some (o : One P ts elem) (hl : h.lv = .nil) (hs : storable v = true) {B len : Nat} {vs : List Value} {root : Option Nat} {fz : Nat} (hB : B < h.n) (hg : h.get B = some (.cells vs elem 0 root fz)) (hlen : vs.length = len) (hle : len ≤ 1073741823) :
    aappend P ts (.slice (some ⟨B, 0, none⟩) len 1) (.slice (some ⟨h.n, 0, none⟩) 1 1) (h.push (.cells [v] elem 0 none 0)) =
      some (.slice (some ⟨h.n + 1, 0, none⟩) (len + 1) 1, ((h.push (.cells [v] elem 0 none 0)).set B (.cells vs elem 1 (some (root.getD B)) fz)).push (.cells (vs ++ [v]) elem 0 (some (root.getD B)) fz)) := by
  obtain ⟨⟨st, h1, h2⟩, ⟨i, z, h3, h4, h5, h6, h7⟩, h8⟩ := o
  unfold aappend
  have hsrc : (h.push (.cells [v] elem 0 none 0)).src 1 (.slice (some ⟨h.n, 0, none⟩) 1 1) = some ([v], 1) := src_one h.n v elem _ hl (get_push_n _ _)
  have hg2 : (h.push (.cells [v] elem 0 none 0)).get B = some (.cells vs elem 0 root fz) := by rw [AHeap.get_push, if_neg (by omega)]; exact hg
  have hlive : (h.push (.cells [v] elem 0 none 0)).live B root = true := live_nil hl _ _
  simp only [h1, h2, h3, h4, h5, h8, and_self, if_true, hsrc, List.all_cons, hs, List.all_nil, Bool.and_self, Nat.one_ne_zero, if_false, h6, fits_small (n := len + 1) (by omega) h7]
  unfold AHeap.app
  rw [hg2]
  simp only [hlive, hlen, Nat.zero_add, Nat.mul_one, and_self, if_true, AHeap.n_push, List.drop_zero]
end Go.Eng

