/- The evaluator, part 3: regions that draw their order; code from states of which not all is known. No condition. -/
import Derived.Test.YtejcbkhhnibnaaaGreatDoorEng2b
import Derived.Laws.Externs
set_option linter.unusedVariables false
set_option linter.unusedSimpArgs false
namespace Go.Eng
variable {P : Program}

/-- A block of cells is laid at the world's end. -/
def Raw (P : Program) (β : Emb) (w : World) (s : Sem Value) (xs : List Value) (t : TypeId) (B : Nat) (r : Value) : Prop :=
  ∃ l' v', LsR β xs l' ∧ s.run P w = .ok v' (w.alloc (.cells (l'.toArray ++ #[]) t)) ∧ ∀ β' : Emb, β' B = some ⟨w.heap.size, 0, l'.length + (#[] : Array Value).size⟩ → VR β' r v'

theorem alloc_raw {β : Emb} {h h' : AHeap} {w : World} {t : TypeId} {r : Value} (ha : aalloc P t h = some (r, h')) : ∃ xs t', h' = h.push (.cells xs t' 0 none 0) ∧ Raw P β w (Instr.alloc t true (.tuple #[])) xs t' h.n r := by
  unfold aalloc at ha
  split at ha
  case h_2 => cases ha
  rename_i i hi
  split at ha
  case h_2 => cases ha
  rename_i z hz
  split at ha
  case isFalse => cases ha
  rename_i hf
  cases ha
  refine ⟨_, _, rfl, _, .pointer (some ⟨w.heap.size, 0, none⟩), LsR.flat hf, ?_, (fun β' hb => ?_)⟩
  · simp only [Instr.alloc, Sem.run_bind, run_zero hi hz, Result.andThen_ok, newVar, newRow, run_newObj, Sem.run_pure]
    simp
  · have := VR.ptr (β := β') h.n 0 _ hb
    simpa using this

theorem box_raw {β : Emb} {h h' : AHeap} {w : World} {t : TypeId} {v v' r : Value} (ha : abox t v h = some (r, h')) (hv : VR β v v') : ∃ xs t', h' = h.push (.cells xs t' 0 none 0) ∧ Raw P β w (Instr.box t v') xs t' h.n r := by
  unfold abox at ha
  split at ha
  case isTrue => cases ha
  rename_i hj
  cases ha
  refine ⟨_, _, rfl, _, .pointer (some ⟨w.heap.size, 0, none⟩), hv.cells (ne_junk (by simpa using hj)), ?_, (fun β' hb => ?_)⟩
  · simp only [Instr.box, Sem.run_bind, Result.andThen_ok, newVar, newRow, run_newObj, Sem.run_pure]
    simp
  · have := VR.ptr (β := β') h.n 0 _ hb
    simpa using this

theorem buildSlice_raw {β : Emb} {h h' : AHeap} {w : World} {t : TypeId} {len : Nat} {parts : List (Nat × Value)} {parts' : Array (Nat × Value)} {r : Value}
    (hb : abuildSlice P t len parts h = some (r, h')) (hl : parts.length = parts'.size) (hp : ∀ (i : Nat) x x', parts[i]? = some x → parts'[i]? = some x' → x.1 = x'.1 ∧ VR β x.2 x'.2) :
    ∃ xs t', h' = h.push (.cells xs t' 0 none 0) ∧ Raw P β w (Instr.buildSlice t len parts') xs t' h.n r := by
  unfold abuildSlice at hb
  split at hb
  case h_2 => cases hb
  rename_i elem hu
  split at hb
  case h_2 => cases hb
  rename_i i hi
  split at hb
  case h_2 => cases hb
  rename_i z hz
  split at hb
  case isFalse => cases hb
  rename_i hc
  obtain ⟨hf, hzs, hbig⟩ := hc
  split at hb
  case h_2 => cases hb
  rename_i cs hcs
  split at hb
  case isFalse => cases hb
  rename_i hcl
  cases hb
  have hne : len * i.size ≠ 0 → z.cells.size ≠ 0 := by intro h1 h2; rw [hzs] at h2; rw [h2] at h1; simp at h1
  obtain ⟨r', q1, q2⟩ := fill_ok (β := β) (parts' := parts'.toList) (cells' := ((Array.range (len * i.size)).map (fun k => z.cells[k % z.cells.size]!))) (by simpa using hl) (fun k x x' h1 h2 => hp k x x' h1 (by simpa using h2))
    (by rw [zeros_eq z _ hne]; exact LsR.flat (zeros_flat hf (by simpa using hne))) hcs
  have hrl : r'.size = len * i.size := by have := q2.length; simp at this; omega
  refine ⟨_, _, rfl, r'.toList, .slice (some ⟨w.heap.size, 0, none⟩) len len, q2, ?_, (fun β' hb => ?_)⟩
  · simp only [Instr.buildSlice, Sem.run_bind, run_underlying hu, Result.andThen_ok, run_size hi]
    rw [if_neg (by omega)]
    by_cases h0 : len * i.size = 0
    · rw [if_pos h0]
      have e : ((Array.range (len * i.size)).map (fun k => z.cells[k % z.cells.size]!)) = ((Array.range (len * i.size)).map (fun k => (#[] : Array Value)[k % (#[] : Array Value).size]!)) := by
        rw [h0]; simp
      rw [e] at q1
      simp only [Sem.run_pure, Result.andThen_ok, q1, newRow, Sem.run_bind, run_newObj]
      simp
    · rw [if_neg h0]
      simp only [Sem.run_bind, run_zero hi hz, Result.andThen_ok, Sem.run_pure, q1, newRow, run_newObj]
      simp
  · have := VR.slc (β := β') h.n 0 len i.size _ len hb (Nat.le_refl _) (by simp; omega)
    simpa using this

theorem op_raw {E : Env} {β : Emb} {h h' : AHeap} {w : World} (hg : GlR E.gl β) {a : AAct} {a' : Act} (ha : ActR β a a') {ro : Option Nat} {o : Oper} {r : Value} (hk : akind o = true)
    (hc : aop E a ro.isSome o h = some (.val r h')) : ∃ xs t l' v', h' = h.push (.cells xs t 0 none 0) ∧ LsR β xs l' ∧ (o.semAt ro a'.eval).run E.P w = .ok (.value v') (w.alloc (.cells (l'.toArray ++ #[]) t)) ∧
      ∀ β' : Emb, β' h.n = some ⟨w.heap.size, 0, l'.length + (#[] : Array Value).size⟩ → VR β' r v' := by
  have hev := fun x => ev_ok hg ha x
  have hsem : (∀ c, o.op ≠ .defer c) → o.semAt ro a'.eval = execOp a'.eval o := Oper.semAt_eq ro a'.eval o
  have fin : ∀ {s : Sem Value} {xs : List Value} {t : TypeId}, h' = h.push (.cells xs t 0 none 0) → Raw E.P β w s xs t h.n r → (o.semAt ro a'.eval).run E.P w = (do pure (.value (← s)) : Sem Next).run E.P w →
      ∃ xs t l' v', h' = h.push (.cells xs t 0 none 0) ∧ LsR β xs l' ∧ (o.semAt ro a'.eval).run E.P w = .ok (.value v') (w.alloc (.cells (l'.toArray ++ #[]) t)) ∧
      ∀ β' : Emb, β' h.n = some ⟨w.heap.size, 0, l'.length + (#[] : Array Value).size⟩ → VR β' r v' := by
    intro s xs t hh hr hs
    obtain ⟨l', v', h1, h2, h3⟩ := hr
    refine ⟨xs, t, l', v', hh, h1, ?_, h3⟩
    rw [hs]
    simp only [Sem.run_bind, h2, Result.andThen_ok, Sem.run_pure]
  have vhInv : ∀ {x : Option (Value × AHeap)}, (match x with | some (x, h') => some (AOut.val x h') | none => none) = some (.val r h') → x = some (r, h') := by
    intro x hx
    cases x with
    | none => cases hx
    | some p => obtain ⟨p1, p2⟩ := p; cases hx; rfl
  unfold akind at hk
  rw [aop_def] at hc
  unfold aopBig at hc
  split at hk
  case h_4 => cases hk
  · rename_i t hop
    have hs := hsem (by rw [hop]; intro c h; cases h)
    simp only [hop] at hc
    obtain ⟨xs, t', h1, h2⟩ := alloc_raw (β := β) (w := w) (vhInv hc)
    exact fin h1 h2 (by rw [hs]; simp only [execOp, hop])
  · rename_i t x hop
    have hs := hsem (by rw [hop]; intro c h; cases h)
    simp only [hop] at hc
    obtain ⟨xs, t', h1, h2⟩ := box_raw (P := E.P) (w := w) (vhInv hc) (hev x)
    exact fin h1 h2 (by rw [hs]; simp only [execOp, hop])
  · rename_i t n ps hop
    have hs := hsem (by rw [hop]; intro c h; cases h)
    simp only [hop] at hc
    obtain ⟨xs, t', h1, h2⟩ := buildSlice_raw (w := w) (vhInv hc) (pairs_ev hg ha ps).1 (pairs_ev hg ha ps).2
    exact fin h1 h2 (by rw [hs]; simp only [execOp, hop])

/-! ### Memory told ahead -/
/-- A block of which the machine has none yet. -/
theorem HR.push0 {β : Emb} {h : AHeap} {hp : Array Obj} (H : HR β h hp) (o : AObj) (hr : o.root = none) : HR β (h.push o) hp := by
  have hget : ∀ B, B < h.n → (h.push o).get B = h.get B := fun B hB => by rw [AHeap.get_push, if_neg (Nat.ne_of_lt hB)]
  have hbnd : ∀ B o1, (h.push o).get B = some o1 → (B = h.n ∧ o1 = o) ∨ (B < h.n ∧ h.get B = some o1) := by
    intro B o1 hB
    rw [AHeap.get_push] at hB
    split at hB
    · cases hB; exact .inl ⟨‹_›, rfl⟩
    · exact .inr ⟨H.bnd _ _ hB, hB⟩
  refine ⟨?_, ?_, ?_, ?_, ?_, ?_, ?_, ?_, ?_⟩
  · intro B e hB; have := H.dom B e hB; simp; omega
  · intro B e hB; rw [hget B (H.dom B e hB).1]; exact H.has B e hB
  · intro B e o1 hB hg hl; rw [hget B (H.dom B e hB).1] at hg; exact H.con B e o1 hB hg (by simpa using hl)
  · intro B1 B2 e1 e2 o1 o2 h1 h2 g1 g2; rw [hget _ (H.dom _ _ h1).1] at g1; rw [hget _ (H.dom _ _ h2).1] at g2; exact H.sep B1 B2 e1 e2 o1 o2 h1 h2 g1 g2
  · intro B1 B2 e1 e2 o1 o2 r h1 h2 g1 g2; rw [hget _ (H.dom _ _ h1).1] at g1; rw [hget _ (H.dom _ _ h2).1] at g2; exact H.mono B1 B2 e1 e2 o1 o2 r h1 h2 g1 g2
  · intro B1 B2 o1 o2 r g1 g2 hlt r1 r2
    rcases hbnd B2 o2 g2 with ⟨rfl, rfl⟩ | ⟨b1, b2⟩
    · rw [hr] at r2; cases r2
    · rcases hbnd B1 o1 g1 with ⟨rfl, rfl⟩ | ⟨a1, a2⟩
      · omega
      · exact H.tip B1 B2 o1 o2 r a2 b2 hlt r1 r2
  · intro B o1 hB
    rcases hbnd B o1 hB with ⟨rfl, _⟩ | ⟨b1, _⟩
    · simp
    · simp; omega
  · intro B o1 r hB hroot
    rcases hbnd B o1 hB with ⟨rfl, rfl⟩ | ⟨b1, b2⟩
    · rw [hr] at hroot; cases hroot
    · obtain ⟨y, h1, h2⟩ := H.rt B o1 r b2 hroot
      exact ⟨y, by rw [hget r (H.bnd _ _ h1)]; exact h1, h2⟩
  · intro B e o1 hB hg; rw [hget B (H.dom B e hB).1] at hg; exact H.b0 B e o1 hB hg

theorem Ext.push0 {β0 β : Emb} {h0 h : AHeap} {w0 w : World} (X : Ext β0 h0 w0 β h w) (H : HR β h w.heap) (o : AObj) : Ext β0 h0 w0 β (h.push o) w := by
  refine ⟨X.le, X.os, X.tape, X.output, X.size, ?_, X.keep, by have := X.n; simp; omega, X.new⟩
  rintro C ⟨B, e, o1, hB, rfl, hg, hst⟩ hlt
  rw [AHeap.get_push, if_neg (Nat.ne_of_lt (H.dom B e hB).1)] at hg
  exact X.own _ ⟨B, e, o1, hB, rfl, hg, hst⟩ hlt

/-- A block that was told ahead is laid. -/
theorem HR.late {β : Emb} {h : AHeap} {w : World} (H : HR β h w.heap) {B : Nat} {xs l' : List Value} {t : TypeId} (hB : β B = none) (hg : h.get B = some (.cells xs t 0 none 0)) (hl : LsR β xs l') :
    HR (β.upd B ⟨w.heap.size, 0, l'.length + (#[] : Array Value).size⟩) h (w.alloc (.cells (l'.toArray ++ #[]) t)).heap := by
  have hle : Emb.le β (β.upd B ⟨w.heap.size, 0, l'.length + (#[] : Array Value).size⟩) := Emb.le_upd hB
  have hbn := H.bnd _ _ hg
  have hsz : (w.alloc (.cells (l'.toArray ++ #[]) t)).heap.size = w.heap.size + 1 := by simp
  have hold : ∀ X e, (β.upd B ⟨w.heap.size, 0, l'.length + (#[] : Array Value).size⟩) X = some e → (X = B ∧ e = ⟨w.heap.size, 0, l'.length + (#[] : Array Value).size⟩) ∨ (X ≠ B ∧ β X = some e ∧ e.c < w.heap.size) := by
    intro X e hX
    by_cases hXB : X = B
    · subst hXB; rw [Emb.upd_same] at hX; cases hX; exact .inl ⟨rfl, rfl⟩
    · rw [Emb.upd_other _ _ hXB] at hX; exact .inr ⟨hXB, hX, (H.dom _ _ hX).2⟩
  refine ⟨?_, ?_, ?_, ?_, ?_, H.tip, H.bnd, H.rt, ?_⟩
  · intro X e hX
    rcases hold X e hX with ⟨rfl, rfl⟩ | ⟨h1, h2, h3⟩
    · rw [hsz]; simp; omega
    · rw [hsz]; have := H.dom X e h2; omega
  · intro X e hX
    rcases hold X e hX with ⟨rfl, rfl⟩ | ⟨h1, h2, h3⟩
    · exact ⟨_, hg⟩
    · exact H.has X e h2
  · intro X e o1 hX hgx hlv
    rcases hold X e hX with ⟨rfl, rfl⟩ | ⟨h1, h2, h3⟩
    · rw [hg] at hgx
      cases hgx
      refine OR.newCells (hl.mono hle) ?_
      exact World.alloc_heap_new _ _
    · refine (H.con X e o1 h2 hgx hlv).move hle ?_
      show (w.heap.push _)[e.c]? = _
      rw [Array.getElem?_push, if_neg (Nat.ne_of_lt h3)]
  · intro B1 B2 e1 e2 o1 o2 h1 h2 g1 g2 hne hc
    rcases hold B1 e1 h1 with ⟨rfl, rfl⟩ | ⟨a1, a2, a3⟩
    · rcases hold B2 e2 h2 with ⟨rfl, rfl⟩ | ⟨b1, b2, b3⟩
      · exact absurd rfl hne
      · simp at hc; omega
    · rcases hold B2 e2 h2 with ⟨rfl, rfl⟩ | ⟨b1, b2, b3⟩
      · simp at hc; omega
      · exact H.sep B1 B2 e1 e2 o1 o2 a2 b2 g1 g2 hne hc
  · intro B1 B2 e1 e2 o1 o2 r h1 h2 g1 g2 hlt hc r1 r2
    rcases hold B1 e1 h1 with ⟨rfl, rfl⟩ | ⟨a1, a2, a3⟩
    · rcases hold B2 e2 h2 with ⟨rfl, rfl⟩ | ⟨b1, b2, b3⟩
      · omega
      · simp at hc; omega
    · rcases hold B2 e2 h2 with ⟨rfl, rfl⟩ | ⟨b1, b2, b3⟩
      · simp at hc; omega
      · exact H.mono B1 B2 e1 e2 o1 o2 r a2 b2 g1 g2 hlt hc r1 r2
  · intro X e o1 hX hgx hroot hst
    rcases hold X e hX with ⟨rfl, rfl⟩ | ⟨h1, h2, h3⟩
    · rfl
    · exact H.b0 X e o1 h2 hgx hroot hst

theorem Ext.late {β0 β : Emb} {h0 h : AHeap} {w0 w : World} (X : Ext β0 h0 w0 β h w) {B : Nat} {e : Em} (hB : β B = none) (hc : e.c = w.heap.size) (hn : h0.n ≤ B) (o : Obj) : Ext β0 h0 w0 (β.upd B e) h (w.alloc o) := by
  refine ⟨Emb.le_trans X.le (Emb.le_upd hB), X.os, X.tape, X.output, by have := X.size; simp; omega, ?_, ?_, X.n, ?_⟩
  · rintro C ⟨Y, ey, oy, hY, rfl, hgy, hsy⟩ hlt
    by_cases hYB : Y = B
    · subst hYB; rw [Emb.upd_same] at hY; cases hY
      have := X.size
      omega
    · rw [Emb.upd_other _ _ hYB] at hY
      exact X.own _ ⟨Y, ey, oy, hY, rfl, hgy, hsy⟩ hlt
  · intro C hlt hno
    show (w.heap.push o)[C]? = _
    rw [Array.getElem?_push, if_neg (by have := X.size; omega)]
    exact X.keep C hlt hno
  · intro Y ey hY hlt
    rw [Emb.upd_other _ _ (by omega)] at hY
    exact X.new Y ey hY hlt
end Go.Eng

set_option linter.unusedVariables false
set_option linter.unusedSimpArgs false
namespace Go.Eng

/-- Operation i waits for nothing but X. -/
def Ready (ops : Array Oper) (X : List Nat) (i : Nat) : Prop := ∀ o, ops[i]? = some o → ∀ e ∈ o.after.toList, Region.binds .any e = true → e.on ∈ X
/-- An order of what is not in X. -/
def Good (ops : Array Oper) : List Nat → List Nat → Prop
  | X, [] => ∀ i, i < ops.size → i ∈ X
  | X, i :: l => i < ops.size ∧ i ∉ X ∧ Ready ops X i ∧ Good ops (i :: X) l
def Closed (ops : Array Oper) (X : List Nat) : Prop := ∀ i ∈ X, Ready ops X i

theorem Closed.cons {ops : Array Oper} {X : List Nat} {i : Nat} (h : Closed ops X) (hr : Ready ops X i) : Closed ops (i :: X) := by
  intro j hj o ho e he hb
  rcases List.mem_cons.1 hj with rfl | hj
  · exact List.mem_cons_of_mem _ (hr o ho e he hb)
  · exact List.mem_cons_of_mem _ (h j hj o ho e he hb)

theorem Good.congr {ops : Array Oper} : ∀ {l X Y : List Nat}, (∀ i, i ∈ X ↔ i ∈ Y) → Good ops X l → Good ops Y l := by
  intro l
  induction l with
  | nil => intro X Y h g i hi; exact (h i).1 (g i hi)
  | cons i l ih =>
    intro X Y h g
    obtain ⟨h1, h2, h3, h4⟩ := g
    refine ⟨h1, fun hc => h2 ((h i).2 hc), fun o ho e he hb => (h _).1 (h3 o ho e he hb), ih (fun j => by simp [h j]) h4⟩

def back (ops : Array Oper) : Prop := ∀ i o, ops[i]? = some o → ∀ e ∈ o.after.toList, Region.binds .any e = true → e.on < i

theorem go_good {ops : Array Oper} (hb : back ops) : ∀ (fuel t : Nat) (listed : Array Bool) (acc X : List Nat), listed.size = ops.size → (∀ i, i < ops.size → (listed.getD i true = true ↔ i ∈ X)) → (∀ i ∈ X, i < ops.size) →
    ((List.range ops.size).filter fun i => !listed.getD i true).length = fuel → ∃ l, Region.linearise.go .any ops fuel t listed acc = acc.reverse ++ l ∧ Good ops X l := by
  intro fuel
  induction fuel with
  | zero =>
    intro t listed acc X hs hl hX hf
    refine ⟨[], by simp [Region.linearise.go], fun i hi => ?_⟩
    have := List.length_eq_zero_iff.1 hf
    rw [List.filter_eq_nil_iff] at this
    have := this i (by simpa using hi)
    exact (hl i hi).1 (by simpa using this)
  | succ fuel ih =>
    intro t listed acc X hs hl hX hf
    simp only [Region.linearise.go]
    generalize hrs : ((List.range ops.size).filter fun i => !listed.getD i true && ((ops[i]?).map fun x => x.after.all fun e => !Region.binds .any e || listed.getD e.on false).getD false) = rs
    have hmem : ∀ i, i ∈ rs ↔ i < ops.size ∧ i ∉ X ∧ Ready ops X i := by
      intro i
      rw [← hrs]
      simp only [List.mem_filter, List.mem_range, Bool.and_eq_true, Bool.not_eq_true']
      constructor
      · rintro ⟨h1, h2, h3⟩
        refine ⟨h1, (fun hc => (by rw [(hl i h1).2 hc] at h2; cases h2)), fun o ho e he hbb => ?_⟩
        rw [ho] at h3
        simp only [Option.map_some, Option.getD_some, Array.all_eq_true'] at h3
        have := h3 e (by simpa using he)
        rw [hbb] at this
        simp only [Bool.not_true, Bool.false_or] at this
        have hon : e.on < ops.size := Nat.lt_trans (hb i o ho e he hbb) h1
        refine (hl _ hon).1 ?_
        rw [Array.getD_eq_getD_getElem?] at this ⊢
        cases hx : listed[e.on]? with
        | none => simp
        | some b => rw [hx] at this; simpa using this
      · rintro ⟨h1, h2, h3⟩
        refine ⟨h1, ?_, ?_⟩
        · cases hx : listed.getD i true with
          | true => exact absurd ((hl i h1).1 hx) h2
          | false => rfl
        · have ho : ops[i]? = some ops[i] := Array.getElem?_eq_getElem h1
          rw [ho]
          simp only [Option.map_some, Option.getD_some, Array.all_eq_true']
          intro e he
          cases hbb : Region.binds .any e with
          | false => simp
          | true =>
            simp only [Bool.not_true, Bool.false_or]
            have hin := h3 _ ho e (by simpa using he) hbb
            have := (hl _ (hX _ hin)).2 hin
            rw [Array.getD_eq_getD_getElem?] at this ⊢
            have hlt : e.on < listed.size := by rw [hs]; exact hX _ hin
            rw [Array.getElem?_eq_getElem hlt] at this ⊢
            simpa using this
    have hne : rs ≠ [] := by
      have hpos : 0 < ((List.range ops.size).filter fun i => !listed.getD i true).length := by rw [hf]; omega
      -- the smallest that is not in X is ready
      have key : ∀ n, (∃ i, i < n ∧ i < ops.size ∧ i ∉ X) → ∃ i, i < ops.size ∧ i ∉ X ∧ Ready ops X i := by
        intro n
        induction n with
        | zero => rintro ⟨i, h, _⟩; omega
        | succ n ihn =>
          rintro ⟨i, h1, h2, h3⟩
          by_cases hlt : ∃ j, j < n ∧ j < ops.size ∧ j ∉ X
          · exact ihn hlt
          · have hin : i = n := by
              rcases Nat.lt_or_ge i n with h | h
              · exact absurd ⟨i, h, h2, h3⟩ hlt
              · omega
            subst hin
            refine ⟨i, h2, h3, fun o ho e he hbb => ?_⟩
            have hlt2 := hb i o ho e he hbb
            by_cases hex : e.on ∈ X
            · exact hex
            · exact absurd ⟨e.on, hlt2, Nat.lt_trans hlt2 h2, hex⟩ hlt
      obtain ⟨x, hx⟩ := List.exists_mem_of_length_pos hpos
      simp only [List.mem_filter, List.mem_range, Bool.not_eq_true'] at hx
      obtain ⟨i, h1, h2, h3⟩ := key (x + 1) ⟨x, by omega, hx.1, fun hc => by rw [(hl x hx.1).2 hc] at hx; cases hx.2⟩
      intro hnil
      have := (hmem i).2 ⟨h1, h2, h3⟩
      rw [hnil] at this
      cases this
    have hlt : t % rs.length < rs.length := Nat.mod_lt _ (by cases rs with | nil => exact absurd rfl hne | cons => simp)
    rw [List.getElem?_eq_getElem hlt]
    simp only
    generalize hi : rs[t % rs.length] = i
    have him : i ∈ rs := hi ▸ List.getElem_mem hlt
    obtain ⟨h1, h2, h3⟩ := (hmem i).1 him
    have hget : ∀ j, (listed.setIfInBounds i true).getD j true = (if j = i then true else listed.getD j true) := by
      intro j
      rw [Array.getD_eq_getD_getElem?, Array.getD_eq_getD_getElem?, Array.getElem?_setIfInBounds]
      by_cases hji : j = i
      · subst hji; simp [hs, h1]
      · simp [hji, Ne.symm hji]
    obtain ⟨l, hl1, hl2⟩ := ih (t / rs.length) (listed.setIfInBounds i true) (i :: acc) (i :: X) (by simpa using hs) (fun j hj => by
        rw [hget]
        by_cases hji : j = i
        · simp [hji]
        · simp only [hji, if_false, List.mem_cons, false_or]; exact hl j hj) (fun j hj => by
        rcases List.mem_cons.1 hj with rfl | hj
        · exact h1
        · exact hX j hj) (by
        have hcount : ∀ (L : List Nat), L.Nodup → i ∈ L → (L.filter fun j => !(listed.setIfInBounds i true).getD j true).length + 1 = (L.filter fun j => !listed.getD j true).length := by
          intro L
          induction L with
          | nil => intro _ h; cases h
          | cons a L ihL =>
            intro hnd hin
            rw [List.nodup_cons] at hnd
            by_cases hai : a = i
            · subst hai
              have e1 : (!(listed.setIfInBounds a true).getD a true) = false := by rw [hget]; simp
              have e2 : (!listed.getD a true) = true := by
                cases hx : listed.getD a true with
                | true => exact absurd ((hl a h1).1 hx) h2
                | false => rfl
              rw [List.filter_cons_of_neg (by rw [e1]; simp), List.filter_cons_of_pos (by rw [e2])]
              simp only [List.length_cons]
              congr 2
              refine List.filter_congr fun j hj => ?_
              rw [hget, if_neg (fun (hc : j = a) => hnd.1 (hc ▸ hj))]
            · have hin' : i ∈ L := by
                rcases List.mem_cons.1 hin with h | h
                · exact absurd h.symm hai
                · exact h
              have := ihL hnd.2 hin'
              have e1 : (listed.setIfInBounds i true).getD a true = listed.getD a true := by rw [hget, if_neg hai]
              by_cases hla : listed.getD a true = true
              · rw [List.filter_cons_of_neg (by rw [e1, hla]; simp), List.filter_cons_of_neg (by rw [hla]; simp)]
                exact this
              · rw [List.filter_cons_of_pos (by rw [e1]; simpa using hla), List.filter_cons_of_pos (by simpa using hla)]
                simp only [List.length_cons]
                omega
        have := hcount (List.range ops.size) List.nodup_range (by simpa using h1)
        omega)
    refine ⟨i :: l, by rw [hl1]; simp, h1, h2, h3, hl2⟩

theorem schedule_good {ops : Array Oper} (hb : back ops) (t : Nat) : Good ops [] (Region.schedule true ops t) := by
  unfold Region.schedule
  simp only [Bool.true_or, if_true]
  unfold Region.linearise
  obtain ⟨l, h1, h2⟩ := go_good hb ops.size t (Array.replicate ops.size false) [] [] (by simp) (fun i hi => by simp [Array.getD_eq_getD_getElem?, hi]) (fun i hi => by cases hi) (by
    have : (List.range ops.size).filter (fun i => !(Array.replicate ops.size false).getD i true) = List.range ops.size := by
      rw [List.filter_eq_self]
      intro i hi
      have : i < ops.size := by simpa using hi
      simp [Array.getD_eq_getD_getElem?, this]
    rw [this]; simp)
  rw [h1]
  simpa using h2

/-! ### What hangs on what -/
theorem testBit_foldl (acc : List Nat) (k : Nat) : ∀ (l : List Edge) (s : Nat), (l.foldl (fun s e => if Region.binds .any e then s ||| (2 ^ e.on ||| acc.getD e.on 0) else s) s).testBit k = true ↔
    (s.testBit k = true ∨ ∃ e ∈ l, Region.binds .any e = true ∧ (e.on = k ∨ (acc.getD e.on 0).testBit k = true)) := by
  intro l
  induction l with
  | nil => intro s; simp
  | cons e l ih =>
    intro s
    rw [List.foldl_cons, ih]
    by_cases hb : Region.binds .any e = true
    · rw [if_pos hb]
      simp only [Nat.testBit_or, Nat.testBit_two_pow, Bool.or_eq_true, decide_eq_true_eq, List.mem_cons, exists_eq_or_imp, hb, true_and]
      constructor
      · rintro ((h | h | h) | h)
        · exact .inl h
        · exact .inr (.inl (.inl h))
        · exact .inr (.inl (.inr h))
        · exact .inr (.inr h)
      · rintro (h | (h | h) | h)
        · exact .inl (.inl h)
        · exact .inl (.inr (.inl h))
        · exact .inl (.inr (.inr h))
        · exact .inr h
    · rw [if_neg hb]
      simp only [List.mem_cons, exists_eq_or_imp, hb, false_and, false_or]
      simp

theorem masks_acc : ∀ (l : List Oper) (acc : List Nat), ∃ r, masks l acc = acc ++ r ∧ r.length = l.length := by
  intro l
  induction l with
  | nil => intro acc; exact ⟨[], by simp [masks], rfl⟩
  | cons o l ih =>
    intro acc
    obtain ⟨r, h1, h2⟩ := ih (acc ++ [maskOf acc o])
    exact ⟨maskOf acc o :: r, by rw [masks, h1]; simp, by simp [h2]⟩

theorem masks_get : ∀ (l : List Oper) (acc : List Nat) (i : Nat) (o : Oper), l[i]? = some o → ∃ acc', (masks l acc).getD (acc.length + i) 0 = maskOf acc' o ∧ acc'.length = acc.length + i ∧ ∀ j, j < acc.length + i → acc'.getD j 0 = (masks l acc).getD j 0 := by
  intro l
  induction l with
  | nil => intro acc i o h; simp at h
  | cons x l ih =>
    intro acc i o h
    cases i with
    | zero =>
      simp only [List.getElem?_cons_zero, Option.some.injEq] at h
      subst h
      obtain ⟨r, h1, h2⟩ := masks_acc l (acc ++ [maskOf acc x])
      refine ⟨acc, ?_, by simp, ?_⟩
      · rw [masks, h1]
        simp [List.getD_eq_getElem?_getD]
      · intro j hj
        rw [masks, h1]
        have hj : j < acc.length := by simpa using hj
        simp [List.getD_eq_getElem?_getD, List.getElem?_append, hj, Nat.lt_succ_of_lt hj]
    | succ i =>
      obtain ⟨acc', h1, h2, h3⟩ := ih (acc ++ [maskOf acc x]) i o (by simpa using h)
      have e : (acc ++ [maskOf acc x]).length + i = acc.length + (i + 1) := by simp; omega
      rw [e] at h1 h2 h3
      exact ⟨acc', h1, h2, h3⟩

/-- What an operation that waits for nothing but X hangs on lies in X. -/
theorem mask_mem {ops : Array Oper} (hb : back ops) {X : List Nat} (hX : Closed ops X) : ∀ (n i : Nat), i < n → Ready ops X i → i < ops.size → ∀ j, ((masks ops.toList []).getD i 0).testBit j = true → j ∈ X := by
  intro n
  induction n with
  | zero => intro i h; omega
  | succ n ih =>
    intro i hin hr hi j hj
    have ho : ops[i]? = some ops[i] := Array.getElem?_eq_getElem hi
    obtain ⟨acc', h1, h2, h3⟩ := masks_get ops.toList [] i ops[i] (by simp)
    simp only [List.length_nil, Nat.zero_add] at h1 h2 h3
    rw [h1, maskOf, testBit_foldl] at hj
    rcases hj with h | ⟨e, he, hbb, h⟩
    · simp at h
    · have hon := hr _ ho e he hbb
      rcases h with h | h
      · exact h ▸ hon
      · have hlt := hb i _ ho e he hbb
        rw [h3 _ hlt] at h
        exact ih e.on (by omega) (hX _ hon) (by omega) j h
end Go.Eng

set_option linter.unusedVariables false
set_option linter.unusedSimpArgs false
namespace Go.Eng

abbrev Pan := Option (Nat × List PanicEntry × AHeap)

def quietKd (k : Kd) : Bool := k = .skip || k = .pure || k = .load

def RB (C : Ctx) (ops : Array Oper) (pan : Pan) (r : DRec) : Prop :=
  match r.k with
  | .skip => awanted ops r.a r.o = some false ∧ r.v = undef ∧ r.n = r.h ∧ r.d = r.o.dst
  | .pure => awanted ops r.a r.o = some true ∧ looks r.o = false ∧ aquiet C.E r.a r.o r.h = some r.v ∧ r.n = r.h ∧ r.d = r.o.dst
  | .load => awanted ops r.a r.o = some true ∧ aquiet C.E r.a r.o r.h = some r.v ∧ r.n = r.h ∧ r.d = r.o.dst
  | .alloc => awanted ops r.a r.o = some true ∧ akind r.o = true ∧ estep C r.a r.o r.h = some (.go r.v r.n) ∧ r.d = r.o.dst
  | .eff => awanted ops r.a r.o = some true ∧ ((estep C r.a r.o r.h = some (.go r.v r.n) ∧ r.d = r.o.dst) ∨ ∃ ch h', pan = some (r.i, ch, h') ∧ estep C r.a r.o r.h = some (.panic ch h') ∧ r.d = none)
  | .tail => awanted ops r.a r.o = some true ∧ skind r.o = true ∧ estep C r.a r.o r.h = some (.go r.v r.n) ∧ r.d = r.o.dst

structure RF (C : Ctx) (ops : Array Oper) (pan : Pan) (r : DRec) : Prop where
  op : ops[r.i]? = some r.o
  b : RB C ops pan r

def ActT : AAct → List DRec → Prop
  | _, [] => True
  | a, r :: l => r.a = a ∧ ActT (a.put r.d r.v) l
def actEnd : AAct → List DRec → AAct
  | a, [] => a
  | a, r :: l => actEnd (a.put r.d r.v) l
def HeapT : AHeap → List DRec → AHeap → Prop
  | h, [], h' => h = h'
  | h, r :: l, h' => r.h = h ∧ HeapT r.n l h'

theorem ActT.append : ∀ {l m : List DRec} {a : AAct}, ActT a l → ActT (actEnd a l) m → ActT a (l ++ m)
  | [], _, _, _, h => h
  | _ :: _, _, _, h, k => ⟨h.1, ActT.append h.2 k⟩
theorem actEnd_append : ∀ (l m : List DRec) (a : AAct), actEnd a (l ++ m) = actEnd (actEnd a l) m
  | [], _, _ => rfl
  | r :: l, m, a => actEnd_append l m (a.put r.d r.v)
theorem HeapT.append : ∀ {l m : List DRec} {h h1 h2 : AHeap}, HeapT h l h1 → HeapT h1 m h2 → HeapT h (l ++ m) h2
  | [], _, _, _, _, a, b => by cases a; exact b
  | _ :: _, _, _, _, _, a, b => ⟨a.1, HeapT.append a.2 b⟩

theorem RB.quiet {C : Ctx} {ops : Array Oper} {pan : Pan} {r : DRec} (h : RB C ops pan r) (hk : quietKd r.k = true) : r.n = r.h := by
  unfold RB at h
  unfold quietKd at hk
  split at h
  · exact h.2.2.1
  · exact h.2.2.2.1
  · exact h.2.2.1
  · rename_i he; rw [he] at hk; simp at hk
  · rename_i he; rw [he] at hk; simp at hk
  · rename_i he; rw [he] at hk; simp at hk

theorem HeapT.filter {C : Ctx} {ops : Array Oper} {pan : Pan} {kd : Kd} : ∀ {l : List DRec} {h h' : AHeap}, (∀ r ∈ l, RF C ops pan r ∧ (r.k = kd ∨ quietKd r.k = true)) → quietKd kd = false → HeapT h l h' → HeapT h (recsOf kd l) h' := by
  intro l
  induction l with
  | nil => intro h h' _ _ a; exact a
  | cons r l ih =>
    intro h h' hr hq a
    obtain ⟨a1, a2⟩ := a
    have := ih (fun x hx => hr x (List.mem_cons_of_mem _ hx)) hq a2
    rcases (hr r (by simp)).2 with hk | hk
    · simp only [recsOf, List.filter_cons, hk, decide_true, if_true]
      exact ⟨a1, this⟩
    · have hne : r.k ≠ kd := by intro hc; rw [hc, hq] at hk; cases hk
      simp only [recsOf, List.filter_cons, hne, decide_false, Bool.false_eq_true, if_false]
      rw [(hr r (by simp)).1.b.quiet hk, a1] at this
      exact this

def panOf : DEnd → Pan
  | .done _ _ => none
  | .panic _ _ i ch h' _ => some (i, ch, h')
def endA : DEnd → AAct
  | .done a _ => a
  | .panic a _ _ _ _ _ => a
def endH : DEnd → AHeap
  | .done _ h => h
  | .panic _ h _ _ _ _ => h

theorem rest_facts {C : Ctx} {ops : Array Oper} {ms : List Nat} {kk : Nat} (pan : Pan) : ∀ {l : List Nat} {a : AAct} {h : AHeap} {recs : List DRec}, drest C ops ms kk l a h = some recs →
    (∀ r ∈ recs, RF C ops pan r ∧ quietKd r.k = true) ∧ ActT a recs ∧ HeapT h recs h := by
  intro l
  induction l with
  | nil => intro a h recs hr; cases hr; exact ⟨(fun r hr => (by cases hr)), trivial, rfl⟩
  | cons i l ih =>
    intro a h recs hr
    simp only [drest] at hr
    split at hr
    · exact ih hr
    split at hr
    · cases hr
    rename_i o ho
    split at hr
    · cases hr
    · rename_i hw
      split at hr
      case h_2 => cases hr
      rename_i l1 hl1
      cases hr
      obtain ⟨h1, h2, h3⟩ := ih hl1
      refine ⟨?_, ⟨rfl, h2⟩, ⟨rfl, h3⟩⟩
      intro r hr
      rcases List.mem_cons.1 hr with rfl | hr
      · exact ⟨⟨ho, ⟨hw, rfl, rfl, rfl⟩⟩, rfl⟩
      · exact h1 r hr
    · rename_i hw
      split at hr
      case h_2 => cases hr
      rename_i v hq
      split at hr
      case h_2 => cases hr
      rename_i l1 hl1
      cases hr
      obtain ⟨h1, h2, h3⟩ := ih hl1
      refine ⟨?_, ⟨rfl, h2⟩, ⟨rfl, h3⟩⟩
      intro r hr
      rcases List.mem_cons.1 hr with rfl | hr
      · cases hlk : looks o with
        | true => exact ⟨⟨ho, (⟨hw, hq, rfl, rfl⟩ : RB C ops pan ⟨i, o, .load, v, a, h, o.dst, h⟩)⟩, rfl⟩
        | false => exact ⟨⟨ho, (⟨hw, hlk, hq, rfl, rfl⟩ : RB C ops pan ⟨i, o, .pure, v, a, h, o.dst, h⟩)⟩, rfl⟩
      · exact h1 r hr

theorem sec_facts {C : Ctx} {ops : Array Oper} {kd : Kd} (hkd : kd = .alloc ∨ kd = .eff ∨ kd = .tail) (pan : Pan) : ∀ {l : List Nat} {a : AAct} {h : AHeap} {recs : List DRec} {e : DEnd}, dsec C ops kd l a h = some (recs, e) →
    (panOf e = none ∨ pan = panOf e) →
    (∀ r ∈ recs, RF C ops pan r ∧ (r.k = kd ∨ quietKd r.k = true)) ∧ ActT a recs ∧ actEnd a recs = endA e ∧ HeapT h recs (endH e) := by
  intro l
  induction l with
  | nil => intro a h recs e hr _; cases hr; exact ⟨(fun r hr => (by cases hr)), trivial, rfl, rfl⟩
  | cons i l ih =>
    intro a h recs e hr hp
    simp only [dsec] at hr
    split at hr
    · cases hr
    rename_i o ho
    split at hr
    · cases hr
    · rename_i hw
      split at hr
      case h_2 => cases hr
      rename_i l1 e1 hl1
      cases hr
      obtain ⟨h1, h2, h3, h4⟩ := ih hl1 hp
      refine ⟨?_, ⟨rfl, h2⟩, h3, ⟨rfl, h4⟩⟩
      intro r hr
      rcases List.mem_cons.1 hr with rfl | hr
      · exact ⟨⟨ho, ⟨hw, rfl, rfl, rfl⟩⟩, .inr rfl⟩
      · exact h1 r hr
    · rename_i hw
      split at hr
      · rename_i v hq
        split at hr
        case h_2 => cases hr
        rename_i l1 e1 hl1
        cases hr
        obtain ⟨h1, h2, h3, h4⟩ := ih hl1 hp
        refine ⟨?_, ⟨rfl, h2⟩, h3, ⟨rfl, h4⟩⟩
        intro r hr
        rcases List.mem_cons.1 hr with rfl | hr
        · cases hlk : looks o with
          | true => exact ⟨⟨ho, (⟨hw, hq, rfl, rfl⟩ : RB C ops pan ⟨i, o, .load, v, a, h, o.dst, h⟩)⟩, .inr rfl⟩
          | false => exact ⟨⟨ho, (⟨hw, hlk, hq, rfl, rfl⟩ : RB C ops pan ⟨i, o, .pure, v, a, h, o.dst, h⟩)⟩, .inr rfl⟩
        · exact h1 r hr
      · split at hr
        case isFalse => cases hr
        rename_i hkk
        split at hr
        · rename_i v h' hs
          split at hr
          case h_2 => cases hr
          rename_i l1 e1 hl1
          cases hr
          obtain ⟨h1, h2, h3, h4⟩ := ih hl1 hp
          refine ⟨?_, ⟨rfl, h2⟩, h3, ⟨rfl, h4⟩⟩
          intro r hr
          rcases List.mem_cons.1 hr with rfl | hr
          · rcases hkd with rfl | rfl | rfl
            · exact ⟨⟨ho, ⟨hw, hkk, hs, rfl⟩⟩, .inl rfl⟩
            · exact ⟨⟨ho, ⟨hw, .inl ⟨hs, rfl⟩⟩⟩, .inl rfl⟩
            · exact ⟨⟨ho, ⟨hw, hkk, hs, rfl⟩⟩, .inl rfl⟩
          · exact h1 r hr
        · rename_i ch h' hs
          split at hr
          case isFalse => cases hr
          rename_i hke
          cases hr
          subst hke
          refine ⟨?_, ⟨rfl, trivial⟩, rfl, ⟨rfl, rfl⟩⟩
          intro r hr
          rcases List.mem_cons.1 hr with rfl | hr
          · refine ⟨⟨ho, ⟨hw, .inr ⟨ch, h', ?_, hs, rfl⟩⟩⟩, .inl rfl⟩
            rcases hp with hp | hp
            · cases hp
            · exact hp
          · cases hr
        · cases hr

/-- The panicking operation is among the records. -/
theorem sec_panic {C : Ctx} {ops : Array Oper} {kd : Kd} : ∀ {l : List Nat} {a : AAct} {h : AHeap} {recs : List DRec} {a' : AAct} {h' : AHeap} {i : Nat} {ch : List PanicEntry} {hh : AHeap} {rest : List Nat}, dsec C ops kd l a h = some (recs, .panic a' h' i ch hh rest) →
    ∃ r ∈ recs, r.i = i ∧ r.k = .eff ∧ ∃ ch' hh', estep C r.a r.o r.h = some (.panic ch' hh') := by
  intro l
  induction l with
  | nil => intro a h recs a' h' i ch hh rest hr; cases hr
  | cons j l ih =>
    intro a h recs a' h' i ch hh rest hr
    simp only [dsec] at hr
    split at hr
    · cases hr
    rename_i o ho
    split at hr
    · cases hr
    · split at hr
      case h_2 => cases hr
      rename_i l1 e1 hl1
      cases hr
      obtain ⟨r, h1, h2⟩ := ih hl1
      exact ⟨r, List.mem_cons_of_mem _ h1, h2⟩
    · split at hr
      · split at hr
        case h_2 => cases hr
        rename_i l1 e1 hl1
        cases hr
        obtain ⟨r, h1, h2⟩ := ih hl1
        exact ⟨r, List.mem_cons_of_mem _ h1, h2⟩
      · split at hr
        case isFalse => cases hr
        split at hr
        · split at hr
          case h_2 => cases hr
          rename_i l1 e1 hl1
          cases hr
          obtain ⟨r, h1, h2⟩ := ih hl1
          exact ⟨r, List.mem_cons_of_mem _ h1, h2⟩
        · split at hr
          case isFalse => cases hr
          rename_i ch1 h1 hs _
          cases hr
          exact ⟨_, List.mem_cons_self, rfl, rfl, _, _, hs⟩
        · cases hr

/-! ### The activation in our order -/
theorem AAct.put_nt (a : AAct) (d : Option Tmp) (v : Value) : (a.put d v).nt = a.nt := by cases d <;> simp [AAct.put, AAct.nt_set]
theorem AAct.put_defers (a : AAct) (d : Option Tmp) (v : Value) : (a.put d v).defers = a.defers := by cases d <;> simp [AAct.put, AAct.defers_set]
theorem AAct.put_tmp (a : AAct) (d : Option Tmp) (v : Value) (t : Nat) : (a.put d v).tmp t = if d = some t ∧ t < a.nt then v else a.tmp t := by
  cases d with
  | none => simp [AAct.put]
  | some d =>
    simp only [AAct.put, AAct.tmp_set, Option.some.injEq]
    by_cases h : t = d
    · subst h; simp
    · simp [h, Ne.symm h]

theorem actEnd_nt : ∀ (l : List DRec) (a : AAct), (actEnd a l).nt = a.nt
  | [], _ => rfl
  | r :: l, a => by rw [actEnd, actEnd_nt l, AAct.put_nt]
theorem actEnd_defers : ∀ (l : List DRec) (a : AAct), (actEnd a l).defers = a.defers
  | [], _ => rfl
  | r :: l, a => by rw [actEnd, actEnd_defers l, AAct.put_defers]
theorem actEnd_none : ∀ (l : List DRec) (a : AAct) (t : Nat), (∀ r ∈ l, r.d ≠ some t) → (actEnd a l).tmp t = a.tmp t
  | [], _, _, _ => rfl
  | r :: l, a, t, h => by rw [actEnd, actEnd_none l _ t (fun x hx => h x (List.mem_cons_of_mem _ hx)), AAct.put_tmp, if_neg (fun hc => h r (by simp) hc.1)]
theorem actEnd_some : ∀ (l : List DRec) (a : AAct) (t : Nat) (v : Value), t < a.nt → (∀ r ∈ l, r.d = some t → r.v = v) → (∃ r ∈ l, r.d = some t) → (actEnd a l).tmp t = v
  | [], _, _, _, _, _, h => by obtain ⟨r, h, _⟩ := h; cases h
  | r :: l, a, t, v, hlt, hv, h => by
    rw [actEnd]
    by_cases hex : ∃ x ∈ l, x.d = some t
    · exact actEnd_some l _ t v (by rw [AAct.put_nt]; exact hlt) (fun x hx => hv x (List.mem_cons_of_mem _ hx)) hex
    · rw [actEnd_none l _ t (fun x hx hc => hex ⟨x, hx, hc⟩), AAct.put_tmp]
      obtain ⟨x, hx, hxd⟩ := h
      rcases List.mem_cons.1 hx with rfl | hx
      · rw [if_pos ⟨hxd, hlt⟩]; exact hv _ (by simp) hxd
      · exact absurd ⟨x, hx, hxd⟩ hex

theorem ActT.at : ∀ {l1 l2 : List DRec} {r : DRec} {a : AAct}, ActT a (l1 ++ r :: l2) → r.a = actEnd a l1
  | [], _, _, _, h => h.1
  | _ :: l1, _, _, _, h => ActT.at (l1 := l1) h.2

/-! ### The checks, read -/
theorem ord_read {ops : Array Oper} {ms : List Nat} : ∀ {l : List Nat} {x : Nat}, ordOk ops ms l x = true → ∀ {l1 l2 : List Nat} {i : Nat}, l = l1 ++ i :: l2 →
    (x.testBit i = false ∧ i ∉ l1) ∧ ∃ o, ops[i]? = some o ∧ ∀ t ∈ readsOf ops o, ∀ y oy, ops[y]? = some oy → oy.dst = some t → y ≠ i →
      ((x.testBit y = true ∨ y ∈ l1) ∧ (ms.getD i 0).testBit y = true) ∨ ((x.testBit y = false ∧ y ∉ l1) ∧ (ms.getD y 0).testBit i = true) := by
  intro l
  induction l with
  | nil => intro x _ l1 l2 i h; cases l1 <;> simp at h
  | cons j l ih =>
    intro x hx l1 l2 i h
    simp only [ordOk, Bool.and_eq_true, Bool.not_eq_true'] at hx
    obtain ⟨⟨hxj, hm⟩, hrest⟩ := hx
    cases l1 with
    | nil =>
      simp only [List.nil_append, List.cons.injEq] at h
      obtain ⟨rfl, rfl⟩ := h
      refine ⟨⟨hxj, by simp⟩, ?_⟩
      split at hm
      case h_2 => cases hm
      rename_i o ho
      refine ⟨o, ho, ?_⟩
      intro t ht y oy hy hd hne
      rw [List.all_eq_true] at hm
      have h1 := hm t ht
      rw [List.all_eq_true] at h1
      have h2 := h1 (oy, y) (by rw [List.mem_zipIdx_iff_getElem?]; simpa using hy)
      simp only [Bool.or_eq_true, Bool.and_eq_true, decide_eq_true_eq, Bool.not_eq_true'] at h2
      rcases h2 with ((h2 | h2) | h2) | h2
      · exact absurd hd h2
      · exact absurd h2 hne
      · exact .inl ⟨.inl h2.1, h2.2⟩
      · exact .inr ⟨⟨h2.1, by simp⟩, h2.2⟩
    | cons a l1 =>
      simp only [List.cons_append, List.cons.injEq] at h
      obtain ⟨rfl, rfl⟩ := h
      obtain ⟨⟨h1, h2⟩, o, ho, h3⟩ := ih hrest rfl
      have hb : ∀ y, (x ||| 2 ^ j).testBit y = (x.testBit y || decide (j = y)) := by intro y; simp [Nat.testBit_or, Nat.testBit_two_pow]
      rw [hb] at h1
      simp only [Bool.or_eq_false_iff, decide_eq_false_iff_not] at h1
      refine ⟨⟨h1.1, by simp [h2, Ne.symm h1.2]⟩, o, ho, ?_⟩
      intro t ht y oy hy hd hne
      rcases h3 t ht y oy hy hd hne with ⟨hc, hm⟩ | ⟨hc, hm⟩
      · refine .inl ⟨?_, hm⟩
        rw [hb] at hc
        simp only [Bool.or_eq_true, decide_eq_true_eq] at hc
        rcases hc with (hc | hc) | hc
        · exact .inl hc
        · exact .inr (by simp [hc])
        · exact .inr (by simp [hc])
      · refine .inr ⟨?_, hm⟩
        rw [hb] at hc
        simp only [Bool.or_eq_false_iff, decide_eq_false_iff_not] at hc
        exact ⟨hc.1.1, by simp [hc.2, Ne.symm hc.1.2]⟩

theorem reg_read {ops : Array Oper} (h : regOk ops.toList = true) : back ops ∧ ∀ (i j : Nat) (oi oj : Oper) (t : Tmp), ops[i]? = some oi → ops[j]? = some oj → oi.dst = some t → oj.dst = some t → i = j := by
  unfold regOk at h
  simp only [Bool.and_eq_true, List.all_eq_true] at h
  obtain ⟨h1, h2⟩ := h
  refine ⟨?_, ?_⟩
  · intro i o ho e he hb
    have := h1 (o, i) (by rw [List.mem_zipIdx_iff_getElem?]; simpa using ho) e he
    simpa [hb] using this
  · intro i j oi oj t hi hj hdi hdj
    have := h2 (oi, i) (by rw [List.mem_zipIdx_iff_getElem?]; simpa using hi) (oj, j) (by rw [List.mem_zipIdx_iff_getElem?]; simpa using hj)
    simp only [Bool.or_eq_true, decide_eq_true_eq] at this
    rcases this with (h | h) | h
    · exact h
    · rw [hdi] at h; cases h
    · rw [hdi, hdj] at h; exact absurd rfl h

theorem chain_read {ms : List Nat} : ∀ {l : List Nat}, chainOk ms l = true → ∀ {l1 l2 : List Nat} {a b : Nat}, l = l1 ++ a :: b :: l2 → (ms.getD b 0).testBit a = true := by
  intro l
  induction l with
  | nil => intro _ l1 l2 a b h; cases l1 <;> simp at h
  | cons x l ih =>
    intro hc l1 l2 a b h
    cases l1 with
    | nil =>
      simp only [List.nil_append, List.cons.injEq] at h
      obtain ⟨rfl, rfl⟩ := h
      simp only [chainOk, Bool.and_eq_true] at hc
      exact hc.1
    | cons y l1 =>
      simp only [List.cons_append, List.cons.injEq] at h
      obtain ⟨rfl, rfl⟩ := h
      cases hl : l1 ++ a :: b :: l2 with
      | nil => cases l1 <;> simp at hl
      | cons z m =>
        rw [hl] at hc
        simp only [chainOk, Bool.and_eq_true] at hc
        exact ih (hl ▸ hc.2) rfl

theorem ids_read : ∀ {l : List DRec} {n : Nat}, idsOk n l = true → (∀ r ∈ l, n ≤ r.h.n) ∧ l.Pairwise (fun r s => r.h.n ≠ s.h.n) := by
  intro l
  induction l with
  | nil => intro n _; exact ⟨(fun r h => (by cases h)), List.Pairwise.nil⟩
  | cons r l ih =>
    intro n h
    simp only [idsOk, Bool.and_eq_true, decide_eq_true_eq] at h
    obtain ⟨h1, h2⟩ := ih h.2
    refine ⟨?_, .cons (fun s hs => by have := h1 s hs; omega) h2⟩
    intro s hs
    rcases List.mem_cons.1 hs with rfl | hs
    · exact h.1
    · have := h1 s hs; omega

theorem stages_read {E : Env} {ms : List Nat} {loads allocs : List DRec} {last : AHeap} : ∀ {ds es : List DRec} {pre : List Nat}, stagesOk E ms loads allocs last pre (ds ++ es) = true → ∀ {h : AHeap}, HeapT h es last → 
    stageOk E ms loads (pre ++ ds.map (·.i)) (es.map (·.i)) h = true ∧ (allocs.all fun x => allocOk ms x h (pre ++ ds.map (·.i))) = true := by
  intro ds
  induction ds with
  | nil =>
    intro es pre hs h hh
    cases es with
    | nil =>
      cases hh
      simp only [List.nil_append, stagesOk, Bool.and_eq_true] at hs
      simpa using hs
    | cons e es =>
      obtain ⟨rfl, _⟩ := hh
      simp only [List.nil_append, stagesOk, Bool.and_eq_true] at hs
      simpa using hs.1
  | cons d ds ih =>
    intro es pre hs h hh
    simp only [List.cons_append, stagesOk, Bool.and_eq_true] at hs
    have := ih hs.2 hh
    simpa using this
end Go.Eng

set_option linter.unusedVariables false
set_option linter.unusedSimpArgs false
namespace Go.Eng

def triOf (C : Ctx) (r : DRec) : St :=
  match r.o.op with
  | .store _ x y => (match r.a.ev C.E.gl x with
    | .pointer (some ⟨B, o, none⟩) => ⟨B, o, (r.a.ev C.E.gl y).cells.toList⟩
    | _ => ⟨0, 0, []⟩)
  | _ => ⟨0, 0, []⟩

theorem tail_store {C : Ctx} {r : DRec} {h n : AHeap} {v : Value} (hk : skind r.o = true) (hs : estep C r.a r.o h = some (.go v n)) :
    v = undef ∧ h.wrN (triOf C r).B (triOf C r).o (triOf C r).l = some n ∧ ∀ h2 n2, h2.wrN (triOf C r).B (triOf C r).o (triOf C r).l = some n2 → estep C r.a r.o h2 = some (.go undef n2) := by
  unfold skind at hk
  split at hk
  case h_2 => cases hk
  rename_i t x y hop
  have hst : ∀ g, estep C r.a r.o g = (match astore C.E.P t (r.a.ev C.E.gl x) (r.a.ev C.E.gl y) g with | some h' => some (.go undef h') | none => none) := by
    intro g
    unfold estep
    rw [aop_def]
    unfold aopBig
    simp only [hop]
    cases astore C.E.P t (r.a.ev C.E.gl x) (r.a.ev C.E.gl y) g <;> rfl
  rw [hst] at hs
  split at hs
  case h_2 => cases hs
  rename_i h' ha
  cases hs
  unfold astore at ha
  split at ha
  case h_2 => cases ha
  rename_i B o hx
  split at ha
  case h_2 => cases ha
  rename_i i hi
  split at ha
  case isFalse => cases ha
  rename_i hc
  have htri : triOf C r = ⟨B, o, (r.a.ev C.E.gl y).cells.toList⟩ := by
    unfold triOf
    rw [hop]
    simp only [hx]
  refine ⟨rfl, by rw [htri]; exact ha, ?_⟩
  intro h2 n2 hw
  rw [htri] at hw
  rw [hst]
  have : astore C.E.P t (r.a.ev C.E.gl x) (r.a.ev C.E.gl y) h2 = some n2 := by
    unfold astore
    rw [hx]
    simp only [hi]
    rw [if_pos hc]
    exact hw
  rw [this]

/-- What is told of a region's run in our order. -/
structure CF (C : Ctx) (ops : Array Oper) (a0 : AAct) (h0 : AHeap) (recs allocs effs tails : List DRec) (hf hb hE : AHeap) (pan : Pan) : Prop where
  rf : ∀ r ∈ recs, RF C ops pan r
  act : ActT a0 recs
  al : ∀ r, r ∈ allocs ↔ r ∈ recs ∧ r.k = .alloc
  ef : ∀ r, r ∈ effs ↔ r ∈ recs ∧ r.k = .eff
  ta : ∀ r, r ∈ tails ↔ r ∈ recs ∧ r.k = .tail
  hA : HeapT h0 allocs hf
  hEf : HeapT hf effs hb
  hT : HeapT hb tails hE
  bk : back ops
  ud : ∀ (i j : Nat) (oi oj : Oper) (t : Tmp), ops[i]? = some oi → ops[j]? = some oj → oi.dst = some t → oj.dst = some t → i = j
  ord : ∀ l1 r l2, recs = l1 ++ r :: l2 → r.i ∉ l1.map (·.i) ∧ ∀ t ∈ readsOf ops r.o, ∀ (y : Nat) (oy : Oper), ops[y]? = some oy → oy.dst = some t → y ≠ r.i →
    (y ∈ l1.map (·.i) ∧ ((masks ops.toList []).getD r.i 0).testBit y = true) ∨ (y ∉ l1.map (·.i) ∧ ((masks ops.toList []).getD y 0).testBit r.i = true)
  cov : ∀ i, i < ops.size → (∃ r ∈ recs, r.i = i) ∨ ∃ k ch h', pan = some (k, ch, h') ∧ ((masks ops.toList []).getD i 0).testBit k = true
  chain : ∀ l1 l2 a b, effs = l1 ++ a :: b :: l2 → ((masks ops.toList []).getD b.i 0).testBit a.i = true
  ids : allocs.Pairwise fun r s => r.h.n ≠ s.h.n
  ge : ∀ r ∈ allocs, h0.n ≤ r.h.n
  st : ∀ ds es h, effs = ds ++ es → HeapT h es hb → stageOk C.E (masks ops.toList []) (recsOf .load recs) (ds.map (·.i)) (es.map (·.i)) h = true ∧ (allocs.all fun x => allocOk (masks ops.toList []) x h (ds.map (·.i))) = true
  tl : ∀ r ∈ tails, ∀ s ∈ recs, s.k = .eff ∨ s.k = .load ∨ s.k = .alloc → ((masks ops.toList []).getD r.i 0).testBit s.i = true
  sp : tails.Pairwise fun s t => AptS hb (triOf C s) (triOf C t)
  pk : ∀ k ch h', pan = some (k, ch, h') → ∃ r ∈ recs, r.i = k ∧ r.k = .eff ∧ ∃ ch' hh', estep C r.a r.o r.h = some (.panic ch' hh')
  tn : tails.Nodup

variable {C : Ctx} {ops : Array Oper} {a0 : AAct} {h0 : AHeap} {recs allocs effs tails : List DRec} {hf hb hE : AHeap} {pan : Pan}

theorem CF.uniq (F : CF C ops a0 h0 recs allocs effs tails hf hb hE pan) {r s : DRec} (hr : r ∈ recs) (hs : s ∈ recs) (h : r.i = s.i) : r = s := by
  obtain ⟨l1, l2, h1⟩ := List.append_of_mem hr
  have hs' := hs
  rw [h1] at hs'
  rcases List.mem_append.1 hs' with hs1 | hs1
  · exact absurd (List.mem_map.2 ⟨s, hs1, h.symm⟩) (F.ord l1 r l2 h1).1
  · rcases List.mem_cons.1 hs1 with rfl | hs2
    · rfl
    · obtain ⟨m1, m2, h2⟩ := List.append_of_mem hs2
      have h3 : recs = (l1 ++ r :: m1) ++ s :: m2 := by rw [h1, h2]; simp
      exact absurd (List.mem_map.2 ⟨r, by simp, h⟩) (F.ord _ s m2 h3).1

theorem RB.dst {r : DRec} (h : RB C ops pan r) {t : Tmp} (hd : r.d = some t) : r.o.dst = some t := by
  unfold RB at h
  split at h
  · rw [← h.2.2.2]; exact hd
  · rw [← h.2.2.2.2]; exact hd
  · rw [← h.2.2.2]; exact hd
  · rw [← h.2.2.2]; exact hd
  · rcases h.2 with h | ⟨_, _, _, _, h⟩
    · rw [← h.2]; exact hd
    · rw [h] at hd; cases hd
  · rw [← h.2.2.2]; exact hd

structure InvA (ops : Array Oper) (a0 : AAct) (recs : List DRec) (pan : Pan) (X : List Nat) (a : AAct) : Prop where
  closed : Closed ops X
  lt : ∀ i ∈ X, i < ops.size
  nt : a.nt = a0.nt
  df : a.defers = a0.defers
  i1 : ∀ r ∈ recs, r.i ∈ X → ∀ t, r.d = some t → t < a0.nt → a.tmp t = r.v
  i2 : ∀ t, (∀ r ∈ recs, r.i ∈ X → r.d ≠ some t) → a.tmp t = a0.tmp t
  cov : ∀ i ∈ X, ∃ r ∈ recs, r.i = i
  np : ∀ k ch h', pan = some (k, ch, h') → k ∉ X

theorem InvA.agree (F : CF C ops a0 h0 recs allocs effs tails hf hb hE pan) {X : List Nat} {a : AAct} (I : InvA ops a0 recs pan X a) {r : DRec} (hr : r ∈ recs) (hn : r.i ∉ X) (hrd : Ready ops X r.i) :
    ∀ t ∈ readsOf ops r.o, a.tmp t = r.a.tmp t := by
  intro t ht
  obtain ⟨l1, l2, h1⟩ := List.append_of_mem hr
  obtain ⟨hni, hord⟩ := F.ord l1 r l2 h1
  have hra : r.a = actEnd a0 l1 := ActT.at (h1 ▸ F.act)
  have hri : r.i < ops.size := by
    have := (F.rf r hr).op
    exact (Array.getElem?_eq_some_iff.1 this).1
  have hsub : ∀ z ∈ l1, z ∈ recs := fun z hz => by rw [h1]; exact List.mem_append_left _ hz
  by_cases hlt : t < a0.nt
  case neg =>
    have e1 : a.tmp t = undef := by unfold AAct.tmp; rw [I.nt, if_neg hlt]
    have e2 : r.a.tmp t = undef := by unfold AAct.tmp; rw [hra, actEnd_nt, if_neg hlt]
    rw [e1, e2]
  have dich : ∀ y ∈ recs, y.d = some t → y.i ≠ r.i → (y.i ∈ X ∧ y ∈ l1) ∨ (y.i ∉ X ∧ y.i ∉ l1.map (·.i)) := by
    intro y hy hd hne
    have hF := F.rf y hy
    rcases hord t ht y.i y.o hF.op (hF.b.dst hd) hne with ⟨q1, q2⟩ | ⟨q1, q2⟩
    · refine .inl ⟨mask_mem F.bk I.closed _ r.i (Nat.lt_succ_self _) hrd hri y.i q2, ?_⟩
      obtain ⟨z, hz, hzi⟩ := List.mem_map.1 q1
      rw [← F.uniq (hsub z hz) hy hzi]
      exact hz
    · refine .inr ⟨fun hc => hn ?_, q1⟩
      exact mask_mem F.bk I.closed _ y.i (Nat.lt_succ_self _) (I.closed _ hc) (I.lt _ hc) r.i q2
  by_cases hex : ∃ y ∈ recs, y.i ∈ X ∧ y.d = some t
  · obtain ⟨y, hy, hyX, hyd⟩ := hex
    have hne : y.i ≠ r.i := fun hc => hn (hc ▸ hyX)
    rw [I.i1 y hy hyX t hyd hlt, hra]
    rcases dich y hy hyd hne with ⟨_, q⟩ | ⟨q, _⟩
    · refine (actEnd_some l1 a0 t y.v hlt ?_ ⟨y, q, hyd⟩).symm
      intro z hz hzd
      have hFz := F.rf z (hsub z hz)
      have hFy := F.rf y hy
      rw [F.uniq (hsub z hz) hy (F.ud z.i y.i z.o y.o t hFz.op hFy.op (hFz.b.dst hzd) (hFy.b.dst hyd))]
    · exact absurd hyX q
  · rw [I.i2 t (fun z hz hzX hzd => hex ⟨z, hz, hzX, hzd⟩), hra]
    refine (actEnd_none l1 a0 t ?_).symm
    intro z hz hzd
    have hne : z.i ≠ r.i := fun hc => hni (List.mem_map.2 ⟨z, hz, hc⟩)
    rcases dich z (hsub z hz) hzd hne with ⟨q, _⟩ | ⟨_, q⟩
    · exact hex ⟨z, hsub z hz, q, hzd⟩
    · exact q (List.mem_map.2 ⟨z, hz, rfl⟩)

theorem agree_of {a b : AAct} {o : Oper} (h : ∀ t ∈ readsOf ops o, a.tmp t = b.tmp t) : Agree C.E a b o := by
  intro x hx
  cases x with
  | tmp t =>
    refine h t (List.mem_append_right _ ?_)
    simp only [tmpsOf, List.mem_filterMap]
    exact ⟨_, hx, rfl⟩
  | _ => rfl

theorem wanted_congr {a b : AAct} {o : Oper} (h : ∀ t ∈ readsOf ops o, a.tmp t = b.tmp t) : awanted ops a o = awanted ops b o := by
  unfold awanted
  cases hg : o.guard with
  | none => rfl
  | some p =>
    obtain ⟨j, want⟩ := p
    simp only
    unfold ayielded
    cases hj : ops[j]? with
    | none => rfl
    | some o2 =>
      simp only
      cases hd : o2.dst with
      | none => rfl
      | some d =>
        simp only
        have : a.tmp d = b.tmp d := h d (List.mem_append_left _ (by simp [hg, hj, hd]))
        rw [this]

theorem InvA.next (F : CF C ops a0 h0 recs allocs effs tails hf hb hE pan) {X : List Nat} {a : AAct} (I : InvA ops a0 recs pan X a) {r : DRec} (hr : r ∈ recs) (hn : r.i ∉ X) (hrd : Ready ops X r.i)
    (hd : r.d = r.o.dst) (hp : ∀ k ch h', pan = some (k, ch, h') → k ≠ r.i) : InvA ops a0 recs pan (r.i :: X) (a.put r.o.dst r.v) := by
  have hri : r.i < ops.size := (Array.getElem?_eq_some_iff.1 (F.rf r hr).op).1
  refine ⟨I.closed.cons hrd, ?_, by rw [AAct.put_nt]; exact I.nt, by rw [AAct.put_defers]; exact I.df, ?_, ?_, ?_, ?_⟩
  · intro i hi
    rcases List.mem_cons.1 hi with rfl | hi
    · exact hri
    · exact I.lt i hi
  · intro s hs hsX t hsd hlt
    rw [AAct.put_tmp]
    rcases List.mem_cons.1 hsX with he | hsX
    · have := F.uniq hs hr he
      subst this
      rw [if_pos ⟨by rw [← hd]; exact hsd, by rw [I.nt]; exact hlt⟩]
    · rw [if_neg ?_]
      · exact I.i1 s hs hsX t hsd hlt
      · rintro ⟨hc, _⟩
        have hFs := F.rf s hs
        have := F.ud s.i r.i s.o r.o t hFs.op (F.rf r hr).op (hFs.b.dst hsd) hc
        exact hn (this ▸ hsX)
  · intro t ht
    rw [AAct.put_tmp, if_neg (fun hc => ht r hr (by simp) (by rw [hd]; exact hc.1))]
    exact I.i2 t (fun s hs hsX => ht s hs (List.mem_cons_of_mem _ hsX))
  · intro i hi
    rcases List.mem_cons.1 hi with rfl | hi
    · exact ⟨r, hr, rfl⟩
    · exact I.cov i hi
  · intro k ch h' hk hc
    rcases List.mem_cons.1 hc with hc | hc
    · exact hp k ch h' hk hc
    · exact I.np k ch h' hk hc

/-- Memory in the midst of the region. -/
structure InvM (C : Ctx) (recs allocs effs tails : List DRec) (hb hE : AHeap) (β0 : Emb) (h0 : AHeap) (w0 : World) (X : List Nat) (β : Emb) (h : AHeap) (w : World) (ds es ts : List DRec) : Prop where
  ext : Ext β0 h0 w0 β h w
  al : ∀ r ∈ allocs, r.i ∉ X → β r.h.n = none ∧ r.h.n < h.n
  split : effs = ds ++ es
  din : ∀ r ∈ ds, r.i ∈ X
  eout : ∀ r ∈ es, r.i ∉ X
  sub : ts.Sublist tails
  tin : ∀ r ∈ tails, r.i ∈ X ∨ r ∈ ts
  tout : ∀ r ∈ ts, r.i ∉ X
  phase : (ts = tails ∧ HeapT h es hb) ∨ (es = [] ∧ (∀ r ∈ recs, r.k = .load ∨ r.k = .alloc → r.i ∈ X) ∧ (∀ B, h.rootAt B = hb.rootAt B) ∧ ∃ hx, seqW (ts.map (triOf C)) h = some hx ∧ HEq hx hE)

theorem seq_tails (F : CF C ops a0 h0 recs allocs effs tails hf hb hE pan) : ∀ {l : List DRec} {g : AHeap}, (∀ r ∈ l, r ∈ tails) → HeapT g l hE → seqW (l.map (triOf C)) g = some hE := by
  intro l
  induction l with
  | nil => intro g _ h; cases h; rfl
  | cons r l ih =>
    intro g hl h
    obtain ⟨rfl, h2⟩ := h
    have hrt := (F.ta r).1 (hl r (by simp))
    have hb := (F.rf r hrt.1).b
    unfold RB at hb
    rw [hrt.2] at hb
    obtain ⟨_, hk, hs, _⟩ := hb
    obtain ⟨_, hw, _⟩ := tail_store hk hs
    simp only [List.map_cons, seqW, hw]
    exact ih (fun x hx => hl x (List.mem_cons_of_mem _ hx)) h2

/-- What is quiet, or lays a block, keeps the rest of memory's story. -/
theorem InvM.quiet {β0 : Emb} {w0 : World} {X : List Nat} {β β' : Emb} {h : AHeap} {w w' : World} {ds es ts : List DRec} (M : InvM C recs allocs effs tails hb hE β0 h0 w0 X β h w ds es ts)
    {r : DRec} (he : r ∉ es) (ht : r ∉ ts) (huniq : ∀ s ∈ recs, s.i = r.i → s = r) (hes : ∀ s ∈ effs, s ∈ recs) (hts : ∀ s ∈ tails, s ∈ recs)
    (X' : Ext β0 h0 w0 β' h w') (hal : ∀ s ∈ allocs, s.i ∉ r.i :: X → β' s.h.n = none) : InvM C recs allocs effs tails hb hE β0 h0 w0 (r.i :: X) β' h w' ds es ts := by
  refine ⟨X', fun s hs hn => ⟨hal s hs hn, (M.al s hs (fun hc => hn (List.mem_cons_of_mem _ hc))).2⟩, M.split, fun s hs => List.mem_cons_of_mem _ (M.din s hs), ?_, M.sub, ?_, ?_, ?_⟩
  · intro s hs hc
    rcases List.mem_cons.1 hc with hc | hc
    · have := huniq s (hes s (by rw [M.split]; exact List.mem_append_right _ hs)) hc
      subst this
      exact he hs
    · exact M.eout s hs hc
  · intro s hs
    rcases M.tin s hs with h | h
    · exact .inl (List.mem_cons_of_mem _ h)
    · exact .inr h
  · intro s hs hc
    rcases List.mem_cons.1 hc with hc | hc
    · have := huniq s (hts s (M.sub.subset hs)) hc
      subst this
      exact ht hs
    · exact M.tout s hs hc
  · rcases M.phase with h | ⟨h1, h2, h3⟩
    · exact .inl h
    · exact .inr ⟨h1, fun s hs hk => List.mem_cons_of_mem _ (h2 s hs hk), h3⟩

/-- What the whole comes to. -/
def resOf (a0 : AAct) (ops : Array Oper) (recs : List DRec) (hE : AHeap) (u : Option FrameMode) : Pan → ARes
  | none => ⟨.normal, actEnd a0 recs, u, hE⟩
  | some (_, ch, h') => ⟨.panic ch, junkAll ops a0, u, h'⟩

theorem junkAll_tmp : ∀ (l : List Oper) (a : AAct) (t : Nat), ((l.foldl (fun a o => a.put o.dst junk) a).tmp t = junk) ∨ ((l.foldl (fun a o => a.put o.dst junk) a).tmp t = a.tmp t ∧ (t < a.nt → ∀ o ∈ l, o.dst ≠ some t)) := by
  intro l
  induction l with
  | nil => intro a t; exact .inr ⟨rfl, fun _ o h => by cases h⟩
  | cons o l ih =>
    intro a t
    rw [List.foldl_cons]
    rcases ih (a.put o.dst junk) t with h | ⟨h, hn⟩
    · exact .inl h
    · by_cases hd : o.dst = some t ∧ t < a.nt
      · left; rw [h, AAct.put_tmp, if_pos hd]
      · right
        refine ⟨by rw [h, AAct.put_tmp, if_neg hd], fun hlt o' ho' => ?_⟩
        rcases List.mem_cons.1 ho' with rfl | ho'
        · exact fun hc => hd ⟨hc, hlt⟩
        · exact hn (by rw [AAct.put_nt]; exact hlt) o' ho'
theorem junkAll_nt : ∀ (l : List Oper) (a : AAct), (l.foldl (fun a o => a.put o.dst junk) a).nt = a.nt ∧ (l.foldl (fun a o => a.put o.dst junk) a).defers = a.defers := by
  intro l
  induction l with
  | nil => intro a; exact ⟨rfl, rfl⟩
  | cons o l ih => intro a; rw [List.foldl_cons]; have := ih (a.put o.dst junk); exact ⟨this.1.trans (AAct.put_nt _ _ _), this.2.trans (AAct.put_defers _ _ _)⟩
end Go.Eng

set_option linter.unusedVariables false
set_option linter.unusedSimpArgs false
namespace Go.Eng

variable {C : Ctx} {ops : Array Oper} {a0 : AAct} {h0 : AHeap} {recs allocs effs tails : List DRec} {hf hb hE : AHeap} {pan : Pan}

theorem estep_alloc {a : AAct} {o : Oper} {h n : AHeap} {v : Value} (hk : akind o = true) (hs : estep C a o h = some (.go v n)) : aop C.E a C.ro.isSome o h = some (.val v n) := by
  have key : ∀ x : Option (Value × AHeap), aop C.E a C.ro.isSome o h = (match x with | some (y, h') => some (.val y h') | none => none) → aop C.E a C.ro.isSome o h = some (.val v n) := by
    intro x hx
    unfold estep at hs
    rw [hx] at hs ⊢
    cases x with
    | none => cases hs
    | some p => obtain ⟨p1, p2⟩ := p; cases hs; rfl
  unfold akind at hk
  split at hk
  case h_4 => cases hk
  · rename_i t hop; exact key (aalloc C.E.P t h) (by rw [aop_def]; unfold aopBig; simp only [hop]; cases aalloc C.E.P t h <;> rfl)
  · rename_i t x hop; exact key (abox t (a.ev C.E.gl x) h) (by rw [aop_def]; unfold aopBig; simp only [hop]; cases abox t (a.ev C.E.gl x) h <;> rfl)
  · rename_i t m ps hop; exact key (abuildSlice C.E.P t m (ps.toList.map fun (i, x) => (i, a.ev C.E.gl x)) h) (by rw [aop_def]; unfold aopBig; simp only [hop]; cases abuildSlice C.E.P t m (ps.toList.map fun (i, x) => (i, a.ev C.E.gl x)) h <;> rfl)

theorem ActR.ext {β : Emb} {a b : AAct} {a₁ : Act} (h : ActR β a a₁) (hn : b.nt = a.nt) (ht : ∀ t, t < a.nt → b.tmp t = a.tmp t) (hd : b.defers = a.defers) : ActR β b a₁ := by
  refine ⟨by rw [hn]; exact h.size, fun t => ?_, by rw [hd]; exact h.defers⟩
  by_cases hlt : t < a.nt
  · rw [ht t hlt]; exact h.tmp t
  · have e : b.tmp t = a.tmp t := by unfold AAct.tmp; rw [hn, if_neg hlt, if_neg hlt]
    rw [e]; exact h.tmp t

theorem pair_any {α : Type} {R : α → α → Prop} (hs : ∀ x y, R x y → R y x) : ∀ {l : List α}, l.Pairwise R → ∀ {x y : α}, x ∈ l → y ∈ l → x ≠ y → R x y := by
  intro l
  induction l with
  | nil => intro _ x y hx; cases hx
  | cons a l ih =>
    intro h x y hx hy hne
    rw [List.pairwise_cons] at h
    rcases List.mem_cons.1 hx with hxa | hx'
    · rcases List.mem_cons.1 hy with hya | hy'
      · exact absurd (hxa.trans hya.symm) hne
      · rw [hxa]; exact h.1 y hy'
    · rcases List.mem_cons.1 hy with hya | hy'
      · rw [hya]; exact hs _ _ (h.1 x hx')
      · exact ih h.2 hx' hy' hne

theorem sim (hC : CtxOK C) (F : CF C ops a0 h0 recs allocs effs tails hf hb hE pan) {b : Frame} {k : List Item} {c0 : Frame} {rs cs : List Frame} {β0 : Emb} {w0 : World} {u : Option FrameMode} (hk : KindR u b.kind) :
    ∀ (π X : List Nat) (a : AAct) (β : Emb) (a₁ : Act) (u₁ : Option FrameMode) (w : World) (h : AHeap) (ds es ts : List DRec), Good ops X π → InvA ops a0 recs pan X a →
      InvM C recs allocs effs tails hb hE β0 h0 w0 X β h w ds es ts → StR C.E β a u h a₁ u₁ w → RoR β C.ro b.roundOf →
      Goes C.E b (resOf a0 ops recs hE u pan) β0 h0 w0 (lone (b.atR a₁ (.inRegion ops π :: k)) (lay c0 rs cs u₁) w) k c0 rs cs := by
  intro π
  induction π with
  | nil =>
    intro X a β a₁ u₁ w h ds es ts hG I M S hro
    have hin : ∀ r ∈ recs, r.i ∈ X := fun r hr => hG _ ((Array.getElem?_eq_some_iff.1 (F.rf r hr).op).1)
    have hpan : pan = none := by
      cases hp : pan with
      | none => rfl
      | some p => obtain ⟨kk, ch, h'⟩ := p; obtain ⟨r, q1, q2, _⟩ := F.pk kk ch h' hp; exact absurd (q2 ▸ hin r q1) (I.np kk ch h' hp)
    subst hpan
    have hes : es = [] := by
      cases es with
      | nil => rfl
      | cons e es => exact absurd (hin e ((F.ef e).1 (by rw [M.split]; simp)).1) (M.eout e (by simp))
    have hts : ts = [] := by
      cases ts with
      | nil => rfl
      | cons e ts => exact absurd (hin e ((F.ta e).1 (M.sub.subset (by simp))).1) (M.tout e (by simp))
    subst hes
    subst hts
    have hq : HEq h hE := by
      rcases M.phase with ⟨h1, h2⟩ | ⟨_, _, _, hx, h3, h4⟩
      · have hT := F.hT
        rw [← h1] at hT
        cases h2
        cases hT
        exact HEq.refl _
      · simp only [List.map_nil, seqW] at h3
        cases h3
        exact h4
    have hact : ActR β (actEnd a0 recs) a₁ := by
      refine S.act.ext (by rw [actEnd_nt, I.nt]) (fun t hlt => ?_) (by rw [actEnd_defers, I.df])
      rw [I.nt] at hlt
      by_cases hex : ∃ y ∈ recs, y.d = some t
      · obtain ⟨y, hy, hyd⟩ := hex
        rw [I.i1 y hy (hin y hy) t hyd hlt]
        refine actEnd_some recs a0 t y.v hlt ?_ ⟨y, hy, hyd⟩
        intro z hz hzd
        have hFz := F.rf z hz
        have hFy := F.rf y hy
        rw [F.uniq hz hy (F.ud z.i y.i z.o y.o t hFz.op hFy.op (hFz.b.dst hzd) (hFy.b.dst hyd))]
      · rw [I.i2 t (fun r hr _ hd => hex ⟨r, hr, hd⟩)]
        exact actEnd_none recs a0 t (fun r hr hd => hex ⟨r, hr, hd⟩)
    exact ⟨β, a₁, u₁, w, .normal, ⟨S.hr.heq hq, S.gl, hact, S.u⟩, M.ext.heq hq, hk, .normal, .one stepR_region_end⟩
  | cons i π ih =>
    intro X a β a₁ u₁ w h ds es ts hG I M S hro
    obtain ⟨hi, hiX, hrd, hG'⟩ := hG
    have hrec : ∃ r ∈ recs, r.i = i := by
      rcases F.cov i hi with h1 | ⟨kk, ch, h', hp, hm⟩
      · exact h1
      · exact absurd (mask_mem F.bk I.closed _ i (Nat.lt_succ_self _) hrd hi kk hm) (I.np kk ch h' hp)
    obtain ⟨r, hr, rfl⟩ := hrec
    have hF := F.rf r hr
    have hag := I.agree F hr hiX hrd
    have hAg : Agree C.E a r.a r.o := agree_of hag
    have hAg' : Agree C.E r.a a r.o := fun x hx => (hAg x hx).symm
    have hwc : awanted ops a r.o = awanted ops r.a r.o := wanted_congr hag
    have hu : ∀ s ∈ recs, s.i = r.i → s = r := fun s hs he => F.uniq hs hr he
    have hes : ∀ s ∈ effs, s ∈ recs := fun s hs => ((F.ef s).1 hs).1
    have hts : ∀ s ∈ tails, s ∈ recs := fun s hs => ((F.ta s).1 hs).1
    have hnes : r.k ≠ .eff → r ∉ es := fun hne hc => hne ((F.ef r).1 (by rw [M.split]; exact List.mem_append_right _ hc)).2
    have hnts : r.k ≠ .tail → r ∉ ts := fun hne hc => hne ((F.ta r).1 (M.sub.subset hc)).2
    have hB := hF.b
    have hnp : ∀ {v : Value} {n : AHeap}, True → ∀ kk ch h', pan = some (kk, ch, h') → kk = r.i → False → False := fun _ _ _ _ _ _ h => h
    -- a step that keeps memory as told
    have quiet : ∀ {v : Value}, r.k ≠ .eff → r.k ≠ .tail → r.d = r.o.dst → r.v = v → awanted ops r.a r.o = some true → aquiet C.E r.a r.o h = some v → (∀ kk ch h', pan = some (kk, ch, h') → kk ≠ r.i) →
        Goes C.E b (resOf a0 ops recs hE u pan) β0 h0 w0 (lone (b.atR a₁ (.inRegion ops (r.i :: π) :: k)) (lay c0 rs cs u₁) w) k c0 rs cs := by
      intro v h1 h2 hd hv hw hq hpn
      have hq' : aquiet C.E a r.o h = some v := by rw [quiet_congr hAg]; exact hq
      have hop := aquiet_aop hq' C.ro.isSome
      have hst : astep C a u r.o h = some (.go v a.defers u h) := by unfold astep; rw [hop]
      have hw' := wanted_ok S.act (hwc.trans hw)
      obtain ⟨β', v', d', u₁', w', H', X', hvr, hdr, hu', hk', hss⟩ := step_ok (rest := π) (k := k) (c0 := c0) (rs := rs) (cs := cs) hC S hk hro hF.op hw' hst
      have hal : ∀ s ∈ allocs, s.i ∉ r.i :: X → β' s.h.n = none := by
        intro s hs hn
        obtain ⟨q1, q2⟩ := M.al s hs (fun hc => hn (List.mem_cons_of_mem _ hc))
        cases hb' : β' s.h.n with
        | none => rfl
        | some e => rw [X'.new _ e hb' q2] at q1; cases q1
      have I' := I.next F hr hiX hrd hd hpn
      rw [hv] at I'
      exact (ih (r.i :: X) (a.put r.o.dst v) β' _ u₁' w' h ds es ts hG' I' (M.quiet (hnes h1) (hnts h2) hu hes hts (M.ext.trans X') hal)
        ⟨H', S.gl.mono X'.le, ((S.act.mono X'.le).defer hdr).put hvr _, hu'⟩ (hro.mono X'.le)).of_steps (Ext.refl _ _ _) hss
    have hpne : r.k ≠ .eff → ∀ kk ch h', pan = some (kk, ch, h') → kk ≠ r.i := by
      intro hne kk ch h' hp hc
      obtain ⟨s, q1, q2, q3, _⟩ := F.pk kk ch h' hp
      have := hu s q1 (q2.trans hc)
      subst this
      exact hne q3
    -- from the machine's step to the rest
    have closeM : ∀ j, ((masks ops.toList []).getD r.i 0).testBit j = true → j ∈ X := fun j hj => mask_mem F.bk I.closed _ r.i (Nat.lt_succ_self _) hrd hi j hj
    have closeX : ∀ e ∈ X, ((masks ops.toList []).getD e 0).testBit r.i = true → False := fun e he hm => hiX (mask_mem F.bk I.closed _ e (Nat.lt_succ_self _) (I.closed _ he) (I.lt _ he) r.i hm)
    have hphase : (∃ s ∈ recs, (s.k = .load ∨ s.k = .alloc) ∧ s.i ∉ X) → ts = tails ∧ HeapT h es hb := by
      rintro ⟨s, q1, q2, q3⟩
      rcases M.phase with h1 | ⟨_, h2, _⟩
      · exact h1
      · exact absurd (h2 s q1 q2) q3
    unfold RB at hB
    split at hB
    · -- passed over
      rename_i hkd
      obtain ⟨hw, hv, hn, hd⟩ := hB
      have hw' := wanted_ok S.act (hwc.trans hw)
      have hs := stepR_op_skip (P := C.E.P) (b := b) (a := a₁) (k := k) (cs := lay c0 rs cs u₁) (w := w) (ops := ops) (i := r.i) (rest := π) (by simp [hF.op, hw'])
      simp only [hF.op, Option.bind_some] at hs
      have I' := I.next F hr hiX hrd hd (hpne (by rw [hkd]; simp))
      rw [hv] at I'
      exact (ih (r.i :: X) (a.put r.o.dst undef) β _ u₁ w h ds es ts hG' I' (M.quiet (hnes (by rw [hkd]; simp)) (hnts (by rw [hkd]; simp)) hu hes hts M.ext (fun s hs hn => (M.al s hs (fun hc => hn (List.mem_cons_of_mem _ hc))).1))
        ⟨S.hr, S.gl, S.act.put (VR.undef _) _, S.u⟩ hro).of_steps (Ext.refl _ _ _) (.one hs)
    · -- without memory
      rename_i hkd
      obtain ⟨hw, hl, hq, hn, hd⟩ := hB
      exact quiet (by rw [hkd]; simp) (by rw [hkd]; simp) hd rfl hw (aquiet_blind hl hq h) (hpne (by rw [hkd]; simp))
    · -- a look at memory
      rename_i hkd
      obtain ⟨hw, hq, hn, hd⟩ := hB
      obtain ⟨_, hH⟩ := hphase ⟨r, hr, .inl hkd, hiX⟩
      have hst := (F.st ds es h M.split hH).1
      unfold stageOk at hst
      rw [List.all_eq_true] at hst
      have h1 := hst r (by simp [recsOf, hr, hkd])
      simp only [Bool.or_eq_true, List.any_eq_true] at h1
      rcases h1 with (⟨e, he, hm⟩ | ⟨e, he, hm⟩) | h1
      · obtain ⟨s, hs, rfl⟩ := List.mem_map.1 he
        exact absurd (closeM _ hm) (M.eout s hs)
      · obtain ⟨s, hs, rfl⟩ := List.mem_map.1 he
        exact (closeX _ (M.din s hs) hm).elim
      · split at h1
        case h_2 => cases h1
        rename_i v hqv
        exact quiet (by rw [hkd]; simp) (by rw [hkd]; simp) hd (veq_eq h1).symm hw hqv (hpne (by rw [hkd]; simp))
    · -- a block is laid
      rename_i hkd
      obtain ⟨hw, hak, hes', hd⟩ := hB
      obtain ⟨hte, hH⟩ := hphase ⟨r, hr, .inr hkd, hiX⟩
      have hral : r ∈ allocs := (F.al r).2 ⟨hr, hkd⟩
      obtain ⟨hβ, hlt⟩ := M.al r hral hiX
      have haop := estep_alloc hak hes'
      rw [aop_congr hAg'] at haop
      rw [← hro.isSome] at haop
      obtain ⟨xs, t, l', v', hn, hl, hrun, hvr⟩ := op_raw (w := w) S.gl S.act hak haop
      have hcell : h.get r.h.n = some (.cells xs t 0 none 0) := by
        have hst := (F.st ds es h M.split hH).2
        rw [List.all_eq_true] at hst
        have h1 := hst r hral
        unfold allocOk at h1
        simp only [Bool.or_eq_true, List.any_eq_true] at h1
        rcases h1 with ⟨e, he, hm⟩ | h1
        · obtain ⟨s, hs, rfl⟩ := List.mem_map.1 he
          exact (closeX _ (M.din s hs) hm).elim
        · have hc1 : cellsOf? r.n r.h.n = some (xs, t) := by
            rw [hn]; simp [cellsOf?, AHeap.get_push]
          rw [hc1] at h1
          split at h1
          case h_2 => cases h1
          rename_i vs tt vs' tt' e1 e2
          cases e1
          simp only [Bool.and_eq_true, decide_eq_true_eq] at h1
          obtain ⟨rfl, h3⟩ := h1
          have := veqL_eq h3
          subst this
          unfold cellsOf? at e2
          split at e2
          · rename_i e3; cases e2; exact e3
          · cases e2
      have hw' := wanted_ok S.act (hwc.trans hw)
      have hss : Steps C.E.P (lone (b.atR a₁ (.inRegion ops (r.i :: π) :: k)) (lay c0 rs cs u₁) w) (lone (b.atR (a₁.put r.o.dst v') (.inRegion ops π :: k)) (lay c0 rs cs u₁) (w.alloc (.cells (l'.toArray ++ #[]) t))) := by
        refine steps_one (d := a₁.defers) hF.op hw' ?_
        have hfin : ∀ v, (b.atR a₁ (.inRegion ops (r.i :: π) :: k)).finish v = b.atR (({ a₁ with defers := a₁.defers } : Act).put r.o.dst v) (.inRegion ops π :: k) := by
          intro v; rw [Frame.finish_atR, hF.op]; rfl
        rw [← hfin]; simp [stepG.apply, hrun]
      have H' := S.hr.late hβ hcell hl
      have hle : Emb.le β (β.upd r.h.n ⟨w.heap.size, 0, l'.length + (#[] : Array Value).size⟩) := Emb.le_upd hβ
      have X' := M.ext.late (e := ⟨w.heap.size, 0, l'.length + (#[] : Array Value).size⟩) hβ rfl (F.ge r hral) (.cells (l'.toArray ++ #[]) t)
      have hal : ∀ s ∈ allocs, s.i ∉ r.i :: X → (β.upd r.h.n ⟨w.heap.size, 0, l'.length + (#[] : Array Value).size⟩) s.h.n = none := by
        intro s hs hn
        have hne : s ≠ r := fun hc => hn (by simp [hc])
        have hnn : s.h.n ≠ r.h.n := by
          exact pair_any (fun _ _ h => Ne.symm h) F.ids hs hral hne
        rw [Emb.upd_other _ _ hnn]
        exact (M.al s hs (fun hc => hn (List.mem_cons_of_mem _ hc))).1
      have I' := I.next F hr hiX hrd hd (hpne (by rw [hkd]; simp))
      exact (ih (r.i :: X) (a.put r.o.dst r.v) _ _ u₁ _ h ds es ts hG' I' (M.quiet (hnes (by rw [hkd]; simp)) (hnts (by rw [hkd]; simp)) hu hes hts X' hal)
        ⟨H', S.gl.mono hle, (S.act.mono hle).put (hvr _ (Emb.upd_same _ _ _)) _, S.u.mono hle⟩ (hro.mono hle)).of_steps (Ext.refl _ _ _) hss
    · -- an effect
      rename_i hkd
      obtain ⟨hw, hst⟩ := hB
      have hre : r ∈ effs := (F.ef r).2 ⟨hr, hkd⟩
      have hre' : r ∈ es := by
        rw [M.split] at hre
        rcases List.mem_append.1 hre with h1 | h1
        · exact absurd (M.din r h1) hiX
        · exact h1
      obtain ⟨m1, m2, hm⟩ := List.append_of_mem hre'
      have hm1 : m1 = [] := by
        rcases List.eq_nil_or_concat m1 with h1 | ⟨m0, p, h1⟩
        · exact h1
        · exfalso
          rw [h1] at hm
          have hc := F.chain (ds ++ m0) m2 p r (by rw [M.split, hm]; simp)
          exact M.eout p (by rw [hm]; simp) (closeM _ hc)
      subst hm1
      simp only [List.nil_append] at hm
      have hA : ts = tails ∧ HeapT h es hb := by
        rcases M.phase with h1 | ⟨h1, _⟩
        · exact h1
        · rw [hm] at h1; cases h1
      obtain ⟨hte, hH⟩ := hA
      rw [hm] at hH
      obtain ⟨hrh, hH2⟩ := hH
      have hw' := wanted_ok S.act (hwc.trans hw)
      rcases hst with ⟨hst, hd⟩ | ⟨ch, h', hp, hst, hd⟩
      · have hst' : estep C a r.o h = some (.go r.v r.n) := by rw [estep_congr hAg, ← hrh]; exact hst
        obtain ⟨β', v', d', u₁', w', H', X', hvr, hdr, hu', hk', hss⟩ := step_ok (rest := π) (k := k) (c0 := c0) (rs := rs) (cs := cs) hC S hk hro hF.op hw' (estep_go hst' u)
        have hpn : ∀ kk ch h', pan = some (kk, ch, h') → kk ≠ r.i := by
          intro kk ch h' hp hc
          obtain ⟨s, q1, q2, q3, ch2, hh2, q4⟩ := F.pk kk ch h' hp
          have := hu s q1 (q2.trans hc)
          subst this
          rw [hst] at q4
          cases q4
        have I' := I.next F hr hiX hrd hd hpn
        have M' : InvM C recs allocs effs tails hb hE β0 h0 w0 (r.i :: X) β' r.n w' (ds ++ [r]) m2 ts := by
          refine ⟨M.ext.trans X', ?_, by rw [M.split, hm]; simp, ?_, ?_, M.sub, ?_, ?_, .inl ⟨hte, hH2⟩⟩
          · intro s hs hn
            obtain ⟨q1, q2⟩ := M.al s hs (fun hc => hn (List.mem_cons_of_mem _ hc))
            refine ⟨?_, Nat.lt_of_lt_of_le q2 X'.n⟩
            cases hb' : β' s.h.n with
            | none => rfl
            | some e => rw [X'.new _ e hb' q2] at q1; cases q1
          · intro s hs
            rcases List.mem_append.1 hs with h1 | h1
            · exact List.mem_cons_of_mem _ (M.din s h1)
            · simp at h1; simp [h1]
          · intro s hs hc
            rcases List.mem_cons.1 hc with hc | hc
            · have hsr := hu s (hes s (by rw [M.split, hm]; simp [hs])) hc
              subst hsr
              -- twice among the effects
              obtain ⟨n1, n2, hn2⟩ := List.append_of_mem hs
              rcases List.eq_nil_or_concat n1 with h1 | ⟨n0, p, h1⟩
              · subst h1
                have hc := F.chain ds n2 s s (by rw [M.split, hm, hn2]; simp)
                exact hiX (closeM _ hc)
              · have hc := F.chain (ds ++ s :: n0) n2 p s (by rw [M.split, hm, hn2, h1]; simp)
                exact M.eout p (by rw [hm, hn2, h1]; simp) (closeM _ hc)
            · exact M.eout s (by rw [hm]; simp [hs]) hc
          · intro s hs
            rcases M.tin s hs with h | h
            · exact .inl (List.mem_cons_of_mem _ h)
            · exact .inr h
          · intro s hs hc
            rcases List.mem_cons.1 hc with hc | hc
            · have := hu s (hts s (M.sub.subset hs)) hc
              subst this
              exact hnts (by rw [hkd]; simp) hs
            · exact M.tout s hs hc
        exact (ih (r.i :: X) (a.put r.o.dst r.v) β' _ u₁' w' r.n (ds ++ [r]) m2 ts hG' I' M'
          ⟨H', S.gl.mono X'.le, ((S.act.mono X'.le).defer hdr).put hvr _, hu'⟩ (hro.mono X'.le)).of_steps (Ext.refl _ _ _) hss
      · have hst' : estep C a r.o h = some (.panic ch h') := by rw [estep_congr hAg, ← hrh]; exact hst
        obtain ⟨β', ch', w', todo, H', X', hch, hss⟩ := step_ok (rest := π) (k := k) (c0 := c0) (rs := rs) (cs := cs) hC S hk hro hF.op hw' (estep_panic hst' u)
        subst hp
        refine ⟨β', a₁, u₁, w', .panic ch', ⟨H', S.gl.mono X'.le, ?_, S.u.mono X'.le⟩, M.ext.trans X', hk, .panic _ _ hch, todo, hss⟩
        have hAA := S.act.mono X'.le
        have hj := junkAll_nt ops.toList a0
        refine ⟨by show _ = (ops.toList.foldl _ a0).nt; rw [hj.1, ← I.nt]; exact hAA.size, fun t => ?_, by show DsR _ (ops.toList.foldl _ a0).defers _; rw [hj.2, ← I.df]; exact hAA.defers⟩
        show VR β' ((ops.toList.foldl _ a0).tmp t) _
        rcases junkAll_tmp ops.toList a0 t with h1 | ⟨h1, h2⟩
        · rw [h1]; exact .junk _
        · rw [h1]
          have : a.tmp t = a0.tmp t := by
            by_cases hlt : t < a0.nt
            · refine I.i2 t (fun s hs _ hd => ?_)
              have hFs := F.rf s hs
              exact h2 hlt s.o (by simpa using Array.mem_of_getElem? hFs.op) (hFs.b.dst hd)
            · unfold AAct.tmp; rw [I.nt, if_neg hlt, if_neg hlt]
          rw [← this]
          exact hAA.tmp t
    · -- a store at the end
      rename_i hkd
      obtain ⟨hw, hsk, hst, hd⟩ := hB
      have hrt : r ∈ tails := (F.ta r).2 ⟨hr, hkd⟩
      have hrts : r ∈ ts := (M.tin r hrt).resolve_left hiX
      have hloud : ∀ s ∈ recs, s.k = .eff ∨ s.k = .load ∨ s.k = .alloc → s.i ∈ X := fun s hs hk => closeM _ (F.tl r hrt s hs hk)
      have hes0 : es = [] := by
        cases hes2 : es with
        | nil => rfl
        | cons e es2 =>
          have he : e ∈ effs := by rw [M.split, hes2]; simp
          exact absurd (hloud e (hes e he) (.inl ((F.ef e).1 he).2)) (M.eout e (by rw [hes2]; simp))
      have hB : (∀ B, h.rootAt B = hb.rootAt B) ∧ ∃ hx, seqW (ts.map (triOf C)) h = some hx ∧ HEq hx hE := by
        rcases M.phase with ⟨h1, h2⟩ | ⟨_, _, h3⟩
        · rw [hes0] at h2
          cases h2
          rw [h1]
          exact ⟨fun _ => rfl, hE, seq_tails F (fun _ h => h) F.hT, HEq.refl _⟩
        · exact h3
      obtain ⟨hroot, hx, hseq, hxe⟩ := hB
      obtain ⟨l1, l2, hl⟩ := List.append_of_mem hrts
      have hsp := F.sp.sublist M.sub
      rw [hl, List.pairwise_append] at hsp
      rw [hl] at hseq
      simp only [List.map_append, List.map_cons] at hseq
      obtain ⟨h1, h'', hw1, hseq2, hxe2⟩ := seqW_front (x := triOf C r) (l1 := l1.map (triOf C)) (l2 := l2.map (triOf C)) (fun s hs => by
        obtain ⟨y, hy, rfl⟩ := List.mem_map.1 hs
        exact fun i j hi hj => (hsp.2.2 y hy r (by simp) i j hi hj).of_root hroot) hseq
      obtain ⟨hv, _, hother⟩ := tail_store hsk hst
      have hst' : estep C a r.o h = some (.go undef h1) := by rw [estep_congr hAg]; exact hother h h1 hw1
      have hw' := wanted_ok S.act (hwc.trans hw)
      obtain ⟨β', v', d', u₁', w', H', X', hvr, hdr, hu', hk', hss⟩ := step_ok (rest := π) (k := k) (c0 := c0) (rs := rs) (cs := cs) hC S hk hro hF.op hw' (estep_go hst' u)
      have I' := I.next F hr hiX hrd hd (hpne (by rw [hkd]; simp))
      rw [hv] at I'
      have hsub : (l1 ++ l2).Sublist tails := List.Sublist.trans (by rw [hl]; exact List.Sublist.append (List.Sublist.refl _) (List.sublist_cons_self _ _)) M.sub
      have hnd : r ∉ l1 ++ l2 := by
        have hn := F.tn.sublist M.sub
        rw [hl, List.nodup_append] at hn
        intro hc
        rcases List.mem_append.1 hc with h | h
        · exact hn.2.2 r h r (by simp) rfl
        · exact (List.nodup_cons.1 hn.2.1).1 h
      have M' : InvM C recs allocs effs tails hb hE β0 h0 w0 (r.i :: X) β' h1 w' ds es (l1 ++ l2) := by
        refine ⟨M.ext.trans X', ?_, M.split, fun s hs => List.mem_cons_of_mem _ (M.din s hs), ?_, hsub, ?_, ?_, .inr ⟨hes0, fun s hs hk => List.mem_cons_of_mem _ (hloud s hs (.inr hk)), ?_, h'', by rw [List.map_append]; exact hseq2, hxe2.symm.trans hxe⟩⟩
        · intro s hs hn
          exact absurd (List.mem_cons_of_mem _ (hloud s ((F.al s).1 hs).1 (.inr (.inr ((F.al s).1 hs).2)))) hn
        · intro s hs hc
          rw [hes0] at hs
          cases hs
        · intro s hs
          rcases M.tin s hs with h | h
          · exact .inl (List.mem_cons_of_mem _ h)
          · rw [hl] at h
            rcases List.mem_append.1 h with h | h
            · exact .inr (List.mem_append_left _ h)
            · rcases List.mem_cons.1 h with h | h
              · exact .inl (by simp [h])
              · exact .inr (List.mem_append_right _ h)
        · intro s hs hc
          rcases List.mem_cons.1 hc with hc | hc
          · have := hu s (hts s (hsub.subset hs)) hc
            subst this
            exact hnd hs
          · refine M.tout s ?_ hc
            rw [hl]
            rcases List.mem_append.1 hs with h | h
            · exact List.mem_append_left _ h
            · exact List.mem_append_right _ (List.mem_cons_of_mem _ h)
        · intro B; rw [wrN_root hw1, hroot]
      exact (ih (r.i :: X) (a.put r.o.dst undef) β' _ u₁' w' h1 ds es (l1 ++ l2) hG' I' M'
        ⟨H', S.gl.mono X'.le, ((S.act.mono X'.le).defer hdr).put hvr _, hu'⟩ (hro.mono X'.le)).of_steps (Ext.refl _ _ _) hss
end Go.Eng

set_option linter.unusedVariables false
set_option linter.unusedSimpArgs false
namespace Go.Eng

variable {C : Ctx} {ops : Array Oper} {a0 : AAct} {h0 : AHeap} {hf hb hE : AHeap} {pan : Pan}

theorem alloc_shape {E : Env} {a : AAct} {o : Oper} {h n : AHeap} {v : Value} {ro : Bool} (hk : akind o = true) (hs : aop E a ro o h = some (.val v n)) : ∃ xs t, n = h.push (.cells xs t 0 none 0) := by
  have inv : ∀ x : Option (Value × AHeap), (match x with | some (y, h') => some (AOut.val y h') | none => none) = some (.val v n) → x = some (v, n) := by
    intro x hx
    cases x with
    | none => cases hx
    | some p => obtain ⟨p1, p2⟩ := p; cases hx; rfl
  unfold akind at hk
  rw [aop_def] at hs
  unfold aopBig at hs
  split at hk
  case h_4 => cases hk
  · rename_i t hop
    simp only [hop] at hs
    have := inv _ hs
    unfold aalloc at this
    (repeat' split at this) <;> first | (cases this; done) | (cases this; exact ⟨_, _, rfl⟩)
  · rename_i t x hop
    simp only [hop] at hs
    have := inv _ hs
    unfold abox at this
    (repeat' split at this) <;> first | (cases this; done) | (cases this; exact ⟨_, _, rfl⟩)
  · rename_i t m ps hop
    simp only [hop] at hs
    have := inv _ hs
    unfold abuildSlice at this
    (repeat' split at this) <;> first | (cases this; done) | (cases this; exact ⟨_, _, rfl⟩)

theorem floats_ok {β0 β : Emb} {g0 : AHeap} {w0 w : World} : ∀ {l : List DRec} {g g' : AHeap}, (∀ r ∈ l, ∃ xs t, r.n = r.h.push (.cells xs t 0 none 0)) → HeapT g l g' → HR β g w.heap → Ext β0 g0 w0 β g w →
    HR β g' w.heap ∧ Ext β0 g0 w0 β g' w ∧ g.n ≤ g'.n ∧ ∀ r ∈ l, r.h.n < g'.n := by
  intro l
  induction l with
  | nil => intro g g' _ hT H X; cases hT; exact ⟨H, X, Nat.le_refl _, fun r hr => by cases hr⟩
  | cons r l ih =>
    intro g g' hs hT H X
    obtain ⟨rfl, hT⟩ := hT
    obtain ⟨xs, t, hn⟩ := hs r (by simp)
    rw [hn] at hT
    obtain ⟨h1, h2, h3, h4⟩ := ih (fun s hs' => hs s (List.mem_cons_of_mem _ hs')) hT (H.push0 _ rfl) (X.push0 H _)
    simp only [AHeap.n_push] at h3
    refine ⟨h1, h2, by omega, fun s hs' => ?_⟩
    rcases List.mem_cons.1 hs' with rfl | hs'
    · omega
    · exact h4 s hs'

theorem spans_read : ∀ {l : List (Option (Nat × Nat × Nat × Option Nat))}, spansOk l = true → l.Pairwise fun s t => ∃ s' t', s = some s' ∧ t = some t' ∧ apartSpans s' t' = true := by
  intro l
  induction l with
  | nil => intro _; exact List.Pairwise.nil
  | cons s l ih =>
    intro h
    cases s with
    | none => cases h
    | some s =>
      simp only [spansOk, Bool.and_eq_true, List.all_eq_true] at h
      refine List.Pairwise.cons ?_ (ih h.2)
      intro t ht
      have := h.1 t ht
      split at this
      · rename_i t'; exact ⟨s, t', rfl, rfl, this⟩
      · cases this

theorem span_tri {r : DRec} {B o n : Nat} {root : Option Nat} (h : spanOf C.E r = some (B, o, n, root)) : ∃ l, triOf C r = ⟨B, o, l⟩ ∧ l.length = n ∧ r.h.rootAt B = some root := by
  unfold spanOf at h
  unfold triOf
  split at h
  case h_2 => cases h
  rename_i t x y hop
  split at h
  case h_2 => cases h
  rename_i B' o' hx
  split at h
  case h_2 => cases h
  rename_i vs tt st root' fz hg
  cases h
  rw [hop]
  simp only [hx]
  exact ⟨_, rfl, by simp, by simp [AHeap.rootAt, hg, AObj.root]⟩

theorem tail_roots : ∀ {l : List DRec} {g g' : AHeap}, (∀ r ∈ l, r.h.wrN (triOf C r).B (triOf C r).o (triOf C r).l = some r.n) → HeapT g l g' → ∀ r ∈ l, ∀ X, r.h.rootAt X = g.rootAt X := by
  intro l
  induction l with
  | nil => intro g g' _ _ r hr; cases hr
  | cons s l ih =>
    intro g g' hw hT r hr X
    obtain ⟨rfl, hT⟩ := hT
    rcases List.mem_cons.1 hr with rfl | hr
    · rfl
    · rw [ih (fun x hx => hw x (List.mem_cons_of_mem _ hx)) hT r hr X, wrN_root (hw s (by simp)) X]

theorem nodup_map {l : List DRec} (h : (l.map (·.i)).Nodup) : l.Nodup := List.Pairwise.of_map _ (fun _ _ hne hc => hne (by rw [hc])) h

theorem mkCF {r1 r2 r3 : List DRec} (h1 : ∀ r ∈ r1, RF C ops pan r ∧ (r.k = .alloc ∨ quietKd r.k = true)) (h2 : ∀ r ∈ r2, RF C ops pan r ∧ (r.k = .eff ∨ quietKd r.k = true)) (h3 : ∀ r ∈ r3, RF C ops pan r ∧ (r.k = .tail ∨ quietKd r.k = true))
    (hact : ActT a0 (r1 ++ (r2 ++ r3))) (t1 : HeapT h0 r1 hf) (t2 : HeapT hf r2 hb) (t3 : HeapT hb r3 hE)
    (hok : drawOk C ops (masks ops.toList []) h0 r1 r2 r3 hb (pan.map (·.1)) = true)
    (hpk : ∀ k ch h', pan = some (k, ch, h') → ∃ r ∈ r2, r.i = k ∧ r.k = .eff ∧ ∃ ch' hh', estep C r.a r.o r.h = some (.panic ch' hh')) :
    CF C ops a0 h0 (r1 ++ (r2 ++ r3)) (recsOf .alloc r1) (recsOf .eff r2) (recsOf .tail r3) hf hb hE pan := by
  unfold drawOk at hok
  simp only [Bool.and_eq_true] at hok
  obtain ⟨⟨⟨⟨⟨⟨⟨c1, c2⟩, c3⟩, c4⟩, c5⟩, c6⟩, c7⟩, c8⟩ := hok
  obtain ⟨hbk, hud⟩ := reg_read c1
  have hrf : ∀ r ∈ r1 ++ (r2 ++ r3), RF C ops pan r := by
    intro r hr
    rcases List.mem_append.1 hr with hr | hr
    · exact (h1 r hr).1
    · rcases List.mem_append.1 hr with hr | hr
      · exact (h2 r hr).1
      · exact (h3 r hr).1
  have hord : ∀ l1 r l2, r1 ++ (r2 ++ r3) = l1 ++ r :: l2 → r.i ∉ l1.map (·.i) ∧ ∀ t ∈ readsOf ops r.o, ∀ (y : Nat) (oy : Oper), ops[y]? = some oy → oy.dst = some t → y ≠ r.i →
      (y ∈ l1.map (·.i) ∧ ((masks ops.toList []).getD r.i 0).testBit y = true) ∨ (y ∉ l1.map (·.i) ∧ ((masks ops.toList []).getD y 0).testBit r.i = true) := by
    intro l1 r l2 hl
    obtain ⟨⟨q1, q2⟩, o, ho, q3⟩ := ord_read c2 (l1 := l1.map (·.i)) (l2 := l2.map (·.i)) (i := r.i) (by rw [hl]; simp)
    have hF := hrf r (by rw [hl]; simp)
    rw [hF.op] at ho
    cases ho
    refine ⟨q2, fun t ht y oy hy hd hne => ?_⟩
    rcases q3 t ht y oy hy hd hne with ⟨q, qm⟩ | ⟨q, qm⟩
    · refine .inl ⟨?_, qm⟩
      rcases q with q | q
      · simp at q
      · exact q
    · exact .inr ⟨q.2, qm⟩
  have hnd : (r1 ++ (r2 ++ r3)).Nodup := by
    refine nodup_map ?_
    have key : ∀ {l : List Nat} {x : Nat}, ordOk ops (masks ops.toList []) l x = true → l.Nodup := by
      intro l
      induction l with
      | nil => intro x _; exact List.nodup_nil
      | cons i l ih =>
        intro x hx
        have hrest : ordOk ops (masks ops.toList []) l (x ||| 2 ^ i) = true := by
          simp only [ordOk, Bool.and_eq_true] at hx; exact hx.2
        refine List.nodup_cons.2 ⟨fun hc => ?_, ih hrest⟩
        obtain ⟨m1, m2, hm⟩ := List.append_of_mem hc
        have := (ord_read hx (l1 := i :: m1) (l2 := m2) (i := i) (by rw [hm]; simp)).1.2
        simp at this
    exact key c2
  have kk : ∀ {k k' : Kd}, k = k' ∨ quietKd k = true → quietKd k' = false → ∀ k2, k = k2 → quietKd k2 = false → k2 = k' := by
    intro k k' h hq k2 he hq2
    rcases h with h | h
    · exact he.symm.trans h
    · rw [he, hq2] at h; cases h
  have htw : ∀ r ∈ recsOf .tail r3, r.h.wrN (triOf C r).B (triOf C r).o (triOf C r).l = some r.n := by
    intro r hr
    obtain ⟨q1, q2⟩ := List.mem_filter.1 hr
    have hb := (h3 r q1).1.b
    unfold RB at hb
    rw [of_decide_eq_true q2] at hb
    exact (tail_store hb.2.1 hb.2.2.1).2.1
  have t3' := HeapT.filter h3 (kd := .tail) rfl t3
  refine { rf := hrf, act := hact, al := ?_, ef := ?_, ta := ?_, hA := HeapT.filter h1 (kd := .alloc) rfl t1, hEf := HeapT.filter h2 (kd := .eff) rfl t2, hT := t3', bk := hbk, ud := hud, ord := hord, cov := ?_, chain := ?_, ids := (ids_read c5).2, ge := (ids_read c5).1, st := ?_, tl := ?_, sp := ?_, pk := ?_, tn := ?_ }
  · intro r
    simp only [recsOf, List.mem_filter, decide_eq_true_eq, List.mem_append]
    constructor
    · rintro ⟨q1, q2⟩; exact ⟨.inl q1, q2⟩
    · rintro ⟨q1 | q1 | q1, q2⟩
      · exact ⟨q1, q2⟩
      · have := kk (h2 r q1).2 rfl _ q2 rfl; cases this
      · have := kk (h3 r q1).2 rfl _ q2 rfl; cases this
  · intro r
    simp only [recsOf, List.mem_filter, decide_eq_true_eq, List.mem_append]
    constructor
    · rintro ⟨q1, q2⟩; exact ⟨.inr (.inl q1), q2⟩
    · rintro ⟨q1 | q1 | q1, q2⟩
      · have := kk (h1 r q1).2 rfl _ q2 rfl; cases this
      · exact ⟨q1, q2⟩
      · have := kk (h3 r q1).2 rfl _ q2 rfl; cases this
  · intro r
    simp only [recsOf, List.mem_filter, decide_eq_true_eq, List.mem_append]
    constructor
    · rintro ⟨q1, q2⟩; exact ⟨.inr (.inr q1), q2⟩
    · rintro ⟨q1 | q1 | q1, q2⟩
      · have := kk (h1 r q1).2 rfl _ q2 rfl; cases this
      · have := kk (h2 r q1).2 rfl _ q2 rfl; cases this
      · exact ⟨q1, q2⟩
  · intro i hi
    rw [List.all_eq_true] at c3
    have := c3 i (by simpa using hi)
    simp only [Bool.or_eq_true, List.any_eq_true, beq_iff_eq] at this
    rcases this with ⟨r, hr, he⟩ | h
    · exact .inl ⟨r, hr, he⟩
    · refine .inr ?_
      cases hp : pan with
      | none => rw [hp] at h; cases h
      | some p =>
        obtain ⟨k, ch, h'⟩ := p
        rw [hp] at h
        exact ⟨k, ch, h', rfl, h⟩
  · intro l1 l2 a b hl
    exact chain_read c4 (l1 := l1.map (·.i)) (l2 := l2.map (·.i)) (by rw [hl]; simp)
  · intro ds es h hl hH
    have := stages_read (ds := ds) (es := es) (pre := []) (by rw [← hl]; exact c6) hH
    simpa using this
  · intro r hr s hs hk
    rw [List.all_eq_true] at c7
    have h1 := c7 r hr
    rw [List.all_eq_true] at h1
    exact h1 s (by
      refine List.mem_filter.2 ⟨hs, ?_⟩
      rcases hk with hk | hk | hk <;> simp [hk])
  · have hp := spans_read c8
    rw [List.pairwise_map] at hp
    have hroots := tail_roots htw t3'
    refine List.Pairwise.imp_of_mem ?_ hp
    rintro r s hr hs ⟨⟨B, o, n, ro⟩, ⟨B', o', n', ro'⟩, e1, e2, hap⟩ i j hi hj
    obtain ⟨l, q1, q2, q3⟩ := span_tri e1
    obtain ⟨l', q1', q2', q3'⟩ := span_tri e2
    rw [q1] at hi ⊢
    rw [q1'] at hj ⊢
    simp only at hi hj ⊢
    rw [hroots r hr] at q3
    rw [hroots s hs] at q3'
    unfold apartSpans at hap
    simp only at hap
    refine ⟨fun he => ?_, fun hne q hq hq' => ?_⟩
    · rw [if_pos he] at hap
      simp only [Bool.or_eq_true, decide_eq_true_eq] at hap
      rcases hap with hap | hap <;> omega
    · rw [if_neg hne] at hap
      rw [hq] at q3
      rw [hq'] at q3'
      cases q3
      cases q3'
      simp at hap
  · intro k ch h' hp
    obtain ⟨r, q1, q2⟩ := hpk k ch h' hp
    exact ⟨r, by simp [q1], q2⟩
  · have := (List.nodup_append.1 (List.nodup_append.1 hnd).2.1).2.1
    exact this.sublist List.filter_sublist

theorem draw_run (hC : CtxOK C) {r1 r2 r3 : List DRec} (F : CF C ops a0 h0 (r1 ++ (r2 ++ r3)) (recsOf .alloc r1) (recsOf .eff r2) (recsOf .tail r3) hf hb hE pan) {id : Nat} {b : Frame} {k : List Item} {c0 : Frame} {rs cs : List Frame} {β : Emb} {a₁ : Act} {u u₁ : Option FrameMode} {w : World}
    (S : StR C.E β a0 u h0 a₁ u₁ w) (hk : KindR u b.kind) (hro : RoR β C.ro b.roundOf) :
    Goes C.E b (resOf a0 ops (r1 ++ (r2 ++ r3)) hE u pan) β h0 w (lone (b.atR a₁ (.code (.region id ops true) :: k)) (lay c0 rs cs u₁) w) k c0 rs cs := by
  have hs := stepR_region_draw (P := C.E.P) (b := b) (a := a₁) (k := k) (cs := lay c0 rs cs u₁) (w := w) (ops := ops) (id := id)
  rw [hC.env.mixed] at hs
  have hG := schedule_good F.bk (w.tape w.drawn (.order b.fn id))
  have hshape : ∀ r ∈ recsOf .alloc r1, ∃ xs t, r.n = r.h.push (.cells xs t 0 none 0) := by
    intro r hr
    obtain ⟨q1, q2⟩ := (F.al r).1 hr
    have hb := (F.rf r q1).b
    unfold RB at hb
    rw [q2] at hb
    exact alloc_shape hb.2.1 (estep_alloc hb.2.1 hb.2.2.1)
  obtain ⟨H1, X1, hle, hlt⟩ := floats_ok (w := { w with drawn := w.drawn + 1 }) hshape F.hA S.hr (Ext.drew β h0 w)
  have M : InvM C (r1 ++ (r2 ++ r3)) (recsOf .alloc r1) (recsOf .eff r2) (recsOf .tail r3) hb hE β h0 w [] β hf { w with drawn := w.drawn + 1 } [] (recsOf .eff r2) (recsOf .tail r3) := by
    refine ⟨X1, (fun r hr _ => ⟨?_, hlt r hr⟩), rfl, (fun r hr => (by cases hr)), (fun r _ hc => (by cases hc)), List.Sublist.refl _, (fun r hr => .inr hr), (fun r _ hc => (by cases hc)), .inl ⟨rfl, F.hEf⟩⟩
    cases hb' : β r.h.n with
    | none => rfl
    | some e => have := (S.hr.dom _ e hb').1; have := F.ge r hr; omega
  have I : InvA ops a0 (r1 ++ (r2 ++ r3)) pan [] a0 :=
    ⟨(fun i hi => (by cases hi)), (fun i hi => (by cases hi)), rfl, rfl, (fun r _ hc => (by cases hc)), (fun t _ => rfl), (fun i hi => (by cases hi)), (fun k ch h' _ hc => (by cases hc))⟩
  exact (sim hC F hk _ [] a0 β a₁ u₁ _ hf [] _ _ hG I M ⟨H1, S.gl, S.act, S.u⟩ hro).of_steps (Ext.refl _ _ _) (.one hs)

theorem sec_map {kd : Kd} : ∀ {l : List Nat} {a : AAct} {h : AHeap} {recs : List DRec} {a' : AAct} {h' : AHeap}, dsec C ops kd l a h = some (recs, .done a' h') → recs.map (·.i) = l := by
  intro l
  induction l with
  | nil => intro a h recs a' h' hr; cases hr; rfl
  | cons i l ih =>
    intro a h recs a' h' hr
    simp only [dsec] at hr
    split at hr
    · cases hr
    split at hr
    · cases hr
    · split at hr
      case h_2 => cases hr
      rename_i l1 e1 hl1
      cases hr
      simp [ih hl1]
    · split at hr
      · split at hr
        case h_2 => cases hr
        rename_i l1 e1 hl1
        cases hr
        simp [ih hl1]
      · split at hr
        case isFalse => cases hr
        split at hr
        · split at hr
          case h_2 => cases hr
          rename_i l1 e1 hl1
          cases hr
          simp [ih hl1]
        · split at hr <;> cases hr
        · cases hr

theorem stages_empty {E : Env} {ms : List Nat} {last : AHeap} : ∀ (es : List DRec) (pre : List Nat), stagesOk E ms [] [] last pre es = true := by
  intro es
  induction es with
  | nil => intro pre; simp [stagesOk, stageOk]
  | cons e es ih => intro pre; simp [stagesOk, stageOk, ih]

theorem draw_of {r1 r2 r3 : List DRec} {l : List Nat} {base : AHeap} (hm : (r1 ++ (r2 ++ r3)).map (·.i) = l) (hs : staticOk ops l = true) (hd : dynOk C (masks ops.toList []) h0 r1 r2 r3 base = true) :
    drawOk C ops (masks ops.toList []) h0 r1 r2 r3 base none = true := by
  unfold staticOk at hs
  unfold dynOk at hd
  unfold drawOk
  simp only [Bool.and_eq_true] at hs hd ⊢
  obtain ⟨⟨s1, s2⟩, s3⟩ := hs
  obtain ⟨⟨⟨d1, d2⟩, d3⟩, d4⟩ := hd
  refine ⟨⟨⟨⟨⟨⟨⟨s1, by rw [hm]; exact s2⟩, ?_⟩, d1⟩, d2⟩, ?_⟩, ?_⟩, ?_⟩
  · rw [List.all_eq_true] at s3 ⊢
    intro i hi
    have := s3 i hi
    rw [← hm, List.any_map] at this
    simp only [Bool.or_false]
    exact this
  · rw [Bool.or_eq_true] at d3
    rcases d3 with d3 | d3
    · simp only [Bool.and_eq_true, List.isEmpty_iff] at d3
      rw [d3.1, d3.2]
      exact stages_empty _ _
    · exact d3
  · rw [Bool.or_eq_true] at d4
    rcases d4 with d4 | d4
    · rw [List.isEmpty_iff] at d4
      rw [d4]; rfl
    · simp only [Bool.and_eq_true] at d4
      exact d4.1
  · rw [Bool.or_eq_true] at d4
    rcases d4 with d4 | d4
    · rw [List.isEmpty_iff] at d4
      rw [d4]; rfl
    · simp only [Bool.and_eq_true] at d4
      exact d4.2

theorem draw_ok (hC : CtxOK C) : DrawOK C := by
  intro id ops a u h r hr b k c0 rs cs β a₁ u₁ w S hk hfn hro
  unfold adraw at hr
  simp only at hr
  split at hr
  case h_2 => cases hr
  rename_i r1 a1 h1 e1
  split at hr
  · rename_i r2 a2 h2 e2
    split at hr
    case h_2 => cases hr
    rename_i r3 a3 h3 e3
    split at hr
    case isFalse => cases hr
    rename_i hok
    cases hr
    simp only [Bool.and_eq_true] at hok
    have hok := draw_of (by rw [List.map_append, List.map_append, sec_map e1, sec_map e2, sec_map e3]) hok.1 hok.2
    obtain ⟨f1, t1, g1, p1⟩ := sec_facts (.inl rfl) none e1 (.inl rfl)
    obtain ⟨f2, t2, g2, p2⟩ := sec_facts (.inr (.inl rfl)) none e2 (.inl rfl)
    obtain ⟨f3, t3, g3, p3⟩ := sec_facts (.inr (.inr rfl)) none e3 (.inl rfl)
    simp only [endA, endH] at g1 g2 g3 p1 p2 p3
    have F := mkCF (hE := h3) f1 f2 f3 (t1.append (by rw [g1]; exact t2.append (by rw [g2]; exact t3))) p1 p2 p3 hok (fun k ch h' hp => by cases hp)
    have g := draw_run hC F S hk hro (id := id) (k := k) (c0 := c0) (rs := rs) (cs := cs)
    have he : actEnd a (r1 ++ (r2 ++ r3)) = a3 := by rw [actEnd_append, actEnd_append, g1, g2, g3]
    simp only [resOf, he] at g
    exact g
  · rename_i r2 a2 h2 i ch h' rest e2
    split at hr
    case h_2 => cases hr
    rename_i r3 e3
    split at hr
    case isFalse => cases hr
    rename_i hok
    cases hr
    obtain ⟨f1, t1, g1, p1⟩ := sec_facts (.inl rfl) (some (i, ch, h')) e1 (.inl rfl)
    obtain ⟨f2, t2, g2, p2⟩ := sec_facts (.inr (.inl rfl)) (some (i, ch, h')) e2 (.inr rfl)
    obtain ⟨f3, t3, p3⟩ := rest_facts (some (i, ch, h')) e3
    simp only [endA, endH] at g1 g2 p1 p2
    have F := mkCF (hE := h2) (r3 := []) (pan := some (i, ch, h')) f1 (r2 := r2 ++ r3) (by
      intro r hr
      rcases List.mem_append.1 hr with hr | hr
      · exact f2 r hr
      · exact ⟨(f3 r hr).1, .inr (f3 r hr).2⟩) (fun r hr => by cases hr) (by
      rw [List.append_nil]
      exact t1.append (by rw [g1]; exact t2.append (by rw [g2]; exact t3))) p1 (p2.append p3) rfl hok (by
      intro k ch2 h2' hp
      cases hp
      obtain ⟨r, q1, q2⟩ := sec_panic e2
      exact ⟨r, List.mem_append_left _ q1, q2⟩)
    exact draw_run hC F S hk hro (id := id) (k := k) (c0 := c0) (rs := rs) (cs := cs)
  · cases hr

/-- The whole: what the evaluator says of a call, the machine does, in every world that is as told and whatever it draws. -/
theorem acall_calls {E : Env} (hE : EnvOK E) (fuel n : Nat) : CallOK E (acall E fuel n) := acall_ok hE (fun C _ hC => draw_ok hC) fuel n
end Go.Eng

set_option linter.unusedVariables false
set_option linter.unusedSimpArgs false
namespace Go.Eng

/-- From this abstract state the code comes to one of these. -/
def Does (C : Ctx) (c : Code) (a : AAct) (u : Option FrameMode) (h : AHeap) (Q : ARes → Prop) : Prop :=
  ∀ (b : Frame) (k : List Item) (c0 : Frame) (rs cs : List Frame) (β : Emb) (a₁ : Act) (u₁ : Option FrameMode) (w : World),
    StR C.E β a u h a₁ u₁ w → KindR u b.kind → b.fn = C.fid → RoR β C.ro b.roundOf →
    ∃ r, Q r ∧ Goes C.E b r β h w (lone (b.atR a₁ (.code c :: k)) (lay c0 rs cs u₁) w) k c0 rs cs

variable {C : Ctx} {Q Q' : ARes → Prop} {a a' : AAct} {u : Option FrameMode} {h : AHeap}

theorem Does.eval (hC : CtxOK C) {c : Code} {r : ARes} (he : acode C c a u h = some r) (hq : Q r) : Does C c a u h Q :=
  fun b k c0 rs cs β a₁ u₁ w S hk hfn hro => ⟨r, hq, acode_ok hC (draw_ok hC) c a u h r he b k c0 rs cs β a₁ u₁ w S hk hfn hro⟩

theorem Does.mono {c : Code} (hq : ∀ r, Q r → Q' r) (t : Does C c a u h Q) : Does C c a u h Q' :=
  fun b k c0 rs cs β a₁ u₁ w S hk hfn hro => let ⟨r, q, g⟩ := t b k c0 rs cs β a₁ u₁ w S hk hfn hro; ⟨r, hq r q, g⟩

/-- a' tells less than a. -/
structure Less (a a' : AAct) : Prop where
  nt : a'.nt = a.nt
  tmp : ∀ t, a'.tmp t = a.tmp t ∨ a'.tmp t = junk
  defers : a'.defers = a.defers

theorem Less.act {β : Emb} {a₁ : Act} (l : Less a a') (h : ActR β a a₁) : ActR β a' a₁ := by
  refine ⟨by rw [l.nt]; exact h.size, fun t => ?_, by rw [l.defers]; exact h.defers⟩
  rcases l.tmp t with e | e
  · rw [e]; exact h.tmp t
  · rw [e]; exact .junk _

theorem Does.less {c : Code} (l : Less a a') (t : Does C c a' u h Q) : Does C c a u h Q :=
  fun b k c0 rs cs β a₁ u₁ w S hk hfn hro => t b k c0 rs cs β a₁ u₁ w ⟨S.hr, S.gl, l.act S.act, S.u⟩ hk hfn hro

/-- What comes behind. -/
def Then (C : Ctx) (y : Code) (Q : ARes → Prop) (r : ARes) : Prop := (r.e = .normal ∧ Does C y r.a r.u r.h Q) ∨ (r.e ≠ .normal ∧ Q r)

theorem Does.seq {x y : Code} (t : Does C x a u h (Then C y Q)) : Does C (.seq x y) a u h Q := by
  intro b k c0 rs cs β a₁ u₁ w S hk hfn hro
  obtain ⟨r, q, g⟩ := t b (.code y :: k) c0 rs cs β a₁ u₁ w S hk hfn hro
  rcases q with ⟨hn, q⟩ | ⟨hn, q⟩
  · obtain ⟨β', a₁', u₁', w', S', X, hk', hs⟩ := g.normal hn
    obtain ⟨r2, q2, g2⟩ := q b k c0 rs cs β' a₁' u₁' w' S' hk' hfn (hro.mono X.le)
    exact ⟨r2, q2, g2.of_steps X (.head stepR_seq hs)⟩
  · exact ⟨r, q, (g.of_steps (Ext.refl _ _ _) (.one stepR_seq)).other (k := .code y :: k) (k' := k) hn (fun _ _ => rfl)⟩

theorem Does.cond {c : Operand} {x y : Code} {t : Bool} (hc : a.ev C.E.gl c = .bool t) (tr : Does C (if t then x else y) a u h Q) : Does C (.cond c x y) a u h Q := by
  intro b k c0 rs cs β a₁ u₁ w S hk hfn hro
  have hv := ev_ok S.gl S.act c
  rw [hc] at hv
  obtain ⟨r, q, g⟩ := tr b k c0 rs cs β a₁ u₁ w S hk hfn hro
  exact ⟨r, q, g.of_steps (Ext.refl _ _ _) (.one (stepR_cond hv.inv_bool))⟩

/-- Out of a block. -/
def Out (id : Nat) (Q : ARes → Prop) (r : ARes) : Prop := Q (match r.e with | .exit id' => if id' = id then { r with e := .normal } else r | _ => r)

theorem Does.block {id : Nat} {c : Code} (t : Does C c a u h (Out id Q)) : Does C (.block id c) a u h Q := by
  intro b k c0 rs cs β a₁ u₁ w S hk hfn hro
  obtain ⟨r, q, g⟩ := t b (.inBlock id :: k) c0 rs cs β a₁ u₁ w S hk hfn hro
  obtain ⟨e, a', u', h'⟩ := r
  have g := g.of_steps (Ext.refl _ _ _) (.one stepR_block)
  refine ⟨_, q, ?_⟩
  by_cases hn : e = .normal
  · subst hn
    obtain ⟨β', a₁', u₁', w', S', X, hk', hs⟩ := g.normal rfl
    exact ⟨β', a₁', u₁', w', .normal, S', X, hk', .normal, hs.trans (.one stepR_inBlock)⟩
  · cases e with
    | normal => exact absurd rfl hn
    | exit id' =>
      obtain ⟨β', a₁', u₁', w', e', S', X, hk', he, ha⟩ := g
      generalize hre : (⟨.exit id', a', u', h'⟩ : ARes).e = re at he
      cases he <;> cases hre
      obtain ⟨k₁, h1, h2⟩ := ha
      by_cases hid : id' = id
      · subst hid
        simp only [if_true]
        have h1' : exitTo id' k₁ = some k := by rw [h1]; simp [exitTo]
        exact ⟨β', a₁', u₁', w', .normal, S', X, hk', .normal, h2.trans (.one (stepR_exit h1'))⟩
      · simp only [hid, if_false]
        refine ⟨β', a₁', u₁', w', .exit id', S', X, hk', .exit _, k₁, ?_, h2⟩
        rw [h1]
        simp only [exitTo]
        rw [if_neg (by simpa using Ne.symm hid)]
    | ret => exact g.other (k := .inBlock id :: k) (k' := k) (by simp) (fun _ h => by cases h)
    | panic ch => exact g.other (k := .inBlock id :: k) (k' := k) (by simp) (fun _ h => by cases h)
    | goto l => exact g.other (k := .inBlock id :: k) (k' := k) (by simp) (fun _ h => by cases h)
    | outgrown => exact g.other (k := .inBlock id :: k) (k' := k) (by simp) (fun _ h => by cases h)

/-- A loop: what holds at its head, with a measure that goes down. -/
theorem Does.loop {c : Code} (I : Nat → AAct → Option FrameMode → AHeap → Prop) (step : ∀ n a u h, I n a u h → Does C c a u h (fun r => (r.e = .normal ∧ ∃ m, m < n ∧ I m r.a r.u r.h) ∨ (r.e ≠ .normal ∧ Q r))) :
    ∀ n a u h, I n a u h → Does C (.loop c) a u h Q := by
  have key : ∀ n a u h, I n a u h → ∀ (b : Frame) (k : List Item) (c0 : Frame) (rs cs : List Frame) (β : Emb) (a₁ : Act) (u₁ : Option FrameMode) (w : World),
      StR C.E β a u h a₁ u₁ w → KindR u b.kind → b.fn = C.fid → RoR β C.ro b.roundOf →
      ∃ r, Q r ∧ Goes C.E b r β h w (lone (b.atR a₁ (.code c :: .inLoop c :: k)) (lay c0 rs cs u₁) w) k c0 rs cs := by
    intro n
    induction n using Nat.strongRecOn with
    | ind n ih =>
      intro a u h hI b k c0 rs cs β a₁ u₁ w S hk hfn hro
      obtain ⟨r, q, g⟩ := step n a u h hI b (.inLoop c :: k) c0 rs cs β a₁ u₁ w S hk hfn hro
      rcases q with ⟨hn, m, hm, hI'⟩ | ⟨hn, q⟩
      · obtain ⟨β', a₁', u₁', w', S', X, hk', hs⟩ := g.normal hn
        obtain ⟨r2, q2, g2⟩ := ih m hm r.a r.u r.h hI' b k c0 rs cs β' a₁' u₁' w' S' hk' hfn (hro.mono X.le)
        exact ⟨r2, q2, g2.of_steps X (hs.trans (.one stepR_inLoop))⟩
      · exact ⟨r, q, g.other (k := .inLoop c :: k) (k' := k) hn (fun _ _ => rfl)⟩
  intro n a u h hI b k c0 rs cs β a₁ u₁ w S hk hfn hro
  obtain ⟨r, q, g⟩ := key n a u h hI b k c0 rs cs β a₁ u₁ w S hk hfn hro
  exact ⟨r, q, g.of_steps (Ext.refl _ _ _) (.one stepR_loop)⟩

/-! ### Functions -/
/-- What a call comes to, in abstract terms: one of these. -/
def CallDoes (E : Env) (f : FuncId) (args : Array Value) (h : AHeap) (Q : Ending → AHeap → Prop) : Prop := ∀ β w args', HR β h w.heap → GlR E.gl β → ArrR β args args' → ∀ cs,
  ∃ e h' β' e' w' fr, Q e h' ∧ HR β' h' w'.heap ∧ Ext β h w β' h' w' ∧ EnR β' e e' ∧ Steps E.P (lone (Frame.enter E.P f args' .normal) cs w) (lone fr cs w') ∧ fr.fn = f ∧ fr.leaving E.P w' e'

/-- What a body must come to: no deferred call is left. -/
def Leaves1 (E : Env) (fn : Func) (Q : Ending → AHeap → Prop) (r : ARes) : Prop :=
  r.a.defers = [] ∧ (match r.e with
    | .normal => ∃ v, aresults E fn r.a r.h = some v ∧ Q (.returned v) r.h
    | .ret => ∃ v, aresults E fn r.a r.h = some v ∧ Q (.returned v) r.h
    | .panic ch => Q (.panicked ch) r.h
    | _ => False)

theorem CallDoes.of_body {E : Env} {f : FuncId} {fn : Func} {c : Code} {args : Array Value} {h : AHeap} {Q : Ending → AHeap → Prop} {call : CallH} {round : Nat → Array Value → AHeap → Option (Ending × AHeap)} {fuel : Nat}
    (hf : E.P.funcs[f]? = some fn) (hb : fn.body = some c) (t : Does { E := E, fid := f, ro := none, call := call, round := round, fuel := fuel } c (enterAct fn args) none h (Leaves1 E fn Q)) : CallDoes E f args h Q := by
  intro β w args' H hg ha cs
  have henter : Frame.enter E.P f args' .normal = ({ (default : Frame) with fn := f, kind := .normal } : Frame).atR { tmps := args' ++ Array.replicate (fn.ntmps - args'.size) undef, defers := [] } [.code c] := by
    simp [Frame.enter, Frame.atR, hf, hb]
    rfl
  obtain ⟨r, ⟨hd, q⟩, β1, a₁, u₁, w1, e1, S1, X1, hk1, he1, harr⟩ := t { (default : Frame) with fn := f, kind := .normal } [] default [] cs β _ none w ⟨H, hg, enterAct_ok ha, .none⟩ rfl rfl trivial
  have hu1 : u₁ = none := by
    have := S1.u
    cases hu : r.u with
    | none => rw [hu] at this; cases this; rfl
    | some x => rw [hu] at hk1; cases hk1
  subst hu1
  simp only [lay] at harr
  rw [← henter] at harr
  have hds : a₁.defers = [] := by
    have := S1.act.defers
    rw [hd] at this
    generalize a₁.defers = x at this
    cases this
    rfl
  cases hre : r.e with
  | normal =>
    rw [hre] at q he1
    obtain ⟨v, hv, hq⟩ := q
    cases he1
    obtain ⟨v', h1, h2⟩ := results_ok S1.hr S1.act.tmps hv
    exact ⟨_, _, β1, .returned v', w1, { ({ (default : Frame) with fn := f, kind := .normal } : Frame).atR a₁ [] with mode := .returning }, hq, S1.hr, X1, .returned _ _ h2, Steps.trans harr (.one (stepR_end rfl)), rfl, rfl, hds, rfl, fn, hf, h1⟩
  | ret =>
    rw [hre] at q he1
    obtain ⟨v, hv, hq⟩ := q
    cases he1
    obtain ⟨v', h1, h2⟩ := results_ok S1.hr S1.act.tmps hv
    obtain ⟨k₁, hs⟩ := harr
    exact ⟨_, _, β1, .returned v', w1, { ({ (default : Frame) with fn := f, kind := .normal } : Frame).atR a₁ (.code .ret :: k₁) with mode := .returning }, hq, S1.hr, X1, .returned _ _ h2, Steps.trans hs (.one (stepR_ret rfl)), rfl, rfl, hds, rfl, fn, hf, h1⟩
  | panic ch =>
    rw [hre] at q he1
    cases he1 with
    | panic _ ch' hch =>
    obtain ⟨todo, hs⟩ := harr
    exact ⟨_, _, β1, .panicked ch', w1, { ({ (default : Frame) with fn := f, kind := .normal } : Frame).atR a₁ todo with mode := .panicking ch' }, q, S1.hr, X1, .panicked _ _ hch, hs, rfl, rfl, hds, fn, hf⟩
  | exit id => rw [hre] at q; exact q.elim
  | goto l => rw [hre] at q; exact q.elim
  | outgrown => rw [hre] at q; exact q.elim

theorem CallDoes.mono {E : Env} {f : FuncId} {args : Array Value} {h : AHeap} {Q Q' : Ending → AHeap → Prop} (hq : ∀ e h', Q e h' → Q' e h') (t : CallDoes E f args h Q) : CallDoes E f args h Q' :=
  fun β w args' H hg ha cs => let ⟨e, h', β', e', w', fr, q, r⟩ := t β w args' H hg ha cs; ⟨e, h', β', e', w', fr, hq _ _ q, r⟩

/-- Blocks laid since are forgotten. -/
def Since (h h' : AHeap) : Prop := h.n ≤ h'.n ∧ (∀ B, B < h.n → h'.get B = h.get B) ∧ ∀ r, r < h.n → h'.lv.get r = h.lv.get r

theorem Since.refl (h : AHeap) : Since h h := ⟨Nat.le_refl _, fun _ _ => rfl, fun _ _ => rfl⟩
theorem Since.trans {h k m : AHeap} (a : Since h k) (b : Since k m) : Since h m :=
  ⟨Nat.le_trans a.1 b.1, fun B hB => (b.2.1 B (Nat.lt_of_lt_of_le hB a.1)).trans (a.2.1 B hB), fun r hr => (b.2.2 r (Nat.lt_of_lt_of_le hr a.1)).trans (a.2.2 r hr)⟩
theorem Since.push (h : AHeap) (o : AObj) : Since h (h.push o) := ⟨by simp, fun B hB => by rw [AHeap.get_push, if_neg (Nat.ne_of_lt hB)], fun _ _ => rfl⟩

theorem FR.back {β β' : Emb} (hle : Emb.le β β') {f f0 f1 : Fn} (h0 : FR β f f0) (h1 : FR β' f f1) : FR β f f1 := by
  cases h0 with
  | same _ hn =>
    cases h1 with
    | same _ _ => exact .same _ hn
    | yield B e h => exact absurd rfl (hn B)
  | yield B e h =>
    cases h1 with
    | same _ hn => exact absurd rfl (hn B)
    | yield _ e' h' => rw [hle _ _ h] at h'; cases h'; exact .yield _ _ h

/-- What a value that is told in old terms stands for, stands for it in old terms. -/
theorem VR.back {β β' : Emb} (hle : Emb.le β β') {v v0 : Value} (h0 : VR β v v0) : ∀ {v1 : Value}, VR β' v v1 → VR β v v1 := by
  have arr : ∀ {f f0 : Array Value}, f.size = f0.size → (∀ (i : Nat) v v', f[i]? = some v → f0[i]? = some v' → ∀ {v1 : Value}, VR β' v v1 → VR β v v1) → ∀ {f1 : Array Value},
      (∀ (i : Nat) v v', f[i]? = some v → f1[i]? = some v' → VR β' v v') → ∀ (i : Nat) v v', f[i]? = some v → f1[i]? = some v' → VR β v v' := by
    intro f f0 hs ih f1 h1 i v v' hv hv'
    have hlt : i < f0.size := hs ▸ (Array.getElem?_eq_some_iff.1 hv).1
    exact ih i v _ hv (Array.getElem?_eq_getElem hlt) (h1 i v v' hv hv')
  induction h0 with
  | bool b => intro v1 h1; cases h1; exact .bool _
  | int k n => intro v1 h1; cases h1; exact .int _ _
  | str s => intro v1 h1; cases h1; exact .str _
  | pnil => intro v1 h1; cases h1; exact .pnil
  | snil => intro v1 h1; cases h1; exact .snil
  | mnil => intro v1 h1; cases h1; exact .mnil
  | nilFunc => intro v1 h1; cases h1; exact .nilFunc
  | nilIface => intro v1 h1; cases h1; exact .nilIface
  | junk v => intro v1 h1; exact .junk _
  | ptr B o e h =>
    intro v1 h1
    cases h1 with
    | ptr _ _ e' h' => rw [hle _ _ h] at h'; cases h'; exact .ptr _ _ _ h
  | slc B o len esz e cap h hl hc =>
    intro v1 h1
    cases h1 with
    | slc _ _ _ _ e' cap' h' hl' hc' => rw [hle _ _ h] at h'; cases h'; exact .slc _ _ _ _ _ _ h hl' hc'
    | slc0 _ _ _ e' a h' => rw [hle _ _ h] at h'; cases h'; exact .slc0 _ _ _ _ _ h
  | slc0 B o esz e a h =>
    intro v1 h1
    cases h1 with
    | slc _ _ _ _ e' cap' h' hl' hc' => rw [hle _ _ h] at h'; cases h'; exact .slc _ _ _ _ _ _ h hl' hc'
    | slc0 _ _ _ e' a h' => rw [hle _ _ h] at h'; cases h'; exact .slc0 _ _ _ _ _ h
  | map B e h =>
    intro v1 h1
    cases h1 with
    | map _ e' h' => rw [hle _ _ h] at h'; cases h'; exact .map _ _ h
  | func fn fn' f f' c c' h hs _ hs2 _ ih1 ih2 =>
    intro v1 h1
    cases h1 with
    | func _ fn1 _ f1 _ c1 h1 hs1 q1 hs3 q2 => exact .func _ _ _ _ _ _ (h.back hle h1) hs1 (arr hs ih1 q1) hs3 (arr hs2 ih2 q2)
  | iface t v v' _ ih =>
    intro v1 h1
    cases h1 with
    | iface _ _ w h => exact .iface _ _ _ (ih h)
  | agg cs cs' hs _ ih =>
    intro v1 h1
    cases h1 with
    | agg _ c1 hs1 q => exact .agg _ _ hs1 (arr hs ih q)
  | tuple cs cs' hs _ ih =>
    intro v1 h1
    cases h1 with
    | tuple _ c1 hs1 q => exact .tuple _ _ hs1 (arr hs ih q)

theorem OR.back {β β' : Emb} (hle : Emb.le β β') {o : AObj} {e : Em} {hp hp' : Array Obj} (h0 : OR β o e hp) (h1 : OR β' o e hp') : OR β o e hp' := by
  cases o with
  | cells vs t st root fz =>
    obtain ⟨cs0, fr0, _, c0⟩ := h0
    obtain ⟨cs, fr, g, c⟩ := h1
    refine ⟨cs, fr, g, c.size, c.fits, fun i v hv => ?_, c.frz⟩
    obtain ⟨v0, _, r0⟩ := c0.val i v hv
    obtain ⟨v', h, r⟩ := c.val i v hv
    exact ⟨v', h, r0.back hle r⟩
  | loop l =>
    obtain ⟨l0, _, r0⟩ := h0
    obtain ⟨l', g, r⟩ := h1
    refine ⟨l', g, r.state, r.pending, r.fn, ⟨r.tmps.size, fun t => (r0.tmps.tmp t).back hle (r.tmps.tmp t)⟩, r.params, r.assign, r.body, ?_⟩
    obtain ⟨e0, q1, q2⟩ := r0.defers
    obtain ⟨e1, q3, q4⟩ := r.defers
    rw [hle _ _ q1] at q3
    cases q3
    exact ⟨e0, q1, q4⟩
  | deferred b => exact h1
  | map es =>
    obtain ⟨es0, ck0, _, r0⟩ := h0
    obtain ⟨es', ck, g, r⟩ := h1
    refine ⟨es', ck, g, ?_⟩
    have key : ∀ {l : List (Value × Value)} {a b : List MapEntry}, MapR β l a → MapR β' l b → MapR β l b := by
      intro l
      induction l with
      | nil => intro a b _ hb; cases hb; exact .nil
      | cons x l ih =>
        intro a b ha hb
        cases ha with
        | cons hk hv ht =>
          cases hb with
          | cons hk' hv' ht' => exact .cons (hk.back hle hk') (hv.back hle hv') (ih ht ht')
    exact key r0 r

theorem forget {β β' : Emb} {h h' : AHeap} {w w' : World} (H : HR β h w.heap) (H' : HR β' h' w'.heap) (X : Ext β h w β' h' w') (s : Since h h') : HR β h w'.heap ∧ Ext β h w β h w' := by
  have hget : ∀ {B o}, h.get B = some o → h'.get B = some o := fun hg => by rw [s.2.1 _ (H.bnd _ _ hg)]; exact hg
  have hlive : ∀ {B o}, h.get B = some o → h'.liveO B o = h.liveO B o := by
    intro B o hg
    unfold AHeap.liveO
    cases hr : o.root with
    | none => rfl
    | some r =>
      obtain ⟨y, h1, _⟩ := H.rt B o r hg hr
      simp only [AHeap.live, s.2.2 r (H.bnd _ _ h1)]
  refine ⟨⟨?_, H.has, ?_, H.sep, H.mono, H.tip, H.bnd, H.rt, H.b0⟩, ⟨Emb.le_refl _, X.os, X.tape, X.output, X.size, fun C hC _ => hC, X.keep, Nat.le_refl _, fun _ _ hB _ => hB⟩⟩
  · intro B e hB; exact ⟨(H.dom B e hB).1, Nat.lt_of_lt_of_le (H.dom B e hB).2 X.size⟩
  · intro B e o hB hg hl
    exact (H.con B e o hB hg hl).back X.le (H'.con B e o (X.le _ _ hB) (hget hg) (by rw [hlive hg]; exact hl))

/-- A value told in terms of what was before, of a call that lays only blocks that are forgotten: the call as one step. -/
theorem CallDoes.arm {E : Env} {f : FuncId} {args : Array Value} {h : AHeap} {v : Value} (hflat : ∀ β β' v', VR β' v v' → VR β v v') (t : CallDoes E f args h (fun e h' => e = .returned v ∧ Since h h')) :
    ∀ β w args', HR β h w.heap → GlR E.gl β → ArrR β args args' → ∀ cs, ∃ β' e' w' fr, HR β' h w'.heap ∧ Ext β h w β' h w' ∧ EnR β' (.returned v) e' ∧
      Steps E.P (lone (Frame.enter E.P f args' .normal) cs w) (lone fr cs w') ∧ fr.fn = f ∧ fr.leaving E.P w' e' := by
  intro β w args' H hg ha cs
  obtain ⟨e, h', β', e', w', fr, ⟨rfl, hs⟩, H', X, he, hst, hfn, hl⟩ := t β w args' H hg ha cs
  obtain ⟨F1, F2⟩ := forget H H' X hs
  cases he with
  | returned _ v' hv => exact ⟨β, .returned v', w', fr, F1, F2, .returned _ _ (hflat _ _ _ hv), hst, hfn, hl⟩

/-- Contracts laid over what is known of calls. -/
def over (p : CallH) (call : CallH) : CallH := fun f args h => match p f args h with
  | some r => some r
  | none => call f args h

theorem over_ok {E : Env} {p call : CallH} (hp : CallOK E p) (hc : CallOK E call) : CallOK E (over p call) := by
  intro f args h e h' he
  unfold over at he
  split at he
  · rename_i r hr; cases he; exact hp f args h _ _ hr
  · exact hc f args h e h' he

/-! ### To the kit's own word -/
theorem calls_of {E : Env} {call : CallH} (hc : CallOK E call) {f : FuncId} {args args' : Array Value} {h h' : AHeap} {e : Ending} (he : call f args h = some (e, h')) {β : Emb} {W : World} (H : HR β h W.heap) (hg : GlR E.gl β)
    (ha : ArrR β args args') : Calls E.P f args' W fun e' W' => ∃ β', HR β' h' W'.heap ∧ Ext β h W β' h' W' ∧ EnR β' e e' := by
  intro cs
  obtain ⟨β', e', w', fr, H', X, hen, hs, hfn, hl⟩ := hc f args h e h' he β W args' H hg ha cs
  refine ⟨e', w', fr, ⟨β', H', X, hen⟩, ?_, hfn, hl⟩
  cases hen with
  | returned v v' hv => exact hs
  | panicked ch ch' hch => exact hs

def heap0 : AHeap := { n := 0, t := .nil, lv := .nil }
theorem HR.zero (hp : Array Obj) : HR (fun _ => none) heap0 hp := by
  refine ⟨?_, ?_, ?_, ?_, ?_, ?_, ?_, ?_, ?_⟩ <;> intros <;> simp_all [heap0, AHeap.get, Tr.get]
theorem Ext.zero {W W' : World} {β' : Emb} {h' : AHeap} (X : Ext (fun _ => none) heap0 W β' h' W') : W'.os = W.os ∧ W'.output = W.output ∧ W.heap.size ≤ W'.heap.size ∧ ∀ i, i < W.heap.size → W'.heap[i]? = W.heap[i]? :=
  ⟨X.os, X.output, X.size, fun i hi => X.keep i hi (fun ⟨B, e, o, hB, _⟩ => by cases hB)⟩
end Go.Eng

set_option linter.unusedVariables false
set_option linter.unusedSimpArgs false
namespace Go.Eng

def handsO (E : Env) (p : CallH) (fuel : Nat) : Nat → Hands
  | 0 => { call := p, round := fun _ _ _ => none, callD := fun _ _ _ _ => none }
  | n + 1 =>
    let H := handsO E p fuel n
    { call := over p (acallBy E fuel H.call H.round H.callD), round := aroundBy E fuel H.call H.round, callD := acallDBy E fuel H.call H.round }

def acallO (E : Env) (p : CallH) (fuel n : Nat) : CallH := (handsO E p fuel n).call

theorem handsO_ok {E : Env} (hE : EnvOK E) {p : CallH} (hp : CallOK E p) (fuel : Nat) : ∀ (n : Nat), CallOK E (handsO E p fuel n).call ∧ RoundOK E (handsO E p fuel n).round ∧ CallDOK E (handsO E p fuel n).callD := by
  have hD : ∀ C : Ctx, C.E = E → CtxOK C → DrawOK C := fun C _ hC => draw_ok hC
  intro n
  induction n with
  | zero => exact ⟨hp, (fun _ _ _ _ _ h => (by cases h)), (fun _ _ _ _ _ _ _ h => (by cases h))⟩
  | succ n ih => exact ⟨over_ok hp (call_ok hE hD ih.1 ih.2.1 ih.2.2), round_ok hE hD ih.1 ih.2.1, callD_ok hE hD ih.1 ih.2.1⟩

theorem acallO_ok {E : Env} (hE : EnvOK E) {p : CallH} (hp : CallOK E p) (fuel n : Nat) : CallOK E (acallO E p fuel n) := (handsO_ok hE hp fuel n).1

/-- A pure contract: arguments and result without memory. A walk from empty memory is enough. -/
theorem pure_arm {E : Env} (hE : EnvOK E) {call : CallH} (hc : CallOK E call) {f : FuncId} {args : Array Value} {v : Value} {h1 : AHeap} (hgl : ∀ g, E.gl g = false) (hargs : ∀ (β : Emb) args', ArrR β args args' → ArrR (fun _ => none) args args')
    (hv : ∀ (β β' : Emb) v', VR β' v v' → VR β v v') (he : call f args heap0 = some (.returned v, h1)) {h : AHeap} :
    ∀ β w args', HR β h w.heap → GlR E.gl β → ArrR β args args' → ∀ cs, ∃ β' e' w' fr, HR β' h w'.heap ∧ Ext β h w β' h w' ∧ EnR β' (.returned v) e' ∧
      Steps E.P (lone (Frame.enter E.P f args' .normal) cs w) (lone fr cs w') ∧ fr.fn = f ∧ fr.leaving E.P w' e' := by
  intro β w args' H hg ha cs
  obtain ⟨β', e', w', fr, H', X, hen, hst, hfn, hl⟩ := hc f args heap0 _ _ he (fun _ => none) w args' (HR.zero _) (fun g hg => by rw [hgl g] at hg; cases hg) (hargs β args' ha) cs
  obtain ⟨x1, x2, x3, x4⟩ := Ext.zero X
  refine ⟨β, e', w', fr, ?_, ⟨Emb.le_refl _, x1, X.tape, x2, x3, fun C hC _ => hC, fun C hlt _ => x4 C hlt, Nat.le_refl _, fun _ _ hB _ => hB⟩, ?_, hst, hfn, hl⟩
  · refine ⟨fun B e hB => ⟨(H.dom B e hB).1, Nat.lt_of_lt_of_le (H.dom B e hB).2 x3⟩, H.has, fun B e o hB hg hlv => ?_, H.sep, H.mono, H.tip, H.bnd, H.rt, H.b0⟩
    exact (H.con B e o hB hg hlv).move (Emb.le_refl _) (x4 _ (H.dom B e hB).2)
  · cases hen with
    | returned _ v' hv' => exact .returned _ _ (hv _ _ _ hv')
end Go.Eng

set_option linter.unusedVariables false
set_option linter.unusedSimpArgs false
namespace Go.Eng
variable {C : Ctx} {ops : Array Oper} {a : AAct} {u : Option FrameMode} {h h' : AHeap}

theorem aops_nil : aops C ops [] a u h = some ⟨.normal, a, u, h⟩ := rfl

/-- A wanted operation that gives a value. -/
theorem aops_val {i : Nat} {l : List Nat} {o : Oper} {v : Value} (ho : ops[i]? = some o) (hw : awanted ops a o = some true) (hv : aop C.E a C.ro.isSome o h = some (.val v h')) :
    aops C ops (i :: l) a u h = aops C ops l (a.put o.dst v) u h' := by
  simp only [aops, ho, hw, astep, hv]
  rfl

theorem aops_skip {i : Nat} {l : List Nat} {o : Oper} (ho : ops[i]? = some o) (hw : awanted ops a o = some true) (hv : aop C.E a C.ro.isSome o h = some (.skip h')) :
    aops C ops (i :: l) a u h = aops C ops l (a.put o.dst undef) u h' := by
  simp only [aops, ho, hw, astep, hv]
  rfl

theorem aops_call {i : Nat} {l : List Nat} {o : Oper} {f : FuncId} {args : Array Value} {v : Value} {h2 : AHeap} (ho : ops[i]? = some o) (hw : awanted ops a o = some true) (hv : aop C.E a C.ro.isSome o h = some (.enter f args h'))
    (hc : C.call f args h' = some (.returned v, h2)) : aops C ops (i :: l) a u h = aops C ops l (a.put o.dst v) u h2 := by
  simp only [aops, ho, hw, astep, hv, hc]
  rfl

theorem aops_unwanted {i : Nat} {l : List Nat} {o : Oper} (ho : ops[i]? = some o) (hw : awanted ops a o = some false) :
    aops C ops (i :: l) a u h = aops C ops l (a.put o.dst undef) u h := by
  simp only [aops, ho, hw]

theorem awanted_plain {o : Oper} (hg : o.guard = none) : awanted ops a o = some true := by unfold awanted; rw [hg]

/-- What is known of temporaries. -/
theorem put_same {d : Tmp} {v : Value} (hd : d < a.nt) : (a.put (some d) v).tmp d = v := by rw [AAct.put_tmp, if_pos ⟨rfl, hd⟩]
theorem put_other {d : Option Tmp} {t : Tmp} {v : Value} (hd : d ≠ some t) : (a.put d v).tmp t = a.tmp t := by rw [AAct.put_tmp, if_neg (fun hc => hd hc.1)]
end Go.Eng

set_option linter.unusedVariables false
set_option linter.unusedSimpArgs false
namespace Go.Eng

def idxB (c : UInt8) : List UInt8 → Nat → Int
  | [], _ => -1
  | b :: l, i => if b = c then (i : Nat) else idxB c l (i + 1)

theorem find_congr {α : Type} {p q : α → Bool} : ∀ {l : List α}, (∀ x ∈ l, p x = q x) → l.find? p = l.find? q := by
  intro l
  induction l with
  | nil => intro _; rfl
  | cons a l ih =>
    intro h
    simp only [List.find?_cons, h a (by simp)]
    rw [ih (fun x hx => h x (List.mem_cons_of_mem _ hx))]

theorem idxB_find (c : UInt8) : ∀ (l : List UInt8) (k : Nat), idxB c l k = (match (List.range' k l.length).find? (fun i => (l[i - k]?).getD 0 == c) with | some i => (i : Int) | none => -1) := by
  intro l
  induction l with
  | nil => intro k; rfl
  | cons b l ih =>
    intro k
    simp only [idxB, List.length_cons, List.range'_succ, List.find?_cons, Nat.sub_self, List.getElem?_cons_zero, Option.getD_some]
    by_cases h : b = c
    · simp [h]
    · have hb : (b == c) = false := by simpa using h
      rw [if_neg h, ih, hb]
      simp only
      rw [find_congr (p := fun i => (l[i - (k + 1)]?).getD 0 == c) (q := fun i => ((b :: l)[i - k]?).getD 0 == c)]
      intro i hi
      have hik : k + 1 ≤ i := by
        have := List.mem_range'_1.1 hi
        omega
      have e : i - k = (i - (k + 1)) + 1 := by omega
      rw [e, List.getElem?_cons_succ]

theorem byte_at (s : ByteArray) {i : Nat} (hlt : i < s.data.toList.length) : s[i]! = (s.data.toList[i]?).getD 0 := by
  have h1 : i < s.size := by rw [Array.length_toList] at hlt; exact hlt
  rw [getElem!_pos s i h1, List.getElem?_eq_getElem hlt]
  rfl

theorem firstIdx_eq (s : ByteArray) (c : UInt8) : firstIdx s c = idxB c s.data.toList 0 := by
  rw [idxB_find]
  unfold firstIdx
  have hsz : s.size = s.data.toList.length := by rw [Array.length_toList]; rfl
  rw [hsz, List.range_eq_range']
  have e : (List.range' 0 s.data.toList.length).find? (fun i => s[i]! == c) = (List.range' 0 s.data.toList.length).find? (fun i => (s.data.toList[i - 0]?).getD 0 == c) := by
    refine find_congr fun i hi => ?_
    have hlt : i < s.data.toList.length := by
      have := List.mem_range'_1.1 hi
      omega
    rw [byte_at s hlt, Nat.sub_zero]
  rw [e]
  generalize List.find? _ _ = x
  cases x <;> rfl

def cmpB : List UInt8 → List UInt8 → Int
  | [], [] => 0
  | [], _ :: _ => -1
  | _ :: _, [] => 1
  | a :: l, b :: m => if a = b then cmpB l m else if a < b then -1 else 1

theorem cmpB_find : ∀ (l m : List UInt8) (k : Nat), cmpB l m = (match (List.range' k (min l.length m.length)).find? (fun i => (l[i - k]?).getD 0 != (m[i - k]?).getD 0) with
    | some i => if (l[i - k]?).getD 0 < (m[i - k]?).getD 0 then -1 else 1
    | none => if l.length < m.length then -1 else if l.length > m.length then 1 else 0) := by
  intro l
  induction l with
  | nil =>
    intro m k
    cases m with
    | nil => simp [cmpB]
    | cons b m => simp [cmpB]
  | cons a l ih =>
    intro m k
    cases m with
    | nil => simp [cmpB]
    | cons b m =>
      have hmin : min (a :: l).length (b :: m).length = min l.length m.length + 1 := by simp
      rw [hmin, List.range'_succ, List.find?_cons]
      simp only [Nat.sub_self, List.getElem?_cons_zero, Option.getD_some]
      by_cases h : a = b
      · have hb : (a != b) = false := by simp [h]
        rw [hb]
        simp only [cmpB, h, if_true]
        rw [ih m (k + 1)]
        have hc : ∀ i ∈ List.range' (k + 1) (min l.length m.length), i - k = (i - (k + 1)) + 1 := by
          intro i hi
          have := List.mem_range'_1.1 hi
          omega
        rw [find_congr (p := fun i => ((b :: l)[i - k]?).getD 0 != ((b :: m)[i - k]?).getD 0) (q := fun i => (l[i - (k + 1)]?).getD 0 != (m[i - (k + 1)]?).getD 0) (fun i hi => by rw [hc i hi, List.getElem?_cons_succ, List.getElem?_cons_succ])]
        cases hf : (List.range' (k + 1) (min l.length m.length)).find? (fun i => (l[i - (k + 1)]?).getD 0 != (m[i - (k + 1)]?).getD 0) with
        | none => simp only [List.length_cons, Nat.add_lt_add_iff_right, gt_iff_lt]
        | some i =>
          have := hc i (List.mem_of_find?_eq_some hf)
          simp only [this, List.getElem?_cons_succ]
      · have hb : (a != b) = true := by simp [h]
        rw [hb]
        simp only [cmpB, h, if_false, Nat.sub_self, List.getElem?_cons_zero, Option.getD_some]

def xIdx : List Value → Option Value
  | [.string s, .int .u8 c] => some (.int .i64 (idxB (UInt8.ofNat c.toNat) s.data.toList 0))
  | _ => none
def xCmp : List Value → Option Value
  | [.string a, .string b] => some (.int .i64 (cmpB a.data.toList b.data.toList))
  | _ => none
def xSame : List Value → Option Value
  | [x] => some x
  | _ => none

/-- A function without a body is as told. -/
def ExtOK (P : Program) (f : FuncId) (g : List Value → Option Value) : Prop := ∀ (args : List Value) (v : Value), g args = some v → ∀ (β : Emb) (args' : Array Value), ArrR β args.toArray args' → ∀ w : World, ∃ v', (callFunc f args').run P w = .ok (.value v') w ∧ VR β v v'

theorem ext_idx {P : Program} {f : FuncId} {fn : Func} (hf : P.funcs[f]? = some fn) (hname : (fn.name == "runtime.NumGoroutine") = false) (hb : fn.body.isNone = true) (hn : Extern.findNext fn = none)
    (he : Extern.find fn = some Extern.BytealgIndexByte.indexByte) : ExtOK P f xIdx := by
  intro args v hv β args' ha w
  unfold xIdx at hv
  split at hv
  case h_2 => cases hv
  rename_i s c
  cases hv
  have hl := ha.toLs
  simp only [] at hl
  obtain ⟨l⟩ := args'
  simp only at hl
  obtain ⟨x, y, rfl, hx, hy⟩ := hl.inv2
  cases hx
  cases hy
  refine ⟨_, ?_, .int _ _⟩
  rw [run_callFunc_extern hf hname hb hn he, run_indexByte_string, firstIdx_eq]
  rfl

theorem ext_same {P : Program} {f : FuncId} {fn : Func} (hf : P.funcs[f]? = some fn) (hname : (fn.name == "runtime.NumGoroutine") = false) (hb : fn.body.isNone = true) (hn : Extern.findNext fn = none)
    (he : Extern.find fn = some Extern.AbiNoEscape.same) : ExtOK P f xSame := by
  intro args v hv β args' ha w
  unfold xSame at hv
  split at hv
  case h_2 => cases hv
  rename_i x
  cases hv
  have hl := ha.toLs
  obtain ⟨l⟩ := args'
  simp only at hl
  obtain ⟨y, rfl, hy⟩ := hl.inv1
  refine ⟨y, ?_, hy⟩
  rw [run_callFunc_extern hf hname hb hn he]
  rfl

theorem cmp_eq (a b : ByteArray) : Extern.BytealgCompare.cmp a b = cmpB a.data.toList b.data.toList := by
  rw [cmpB_find _ _ 0]
  unfold Extern.BytealgCompare.cmp
  have ha : a.size = a.data.toList.length := by rw [Array.length_toList]; rfl
  have hb : b.size = b.data.toList.length := by rw [Array.length_toList]; rfl
  rw [ha, hb, List.range_eq_range']
  have hlt : ∀ i ∈ List.range' 0 (min a.data.toList.length b.data.toList.length), a[i]! = (a.data.toList[i - 0]?).getD 0 ∧ b[i]! = (b.data.toList[i - 0]?).getD 0 := by
    intro i hi
    have := List.mem_range'_1.1 hi
    exact ⟨byte_at a (by omega), byte_at b (by omega)⟩
  rw [find_congr (p := fun i => a[i]! != b[i]!) (q := fun i => (a.data.toList[i - 0]?).getD 0 != (b.data.toList[i - 0]?).getD 0) (fun i hi => by rw [(hlt i hi).1, (hlt i hi).2])]
  cases hf : (List.range' 0 (min a.data.toList.length b.data.toList.length)).find? (fun i => (a.data.toList[i - 0]?).getD 0 != (b.data.toList[i - 0]?).getD 0) with
  | none => rfl
  | some i =>
    have := hlt i (List.mem_of_find?_eq_some hf)
    simp only [this.1, this.2]

theorem ext_cmp {P : Program} {f : FuncId} {fn : Func} (hf : P.funcs[f]? = some fn) (hname : (fn.name == "runtime.NumGoroutine") = false) (hb : fn.body.isNone = true) (hn : Extern.findNext fn = none)
    (he : Extern.find fn = some Extern.BytealgCompare.compare) : ExtOK P f xCmp := by
  intro args v hv β args' ha w
  unfold xCmp at hv
  split at hv
  case h_2 => cases hv
  rename_i s c
  cases hv
  have hl := ha.toLs
  obtain ⟨l⟩ := args'
  simp only at hl
  obtain ⟨x, y, rfl, hx, hy⟩ := hl.inv2
  cases hx
  cases hy
  refine ⟨_, ?_, .int _ _⟩
  rw [run_callFunc_extern hf hname hb hn he, ← cmp_eq]
  rfl
end Go.Eng

set_option linter.unusedVariables false
set_option linter.unusedSimpArgs false
namespace Go.Eng

def memN (B : Nat) : List Nat → Bool
  | [] => false
  | x :: l => Nat.beq B x || memN B l
theorem memN_mem {B : Nat} : ∀ {l : List Nat}, memN B l = true → B ∈ l
  | x :: l, h => by
    simp only [memN, Bool.or_eq_true] at h
    rcases h with h | h
    · rw [Nat.eq_of_beq_eq_true h]; exact List.mem_cons_self
    · exact List.mem_cons_of_mem _ (memN_mem h)
theorem memN_of {B : Nat} : ∀ {l : List Nat}, B ∈ l → memN B l = true
  | x :: l, h => by
    simp only [memN, Bool.or_eq_true]
    rcases List.mem_cons.1 h with h | h
    · subst h; exact .inl (by simp)
    · exact .inr (memN_of h)

/-! ### Values that lead to what is kept -/
def closedV (K : Nat → Bool) : Nat → Value → Bool
  | 0, _ => false
  | d + 1, v => match v with
    | .bool _ | .int _ _ | .string _ | .nilFunc | .nilIface | .pointer none | .slice none _ _ | .map none => true
    | .pointer (some ⟨B, _, none⟩) => K B
    | .slice (some ⟨B, _, none⟩) _ _ => K B
    | .map (some B) => K B
    | .iface _ v => closedV K d v
    | .agg cs => cs.toList.all (closedV K d)
    | .tuple cs => cs.toList.all (closedV K d)
    | .func fn f c => fnOk fn && f.toList.all (closedV K d) && c.toList.all (closedV K d)
    | .complex _ _ _ => true
    | _ => false

def rsE (K : Nat → Bool) (β : Emb) : Emb := fun B => if K B then β B else none
theorem rsE_le (K : Nat → Bool) (β : Emb) : Emb.le (rsE K β) β := by
  intro B e h
  unfold rsE at h
  split at h
  · exact h
  · cases h
theorem rsE_some {K : Nat → Bool} {β : Emb} {B : Nat} {e : Em} (h : rsE K β B = some e) : K B = true ∧ β B = some e := by
  unfold rsE at h
  split at h
  · exact ⟨‹_›, h⟩
  · cases h
theorem rsE_of {K : Nat → Bool} {β : Emb} {B : Nat} {e : Em} (hk : K B = true) (h : β B = some e) : rsE K β B = some e := by
  unfold rsE; rw [if_pos hk]; exact h

theorem VR.rs {K : Nat → Bool} {β : Emb} : ∀ (d : Nat) {v v' : Value}, closedV K d v = true → VR β v v' → VR (rsE K β) v v' := by
  intro d
  induction d with
  | zero => intro v v' h; cases h
  | succ d ih =>
    have arr : ∀ {f f' : Array Value}, f.toList.all (closedV K d) = true → (∀ (i : Nat) v v', f[i]? = some v → f'[i]? = some v' → VR β v v') → ∀ (i : Nat) v v', f[i]? = some v → f'[i]? = some v' → VR (rsE K β) v v' := by
      intro f f' hc h i v v' h1 h2
      rw [List.all_eq_true] at hc
      exact ih (hc v (Array.mem_toList_iff.2 (Array.mem_of_getElem? h1))) (h i v v' h1 h2)
    intro v v' hc h
    cases h with
    | bool b => exact .bool b
    | int k n => exact .int k n
    | str s => exact .str s
    | pnil => exact .pnil
    | snil => exact .snil
    | mnil => exact .mnil
    | nilFunc => exact .nilFunc
    | nilIface => exact .nilIface
    | junk v => exact .junk _
    | ptr B o e h => exact .ptr B o e (rsE_of hc h)
    | slc B o len esz e cap h hl hcap => exact .slc B o len esz e cap (rsE_of hc h) hl hcap
    | slc0 B o esz e a h => exact .slc0 B o esz e a (rsE_of hc h)
    | map B e h => exact .map B e (rsE_of hc h)
    | func fn fn' f f' c c' h hs h1 hs2 h2 =>
      simp only [closedV, Bool.and_eq_true] at hc
      refine .func fn fn' f f' c c' ?_ hs (arr hc.1.2 h1) hs2 (arr hc.2 h2)
      cases h with
      | same _ hn => exact .same _ hn
      | yield B e h => exact absurd hc.1.1 (by simp [fnOk])
    | iface t v v' h => exact .iface t v v' (ih hc h)
    | agg cs cs' hs h => exact .agg cs cs' hs (arr hc h)
    | tuple cs cs' hs h => exact .tuple cs cs' hs (arr hc h)

/-! ### A state laid out of lists -/
def layT (l : List (Nat × Value)) (t : Tr Value) : Tr Value := l.foldl (fun t p => t.set p.1 p.2) t
def junkT : Nat → Tr Value
  | 0 => .nil
  | n + 1 => (junkT n).set n junk
def mkAct (nt : Nat) (l : List (Nat × Value)) : AAct := { nt := nt, tmps := layT l (junkT nt), defers := [] }
def layO (l : List (Nat × AObj)) (t : Tr AObj) : Tr AObj := l.foldl (fun t p => t.set p.1 p.2) t
def layN (l : List (Nat × Nat)) (t : Tr Nat) : Tr Nat := l.foldl (fun t p => t.set p.1 p.2) t
def mkHeap (n : Nat) (l : List (Nat × AObj)) (lv : List (Nat × Nat)) : AHeap := { n := n, t := layO l .nil, lv := layN lv .nil }

theorem get_foldl {α : Type} (k : Nat) : ∀ (l : List (Nat × α)) (t : Tr α), ((l.foldl (fun t p => t.set p.1 p.2) t).get k = t.get k ∧ ∀ p ∈ l, p.1 ≠ k) ∨ ∃ p ∈ l, p.1 = k ∧ (l.foldl (fun t p => t.set p.1 p.2) t).get k = some p.2 := by
  intro l
  induction l with
  | nil => intro t; exact .inl ⟨rfl, fun p h => by cases h⟩
  | cons q l ih =>
    intro t
    rcases ih (t.set q.1 q.2) with ⟨h1, h2⟩ | ⟨p, h1, h2, h3⟩
    · by_cases hq : q.1 = k
      · exact .inr ⟨q, List.mem_cons_self, hq, by rw [List.foldl_cons, h1, ← hq, Tr.get_set_same]⟩
      · refine .inl ⟨by rw [List.foldl_cons, h1, Tr.get_set_other _ _ (Ne.symm hq)], fun p hp => ?_⟩
        rcases List.mem_cons.1 hp with rfl | hp
        · exact hq
        · exact h2 p hp
    · exact .inr ⟨p, List.mem_cons_of_mem _ h1, h2, h3⟩

theorem get_junkT (t : Nat) : ∀ n, t < n → (junkT n).get t = some junk := by
  intro n
  induction n with
  | zero => intro h; omega
  | succ n ih =>
    intro h
    simp only [junkT, Tr.get_set]
    split
    · rfl
    · exact ih (by omega)

theorem mkAct_less {a : AAct} {l : List (Nat × Value)} (hd : a.defers = []) (hl : ∀ p ∈ l, p.2 = a.tmp p.1) : Less a (mkAct a.nt l) := by
  refine ⟨rfl, fun t => ?_, by rw [hd]; rfl⟩
  by_cases ht : t < a.nt
  · have e : (mkAct a.nt l).tmp t = ((layT l (junkT a.nt)).get t).getD undef := by simp [AAct.tmp, mkAct, ht]
    rcases get_foldl t l (junkT a.nt) with ⟨h1, _⟩ | ⟨p, h1, h2, h3⟩
    · right; rw [e]; unfold layT; rw [h1, get_junkT t _ ht]; rfl
    · left; rw [e]; unfold layT; rw [h3]; show p.2 = _; rw [hl p h1, h2]
  · left
    simp [AAct.tmp, mkAct, ht]

def closedO (K : Nat → Bool) : AObj → Bool
  | .cells vs _ _ root _ => vs.all (closedV K 8) && (match root with | none => true | some r => K r)
  | .map es => es.all fun p => closedV K 8 p.1 && closedV K 8 p.2
  | _ => false

theorem OR.rs {K : Nat → Bool} {β : Emb} {o : AObj} {e : Em} {hp : Array Obj} (hc : closedO K o = true) (h : OR β o e hp) : OR (rsE K β) o e hp := by
  cases o with
  | cells vs t st root fz =>
    simp only [closedO, Bool.and_eq_true, List.all_eq_true] at hc
    obtain ⟨cs, fr, g, c⟩ := h
    refine ⟨cs, fr, g, c.size, c.fits, fun i v hv => ?_, c.frz⟩
    obtain ⟨v', h1, h2⟩ := c.val i v hv
    exact ⟨v', h1, VR.rs 8 (hc.1 v (List.mem_of_getElem? hv)) h2⟩
  | loop l => cases hc
  | deferred b => cases hc
  | map es =>
    simp only [closedO, List.all_eq_true, Bool.and_eq_true] at hc
    obtain ⟨es', ck, g, r⟩ := h
    refine ⟨es', ck, g, ?_⟩
    have key : ∀ {l : List (Value × Value)} {m : List MapEntry}, (∀ x ∈ l, closedV K 8 x.1 = true ∧ closedV K 8 x.2 = true) → MapR β l m → MapR (rsE K β) l m := by
      intro l m hl h
      induction h with
      | nil => exact .nil
      | cons hk hv _ ih => exact .cons (VR.rs 8 (hl _ List.mem_cons_self).1 hk) (VR.rs 8 (hl _ List.mem_cons_self).2 hv) (ih fun x hx => hl x (List.mem_cons_of_mem _ hx))
    exact key hc r

/-- A memory that holds of another what is kept. -/
structure Kept (K : Nat → Bool) (h h' : AHeap) : Prop where
  n : h'.n = h.n
  get : ∀ B o, h'.get B = some o → K B = true ∧ h.get B = some o
  has : ∀ B o, K B = true → h.get B = some o → h'.get B = some o
  lv : ∀ r, K r = true → h'.lv.get r = h.lv.get r
  clo : ∀ B o, h'.get B = some o → closedO K o = true

theorem closedO_root {K : Nat → Bool} {o : AObj} (hc : closedO K o = true) {r : Nat} (hr : o.root = some r) : K r = true := by
  cases o with
  | cells vs t st root fz => simp only [AObj.root] at hr; subst hr; simp only [closedO, Bool.and_eq_true] at hc; exact hc.2
  | _ => cases hr

theorem Kept.live {K : Nat → Bool} {h h' : AHeap} (k : Kept K h h') {B : Nat} {o : AObj} (hg : h'.get B = some o) : h'.liveO B o = h.liveO B o := by
  unfold AHeap.liveO
  cases hr : o.root with
  | none => rfl
  | some r => simp only [AHeap.live, k.lv r (closedO_root (k.clo B o hg) hr)]

theorem HR.kept {K : Nat → Bool} {β : Emb} {h h' : AHeap} {hp : Array Obj} (H : HR β h hp) (k : Kept K h h') : HR (rsE K β) h' hp := by
  refine ⟨?_, ?_, ?_, ?_, ?_, ?_, ?_, ?_, ?_⟩
  · intro B e hB; rw [k.n]; exact H.dom B e (rsE_some hB).2
  · intro B e hB
    obtain ⟨hk, hb⟩ := rsE_some hB
    obtain ⟨o, ho⟩ := H.has B e hb
    exact ⟨o, k.has B o hk ho⟩
  · intro B e o hB hg hl
    rw [k.live hg] at hl
    exact (H.con B e o (rsE_some hB).2 (k.get B o hg).2 hl).rs (k.clo B o hg)
  · intro B1 B2 e1 e2 o1 o2 h1 h2 g1 g2 hne hc
    exact H.sep B1 B2 e1 e2 o1 o2 (rsE_some h1).2 (rsE_some h2).2 (k.get _ _ g1).2 (k.get _ _ g2).2 hne hc
  · intro B1 B2 e1 e2 o1 o2 r h1 h2 g1 g2
    exact H.mono B1 B2 e1 e2 o1 o2 r (rsE_some h1).2 (rsE_some h2).2 (k.get _ _ g1).2 (k.get _ _ g2).2
  · intro B1 B2 o1 o2 r g1 g2
    exact H.tip B1 B2 o1 o2 r (k.get _ _ g1).2 (k.get _ _ g2).2
  · intro B o hg; rw [k.n]; exact H.bnd B o (k.get _ _ hg).2
  · intro B o r hg hr
    obtain ⟨y, h1, h2⟩ := H.rt B o r (k.get _ _ hg).2 hr
    exact ⟨y, k.has r y (closedO_root (k.clo B o hg) hr) h1, h2⟩
  · intro B e o hB hg
    exact H.b0 B e o (rsE_some hB).2 (k.get _ _ hg).2

/-! ### What a run keeps, whatever it forgets -/
structure WExt (β : Emb) (h : AHeap) (w : World) (β' : Emb) (h' : AHeap) (w' : World) : Prop where
  os : w'.os = w.os
  tape : w'.tape = w.tape
  output : w'.output = w.output
  size : w.heap.size ≤ w'.heap.size
  own : ∀ C, Own β' h' C → C < w.heap.size → Own β h C
  keep : ∀ C, C < w.heap.size → ¬ Own β h C → w'.heap[C]? = w.heap[C]?

theorem Ext.weak {β β' : Emb} {h h' : AHeap} {w w' : World} (X : Ext β h w β' h' w') : WExt β h w β' h' w' := ⟨X.os, X.tape, X.output, X.size, X.own, X.keep⟩
theorem WExt.refl (β : Emb) (h : AHeap) (w : World) : WExt β h w β h w := (Ext.refl β h w).weak
theorem WExt.trans {β β1 β2 : Emb} {h h1 h2 : AHeap} {w w1 w2 : World} (a : WExt β h w β1 h1 w1) (b : WExt β1 h1 w1 β2 h2 w2) : WExt β h w β2 h2 w2 := by
  refine ⟨b.os.trans a.os, b.tape.trans a.tape, b.output.trans a.output, Nat.le_trans a.size b.size, ?_, ?_⟩
  · intro C hC hlt
    exact a.own C (b.own C hC (Nat.lt_of_lt_of_le hlt a.size)) hlt
  · intro C hlt hno
    rw [b.keep C (Nat.lt_of_lt_of_le hlt a.size) (fun ho => hno (a.own C ho hlt))]
    exact a.keep C hlt hno

theorem Own.kept {K : Nat → Bool} {β : Emb} {h h' : AHeap} (k : Kept K h h') {C : Nat} (o : Own (rsE K β) h' C) : Own β h C := by
  obtain ⟨B, e, x, h1, h2, h3, h4⟩ := o
  exact ⟨B, e, x, (rsE_some h1).2, h2, (k.get _ _ h3).2, h4⟩
theorem WExt.kept {K : Nat → Bool} {β : Emb} {h h' : AHeap} (k : Kept K h h') (w : World) : WExt β h w (rsE K β) h' w :=
  ⟨rfl, rfl, rfl, Nat.le_refl _, fun C hC _ => hC.kept k, fun _ _ _ => rfl⟩

/-! ### Runs -/
def GoesW (E : Env) (b : Frame) (r : ARes) (β : Emb) (h : AHeap) (w : World) (m : Machine) (k : List Item) (c0 : Frame) (rs cs : List Frame) : Prop :=
  ∃ β' a₁' u₁' w' e', StR E β' r.a r.u r.h a₁' u₁' w' ∧ WExt β h w β' r.h w' ∧ KindR r.u b.kind ∧ ExR β' r.e e' ∧ Arr E.P m b k (lay c0 rs cs u₁') e' a₁' w'

/-- As Does, of an activation that is no round; what is dead may be forgotten. -/
def DoesW (C : Ctx) (c : Code) (a : AAct) (u : Option FrameMode) (h : AHeap) (Q : ARes → Prop) : Prop :=
  ∀ (b : Frame) (k : List Item) (c0 : Frame) (rs cs : List Frame) (β : Emb) (a₁ : Act) (u₁ : Option FrameMode) (w : World),
    StR C.E β a u h a₁ u₁ w → KindR u b.kind → b.fn = C.fid → RoR β C.ro b.roundOf →
    ∃ r, Q r ∧ GoesW C.E b r β h w (lone (b.atR a₁ (.code c :: k)) (lay c0 rs cs u₁) w) k c0 rs cs

variable {C : Ctx} {Q Q' : ARes → Prop} {a a' : AAct} {u : Option FrameMode} {h h' : AHeap}

theorem Does.weak {c : Code} (t : Does C c a u h Q) : DoesW C c a u h Q := by
  intro b k c0 rs cs β a₁ u₁ w S hk hfn hro
  obtain ⟨r, q, β', a₁', u₁', w', e', S', X, r1, r2, r3⟩ := t b k c0 rs cs β a₁ u₁ w S hk hfn hro
  exact ⟨r, q, β', a₁', u₁', w', e', S', X.weak, r1, r2, r3⟩

theorem DoesW.mono {c : Code} (hq : ∀ r, Q r → Q' r) (t : DoesW C c a u h Q) : DoesW C c a u h Q' :=
  fun b k c0 rs cs β a₁ u₁ w S hk hfn hro => let ⟨r, q, g⟩ := t b k c0 rs cs β a₁ u₁ w S hk hfn hro; ⟨r, hq r q, g⟩

theorem StR.kept {K : Nat → Bool} {β : Emb} {a₁ : Act} {u₁ : Option FrameMode} {w : World} (hu : u = none) (hg : ∀ g, C.E.gl g = true → K g = true) (k : Kept K h h') (l : Less a a')
    (hc : ∀ t, closedV K 8 (a'.tmp t) = true) (hd : a'.defers = []) (S : StR C.E β a u h a₁ u₁ w) : StR C.E (rsE K β) a' u h' a₁ u₁ w := by
  subst hu
  refine ⟨S.hr.kept k, ?_, ?_, ?_⟩
  · intro g h1
    obtain ⟨e, h2, h3, h4⟩ := S.gl g h1
    exact ⟨e, rsE_of (hg g h1) h2, h3, h4⟩
  · have A := l.act S.act
    refine ⟨A.size, fun t => VR.rs 8 (hc t) (A.tmp t), ?_⟩
    have := A.defers
    rw [hd] at this ⊢
    generalize a₁.defers = x at this
    cases this
    exact .nil
  · have := S.u
    cases this
    exact .none

theorem DoesW.seqR {x y : Code} (hro : C.ro = none) (t : DoesW C x a u h (fun r => (r.e = .normal ∧ DoesW C y r.a r.u r.h Q) ∨ (r.e ≠ .normal ∧ Q r))) : DoesW C (.seq x y) a u h Q := by
  intro b k c0 rs cs β a₁ u₁ w S hk hfn hr
  obtain ⟨r, q, β', a₁', u₁', w', e', S', X, hk', he, harr⟩ := t b (.code y :: k) c0 rs cs β a₁ u₁ w S hk hfn hr
  rcases q with ⟨hn, q⟩ | ⟨hn, q⟩
  · rw [hn] at he
    cases he
    have hr' : RoR β' C.ro b.roundOf := by
      rw [hro] at hr ⊢
      cases hb : b.roundOf with
      | none => trivial
      | some x => rw [hb] at hr; exact hr.elim
    obtain ⟨r2, q2, β2, a₂, u₂, w2, e2, S2, X2, hk2, he2, harr2⟩ := q b k c0 rs cs β' a₁' u₁' w' S' hk' hfn hr'
    exact ⟨r2, q2, β2, a₂, u₂, w2, e2, S2, X.trans X2, hk2, he2, harr2.of_steps (.head stepR_seq harr)⟩
  · refine ⟨r, q, β', a₁', u₁', w', e', S', X, hk', he, ?_⟩
    exact Arr.other (k := .code y :: k) (k' := k) (he.normal_iff hn) (fun id _ => rfl) (harr.of_steps (.one stepR_seq))

/-! ### What a state is packed into -/
structure Pack where
  e : Exit
  nt : Nat
  tl : List (Nat × Value)
  n : Nat
  hl : List (Nat × AObj)
  lv : List (Nat × Nat)

def getL {α : Type} (t : Tr α) : List Nat → List (Nat × α)
  | [] => []
  | B :: l => match t.get B with | some o => (B, o) :: getL t l | none => getL t l

def packOk (ks : List Nat) (tl : List (Nat × Value)) (hl : List (Nat × AObj)) : Bool :=
  (tl.all fun p => closedV (fun B => memN B ks) 8 p.2) && hl.all fun p => closedO (fun B => memN B ks) p.2

def pack (ts ks : List Nat) : Option ARes → Option Pack
  | some ⟨e, a, none, h⟩ =>
    let tl := ts.map fun t => (t, a.tmp t)
    let hl := getL h.t ks
    if a.defers.isEmpty && packOk ks tl hl then some ⟨e, a.nt, tl, h.n, hl, getL h.lv ks⟩ else none
  | _ => none

theorem getL_mem {α : Type} {t : Tr α} {p : Nat × α} : ∀ {l : List Nat}, p ∈ getL t l → p.1 ∈ l ∧ t.get p.1 = some p.2
  | B :: l, h => by
    unfold getL at h
    split at h
    · rename_i o ho
      rcases List.mem_cons.1 h with rfl | h
      · exact ⟨List.mem_cons_self, ho⟩
      · exact ⟨List.mem_cons_of_mem _ (getL_mem h).1, (getL_mem h).2⟩
    · exact ⟨List.mem_cons_of_mem _ (getL_mem h).1, (getL_mem h).2⟩
theorem mem_getL {α : Type} {t : Tr α} {B : Nat} {o : α} (ho : t.get B = some o) : ∀ {l : List Nat}, B ∈ l → (B, o) ∈ getL t l
  | x :: l, h => by
    unfold getL
    rcases List.mem_cons.1 h with rfl | h
    · rw [ho]; exact List.mem_cons_self
    · split
      · exact List.mem_cons_of_mem _ (mem_getL ho h)
      · exact mem_getL ho h
theorem get_layL {α : Type} (t : Tr α) (l : List Nat) (k : Nat) : ((getL t l).foldl (fun t p => t.set p.1 p.2) (.nil : Tr α)).get k = if memN k l then t.get k else none := by
  rcases get_foldl k (getL t l) .nil with ⟨h1, h2⟩ | ⟨p, h1, h2, h3⟩
  · rw [h1]
    split
    · rename_i hk
      cases hg : t.get k with
      | none => rfl
      | some o => exact absurd rfl (h2 (k, o) (mem_getL hg (memN_mem hk)))
    · rfl
  · obtain ⟨g1, g2⟩ := getL_mem h1
    rw [h3, ← h2, if_pos (memN_of g1), g2]

theorem pack_kept {ts ks : List Nat} {e : Exit} {a : AAct} {h : AHeap} {p : Pack} (hp : pack ts ks (some ⟨e, a, none, h⟩) = some p) :
    p.e = e ∧ Kept (fun B => memN B ks) h (mkHeap p.n p.hl p.lv) ∧ Less a (mkAct p.nt p.tl) ∧ ∀ t, closedV (fun B => memN B ks) 8 ((mkAct p.nt p.tl).tmp t) = true := by
  simp only [pack] at hp
  split at hp
  case isFalse => cases hp
  rename_i hc
  cases hp
  simp only [Bool.and_eq_true, packOk, List.all_eq_true, List.isEmpty_iff] at hc
  obtain ⟨hd, hc1, hc2⟩ := hc
  have hget : ∀ B, (mkHeap h.n (getL h.t ks) (getL h.lv ks)).get B = if memN B ks then h.get B else none := fun B => get_layL h.t ks B
  refine ⟨rfl, ⟨rfl, ?_, ?_, ?_, ?_⟩, ?_, ?_⟩
  · intro B o hB
    rw [hget] at hB
    split at hB
    · exact ⟨‹_›, hB⟩
    · cases hB
  · intro B o hk hB
    rw [hget, if_pos hk]; exact hB
  · intro r hr
    show Tr.get ((getL h.lv ks).foldl _ _) r = _
    rw [get_layL, if_pos hr]
  · intro B o hB
    rw [hget] at hB
    split at hB
    · rename_i hk
      exact hc2 (B, o) (mem_getL hB (memN_mem hk))
    · cases hB
  · refine mkAct_less hd ?_
    intro q hq
    obtain ⟨t, _, rfl⟩ := List.mem_map.1 hq
    rfl
  · intro t
    by_cases ht : t < a.nt
    · have e : (mkAct a.nt (ts.map fun t => (t, a.tmp t))).tmp t = ((layT (ts.map fun t => (t, a.tmp t)) (junkT a.nt)).get t).getD undef := by simp [AAct.tmp, mkAct, ht]
      simp only
      rw [e]
      rcases get_foldl t (ts.map fun t => (t, a.tmp t)) (junkT a.nt) with ⟨h1, _⟩ | ⟨p, h1, h2, h3⟩
      · unfold layT; rw [h1, get_junkT t _ ht]; rfl
      · unfold layT; rw [h3]; exact hc1 p h1
    · have e : (mkAct a.nt (ts.map fun t => (t, a.tmp t))).tmp t = undef := by simp [AAct.tmp, mkAct, ht]
      simp only
      rw [e]; rfl

/-- A piece: the code is run from a state, and what lives is packed. -/
theorem DoesW.piece (hC : CtxOK C) (hg : ∀ g, C.E.gl g = false) {c : Code} {ts ks : List Nat} {p : Pack} (hp : pack ts ks (acode C c a none h) = some p) (hq : Q ⟨p.e, mkAct p.nt p.tl, none, mkHeap p.n p.hl p.lv⟩) : (hn : ∀ ch, p.e ≠ .panic ch) → DoesW C c a none h Q := by
  intro hn
  cases hr : acode C c a none h with
  | none => rw [hr] at hp; cases hp
  | some r =>
    obtain ⟨e, a', u', h'⟩ := r
    cases u' with
    | some x => rw [hr] at hp; cases hp
    | none =>
      rw [hr] at hp
      obtain ⟨h1, h2, h3, h4⟩ := pack_kept hp
      intro b k c0 rs cs β a₁ u₁ w S hk hfn hro
      obtain ⟨β', a₁', u₁', w', e', S', X, r1, r2, r3⟩ := acode_ok hC (draw_ok hC) c a none h _ hr b k c0 rs cs β a₁ u₁ w S hk hfn hro
      refine ⟨_, hq, rsE (fun B => memN B ks) β', a₁', u₁', w', e', StR.kept rfl (fun g h => by rw [hg g] at h; cases h) h2 h3 h4 rfl S', X.weak.trans (.kept h2 w'), r1, ?_, r3⟩
      simp only at r2 ⊢
      rw [h1] at hn ⊢
      cases r2 with
      | normal => exact .normal
      | exit id => exact .exit id
      | ret => exact .ret
      | panic ch ch' hch => exact absurd rfl (hn ch)

/-! ### A function without arguments, from an empty memory -/
theorem pure_armW {E : Env} {f : FuncId} {fn : Func} {c : Code} {args : Array Value} {v : Value} {call : CallH} {round : Nat → Array Value → AHeap → Option (Ending × AHeap)} {fuel : Nat} (hgl : ∀ g, E.gl g = false)
    (hargs : ∀ (β : Emb) args', ArrR β args args' → ArrR (fun _ => none) args args') (hv : ∀ (β β' : Emb) v', VR β' v v' → VR β v v') (hf : E.P.funcs[f]? = some fn) (hb : fn.body = some c)
    (t : DoesW { E := E, fid := f, ro := none, call := call, round := round, fuel := fuel } c (enterAct fn args) none heap0 (fun r => r.a.defers = [] ∧ r.u = none ∧ (r.e = .normal ∨ r.e = .ret) ∧ aresults E fn r.a r.h = some v)) {h : AHeap} :
    ∀ β w args', HR β h w.heap → GlR E.gl β → ArrR β args args' → ∀ cs, ∃ β' e' w' fr, HR β' h w'.heap ∧ Ext β h w β' h w' ∧ EnR β' (.returned v) e' ∧
      Steps E.P (lone (Frame.enter E.P f args' .normal) cs w) (lone fr cs w') ∧ fr.fn = f ∧ fr.leaving E.P w' e' := by
  intro β w args' H hg ha cs
  have henter : Frame.enter E.P f args' .normal = ({ (default : Frame) with fn := f, kind := .normal } : Frame).atR { tmps := args' ++ Array.replicate (fn.ntmps - args'.size) undef, defers := [] } [.code c] := by
    simp [Frame.enter, Frame.atR, hf, hb]
    rfl
  obtain ⟨r, ⟨hd, hu, hret, hres⟩, β1, a₁, u₁, w1, e1, S1, X1, hk1, he1, harr⟩ := t { (default : Frame) with fn := f, kind := .normal } [] default [] cs (fun _ => none) _ none w ⟨HR.zero _, (fun g hg => by rw [hgl g] at hg; cases hg), enterAct_ok (hargs β args' ha), .none⟩ rfl rfl trivial
  have hu1 : u₁ = none := by
    have := S1.u
    rw [hu] at this
    cases this
    rfl
  subst hu1
  simp only [lay] at harr
  rw [← henter] at harr
  have hds : a₁.defers = [] := by
    have := S1.act.defers
    rw [hd] at this
    generalize a₁.defers = x at this
    cases this
    rfl
  have hkeep : ∀ i, i < w.heap.size → w1.heap[i]? = w.heap[i]? := fun i hi => X1.keep i hi (fun ⟨B, e, o, hB, _⟩ => by cases hB)
  have fin : HR β h w1.heap ∧ Ext β h w β h w1 := by
    refine ⟨⟨fun B e hB => ⟨(H.dom B e hB).1, Nat.lt_of_lt_of_le (H.dom B e hB).2 X1.size⟩, H.has, fun B e o hB hg hlv => ?_, H.sep, H.mono, H.tip, H.bnd, H.rt, H.b0⟩,
      ⟨Emb.le_refl _, X1.os, X1.tape, X1.output, X1.size, fun C hC _ => hC, fun C hlt _ => hkeep C hlt, Nat.le_refl _, fun _ _ hB _ => hB⟩⟩
    exact (H.con B e o hB hg hlv).move (Emb.le_refl _) (hkeep _ (H.dom B e hB).2)
  obtain ⟨v', h1, h2⟩ := results_ok S1.hr S1.act.tmps hres
  rcases hret with hre | hre
  · rw [hre] at he1
    cases he1
    exact ⟨β, .returned v', w1, { ({ (default : Frame) with fn := f, kind := .normal } : Frame).atR a₁ [] with mode := .returning }, fin.1, fin.2, .returned _ _ (hv _ _ _ h2), Steps.trans harr (.one (stepR_end rfl)), rfl, rfl, hds, rfl, fn, hf, h1⟩
  · rw [hre] at he1
    cases he1
    obtain ⟨k₁, hs⟩ := harr
    exact ⟨β, .returned v', w1, { ({ (default : Frame) with fn := f, kind := .normal } : Frame).atR a₁ (.code .ret :: k₁) with mode := .returning }, fin.1, fin.2, .returned _ _ (hv _ _ _ h2), Steps.trans hs (.one (stepR_ret rfl)), rfl, rfl, hds, rfl, fn, hf, h1⟩
end Go.Eng

