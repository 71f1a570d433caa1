/- The examples hold; a normal form is its own. No condition. -/
import Derived.Test.YtejcbkhhnibnaaaGreatDoorAwA
import Derived.Test.YtejcbkhhnibnaaaGreatDoorAwB
import Derived.Test.YtejcbkhhnibnaaaGreatDoorAwC
import Derived.Test.YtejcbkhhnibnaaaGreatDoorMk3
set_option linter.unusedVariables false
set_option maxRecDepth 100000
namespace Go.Eng
open Go.Proofs
theorem AwC_ok : CtxOK AwC := ⟨En_ok, (hands_ok En_ok (fun C _ hC => draw_ok hC) 1000 200).1, (hands_ok En_ok (fun C _ hC => draw_ok hC) 1000 200).2.1⟩
def AwQ (r : ARes) : Prop := r.a.defers = [] ∧ r.u = none ∧ (r.e = .normal ∨ r.e = .ret) ∧ aresults En Awf r.a r.h = some (.bool true)
theorem AwJ9 : DoesW AwC (sy (sy (sy (sy (sy (sy (sy (sy (sy Awc))))))))) Awa8 none Awh8 AwQ := DoesW.piece AwC_ok (fun _ => rfl) Aw9 ⟨rfl, rfl, .inr rfl, by kernel_rfl⟩ (by intro ch h; cases h)
theorem AwE8 : (sy (sy (sy (sy (sy (sy (sy (sy Awc)))))))) = .seq (sx (sy (sy (sy (sy (sy (sy (sy (sy Awc))))))))) (sy (sy (sy (sy (sy (sy (sy (sy (sy Awc))))))))) := by kernel_rfl
theorem AwJ8 : DoesW AwC (sy (sy (sy (sy (sy (sy (sy (sy Awc)))))))) Awa7 none Awh7 AwQ := by
  rw [AwE8]
  exact DoesW.seqR rfl (DoesW.piece AwC_ok (fun _ => rfl) Aw8 (.inl ⟨rfl, AwJ9⟩) (by intro ch h; cases h))
theorem AwE7 : (sy (sy (sy (sy (sy (sy (sy Awc))))))) = .seq (sx (sy (sy (sy (sy (sy (sy (sy Awc)))))))) (sy (sy (sy (sy (sy (sy (sy (sy Awc)))))))) := by kernel_rfl
theorem AwJ7 : DoesW AwC (sy (sy (sy (sy (sy (sy (sy Awc))))))) Awa6 none Awh6 AwQ := by
  rw [AwE7]
  exact DoesW.seqR rfl (DoesW.piece AwC_ok (fun _ => rfl) Aw7 (.inl ⟨rfl, AwJ8⟩) (by intro ch h; cases h))
theorem AwE6 : (sy (sy (sy (sy (sy (sy Awc)))))) = .seq (sx (sy (sy (sy (sy (sy (sy Awc))))))) (sy (sy (sy (sy (sy (sy (sy Awc))))))) := by kernel_rfl
theorem AwJ6 : DoesW AwC (sy (sy (sy (sy (sy (sy Awc)))))) Awa5 none Awh5 AwQ := by
  rw [AwE6]
  exact DoesW.seqR rfl (DoesW.piece AwC_ok (fun _ => rfl) Aw6 (.inl ⟨rfl, AwJ7⟩) (by intro ch h; cases h))
theorem AwE5 : (sy (sy (sy (sy (sy Awc))))) = .seq (sx (sy (sy (sy (sy (sy Awc)))))) (sy (sy (sy (sy (sy (sy Awc)))))) := by kernel_rfl
theorem AwJ5 : DoesW AwC (sy (sy (sy (sy (sy Awc))))) Awa4 none Awh4 AwQ := by
  rw [AwE5]
  exact DoesW.seqR rfl (DoesW.piece AwC_ok (fun _ => rfl) Aw5 (.inl ⟨rfl, AwJ6⟩) (by intro ch h; cases h))
theorem AwE4 : (sy (sy (sy (sy Awc)))) = .seq (sx (sy (sy (sy (sy Awc))))) (sy (sy (sy (sy (sy Awc))))) := by kernel_rfl
theorem AwJ4 : DoesW AwC (sy (sy (sy (sy Awc)))) Awa3 none Awh3 AwQ := by
  rw [AwE4]
  exact DoesW.seqR rfl (DoesW.piece AwC_ok (fun _ => rfl) Aw4 (.inl ⟨rfl, AwJ5⟩) (by intro ch h; cases h))
theorem AwE3 : (sy (sy (sy Awc))) = .seq (sx (sy (sy (sy Awc)))) (sy (sy (sy (sy Awc)))) := by kernel_rfl
theorem AwJ3 : DoesW AwC (sy (sy (sy Awc))) Awa2 none Awh2 AwQ := by
  rw [AwE3]
  exact DoesW.seqR rfl (DoesW.piece AwC_ok (fun _ => rfl) Aw3 (.inl ⟨rfl, AwJ4⟩) (by intro ch h; cases h))
theorem AwE2 : (sy (sy Awc)) = .seq (sx (sy (sy Awc))) (sy (sy (sy Awc))) := by kernel_rfl
theorem AwJ2 : DoesW AwC (sy (sy Awc)) Awa1 none Awh1 AwQ := by
  rw [AwE2]
  exact DoesW.seqR rfl (DoesW.piece AwC_ok (fun _ => rfl) Aw2 (.inl ⟨rfl, AwJ3⟩) (by intro ch h; cases h))
theorem AwE1 : (sy Awc) = .seq (sx (sy Awc)) (sy (sy Awc)) := by kernel_rfl
theorem AwJ1 : DoesW AwC (sy Awc) Awa0 none Awh0 AwQ := by
  rw [AwE1]
  exact DoesW.seqR rfl (DoesW.piece AwC_ok (fun _ => rfl) Aw1 (.inl ⟨rfl, AwJ2⟩) (by intro ch h; cases h))
theorem AwE0 : Awc = .seq (sx Awc) (sy Awc) := by kernel_rfl
theorem AwJ0 : DoesW AwC Awc (enterAct Awf #[]) none heap0 AwQ := by
  rw [AwE0]
  exact DoesW.seqR rfl (DoesW.piece AwC_ok (fun _ => rfl) Aw0 (.inl ⟨rfl, AwJ1⟩) (by intro ch h; cases h))
theorem AwB : Awf.body = some Awc := by kernel_rfl
theorem c11 (h : AHeap) : CallDoes En 11 #[] h (fun e h' => e = .returned (.bool true) ∧ h' = h) := by
  intro β w args' H hg ha cs
  obtain ⟨β', e', w', fr, h1, h2, h3, h4, h5, h6⟩ := pure_armW (E := En) (f := 11) (fn := Awf) (c := Awc) (args := #[]) (v := .bool true) (call := (hands En 1000 200).call) (round := (hands En 1000 200).round) (fuel := 1000) (fun _ => rfl)
    (fun β args' h => ⟨h.1, fun i v v' h1 _ => by simp at h1⟩) (fun β β' v' h => flatV_any rfl h) Tryz.func11 AwB AwJ0 (h := h) β w args' H hg ha cs
  exact ⟨.returned (.bool true), h, β', e', w', fr, ⟨rfl, rfl⟩, h1, h2, h3, h4, h5, h6⟩
end Go.Eng

set_option linter.unusedVariables false
set_option maxRecDepth 100000
namespace Go.Eng
open Go.Proofs

/-- A contract by evaluation. -/
def evS (call : CallH) (f : FuncId) : List Value → AHeap → (Ending → AHeap → Prop) → Prop := fun args h K => match call f args.toArray h with
  | some (e, h') => K e h'
  | none => False
theorem evS_ok {E : Env} {call : CallH} (hc : CallOK E call) {f : FuncId} : ∀ args h K, evS call f args h K → CallDoes E f args.toArray h K := by
  intro args h K hs
  unfold evS at hs
  split at hs
  · rename_i e h' he
    intro β w args' H hg ha cs
    obtain ⟨β', e', w', fr, h1, h2, h3, h4, h5, h6⟩ := hc f args.toArray h e h' he β w args' H hg ha cs
    exact ⟨e, h', β', e', w', fr, hs, h1, h2, h3, h4, h5, h6⟩
  · exact hs.elim
def awS : List Value → AHeap → (Ending → AHeap → Prop) → Prop := fun args h K => match args with
  | [] => K (.returned (.bool true)) h
  | _ => False
theorem awS_ok : ∀ args h K, awS args h K → CallDoes En 11 args.toArray h K := by
  intro args h K hs
  unfold awS at hs
  split at hs
  · exact (c11 h).mono fun e h' ⟨he, hh⟩ => by rw [he, hh]; exact hs
  · exact hs.elim
noncomputable def sp3 : SP := spAdd 7 (pureS nmP) (spAdd 8 (pureS nmP) (spAdd 9 (evS (acall En 100 5) 9) (spAdd 10 (evS (acall En 100 5) 10) (spAdd 11 awS sp0))))
theorem sp3_ok : SPOK En sp3 := spAdd_ok (pureS_ok (fun _ => rfl) c7) (spAdd_ok (pureS_ok (fun _ => rfl) c8) (spAdd_ok (evS_ok (acall_calls En_ok 100 5)) (spAdd_ok (evS_ok (acall_calls En_ok 100 5)) (spAdd_ok awS_ok (sp0_ok En)))))
def inv3 : Nat → AAct → AHeap → LI := fun _ _ _ => .unroll 20
end Go.Eng

set_option linter.unusedVariables false
set_option maxRecDepth 100000
namespace Go.Eng
open Go.Proofs

theorem nmGo_append : ∀ (r s b : List UInt8), nmGo (r ++ s) b = (nmGo r b).bind (nmGo s) := by
  intro r
  induction r with
  | nil => intro s b; rfl
  | cons c r ih =>
    intro s b
    simp only [List.cons_append, nmGo]
    cases nameB c.toNat with
    | false => rfl
    | true =>
      simp only [cond_true]
      cases isF c.toNat 5 with
      | true => simp only [cond_true]; exact ih _ _
      | false =>
        simp only [cond_false]
        cases (b.getLast? == some 45) with
        | true => simp only [cond_true]; exact ih _ _
        | false => simp only [cond_false]; exact ih _ _

def Gd (b : List UInt8) : Prop := nmGo b [] = some b ∧ ∀ c ∈ b, isF c.toNat 3 = false
theorem Gd.snoc {b : List UInt8} {c : UInt8} (g : Gd b) (h1 : nmGo [c] b = some (b ++ [c])) (h3 : isF c.toNat 3 = false) : Gd (b ++ [c]) := by
  refine ⟨by rw [nmGo_append, g.1]; exact h1, fun x hx => ?_⟩
  rcases List.mem_append.1 hx with h | h
  · exact g.2 x h
  · simp at h; subst h; exact h3
theorem Gd.go : ∀ (r b out : List UInt8), nmGo r b = some out → Gd b → (∀ c ∈ r, isF c.toNat 3 = false) → Gd out := by
  intro r
  induction r with
  | nil => intro b out h g _; simp only [nmGo, Option.some.injEq] at h; subst h; exact g
  | cons c r ih =>
    intro b out h g hr
    have hc := hr c List.mem_cons_self
    have hr' : ∀ x ∈ r, isF x.toNat 3 = false := fun x hx => hr x (List.mem_cons_of_mem _ hx)
    simp only [nmGo] at h
    cases h1 : nameB c.toNat with
    | false => rw [h1] at h; cases h
    | true =>
      rw [h1, cond_true] at h
      cases h2 : isF c.toNat 5 with
      | true =>
        rw [h2, cond_true] at h
        exact ih _ _ h (g.snoc (by simp only [nmGo, h1, h2, cond_true]) hc) hr'
      | false =>
        rw [h2, cond_false] at h
        cases h3 : (b.getLast? == some 45) with
        | true => rw [h3, cond_true] at h; exact ih _ _ h g hr'
        | false =>
          rw [h3, cond_false] at h
          have e1 : nameB (((45 : UInt8).toNat : Nat) : Int) = true := by decide
          have e2 : isF (((45 : UInt8).toNat : Nat) : Int) 5 = false := by decide
          exact ih _ _ h (g.snoc (by simp only [nmGo, e1, e2, h3, cond_true, cond_false]) (by decide)) hr'

theorem go_prefix : ∀ (r b out : List UInt8), nmGo r b = some out → b <+: out ∧ out.length ≤ b.length + r.length := by
  intro r
  induction r with
  | nil => intro b out h; simp only [nmGo, Option.some.injEq] at h; subst h; exact ⟨List.prefix_refl _, by simp⟩
  | cons c r ih =>
    intro b out h
    simp only [nmGo] at h
    cases h1 : nameB c.toNat with
    | false => rw [h1] at h; cases h
    | true =>
      rw [h1, cond_true] at h
      cases h2 : isF c.toNat 5 with
      | true =>
        rw [h2, cond_true] at h
        obtain ⟨p, q⟩ := ih _ _ h
        exact ⟨(List.prefix_append _ _).trans p, by simp at q ⊢; omega⟩
      | false =>
        rw [h2, cond_false] at h
        cases h3 : (b.getLast? == some 45) with
        | true => rw [h3, cond_true] at h; obtain ⟨p, q⟩ := ih _ _ h; exact ⟨p, by simp; omega⟩
        | false => rw [h3, cond_false] at h; obtain ⟨p, q⟩ := ih _ _ h; exact ⟨(List.prefix_append _ _).trans p, by simp at q ⊢; omega⟩

theorem lowB_low (c : UInt8) : isF (lowB c).toNat 3 = false := by
  cases hc : isF c.toNat 3 with
  | false => rw [low_no c hc]; exact hc
  | true =>
    unfold lowB
    rw [hc, cond_true]
    have hr : 65 ≤ c.toNat ∧ c.toNat ≤ 90 := by simp [isF] at hc; omega
    have e : (c + 32).toNat = c.toNat + 32 := by
      rw [UInt8.toNat_add]
      have : (32 : UInt8).toNat = 32 := rfl
      rw [this]; omega
    rw [e]
    simp [isF]
    omega

theorem byteAt_last {l : List UInt8} (hne : l ≠ []) : byteAt l ((l.length : Int) - 1) = ((l.getLast hne).toNat : Int) := by
  have hpos : 0 < l.length := List.length_pos_iff.2 hne
  have e : (l.length : Int) - 1 = ((l.length - 1 : Nat) : Int) := by omega
  rw [e, byteAt_of (by omega), List.getLast_eq_getElem]

theorem nmF_some {l n : List UInt8} (h : nmF l = some n) : nmF n = some n := by
  unfold nmF at h
  cases h1 : decide (1 ≤ l.length) with
  | false => rw [h1] at h; simp at h
  | true =>
  cases h2 : decide (l.length ≤ 48) with
  | false => rw [h1, h2] at h; simp at h
  | true =>
  cases h3 : isF (byteAt l 0) 5 with
  | false => rw [h1, h2, h3] at h; simp at h
  | true =>
  cases h4 : isF (byteAt l ((l.length : Int) - 1)) 5 with
  | false => rw [h1, h2, h3, h4] at h; simp at h
  | true =>
  rw [h1, h2, h3, h4] at h
  simp only [Bool.and_self, cond_true] at h
  have h1 := of_decide_eq_true h1
  have h2 := of_decide_eq_true h2
  have hne : l ≠ [] := by intro e; subst e; simp at h1
  -- it is good
  have g := Gd.go _ _ _ h ⟨rfl, fun c hc => by cases hc⟩ (fun c hc => by obtain ⟨x, _, rfl⟩ := List.mem_map.1 hc; exact lowB_low x)
  -- its first letter
  obtain ⟨c, r, rfl⟩ : ∃ c r, l = c :: r := by cases l with | nil => exact absurd rfl hne | cons c r => exact ⟨c, r, rfl⟩
  have hc0 : isF (lowB c).toNat 5 = true := low_alnum c h3
  have hfirst : [lowB c] <+: n := by
    simp only [List.map_cons, nmGo, nameB_of _ hc0, hc0, cond_true, List.nil_append] at h
    exact (go_prefix _ _ _ h).1
  have hlen : n.length ≤ 48 := by
    have := (go_prefix _ _ _ h).2
    simp at this h2
    omega
  obtain ⟨t, rfl⟩ := hfirst
  -- its last letter
  have hlast : isF (byteAt ([lowB c] ++ t) ((([lowB c] ++ t).length : Int) - 1)) 5 = true := by
    have hsplit : (c :: r).map lowB = ((c :: r).dropLast).map lowB ++ [lowB ((c :: r).getLast hne)] := by
      rw [← List.map_singleton (f := lowB), ← List.map_append, List.dropLast_concat_getLast]
    rw [byteAt_last hne] at h4
    have ha := low_alnum _ h4
    rw [hsplit, nmGo_append] at h
    cases hg : nmGo ((c :: r).dropLast.map lowB) [] with
    | none => rw [hg] at h; cases h
    | some b =>
      rw [hg] at h
      simp only [Option.bind_some, nmGo, nameB_of _ ha, ha, cond_true, Option.some.injEq] at h
      rw [← h]
      have hbne : b ++ [lowB ((c :: r).getLast hne)] ≠ [] := by simp
      rw [byteAt_last hbne]
      have e : (b ++ [lowB ((c :: r).getLast hne)]).getLast hbne = lowB ((c :: r).getLast hne) := by simp
      rw [e]
      exact ha
  have hmap : ([lowB c] ++ t).map lowB = [lowB c] ++ t := by
    conv => rhs; rw [← List.map_id ([lowB c] ++ t)]
    exact List.map_congr_left fun x hx => low_no x (g.2 x hx)
  unfold nmF
  have e1 : decide (1 ≤ ([lowB c] ++ t).length) = true := decide_eq_true (by simp)
  have e2 : decide (([lowB c] ++ t).length ≤ 48) = true := decide_eq_true hlen
  have e3 : isF (byteAt ([lowB c] ++ t) 0) 5 = true := hc0
  rw [e1, e2, e3, hlast, hmap]
  exact g.1
end Go.Eng

