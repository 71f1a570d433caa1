/- What both texts make of a text in small letters. Condition: at most 1048576 bytes. -/
import Derived.Test.YtejcbkhhnibnaaaGreatDoorMk1
import Derived.IntWalk
set_option linter.unusedVariables false
namespace Go.Eng
open Go.Proofs

/-- A pure function's contract under a condition. -/
def pureC (pre : List Value → Prop) (p : List Value → Option Value) : List Value → AHeap → (Ending → AHeap → Prop) → Prop := fun args h K => match p args with
  | some v => Cnd (pre args) ∧ K (.returned v) h
  | none => False
theorem pureC_ok {E : Env} {f : FuncId} {pre : List Value → Prop} {p : List Value → Option Value} (hgl : ∀ g, E.gl g = false) (hp : ∀ args v, p args = some v → pre args → args.all flatV = true ∧ flatV v = true ∧ CallDoes E f args.toArray heap0 (fun e _ => e = .returned v)) :
    ∀ args h K, pureC pre p args h K → CallDoes E f args.toArray h K := by
  intro args h K hs
  unfold pureC at hs
  split at hs
  · rename_i v hv
    obtain ⟨h1, h2, h3⟩ := hp args v hv hs.1.out
    exact (CallDoes.pure hgl h1 h2 h3 h).mono fun e h' ⟨he, hh⟩ => by rw [he, hh]; exact hs.2
  · exact hs.elim

def lowB (c : UInt8) : UInt8 := bif isF c.toNat 3 then c + 32 else c
def lowP : List Value → Option Value
  | [.string s] => some (.string ⟨⟨s.data.toList.map lowB⟩⟩)
  | _ => none
def strLen : List Value → Nat
  | [.string s] => s.data.toList.length
  | _ => 0
def shortS (args : List Value) : Prop := strLen args ≤ 1048576

def I22 (l : List UInt8) (n : Nat) (vals : List Value) (h : AHeap) : Prop := ∃ k : Nat, vals = [.int .i64 k] ∧ k + n = l.length ∧ h.get 0 = some (.cells (bVs ((l.take k).map lowB ++ l.drop k)) 5 0 none 1)
def inv22 (l : List UInt8) : Nat → AAct → AHeap → LI := fun _ _ _ => .inv [(10, .int .i64)] (I22 l)
def inv25 (l : List UInt8) : Nat → AAct → AHeap → LI := fun _ _ _ => .inv [(4, .int .i64)] (I22 l)
end Go.Eng

set_option linter.unusedVariables false
set_option maxRecDepth 100000
namespace Go.Eng
open Go.Proofs

theorem wrapN {n : Nat} (h : n ≤ 1099511627776) : IntKind.i64.wrap ((n : Int) + 1) = ((n + 1 : Nat) : Int) := by rw [IntWalk.i64_in _ (by omega)]; rfl
theorem low_up (c : UInt8) (h : isF c.toNat 3 = true) : Value.int IntKind.u8 (IntKind.u8.wrap ((c.toNat : Int) + 32)) = bV (lowB c) := by
  have hr : 65 ≤ c.toNat ∧ c.toNat ≤ 90 := by
    simp [isF] at h
    omega
  unfold bV lowB
  rw [h, cond_true, IntWalk.u8_in _ (by omega)]
  congr 1
  rw [UInt8.toNat_add]
  have : (32 : UInt8).toNat = 32 := rfl
  rw [this]
  omega
theorem low_no (c : UInt8) (h : isF c.toNat 3 = false) : lowB c = c := by unfold lowB; rw [h]; rfl
/-- The row behind one round. -/
theorem row_step {l : List UInt8} {k : Nat} (hlt : k < l.length) : (((l.take k).map lowB ++ l.drop k).set k (lowB l[k])) = (l.take (k + 1)).map lowB ++ l.drop (k + 1) := by
  have hlen : ((l.take k).map lowB).length = k := by simp; omega
  rw [List.set_append_right _ _ (by omega), hlen, Nat.sub_self, List.drop_eq_getElem_cons hlt, List.set_cons_zero, List.take_succ_eq_append_getElem hlt, List.map_append, List.append_assoc]
  rfl
theorem set_self {α : Type} {xs : List α} {k : Nat} {v : α} (h : xs[k]? = some v) : xs.set k v = xs := by
  obtain ⟨hlt, rfl⟩ := List.getElem?_eq_some_iff.1 h
  exact List.set_getElem_self hlt
theorem row_get {l : List UInt8} {k : Nat} (hlt : k < l.length) : ((l.take k).map lowB ++ l.drop k)[k]? = some l[k] := by
  have hlen : ((l.take k).map lowB).length = k := by simp; omega
  rw [List.getElem?_append_right (by omega), hlen, Nat.sub_self, List.drop_eq_getElem_cons hlt]
  rfl
theorem row_len {l : List UInt8} {k : Nat} (hk : k ≤ l.length) : ((l.take k).map lowB ++ l.drop k).length = l.length := by simp; omega
theorem v22 (l : List UInt8) (K : Ending → AHeap → Prop) : (wFun (wM 22 (spAdd 21 (pureS isP) sp0)) (inv22 l) Tryz.f22 [.string ⟨⟨l⟩⟩] heap0 K) =
  ((∃ n, Cnd (I22 l n [Value.int IntKind.i64 0] (heap0.push (AObj.cells (bytesOf { data := { toList := l } }) 5 0 none 1)))) ∧
    ∀ (n : Nat) (h' : AHeap) (n_1 : Int),
      Cnd (I22 l n [Value.int IntKind.i64 n_1] h') →
        bif decide (n_1 < ↑l.length) then
          Cnd (0 ≤ n_1 ∧ n_1 < ↑l.length) ∧
            ∃ n_2,
              Cnd (h'.rd 0 (0 + n_1.toNat * 1) = some (Value.int IntKind.u8 n_2)) ∧
                bif isF n_2 3 then
                  Cnd (0 ≤ n_1 ∧ n_1 < ↑l.length) ∧
                    ∃ h'_1,
                      Cnd (h'.wrN 0 (0 + n_1.toNat * 1) [Value.int IntKind.u8 (IntKind.u8.wrap (n_2 + 32))] = some h'_1) ∧
                        ∃ m, Cnd (m < n ∧ I22 l m [Value.int IntKind.i64 (IntKind.i64.wrap (n_1 + 1))] h'_1)
                else ∃ m, Cnd (m < n ∧ I22 l m [Value.int IntKind.i64 (IntKind.i64.wrap (n_1 + 1))] h')
        else
          ∃ s h'_1,
            Cnd (aconv Tryz.prog 50 9 (Value.slice (some { block := 0, off := 0 }) l.length 1) h' = some (Value.string { data := { toList := s } }, h'_1)) ∧
              K (Ending.returned (Value.string { data := { toList := s } })) h'_1) := by kernel_rfl

theorem v25 (l : List UInt8) (K : Ending → AHeap → Prop) : (wFun (wM 25 (spAdd 24 (pureS isP) sp0)) (inv25 l) Tryz.f25 [.string ⟨⟨l⟩⟩] heap0 K) =
  ((∃ n, Cnd (I22 l n [Value.int IntKind.i64 0] (heap0.push (AObj.cells (bytesOf { data := { toList := l } }) 5 0 none 1)))) ∧
    ∀ (n : Nat) (h' : AHeap) (n_1 : Int),
      Cnd (I22 l n [Value.int IntKind.i64 n_1] h') →
        bif decide (n_1 < ↑l.length) then
          Cnd (0 ≤ n_1 ∧ n_1 < ↑l.length) ∧
            ∃ n_2,
              Cnd (h'.rd 0 (0 + n_1.toNat * 1) = some (Value.int IntKind.u8 n_2)) ∧
                bif isF n_2 3 then
                  Cnd (0 ≤ n_1 ∧ n_1 < ↑l.length) ∧
                    ∃ n_3,
                      Cnd (h'.rd 0 (0 + n_1.toNat * 1) = some (Value.int IntKind.u8 n_3)) ∧
                        Cnd (0 ≤ n_1 ∧ n_1 < ↑l.length) ∧
                          ∃ h'_1,
                            Cnd (h'.wrN 0 (0 + n_1.toNat * 1) [Value.int IntKind.u8 (IntKind.u8.wrap (n_3 + 32))] = some h'_1) ∧
                              ∃ m, Cnd (m < n ∧ I22 l m [Value.int IntKind.i64 (IntKind.i64.wrap (n_1 + 1))] h'_1)
                else ∃ m, Cnd (m < n ∧ I22 l m [Value.int IntKind.i64 (IntKind.i64.wrap (n_1 + 1))] h')
        else
          ∃ s h'_1,
            Cnd (aconv Tryz.prog 50 9 (Value.slice (some { block := 0, off := 0 }) l.length 1) h' = some (Value.string { data := { toList := s } }, h'_1)) ∧
              K (Ending.returned (Value.string { data := { toList := s } })) h'_1) := by kernel_rfl


theorem p22 (l : List UInt8) (hl : l.length ≤ 1048576) (K : Ending → AHeap → Prop) (hK : ∀ h, K (.returned (.string ⟨⟨l.map lowB⟩⟩)) h) : wFun (wM 22 (spAdd 21 (pureS isP) sp0)) (inv22 l) Tryz.f22 [.string ⟨⟨l⟩⟩] heap0 K := by
  rw [v22]
  refine ⟨⟨l.length, ⟨0, rfl, by omega, ?_⟩⟩, ?_⟩
  · rw [List.take_zero, List.drop_zero]; rfl
  · rintro n h' i ⟨⟨k, hv, hkn, hg⟩⟩
    obtain rfl : i = (k : Int) := by simpa using hv
    have hlen := row_len (l := l) (k := k) (by omega)
    by_cases hlt : k < l.length
    · have hd : decide ((k : Int) < (l.length : Int)) = true := by simpa using hlt
      rw [hd, cond_true]
      have ht : 0 + (k : Int).toNat * 1 = k := by simp
      rw [ht]
      have hrd : (bVs ((l.take k).map lowB ++ l.drop k))[k]? = some (bV l[k]) := by
        unfold bVs; rw [List.getElem?_map, row_get hlt]; rfl
      refine ⟨⟨by omega⟩, _, ⟨by rw [rd_of hg rfl]; exact hrd⟩, ?_⟩
      cases hc : isF (l[k].toNat : Int) 3 with
      | true =>
        rw [cond_true]
        refine ⟨⟨by omega⟩, _, ⟨wr1_of hg (by decide) (by simp; omega) rfl⟩, l.length - (k + 1), ⟨by omega, k + 1, by rw [wrapN (by omega)], by omega, ?_⟩⟩
        rw [low_up _ hc, bVs_set, row_step hlt]
        exact get_set_same _ _ _
      | false =>
        rw [cond_false]
        refine ⟨l.length - (k + 1), ⟨by omega, k + 1, by rw [wrapN (by omega)], by omega, ?_⟩⟩
        rw [← row_step hlt, low_no _ hc, hg]
        congr 2
        rw [← bVs_set]
        exact (set_self hrd).symm
    · have hd : decide ((k : Int) < (l.length : Int)) = false := by simpa using hlt
      rw [hd, cond_false]
      have hkl : k = l.length := by omega
      subst hkl
      simp only [List.take_length, List.drop_length, List.append_nil] at hg
      exact ⟨_, h', ⟨by rw [conv_str Tryz.underlying50 Tryz.underlying9 Tryz.underlying5 hg rfl (by simp)]⟩, hK h'⟩
theorem ok22 : SPOK En (spAdd 21 (pureS isP) sp0) := spAdd_ok (pureS_ok (fun _ => rfl) c21) (sp0_ok En)
theorem c22 : ∀ args v, lowP args = some v → shortS args → args.all flatV = true ∧ flatV v = true ∧ CallDoes En 22 args.toArray heap0 (fun e _ => e = .returned v) := by
  intro args v hv hs
  unfold lowP at hv
  split at hv
  case h_2 => cases hv
  rename_i s
  cases hv
  obtain ⟨⟨l⟩⟩ := s
  have hs : l.length ≤ 1048576 := by unfold shortS strLen at hs; exact hs
  have key : ∀ (K : Ending → AHeap → Prop), (∀ h, K (.returned (.string ⟨⟨l.map lowB⟩⟩)) h) → wFun (wM 22 (spAdd 21 (pureS isP) sp0)) (inv22 l) Tryz.f22 [.string ⟨⟨l⟩⟩] heap0 K := p22 l hs
  have t := key (fun e _ => e = .returned (.string ⟨⟨l.map lowB⟩⟩)) (fun _ => rfl)
  exact ⟨rfl, rfl, wFun_ok (W := wM 22 (spAdd 21 (pureS isP) sp0)) (inv := inv22 l) (ctxM_ok 22) rfl ok22 Tryz.func22 t⟩

theorem p25 (l : List UInt8) (hl : l.length ≤ 1048576) (K : Ending → AHeap → Prop) (hK : ∀ h, K (.returned (.string ⟨⟨l.map lowB⟩⟩)) h) : wFun (wM 25 (spAdd 24 (pureS isP) sp0)) (inv25 l) Tryz.f25 [.string ⟨⟨l⟩⟩] heap0 K := by
  rw [v25]
  refine ⟨⟨l.length, ⟨0, rfl, by omega, ?_⟩⟩, ?_⟩
  · rw [List.take_zero, List.drop_zero]; rfl
  · rintro n h' i ⟨⟨k, hv, hkn, hg⟩⟩
    obtain rfl : i = (k : Int) := by simpa using hv
    have hlen := row_len (l := l) (k := k) (by omega)
    by_cases hlt : k < l.length
    · have hd : decide ((k : Int) < (l.length : Int)) = true := by simpa using hlt
      rw [hd, cond_true]
      have ht : 0 + (k : Int).toNat * 1 = k := by simp
      rw [ht]
      have hrd : (bVs ((l.take k).map lowB ++ l.drop k))[k]? = some (bV l[k]) := by
        unfold bVs; rw [List.getElem?_map, row_get hlt]; rfl
      refine ⟨⟨by omega⟩, _, ⟨by rw [rd_of hg rfl]; exact hrd⟩, ?_⟩
      cases hc : isF (l[k].toNat : Int) 3 with
      | true =>
        rw [cond_true]
        refine ⟨⟨by omega⟩, _, ⟨by rw [rd_of hg rfl]; exact hrd⟩, ⟨by omega⟩, _, ⟨wr1_of hg (by decide) (by simp; omega) rfl⟩, l.length - (k + 1), ⟨by omega, k + 1, by rw [wrapN (by omega)], by omega, ?_⟩⟩
        rw [low_up _ hc, bVs_set, row_step hlt]
        exact get_set_same _ _ _
      | false =>
        rw [cond_false]
        refine ⟨l.length - (k + 1), ⟨by omega, k + 1, by rw [wrapN (by omega)], by omega, ?_⟩⟩
        rw [← row_step hlt, low_no _ hc, hg]
        congr 2
        rw [← bVs_set]
        exact (set_self hrd).symm
    · have hd : decide ((k : Int) < (l.length : Int)) = false := by simpa using hlt
      rw [hd, cond_false]
      have hkl : k = l.length := by omega
      subst hkl
      simp only [List.take_length, List.drop_length, List.append_nil] at hg
      exact ⟨_, h', ⟨by rw [conv_str Tryz.underlying50 Tryz.underlying9 Tryz.underlying5 hg rfl (by simp)]⟩, hK h'⟩
theorem ok25 : SPOK En (spAdd 24 (pureS isP) sp0) := spAdd_ok (pureS_ok (fun _ => rfl) c24) (sp0_ok En)
theorem c25 : ∀ args v, lowP args = some v → shortS args → args.all flatV = true ∧ flatV v = true ∧ CallDoes En 25 args.toArray heap0 (fun e _ => e = .returned v) := by
  intro args v hv hs
  unfold lowP at hv
  split at hv
  case h_2 => cases hv
  rename_i s
  cases hv
  obtain ⟨⟨l⟩⟩ := s
  have hs : l.length ≤ 1048576 := by unfold shortS strLen at hs; exact hs
  have key : ∀ (K : Ending → AHeap → Prop), (∀ h, K (.returned (.string ⟨⟨l.map lowB⟩⟩)) h) → wFun (wM 25 (spAdd 24 (pureS isP) sp0)) (inv25 l) Tryz.f25 [.string ⟨⟨l⟩⟩] heap0 K := p25 l hs
  have t := key (fun e _ => e = .returned (.string ⟨⟨l.map lowB⟩⟩)) (fun _ => rfl)
  exact ⟨rfl, rfl, wFun_ok (W := wM 25 (spAdd 24 (pureS isP) sp0)) (inv := inv25 l) (ctxM_ok 25) rfl ok25 Tryz.func25 t⟩
end Go.Eng

