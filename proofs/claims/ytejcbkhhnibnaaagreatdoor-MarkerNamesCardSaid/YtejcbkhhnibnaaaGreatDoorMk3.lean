/- What a name's normal form is, in both texts, for every text. No condition. -/
import Derived.Test.YtejcbkhhnibnaaaGreatDoorMk2
import Derived.Test.YtejcbkhhnibnaaaGreatDoorEng4
import Derived.IntWalk
set_option linter.unusedVariables false
namespace Go.Eng
open Go.Proofs

def nmGo : List UInt8 → List UInt8 → Option (List UInt8)
  | [], b => some b
  | c :: r, b => bif nameB c.toNat then (bif isF c.toNat 5 then nmGo r (b ++ [c]) else bif b.getLast? == some 45 then nmGo r b else nmGo r (b ++ [45])) else none
def nmF (l : List UInt8) : Option (List UInt8) :=
  bif decide (1 ≤ l.length) && decide (l.length ≤ 48) && isF (byteAt l 0) 5 && isF (byteAt l ((l.length : Int) - 1)) 5 then nmGo (l.map lowB) [] else none
def nmV (l : List UInt8) : Value := .tuple #[.string ⟨⟨(nmF l).getD []⟩⟩, .bool (nmF l).isSome]
def nmP : List Value → Option Value
  | [.string s] => some (nmV s.data.toList)
  | _ => none

def OwnB (h : AHeap) (p : Option Addr) (e : Nat) (b : List UInt8) : Prop :=
  (b = [] ∧ p = none ∧ e = 0) ∨ (b ≠ [] ∧ e = 1 ∧ ∃ B root, B ≠ 0 ∧ p = some ⟨B, 0, none⟩ ∧ h.get B = some (.cells (bVs b) 5 0 root 0) ∧ B < h.n)
def INm (l : List UInt8) (n : Nat) (vals : List Value) (h : AHeap) : Prop := ∃ (k : Nat) (b : List UInt8) (p : Option Addr) (e : Nat), vals = [.slice p b.length e, .int .i64 k] ∧ k + n = l.length ∧
  nmGo ((l.map lowB).drop k) b = nmGo (l.map lowB) [] ∧ (b = [] → k = 0) ∧ b.length ≤ k ∧ OwnB h p e b ∧ h.lv = .nil
def I7 (l : List UInt8) (n : Nat) (vals : List Value) (h : AHeap) : Prop := INm l n vals h ∧ 0 < h.n ∧ h.get 0 = some (.cells (bVs (l.map lowB)) 5 0 none 1)
def I8 (l : List UInt8) (n : Nat) (vals : List Value) (h : AHeap) : Prop := INm l n vals h ∧ True
def inv7 (l : List UInt8) : Nat → AAct → AHeap → LI := fun _ _ _ => .inv [(4, .slc), (34, .int .i64)] (I7 l)
def inv8 (l : List UInt8) : Nat → AAct → AHeap → LI := fun _ _ _ => .inv [(5, .slc), (6, .int .i64)] (I8 l)
def sp7 : SP := spAdd 21 (pureS isP) (spAdd 22 (pureC shortS lowP) (spAdd 23 (pureS nameBP) sp0))
def sp8 : SP := spAdd 24 (pureS isP) (spAdd 25 (pureC shortS lowP) (spAdd 26 (pureS nameBP) sp0))
theorem sp7_ok : SPOK En sp7 := spAdd_ok (pureS_ok (fun _ => rfl) c21) (spAdd_ok (pureC_ok (fun _ => rfl) c22) (spAdd_ok (pureS_ok (fun _ => rfl) c23) (sp0_ok En)))
theorem sp8_ok : SPOK En sp8 := spAdd_ok (pureS_ok (fun _ => rfl) c24) (spAdd_ok (pureC_ok (fun _ => rfl) c25) (spAdd_ok (pureS_ok (fun _ => rfl) c26) (sp0_ok En)))
end Go.Eng

set_option linter.unusedVariables false
set_option maxRecDepth 100000
namespace Go.Eng
open Go.Proofs

theorem info5z : (Tryz.prog.info? 5).map (fun i => (i.zero, i.size, i.bytes)) = some (some (.int .u8 0), 1, 1) := by kernel_rfl
theorem one50 : One Tryz.prog #[50, 50] 5 := by
  refine ⟨⟨50, rfl, Tryz.underlying50⟩, ?_, (by kernel_rfl)⟩
  have h := info5z
  cases hi : Tryz.prog.info? 5 with
  | none => rw [hi] at h; cases h
  | some i =>
    rw [hi] at h
    simp only [Option.map_some, Option.some.injEq, Prod.mk.injEq] at h
    exact ⟨i, _, rfl, h.1, by rw [h.2.1]; rfl, h.2.1, by rw [h.2.2]; omega⟩

/-- A byte behind the bytes that a slice owns. -/
theorem own_step {h : AHeap} {p : Option Addr} {e : Nat} {b : List UInt8} (c : UInt8) (o : OwnB h p e b) (hl : h.lv = .nil) (hb : b.length ≤ 1000) :
    ∃ p' h', aappend Tryz.prog #[50, 50] (.slice p b.length e) (.slice (some ⟨h.n, 0, none⟩) 1 1) (h.push (.cells [bV c] 5 0 none 0)) = some (.slice p' (b ++ [c]).length 1, h') ∧ OwnB h' p' 1 (b ++ [c]) ∧ h'.lv = .nil ∧ h.n ≤ h'.n ∧
      ∀ o, 0 < h.n → h.get 0 = some o → h'.get 0 = some o := by
  rcases o with ⟨rfl, rfl, rfl⟩ | ⟨hne, rfl, B, root, hB0, rfl, hg, hB⟩
  · refine ⟨_, _, append1_nil one50 hl rfl, .inr ⟨by simp, rfl, h.n + 1, none, by omega, rfl, ?_, by simp⟩, hl, by simp; omega, fun o h0 ho => ?_⟩
    · rw [AHeap.get_push, if_pos (by simp)]; rfl
    · rw [AHeap.get_push, if_neg (by simp), AHeap.get_push, if_neg (by omega)]; exact ho
  · have e : (b ++ [c]).length = b.length + 1 := by simp
    rw [e]
    refine ⟨_, _, append1_some one50 hl rfl hB hg (by simp) (by omega), .inr ⟨by simp, rfl, h.n + 1, some (root.getD B), by omega, rfl, ?_, by simp⟩, hl, by simp; omega, fun o h0 ho => ?_⟩
    · rw [AHeap.get_push, if_pos (by simp), ← bVs_append]; rfl
    · rw [AHeap.get_push, if_neg (by simp), AHeap.get_set, if_neg (Ne.symm hB0), AHeap.get_push, if_neg (by omega)]; exact ho

theorem own_str {h : AHeap} {p : Option Addr} {e : Nat} {b : List UInt8} (o : OwnB h p e b) (hl : h.lv = .nil) : aconv Tryz.prog 50 9 (.slice p b.length e) h = some (.string ⟨⟨b⟩⟩, h) := by
  rcases o with ⟨rfl, rfl, rfl⟩ | ⟨hne, rfl, B, root, hB0, rfl, hg, hB⟩
  · exact conv_str_nil Tryz.underlying50 Tryz.underlying9 Tryz.underlying5 0
  · exact conv_str Tryz.underlying50 Tryz.underlying9 Tryz.underlying5 hg (live_nil hl _ _) rfl 1

/-- The last byte. -/
theorem own_last {h : AHeap} {p : Option Addr} {e : Nat} {b : List UInt8} (o : OwnB h p e b) (hl : h.lv = .nil) (hne : b ≠ []) :
    okP p = true ∧ ∃ c, b.getLast? = some c ∧ h.rd (pB p) (pO p + (b.length - 1)) = some (bV c) := by
  rcases o with ⟨rfl, _⟩ | ⟨_, rfl, B, root, hB0, rfl, hg, hB⟩
  · exact absurd rfl hne
  · refine ⟨rfl, b.getLast hne, List.getLast?_eq_some_getLast hne, ?_⟩
    have hpos : 0 < b.length := List.length_pos_iff.2 hne
    show h.rd B (0 + (b.length - 1)) = _
    rw [rd_of hg (live_nil hl _ _), Nat.zero_add, bVs_get (by omega)]
    congr 2
    rw [List.getLast_eq_getElem]

/-- The letters of a name, small, begin with a letter or a digit. -/
theorem low_alnum (c : UInt8) (h : isF c.toNat 5 = true) : isF (lowB c).toNat 5 = true := by
  unfold lowB
  cases hc : isF c.toNat 3 with
  | false => rw [cond_false]; exact h
  | true =>
    rw [cond_true]
    have hr : 65 ≤ c.toNat ∧ c.toNat ≤ 90 := by simp [isF] at hc; omega
    have e : (c + 32).toNat = c.toNat + 32 := by
      rw [UInt8.toNat_add]
      have : (32 : UInt8).toNat = 32 := rfl
      rw [this]; omega
    rw [e]
    simp [isF]
    omega
theorem nameB_of (c : Int) (h : isF c 5 = true) : nameB c = true := by unfold nameB; rw [h]; rfl
theorem wrapP {n : Nat} (h : n ≤ 1099511627776) (h0 : 0 < n) : IntKind.i64.wrap ((n : Int) - 1) = ((n - 1 : Nat) : Int) := by rw [IntWalk.i64_in _ (by omega)]; omega
end Go.Eng

set_option linter.unusedVariables false
set_option maxRecDepth 100000
namespace Go.Eng
open Go.Proofs
theorem byte_eq {L : List UInt8} {k : Nat} (hk : k < L.length) : byteAt L (k : Int) = ((L[k]).toNat : Int) := byteAt_of hk
theorem rd_byte {h : AHeap} {L : List UInt8} {k fz : Nat} (h0 : h.get 0 = some (.cells (bVs L) 5 0 none fz)) (hk : k < L.length) : h.rd 0 (0 + (k : Int).toNat * 1) = some (.int .u8 ((L[k]).toNat : Int)) := by
  have e : 0 + (k : Int).toNat * 1 = k := by simp
  rw [e, rd_of h0 rfl, bVs_get hk]; rfl
theorem v7 (l : List UInt8) (K : Ending → AHeap → Prop) : (wFun (wM 7 sp7) (inv7 l) Tryz.f7 [.string ⟨⟨l⟩⟩] heap0 K) =
  (bif decide ((↑l.length : Int) < (1 : Int)) then K (Ending.returned (Value.tuple { toList := [Value.string { data := { toList := [] } }, Value.bool false] })) heap0
  else
    bif decide ((↑l.length : Int) > (48 : Int)) then K (Ending.returned (Value.tuple { toList := [Value.string { data := { toList := [] } }, Value.bool false] })) heap0
    else
      Cnd ((0 : Int) ≤ (0 : Int) ∧ (0 : Int) < (↑l.length : Int)) ∧
        bif !isF (byteAt l (0 : Int)) (5 : Int) then K (Ending.returned (Value.tuple { toList := [Value.string { data := { toList := [] } }, Value.bool false] })) heap0
        else
          Cnd ((0 : Int) ≤ IntKind.i64.wrap ((↑l.length : Int) - (1 : Int)) ∧ IntKind.i64.wrap ((↑l.length : Int) - (1 : Int)) < (↑l.length : Int)) ∧
            bif !isF (byteAt l (IntKind.i64.wrap ((↑l.length : Int) - (1 : Int)))) (5 : Int) then
              K (Ending.returned (Value.tuple { toList := [Value.string { data := { toList := [] } }, Value.bool false] })) heap0
            else
              Cnd (shortS [Value.string { data := { toList := l } }]) ∧
                (∃ n,
                    Cnd
                      (I7 l n [Value.slice none (0 : Nat) (0 : Nat), Value.int IntKind.i64 (0 : Int)]
                        (heap0.push (AObj.cells (bytesOf { data := { toList := List.map lowB l } }) (5 : Nat) (0 : Nat) none (1 : Nat))))) ∧
                  ∀ (n : Nat) (h' : AHeap) (p : Option Addr) (n_1 e : Nat) (n_2 : Int),
                    Cnd (I7 l n [Value.slice p n_1 e, Value.int IntKind.i64 n_2] h') →
                      bif decide (n_2 < (↑(List.map lowB l).length : Int)) then
                        Cnd ((0 : Int) ≤ n_2 ∧ n_2 < (↑(List.map lowB l).length : Int)) ∧
                          ∃ n_3,
                            Cnd (h'.rd (0 : Nat) ((0 : Nat) + n_2.toNat * (1 : Nat)) = some (Value.int IntKind.u8 n_3)) ∧
                              bif !nameB n_3 then K (Ending.returned (Value.tuple { toList := [Value.string { data := { toList := [] } }, Value.bool false] })) h'
                              else
                                bif isF n_3 (5 : Int) then
                                  ∃ p_1 n_4 e_1 h'_1,
                                    Cnd
                                        (aappend Tryz.prog { toList := [(50 : Nat), (50 : Nat)] } (Value.slice p n_1 e) (Value.slice (some { block := h'.n, off := (0 : Nat) }) (1 : Nat) (1 : Nat))
                                            (h'.push (AObj.cells [Value.int IntKind.u8 n_3] (5 : Nat) (0 : Nat) none (0 : Nat))) =
                                          some (Value.slice p_1 n_4 e_1, h'_1)) ∧
                                      ∃ m, Cnd (m < n ∧ I7 l m [Value.slice p_1 n_4 e_1, Value.int IntKind.i64 (IntKind.i64.wrap (n_2 + (1 : Int)))] h'_1)
                                else
                                  req (okP p)
                                    (Cnd ((0 : Int) ≤ IntKind.i64.wrap ((↑n_1 : Int) - (1 : Int)) ∧ IntKind.i64.wrap ((↑n_1 : Int) - (1 : Int)) < (↑n_1 : Int)) ∧
                                      ∃ n_4,
                                        Cnd (h'.rd (pB p) (pO p + (IntKind.i64.wrap ((↑n_1 : Int) - (1 : Int))).toNat * (1 : Nat)) = some (Value.int IntKind.u8 n_4)) ∧
                                          bif n_4 != (45 : Int) then
                                            ∃ p_1 n_5 e_1 h'_1,
                                              Cnd
                                                  (aappend Tryz.prog { toList := [(50 : Nat), (50 : Nat)] } (Value.slice p n_1 e)
                                                      (Value.slice (some { block := h'.n, off := (0 : Nat) }) (1 : Nat) (1 : Nat))
                                                      (h'.push (AObj.cells [Value.int IntKind.u8 (45 : Int)] (5 : Nat) (0 : Nat) none (0 : Nat))) =
                                                    some (Value.slice p_1 n_5 e_1, h'_1)) ∧
                                                ∃ m, Cnd (m < n ∧ I7 l m [Value.slice p_1 n_5 e_1, Value.int IntKind.i64 (IntKind.i64.wrap (n_2 + (1 : Int)))] h'_1)
                                          else ∃ m, Cnd (m < n ∧ I7 l m [Value.slice p n_1 e, Value.int IntKind.i64 (IntKind.i64.wrap (n_2 + (1 : Int)))] h'))
                      else
                        ∃ s h'_1,
                          Cnd (aconv Tryz.prog (50 : Nat) (9 : Nat) (Value.slice p n_1 e) h' = some (Value.string { data := { toList := s } }, h'_1)) ∧
                            K (Ending.returned (Value.tuple { toList := [Value.string { data := { toList := s } }, Value.bool true] })) h'_1) := by kernel_rfl

theorem v8 (l : List UInt8) (K : Ending → AHeap → Prop) : (wFun (wM 8 sp8) (inv8 l) Tryz.f8 [.string ⟨⟨l⟩⟩] heap0 K) =
  (bif l == [] then K (Ending.returned (Value.tuple { toList := [Value.string { data := { toList := [] } }, Value.bool false] })) heap0
  else
    bif decide ((↑l.length : Int) > (48 : Int)) then K (Ending.returned (Value.tuple { toList := [Value.string { data := { toList := [] } }, Value.bool false] })) heap0
    else
      Cnd ((0 : Int) ≤ (0 : Int) ∧ (0 : Int) < (↑l.length : Int)) ∧
        bif !isF (byteAt l (0 : Int)) (5 : Int) then K (Ending.returned (Value.tuple { toList := [Value.string { data := { toList := [] } }, Value.bool false] })) heap0
        else
          Cnd ((0 : Int) ≤ IntKind.i64.wrap ((↑l.length : Int) - (1 : Int)) ∧ IntKind.i64.wrap ((↑l.length : Int) - (1 : Int)) < (↑l.length : Int)) ∧
            bif !isF (byteAt l (IntKind.i64.wrap ((↑l.length : Int) - (1 : Int)))) (5 : Int) then
              K (Ending.returned (Value.tuple { toList := [Value.string { data := { toList := [] } }, Value.bool false] })) heap0
            else
              Cnd (shortS [Value.string { data := { toList := l } }]) ∧
                (∃ n, Cnd (I8 l n [Value.slice none (0 : Nat) (0 : Nat), Value.int IntKind.i64 (0 : Int)] heap0)) ∧
                  ∀ (n : Nat) (h' : AHeap) (p : Option Addr) (n_1 e : Nat) (n_2 : Int),
                    Cnd (I8 l n [Value.slice p n_1 e, Value.int IntKind.i64 n_2] h') →
                      bif decide (n_2 < (↑(List.map lowB l).length : Int)) then
                        Cnd ((0 : Int) ≤ n_2 ∧ n_2 < (↑(List.map lowB l).length : Int)) ∧
                          bif !nameB (byteAt (List.map lowB l) n_2) then K (Ending.returned (Value.tuple { toList := [Value.string { data := { toList := [] } }, Value.bool false] })) h'
                          else
                            Cnd ((0 : Int) ≤ n_2 ∧ n_2 < (↑(List.map lowB l).length : Int)) ∧
                              bif isF (byteAt (List.map lowB l) n_2) (5 : Int) then
                                Cnd ((0 : Int) ≤ n_2 ∧ n_2 < (↑(List.map lowB l).length : Int)) ∧
                                  ∃ p_1 n_3 e_1 h'_1,
                                    Cnd
                                        (aappend Tryz.prog { toList := [(50 : Nat), (50 : Nat)] } (Value.slice p n_1 e) (Value.slice (some { block := h'.n, off := (0 : Nat) }) (1 : Nat) (1 : Nat))
                                            (h'.push (AObj.cells [Value.int IntKind.u8 (byteAt (List.map lowB l) n_2)] (5 : Nat) (0 : Nat) none (0 : Nat))) =
                                          some (Value.slice p_1 n_3 e_1, h'_1)) ∧
                                      ∃ m, Cnd (m < n ∧ I8 l m [Value.slice p_1 n_3 e_1, Value.int IntKind.i64 (IntKind.i64.wrap (n_2 + (1 : Int)))] h'_1)
                              else
                                req (okP p)
                                  (Cnd ((0 : Int) ≤ IntKind.i64.wrap ((↑n_1 : Int) - (1 : Int)) ∧ IntKind.i64.wrap ((↑n_1 : Int) - (1 : Int)) < (↑n_1 : Int)) ∧
                                    ∃ n_3,
                                      Cnd (h'.rd (pB p) (pO p + (IntKind.i64.wrap ((↑n_1 : Int) - (1 : Int))).toNat * (1 : Nat)) = some (Value.int IntKind.u8 n_3)) ∧
                                        bif n_3 != (45 : Int) then
                                          ∃ p_1 n_4 e_1 h'_1,
                                            Cnd
                                                (aappend Tryz.prog { toList := [(50 : Nat), (50 : Nat)] } (Value.slice p n_1 e)
                                                    (Value.slice (some { block := h'.n, off := (0 : Nat) }) (1 : Nat) (1 : Nat))
                                                    (h'.push (AObj.cells [Value.int IntKind.u8 (45 : Int)] (5 : Nat) (0 : Nat) none (0 : Nat))) =
                                                  some (Value.slice p_1 n_4 e_1, h'_1)) ∧
                                              ∃ m, Cnd (m < n ∧ I8 l m [Value.slice p_1 n_4 e_1, Value.int IntKind.i64 (IntKind.i64.wrap (n_2 + (1 : Int)))] h'_1)
                                        else ∃ m, Cnd (m < n ∧ I8 l m [Value.slice p n_1 e, Value.int IntKind.i64 (IntKind.i64.wrap (n_2 + (1 : Int)))] h'))
                      else
                        ∃ s h'_1,
                          Cnd (aconv Tryz.prog (50 : Nat) (9 : Nat) (Value.slice p n_1 e) h' = some (Value.string { data := { toList := s } }, h'_1)) ∧
                            K (Ending.returned (Value.tuple { toList := [Value.string { data := { toList := s } }, Value.bool true] })) h'_1) := by kernel_rfl


set_option maxHeartbeats 1000000 in
theorem p7 (l : List UInt8) (K : Ending → AHeap → Prop) (hK : ∀ h, K (.returned (nmV l)) h) : wFun (wM 7 sp7) (inv7 l) Tryz.f7 [.string ⟨⟨l⟩⟩] heap0 K := by
  rw [v7]
  have no : nmF l = none → ∀ h, K (.returned (.tuple #[.string ⟨⟨[]⟩⟩, .bool false])) h := fun e h => by
    have := hK h; unfold nmV at this; rw [e] at this; exact this
  cases h1 : decide ((l.length : Int) < 1) with
  | true =>
    rw [cond_true]
    have h1 : l.length < 1 := by have h1 := of_decide_eq_true h1; omega
    refine no ?_ _
    unfold nmF
    have : decide (1 ≤ l.length) = false := decide_eq_false (by omega)
    rw [this]; rfl
  | false =>
    rw [cond_false]
    have hpos : 0 < l.length := by have h1 := of_decide_eq_false h1; omega
    have d1 : decide (1 ≤ l.length) = true := decide_eq_true (by omega)
    cases h2 : decide ((l.length : Int) > 48) with
    | true =>
      rw [cond_true]
      refine no ?_ _
      unfold nmF
      have : decide (l.length ≤ 48) = false := decide_eq_false (by have h2 := of_decide_eq_true h2; omega)
      rw [this, d1]; rfl
    | false =>
    rw [cond_false]
    have hmax : l.length ≤ 48 := by have h2 := of_decide_eq_false h2; omega
    have d2 : decide (l.length ≤ 48) = true := decide_eq_true (by omega)
    refine ⟨⟨by omega⟩, ?_⟩
    cases h3 : isF (byteAt l 0) 5 with
    | false =>
      rw [Bool.not_false, cond_true]
      refine no ?_ _
      unfold nmF
      rw [d1, d2, h3]; rfl
    | true =>
    rw [Bool.not_true, cond_false, wrapP (by omega) hpos]
    have e1 : ((l.length - 1 : Nat) : Int) = (l.length : Int) - 1 := by omega
    refine ⟨⟨by omega⟩, ?_⟩
    cases h4 : isF (byteAt l ((l.length - 1 : Nat) : Int)) 5 with
    | false =>
      rw [Bool.not_false, cond_true]
      refine no ?_ _
      unfold nmF
      rw [d1, d2, h3, ← e1, h4]; rfl
    | true =>
    rw [Bool.not_true, cond_false]
    have hnm : nmF l = nmGo (l.map lowB) [] := by unfold nmF; rw [d1, d2, h3, ← e1, h4]; rfl
    have hs : shortS [Value.string ⟨⟨l⟩⟩] := by unfold shortS strLen; show l.length ≤ 1048576; omega
    refine ⟨⟨hs⟩, ⟨l.length, ⟨⟨0, [], none, 0, rfl, by omega, rfl, fun _ => rfl, Nat.le_refl _, .inl ⟨rfl, rfl, rfl⟩, rfl⟩, by simp [AHeap.push, heap0], rfl⟩⟩, ?_⟩
    rintro n h' p m e i ⟨⟨⟨k, b, p2, e2, hv, hkn, hgo, hb0, hbk, own, hlv⟩, hn0, h0⟩⟩
    simp only [List.cons.injEq, Value.slice.injEq, Value.int.injEq, and_true, true_and] at hv
    obtain ⟨⟨rfl, rfl, rfl⟩, rfl⟩ := hv
    by_cases hlt : k < l.length
    · have hd : decide ((k : Int) < ((l.map lowB).length : Int)) = true := by simpa using hlt
      rw [hd, cond_true]
      have hL : k < (l.map lowB).length := by simpa using hlt
      refine ⟨⟨by simp; omega⟩, _, ⟨rd_byte h0 hL⟩, ?_⟩
      have hdrop : (l.map lowB).drop k = (l.map lowB)[k] :: (l.map lowB).drop (k + 1) := List.drop_eq_getElem_cons hL
      have hfirst : k = 0 → isF ((l.map lowB)[k]).toNat 5 = true := by
        rintro rfl
        rw [List.getElem_map]
        refine low_alnum _ ?_
        rw [← byteAt_of hpos]
        exact h3
      generalize (l.map lowB)[k] = c at *
      rw [hdrop] at hgo
      simp only [nmGo] at hgo
      cases h5 : nameB c.toNat with
      | false =>
        rw [Bool.not_false, cond_true]
        rw [h5, cond_false] at hgo
        exact no (hnm.trans hgo.symm) _
      | true =>
        rw [Bool.not_true, cond_false]
        rw [h5, cond_true] at hgo
        cases h6 : isF c.toNat 5 with
        | true =>
          rw [cond_true]
          rw [h6, cond_true] at hgo
          obtain ⟨p2, h2, ha, ho, hl2, hn2, hk0⟩ := own_step c own hlv (by omega)
          exact ⟨p2, _, 1, h2, ⟨ha⟩, l.length - (k + 1), ⟨by omega, ⟨k + 1, b ++ [c], p2, 1, by rw [wrapN (by omega)], by omega, hgo, by simp, by simp; omega, ho, hl2⟩, Nat.lt_of_lt_of_le hn0 hn2, hk0 _ hn0 h0⟩⟩
        | false =>
          rw [cond_false]
          rw [h6, cond_false] at hgo
          have hne : b ≠ [] := by
            intro hb
            have := hfirst (hb0 hb)
            rw [h6] at this
            cases this
          have hbpos : 0 < b.length := List.length_pos_iff.2 hne
          obtain ⟨hp, c', hlast, hrd⟩ := own_last own hlv hne
          refine req_mk hp ?_
          rw [wrapP (by omega) hbpos]
          have ei : pO p + ((b.length - 1 : Nat) : Int).toNat * 1 = pO p + (b.length - 1) := by simp
          rw [ei]
          refine ⟨⟨by omega⟩, _, ⟨hrd⟩, ?_⟩
          cases h7 : ((c'.toNat : Int) != 45) with
          | true =>
            rw [cond_true]
            have hlt45 : (b.getLast? == some 45) = false := by
              rw [hlast]
              cases hb : (some c' == some (45 : UInt8)) with
              | false => rfl
              | true =>
                have := eq_of_beq hb
                cases this
                cases h7
            rw [hlt45, cond_false] at hgo
            obtain ⟨p2, h2, ha, ho, hl2, hn2, hk0⟩ := own_step 45 own hlv (by omega)
            exact ⟨p2, _, 1, h2, ⟨ha⟩, l.length - (k + 1), ⟨by omega, ⟨k + 1, b ++ [45], p2, 1, by rw [wrapN (by omega)], by omega, hgo, by simp, by simp; omega, ho, hl2⟩, Nat.lt_of_lt_of_le hn0 hn2, hk0 _ hn0 h0⟩⟩
          | false =>
            rw [cond_false]
            have hlt45 : (b.getLast? == some 45) = true := by
              rw [hlast]
              have : (c'.toNat : Int) = 45 := by simpa using h7
              have h8 : c' = 45 := UInt8.toNat_inj.1 (by show c'.toNat = 45; omega)
              rw [h8]; rfl
            rw [hlt45, cond_true] at hgo
            exact ⟨l.length - (k + 1), ⟨by omega, ⟨k + 1, b, p, e, by rw [wrapN (by omega)], by omega, hgo, fun hb => absurd hb hne, by omega, own, hlv⟩, hn0, h0⟩⟩
    · have hd : decide ((k : Int) < ((l.map lowB).length : Int)) = false := by simpa using hlt
      rw [hd, cond_false]
      have hkl : k = l.length := by omega
      have hdr : (l.map lowB).drop k = [] := List.drop_eq_nil_of_le (by simp; omega)
      rw [hdr] at hgo
      simp only [nmGo] at hgo
      refine ⟨b, h', ⟨own_str own hlv⟩, ?_⟩
      have := hK h'
      unfold nmV at this
      rw [hnm, ← hgo] at this
      exact this

theorem c7 : ∀ args v, nmP args = some v → args.all flatV = true ∧ flatV v = true ∧ CallDoes En 7 args.toArray heap0 (fun e _ => e = .returned v) := by
  intro args v hv
  unfold nmP at hv
  split at hv
  case h_2 => cases hv
  rename_i s
  cases hv
  obtain ⟨⟨l⟩⟩ := s
  have t := p7 l (fun e _ => e = .returned (nmV l)) (fun _ => rfl)
  exact ⟨rfl, rfl, wFun_ok (W := wM 7 sp7) (inv := inv7 l) (ctxM_ok 7) rfl sp7_ok Tryz.func7 t⟩

set_option maxHeartbeats 1000000 in
theorem p8 (l : List UInt8) (K : Ending → AHeap → Prop) (hK : ∀ h, K (.returned (nmV l)) h) : wFun (wM 8 sp8) (inv8 l) Tryz.f8 [.string ⟨⟨l⟩⟩] heap0 K := by
  rw [v8]
  have no : nmF l = none → ∀ h, K (.returned (.tuple #[.string ⟨⟨[]⟩⟩, .bool false])) h := fun e h => by
    have := hK h; unfold nmV at this; rw [e] at this; exact this
  cases h1 : (l == []) with
  | true =>
    rw [cond_true]
    have h1 : l.length < 1 := by have h1 := eq_of_beq h1; subst h1; simp
    refine no ?_ _
    unfold nmF
    have : decide (1 ≤ l.length) = false := decide_eq_false (by omega)
    rw [this]; rfl
  | false =>
    rw [cond_false]
    have hpos : 0 < l.length := List.length_pos_iff.2 (by intro e; subst e; cases h1)
    have d1 : decide (1 ≤ l.length) = true := decide_eq_true (by omega)
    cases h2 : decide ((l.length : Int) > 48) with
    | true =>
      rw [cond_true]
      refine no ?_ _
      unfold nmF
      have : decide (l.length ≤ 48) = false := decide_eq_false (by have h2 := of_decide_eq_true h2; omega)
      rw [this, d1]; rfl
    | false =>
    rw [cond_false]
    have hmax : l.length ≤ 48 := by have h2 := of_decide_eq_false h2; omega
    have d2 : decide (l.length ≤ 48) = true := decide_eq_true (by omega)
    refine ⟨⟨by omega⟩, ?_⟩
    cases h3 : isF (byteAt l 0) 5 with
    | false =>
      rw [Bool.not_false, cond_true]
      refine no ?_ _
      unfold nmF
      rw [d1, d2, h3]; rfl
    | true =>
    rw [Bool.not_true, cond_false, wrapP (by omega) hpos]
    have e1 : ((l.length - 1 : Nat) : Int) = (l.length : Int) - 1 := by omega
    refine ⟨⟨by omega⟩, ?_⟩
    cases h4 : isF (byteAt l ((l.length - 1 : Nat) : Int)) 5 with
    | false =>
      rw [Bool.not_false, cond_true]
      refine no ?_ _
      unfold nmF
      rw [d1, d2, h3, ← e1, h4]; rfl
    | true =>
    rw [Bool.not_true, cond_false]
    have hnm : nmF l = nmGo (l.map lowB) [] := by unfold nmF; rw [d1, d2, h3, ← e1, h4]; rfl
    have hs : shortS [Value.string ⟨⟨l⟩⟩] := by unfold shortS strLen; show l.length ≤ 1048576; omega
    refine ⟨⟨hs⟩, ⟨l.length, ⟨⟨0, [], none, 0, rfl, by omega, rfl, fun _ => rfl, Nat.le_refl _, .inl ⟨rfl, rfl, rfl⟩, rfl⟩, trivial⟩⟩, ?_⟩
    rintro n h' p m e i ⟨⟨⟨k, b, p2, e2, hv, hkn, hgo, hb0, hbk, own, hlv⟩, _⟩⟩
    simp only [List.cons.injEq, Value.slice.injEq, Value.int.injEq, and_true, true_and] at hv
    obtain ⟨⟨rfl, rfl, rfl⟩, rfl⟩ := hv
    by_cases hlt : k < l.length
    · have hd : decide ((k : Int) < ((l.map lowB).length : Int)) = true := by simpa using hlt
      rw [hd, cond_true]
      have hL : k < (l.map lowB).length := by simpa using hlt
      rw [byte_eq hL]
      refine ⟨⟨by simp; omega⟩, ?_⟩
      have hdrop : (l.map lowB).drop k = (l.map lowB)[k] :: (l.map lowB).drop (k + 1) := List.drop_eq_getElem_cons hL
      have hfirst : k = 0 → isF ((l.map lowB)[k]).toNat 5 = true := by
        rintro rfl
        rw [List.getElem_map]
        refine low_alnum _ ?_
        rw [← byteAt_of hpos]
        exact h3
      generalize (l.map lowB)[k] = c at *
      rw [hdrop] at hgo
      simp only [nmGo] at hgo
      cases h5 : nameB c.toNat with
      | false =>
        rw [Bool.not_false, cond_true]
        rw [h5, cond_false] at hgo
        exact no (hnm.trans hgo.symm) _
      | true =>
        rw [Bool.not_true, cond_false]
        rw [h5, cond_true] at hgo
        refine ⟨⟨by simp; omega⟩, ?_⟩
        cases h6 : isF c.toNat 5 with
        | true =>
          rw [cond_true]
          rw [h6, cond_true] at hgo
          refine ⟨⟨by simp; omega⟩, ?_⟩
          obtain ⟨p2, h2, ha, ho, hl2, hn2, hk0⟩ := own_step c own hlv (by omega)
          exact ⟨p2, _, 1, h2, ⟨ha⟩, l.length - (k + 1), ⟨by omega, ⟨k + 1, b ++ [c], p2, 1, by rw [wrapN (by omega)], by omega, hgo, by simp, by simp; omega, ho, hl2⟩, trivial⟩⟩
        | false =>
          rw [cond_false]
          rw [h6, cond_false] at hgo
          have hne : b ≠ [] := by
            intro hb
            have := hfirst (hb0 hb)
            rw [h6] at this
            cases this
          have hbpos : 0 < b.length := List.length_pos_iff.2 hne
          obtain ⟨hp, c', hlast, hrd⟩ := own_last own hlv hne
          refine req_mk hp ?_
          rw [wrapP (by omega) hbpos]
          have ei : pO p + ((b.length - 1 : Nat) : Int).toNat * 1 = pO p + (b.length - 1) := by simp
          rw [ei]
          refine ⟨⟨by omega⟩, _, ⟨hrd⟩, ?_⟩
          cases h7 : ((c'.toNat : Int) != 45) with
          | true =>
            rw [cond_true]
            have hlt45 : (b.getLast? == some 45) = false := by
              rw [hlast]
              cases hb : (some c' == some (45 : UInt8)) with
              | false => rfl
              | true =>
                have := eq_of_beq hb
                cases this
                cases h7
            rw [hlt45, cond_false] at hgo
            obtain ⟨p2, h2, ha, ho, hl2, hn2, hk0⟩ := own_step 45 own hlv (by omega)
            exact ⟨p2, _, 1, h2, ⟨ha⟩, l.length - (k + 1), ⟨by omega, ⟨k + 1, b ++ [45], p2, 1, by rw [wrapN (by omega)], by omega, hgo, by simp, by simp; omega, ho, hl2⟩, trivial⟩⟩
          | false =>
            rw [cond_false]
            have hlt45 : (b.getLast? == some 45) = true := by
              rw [hlast]
              have : (c'.toNat : Int) = 45 := by simpa using h7
              have h8 : c' = 45 := UInt8.toNat_inj.1 (by show c'.toNat = 45; omega)
              rw [h8]; rfl
            rw [hlt45, cond_true] at hgo
            exact ⟨l.length - (k + 1), ⟨by omega, ⟨k + 1, b, p, e, by rw [wrapN (by omega)], by omega, hgo, fun hb => absurd hb hne, by omega, own, hlv⟩, trivial⟩⟩
    · have hd : decide ((k : Int) < ((l.map lowB).length : Int)) = false := by simpa using hlt
      rw [hd, cond_false]
      have hkl : k = l.length := by omega
      have hdr : (l.map lowB).drop k = [] := List.drop_eq_nil_of_le (by simp; omega)
      rw [hdr] at hgo
      simp only [nmGo] at hgo
      refine ⟨b, h', ⟨own_str own hlv⟩, ?_⟩
      have := hK h'
      unfold nmV at this
      rw [hnm, ← hgo] at this
      exact this

theorem c8 : ∀ args v, nmP args = some v → args.all flatV = true ∧ flatV v = true ∧ CallDoes En 8 args.toArray heap0 (fun e _ => e = .returned v) := by
  intro args v hv
  unfold nmP at hv
  split at hv
  case h_2 => cases hv
  rename_i s
  cases hv
  obtain ⟨⟨l⟩⟩ := s
  have t := p8 l (fun e _ => e = .returned (nmV l)) (fun _ => rfl)
  exact ⟨rfl, rfl, wFun_ok (W := wM 8 sp8) (inv := inv8 l) (ctxM_ok 8) rfl sp8_ok Tryz.func8 t⟩
end Go.Eng

