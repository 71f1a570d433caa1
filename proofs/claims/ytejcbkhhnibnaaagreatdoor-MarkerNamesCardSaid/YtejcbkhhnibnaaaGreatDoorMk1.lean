/- What the classes of bytes of both texts come to, for every byte and class. No condition. -/
import Derived.Test.YtejcbkhhnibnaaaGreatDoorEng3
import Derived.Test.YtejcbkhhnibnaaaGreatDoorProg
import Derived.KernelRfl
import Derived.Test.YtejcbkhhnibnaaaGreatDoorEng4
set_option linter.unusedVariables false
namespace Go.Eng
open Go.Proofs

noncomputable def En : Env := { P := Tryz.prog, gl := fun _ => false, ext := fun f => if f = 183 then some xIdx else if f = 272 then some xCmp else if f = 158 then some xSame else none }

def noNum (l : List Func) : Bool := l.all fun fn => !(fn.body.isSome && fn.name == "runtime.NumGoroutine")
theorem noNum_ok : noNum Tryz.prog.funcs.toList = true := by kernel_rfl

theorem x183 : ExtOK Tryz.prog 183 xIdx := ext_idx (fn := Tryz.f183) (by kernel_rfl) (by kernel_rfl) (by kernel_rfl) (by kernel_rfl) (by kernel_rfl)
theorem x272 : ExtOK Tryz.prog 272 xCmp := ext_cmp (fn := Tryz.f272) (by kernel_rfl) (by kernel_rfl) (by kernel_rfl) (by kernel_rfl) (by kernel_rfl)
theorem x158 : ExtOK Tryz.prog 158 xSame := ext_same (fn := Tryz.f158) (by kernel_rfl) (by kernel_rfl) (by kernel_rfl) (by kernel_rfl) (by kernel_rfl)

theorem En_ok : EnvOK En := by
  refine ⟨?_, (by kernel_rfl), ?_⟩
  · intro f g args v hg hv
    simp only [En] at hg
    split at hg
    · rename_i h; subst h; cases hg; exact x183 args v hv
    · split at hg
      · rename_i h; subst h; cases hg; exact x272 args v hv
      · split at hg
        · rename_i h; subst h; cases hg; exact x158 args v hv
        · cases hg
  · intro f fn hf hb
    have h := noNum_ok
    unfold noNum at h
    rw [List.all_eq_true] at h
    have hm : fn ∈ Tryz.prog.funcs.toList := Array.mem_toList_iff.2 (Array.mem_of_getElem? (xs := Tryz.prog.funcs) hf)
    have := h fn hm
    rw [hb] at this
    simpa using this
end Go.Eng

set_option linter.unusedVariables false
namespace Go.Eng
open Go.Proofs

noncomputable def ctxM (f : FuncId) : Ctx := { E := En, fid := f, ro := none, call := fun _ _ _ => none, round := fun _ _ _ => none, fuel := 0 }
theorem ctxM_ok (f : FuncId) : CtxOK (ctxM f) := ⟨En_ok, fun _ _ _ _ _ h => (by cases h), fun _ _ _ _ _ h => (by cases h)⟩
noncomputable def wM (f : FuncId) (s : SP) : WC := { C := ctxM f, spec := s }
def inv0 : Nat → AAct → AHeap → LI := fun _ _ _ => .unroll 0

/-! ### Classes -/
def isF (c k : Int) : Bool :=
  bif k == 1 then decide (c ≥ 48) && decide (c ≤ 57) else
  bif k == 2 then decide (c ≥ 97) && decide (c ≤ 122) else
  bif k == 3 then decide (c ≥ 65) && decide (c ≤ 90) else
  bif k == 4 then (decide (c ≥ 97) && decide (c ≤ 122)) || (decide (c ≥ 65) && decide (c ≤ 90)) else
  bif k == 5 then (decide (c ≥ 48) && decide (c ≤ 57)) || (decide (c ≥ 97) && decide (c ≤ 122)) || (decide (c ≥ 65) && decide (c ≤ 90)) else
  bif k == 6 then (c == 32) || (c == 9) else
  bif k == 7 then (c == 32) || (c == 9) || (c == 10) || (c == 13) else false
def isP : List Value → Option Value
  | [.int .u8 c, .int .i64 k] => some (.bool (isF c k))
  | _ => none
def nameB (c : Int) : Bool := isF c 5 || (c == 45) || (c == 95) || (c == 46)
def nameBP : List Value → Option Value
  | [.int .u8 c] => some (.bool (nameB c))
  | _ => none
end Go.Eng

set_option linter.unusedVariables false
set_option maxRecDepth 100000
namespace Go.Eng
open Go.Proofs
theorem v21 (c k : Int) (h : AHeap) (K : Ending → AHeap → Prop) : (wFun (wM 21 sp0) inv0 Tryz.f21 [.int .u8 c, .int .i64 k] h K) =
  (bif Decidable.decide (c ≥ 48) then
    bif Decidable.decide (c ≥ 97) then
      bif Decidable.decide (c ≥ 65) then
        bif c == 32 then
          bif k == 1 then K (Go.Ending.returned (Go.Value.bool (Decidable.decide (c ≤ 57)))) h
          else
            bif k == 2 then K (Go.Ending.returned (Go.Value.bool (Decidable.decide (c ≤ 122)))) h
            else
              bif k == 3 then K (Go.Ending.returned (Go.Value.bool (Decidable.decide (c ≤ 90)))) h
              else
                bif k == 4 then bif Decidable.decide (c ≤ 122) then K (Go.Ending.returned (Go.Value.bool Bool.true)) h else K (Go.Ending.returned (Go.Value.bool (Decidable.decide (c ≤ 90)))) h
                else
                  bif k == 5 then
                    bif Decidable.decide (c ≤ 57) then K (Go.Ending.returned (Go.Value.bool Bool.true)) h
                    else bif Decidable.decide (c ≤ 122) then K (Go.Ending.returned (Go.Value.bool Bool.true)) h else K (Go.Ending.returned (Go.Value.bool (Decidable.decide (c ≤ 90)))) h
                  else
                    bif k == 6 then K (Go.Ending.returned (Go.Value.bool Bool.true)) h
                    else bif k == 7 then K (Go.Ending.returned (Go.Value.bool Bool.true)) h else K (Go.Ending.returned (Go.Value.bool Bool.false)) h
        else
          bif k == 1 then K (Go.Ending.returned (Go.Value.bool (Decidable.decide (c ≤ 57)))) h
          else
            bif k == 2 then K (Go.Ending.returned (Go.Value.bool (Decidable.decide (c ≤ 122)))) h
            else
              bif k == 3 then K (Go.Ending.returned (Go.Value.bool (Decidable.decide (c ≤ 90)))) h
              else
                bif k == 4 then bif Decidable.decide (c ≤ 122) then K (Go.Ending.returned (Go.Value.bool Bool.true)) h else K (Go.Ending.returned (Go.Value.bool (Decidable.decide (c ≤ 90)))) h
                else
                  bif k == 5 then
                    bif Decidable.decide (c ≤ 57) then K (Go.Ending.returned (Go.Value.bool Bool.true)) h
                    else bif Decidable.decide (c ≤ 122) then K (Go.Ending.returned (Go.Value.bool Bool.true)) h else K (Go.Ending.returned (Go.Value.bool (Decidable.decide (c ≤ 90)))) h
                  else
                    bif k == 6 then K (Go.Ending.returned (Go.Value.bool (c == 9))) h
                    else
                      bif k == 7 then
                        bif c == 9 then K (Go.Ending.returned (Go.Value.bool Bool.true)) h
                        else bif c == 10 then K (Go.Ending.returned (Go.Value.bool Bool.true)) h else K (Go.Ending.returned (Go.Value.bool (c == 13))) h
                      else K (Go.Ending.returned (Go.Value.bool Bool.false)) h
      else
        bif c == 32 then
          bif k == 1 then K (Go.Ending.returned (Go.Value.bool (Decidable.decide (c ≤ 57)))) h
          else
            bif k == 2 then K (Go.Ending.returned (Go.Value.bool (Decidable.decide (c ≤ 122)))) h
            else
              bif k == 3 then K (Go.Ending.returned (Go.Value.bool Bool.false)) h
              else
                bif k == 4 then bif Decidable.decide (c ≤ 122) then K (Go.Ending.returned (Go.Value.bool Bool.true)) h else K (Go.Ending.returned (Go.Value.bool Bool.false)) h
                else
                  bif k == 5 then
                    bif Decidable.decide (c ≤ 57) then K (Go.Ending.returned (Go.Value.bool Bool.true)) h
                    else bif Decidable.decide (c ≤ 122) then K (Go.Ending.returned (Go.Value.bool Bool.true)) h else K (Go.Ending.returned (Go.Value.bool Bool.false)) h
                  else
                    bif k == 6 then K (Go.Ending.returned (Go.Value.bool Bool.true)) h
                    else bif k == 7 then K (Go.Ending.returned (Go.Value.bool Bool.true)) h else K (Go.Ending.returned (Go.Value.bool Bool.false)) h
        else
          bif k == 1 then K (Go.Ending.returned (Go.Value.bool (Decidable.decide (c ≤ 57)))) h
          else
            bif k == 2 then K (Go.Ending.returned (Go.Value.bool (Decidable.decide (c ≤ 122)))) h
            else
              bif k == 3 then K (Go.Ending.returned (Go.Value.bool Bool.false)) h
              else
                bif k == 4 then bif Decidable.decide (c ≤ 122) then K (Go.Ending.returned (Go.Value.bool Bool.true)) h else K (Go.Ending.returned (Go.Value.bool Bool.false)) h
                else
                  bif k == 5 then
                    bif Decidable.decide (c ≤ 57) then K (Go.Ending.returned (Go.Value.bool Bool.true)) h
                    else bif Decidable.decide (c ≤ 122) then K (Go.Ending.returned (Go.Value.bool Bool.true)) h else K (Go.Ending.returned (Go.Value.bool Bool.false)) h
                  else
                    bif k == 6 then K (Go.Ending.returned (Go.Value.bool (c == 9))) h
                    else
                      bif k == 7 then
                        bif c == 9 then K (Go.Ending.returned (Go.Value.bool Bool.true)) h
                        else bif c == 10 then K (Go.Ending.returned (Go.Value.bool Bool.true)) h else K (Go.Ending.returned (Go.Value.bool (c == 13))) h
                      else K (Go.Ending.returned (Go.Value.bool Bool.false)) h
    else
      bif Decidable.decide (c ≥ 65) then
        bif c == 32 then
          bif k == 1 then K (Go.Ending.returned (Go.Value.bool (Decidable.decide (c ≤ 57)))) h
          else
            bif k == 2 then K (Go.Ending.returned (Go.Value.bool Bool.false)) h
            else
              bif k == 3 then K (Go.Ending.returned (Go.Value.bool (Decidable.decide (c ≤ 90)))) h
              else
                bif k == 4 then K (Go.Ending.returned (Go.Value.bool (Decidable.decide (c ≤ 90)))) h
                else
                  bif k == 5 then bif Decidable.decide (c ≤ 57) then K (Go.Ending.returned (Go.Value.bool Bool.true)) h else K (Go.Ending.returned (Go.Value.bool (Decidable.decide (c ≤ 90)))) h
                  else
                    bif k == 6 then K (Go.Ending.returned (Go.Value.bool Bool.true)) h
                    else bif k == 7 then K (Go.Ending.returned (Go.Value.bool Bool.true)) h else K (Go.Ending.returned (Go.Value.bool Bool.false)) h
        else
          bif k == 1 then K (Go.Ending.returned (Go.Value.bool (Decidable.decide (c ≤ 57)))) h
          else
            bif k == 2 then K (Go.Ending.returned (Go.Value.bool Bool.false)) h
            else
              bif k == 3 then K (Go.Ending.returned (Go.Value.bool (Decidable.decide (c ≤ 90)))) h
              else
                bif k == 4 then K (Go.Ending.returned (Go.Value.bool (Decidable.decide (c ≤ 90)))) h
                else
                  bif k == 5 then bif Decidable.decide (c ≤ 57) then K (Go.Ending.returned (Go.Value.bool Bool.true)) h else K (Go.Ending.returned (Go.Value.bool (Decidable.decide (c ≤ 90)))) h
                  else
                    bif k == 6 then K (Go.Ending.returned (Go.Value.bool (c == 9))) h
                    else
                      bif k == 7 then
                        bif c == 9 then K (Go.Ending.returned (Go.Value.bool Bool.true)) h
                        else bif c == 10 then K (Go.Ending.returned (Go.Value.bool Bool.true)) h else K (Go.Ending.returned (Go.Value.bool (c == 13))) h
                      else K (Go.Ending.returned (Go.Value.bool Bool.false)) h
      else
        bif c == 32 then
          bif k == 1 then K (Go.Ending.returned (Go.Value.bool (Decidable.decide (c ≤ 57)))) h
          else
            bif k == 2 then K (Go.Ending.returned (Go.Value.bool Bool.false)) h
            else
              bif k == 3 then K (Go.Ending.returned (Go.Value.bool Bool.false)) h
              else
                bif k == 4 then K (Go.Ending.returned (Go.Value.bool Bool.false)) h
                else
                  bif k == 5 then bif Decidable.decide (c ≤ 57) then K (Go.Ending.returned (Go.Value.bool Bool.true)) h else K (Go.Ending.returned (Go.Value.bool Bool.false)) h
                  else
                    bif k == 6 then K (Go.Ending.returned (Go.Value.bool Bool.true)) h
                    else bif k == 7 then K (Go.Ending.returned (Go.Value.bool Bool.true)) h else K (Go.Ending.returned (Go.Value.bool Bool.false)) h
        else
          bif k == 1 then K (Go.Ending.returned (Go.Value.bool (Decidable.decide (c ≤ 57)))) h
          else
            bif k == 2 then K (Go.Ending.returned (Go.Value.bool Bool.false)) h
            else
              bif k == 3 then K (Go.Ending.returned (Go.Value.bool Bool.false)) h
              else
                bif k == 4 then K (Go.Ending.returned (Go.Value.bool Bool.false)) h
                else
                  bif k == 5 then bif Decidable.decide (c ≤ 57) then K (Go.Ending.returned (Go.Value.bool Bool.true)) h else K (Go.Ending.returned (Go.Value.bool Bool.false)) h
                  else
                    bif k == 6 then K (Go.Ending.returned (Go.Value.bool (c == 9))) h
                    else
                      bif k == 7 then
                        bif c == 9 then K (Go.Ending.returned (Go.Value.bool Bool.true)) h
                        else bif c == 10 then K (Go.Ending.returned (Go.Value.bool Bool.true)) h else K (Go.Ending.returned (Go.Value.bool (c == 13))) h
                      else K (Go.Ending.returned (Go.Value.bool Bool.false)) h
  else
    bif Decidable.decide (c ≥ 97) then
      bif Decidable.decide (c ≥ 65) then
        bif c == 32 then
          bif k == 1 then K (Go.Ending.returned (Go.Value.bool Bool.false)) h
          else
            bif k == 2 then K (Go.Ending.returned (Go.Value.bool (Decidable.decide (c ≤ 122)))) h
            else
              bif k == 3 then K (Go.Ending.returned (Go.Value.bool (Decidable.decide (c ≤ 90)))) h
              else
                bif k == 4 then bif Decidable.decide (c ≤ 122) then K (Go.Ending.returned (Go.Value.bool Bool.true)) h else K (Go.Ending.returned (Go.Value.bool (Decidable.decide (c ≤ 90)))) h
                else
                  bif k == 5 then bif Decidable.decide (c ≤ 122) then K (Go.Ending.returned (Go.Value.bool Bool.true)) h else K (Go.Ending.returned (Go.Value.bool (Decidable.decide (c ≤ 90)))) h
                  else
                    bif k == 6 then K (Go.Ending.returned (Go.Value.bool Bool.true)) h
                    else bif k == 7 then K (Go.Ending.returned (Go.Value.bool Bool.true)) h else K (Go.Ending.returned (Go.Value.bool Bool.false)) h
        else
          bif k == 1 then K (Go.Ending.returned (Go.Value.bool Bool.false)) h
          else
            bif k == 2 then K (Go.Ending.returned (Go.Value.bool (Decidable.decide (c ≤ 122)))) h
            else
              bif k == 3 then K (Go.Ending.returned (Go.Value.bool (Decidable.decide (c ≤ 90)))) h
              else
                bif k == 4 then bif Decidable.decide (c ≤ 122) then K (Go.Ending.returned (Go.Value.bool Bool.true)) h else K (Go.Ending.returned (Go.Value.bool (Decidable.decide (c ≤ 90)))) h
                else
                  bif k == 5 then bif Decidable.decide (c ≤ 122) then K (Go.Ending.returned (Go.Value.bool Bool.true)) h else K (Go.Ending.returned (Go.Value.bool (Decidable.decide (c ≤ 90)))) h
                  else
                    bif k == 6 then K (Go.Ending.returned (Go.Value.bool (c == 9))) h
                    else
                      bif k == 7 then
                        bif c == 9 then K (Go.Ending.returned (Go.Value.bool Bool.true)) h
                        else bif c == 10 then K (Go.Ending.returned (Go.Value.bool Bool.true)) h else K (Go.Ending.returned (Go.Value.bool (c == 13))) h
                      else K (Go.Ending.returned (Go.Value.bool Bool.false)) h
      else
        bif c == 32 then
          bif k == 1 then K (Go.Ending.returned (Go.Value.bool Bool.false)) h
          else
            bif k == 2 then K (Go.Ending.returned (Go.Value.bool (Decidable.decide (c ≤ 122)))) h
            else
              bif k == 3 then K (Go.Ending.returned (Go.Value.bool Bool.false)) h
              else
                bif k == 4 then bif Decidable.decide (c ≤ 122) then K (Go.Ending.returned (Go.Value.bool Bool.true)) h else K (Go.Ending.returned (Go.Value.bool Bool.false)) h
                else
                  bif k == 5 then bif Decidable.decide (c ≤ 122) then K (Go.Ending.returned (Go.Value.bool Bool.true)) h else K (Go.Ending.returned (Go.Value.bool Bool.false)) h
                  else
                    bif k == 6 then K (Go.Ending.returned (Go.Value.bool Bool.true)) h
                    else bif k == 7 then K (Go.Ending.returned (Go.Value.bool Bool.true)) h else K (Go.Ending.returned (Go.Value.bool Bool.false)) h
        else
          bif k == 1 then K (Go.Ending.returned (Go.Value.bool Bool.false)) h
          else
            bif k == 2 then K (Go.Ending.returned (Go.Value.bool (Decidable.decide (c ≤ 122)))) h
            else
              bif k == 3 then K (Go.Ending.returned (Go.Value.bool Bool.false)) h
              else
                bif k == 4 then bif Decidable.decide (c ≤ 122) then K (Go.Ending.returned (Go.Value.bool Bool.true)) h else K (Go.Ending.returned (Go.Value.bool Bool.false)) h
                else
                  bif k == 5 then bif Decidable.decide (c ≤ 122) then K (Go.Ending.returned (Go.Value.bool Bool.true)) h else K (Go.Ending.returned (Go.Value.bool Bool.false)) h
                  else
                    bif k == 6 then K (Go.Ending.returned (Go.Value.bool (c == 9))) h
                    else
                      bif k == 7 then
                        bif c == 9 then K (Go.Ending.returned (Go.Value.bool Bool.true)) h
                        else bif c == 10 then K (Go.Ending.returned (Go.Value.bool Bool.true)) h else K (Go.Ending.returned (Go.Value.bool (c == 13))) h
                      else K (Go.Ending.returned (Go.Value.bool Bool.false)) h
    else
      bif Decidable.decide (c ≥ 65) then
        bif c == 32 then
          bif k == 1 then K (Go.Ending.returned (Go.Value.bool Bool.false)) h
          else
            bif k == 2 then K (Go.Ending.returned (Go.Value.bool Bool.false)) h
            else
              bif k == 3 then K (Go.Ending.returned (Go.Value.bool (Decidable.decide (c ≤ 90)))) h
              else
                bif k == 4 then K (Go.Ending.returned (Go.Value.bool (Decidable.decide (c ≤ 90)))) h
                else
                  bif k == 5 then K (Go.Ending.returned (Go.Value.bool (Decidable.decide (c ≤ 90)))) h
                  else
                    bif k == 6 then K (Go.Ending.returned (Go.Value.bool Bool.true)) h
                    else bif k == 7 then K (Go.Ending.returned (Go.Value.bool Bool.true)) h else K (Go.Ending.returned (Go.Value.bool Bool.false)) h
        else
          bif k == 1 then K (Go.Ending.returned (Go.Value.bool Bool.false)) h
          else
            bif k == 2 then K (Go.Ending.returned (Go.Value.bool Bool.false)) h
            else
              bif k == 3 then K (Go.Ending.returned (Go.Value.bool (Decidable.decide (c ≤ 90)))) h
              else
                bif k == 4 then K (Go.Ending.returned (Go.Value.bool (Decidable.decide (c ≤ 90)))) h
                else
                  bif k == 5 then K (Go.Ending.returned (Go.Value.bool (Decidable.decide (c ≤ 90)))) h
                  else
                    bif k == 6 then K (Go.Ending.returned (Go.Value.bool (c == 9))) h
                    else
                      bif k == 7 then
                        bif c == 9 then K (Go.Ending.returned (Go.Value.bool Bool.true)) h
                        else bif c == 10 then K (Go.Ending.returned (Go.Value.bool Bool.true)) h else K (Go.Ending.returned (Go.Value.bool (c == 13))) h
                      else K (Go.Ending.returned (Go.Value.bool Bool.false)) h
      else
        bif c == 32 then
          bif k == 1 then K (Go.Ending.returned (Go.Value.bool Bool.false)) h
          else
            bif k == 2 then K (Go.Ending.returned (Go.Value.bool Bool.false)) h
            else
              bif k == 3 then K (Go.Ending.returned (Go.Value.bool Bool.false)) h
              else
                bif k == 4 then K (Go.Ending.returned (Go.Value.bool Bool.false)) h
                else
                  bif k == 5 then K (Go.Ending.returned (Go.Value.bool Bool.false)) h
                  else
                    bif k == 6 then K (Go.Ending.returned (Go.Value.bool Bool.true)) h
                    else bif k == 7 then K (Go.Ending.returned (Go.Value.bool Bool.true)) h else K (Go.Ending.returned (Go.Value.bool Bool.false)) h
        else
          bif k == 1 then K (Go.Ending.returned (Go.Value.bool Bool.false)) h
          else
            bif k == 2 then K (Go.Ending.returned (Go.Value.bool Bool.false)) h
            else
              bif k == 3 then K (Go.Ending.returned (Go.Value.bool Bool.false)) h
              else
                bif k == 4 then K (Go.Ending.returned (Go.Value.bool Bool.false)) h
                else
                  bif k == 5 then K (Go.Ending.returned (Go.Value.bool Bool.false)) h
                  else
                    bif k == 6 then K (Go.Ending.returned (Go.Value.bool (c == 9))) h
                    else
                      bif k == 7 then
                        bif c == 9 then K (Go.Ending.returned (Go.Value.bool Bool.true)) h
                        else bif c == 10 then K (Go.Ending.returned (Go.Value.bool Bool.true)) h else K (Go.Ending.returned (Go.Value.bool (c == 13))) h
                      else K (Go.Ending.returned (Go.Value.bool Bool.false)) h) := by kernel_rfl

theorem v24 (c k : Int) (h : AHeap) (K : Ending → AHeap → Prop) : (wFun (wM 24 sp0) inv0 Tryz.f24 [.int .u8 c, .int .i64 k] h K) =
  (bif Decidable.decide (c ≥ 48) then
    bif Decidable.decide (c ≥ 97) then
      bif Decidable.decide (c ≥ 65) then
        bif c == 32 then
          bif k == 1 then K (Go.Ending.returned (Go.Value.bool (Decidable.decide (c ≤ 57)))) h
          else
            bif k == 2 then K (Go.Ending.returned (Go.Value.bool (Decidable.decide (c ≤ 122)))) h
            else
              bif k == 3 then K (Go.Ending.returned (Go.Value.bool (Decidable.decide (c ≤ 90)))) h
              else
                bif k == 4 then bif Decidable.decide (c ≤ 122) then K (Go.Ending.returned (Go.Value.bool Bool.true)) h else K (Go.Ending.returned (Go.Value.bool (Decidable.decide (c ≤ 90)))) h
                else
                  bif k == 5 then
                    bif Decidable.decide (c ≤ 122) then K (Go.Ending.returned (Go.Value.bool Bool.true)) h
                    else bif Decidable.decide (c ≤ 90) then K (Go.Ending.returned (Go.Value.bool Bool.true)) h else K (Go.Ending.returned (Go.Value.bool (Decidable.decide (c ≤ 57)))) h
                  else
                    bif k == 6 then K (Go.Ending.returned (Go.Value.bool Bool.true)) h
                    else bif k == 7 then K (Go.Ending.returned (Go.Value.bool Bool.true)) h else K (Go.Ending.returned (Go.Value.bool Bool.false)) h
        else
          bif k == 1 then K (Go.Ending.returned (Go.Value.bool (Decidable.decide (c ≤ 57)))) h
          else
            bif k == 2 then K (Go.Ending.returned (Go.Value.bool (Decidable.decide (c ≤ 122)))) h
            else
              bif k == 3 then K (Go.Ending.returned (Go.Value.bool (Decidable.decide (c ≤ 90)))) h
              else
                bif k == 4 then bif Decidable.decide (c ≤ 122) then K (Go.Ending.returned (Go.Value.bool Bool.true)) h else K (Go.Ending.returned (Go.Value.bool (Decidable.decide (c ≤ 90)))) h
                else
                  bif k == 5 then
                    bif Decidable.decide (c ≤ 122) then K (Go.Ending.returned (Go.Value.bool Bool.true)) h
                    else bif Decidable.decide (c ≤ 90) then K (Go.Ending.returned (Go.Value.bool Bool.true)) h else K (Go.Ending.returned (Go.Value.bool (Decidable.decide (c ≤ 57)))) h
                  else
                    bif k == 6 then K (Go.Ending.returned (Go.Value.bool (c == 9))) h
                    else
                      bif k == 7 then
                        bif c == 9 then K (Go.Ending.returned (Go.Value.bool Bool.true)) h
                        else bif c == 10 then K (Go.Ending.returned (Go.Value.bool Bool.true)) h else K (Go.Ending.returned (Go.Value.bool (c == 13))) h
                      else K (Go.Ending.returned (Go.Value.bool Bool.false)) h
      else
        bif c == 32 then
          bif k == 1 then K (Go.Ending.returned (Go.Value.bool (Decidable.decide (c ≤ 57)))) h
          else
            bif k == 2 then K (Go.Ending.returned (Go.Value.bool (Decidable.decide (c ≤ 122)))) h
            else
              bif k == 3 then K (Go.Ending.returned (Go.Value.bool Bool.false)) h
              else
                bif k == 4 then bif Decidable.decide (c ≤ 122) then K (Go.Ending.returned (Go.Value.bool Bool.true)) h else K (Go.Ending.returned (Go.Value.bool Bool.false)) h
                else
                  bif k == 5 then bif Decidable.decide (c ≤ 122) then K (Go.Ending.returned (Go.Value.bool Bool.true)) h else K (Go.Ending.returned (Go.Value.bool (Decidable.decide (c ≤ 57)))) h
                  else
                    bif k == 6 then K (Go.Ending.returned (Go.Value.bool Bool.true)) h
                    else bif k == 7 then K (Go.Ending.returned (Go.Value.bool Bool.true)) h else K (Go.Ending.returned (Go.Value.bool Bool.false)) h
        else
          bif k == 1 then K (Go.Ending.returned (Go.Value.bool (Decidable.decide (c ≤ 57)))) h
          else
            bif k == 2 then K (Go.Ending.returned (Go.Value.bool (Decidable.decide (c ≤ 122)))) h
            else
              bif k == 3 then K (Go.Ending.returned (Go.Value.bool Bool.false)) h
              else
                bif k == 4 then bif Decidable.decide (c ≤ 122) then K (Go.Ending.returned (Go.Value.bool Bool.true)) h else K (Go.Ending.returned (Go.Value.bool Bool.false)) h
                else
                  bif k == 5 then bif Decidable.decide (c ≤ 122) then K (Go.Ending.returned (Go.Value.bool Bool.true)) h else K (Go.Ending.returned (Go.Value.bool (Decidable.decide (c ≤ 57)))) h
                  else
                    bif k == 6 then K (Go.Ending.returned (Go.Value.bool (c == 9))) h
                    else
                      bif k == 7 then
                        bif c == 9 then K (Go.Ending.returned (Go.Value.bool Bool.true)) h
                        else bif c == 10 then K (Go.Ending.returned (Go.Value.bool Bool.true)) h else K (Go.Ending.returned (Go.Value.bool (c == 13))) h
                      else K (Go.Ending.returned (Go.Value.bool Bool.false)) h
    else
      bif Decidable.decide (c ≥ 65) then
        bif c == 32 then
          bif k == 1 then K (Go.Ending.returned (Go.Value.bool (Decidable.decide (c ≤ 57)))) h
          else
            bif k == 2 then K (Go.Ending.returned (Go.Value.bool Bool.false)) h
            else
              bif k == 3 then K (Go.Ending.returned (Go.Value.bool (Decidable.decide (c ≤ 90)))) h
              else
                bif k == 4 then K (Go.Ending.returned (Go.Value.bool (Decidable.decide (c ≤ 90)))) h
                else
                  bif k == 5 then bif Decidable.decide (c ≤ 90) then K (Go.Ending.returned (Go.Value.bool Bool.true)) h else K (Go.Ending.returned (Go.Value.bool (Decidable.decide (c ≤ 57)))) h
                  else
                    bif k == 6 then K (Go.Ending.returned (Go.Value.bool Bool.true)) h
                    else bif k == 7 then K (Go.Ending.returned (Go.Value.bool Bool.true)) h else K (Go.Ending.returned (Go.Value.bool Bool.false)) h
        else
          bif k == 1 then K (Go.Ending.returned (Go.Value.bool (Decidable.decide (c ≤ 57)))) h
          else
            bif k == 2 then K (Go.Ending.returned (Go.Value.bool Bool.false)) h
            else
              bif k == 3 then K (Go.Ending.returned (Go.Value.bool (Decidable.decide (c ≤ 90)))) h
              else
                bif k == 4 then K (Go.Ending.returned (Go.Value.bool (Decidable.decide (c ≤ 90)))) h
                else
                  bif k == 5 then bif Decidable.decide (c ≤ 90) then K (Go.Ending.returned (Go.Value.bool Bool.true)) h else K (Go.Ending.returned (Go.Value.bool (Decidable.decide (c ≤ 57)))) h
                  else
                    bif k == 6 then K (Go.Ending.returned (Go.Value.bool (c == 9))) h
                    else
                      bif k == 7 then
                        bif c == 9 then K (Go.Ending.returned (Go.Value.bool Bool.true)) h
                        else bif c == 10 then K (Go.Ending.returned (Go.Value.bool Bool.true)) h else K (Go.Ending.returned (Go.Value.bool (c == 13))) h
                      else K (Go.Ending.returned (Go.Value.bool Bool.false)) h
      else
        bif c == 32 then
          bif k == 1 then K (Go.Ending.returned (Go.Value.bool (Decidable.decide (c ≤ 57)))) h
          else
            bif k == 2 then K (Go.Ending.returned (Go.Value.bool Bool.false)) h
            else
              bif k == 3 then K (Go.Ending.returned (Go.Value.bool Bool.false)) h
              else
                bif k == 4 then K (Go.Ending.returned (Go.Value.bool Bool.false)) h
                else
                  bif k == 5 then K (Go.Ending.returned (Go.Value.bool (Decidable.decide (c ≤ 57)))) h
                  else
                    bif k == 6 then K (Go.Ending.returned (Go.Value.bool Bool.true)) h
                    else bif k == 7 then K (Go.Ending.returned (Go.Value.bool Bool.true)) h else K (Go.Ending.returned (Go.Value.bool Bool.false)) h
        else
          bif k == 1 then K (Go.Ending.returned (Go.Value.bool (Decidable.decide (c ≤ 57)))) h
          else
            bif k == 2 then K (Go.Ending.returned (Go.Value.bool Bool.false)) h
            else
              bif k == 3 then K (Go.Ending.returned (Go.Value.bool Bool.false)) h
              else
                bif k == 4 then K (Go.Ending.returned (Go.Value.bool Bool.false)) h
                else
                  bif k == 5 then K (Go.Ending.returned (Go.Value.bool (Decidable.decide (c ≤ 57)))) h
                  else
                    bif k == 6 then K (Go.Ending.returned (Go.Value.bool (c == 9))) h
                    else
                      bif k == 7 then
                        bif c == 9 then K (Go.Ending.returned (Go.Value.bool Bool.true)) h
                        else bif c == 10 then K (Go.Ending.returned (Go.Value.bool Bool.true)) h else K (Go.Ending.returned (Go.Value.bool (c == 13))) h
                      else K (Go.Ending.returned (Go.Value.bool Bool.false)) h
  else
    bif Decidable.decide (c ≥ 97) then
      bif Decidable.decide (c ≥ 65) then
        bif c == 32 then
          bif k == 1 then K (Go.Ending.returned (Go.Value.bool Bool.false)) h
          else
            bif k == 2 then K (Go.Ending.returned (Go.Value.bool (Decidable.decide (c ≤ 122)))) h
            else
              bif k == 3 then K (Go.Ending.returned (Go.Value.bool (Decidable.decide (c ≤ 90)))) h
              else
                bif k == 4 then bif Decidable.decide (c ≤ 122) then K (Go.Ending.returned (Go.Value.bool Bool.true)) h else K (Go.Ending.returned (Go.Value.bool (Decidable.decide (c ≤ 90)))) h
                else
                  bif k == 5 then
                    bif Decidable.decide (c ≤ 122) then K (Go.Ending.returned (Go.Value.bool Bool.true)) h
                    else bif Decidable.decide (c ≤ 90) then K (Go.Ending.returned (Go.Value.bool Bool.true)) h else K (Go.Ending.returned (Go.Value.bool Bool.false)) h
                  else
                    bif k == 6 then K (Go.Ending.returned (Go.Value.bool Bool.true)) h
                    else bif k == 7 then K (Go.Ending.returned (Go.Value.bool Bool.true)) h else K (Go.Ending.returned (Go.Value.bool Bool.false)) h
        else
          bif k == 1 then K (Go.Ending.returned (Go.Value.bool Bool.false)) h
          else
            bif k == 2 then K (Go.Ending.returned (Go.Value.bool (Decidable.decide (c ≤ 122)))) h
            else
              bif k == 3 then K (Go.Ending.returned (Go.Value.bool (Decidable.decide (c ≤ 90)))) h
              else
                bif k == 4 then bif Decidable.decide (c ≤ 122) then K (Go.Ending.returned (Go.Value.bool Bool.true)) h else K (Go.Ending.returned (Go.Value.bool (Decidable.decide (c ≤ 90)))) h
                else
                  bif k == 5 then
                    bif Decidable.decide (c ≤ 122) then K (Go.Ending.returned (Go.Value.bool Bool.true)) h
                    else bif Decidable.decide (c ≤ 90) then K (Go.Ending.returned (Go.Value.bool Bool.true)) h else K (Go.Ending.returned (Go.Value.bool Bool.false)) h
                  else
                    bif k == 6 then K (Go.Ending.returned (Go.Value.bool (c == 9))) h
                    else
                      bif k == 7 then
                        bif c == 9 then K (Go.Ending.returned (Go.Value.bool Bool.true)) h
                        else bif c == 10 then K (Go.Ending.returned (Go.Value.bool Bool.true)) h else K (Go.Ending.returned (Go.Value.bool (c == 13))) h
                      else K (Go.Ending.returned (Go.Value.bool Bool.false)) h
      else
        bif c == 32 then
          bif k == 1 then K (Go.Ending.returned (Go.Value.bool Bool.false)) h
          else
            bif k == 2 then K (Go.Ending.returned (Go.Value.bool (Decidable.decide (c ≤ 122)))) h
            else
              bif k == 3 then K (Go.Ending.returned (Go.Value.bool Bool.false)) h
              else
                bif k == 4 then bif Decidable.decide (c ≤ 122) then K (Go.Ending.returned (Go.Value.bool Bool.true)) h else K (Go.Ending.returned (Go.Value.bool Bool.false)) h
                else
                  bif k == 5 then bif Decidable.decide (c ≤ 122) then K (Go.Ending.returned (Go.Value.bool Bool.true)) h else K (Go.Ending.returned (Go.Value.bool Bool.false)) h
                  else
                    bif k == 6 then K (Go.Ending.returned (Go.Value.bool Bool.true)) h
                    else bif k == 7 then K (Go.Ending.returned (Go.Value.bool Bool.true)) h else K (Go.Ending.returned (Go.Value.bool Bool.false)) h
        else
          bif k == 1 then K (Go.Ending.returned (Go.Value.bool Bool.false)) h
          else
            bif k == 2 then K (Go.Ending.returned (Go.Value.bool (Decidable.decide (c ≤ 122)))) h
            else
              bif k == 3 then K (Go.Ending.returned (Go.Value.bool Bool.false)) h
              else
                bif k == 4 then bif Decidable.decide (c ≤ 122) then K (Go.Ending.returned (Go.Value.bool Bool.true)) h else K (Go.Ending.returned (Go.Value.bool Bool.false)) h
                else
                  bif k == 5 then bif Decidable.decide (c ≤ 122) then K (Go.Ending.returned (Go.Value.bool Bool.true)) h else K (Go.Ending.returned (Go.Value.bool Bool.false)) h
                  else
                    bif k == 6 then K (Go.Ending.returned (Go.Value.bool (c == 9))) h
                    else
                      bif k == 7 then
                        bif c == 9 then K (Go.Ending.returned (Go.Value.bool Bool.true)) h
                        else bif c == 10 then K (Go.Ending.returned (Go.Value.bool Bool.true)) h else K (Go.Ending.returned (Go.Value.bool (c == 13))) h
                      else K (Go.Ending.returned (Go.Value.bool Bool.false)) h
    else
      bif Decidable.decide (c ≥ 65) then
        bif c == 32 then
          bif k == 1 then K (Go.Ending.returned (Go.Value.bool Bool.false)) h
          else
            bif k == 2 then K (Go.Ending.returned (Go.Value.bool Bool.false)) h
            else
              bif k == 3 then K (Go.Ending.returned (Go.Value.bool (Decidable.decide (c ≤ 90)))) h
              else
                bif k == 4 then K (Go.Ending.returned (Go.Value.bool (Decidable.decide (c ≤ 90)))) h
                else
                  bif k == 5 then bif Decidable.decide (c ≤ 90) then K (Go.Ending.returned (Go.Value.bool Bool.true)) h else K (Go.Ending.returned (Go.Value.bool Bool.false)) h
                  else
                    bif k == 6 then K (Go.Ending.returned (Go.Value.bool Bool.true)) h
                    else bif k == 7 then K (Go.Ending.returned (Go.Value.bool Bool.true)) h else K (Go.Ending.returned (Go.Value.bool Bool.false)) h
        else
          bif k == 1 then K (Go.Ending.returned (Go.Value.bool Bool.false)) h
          else
            bif k == 2 then K (Go.Ending.returned (Go.Value.bool Bool.false)) h
            else
              bif k == 3 then K (Go.Ending.returned (Go.Value.bool (Decidable.decide (c ≤ 90)))) h
              else
                bif k == 4 then K (Go.Ending.returned (Go.Value.bool (Decidable.decide (c ≤ 90)))) h
                else
                  bif k == 5 then bif Decidable.decide (c ≤ 90) then K (Go.Ending.returned (Go.Value.bool Bool.true)) h else K (Go.Ending.returned (Go.Value.bool Bool.false)) h
                  else
                    bif k == 6 then K (Go.Ending.returned (Go.Value.bool (c == 9))) h
                    else
                      bif k == 7 then
                        bif c == 9 then K (Go.Ending.returned (Go.Value.bool Bool.true)) h
                        else bif c == 10 then K (Go.Ending.returned (Go.Value.bool Bool.true)) h else K (Go.Ending.returned (Go.Value.bool (c == 13))) h
                      else K (Go.Ending.returned (Go.Value.bool Bool.false)) h
      else
        bif c == 32 then
          bif k == 1 then K (Go.Ending.returned (Go.Value.bool Bool.false)) h
          else
            bif k == 2 then K (Go.Ending.returned (Go.Value.bool Bool.false)) h
            else
              bif k == 3 then K (Go.Ending.returned (Go.Value.bool Bool.false)) h
              else
                bif k == 4 then K (Go.Ending.returned (Go.Value.bool Bool.false)) h
                else
                  bif k == 5 then K (Go.Ending.returned (Go.Value.bool Bool.false)) h
                  else
                    bif k == 6 then K (Go.Ending.returned (Go.Value.bool Bool.true)) h
                    else bif k == 7 then K (Go.Ending.returned (Go.Value.bool Bool.true)) h else K (Go.Ending.returned (Go.Value.bool Bool.false)) h
        else
          bif k == 1 then K (Go.Ending.returned (Go.Value.bool Bool.false)) h
          else
            bif k == 2 then K (Go.Ending.returned (Go.Value.bool Bool.false)) h
            else
              bif k == 3 then K (Go.Ending.returned (Go.Value.bool Bool.false)) h
              else
                bif k == 4 then K (Go.Ending.returned (Go.Value.bool Bool.false)) h
                else
                  bif k == 5 then K (Go.Ending.returned (Go.Value.bool Bool.false)) h
                  else
                    bif k == 6 then K (Go.Ending.returned (Go.Value.bool (c == 9))) h
                    else
                      bif k == 7 then
                        bif c == 9 then K (Go.Ending.returned (Go.Value.bool Bool.true)) h
                        else bif c == 10 then K (Go.Ending.returned (Go.Value.bool Bool.true)) h else K (Go.Ending.returned (Go.Value.bool (c == 13))) h
                      else K (Go.Ending.returned (Go.Value.bool Bool.false)) h) := by kernel_rfl

theorem v23 (c : Int) (h : AHeap) (K : Ending → AHeap → Prop) : (wFun (wM 23 (spAdd 21 (pureS isP) sp0)) inv0 Tryz.f23 [.int .u8 c] h K) =
  (bif Go.Eng.isF c 5 then K (Go.Ending.returned (Go.Value.bool Bool.true)) h
  else
    bif c == 45 then K (Go.Ending.returned (Go.Value.bool Bool.true)) h else bif c == 95 then K (Go.Ending.returned (Go.Value.bool Bool.true)) h else K (Go.Ending.returned (Go.Value.bool (c == 46))) h) := by kernel_rfl

theorem v26 (c : Int) (h : AHeap) (K : Ending → AHeap → Prop) : (wFun (wM 26 (spAdd 24 (pureS isP) sp0)) inv0 Tryz.f26 [.int .u8 c] h K) =
  (bif Go.Eng.isF c 5 then K (Go.Ending.returned (Go.Value.bool Bool.true)) h
  else
    bif c == 45 then K (Go.Ending.returned (Go.Value.bool Bool.true)) h else bif c == 95 then K (Go.Ending.returned (Go.Value.bool Bool.true)) h else K (Go.Ending.returned (Go.Value.bool (c == 46))) h) := by kernel_rfl


set_option maxHeartbeats 2000000 in
theorem p21 (c k : Int) (h : AHeap) (K : Ending → AHeap → Prop) (hK : K (.returned (.bool (isF c k))) h) : wFun (wM 21 sp0) inv0 Tryz.f21 [.int .u8 c, .int .i64 k] h K := by
  rw [v21]
  unfold isF at hK
  generalize decide (c ≥ 48) = a1 at *
  generalize decide (c ≤ 57) = a2 at *
  generalize decide (c ≥ 97) = a3 at *
  generalize decide (c ≤ 122) = a4 at *
  generalize decide (c ≥ 65) = a5 at *
  generalize decide (c ≤ 90) = a6 at *
  generalize (c == 32) = b1 at *
  generalize (c == 9) = b2 at *
  generalize (c == 10) = b3 at *
  generalize (c == 13) = b4 at *
  generalize (k == 1) = k1 at *
  generalize (k == 2) = k2 at *
  generalize (k == 3) = k3 at *
  generalize (k == 4) = k4 at *
  generalize (k == 5) = k5 at *
  generalize (k == 6) = k6 at *
  generalize (k == 7) = k7 at *
  cases k1
  case true => cases a1 <;> cases a3 <;> cases a5 <;> cases b1 <;> exact hK
  cases k2
  case true => cases a1 <;> cases a3 <;> cases a5 <;> cases b1 <;> exact hK
  cases k3
  case true => cases a1 <;> cases a3 <;> cases a5 <;> cases b1 <;> exact hK
  cases k4
  case true => cases a1 <;> cases a3 <;> cases a5 <;> cases b1 <;> cases a4 <;> cases a6 <;> exact hK
  cases k5
  case true => cases a1 <;> cases a3 <;> cases a5 <;> cases b1 <;> cases a2 <;> cases a4 <;> cases a6 <;> exact hK
  cases k6
  case true => cases a1 <;> cases a3 <;> cases a5 <;> cases b1 <;> cases b2 <;> exact hK
  cases k7
  case true => cases a1 <;> cases a3 <;> cases a5 <;> cases b1 <;> cases b2 <;> cases b3 <;> cases b4 <;> exact hK
  cases a1 <;> cases a3 <;> cases a5 <;> cases b1 <;> exact hK

theorem c21 : ∀ args v, isP args = some v → args.all flatV = true ∧ flatV v = true ∧ CallDoes En 21 args.toArray heap0 (fun e _ => e = .returned v) := by
  intro args v hv
  unfold isP at hv
  split at hv
  case h_2 => cases hv
  rename_i c k
  cases hv
  exact ⟨rfl, rfl, wFun_ok (W := wM 21 sp0) (inv := inv0) (ctxM_ok 21) rfl (sp0_ok En) Tryz.func21 (p21 c k heap0 _ rfl)⟩

set_option maxHeartbeats 2000000 in
theorem p24 (c k : Int) (h : AHeap) (K : Ending → AHeap → Prop) (hK : K (.returned (.bool (isF c k))) h) : wFun (wM 24 sp0) inv0 Tryz.f24 [.int .u8 c, .int .i64 k] h K := by
  rw [v24]
  unfold isF at hK
  generalize decide (c ≥ 48) = a1 at *
  generalize decide (c ≤ 57) = a2 at *
  generalize decide (c ≥ 97) = a3 at *
  generalize decide (c ≤ 122) = a4 at *
  generalize decide (c ≥ 65) = a5 at *
  generalize decide (c ≤ 90) = a6 at *
  generalize (c == 32) = b1 at *
  generalize (c == 9) = b2 at *
  generalize (c == 10) = b3 at *
  generalize (c == 13) = b4 at *
  generalize (k == 1) = k1 at *
  generalize (k == 2) = k2 at *
  generalize (k == 3) = k3 at *
  generalize (k == 4) = k4 at *
  generalize (k == 5) = k5 at *
  generalize (k == 6) = k6 at *
  generalize (k == 7) = k7 at *
  cases k1
  case true => cases a1 <;> cases a3 <;> cases a5 <;> cases b1 <;> exact hK
  cases k2
  case true => cases a1 <;> cases a3 <;> cases a5 <;> cases b1 <;> exact hK
  cases k3
  case true => cases a1 <;> cases a3 <;> cases a5 <;> cases b1 <;> exact hK
  cases k4
  case true => cases a1 <;> cases a3 <;> cases a5 <;> cases b1 <;> cases a4 <;> cases a6 <;> exact hK
  cases k5
  case true => cases a1 <;> cases a3 <;> cases a5 <;> cases b1 <;> cases a2 <;> cases a4 <;> cases a6 <;> exact hK
  cases k6
  case true => cases a1 <;> cases a3 <;> cases a5 <;> cases b1 <;> cases b2 <;> exact hK
  cases k7
  case true => cases a1 <;> cases a3 <;> cases a5 <;> cases b1 <;> cases b2 <;> cases b3 <;> cases b4 <;> exact hK
  cases a1 <;> cases a3 <;> cases a5 <;> cases b1 <;> exact hK

theorem c24 : ∀ args v, isP args = some v → args.all flatV = true ∧ flatV v = true ∧ CallDoes En 24 args.toArray heap0 (fun e _ => e = .returned v) := by
  intro args v hv
  unfold isP at hv
  split at hv
  case h_2 => cases hv
  rename_i c k
  cases hv
  exact ⟨rfl, rfl, wFun_ok (W := wM 24 sp0) (inv := inv0) (ctxM_ok 24) rfl (sp0_ok En) Tryz.func24 (p24 c k heap0 _ rfl)⟩

theorem p23 (c : Int) (h : AHeap) (K : Ending → AHeap → Prop) (hK : K (.returned (.bool (nameB c))) h) : wFun (wM 23 (spAdd 21 (pureS isP) sp0)) inv0 Tryz.f23 [.int .u8 c] h K := by
  rw [v23]
  unfold nameB at hK
  generalize isF c 5 = a at *
  generalize (c == 45) = b1 at *
  generalize (c == 95) = b2 at *
  generalize (c == 46) = b3 at *
  cases a <;> cases b1 <;> cases b2 <;> exact hK
theorem ok23 : SPOK En (spAdd 21 (pureS isP) sp0) := spAdd_ok (pureS_ok (fun _ => rfl) c21) (sp0_ok En)
theorem c23 : ∀ args v, nameBP args = some v → args.all flatV = true ∧ flatV v = true ∧ CallDoes En 23 args.toArray heap0 (fun e _ => e = .returned v) := by
  intro args v hv
  unfold nameBP at hv
  split at hv
  case h_2 => cases hv
  rename_i c
  cases hv
  exact ⟨rfl, rfl, wFun_ok (W := wM 23 (spAdd 21 (pureS isP) sp0)) (inv := inv0) (ctxM_ok 23) rfl ok23 Tryz.func23 (p23 c heap0 _ rfl)⟩

theorem p26 (c : Int) (h : AHeap) (K : Ending → AHeap → Prop) (hK : K (.returned (.bool (nameB c))) h) : wFun (wM 26 (spAdd 24 (pureS isP) sp0)) inv0 Tryz.f26 [.int .u8 c] h K := by
  rw [v26]
  unfold nameB at hK
  generalize isF c 5 = a at *
  generalize (c == 45) = b1 at *
  generalize (c == 95) = b2 at *
  generalize (c == 46) = b3 at *
  cases a <;> cases b1 <;> cases b2 <;> exact hK
theorem ok26 : SPOK En (spAdd 24 (pureS isP) sp0) := spAdd_ok (pureS_ok (fun _ => rfl) c24) (sp0_ok En)
theorem c26 : ∀ args v, nameBP args = some v → args.all flatV = true ∧ flatV v = true ∧ CallDoes En 26 args.toArray heap0 (fun e _ => e = .returned v) := by
  intro args v hv
  unfold nameBP at hv
  split at hv
  case h_2 => cases hv
  rename_i c
  cases hv
  exact ⟨rfl, rfl, wFun_ok (W := wM 26 (spAdd 24 (pureS isP) sp0)) (inv := inv0) (ctxM_ok 26) rfl ok26 Tryz.func26 (p26 c heap0 _ rfl)⟩
end Go.Eng

