/- The law of names holds for every text: its card. No condition. -/
import Derived.Test.YtejcbkhhnibnaaaGreatDoorMk4
import Derived.Test.YtejcbkhhnibnaaaGreatDoorCards
import Derived.Test.YtejcbkhhnibnaaaGreatDoorTie
import Derived.WalkKit
import Derived.ProofKit
import Derived.OpenShut
import Derived.Deep.DeepHandedRow
import Derived.Lib.LaidTab
set_option linter.unusedVariables false
set_option maxRecDepth 100000
namespace Go.Eng
open Go.Proofs
theorem v3 (l : List UInt8) (K : Ending → Prop) : (wFun (wM 3 sp3) inv3 Tryz.f3 [.string ⟨⟨l⟩⟩] heap0 (fun e _ => K e)) =
  (bif !(nmF l).getD [] == (nmF l).getD [] then K (Ending.returned (Value.bool false))
  else
    bif !(nmF l).isSome == (nmF l).isSome then K (Ending.returned (Value.bool false))
    else
      bif (nmF l).isSome then
        bif !(nmF ((nmF l).getD [])).getD [] == (nmF l).getD [] then K (Ending.returned (Value.bool false))
        else bif !(nmF ((nmF l).getD [])).isSome then K (Ending.returned (Value.bool false)) else K (Ending.returned (Value.bool true))
      else K (Ending.returned (Value.bool true))) := by kernel_rfl

theorem p3 (l : List UInt8) : wFun (wM 3 sp3) inv3 Tryz.f3 [.string ⟨⟨l⟩⟩] heap0 (fun e _ => e = .returned (.bool true)) := by
  rw [v3 l (fun e => e = .returned (.bool true))]
  have e1 : ((nmF l).getD [] == (nmF l).getD []) = true := by simp
  have e2 : ((nmF l).isSome == (nmF l).isSome) = true := by simp
  rw [e1, e2]
  simp only [Bool.not_true, cond_false]
  cases h : nmF l with
  | none => simp only [Option.isSome_none, cond_false]
  | some n =>
    have e3 : (n == n) = true := by simp
    simp only [Option.isSome_some, cond_true, Option.getD_some, nmF_some h, e3, Bool.not_true, cond_false]

theorem c3 (l : List UInt8) : CallDoes En 3 [Value.string ⟨⟨l⟩⟩].toArray heap0 (fun e _ => e = .returned (.bool true)) :=
  wFun_ok (W := wM 3 sp3) (inv := inv3) (ctxM_ok 3) rfl sp3_ok Tryz.func3 (p3 l)

/-- To the kit's own word: from an empty memory, of arguments without memory. -/
theorem calls_pure {E : Env} {f : FuncId} {args : List Value} {v : Value} (hgl : ∀ g, E.gl g = false) (hargs : args.all flatV = true) (hv : flatV v = true) (hself : ∀ v', VR (fun _ => none) v v' → v' = v) (t : CallDoes E f args.toArray heap0 (fun e _ => e = .returned v))
    (args' : Array Value) (ha : ArrR (fun _ => none) args.toArray args') (W : World) : Calls E.P f args' W fun e W' => e = .returned v ∧ Go.RowKit.Below W.heap.size W W' := by
  intro cs
  obtain ⟨e, h1, β', e', w', fr, rfl, H', X, hen, hst, hfn, hl⟩ := t (fun _ => none) W args' (HR.zero _) (fun g hg => by rw [hgl g] at hg; cases hg) ha cs
  obtain ⟨x1, x2, x3, x4⟩ := Ext.zero X
  cases hen with
  | returned _ v' hv' =>
    have := hself v' (flatV_any hv hv')
    subst this
    exact ⟨_, w', fr, ⟨rfl, ⟨x1, X.tape, x2, x3, x4⟩⟩, hst, hfn, hl⟩
end Go.Eng

namespace Go.Proofs.YtejcbkhhnibnaaaGreatDoor.names
open Go Go.ChangeShapes Go.WideShapes Go.ChangeAt Go.RowKit
open Go.ChangeMaps (open_string shut_string)

section
variable {H : Type} {enc : TypeId × Value → H} {P : Program}
/-- What a row asks of memory behind the call, where nothing below has turned. -/
theorem post_below {f : Func} {s : ChangeSpec} {apart fresh handsOn again : Bool} {W W' : World} {args : Array Value} {v : Value} {ds gs : List (DataW H)} {before pa pv : List MemPlace}
    (hW : DataW.Whole enc P f.params.toList s.vars apart W args.toList ds gs before)
    (hres : ∀ (b : Nat) (sp : Nat → Bool) (hd : Bool), DataW.TrodAll enc P W' b sp hd f.resultTypes.toList (v.resultList f.resultTypes.size) (s.fn H (ds ++ gs)).results [])
    (hargs : ∀ sp : Nat → Bool, (∀ p ∈ before, sp p.block = true) → DataW.TrodAll enc P W' 0 sp true f.params.toList args.toList (s.fn H (ds ++ gs)).args pa)
    (hvars : ∀ sp : Nat → Bool, (∀ p ∈ before, sp p.block = true) → DataW.TrodVars enc P W' sp s.vars (s.fn H (ds ++ gs)).vars pv)
    (hps : before = pa ++ pv) (hb : Below W.heap.size W W')
    (hok : ∀ (j : Nat) (t : TypeId) (r : Value), f.resultTypes[j]? = some t → (v.resultList f.resultTypes.size)[j]? = some r → Value.okWide P W' .any 0 t r) :
    s.post enc P f apart fresh handsOn again W args v W' := by
  have hlt : ∀ p ∈ before, p.block < W.heap.size := fun p hp => hW.lt p hp
  have hold : ∀ p ∈ before, (fun b => decide (b < W.heap.size)) p.block = true := fun p hp => by simpa using hlt p hp
  refine ⟨ds, gs, before, [], pa, pv, hW, hres _ _ _, hargs _ hold, hvars _ hold, World.keptBut_mono (fun p hp => ⟨hp, ?_⟩) (hb.frame (· ∈ before)), fun _ => ?_⟩
  · rw [hps, List.mem_append] at hp
    exact Or.inr hp
  · obtain ⟨_, _, _, _, _, hz, hn⟩ := hW
    refine ⟨hok, _, _, ([] ++ pa) ++ pv, ⟨[] ++ pa, pv, trodAll_append (hargs _ (fun _ _ => rfl)) (hres _ _ _), hvars _ (fun _ _ => rfl), rfl, ?_, ?_⟩, ?_⟩
    · intro b off hp
      have hin : MemPlace.cell b off ∈ before := by rw [hps]; simpa using hp
      rw [hb.frozen (hlt _ hin)]
      exact hz b off hin
    · intro ha
      have := hn ha
      rw [hps] at this
      simpa using this
    · intro p hp _
      rw [hps]
      simpa using hp
end

theorem own : ownKnob Tryz.prog.godebug = none := by kernel_rfl

theorem walk (s : ByteArray) (W : World) : Calls Tryz.prog 3 #[.string s] W fun e W' => e = .returned (.bool true) ∧ Below W.heap.size W W' := by
  obtain ⟨⟨l⟩⟩ := s
  refine Go.Eng.calls_pure (E := Go.Eng.En) (args := [.string ⟨⟨l⟩⟩]) (fun _ => rfl) rfl rfl (fun v' h => by cases h; rfl) (Go.Eng.c3 l) #[.string ⟨⟨l⟩⟩] ?_ W
  exact (Go.Eng.LsR.cons (.str _) .nil).toArr

theorem contract (H : Type) (enc : TypeId × Value → H) (W : World) (base : Nat) (args : Array Value) (ds gs : List (DataW H)) (before : List MemPlace)
    (hval : ∀ (j : Nat) t v, Tryz.f3.params[j]? = some t → args[j]? = some v → Value.okWide Tryz.prog W .any base t v)
    (hW : DataW.Whole enc Tryz.prog Tryz.f3.params.toList Rows.markerNamesSpec.vars false W args.toList ds gs before) :
    Calls Tryz.prog 3 args W fun e W' => ∃ v, e = .returned v ∧ Rows.markerNamesSpec.post enc Tryz.prog Tryz.f3 false true false false W args v W' := by
  have hW' := hW
  obtain ⟨p, q, hA0, hV, rfl, hfz, hnd⟩ := hW
  have hA : DataW.TrodAll enc Tryz.prog W 0 (fun _ => true) true Tryz.f3.params.toList args.toList ds p := hA0
  rw [Tryz.params3] at hA hval
  obtain ⟨v0, vs0, d0, ds0, p0, q0, hargs, rfl, rfl, h0, r0⟩ := trodAll_cons hA
  obtain ⟨rfl, rfl, rfl⟩ := trodAll_nil r0
  obtain rfl : args = #[v0] := by cases args; simp_all
  obtain ⟨rfl, rfl⟩ := trodVars_none hV
  obtain ⟨s, rfl, rfl, rfl, hs⟩ := open_string Tryz.underlying9 (hval 0 9 v0 rfl rfl) h0
  clear hA0
  simp only [List.append_nil] at hW'
  refine (walk s W).mono fun e W' ⟨he, hb⟩ => ?_
  subst he
  exact ⟨_, rfl, post_below (pa := []) (pv := []) hW' (fun _ _ _ => trodAll_cons_mk (shut_bool Tryz.underlying4 _) trodAll_mk0) (fun _ _ => trodAll_cons_mk (shut_string Tryz.underlying9 hs) trodAll_mk0) (fun _ _ => rfl) rfl
    hb (ok_one (by kernel_rfl) rfl (okWide_bool_mk Tryz.underlying4 _))⟩

/-- A world for the witness: the settled one, the two tables holding what their initialisers lay. -/
noncomputable def firstCells : Array Value := (Go.Pinned.utf8FirstZ.map fun (n : Nat) => Value.int .u8 (n : Int)).toArray
noncomputable def acceptCells : Array Value := ([128, 191, 160, 191, 128, 159, 144, 191, 128, 143, 0, 0, 0, 0, 0, 0, 0, 0, 0, 0, 0, 0, 0, 0, 0, 0, 0, 0, 0, 0, 0, 0].map fun n => Value.int .u8 n).toArray
def putCells (cs : Array Value) : Obj → Obj
  | .cells _ t frozen => .cells cs t frozen
  | o => o
noncomputable def laidWorld (os : Os) : World :=
  { World.holding Tryz.prog os ⟨#[], #[], []⟩ with heap := ((World.holding Tryz.prog os ⟨#[], #[], []⟩).heap.modify 1 (putCells firstCells)).modify 2 (putCells acceptCells) }
theorem laid_met (os : Os) : laidMet Tryz.prog Rows.markerNamesRow.laid ((laidWorld os).forCall (fun _ _ => 0) ⟨#[], #[.string .empty], []⟩).memory :=
  laidMet_of_run' 8 (by kernel_rfl) (by kernel_rfl)
theorem reads (os : Os) {H : Type} (enc : TypeId × Value → H) : ∃ places, DataW.whole enc Tryz.prog ((laidWorld os).forCall (fun _ _ => 0) ⟨#[], #[.string .empty], []⟩).memory Tryz.f3.params.toList Rows.markerNamesSpec.vars false #[Value.string .empty].toList 8 = some ([.lit (.string [])], [], places) :=
  ⟨[], by kernel_rfl⟩

theorem lifted (os : Os) (started : os.Started) (H : Type) (enc : TypeId × Value → H) (F : Stop.Interp) :
    ReturnsInHanded {} Tryz.checked os 3 .any ((OpenSpec.ofChange Rows.markerNamesSpec).preRow enc Tryz.prog Tryz.f3 Rows.markerNamesRow.domain false Rows.markerNamesRow.laid) (((OpenSpec.ofChange Rows.markerNamesSpec).at F).post enc Tryz.prog Tryz.f3 false true false false) := by
  obtain ⟨places, hx⟩ := reads os enc
  refine returnsInHanded_of_row (C := Tryz.checked) (s := OpenSpec.ofChange Rows.markerNamesSpec) own started (by kernel_rfl) Tryz.func3
    (witness_row_at (enc := enc) (C := Tryz.checked) false (laidWorld os) #[.string .empty] rfl (by kernel_rfl) (by kernel_rfl) (by kernel_rfl)
      (OpenSpec.preRow_of_cond 8 hx (by kernel_rfl) (fun k hk => by cases hk) (by kernel_rfl) (laid_met os))) ?_
  intro W base args ds gs before hval hW _ _ _ hL _ _
  exact contract H enc W base args ds gs before hval hW

theorem said : Rows.MarkerNamesSaid :=
  OpenClaim.holds_of_cond 3 Tryz.f3 rfl rfl rfl rfl rfl rfl rfl ⟨rfl, rfl, rfl, rfl, rfl⟩ rfl rfl rfl rfl rfl (by kernel_rfl) Tryz.func3 (by kernel_rfl)
    (of_decide_eq_true (by kernel_rfl)) (by unfold Func.isWrapper; first | (rw [if_pos (by decide +kernel)]; kernel_rfl) | (rw [if_neg (by decide +kernel)]; exact ⟨rfl, rfl⟩))
    (fun os started H enc _ F => by rw [OpenClaim.pre_eq_preRow]; exact lifted os started H enc F)

theorem plain (f : FuncId) (fn : Func) (hf : Tryz.pinned.checked.prog.funcNamed "dovetail/dovetaillaw11.MarkerNames" = some f) (hfn : Tryz.pinned.checked.prog.funcs[f]? = some fn) :
    true = Tryz.pinned.checked.prog.looks [] ∧ ∀ (j : Nat) t, fn.params[j]? = some t → Tryz.pinned.checked.prog.wantsStandIn t = false := by
  obtain rfl : f = 3 := Option.some.inj ((show Tryz.prog.funcNamed "dovetail/dovetaillaw11.MarkerNames" = some 3 by kernel_rfl).symm.trans hf) |>.symm
  obtain rfl : fn = Tryz.f3 := (Option.some.inj (Tryz.func3.symm.trans hfn)).symm
  refine ⟨by kernel_rfl, fun j t ht => ?_⟩
  rw [Tryz.params3] at ht
  obtain rfl : t = 9 := by simpa using Array.mem_of_getElem? ht
  exact (show Tryz.prog.wantsStandIn 9 = false by kernel_rfl)

/-- The card: the law of names. -/
theorem card : Rows.MarkerNamesCardSaid :=
  Claim7.holds_tied_plain_at .later [] _ _ _ _ said (fun _ h => by cases h) (by kernel_rfl) (fun _ h => by cases h) markerNames_row_tie rfl ⟨rfl, rfl⟩ (by kernel_rfl) rfl plain (by kernel_rfl)
end Go.Proofs.YtejcbkhhnibnaaaGreatDoor.names

