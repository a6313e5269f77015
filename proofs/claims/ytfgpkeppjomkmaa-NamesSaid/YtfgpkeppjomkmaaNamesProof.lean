/-
  Proved here: the Go function watchtreelaw.Names returns true, on every run (the statement Rows.NamesSaid); it has no parameter, and no condition is laid on it.
  The frame of the row's step began as the kit's proof-skeleton print; the walk is ours: each error, bound, kind and flag has the number that the document says.
-/
import Derived.Test.YtfgpkeppjomkmaaRows
import Derived.WalkKit
import Derived.ProofKit
import Derived.OpenShut
import Derived.LoopTactic
import Derived.Lib.Hide
import Derived.Deep.QuietTactic
import Derived.BigQuiet
namespace Go.Proofs.Ytfgpkeppjomkmaa.namesP
open Go.ChangeShapes Go.WideShapes Go.ChangeAt Go.RowKit
set_option linter.unusedVariables false

theorem own : ownKnob Try.prog.godebug = none := by kernel_rfl

/-! ### The walk -/
def said : List Int := [60, 8, 64, 8, 4, 12, 8, 16, 1000, 100, 8, 1, 2, 3, 4, 5, 6, 7, 8, 9, 10, 11, 1, 2, -1, 1, 2, 3, 4]

def Holds (w W : World) : Prop :=
  (∀ k : Nat, k < 17 → W.cell? ⟨w.heap.size, k, none⟩ = some (.int .i64 k)) ∧
  (∀ k : Nat, k < 29 → W.cell? ⟨w.heap.size + 1, k, none⟩ = some (.int .i64 (said.getD k 0))) ∧
  (∀ k : Nat, k < 29 → W.cell? ⟨w.heap.size + 1 + 1, k, none⟩ = some (.int .i64 (said.getD k 0))) ∧
  (∀ k : Nat, k < 17 → W.cell? ⟨w.heap.size + 1 + 1 + 1, k, none⟩ = some (.int .i64 k)) ∧ Grown w W

theorem Holds.drew {w W : World} (h : Holds w W) : Holds w W.drew :=
  ⟨fun k hk => h.1 k hk, fun k hk => h.2.1 k hk, fun k hk => h.2.2.1 k hk, fun k hk => h.2.2.2.1 k hk, h.2.2.2.2.drew⟩

def SomeW (w : World) (e : Ending) (w' : World) : Prop := e = .returned (.bool true) ∧ Grown w w'

set_option maxHeartbeats 2000000 in
theorem walk0  (w : World) : Calls Try.prog 3 #[] w (SomeW w) := by
  go_enter Try.func3, Try.ntmps3
  go_wp2
  case _ =>
  generalize hW : World.alloc (World.alloc (World.alloc (World.alloc _ _) _) _) _ = W
  have hH : Holds w W := by
    subst hW
    refine ⟨?_, ?_, ?_, ?_, by repeat (first | exact Grown.refl _ | apply Grown.alloc)⟩
    · intro k hk
      have : k = 0 ∨ k = 1 ∨ k = 2 ∨ k = 3 ∨ k = 4 ∨ k = 5 ∨ k = 6 ∨ k = 7 ∨ k = 8 ∨ k = 9 ∨ k = 10 ∨ k = 11 ∨ k = 12 ∨ k = 13 ∨ k = 14 ∨ k = 15 ∨ k = 16 := by omega
      rcases this with rfl | rfl | rfl | rfl | rfl | rfl | rfl | rfl | rfl | rfl | rfl | rfl | rfl | rfl | rfl | rfl | rfl <;> (go_simp)
    · intro k hk
      have : k = 0 ∨ k = 1 ∨ k = 2 ∨ k = 3 ∨ k = 4 ∨ k = 5 ∨ k = 6 ∨ k = 7 ∨ k = 8 ∨ k = 9 ∨ k = 10 ∨ k = 11 ∨ k = 12 ∨ k = 13 ∨ k = 14 ∨ k = 15 ∨ k = 16 ∨ k = 17 ∨ k = 18 ∨ k = 19 ∨ k = 20 ∨ k = 21 ∨ k = 22 ∨ k = 23 ∨ k = 24 ∨ k = 25 ∨ k = 26 ∨ k = 27 ∨ k = 28 := by omega
      rcases this with rfl | rfl | rfl | rfl | rfl | rfl | rfl | rfl | rfl | rfl | rfl | rfl | rfl | rfl | rfl | rfl | rfl | rfl | rfl | rfl | rfl | rfl | rfl | rfl | rfl | rfl | rfl | rfl | rfl <;> (simp [said]; go_simp)
    · intro k hk
      have : k = 0 ∨ k = 1 ∨ k = 2 ∨ k = 3 ∨ k = 4 ∨ k = 5 ∨ k = 6 ∨ k = 7 ∨ k = 8 ∨ k = 9 ∨ k = 10 ∨ k = 11 ∨ k = 12 ∨ k = 13 ∨ k = 14 ∨ k = 15 ∨ k = 16 ∨ k = 17 ∨ k = 18 ∨ k = 19 ∨ k = 20 ∨ k = 21 ∨ k = 22 ∨ k = 23 ∨ k = 24 ∨ k = 25 ∨ k = 26 ∨ k = 27 ∨ k = 28 := by omega
      rcases this with rfl | rfl | rfl | rfl | rfl | rfl | rfl | rfl | rfl | rfl | rfl | rfl | rfl | rfl | rfl | rfl | rfl | rfl | rfl | rfl | rfl | rfl | rfl | rfl | rfl | rfl | rfl | rfl | rfl <;> (simp [said]; go_simp)
    · intro k hk
      have : k = 0 ∨ k = 1 ∨ k = 2 ∨ k = 3 ∨ k = 4 ∨ k = 5 ∨ k = 6 ∨ k = 7 ∨ k = 8 ∨ k = 9 ∨ k = 10 ∨ k = 11 ∨ k = 12 ∨ k = 13 ∨ k = 14 ∨ k = 15 ∨ k = 16 := by omega
      rcases this with rfl | rfl | rfl | rfl | rfl | rfl | rfl | rfl | rfl | rfl | rfl | rfl | rfl | rfl | rfl | rfl | rfl <;> (go_simp)
  clear hW
  go_loop [5, 6] (fun i _n => ∃ k : Nat, k ≤ 17 ∧ i = .int .i64 k) (fun i _ => 17 - (intOf i).toNat)
  case atStart => exact ⟨0, by omega, rfl⟩
  case round =>
    obtain ⟨k, hk, rfl⟩ := hrel
    by_cases hlt : k < 17
    · have h1 := hH.1 k hlt
      have h2 := hH.2.2.2.1 k hlt
      have HH : Hid (Holds w W) := Lib.hid hH
      clear hH
      go_wp2
      all_goals
        go_round
        case rel => exact ⟨k + 1, by omega, by go_num⟩
        case measure => simp [intOf]; omega
    · obtain rfl : k = 17 := by omega
      go_wp2
      case _ =>
      go_loopw [7] (fun i wr => ∃ k : Nat, k ≤ 29 ∧ i = .int .i64 k ∧ Holds w wr) (fun i _ => 29 - (intOf i).toNat)
      case atStart => exact ⟨0, by omega, rfl, hH⟩
      case round =>
        obtain ⟨k, hk, rfl, hw⟩ := hrel
        clear hH
        by_cases hlt : k < 29
        · have h1 := hw.2.1 k hlt
          have h2 := hw.2.2.1 k hlt
          have HH : Hid (Holds w wr) := Lib.hid hw
          clear hw
          have b1 : (0 : Int) ≤ (k : Int) := by omega
          have b2 : (k : Int) < 29 := by omega
          go_wp2
          go_quiet (fail)
          go_wp2
          all_goals
            go_roundw
            case rel => exact ⟨k + 1, by omega, by go_num, HH.out.drew⟩
            case measure => simp [intOf]; omega
        · obtain rfl : k = 29 := by omega
          have HH : Hid (Holds w wr) := Lib.hid hw
          clear hw
          go_wp2
          go_ret
          exact ⟨rfl, HH.out.2.2.2.2⟩

theorem walk  (w : World) :
    Calls Try.prog 3 #[] w fun e w' => e = .returned (.bool true) ∧ Grown w w' := walk0 w

/-! ### The row's step -/
set_option maxRecDepth 100000 in
theorem lifted (os : Os) (started : os.Started) (H : Type) (enc : TypeId × Value → H) :
    ReturnsInHanded {} Try.checked os 3 .any (Rows.namesSpec.pre6 enc Try.prog Try.f3 Rows.namesRow.domain false) (Rows.namesSpec.post enc Try.prog Try.f3 false true false false) := by
  refine returnsInHanded_of_change (C := Try.checked) own started (by kernel_rfl) Try.func3
    (ChangeSpec.witness6 (enc := enc) (C := Try.checked) false ⟨#[], #[], []⟩ 8 (by kernel_rfl) (by kernel_rfl) (by kernel_rfl) (by kernel_rfl)) ?_
  intro W base args ds gs before hval0 hW hcnd _
  have hval : ∀ (j : Nat) t v, Try.f3.params[j]? = some t → args[j]? = some v → Value.okWide Try.prog W .any base t v := hval0
  have hW' := hW
  obtain ⟨p, q, hA0, hV, rfl, hfz, hnd⟩ := hW
  have hA : DataW.TrodAll enc Try.prog W 0 (fun _ => true) true Try.f3.params.toList args.toList ds p := hA0
  rw [Try.params3] at hA hval
  obtain ⟨rfl, rfl, rfl⟩ := trodAll_none hA
  obtain ⟨rfl, rfl⟩ := trodVars_none hV
  clear hA0 hval0
  simp only [List.append_nil] at hW'
  refine (walk  W).mono fun e W' ⟨he, hg⟩ => ?_
  subst he
  exact ⟨_, rfl, post_of_same (pa := []) (pv := []) hW' (fun _ _ _ => (trodAll_cons_mk (shut_bool Try.underlying4 _) trodAll_mk0)) (fun sp _ => rfl) (fun _ _ => rfl) rfl
    (hg.frame _) hg.2.1 (ok_one (by kernel_rfl) rfl (okWide_bool_mk Try.underlying4 _))⟩

theorem over : Rows.namesRow.holds Try.pinned (OpenSpec.ofChange Rows.namesSpec) :=
  OpenClaim.holds_of_wide 3 Try.f3 rfl rfl rfl rfl rfl rfl rfl ⟨rfl, rfl, rfl, rfl, rfl⟩ rfl rfl rfl rfl rfl (by kernel_rfl) Try.func3 (by kernel_rfl)
    (of_decide_eq_true (by kernel_rfl)) (by unfold Func.isWrapper; first | (rw [if_pos (by decide +kernel)]; kernel_rfl) | (rw [if_neg (by decide +kernel)]; exact ⟨rfl, rfl⟩))
    (fun os started H enc _ => lifted os started H enc)

/-- The given statement. -/
theorem proved : Rows.NamesSaid :=
  over
#print axioms proved
end Go.Proofs.Ytfgpkeppjomkmaa.namesP
