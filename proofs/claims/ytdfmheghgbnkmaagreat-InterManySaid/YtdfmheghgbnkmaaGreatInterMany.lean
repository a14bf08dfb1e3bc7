/- 'InterMany' tells true, whatever it is given. Conditions: none. -/
import Derived.Test.YtdfmheghgbnkmaaGreatInterManyx43
namespace Go.Proofs.YtdfmheghgbnkmaaGreat.InterMany
open Go Go.Ex Go.ChangeShapes Go.WideShapes Go.ChangeAt Go.RowKit
set_option maxRecDepth 100000

theorem walk (a0 : Int) (w : World) (hw : zK w tabs) :
    Calls Tryz.prog 3 #[.int .i64 a0] w fun e w' => e = .returned (.bool true) ∧ Below w.heap.size w w' := by
  cases a0 with
  | negSucc m => exact walk_of (of_decide_eq_true (by kernel_rfl)) (by rfl) (m_lo m) w hw
  | ofNat n =>
    by_cases h : 41 ≤ n
    · obtain ⟨m, rfl⟩ : ∃ m, n = m + 41 := ⟨n - 41, by omega⟩
      exact walk_of (of_decide_eq_true (by kernel_rfl)) (by rfl) (m_hi m) w hw
    · have h2 : n = 0 ∨ n = 1 ∨ n = 2 ∨ n = 3 ∨ n = 4 ∨ n = 5 ∨ n = 6 ∨ n = 7 ∨ n = 8 ∨ n = 9 ∨ n = 10 ∨ n = 11 ∨ n = 12 ∨ n = 13 ∨ n = 14 ∨ n = 15 ∨ n = 16 ∨ n = 17 ∨ n = 18 ∨ n = 19 ∨ n = 20 ∨ n = 21 ∨ n = 22 ∨ n = 23 ∨ n = 24 ∨ n = 25 ∨ n = 26 ∨ n = 27 ∨ n = 28 ∨ n = 29 ∨ n = 30 ∨ n = 31 ∨ n = 32 ∨ n = 33 ∨ n = 34 ∨ n = 35 ∨ n = 36 ∨ n = 37 ∨ n = 38 ∨ n = 39 ∨ n = 40 := by omega
      rcases h2 with rfl | rfl | rfl | rfl | rfl | rfl | rfl | rfl | rfl | rfl | rfl | rfl | rfl | rfl | rfl | rfl | rfl | rfl | rfl | rfl | rfl | rfl | rfl | rfl | rfl | rfl | rfl | rfl | rfl | rfl | rfl | rfl | rfl | rfl | rfl | rfl | rfl | rfl | rfl | rfl | rfl
      · exact walk_of (of_decide_eq_true (by kernel_rfl)) (by rfl) m_0 w hw
      · exact c1 w hw
      · exact c2 w hw
      · exact c3 w hw
      · exact c4 w hw
      · exact c5 w hw
      · exact c6 w hw
      · exact c7 w hw
      · exact c8 w hw
      · exact c9 w hw
      · exact c10 w hw
      · exact c11 w hw
      · exact c12 w hw
      · exact c13 w hw
      · exact c14 w hw
      · exact c15 w hw
      · exact c16 w hw
      · exact c17 w hw
      · exact c18 w hw
      · exact c19 w hw
      · exact c20 w hw
      · exact c21 w hw
      · exact c22 w hw
      · exact c23 w hw
      · exact c24 w hw
      · exact c25 w hw
      · exact c26 w hw
      · exact c27 w hw
      · exact c28 w hw
      · exact c29 w hw
      · exact c30 w hw
      · exact c31 w hw
      · exact c32 w hw
      · exact c33 w hw
      · exact c34 w hw
      · exact c35 w hw
      · exact c36 w hw
      · exact c37 w hw
      · exact c38 w hw
      · exact c39 w hw
      · exact c40 w hw

theorem lifted (os : Os) (started : os.Started) (H : Type) (enc : TypeId × Value → H) :
    ReturnsInHanded {} Tryz.checked os 3 .any (Rows.interManySpec.pre6 enc Tryz.prog Tryz.f3 Rows.interManyRow.domain false) (Rows.interManySpec.post enc Tryz.prog Tryz.f3 false true false false) := by
  refine returnsInHanded_of_change (C := Tryz.checked) own started (by kernel_rfl) Tryz.func3
    (ChangeSpec.witness6 (enc := enc) (C := Tryz.checked) false ⟨#[], #[.int .i64 0], []⟩ 8 (by kernel_rfl) (by kernel_rfl) (by kernel_rfl) (by kernel_rfl)) ?_
  intro W base args ds gs before hval0 hW _ _
  have hval : ∀ (j : Nat) t v, Tryz.f3.params[j]? = some t → args[j]? = some v → Value.okWide Tryz.prog W .any base t v := hval0
  have hW' := hW
  obtain ⟨p, q, hA0, hV, rfl, hfz, hnd⟩ := hW
  have hA : DataW.TrodAll enc Tryz.prog W 0 (fun _ => true) true Tryz.f3.params.toList args.toList ds p := hA0
  rw [Tryz.params3] at hA hval
  obtain ⟨v0, vs0, d0, ds0, p0, q0, hargs, rfl, rfl, h0, r0⟩ := trodAll_cons hA
  obtain ⟨rfl, rfl, rfl⟩ := trodAll_nil r0
  obtain rfl : args = #[v0] := by cases args; simp_all
  obtain ⟨rfl, rfl⟩ := trodVars_none hV
  obtain ⟨a0, rfl, rfl, rfl, w0⟩ := open_int Tryz.underlying3 (hval 0 3 v0 rfl rfl) h0
  clear hA0 hval0
  have hw : zK W tabs := fun _ h => by cases h
  refine (walk a0 W hw).mono fun e W' ⟨he, bel⟩ => ?_
  subst he
  exact ⟨_, rfl, _, _, _, [], _, [], hW', trodAll_mk1 (shut_bool Tryz.underlying4 _), (trodAll_cons_mk (shut_int Tryz.underlying3 w0) trodAll_mk0), rfl, bel.frame _, fun h => by cases h⟩

theorem over : Rows.InterManySaid :=
  OpenClaim.holds_of_wide 3 Tryz.f3 rfl rfl rfl rfl rfl rfl rfl ⟨rfl, rfl, rfl, rfl, rfl⟩ rfl rfl rfl rfl rfl (by kernel_rfl) Tryz.func3 (by kernel_rfl)
    (of_decide_eq_true (by kernel_rfl)) (by unfold Func.isWrapper; first | (rw [if_pos (by decide +kernel)]; kernel_rfl) | (rw [if_neg (by decide +kernel)]; exact ⟨rfl, rfl⟩))
    (fun os started H enc _ => lifted os started H enc)

theorem holds : Rows.InterManySaid := over
#print axioms holds
end Go.Proofs.YtdfmheghgbnkmaaGreat.InterMany
