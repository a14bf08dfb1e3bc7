/- What the laws lean on: the executor over this program, its tables, what is known beforehand. Conditions: none. -/
import Derived.Test.YtapnnpoljobanabGreatDoorHk
import Derived.Test.YtapnnpoljobanabGreatDoorEx4
import Derived.Lib.LaidTab
import Derived.ProofKit
import Derived.LaidMore
import Derived.OpenShut
import Derived.Stop.Joined
import Derived.ChangeOld
import Derived.Lib.LaidU8
import Derived.Shelf.Vars
import Derived.HandedShaped
import Derived.Below
namespace Go.Proofs.YtapnnpoljobanabGreatDoor
open Go.Ex Go.ChangeShapes Go.WideShapes Go.ChangeAt Go.RowKit
set_option maxRecDepth 1000000

def zs : List Int := [0, 1, 56, 2, 57, 49, 28, 3, 61, 58, 42, 50, 38, 29, 17, 4, 62, 47, 59, 36, 45, 43, 51, 22, 53, 39, 33, 30, 24, 18, 12, 5, 63, 55, 48, 27, 60, 41, 37, 16, 46, 35, 44, 21, 52, 32, 23, 11, 54, 26, 40, 15, 34, 20, 31, 10, 25, 14, 19, 9, 13, 8, 7, 6]
/-- The tables but the number that is not known. -/
def tabs0 : List (Nat × List Value) := [(1, powL), (3, zs.map fun z => Value.int .u8 z)]
def tabs (m : Int) : List (Nat × List Value) := (0, [.int .i64 m]) :: tabs0
theorem tabs_ok (m : Int) : tabsOK 8 (tabs m) = true := by kernel_rfl
/-- The block of the number that is not known. -/
noncomputable def mB (m : Int) : AObj := .cells (.node .leaf (.int .i64 m) .leaf) 1 0 2

noncomputable def leafB (t : Tr Value) : Bool := Tr.rec true (fun _ _ _ _ _ => false) t
noncomputable def readM (o : AObj) (K : Int → Option Rsl) : Option Rsl :=
  onCells o (fun c n z kd => Bool.rec none (Tr.rec none (fun l v r _ _ => Bool.rec none (onInt v (fun k m => Bool.rec none (K m) (kindEq k .i64)) none) (leafB l && leafB r)) c) (Nat.beq n 1 && (Nat.beq z 0 && Nat.beq kd 2))) none
theorem readM_of {o : AObj} {K : Int → Option Rsl} {r : Rsl} (e : readM o K = some r) : ∃ m, o = mB m ∧ K m = some r := by
  unfold readM at e
  cases o <;> first | (cases e; done) | skip
  rename_i c n z kd
  have e' : (Bool.rec none (Tr.rec none (fun l v r _ _ => Bool.rec none (onInt v (fun k m => Bool.rec none (K m) (kindEq k .i64)) none) (leafB l && leafB r)) c) (Nat.beq n 1 && (Nat.beq z 0 && Nat.beq kd 2)) : Option Rsl) = some r := e
  cases h1 : (Nat.beq n 1 && (Nat.beq z 0 && Nat.beq kd 2)) with
  | false => rw [h1] at e'; cases e'
  | true =>
    rw [h1] at e'
    obtain ⟨a1, a2⟩ := Bool.and_eq_true_iff.1 h1
    obtain ⟨a2, a3⟩ := Bool.and_eq_true_iff.1 a2
    obtain rfl := beq_eq a1
    obtain rfl := beq_eq a2
    obtain rfl := beq_eq a3
    cases c with
    | leaf => cases e'
    | node l v r' =>
      have e2 : (Bool.rec none (onInt v (fun k m => Bool.rec none (K m) (kindEq k .i64)) none) (leafB l && leafB r') : Option Rsl) = some r := e'
      cases h2 : (leafB l && leafB r') with
      | false => rw [h2] at e2; cases e2
      | true =>
        rw [h2] at e2
        obtain ⟨b1, b2⟩ := Bool.and_eq_true_iff.1 h2
        cases l <;> first | (cases b1; done) | skip
        cases r' <;> first | (cases b2; done) | skip
        rcases onInt_some e2 with ⟨k, m, rfl, e3⟩ | e3
        · cases hk : kindEq k .i64 with
          | false => rw [hk] at e3; cases e3
          | true => rw [hk] at e3; obtain rfl := kindEq_eq hk; exact ⟨m, rfl, e3⟩
        · cases e3

/-! ### hooks -/

/-- With the library alone. -/
noncomputable def lo0 : Lo := runHH P hkLib 1000000
theorem lo0_ok : Sound P 8 lo0 := soundHH prog_ok mixed hkLib_ok 1000000

theorem alive_run (m : Int) : lo0.call 5 [] false none (heap0 (tabs m)) 8 (finV (.bool true)) = true := by kernel_rfl

/-- 'alive' tells true. -/
noncomputable def hkAlive (args : List Value) (h : Heap) (n : Nat) : Option Rsl := cond (Nat.beq args.length 0) (readM (hget h 0) fun _ => cond (tabsB tabs0 h) (some ⟨.bool true, h, n⟩) none) none
theorem hkAlive_ok (args : List Value) (h : Heap) (n : Nat) : Fine 5 args h n (hkAlive args h n) := by
  unfold hkAlive
  refine Fine.cond fun ha => ?_
  obtain rfl : args = [] := List.length_eq_zero_iff.1 (beq_eq ha)
  intro r e u
  obtain ⟨m, ho, e2⟩ := readM_of e
  cases ht : tabsB tabs0 h with
  | false => rw [ht] at e2; cases e2
  | true =>
    rw [ht] at e2
    injection e2 with e2
    subst e2
    have h9 : tabsB (tabs m) h = true := by
      show (tabB [.int .i64 m] (hget h 0) && tabsB tabs0 h) = true
      rw [ht, ho]
      have : ieqB m m = true := by rw [ieqB_eq]; simp
      show ((true && (true && ((kindEq .i64 .i64 && ieqB m m) && true))) && true) = true
      rw [this]; rfl
    exact hook_of_run lo0_ok (tabs_ok m) rfl (.inr ⟨_, rfl⟩) (alive_run m) h9 u n

/-- A call, as it was run once, but for the number that is not known. -/
structure OnceM where
  f : FuncId
  args : List Value
  hl : Heap
  hr : Heap
  n : Nat
  v : Value
  l1 : Heap
  r1 : Heap
  n1 : Nat
/-- The end that is wanted. -/
noncomputable def OnceM.fin (o : OnceM) : KO := fun x _ h n => Out.rec (fun v => Bool.rec false (Bool.rec false (subH (.node o.l1 .dead o.r1) h) (Nat.beq n o.n1)) (eqV1 v o.v)) (fun _ => false) x
noncomputable def OnceM.run (o : OnceM) : Bool := lo0.call o.f o.args false none (.node o.hl .dead o.hr) o.n o.fin
noncomputable def OnceM.hook (o : OnceM) (args : List Value) (h : Heap) (n : Nat) : Option Rsl :=
  cond (Nat.beq o.n n && eqVs o.args args eqV1) (readM (hget h 0) fun m => cond (subH (.node o.hl .dead o.hr) h) (some ⟨o.v, .node o.l1 (mB m) o.r1, o.n1⟩) none) none
theorem OnceM.ok {o : OnceM} (hr : o.run = true) (hn : Nat.blt 0 o.n = true) (args : List Value) (h : Heap) (n : Nat) : Fine o.f args h n (o.hook args h n) := by
  unfold OnceM.hook
  refine Fine.cond fun hb => ?_
  obtain ⟨b1, b2⟩ := Bool.and_eq_true_iff.1 hb
  obtain rfl := beq_eq b1
  obtain rfl := eqVs_eq (fun _ _ => eqV1_eq) b2
  intro r e u
  obtain ⟨m, ho, e2⟩ := readM_of e
  cases hs : subH (.node o.hl .dead o.hr) h with
  | false => rw [hs] at e2; cases e2
  | true =>
    rw [hs] at e2
    injection e2 with e2
    subst e2
    obtain ⟨x, u', h', n', hk, hc⟩ := lo0_ok.call _ _ _ _ _ _ _ hr
    cases x with
    | panic c => cases hk
    | ret v =>
      have hk' : (Bool.rec false (Bool.rec false (subH (.node o.l1 .dead o.r1) h') (Nat.beq n' o.n1)) (eqV1 v o.v) : Bool) = true := hk
      cases e1 : eqV1 v o.v with
      | false => rw [e1] at hk'; cases hk'
      | true =>
        rw [e1] at hk'
        cases e3 : Nat.beq n' o.n1 with
        | false => rw [e3] at hk'; cases hk'
        | true =>
          rw [e3] at hk'
          obtain rfl := eqV1_eq e1
          obtain rfl := beq_eq e3
          have c1 := (hc.chain u).sub (Sub.refl _) (subH_ok hk')
          have c2 := c1.frame (b := 0) (ob := mB m) (blt_lt hn) rfl
          refine c2.sub (fun b => ?_) (Sub.refl _)
          rw [hget_set]
          by_cases hb0 : 0 = b
          · subst hb0
            rw [if_pos rfl]; exact .inr ho
          · rw [if_neg hb0]; exact subH_ok hs b

theorem once_fine {o : OnceM} {f : FuncId} {args : List Value} {h : Heap} {n : Nat} (hf : (Nat.beq f o.f && Nat.beq n o.n) = true) (hr : o.run = true) (hn : Nat.blt 0 o.n = true) : Fine f args h n (o.hook args h n) := by
  obtain ⟨h1, _⟩ := Bool.and_eq_true_iff.1 hf
  obtain rfl := beq_eq h1
  exact OnceM.ok hr hn args h n
noncomputable def o0 : OnceM := ⟨7, [(.agg (Array.mk [(.string (ByteArray.mk #[109])), (.slice (some ⟨24, 0, none⟩) 4 inf), (.slice (some ⟨27, 0, none⟩) 1 1), (.slice (some ⟨32, 0, none⟩) 3 3), (.slice (some ⟨33, 0, none⟩) 1 1), (.string (ByteArray.mk #[114, 48, 48])), (.slice none 0 0), (.int .i64 (.ofNat 100))]))],
  (.node (.node (.node (.node (.node .leaf (.cells (.node (.node (.node .leaf (.string (ByteArray.mk #[])) .leaf) (.string (ByteArray.mk #[])) .leaf) (.string (ByteArray.mk #[103])) (.node .leaf (.string (ByteArray.mk #[103])) .leaf)) 4 0 0) .leaf) .dead .leaf) .dead .leaf) (.cells (.node (.node (.node (.node (.node (.node (.node .leaf (.int .u8 (.ofNat 6)) .leaf) (.int .u8 (.ofNat 5)) .leaf) (.int .u8 (.ofNat 4)) (.node .leaf (.int .u8 (.ofNat 11)) .leaf)) (.int .u8 (.ofNat 3)) (.node (.node .leaf (.int .u8 (.ofNat 16)) .leaf) (.int .u8 (.ofNat 22)) (.node .leaf (.int .u8 (.ofNat 10)) .leaf))) (.int .u8 (.ofNat 2)) (.node (.node (.node .leaf (.int .u8 (.ofNat 27)) .leaf) (.int .u8 (.ofNat 36)) (.node .leaf (.int .u8 (.ofNat 15)) .leaf)) (.int .u8 (.ofNat 50)) (.node (.node .leaf (.int .u8 (.ofNat 21)) .leaf) (.int .u8 (.ofNat 30)) (.node .leaf (.int .u8 (.ofNat 9)) .leaf)))) (.int .u8 (.ofNat 1)) (.node (.node (.node (.node .leaf (.int .u8 (.ofNat 55)) .leaf) (.int .u8 (.ofNat 47)) (.node .leaf (.int .u8 (.ofNat 26)) .leaf)) (.int .u8 (.ofNat 58)) (.node (.node .leaf (.int .u8 (.ofNat 35)) .leaf) (.int .u8 (.ofNat 39)) (.node .leaf (.int .u8 (.ofNat 14)) .leaf))) (.int .u8 (.ofNat 49)) (.node (.node (.node .leaf (.int .u8 (.ofNat 41)) .leaf) (.int .u8 (.ofNat 43)) (.node .leaf (.int .u8 (.ofNat 20)) .leaf)) (.int .u8 (.ofNat 29)) (.node (.node .leaf (.int .u8 (.ofNat 32)) .leaf) (.int .u8 (.ofNat 18)) (.node .leaf (.int .u8 (.ofNat 8)) .leaf))))) (.int .u8 (.ofNat 0)) (.node (.node (.node (.node (.node .leaf (.int .u8 (.ofNat 63)) .leaf) (.int .u8 (.ofNat 62)) (.node .leaf (.int .u8 (.ofNat 54)) .leaf)) (.int .u8 (.ofNat 61)) (.node (.node .leaf (.int .u8 (.ofNat 46)) .leaf) (.int .u8 (.ofNat 53)) (.node .leaf (.int .u8 (.ofNat 25)) .leaf))) (.int .u8 (.ofNat 57)) (.node (.node (.node .leaf (.int .u8 (.ofNat 60)) .leaf) (.int .u8 (.ofNat 45)) (.node .leaf (.int .u8 (.ofNat 34)) .leaf)) (.int .u8 (.ofNat 38)) (.node (.node .leaf (.int .u8 (.ofNat 52)) .leaf) (.int .u8 (.ofNat 24)) (.node .leaf (.int .u8 (.ofNat 13)) .leaf)))) (.int .u8 (.ofNat 56)) (.node (.node (.node (.node .leaf (.int .u8 (.ofNat 48)) .leaf) (.int .u8 (.ofNat 59)) (.node .leaf (.int .u8 (.ofNat 40)) .leaf)) (.int .u8 (.ofNat 42)) (.node (.node .leaf (.int .u8 (.ofNat 44)) .leaf) (.int .u8 (.ofNat 33)) (.node .leaf (.int .u8 (.ofNat 19)) .leaf))) (.int .u8 (.ofNat 28)) (.node (.node (.node .leaf (.int .u8 (.ofNat 37)) .leaf) (.int .u8 (.ofNat 51)) (.node .leaf (.int .u8 (.ofNat 31)) .leaf)) (.int .u8 (.ofNat 17)) (.node (.node .leaf (.int .u8 (.ofNat 23)) .leaf) (.int .u8 (.ofNat 12)) (.node .leaf (.int .u8 (.ofNat 7)) .leaf)))))) 64 0 2) (.node .leaf .dead (.node .leaf (.cells (.node (.node .leaf (.slice (some ⟨26, 0, none⟩) 4 inf) .leaf) (.string (ByteArray.mk #[103])) .leaf) 2 0 0) .leaf))) (.cells (.node (.node (.node (.node (.node .leaf (.int .u64 (.ofNat 1000000000000000)) .leaf) (.int .u64 (.ofNat 10000000)) .leaf) (.int .u64 (.ofNat 1000)) (.node (.node .leaf (.int .u64 (.ofNat 10000000000000000000)) .leaf) (.int .u64 (.ofNat 100000000000)) .leaf)) (.int .u64 (.ofNat 10)) (.node (.node (.node .leaf (.int .u64 (.ofNat 100000000000000000)) .leaf) (.int .u64 (.ofNat 1000000000)) .leaf) (.int .u64 (.ofNat 100000)) (.node .leaf (.int .u64 (.ofNat 10000000000000)) .leaf))) (.int .u64 (.ofNat 1)) (.node (.node (.node (.node .leaf (.int .u64 (.ofNat 10000000000000000)) .leaf) (.int .u64 (.ofNat 100000000)) .leaf) (.int .u64 (.ofNat 10000)) (.node .leaf (.int .u64 (.ofNat 1000000000000)) .leaf)) (.int .u64 (.ofNat 100)) (.node (.node (.node .leaf (.int .u64 (.ofNat 1000000000000000000)) .leaf) (.int .u64 (.ofNat 10000000000)) .leaf) (.int .u64 (.ofNat 1000000)) (.node .leaf (.int .u64 (.ofNat 100000000000000)) .leaf)))) 20 0 2) (.node (.node (.node (.node .leaf (.cells (.node .leaf (.string (ByteArray.mk #[114, 48, 48])) .leaf) 1 0 0) .leaf) .dead .leaf) .dead .leaf) .dead (.node .leaf .dead (.node .leaf (.cells (.node (.node (.node .leaf (.string (ByteArray.mk #[])) .leaf) (.string (ByteArray.mk #[])) .leaf) (.string (ByteArray.mk #[103])) (.node .leaf (.string (ByteArray.mk #[103])) .leaf)) 4 0 0) .leaf)))), (.node (.node (.node (.node (.node .leaf (.cells (.node (.node (.node (.node (.node .leaf (.slice (some ⟨31, 0, none⟩) 2 2) .leaf) (.string (ByteArray.mk #[103])) .leaf) (.slice (some ⟨29, 0, none⟩) 2 2) (.node .leaf (.slice none 0 0) .leaf)) (.string (ByteArray.mk #[103])) (.node (.node (.node .leaf (.slice none 0 0) .leaf) (.slice (some ⟨30, 0, none⟩) 1 1) .leaf) (.slice none 0 0) (.node .leaf (.string (ByteArray.mk #[103])) .leaf))) (.string (ByteArray.mk #[97, 100, 100])) (.node (.node (.node (.node .leaf (.int .i64 (.negSucc 0)) .leaf) (.string (ByteArray.mk #[])) .leaf) (.int .i64 (.negSucc 0)) (.node .leaf (.string (ByteArray.mk #[100, 105, 118])) .leaf)) (.string (ByteArray.mk #[])) (.node (.node .leaf (.int .i64 (.negSucc 0)) .leaf) (.string (ByteArray.mk #[110, 111, 116])) (.node .leaf (.string (ByteArray.mk #[])) .leaf)))) 18 0 0) .leaf) .dead .leaf) .dead (.node .leaf (.cells (.node (.node (.node (.node (.node .leaf (.slice none 0 0) .leaf) (.slice none 0 0) .leaf) (.slice none 0 0) (.node .leaf (.slice none 0 0) .leaf)) (.int .i64 (.ofNat 8)) (.node (.node .leaf (.int .i64 (.ofNat 8)) .leaf) (.int .i64 (.ofNat 8)) (.node .leaf (.int .i64 (.ofNat 8)) .leaf))) (.string (ByteArray.mk #[114, 48, 48])) (.node (.node (.node .leaf (.string (ByteArray.mk #[114, 48, 50])) .leaf) (.string (ByteArray.mk #[114, 48, 49])) (.node .leaf (.string (ByteArray.mk #[114, 48, 51])) .leaf)) (.int .i64 (.ofNat 0)) (.node (.node .leaf (.int .i64 (.ofNat 0)) .leaf) (.int .i64 (.ofNat 0)) (.node .leaf (.int .i64 (.ofNat 0)) .leaf)))) 16 3302 1) .leaf)) .dead .leaf) .dead (.node (.node .leaf .dead (.node .leaf (.cells (.node (.node (.node .leaf (.string (ByteArray.mk #[114, 48, 51])) .leaf) (.string (ByteArray.mk #[114, 48, 49])) .leaf) (.string (ByteArray.mk #[114, 48, 48])) (.node .leaf (.string (ByteArray.mk #[114, 48, 50])) .leaf)) 4 109 1) .leaf)) .dead (.node .leaf .dead (.node .leaf (.cells (.node (.node .leaf (.string (ByteArray.mk #[])) .leaf) (.string (ByteArray.mk #[103])) .leaf) 2 0 0) .leaf)))),
  34, (.tuple (Array.mk [(.pointer (some ⟨370, 0, none⟩)), (.int .i64 (.ofNat 0))])),
  (.node (.node (.node (.node (.node .leaf (.cells (.node (.node (.node .leaf (.string (ByteArray.mk #[])) .leaf) (.string (ByteArray.mk #[])) .leaf) (.string (ByteArray.mk #[103])) (.node .leaf (.string (ByteArray.mk #[103])) .leaf)) 4 0 0) .leaf) .dead (.node .leaf .dead (.node .leaf .dead (.node (.node (.node .leaf (.cells (.node (.node .leaf (.slice (some ⟨472, 0, none⟩) 1 1) .leaf) (.slice (some ⟨472, 0, none⟩) 1 1) (.node .leaf (.slice (some ⟨472, 0, none⟩) 1 1) .leaf)) 3 4969 1) .leaf) (.cells (.node (.node (.node .leaf (.string (ByteArray.mk #[])) .leaf) (.string (ByteArray.mk #[])) .leaf) (.string (ByteArray.mk #[103])) (.node .leaf (.string (ByteArray.mk #[103])) .leaf)) 4 3304 1) .leaf) .dead .leaf)))) .dead (.node (.node .leaf .dead (.node .leaf .dead (.node (.node .leaf (.cells (.node (.node (.node (.node (.node .leaf (.slice (some ⟨367, 0, none⟩) 2 inf) .leaf) (.string (ByteArray.mk #[103])) .leaf) (.slice (some ⟨363, 0, none⟩) 2 inf) (.node .leaf (.slice none 0 0) .leaf)) (.string (ByteArray.mk #[103])) (.node (.node (.node .leaf (.slice none 0 0) .leaf) (.slice (some ⟨365, 0, none⟩) 1 inf) .leaf) (.slice none 0 0) (.node .leaf (.string (ByteArray.mk #[103])) .leaf))) (.string (ByteArray.mk #[97, 100, 100])) (.node (.node (.node (.node .leaf (.int .i64 (.negSucc 0)) .leaf) (.string (ByteArray.mk #[])) .leaf) (.int .i64 (.negSucc 0)) (.node .leaf (.string (ByteArray.mk #[100, 105, 118])) .leaf)) (.string (ByteArray.mk #[])) (.node (.node .leaf (.int .i64 (.negSucc 0)) .leaf) (.string (ByteArray.mk #[110, 111, 116])) (.node .leaf (.string (ByteArray.mk #[])) .leaf)))) 18 4154 1) .leaf) .dead .leaf))) .dead (.node .leaf .dead (.node (.node (.node (.node .leaf (.cells (.node .leaf (.int .u64 (.ofNat 8)) .leaf) 1 20021 1) .leaf) .dead .leaf) .dead .leaf) .dead .leaf)))) (.cells (.node (.node (.node (.node (.node (.node (.node .leaf (.int .u8 (.ofNat 6)) .leaf) (.int .u8 (.ofNat 5)) .leaf) (.int .u8 (.ofNat 4)) (.node .leaf (.int .u8 (.ofNat 11)) .leaf)) (.int .u8 (.ofNat 3)) (.node (.node .leaf (.int .u8 (.ofNat 16)) .leaf) (.int .u8 (.ofNat 22)) (.node .leaf (.int .u8 (.ofNat 10)) .leaf))) (.int .u8 (.ofNat 2)) (.node (.node (.node .leaf (.int .u8 (.ofNat 27)) .leaf) (.int .u8 (.ofNat 36)) (.node .leaf (.int .u8 (.ofNat 15)) .leaf)) (.int .u8 (.ofNat 50)) (.node (.node .leaf (.int .u8 (.ofNat 21)) .leaf) (.int .u8 (.ofNat 30)) (.node .leaf (.int .u8 (.ofNat 9)) .leaf)))) (.int .u8 (.ofNat 1)) (.node (.node (.node (.node .leaf (.int .u8 (.ofNat 55)) .leaf) (.int .u8 (.ofNat 47)) (.node .leaf (.int .u8 (.ofNat 26)) .leaf)) (.int .u8 (.ofNat 58)) (.node (.node .leaf (.int .u8 (.ofNat 35)) .leaf) (.int .u8 (.ofNat 39)) (.node .leaf (.int .u8 (.ofNat 14)) .leaf))) (.int .u8 (.ofNat 49)) (.node (.node (.node .leaf (.int .u8 (.ofNat 41)) .leaf) (.int .u8 (.ofNat 43)) (.node .leaf (.int .u8 (.ofNat 20)) .leaf)) (.int .u8 (.ofNat 29)) (.node (.node .leaf (.int .u8 (.ofNat 32)) .leaf) (.int .u8 (.ofNat 18)) (.node .leaf (.int .u8 (.ofNat 8)) .leaf))))) (.int .u8 (.ofNat 0)) (.node (.node (.node (.node (.node .leaf (.int .u8 (.ofNat 63)) .leaf) (.int .u8 (.ofNat 62)) (.node .leaf (.int .u8 (.ofNat 54)) .leaf)) (.int .u8 (.ofNat 61)) (.node (.node .leaf (.int .u8 (.ofNat 46)) .leaf) (.int .u8 (.ofNat 53)) (.node .leaf (.int .u8 (.ofNat 25)) .leaf))) (.int .u8 (.ofNat 57)) (.node (.node (.node .leaf (.int .u8 (.ofNat 60)) .leaf) (.int .u8 (.ofNat 45)) (.node .leaf (.int .u8 (.ofNat 34)) .leaf)) (.int .u8 (.ofNat 38)) (.node (.node .leaf (.int .u8 (.ofNat 52)) .leaf) (.int .u8 (.ofNat 24)) (.node .leaf (.int .u8 (.ofNat 13)) .leaf)))) (.int .u8 (.ofNat 56)) (.node (.node (.node (.node .leaf (.int .u8 (.ofNat 48)) .leaf) (.int .u8 (.ofNat 59)) (.node .leaf (.int .u8 (.ofNat 40)) .leaf)) (.int .u8 (.ofNat 42)) (.node (.node .leaf (.int .u8 (.ofNat 44)) .leaf) (.int .u8 (.ofNat 33)) (.node .leaf (.int .u8 (.ofNat 19)) .leaf))) (.int .u8 (.ofNat 28)) (.node (.node (.node .leaf (.int .u8 (.ofNat 37)) .leaf) (.int .u8 (.ofNat 51)) (.node .leaf (.int .u8 (.ofNat 31)) .leaf)) (.int .u8 (.ofNat 17)) (.node (.node .leaf (.int .u8 (.ofNat 23)) .leaf) (.int .u8 (.ofNat 12)) (.node .leaf (.int .u8 (.ofNat 7)) .leaf)))))) 64 0 2) (.node (.node (.node .leaf .dead (.node .leaf .dead (.node (.node .leaf (.cells (.node (.node (.node (.node (.node .leaf (.slice none 0 0) .leaf) (.slice none 0 0) .leaf) (.slice none 0 0) (.node .leaf (.slice none 0 0) .leaf)) (.int .i64 (.ofNat 8)) (.node (.node .leaf (.int .i64 (.ofNat 8)) .leaf) (.int .i64 (.ofNat 8)) (.node .leaf (.int .i64 (.ofNat 8)) .leaf))) (.string (ByteArray.mk #[114, 48, 48])) (.node (.node (.node .leaf (.string (ByteArray.mk #[114, 48, 50])) .leaf) (.string (ByteArray.mk #[114, 48, 49])) (.node .leaf (.string (ByteArray.mk #[114, 48, 51])) .leaf)) (.int .i64 (.ofNat 0)) (.node (.node .leaf (.int .i64 (.ofNat 0)) .leaf) (.int .i64 (.ofNat 0)) (.node .leaf (.int .i64 (.ofNat 0)) .leaf)))) 16 3302 1) .leaf) .dead .leaf))) .dead .leaf) .dead (.node (.node (.node .leaf .dead (.node .leaf .dead (.node .leaf (.cells (.node (.node (.node .leaf (.int .i64 (.ofNat 3)) .leaf) (.int .i64 (.ofNat 1)) .leaf) (.int .i64 (.ofNat 0)) (.node .leaf (.int .i64 (.ofNat 2)) .leaf)) 4 19 1) .leaf))) .dead (.node .leaf .dead (.node (.node .leaf (.cells (.node (.node (.node .leaf (.string (ByteArray.mk #[])) .leaf) (.string (ByteArray.mk #[])) .leaf) (.string (ByteArray.mk #[103])) (.node .leaf (.string (ByteArray.mk #[103])) .leaf)) 4 3304 1) .leaf) .dead .leaf))) (.cells (.node (.node .leaf (.slice (some ⟨26, 0, none⟩) 4 inf) .leaf) (.string (ByteArray.mk #[103])) .leaf) 2 0 0) (.node (.node .leaf .dead (.node .leaf .dead (.node .leaf (.cells (.node .leaf (.slice (some ⟨472, 0, none⟩) 1 1) .leaf) 1 4969 1) .leaf))) .dead .leaf)))) (.cells (.node (.node (.node (.node (.node .leaf (.int .u64 (.ofNat 1000000000000000)) .leaf) (.int .u64 (.ofNat 10000000)) .leaf) (.int .u64 (.ofNat 1000)) (.node (.node .leaf (.int .u64 (.ofNat 10000000000000000000)) .leaf) (.int .u64 (.ofNat 100000000000)) .leaf)) (.int .u64 (.ofNat 10)) (.node (.node (.node .leaf (.int .u64 (.ofNat 100000000000000000)) .leaf) (.int .u64 (.ofNat 1000000000)) .leaf) (.int .u64 (.ofNat 100000)) (.node .leaf (.int .u64 (.ofNat 10000000000000)) .leaf))) (.int .u64 (.ofNat 1)) (.node (.node (.node (.node .leaf (.int .u64 (.ofNat 10000000000000000)) .leaf) (.int .u64 (.ofNat 100000000)) .leaf) (.int .u64 (.ofNat 10000)) (.node .leaf (.int .u64 (.ofNat 1000000000000)) .leaf)) (.int .u64 (.ofNat 100)) (.node (.node (.node .leaf (.int .u64 (.ofNat 1000000000000000000)) .leaf) (.int .u64 (.ofNat 10000000000)) .leaf) (.int .u64 (.ofNat 1000000)) (.node .leaf (.int .u64 (.ofNat 100000000000000)) .leaf)))) 20 0 2) (.node (.node (.node (.node .leaf (.cells (.node .leaf (.string (ByteArray.mk #[114, 48, 48])) .leaf) 1 0 0) (.node .leaf .dead (.node (.node (.node .leaf (.cells (.node (.node .leaf (.slice none 0 0) .leaf) (.slice none 0 0) (.node .leaf (.slice none 0 0) .leaf)) 3 1331 1) .leaf) .dead .leaf) .dead .leaf))) .dead (.node .leaf .dead (.node .leaf .dead (.node (.node (.node .leaf (.cells (.node (.node .leaf (.slice (some ⟨604, 0, none⟩) 2 inf) .leaf) (.slice (some ⟨589, 0, none⟩) 3 inf) (.node .leaf (.slice (some ⟨623, 0, none⟩) 3 inf) .leaf)) 3 4289 1) .leaf) (.cells (.node .leaf (.string (ByteArray.mk #[114, 48, 48])) .leaf) 1 109 1) .leaf) .dead .leaf)))) .dead (.node (.node .leaf .dead (.node .leaf .dead (.node (.node .leaf (.cells (.node (.node (.node .leaf (.string (ByteArray.mk #[114, 48, 51])) .leaf) (.string (ByteArray.mk #[114, 48, 49])) .leaf) (.string (ByteArray.mk #[114, 48, 48])) (.node .leaf (.string (ByteArray.mk #[114, 48, 50])) .leaf)) 4 109 1) .leaf) .dead .leaf))) .dead .leaf)) .dead (.node (.node (.node .leaf .dead (.node .leaf .dead (.node (.node .leaf (.cells (.node (.node .leaf (.slice (some ⟨361, 0, none⟩) 4 inf) .leaf) (.string (ByteArray.mk #[103])) .leaf) 2 2860 1) .leaf) .dead (.node .leaf (.map [⟨(.string (ByteArray.mk #[103])), (.int .i64 (.ofNat 0)), 0⟩] 1) .leaf)))) .dead .leaf) .dead (.node (.node (.node (.node (.node (.node .leaf (.cells (.node .leaf (.int .u64 (.ofNat 2)) .leaf) 1 20021 1) .leaf) .dead .leaf) .dead .leaf) .dead (.node (.node (.node .leaf (.cells (.node (.node .leaf (.slice (some ⟨472, 0, none⟩) 1 1) .leaf) (.slice (some ⟨472, 0, none⟩) 1 1) (.node .leaf (.slice (some ⟨472, 0, none⟩) 1 1) .leaf)) 3 4969 1) .leaf) .dead .leaf) .dead (.node .leaf (.cells (.node .leaf (.slice (some ⟨459, 0, none⟩) 4 inf) .leaf) 1 1331 1) .leaf))) .dead (.node .leaf .dead (.node (.node .leaf (.cells (.node (.node .leaf (.string (ByteArray.mk #[])) .leaf) (.string (ByteArray.mk #[103])) .leaf) 2 3304 1) .leaf) .dead .leaf))) (.cells (.node (.node (.node .leaf (.string (ByteArray.mk #[])) .leaf) (.string (ByteArray.mk #[])) .leaf) (.string (ByteArray.mk #[103])) (.node .leaf (.string (ByteArray.mk #[103])) .leaf)) 4 0 0) .leaf)))), (.node (.node (.node (.node (.node (.node .leaf .dead (.node .leaf .dead (.node .leaf (.map [⟨(.string (ByteArray.mk #[114, 48, 48])), (.int .i64 (.ofNat 0)), 0⟩, ⟨(.string (ByteArray.mk #[114, 48, 49])), (.int .i64 (.ofNat 1)), 1⟩, ⟨(.string (ByteArray.mk #[114, 48, 50])), (.int .i64 (.ofNat 2)), 2⟩, ⟨(.string (ByteArray.mk #[114, 48, 51])), (.int .i64 (.ofNat 3)), 3⟩] 4) .leaf))) (.cells (.node (.node (.node (.node (.node .leaf (.slice (some ⟨31, 0, none⟩) 2 2) .leaf) (.string (ByteArray.mk #[103])) .leaf) (.slice (some ⟨29, 0, none⟩) 2 2) (.node .leaf (.slice none 0 0) .leaf)) (.string (ByteArray.mk #[103])) (.node (.node (.node .leaf (.slice none 0 0) .leaf) (.slice (some ⟨30, 0, none⟩) 1 1) .leaf) (.slice none 0 0) (.node .leaf (.string (ByteArray.mk #[103])) .leaf))) (.string (ByteArray.mk #[97, 100, 100])) (.node (.node (.node (.node .leaf (.int .i64 (.negSucc 0)) .leaf) (.string (ByteArray.mk #[])) .leaf) (.int .i64 (.negSucc 0)) (.node .leaf (.string (ByteArray.mk #[100, 105, 118])) .leaf)) (.string (ByteArray.mk #[])) (.node (.node .leaf (.int .i64 (.negSucc 0)) .leaf) (.string (ByteArray.mk #[110, 111, 116])) (.node .leaf (.string (ByteArray.mk #[])) .leaf)))) 18 0 0) .leaf) .dead .leaf) .dead (.node .leaf (.cells (.node (.node (.node (.node (.node .leaf (.slice none 0 0) .leaf) (.slice none 0 0) .leaf) (.slice none 0 0) (.node .leaf (.slice none 0 0) .leaf)) (.int .i64 (.ofNat 8)) (.node (.node .leaf (.int .i64 (.ofNat 8)) .leaf) (.int .i64 (.ofNat 8)) (.node .leaf (.int .i64 (.ofNat 8)) .leaf))) (.string (ByteArray.mk #[114, 48, 48])) (.node (.node (.node .leaf (.string (ByteArray.mk #[114, 48, 50])) .leaf) (.string (ByteArray.mk #[114, 48, 49])) (.node .leaf (.string (ByteArray.mk #[114, 48, 51])) .leaf)) (.int .i64 (.ofNat 0)) (.node (.node .leaf (.int .i64 (.ofNat 0)) .leaf) (.int .i64 (.ofNat 0)) (.node .leaf (.int .i64 (.ofNat 0)) .leaf)))) 16 3302 1) (.node (.node .leaf .dead (.node .leaf .dead (.node .leaf (.cells (.node .leaf (.int .u64 (.ofNat 15)) .leaf) 1 20021 1) .leaf))) .dead (.node .leaf .dead (.node .leaf .dead (.node .leaf (.cells (.node .leaf (.int .u64 (.ofNat 1)) .leaf) 1 20021 1) .leaf)))))) .dead (.node .leaf .dead (.node .leaf .dead (.node (.node .leaf .dead (.node (.node (.node .leaf (.cells (.node (.node .leaf (.slice (some ⟨472, 0, none⟩) 1 1) .leaf) (.slice (some ⟨472, 0, none⟩) 1 1) .leaf) 2 4969 1) .leaf) .dead .leaf) .dead .leaf)) .dead (.node (.node (.node (.node .leaf (.cells (.node .leaf (.int .i64 (.ofNat 0)) .leaf) 1 19 1) .leaf) .dead .leaf) .dead (.node .leaf (.cells (.node (.node (.node .leaf (.string (ByteArray.mk #[114, 48, 51])) .leaf) (.string (ByteArray.mk #[114, 48, 49])) .leaf) (.string (ByteArray.mk #[114, 48, 48])) (.node .leaf (.string (ByteArray.mk #[114, 48, 50])) .leaf)) 4 109 1) .leaf)) .dead .leaf))))) .dead (.node (.node (.node (.node .leaf .dead (.node (.node (.node (.node .leaf (.cells (.node .leaf (.int .u64 (.ofNat 4)) .leaf) 1 20021 1) .leaf) .dead .leaf) .dead .leaf) .dead .leaf)) .dead (.node .leaf .dead (.node .leaf .dead (.node (.node .leaf (.cells (.node (.node (.node (.node (.node .leaf (.slice (some ⟨475, 0, none⟩) 1 inf) .leaf) (.int .i64 (.ofNat 100)) .leaf) (.slice (some ⟨359, 0, none⟩) 3 inf) (.node (.node .leaf (.slice (some ⟨572, 0, none⟩) 1 inf) .leaf) (.map (some 485)) .leaf)) (.slice (some ⟨355, 0, none⟩) 4 inf) (.node (.node (.node .leaf (.slice (some ⟨609, 0, none⟩) 3 inf) .leaf) (.slice (some ⟨446, 0, none⟩) 4 inf) .leaf) (.string (ByteArray.mk #[114, 48, 48])) (.node .leaf (.slice (some ⟨570, 0, none⟩) 4 inf) .leaf))) (.string (ByteArray.mk #[109])) (.node (.node (.node (.node .leaf (.slice (some ⟨625, 0, none⟩) 3 inf) .leaf) (.slice (some ⟨444, 0, none⟩) 4 inf) .leaf) (.slice (some ⟨369, 0, none⟩) 1 inf) (.node (.node .leaf (.slice none 0 0) .leaf) (.map (some 486)) .leaf)) (.slice (some ⟨357, 0, none⟩) 1 inf) (.node (.node (.node .leaf (.slice none 0 0) .leaf) (.map (some 448)) .leaf) (.slice none 0 0) (.node .leaf (.slice (some ⟨461, 0, none⟩) 1 inf) .leaf)))) 21 0 0) .leaf) .dead .leaf)))) .dead (.node .leaf (.cells (.node (.node (.node .leaf (.string (ByteArray.mk #[114, 48, 51])) .leaf) (.string (ByteArray.mk #[114, 48, 49])) .leaf) (.string (ByteArray.mk #[114, 48, 48])) (.node .leaf (.string (ByteArray.mk #[114, 48, 50])) .leaf)) 4 109 1) (.node .leaf .dead (.node (.node (.node (.node .leaf (.cells (.node (.node (.node .leaf (.slice (some ⟨567, 0, none⟩) 1 1) .leaf) (.slice (some ⟨525, 0, none⟩) 1 1) .leaf) (.slice (some ⟨504, 0, none⟩) 1 1) (.node .leaf (.slice (some ⟨546, 0, none⟩) 1 1) .leaf)) 4 4969 1) .leaf) .dead .leaf) .dead .leaf) .dead .leaf)))) .dead (.node (.node (.node .leaf .dead (.node .leaf .dead (.node .leaf .dead (.node .leaf (.map [⟨(.string (ByteArray.mk #[97, 100, 100])), (.int .i64 (.ofNat 0)), 0⟩, ⟨(.string (ByteArray.mk #[110, 111, 116])), (.int .i64 (.ofNat 1)), 1⟩, ⟨(.string (ByteArray.mk #[100, 105, 118])), (.int .i64 (.ofNat 2)), 2⟩] 3) .leaf)))) .dead .leaf) .dead (.node .leaf (.cells (.node (.node .leaf (.string (ByteArray.mk #[])) .leaf) (.string (ByteArray.mk #[103])) .leaf) 2 0 0) (.node .leaf .dead (.node (.node .leaf .dead (.node .leaf (.cells (.node (.node (.node (.node .leaf (.int .i64 (.ofNat 0)) .leaf) (.int .i64 (.ofNat 1)) (.node .leaf (.int .i64 (.ofNat 8)) .leaf)) (.int .i64 (.ofNat 0)) (.node (.node .leaf (.int .i64 (.ofNat 3)) .leaf) (.int .i64 (.ofNat 8)) .leaf)) (.int .i64 (.ofNat 0)) (.node (.node (.node .leaf (.int .i64 (.ofNat 8)) .leaf) (.int .i64 (.ofNat 0)) .leaf) (.int .i64 (.ofNat 8)) (.node (.node .leaf (.int .i64 (.ofNat 0)) .leaf) (.int .i64 (.ofNat 2)) .leaf))) 12 17289 1) .leaf)) .dead .leaf)))))),
  633⟩
theorem o0_run : o0.run = true := by kernel_rfl
theorem o0_n : Nat.blt 0 o0.n = true := by kernel_rfl
theorem run_ok : True := trivial

/-- All that is known beforehand. -/
noncomputable def hk : HookH := fun f args h n =>
  Option.rec (motive := fun _ => Option Rsl) (cond (Nat.beq f 5) (hkAlive args h n) <| cond (Nat.beq f 7 && Nat.beq n 34) (o0.hook args h n) <| none) (fun r => some r) (hkLib f args h n)
theorem hk_ok : HookHOK P 8 hk := by
  intro f args h n r e u
  unfold hk at e
  cases h1 : hkLib f args h n with
  | some r' => rw [h1] at e; injection e with e; subst e; exact hkLib_ok f args h n r' h1 u
  | none =>
    rw [h1] at e
    rcases cond_some e with ⟨hf, e⟩ | e
    · obtain rfl := beq_eq hf; exact hkAlive_ok args h n r e u
    rcases cond_some e with ⟨hf, e⟩ | e
    · exact once_fine (o := o0) hf o0_run o0_n r e u
    cases e

/-- The executor. -/
noncomputable def lo : Lo := runHH P hk 1000000
theorem lo_ok : Sound P 8 lo := soundHH prog_ok mixed hk_ok 1000000

/-- What is known beforehand, but for calls that were run once. -/
noncomputable def hkA : HookH := fun f args h n =>
  Option.rec (motive := fun _ => Option Rsl) (cond (Nat.beq f 5) (hkAlive args h n) none) (fun r => some r) (hkLib f args h n)
theorem hkA_ok : HookHOK P 8 hkA := by
  intro f args h n r e u
  unfold hkA at e
  cases h1 : hkLib f args h n with
  | some r' => rw [h1] at e; injection e with e; subst e; exact hkLib_ok f args h n r' h1 u
  | none =>
    rw [h1] at e
    rcases cond_some e with ⟨hf, e⟩ | e
    · obtain rfl := beq_eq hf; exact hkAlive_ok args h n r e u
    cases e
noncomputable def loA : Lo := runHH P hkA 1000000
theorem loA_ok : Sound P 8 loA := soundHH prog_ok mixed hkA_ok 1000000

/-- A call tells true, whatever the number is that is not known. -/
noncomputable def yesM (m : Int) (f : FuncId) (args : List Value) : Bool :=
  Bool.rec (loA.call f args false none (heap0 (tabs m)) 8 (finV (.bool true))) true (lo.call f args false none (heap0 (tabs m)) 8 (finV (.bool true)))

theorem yesM_of {m : Int} {f : FuncId} {args : List Value} (h : lo.call f args false none (heap0 (tabs m)) 8 (finV (.bool true)) = true) : yesM m f args = true := by
  unfold yesM; rw [h]

/-- The walk of a law. -/
theorem walk_of {f : FuncId} {args : List Value} (hp : args.all plainB = true) (hx : ∀ m, yesM m f args = true) {m : Int} (w : World) (hw : TabsIn w (tabs m)) :
    Calls P f ⟨args⟩ w fun e w' => e = .returned (.bool true) ∧ Below w.heap.size w w' := by
  have h := hx m
  unfold yesM at h
  cases h1 : lo.call f args false none (heap0 (tabs m)) 8 (finV (.bool true)) with
  | true => exact law_calls lo_ok (tabs_ok m) hp h1 w hw
  | false => rw [h1] at h; exact law_calls loA_ok (tabs_ok m) hp h w hw

/-- A nest of tests. -/
noncomputable def R (x y : Bool) : Bool := Bool.rec false x y
theorem R_true : R true true = true := rfl
theorem own : ownKnob P.godebug = none := by kernel_rfl

/-! ### the world at first -/

theorem returns_and_shaped {H : Type} {enc : TypeId × Value → H} {a : Assume} {C : Checked} {os : Os} {f : FuncId} {fn : Func} {s : ChangeSpec} {conds : List PathCond} {apart fresh handsOn again : Bool} {X : World → Array Value → Prop}
    (hX : ∀ (w w' : World) (args : Array Value), w.heap = w'.heap → X w args → X w' args)
    (own : ownKnob C.prog.godebug = none) (started : os.Started) (noInit : C.prog.inits.idxOf? f = none) (hfn : C.prog.funcs[f]? = some fn)
    (witness : ∃ (w : World) (tape : Tape) (i : Input), w.os = os ∧ (w.forCall tape i).Shaped C.prog ∧ i.vars = [] ∧ Input.okWide C.prog (w.forCall tape i) .any w.heap.size f i ∧
      ((s.pre enc C.prog fn conds apart (w.forCall tape i).memory i.args ∧ X (w.forCall tape i).memory i.args) ∧ sizedMet enc C.prog fn (OpenSpec.ofChange s) apart (w.forCall tape i).memory i.args) ∧ a.holds C.prog (lone (Frame.enter C.prog f i.args .normal) [] (w.forCall tape i)))
    (contract : ∀ (W : World) (base : Nat) (args : Array Value) (ds gs : List (DataW H)) (before : List MemPlace),
      (∀ (j : Nat) t v, fn.params[j]? = some t → args[j]? = some v → Value.okWide C.prog W .any base t v) →
      DataW.Whole enc C.prog fn.params.toList s.vars apart W args.toList ds gs before →
      conds.all (PathCond.test C.prog ⟨fn.params.toList, ds, s.plain.varTypes C.prog, gs⟩) = true →
      (DataW.weightsEach C.prog (fn.params.toList ++ s.plain.varTypes C.prog) (ds ++ gs)).all (· ≤ reachBytes) = true → X W args → W.ShapedOpen C.prog →
      a.holds C.prog (lone (Frame.enter C.prog f args .normal) [] W) →
      Calls C.prog f args W fun e W' => ∃ v, e = .returned v ∧ s.post enc C.prog fn apart fresh handsOn again W args v W') :
    ReturnsInHanded a C os f .any (fun w args => (s.pre enc C.prog fn conds apart w args ∧ X w args) ∧ sizedMet enc C.prog fn (OpenSpec.ofChange s) apart w args) (s.post enc C.prog fn apart fresh handsOn again) := by
  refine returnsInHanded_of_calls own started noInit witness ?_
  intro w tape i _ hsh _ hok hpre hholds
  obtain ⟨_, _, _, fn', hfn', _, _, _, _, hval⟩ := hok
  have e : fn' = fn := Option.some.inj (hfn'.symm.trans hfn)
  subst e
  obtain ⟨⟨⟨ds, gs, before, hw, hc⟩, hx⟩, hz⟩ := hpre
  have hw' := DataW.Whole.of_heap (w' := w.forCall tape i) (by rfl) hw
  refine (contract (w.forCall tape i) w.heap.size i.args ds gs before hval hw' hc (hz.weights hw) (hX _ _ _ (by rfl) hx) hsh hholds).mono fun e W' ⟨v, he, hp⟩ => ?_
  subst he
  exact ChangeSpec.post_blind hp

theorem tabIs_of_reads {W : World} {name : String} {k : IntKind} {zs : List Int} {g : Nat} {t e : TypeId} {n : Nat}
    (hg : P.globalNamed name = some g) (hty : (P.globals[g]?).map (·.type) = some t) (ht : P.underlying t = some (.array n e)) (he : P.underlying e = some (.int k)) (hce : P.cellsOf e = 1) (hct : P.cellsOf t = n)
    (h : Lib.VarReads P W name (Lib.tabData k zs)) : Lib.TabIs P W name k zs := by
  obtain ⟨g', t', cs, fuel, p, hg', ht', hvar, hd⟩ := h
  obtain rfl := Option.some.inj (hg.symm.trans hg')
  obtain rfl := Option.some.inj (hty.symm.trans ht')
  unfold Lib.TabIs
  rw [hvar, ← Lib.cells_of_tab ht he hce hct hd]

theorem in_of_tabIs {W : World} {name : String} {k : IntKind} {zs : List Int} {g : Nat} (hT : Lib.TabIs P W name k zs) (hg : P.globalNamed name = some g) : ∃ el fr, W.heap[g]? = some (.cells ⟨zs.map fun z => Value.int k z⟩ el fr) := by
  unfold Lib.TabIs World.var? at hT
  rw [hg] at hT
  simp only [Option.bind_some] at hT
  split at hT
  · rename_i cs el fr e
    injection hT with hT
    exact ⟨el, fr, by rw [e, hT]⟩
  · cases hT

theorem max_in {W : World} (hs : W.ShapedOpen P) : ∃ (m : Int) (el : TypeId) (fr : Nat × Nat), W.heap[(0 : Nat)]? = some (.cells ⟨[.int .i64 m]⟩ el fr) := by
  have h0 : ((begin P (fun _ _ => 0) default).world.heap[(0 : Nat)]?).bind Obj.row? = some (#[.int .i64 0], 3) := by kernel_rfl
  obtain ⟨cs, hh, hsz, hr⟩ := hs.1 0 _ _ (of_decide_eq_true (by kernel_rfl)) h0
  obtain ⟨m, hm⟩ := cell_of_shapedOpen_int (k := .i64) hs (of_decide_eq_true (by kernel_rfl)) h0 rfl (by kernel_rfl) (by kernel_rfl) Tryz.underlying3
  refine ⟨m, 3, (0, 0), hh.trans ?_⟩
  unfold World.cell? at hm
  dsimp only at hm
  rw [hh] at hm
  have hm' : cs[0]? = some (.int .i64 m) := hm
  have h1 : cs.size = 1 := hsz
  congr 2
  apply Array.ext
  · exact h1
  · intro i i1 i2
    obtain rfl : i = 0 := by omega
    rw [Array.getElem?_eq_getElem (by omega)] at hm'
    injection hm'

theorem tabs_in {W : World} (h1 : Lib.TabIs P W "internal/strconv.uint64pow10" .u64 Lib.pow10Tab) (h2 : Lib.TabIs P W "math/bits.deBruijn64tab" .u8 zs) (hs : W.ShapedOpen P) : ∃ m, TabsIn W (tabs m) := by
  obtain ⟨m, el, fr, e⟩ := max_in hs
  refine ⟨m, fun p hp => ?_⟩
  simp only [tabs, tabs0, List.mem_cons, List.not_mem_nil, or_false] at hp
  rcases hp with rfl | rfl | rfl
  · exact ⟨el, fr, e⟩
  · have := in_of_tabIs (g := 1) h1 (by kernel_rfl)
    dsimp only
    rw [powL_eq]
    exact this
  · exact in_of_tabIs (g := 3) h2 (by kernel_rfl)
end Go.Proofs.YtapnnpoljobanabGreatDoor
