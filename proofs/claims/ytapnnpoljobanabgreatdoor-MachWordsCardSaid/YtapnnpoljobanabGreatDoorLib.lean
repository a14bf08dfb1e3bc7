/- The library's functions that the program calls, as calls that return: cutting, joining, numbers, builders. Conditions: those that each theorem states. -/
import Derived.Test.YtapnnpoljobanabGreatDoorSh
import Derived.Test.YtapnnpoljobanabGreatDoorRows
import Derived.Test.YtapnnpoljobanabGreatDoorEx4
import Derived.KernelRfl
import Derived.Lib.AppendIntMem
import Derived.Lib.AtoiErrMem
import Derived.WalkSmall
namespace Go.Proofs.YtapnnpoljobanabGreatDoor
open Go.Ex Go.RowKit
set_option maxRecDepth 1000000
noncomputable abbrev P := Tryz.prog
theorem prog_ok : progOK 8 P = true := by decide +kernel
theorem mixed : P.follows .mixedOrders = true := by decide +kernel

/-- What the library's functions read: a number that is not known, and powers of ten. -/
def tb (m : Int) : List (Nat × List Value) := [(0, [.int .i64 m]), (1, Lib.pow10Tab.map fun z => Value.int .u64 z)]
theorem tb_ok (m : Int) : ∀ p ∈ tb m, p.1 < 8 ∧ p.2.all isScal = true := by
  intro p hp
  simp only [tb, List.mem_cons, List.not_mem_nil, or_false] at hp
  rcases hp with rfl | rfl
  · exact ⟨(by decide : (0 : Nat) < 8), rfl⟩
  · exact ⟨(by decide : (1 : Nat) < 8), by simp [Lib.pow10Tab, isScal]⟩
theorem tb_max {m : Int} {wd : World} (h : TabsIn wd (tb m)) : wd.cell? ⟨0, 0, none⟩ = some (.int .i64 m) := by
  obtain ⟨el, fr, e⟩ := h (0, [.int .i64 m]) (by simp [tb])
  unfold World.cell?
  dsimp only at e ⊢
  rw [e]; rfl
theorem tb_pow {m : Int} {wd : World} (h : TabsIn wd (tb m)) : Lib.TabIs P wd "internal/strconv.uint64pow10" .u64 Lib.pow10Tab := by
  obtain ⟨el, fr, e⟩ := h (1, Lib.pow10Tab.map fun z => Value.int .u64 z) (by simp [tb])
  unfold Lib.TabIs World.var?
  rw [show P.globalNamed "internal/strconv.uint64pow10" = some 1 by kernel_rfl]
  simp only [Option.bind_some]
  dsimp only at e
  rw [e]

theorem h_cut : hasB P 125 = true := by kernel_rfl
theorem h_cutPrefix : hasB P 155 = true := by kernel_rfl
theorem h_split : hasB P 156 = true := by kernel_rfl
theorem h_join : hasB P 29 = true := by kernel_rfl
theorem h_itoa : hasB P 30 = true := by kernel_rfl
theorem h_check : hasB P 70 = true := by kernel_rfl
theorem h_string : hasB P 32 = true := by kernel_rfl

theorem cut_pure {m : Int} {h : Heap} (n : Nat) (ht : TabsH (tb m) h) (s : List UInt8) (c : UInt8) (hs : s.length < 1000000) :
    Pure P 8 125 [str s, str [c]] h n (.tuple #[str (cutB c s).1, str (cutB c s).2.1, .bool (cutB c s).2.2]) := by
  refine pure_of_calls h_cut rfl rfl ht (tb_ok m) fun wd hw => ?_
  refine (Tryz.strings_Cut ⟨⟨s⟩⟩ ⟨#[c]⟩ m wd ?_ (tb_max hw)).mono fun e w' ⟨he, k, hw'⟩ => ?_
  · show s.length < _; omega
  · subst hw'
    refine ⟨?_, below_drewN (Below.refl _ _) k⟩
    rw [he]
    show Ending.returned (.tuple #[.string ⟨(Lib.cut s [c]).1.toArray⟩, .string ⟨(Lib.cut s [c]).2.1.toArray⟩, .bool (Lib.cut s [c]).2.2]) = _
    rw [cut_one]

theorem cutPrefix_pure {h : Heap} (n : Nat) (s p : List UInt8) :
    Pure P 8 155 [str s, str p] h n (.tuple #[str (Lib.trimPrefix s p), .bool (Lib.hasPrefix s p)]) := by
  refine pure_of_calls (tabs := []) h_cutPrefix rfl rfl (fun _ h => by cases h) (fun _ h => by cases h) fun wd hw => ?_
  refine (Tryz.strings_CutPrefix ⟨⟨s⟩⟩ ⟨⟨p⟩⟩ wd).mono fun e w' ⟨he, hw'⟩ => ?_
  subst hw'
  exact ⟨he, Below.refl _ _⟩

theorem split_rets {m : Int} {h : Heap} (n : Nat) (ht : TabsH (tb m) h) (s : List UInt8) (c : UInt8) (hs : s.length < 1000000) :
    Rets P 8 156 [str s, str [c]] h n fun v' h' n' => v' = .slice (some ⟨n, 0, none⟩) (splitL c s).length (splitL c s).length ∧ h' = h.set .dead (mkC ((splitL c s).map str) 0 0) n ∧ n' = n + 1 := by
  have hl : (splitL c s).length < 1000001 := by rw [splitL_length]; have := List.count_le_length (a := c) (l := s); omega
  refine row_of_calls h_split rfl ?_ (Nat.le_refl _) ?_ ht (tb_ok m) (el := 9) fun wd hw => ?_
  · simp [isScal]
  · unfold inf; omega
  · refine (Tryz.strings_Split ⟨⟨s⟩⟩ ⟨#[c]⟩ m wd ?_ (tb_max hw) (Nat.le_refl 1)).mono fun e w' ⟨he, hw'⟩ => ?_
    · show s.length < _; omega
    · have e1 : Lib.countB ⟨⟨s⟩⟩ ⟨#[c]⟩ + 1 = (splitL c s).length := by rw [count_one, splitL_length]
      have e2 : (Lib.splitB ⟨#[c]⟩ 0 (Lib.countB ⟨⟨s⟩⟩ ⟨#[c]⟩) ⟨⟨s⟩⟩).map Value.string = (splitL c s).map str := by
        have := split_one c ⟨⟨s⟩⟩
        rw [← this, List.map_map]
        apply List.map_congr_left
        intro x _
        rfl
      rw [e1] at he
      refine ⟨he, ?_⟩
      rw [hw', e2]

theorem join_pure {h : Heap} {n : Nat} {sv : Value} {el : Nat} (ls : List (List UInt8)) (sep : List UInt8) (r : Row n h sv el 1 ls.length (ls.map str)) (hn : ls.length < 1000000) (hl : (Lib.join ls sep).length < 1000000) :
    Pure P 8 29 [sv, str sep] h n (str (Lib.join ls sep)) := by
  refine pure_of_calls_row (tabs := []) h_join r (by simp [isScal]) rfl rfl (fun _ h => by cases h) (fun _ h => by cases h) fun wd sv' _ hsv => ?_
  rcases hsv with ⟨h0, a, c, rfl⟩ | ⟨bk, o, c, rfl, hc, hb, hcells⟩
  · have : ls = [] := List.length_eq_zero_iff.1 h0
    subst this
    refine (Tryz.strings_Join_none a c ⟨⟨sep⟩⟩ wd).mono fun e w' ⟨he, hw'⟩ => ?_
    subst hw'
    exact ⟨he, Below.refl _ _⟩
  · have e1 : (ls.map fun l => (⟨⟨l⟩⟩ : ByteArray)).length = ls.length := List.length_map ..
    have e2 : (ls.map fun l => (⟨⟨l⟩⟩ : ByteArray)).map (·.data.toList) = ls := by rw [List.map_map]; exact List.map_id' _
    have := Tryz.strings_Join bk o c (ls.map fun l => (⟨⟨l⟩⟩ : ByteArray)) ⟨⟨sep⟩⟩ wd (fun j x hj => hcells j (.string x) (by
      rw [List.getElem?_map] at hj ⊢
      cases e : ls[j]? with
      | none => rw [e] at hj; cases hj
      | some l => rw [e] at hj; injection hj with hj; subst hj; rfl)) hb (by rw [e1]; omega) (by rw [e1]; exact hc) (by rw [e2]; show (Lib.join ls sep).length ≤ _; omega)
    rw [e1, e2] at this
    exact this.mono fun _ _ ⟨he, hw'⟩ => ⟨he, hw'⟩

theorem itoa_pure {m : Int} {h : Heap} (n : Nat) (ht : TabsH (tb m) h) (a : Int) (h0 : -9223372036854775808 ≤ a) (h1 : a ≤ 9223372036854775807) :
    Pure P 8 30 [.int .i64 a] h n (str (Lib.itoa a)) := by
  refine pure_of_calls h_itoa rfl rfl ht (tb_ok m) fun wd hw => ?_
  refine (Tryz.strconv_Itoa a h0 h1 wd (tb_pow hw)).mono fun e w' ⟨he, k, os, hw'⟩ => ?_
  subst hw'
  exact ⟨he, Lib.below_grow _ _ (Nat.le_refl _) k os⟩

theorem h_atoi : hasB P 151 = true := by kernel_rfl
theorem atoi_pure {h : Heap} (n : Nat) (s : List UInt8) (v : Int) (hs : s.length ≤ 18) (hv : Lib.atoi s = some v) :
    Pure P 8 151 [str s] h n (.tuple #[.int .i64 v, .nilIface]) := by
  refine pure_of_calls (tabs := []) h_atoi rfl rfl (fun _ h => by cases h) (fun _ h => by cases h) fun wd hw => ?_
  refine (Tryz.strconv_Atoi ⟨⟨s⟩⟩ v hs hv wd).mono fun e w' ⟨he, t, hw'⟩ => ?_
  subst hw'
  exact ⟨he, Lib.bytesWorld_below _ _ _⟩

theorem check_fresh {b n : Nat} {h : Heap} {sv : Value} (hB : Bld 90 h b (.pointer none) sv) :
    Rets P 8 70 [.pointer (some ⟨b, 0, none⟩)] h n fun v h' n' => v = .tuple #[] ∧ h' = h.set .dead (stC (hget h b) 0 [.pointer (some ⟨b, 0, none⟩)]) b ∧ n' = n :=
  copyCheck_fresh h_check hB fun wd c h1 h2 h3 => Any.Builder_copyCheck_fresh { Tryz.lays156 with } { Tryz.Builder_Extra_156 with } c wd h1 h2 h3
theorem check_used {b n : Nat} {h : Heap} {sv : Value} (hB : Bld 90 h b (.pointer (some ⟨b, 0, none⟩)) sv) :
    Rets P 8 70 [.pointer (some ⟨b, 0, none⟩)] h n fun v h' n' => v = .tuple #[] ∧ h' = h ∧ n' = n :=
  copyCheck_used h_check hB fun wd c h1 => Any.Builder_copyCheck_used { Tryz.lays156 with } { Tryz.Builder_Extra_156 with } c wd h1
theorem string_rets {b lo n : Nat} {h : Heap} {p sv : Value} {l : List UInt8} (hB : Bld 90 h b p sv) (ho : Own lo n h sv 5 1 l.length (bytesV l)) (hne : blkOf sv ≠ some b) (hlen : l.length < 1000000) :
    Rets P 8 32 [.pointer (some ⟨b, 0, none⟩)] h n fun v h' n' => v = str l ∧ n' = n ∧ (∀ b', blkOf sv ≠ some b' → hget h' b' = hget h b') :=
  builder_String h_string hB ho hne hlen
    (fun wd c x hx => (Any.Builder_String_nil Tryz.lays169 Tryz.Builder_Extra_169 wd.heap.size c x wd hx).mono fun _ _ ⟨he, hb⟩ => ⟨he, hb⟩)
    (fun wd c g cap x cur h0 h1 h2 h3 h4 h5 => (string_model Tryz.lays169 Tryz.Builder_Extra_169 c g cap x cur l wd h0 hlen h1 h2 h3 h4 h5).mono fun _ _ ⟨he, hb⟩ => ⟨he, hb⟩)
end Go.Proofs.YtapnnpoljobanabGreatDoor
