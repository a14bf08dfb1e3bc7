/- An executor of the model that the kernel can run, and that what it tells is so (part 4 of 4). Conditions: those that each theorem states. -/
import Derived.Test.YtapnnpoljobanabGreatDoorEx3
import Derived.Lib.IndexMore
import Derived.Lib.Split
import Derived.Lib.CountLaws
import Derived.Shelf.Strings.Builder1

/- Deduction over the second executor: strings, structs, loops over rows. Conditions: those that each theorem states. -/
namespace Go.Ex

/-- A text. -/
abbrev str (l : List UInt8) : Value := .string ⟨⟨l⟩⟩

section
variable {P : Program} {ng : Nat}

theorem concat_ok {ty : TypeId} {q : Bool} {a b : List UInt8} {K : Value → Bool} (h : a.length + b.length < 1000000) (hK : K (str (a ++ b)) = true) : yArith iadd P .add ty q (str a) (str b) K = true := by
  show opt (cond (Nat.blt (Nat.add a.length b.length) 1000000) (some (Value.string ⟨⟨a ++ b⟩⟩)) none) K = true
  rw [blt_of (show Nat.add a.length b.length < 1000000 from h)]
  exact hK

theorem slice_str {ty : TypeId} (hu : und P ty = some .string) {h : Heap} {l : List UInt8} {k k' : IntKind} {i j : Nat} (hj : j ≤ l.length) (hi : i ≤ j) :
    aSlice P h ty (str l) (some (.int k (i : Nat))) (some (.int k' (j : Nat))) none = some (str ((l.drop i).take (j - i))) := by
  have b1 : aBound l.length l.length (some (.int k' (j : Nat))) = some j := by
    show (cond (Nat.ble j l.length) (some j) none : Option Nat) = some j
    rw [ble_of hj]; rfl
  have b2 : aBound 0 j (some (.int k (i : Nat))) = some i := by
    show (cond (Nat.ble i j) (some i) none : Option Nat) = some i
    rw [ble_of hi]; rfl
  unfold aSlice
  rw [hu]
  show (match aBound l.length l.length (some (Value.int k' (j : Nat))) with
        | none => none
        | some h => match aBound 0 h (some (Value.int k (i : Nat))) with
          | none => none
          | some l' => some (Value.string ⟨⟨(l.drop l').take (Nat.sub h l')⟩⟩) : Option Value) = _
  rw [b1]; dsimp only; rw [b2]; rfl

theorem slice_str_from {ty : TypeId} (hu : und P ty = some .string) {h : Heap} {l : List UInt8} {k : IntKind} {i : Nat} (hi : i ≤ l.length) :
    aSlice P h ty (str l) (some (.int k (i : Nat))) none none = some (str (l.drop i)) := by
  have b2 : aBound 0 l.length (some (.int k (i : Nat))) = some i := by
    show (cond (Nat.ble i l.length) (some i) none : Option Nat) = some i
    rw [ble_of hi]; rfl
  unfold aSlice
  rw [hu]
  show (match aBound 0 l.length (some (Value.int k (i : Nat))) with
          | none => none
          | some l' => some (Value.string ⟨⟨(l.drop l').take (Nat.sub l.length l')⟩⟩) : Option Value) = _
  rw [b2]
  show some (Value.string ⟨⟨(l.drop i).take (l.length - i)⟩⟩) = _
  rw [List.take_of_length_le (by rw [List.length_drop]; omega)]

theorem slice_str_to {ty : TypeId} (hu : und P ty = some .string) {h : Heap} {l : List UInt8} {k : IntKind} {j : Nat} (hj : j ≤ l.length) :
    aSlice P h ty (str l) none (some (.int k (j : Nat))) none = some (str (l.take j)) := by
  have b1 : aBound l.length l.length (some (.int k (j : Nat))) = some j := by
    show (cond (Nat.ble j l.length) (some j) none : Option Nat) = some j
    rw [ble_of hj]; rfl
  unfold aSlice
  rw [hu]
  show (match aBound l.length l.length (some (Value.int k (j : Nat))) with
        | none => none
        | some h => some (Value.string ⟨⟨(l.drop 0).take (Nat.sub h 0)⟩⟩) : Option Value) = _
  rw [b1]; rfl

theorem len_strL {ty : TypeId} (hu : und P ty = some .string) (l : List UInt8) (r : List Value) (h : Heap) : quietB P .len [ty] (str l :: r) h = some (.int .i64 (l.length : Nat)) := len_str hu _ r h
theorem index_strL {ty : TypeId} (hu : und P ty = some .string) (l : List UInt8) (k : IntKind) (i : Nat) (b : UInt8) (hb : l[i]? = some b) : aIndex P ty (str l) (.int k (i : Nat)) = some (.int .u8 (b.toNat : Nat)) := index_str hu _ k i b hb
theorem cmpSL_eq (f : Int → Int → Bool) (ty : TypeId) (q : Bool) (a b : List UInt8) (K : Bool → Bool) : yCmpB f P .eql ty q (str a) (str b) K = K (a == b) := cmpS_eq f P ty q _ _ K
theorem cmpSL_ne (f : Int → Int → Bool) (ty : TypeId) (q : Bool) (a b : List UInt8) (K : Bool → Bool) : yCmpB f P .neq ty q (str a) (str b) K = K (!(a == b)) := cmpS_ne f P ty q _ _ K
theorem len_row {ty e : TypeId} (hu : und P ty = some (.slice e)) {n : Nat} {h : Heap} {v : Value} {el sz len : Nat} {vs : List Value} (r : Row n h v el sz len vs) (l : List Value) (h' : Heap) : quietB P .len [ty] (v :: l) h' = some (.int .i64 (len : Nat)) := by
  rcases r with ⟨rfl, rfl, rfl⟩ | ⟨b, off, cap, m, z, kd, hb, rfl, _⟩
  · exact len_sl hu _ _ _ _ _
  · exact len_sl hu _ _ _ _ _

/-- An element of a row, by its address; then loaded. -/
theorem index_load {ty tl : TypeId} {n : Nat} {h : Heap} {v : Value} {el len : Nat} {vs : List Value} (r : Row n h v el 1 len vs) (hx : ixOf P ty = .slice 1) (hs : shapeOf P tl = .scal) {k : IntKind} {i : Nat} {x : Value} (hi : vs[i]? = some x) :
    ∃ p, qIndexAddr P ty v (.int k (i : Nat)) = some p ∧ qLoad P tl h p = some x := by
  rcases r with ⟨rfl, rfl, rfl⟩ | ⟨b, off, cap, m, z, kd, hb, rfl, hl, hi2, hm, hr, hc⟩
  · simp at hi
  · have hlt : i < len := by
      have := (List.getElem?_eq_some_iff.1 hi).1; omega
    refine ⟨_, index_sl hx hlt, load_scal hs ?_⟩
    rw [Nat.mul_one]; exact hr i x hi

/-- Of structs. -/
theorem index_load_agg {ty tl : TypeId} {n : Nat} {h : Heap} {v : Value} {el sz len : Nat} {vs : List Value} (r : Row n h v el sz len vs) (hx : ixOf P ty = .slice sz) (hs : shapeOf P tl = .agg sz) (hsz : 0 < sz) {k : IntKind} {i : Nat} (hi : i < len) :
    ∃ p, qIndexAddr P ty v (.int k (i : Nat)) = some p ∧ qLoad P tl h p = some (.agg ⟨(vs.drop (i * sz)).take sz⟩) := by
  obtain ⟨b, off, cap, rfl, hb, hr, hl⟩ := r.elem hi
  exact ⟨_, index_sl hx hi, load_agg hs hl hsz hr⟩

theorem opt_of {α : Type} {q : Option α} {x : α} {K : α → Bool} (h : q = some x) (hK : K x = true) : opt q K = true := by rw [h]; exact hK
theorem rtI_of {k : IntKind} {v : Value} {a : Int} {K : Int → Bool} (h : v = .int k a) (hK : K a = true) : rtI k v K = true := by rw [h, rtI_ap]; exact hK
theorem rtB_of {v : Value} {b : Bool} {K : Bool → Bool} (h : v = .bool b) (hK : K b = true) : rtB v K = true := by rw [h]; exact hK

end
end Go.Ex

/- Deduction over the second executor: contracts of the model's own that look at a row. Conditions: those that each theorem states. -/
namespace Go.Ex

section
variable {P : Program} {ng : Nat}

/-- What the model holds of a row of scalars. -/
theorem Row.world {n : Nat} {h : Heap} {v v' : Value} {el len : Nat} {vs : List Value} {ρ : Inj} {base : Nat} {w0 wd : World} (r : Row n h v el 1 len vs) (hs : vs.all isScal = true) (hH : HeapR P ng ρ base w0 h n wd) (hv : RV ρ v v') :
    (len = 0 ∧ ∃ a c, v' = .slice a 0 c) ∨ (∃ bk o c, v' = .slice (some ⟨bk, o, none⟩) len c ∧ len ≤ c ∧ bk < wd.heap.size ∧ ∀ (j : Nat) x, vs[j]? = some x → wd.cell? ⟨bk, o + j, none⟩ = some x) := by
  rcases r with ⟨rfl, rfl, rfl⟩ | ⟨b, off, cap, m, z, kd, hb, rfl, hl, hi, hm, hr, hc⟩
  · cases hv; exact .inl ⟨rfl, _, _, rfl⟩
  · rw [Nat.mul_one] at hl
    have hlive : hget h b ≠ .dead := fun e => by rw [e] at hi; cases hi
    have main : ∀ (B : Bl), ρ b = some B → B.b < wd.heap.size ∧ ∀ (j : Nat) x, vs[j]? = some x → wd.cell? ⟨B.b, off + j, none⟩ = some x := by
      intro B eB
      obtain ⟨o, q1, q2⟩ := hH.obj b B eB hlive
      have hsz : B.b < wd.heap.size := by
        rcases Nat.lt_or_ge B.b wd.heap.size with h1 | h1
        · exact h1
        · rw [Array.getElem?_eq_none h1] at q1; cases q1
      refine ⟨hsz, fun j x hj => ?_⟩
      have hcell := hr j x hj
      unfold cellAt at hcell
      cases ho : hget h b <;> rw [ho] at hcell <;> first | (cases hcell; done) | skip
      rename_i c kn z' kd'
      unfold cellOf at hcell
      dsimp only at hcell
      rw [ho] at q2
      cases q2 with
      | cells hn hs' hk hz hv' hb' hf =>
        rename_i c' el lo hi'
        by_cases hlt : off + j < kn
        · rw [if_pos hlt] at hcell
          injection hcell with hcell
          have h2 : off + j < c'.size := by omega
          have rr := hv' (off + j) c'[off + j] hlt (Array.getElem?_eq_getElem h2)
          rw [hcell] at rr
          have e3 := scal_one (List.all_eq_true.1 hs x (List.mem_iff_getElem?.2 ⟨j, hj⟩)) rr
          unfold World.cell?
          dsimp only
          rw [q1]
          show c'[off + j]? = some x
          rw [Array.getElem?_eq_getElem h2, e3]
        · rw [if_neg hlt] at hcell; cases hcell
    cases hv with
    | slice e hc' hlc ho =>
      rename_i B o'
      obtain ⟨m1, m2⟩ := main B e
      rcases ho with rfl | h0
      · exact .inr ⟨B.b, o', cap, rfl, hlc, m1, m2⟩
      · exact .inl ⟨by omega, _, _, by rw [show len = 0 by omega]⟩
    | opened e hlc ho =>
      rename_i B o' c'
      obtain ⟨m1, m2⟩ := main B e
      rcases ho with ⟨rfl, _⟩ | ⟨h0, _⟩
      · exact .inr ⟨B.b, o', c', rfl, hlc, m1, m2⟩
      · exact .inl ⟨by omega, _, _, by rw [show len = 0 by omega]⟩

/-- A contract of the model's own, of a row of scalars and of scalars: nothing that was there turns. -/
theorem pure_of_calls_row {f : FuncId} {sv : Value} {args : List Value} {h : Heap} {n el len : Nat} {vs : List Value} {v : Value} {tabs : List (Nat × List Value)} (hf : hasB P f = true) (r : Row n h sv el 1 len vs) (hvs : vs.all isScal = true) (ha : args.all isScal = true) (hv : isRes v = true)
    (ht : TabsH tabs h) (hg : ∀ p ∈ tabs, p.1 < ng ∧ p.2.all isScal = true)
    (H : ∀ (wd : World) (sv' : Value), TabsIn wd tabs → ((len = 0 ∧ ∃ a c, sv' = .slice a 0 c) ∨ (∃ bk o c, sv' = .slice (some ⟨bk, o, none⟩) len c ∧ len ≤ c ∧ bk < wd.heap.size ∧ ∀ (j : Nat) x, vs[j]? = some x → wd.cell? ⟨bk, o + j, none⟩ = some x)) →
      Calls P f ⟨sv' :: args⟩ wd fun e w' => e = .returned v ∧ Go.RowKit.Below wd.heap.size wd w') : Pure P ng f (sv :: args) h n v := by
  intro u k hk
  refine loS_call.2 ⟨.ret v, u, h, n, hk _ _ _ ⟨rfl, rfl, rfl⟩, hasB_of hf, fun ρ base w0 wd args' cs hH hra hu => ?_⟩
  obtain ⟨sv', r', rfl, hsv, hr'⟩ := hra.of_cons
  obtain rfl := scals_same ha hr'
  obtain ⟨e, w', fr, ⟨rfl, hb⟩, hc, hfn, hl⟩ := H wd sv' (ht.world hg hH) (r.world hvs hH hsv) cs
  obtain ⟨k1, k2⟩ := hH.stay hb
  obtain ⟨y1, y2, y3, y4⟩ := hl
  exact ⟨ρ, w', fr, cs, hc, k1, k2, CsTo.refl _ _, (fun e => Bool.noConfusion e), hfn, v, y1, y2, y3, y4, RV.res_refl hv⟩

end
end Go.Ex

/- Deduction over the second executor: strings.Builder. Conditions: those that each theorem states. -/
namespace Go.Ex

/-- A variable of a struct of two cells, of a type, in a block of its own. -/
def Bld (T : Nat) (h : Heap) (b : Nat) (p sv : Value) : Prop := infoOf (hget h b) = some (2, T + 1, 0) ∧ cellAt h b 0 = some p ∧ cellAt h b 1 = some sv

/-- One block may have turned, and no other one. -/
structure OneTurned (w w' : World) (g : Nat) : Prop where
  os : w'.os = w.os
  tape : w'.tape = w.tape
  output : w'.output = w.output
  size : w'.heap.size = w.heap.size
  rest : ∀ c, c ≠ g → w'.heap[c]? = w.heap[c]?

section
variable {P : Program} {ng : Nat}

/-- Such a block, in the model. -/
theorem Bld.world {T : Nat} {h : Heap} {b n : Nat} {p sv : Value} {ρ : Inj} {base : Nat} {w0 wd : World} {B : Bl} (hB : Bld T h b p sv) (hH : HeapR P ng ρ base w0 h n wd) (e : ρ b = some B) :
    ∃ x y c, hget h b = .cells c 2 (T + 1) 0 ∧ Tr.get undef c 0 = p ∧ Tr.get undef c 1 = sv ∧ wd.heap[B.b]? = some (.cells #[x, y] T (0, 0)) ∧ RV ρ p x ∧ RV ρ sv y ∧ base ≤ B.b ∧ B.n = 2 := by
  obtain ⟨h1, h2, h3⟩ := hB
  have hlive : hget h b ≠ .dead := fun e => by rw [e] at h1; cases h1
  obtain ⟨o, q1, q2⟩ := hH.obj b B e hlive
  unfold cellAt at h2 h3
  cases ho : hget h b <;> rw [ho] at h1 <;> first | (cases h1; done) | skip
  rename_i c kn z kd
  have h1' : some (kn, z, kd) = some (2, T + 1, 0) := h1
  simp only [Option.some.injEq, Prod.mk.injEq] at h1'
  obtain ⟨rfl, rfl, rfl⟩ := h1'
  rw [ho] at q2 h2 h3
  have g0 : Tr.get undef c 0 = p := by have : some (Tr.get undef c 0) = some p := h2; injection this
  have g1 : Tr.get undef c 1 = sv := by have : some (Tr.get undef c 1) = some sv := h3; injection this
  cases q2 with
  | cells hn hs hk hz hv hb hf =>
    rename_i c' el lo hi
    obtain ⟨rfl, rfl⟩ := hf (by decide)
    have hel : T + 1 = el + 1 := hz.2 rfl (by omega)
    obtain rfl : T = el := by omega
    have hn2 := hk (by decide)
    have hsz : c'.size = 2 := by omega
    have e0 : c'[0]? = some (c'[0]'(by omega)) := Array.getElem?_eq_getElem (by omega)
    have e1 : c'[1]? = some (c'[1]'(by omega)) := Array.getElem?_eq_getElem (by omega)
    have r0 := hv 0 _ (by omega) e0
    have r1 := hv 1 _ (by omega) e1
    rw [g0] at r0
    rw [g1] at r1
    refine ⟨_, _, c, rfl, g0, g1, ?_, r0, r1, hb (by decide), hn2.symm⟩
    rw [q1]
    congr 2
    apply Array.ext
    · simp [hsz]
    · intro i i1 i2
      have : i = 0 ∨ i = 1 := by omega
      rcases this with rfl | rfl <;> rfl

/-- copyCheck of a fresh builder: it keeps its own address. -/
theorem copyCheck_fresh {f : FuncId} {T b n : Nat} {h : Heap} {sv : Value} (hf : hasB P f = true) (hB : Bld T h b (.pointer none) sv)
    (H : ∀ (wd : World) (c : Nat), wd.cell? ⟨c, 0, none⟩ = some (.pointer none) → wd.shape? c = some (T, 2) → wd.frozen? ⟨c, 0, none⟩ = false →
      Calls P f #[.pointer (some ⟨c, 0, none⟩)] wd fun e w' => e = .returned (.tuple #[]) ∧ w' = wd.setCell ⟨c, 0, none⟩ (.pointer (some ⟨c, 0, none⟩))) :
    Rets P ng f [.pointer (some ⟨b, 0, none⟩)] h n fun v h' n' => v = .tuple #[] ∧ h' = h.set .dead (stC (hget h b) 0 [.pointer (some ⟨b, 0, none⟩)]) b ∧ n' = n := by
  intro u k hk
  refine loS_call.2 ⟨_, u, _, _, hk _ _ _ ⟨rfl, rfl, rfl⟩, hasB_of hf, fun ρ base w0 wd args' cs hH hra hu => ?_⟩
  obtain ⟨v', r', rfl, hv, hr'⟩ := hra.of_cons
  obtain rfl := hr'.of_nil
  cases hv with
  | ptr e =>
    rename_i B
    obtain ⟨x, y, c, ho, g0, g1, q1, rx, ry, hbase, hBn⟩ := hB.world hH e
    cases rx
    have hc0 : wd.cell? ⟨B.b, 0, none⟩ = some (.pointer none) := by unfold World.cell?; dsimp only; rw [q1]; rfl
    have hsh : wd.shape? B.b = some (T, 2) := by unfold World.shape?; rw [q1]; rfl
    have hfz : wd.frozen? ⟨B.b, 0, none⟩ = false := by unfold World.frozen?; dsimp only; rw [q1]; rfl
    obtain ⟨e2, w', fr, ⟨rfl, rfl⟩, hcm, hfn, hl⟩ := H wd B.b hc0 hsh hfz cs
    obtain ⟨y1, y2, y3, y4⟩ := hl
    have hheap : (wd.setCell ⟨B.b, 0, none⟩ (.pointer (some ⟨B.b, 0, none⟩))).heap[B.b]? = some (.cells #[.pointer (some ⟨B.b, 0, none⟩), y] T (0, 0)) := by
      unfold World.setCell
      dsimp only
      rw [Array.getElem?_modify, if_pos rfl, q1]
      rfl
    obtain ⟨k1, k2⟩ := hH.turn e (by rw [ho]; exact AObj.noConfusion) (stC (hget h b) 0 [.pointer (some ⟨b, 0, none⟩)]) (.cells #[.pointer (some ⟨B.b, 0, none⟩), y] T (0, 0)) (wd.setCell ⟨B.b, 0, none⟩ (.pointer (some ⟨B.b, 0, none⟩))) hbase (by
        rw [ho]
        refine .cells (by omega) (by simp [hBn]) (fun _ => hBn.symm) ⟨fun h => absurd h (by decide), fun _ _ => rfl⟩ (fun i v' hi e3 => ?_) (fun _ => hbase) (fun _ => ⟨rfl, rfl⟩)
        rw [Tr.get_ofListFrom]
        have hi2 : i = 0 ∨ i = 1 := by omega
        rcases hi2 with rfl | rfl
        · rw [if_pos (by simp)]
          have e4 : some (Value.pointer (some ⟨B.b, 0, none⟩)) = some v' := e3
          injection e4 with e4; subst e4
          exact .ptr e
        · rw [if_neg (by simp), g1]
          have e4 : some y = some v' := e3
          injection e4 with e4; subst e4
          exact ry) hheap (by simp [World.setCell]) (fun c hc => by
        unfold World.setCell
        dsimp only
        rw [Array.getElem?_modify, if_neg (fun h => hc h.symm)]) rfl rfl rfl
    exact ⟨ρ, _, fr, cs, hcm, k1, k2, CsTo.refl _ _, (fun e => Bool.noConfusion e), hfn, _, y1, y2, y3, y4, RV.res_refl rfl⟩

/-- copyCheck of a builder that has been used. -/
theorem copyCheck_used {f : FuncId} {T b n : Nat} {h : Heap} {sv : Value} (hf : hasB P f = true) (hB : Bld T h b (.pointer (some ⟨b, 0, none⟩)) sv)
    (H : ∀ (wd : World) (c : Nat), wd.cell? ⟨c, 0, none⟩ = some (.pointer (some ⟨c, 0, none⟩)) → Calls P f #[.pointer (some ⟨c, 0, none⟩)] wd fun e w' => e = .returned (.tuple #[]) ∧ w' = wd) :
    Rets P ng f [.pointer (some ⟨b, 0, none⟩)] h n fun v h' n' => v = .tuple #[] ∧ h' = h ∧ n' = n := by
  intro u k hk
  refine loS_call.2 ⟨_, u, _, _, hk _ _ _ ⟨rfl, rfl, rfl⟩, hasB_of hf, fun ρ base w0 wd args' cs hH hra hu => ?_⟩
  obtain ⟨v', r', rfl, hv, hr'⟩ := hra.of_cons
  obtain rfl := hr'.of_nil
  cases hv with
  | ptr e =>
    rename_i B
    obtain ⟨x, y, c, ho, g0, g1, q1, rx, ry, hbase, hBn⟩ := hB.world hH e
    cases rx with
    | ptr e' =>
      rename_i B'
      rw [e] at e'
      injection e' with e'
      subst e'
      have hc0 : wd.cell? ⟨B.b, 0, none⟩ = some (.pointer (some ⟨B.b, 0, none⟩)) := by unfold World.cell?; dsimp only; rw [q1]; rfl
      obtain ⟨e2, w', fr, ⟨rfl, rfl⟩, hcm, hfn, hl⟩ := H wd B.b hc0 cs
      obtain ⟨y1, y2, y3, y4⟩ := hl
      exact ⟨ρ, _, fr, cs, hcm, hH, Grow.refl _ _ _ _ hH.dom, CsTo.refl _ _, (fun e => Bool.noConfusion e), hfn, _, y1, y2, y3, y4, RV.res_refl rfl⟩

/-- The bytes of a text, as cells. -/
abbrev bytesV (l : List UInt8) : List Value := l.map fun b => Value.int .u8 (b.toNat : Nat)

/-- A builder's text: its buffer is used up. -/
theorem builder_String {f : FuncId} {T e8 b lo n : Nat} {h : Heap} {p sv : Value} {l : List UInt8} (hf : hasB P f = true) (hB : Bld T h b p sv) (ho : Own lo n h sv e8 1 l.length (bytesV l)) (hne : blkOf sv ≠ some b) (hlen : l.length < 1000000)
    (H0 : ∀ (wd : World) (c : Nat) (x : Value), wd.heap[c]? = some (.cells #[x, .slice none 0 0] T (0, 0)) → Calls P f #[.pointer (some ⟨c, 0, none⟩)] wd fun e w' => e = .returned (.string ⟨#[]⟩) ∧ Go.RowKit.Below wd.heap.size wd w')
    (H : ∀ (wd : World) (c g cap : Nat) (x : Value) (cur : Array Value), l ≠ [] → wd.heap[c]? = some (.cells #[x, .slice (some ⟨g, 0, none⟩) l.length cap] T (0, 0)) → wd.heap[g]? = some (.cells cur e8 (0, 0)) → l.length ≤ cap → cap ≤ cur.size →
      (∀ (j : Nat) (y : UInt8), l[j]? = some y → cur[j]? = some (.int .u8 (y.toNat : Nat))) → Calls P f #[.pointer (some ⟨c, 0, none⟩)] wd fun e w' => e = .returned (.string ⟨⟨l⟩⟩) ∧ OneTurned wd w' g) :
    Rets P ng f [.pointer (some ⟨b, 0, none⟩)] h n fun v h' n' => v = str l ∧ n' = n ∧ (∀ b', blkOf sv ≠ some b' → hget h' b' = hget h b') := by
  intro u k hk
  rcases ho with ⟨rfl, h0, h1⟩ | ⟨b2, q1, q2, rfl, q3, q4, q5, q6⟩
  · have hl0 : l = [] := List.length_eq_zero_iff.1 h0
    subst hl0
    refine loS_call.2 ⟨_, u, _, _, hk _ _ _ ⟨rfl, rfl, fun _ _ => rfl⟩, hasB_of hf, fun ρ base w0 wd args' cs hH hra hu => ?_⟩
    obtain ⟨v', r', rfl, hv, hr'⟩ := hra.of_cons
    obtain rfl := hr'.of_nil
    cases hv with
    | ptr e =>
      rename_i B
      obtain ⟨x, y, c, ho, g0, g1, w1, rx, ry, hbase, hBn⟩ := hB.world hH e
      cases ry
      obtain ⟨e2, w', fr, ⟨rfl, hbl⟩, hcm, hfn, hl⟩ := H0 wd B.b x w1 cs
      obtain ⟨y1, y2, y3, y4⟩ := hl
      obtain ⟨k1, k2⟩ := hH.stay hbl
      exact ⟨ρ, _, fr, cs, hcm, k1, k2, CsTo.refl _ _, (fun e => Bool.noConfusion e), hfn, _, y1, y2, y3, y4, RV.res_refl rfl⟩
  · refine loS_call.2 ⟨.ret (str l), u, h.set .dead .dead b2, n, hk _ _ _ ⟨rfl, rfl, fun b' hb' => ?_⟩, hasB_of hf, fun ρ base w0 wd args' cs hH hra hu => ?_⟩
    · rw [hget_set, if_neg (fun e => hb' (by rw [e]; rfl))]
    · obtain ⟨v', r', rfl, hv, hr'⟩ := hra.of_cons
      obtain rfl := hr'.of_nil
      cases hv with
      | ptr e =>
        rename_i B
        obtain ⟨x, y, c, ho, g0, g1, w1, rx, ry, hbase, hBn⟩ := hB.world hH e
        have hlive : hget h b2 ≠ .dead := fun e => by rw [e] at q3; cases q3
        cases ry with
        | slice _ hc => exact absurd rfl hc
        | opened eg hl' hog =>
          rename_i G o' c'
          obtain ⟨o, z1, z2⟩ := hH.obj b2 G eg hlive
          unfold cellAt at q6
          cases hob : hget h b2 <;> rw [hob] at q3 <;> first | (cases q3; done) | skip
          rename_i cc kn z kd
          have h1' : some (kn, z, kd) = some ((bytesV l).length, zc e8 1, 1) := q3
          simp only [Option.some.injEq, Prod.mk.injEq] at h1'
          obtain ⟨rfl, rfl, rfl⟩ := h1'
          rw [hob] at z2 q6
          cases z2 with
          | cells hn hs hk' hz hv hb hf' =>
            rename_i cur el lo' hi'
            obtain ⟨rfl, rfl⟩ := hf' (by decide)
            obtain ⟨hel, hGz⟩ := zc_inj (hz.1 rfl)
            subst hel
            have hc' : o' = 0 ∧ 0 + c' * G.z = G.n := by
              rcases hog with h9 | ⟨_, h9⟩
              · exact h9
              · exact absurd h9 (Nat.lt_irrefl _)
            obtain ⟨rfl, hcn⟩ := hc'
            rw [← hGz] at hcn
            have hcur : ∀ (j : Nat) (y : UInt8), l[j]? = some y → cur[j]? = some (.int .u8 (y.toNat : Nat)) := by
              intro j y hj
              have hjl : j < l.length := (List.getElem?_eq_some_iff.1 hj).1
              have hjk : j < (bytesV l).length := by simpa using hjl
              have r2 := q6 j
              unfold cellOf at r2
              dsimp only at r2
              rw [if_pos hjk] at r2
              have e5 : (bytesV l)[j]? = some (.int .u8 (y.toNat : Nat)) := by rw [List.getElem?_map, hj]; rfl
              rw [e5] at r2
              injection r2 with r2
              have hjc : j < cur.size := by omega
              have r1 := hv j cur[j] hjk (Array.getElem?_eq_getElem hjc)
              rw [r2] at r1
              rw [Array.getElem?_eq_getElem hjc, scal_one rfl r1]
            obtain ⟨e2, w', fr, ⟨rfl, ht⟩, hcm, hfn, hl⟩ := H wd B.b G.b c' x cur (fun e9 => by rw [e9] at q5; exact absurd q5 (Nat.lt_irrefl _)) w1 z1 hl' (by omega) hcur cs
            obtain ⟨y1, y2, y3, y4⟩ := hl
            obtain ⟨k1, k2⟩ := hH.kill b2
            have hGbase : base ≤ G.b := hb (by decide)
            have hother : ∀ a A, ρ a = some A → hget (h.set .dead .dead b2) a ≠ .dead → A.b ≠ G.b := by
              intro a A ea hla heq
              rw [hget_set] at hla
              by_cases hab : b2 = a
              · rw [if_pos hab] at hla; exact hla rfl
              · rw [if_neg hab] at hla
                exact hab (hH.inj b2 a G A eg ea hlive hla heq.symm)
            refine ⟨ρ, w', fr, cs, hcm, ⟨k1.dom, fun a A ea hla => ?_, k1.inj, ?_, by rw [ht.size]; exact k1.size, k1.glob, k1.ngn⟩, ⟨k2.nn, k2.old, k2.new, fun cx hcx hk9 => ?_, by rw [ht.size]; exact Nat.le_refl _, k2.dead, ht.tape⟩, CsTo.refl _ _, (fun e => Bool.noConfusion e), hfn, _, y1, y2, y3, y4, RV.res_refl rfl⟩
            · obtain ⟨o1, p1, p2⟩ := k1.obj a A ea hla
              exact ⟨o1, by rw [ht.rest _ (hother a A ea hla)]; exact p1, p2⟩
            · exact k1.below.trans ⟨ht.os, ht.tape, ht.output, by rw [ht.size]; exact Nat.le_refl _, fun kx hkx => ht.rest kx (by omega)⟩
            · exact ht.rest cx (fun h9 => hk9 b2 G eg hlive h9.symm)

end
end Go.Ex

/- Texts cut at one byte, in plain lists. Conditions: none. -/
namespace Go.Ex
open Go

/-- A text, cut at the first such byte. -/
def cutB (c : UInt8) : List UInt8 → List UInt8 × List UInt8 × Bool
  | [] => ([], [], false)
  | x :: r => if x = c then ([], r, true) else (x :: (cutB c r).1, (cutB c r).2.1, (cutB c r).2.2)

/-- A text's parts, between such bytes. -/
def splitL (c : UInt8) : List UInt8 → List (List UInt8)
  | [] => [[]]
  | x :: r => if x = c then [] :: splitL c r else match splitL c r with
    | [] => [[x]]
    | h :: t => (x :: h) :: t

theorem splitL_ne (c : UInt8) : ∀ s, splitL c s ≠ [] := by
  intro s
  induction s with
  | nil => simp [splitL]
  | cons x r ih =>
    unfold splitL
    split
    · simp
    · split <;> simp

theorem cutB_idx (c : UInt8) : ∀ s : List UInt8, (Lib.index s [c] = -1 ∧ cutB c s = (s, [], false) ∧ c ∉ s) ∨ (∃ i : Nat, Lib.index s [c] = i ∧ cutB c s = (s.take i, s.drop (i + 1), true) ∧ i < s.length ∧ s = s.take i ++ c :: s.drop (i + 1) ∧ c ∉ s.take i) := by
  intro s
  induction s with
  | nil => exact .inl ⟨rfl, rfl, by simp⟩
  | cons x r ih =>
    by_cases h : x = c
    · subst h
      refine .inr ⟨0, ?_, ?_, by simp, by simp, by simp⟩
      · unfold Lib.index; simp
      · unfold cutB; simp
    · have hp : ([c].isPrefixOf (x :: r)) = false := by simp [List.isPrefixOf]; exact fun e => h e.symm
      rcases ih with ⟨h1, h2, h3⟩ | ⟨i, h1, h2, h3, h4, h5⟩
      · refine .inl ⟨?_, ?_, ?_⟩
        · unfold Lib.index; rw [hp, h1]; rfl
        · unfold cutB; rw [if_neg h, h2]
        · intro hm
          rcases List.mem_cons.1 hm with e | e
          · exact h e.symm
          · exact h3 e
      · refine .inr ⟨i + 1, ?_, ?_, by simp; exact h3, ?_, ?_⟩
        · unfold Lib.index; rw [hp, h1]
          have : ((i : Int) == -1) = false := by simp
          rw [this]; simp
        · unfold cutB; rw [if_neg h, h2]; simp
        · simp only [List.take_succ_cons, List.drop_succ_cons, List.cons_append]
          rw [← h4]
        · simp only [List.take_succ_cons, List.mem_cons, not_or]
          exact ⟨fun e => h e.symm, h5⟩

theorem cut_one (c : UInt8) (s : List UInt8) : Lib.cut s [c] = cutB c s := by
  unfold Lib.cut
  rcases cutB_idx c s with ⟨h1, h2, _⟩ | ⟨i, h1, h2, h3, _⟩
  · rw [h1, h2]; rfl
  · rw [h1, h2, if_pos (by omega)]; simp

theorem splitL_cut (c : UInt8) : ∀ s : List UInt8, splitL c s = if (cutB c s).2.2 then (cutB c s).1 :: splitL c (cutB c s).2.1 else [s] := by
  intro s
  induction s with
  | nil => rfl
  | cons x r ih =>
    have e1 : splitL c (x :: r) = if x = c then [] :: splitL c r else match splitL c r with
      | [] => [[x]]
      | h :: t => (x :: h) :: t := rfl
    have e2 : cutB c (x :: r) = if x = c then ([], r, true) else (x :: (cutB c r).1, (cutB c r).2.1, (cutB c r).2.2) := rfl
    rw [e1, e2]
    by_cases h : x = c
    · rw [if_pos h, if_pos h]; rfl
    · rw [if_neg h, if_neg h, ih]
      by_cases hb : (cutB c r).2.2 = true
      · rw [if_pos hb]; dsimp only; rw [if_pos hb]
      · rw [if_neg hb]; dsimp only; rw [if_neg hb]

theorem countFrom_one (c : UInt8) : ∀ (k : Nat) (s : List UInt8), s.length < k → Lib.countFrom [c] k s = s.count c := by
  intro k
  induction k with
  | zero => intro s h; omega
  | succ k ih =>
    intro s h
    unfold Lib.countFrom
    rcases cutB_idx c s with ⟨h1, _, h3⟩ | ⟨i, h1, _, h3, h4, h5⟩
    · rw [h1, List.count_eq_zero_of_not_mem h3]; rfl
    · have hi : (Lib.index s [c] == -1) = false := by rw [h1]; simp
      rw [hi, h1]
      simp only [Bool.false_eq_true, if_false, Int.toNat_natCast, List.length_singleton]
      rw [ih (s.drop (i + 1)) (by rw [List.length_drop]; omega)]
      have : s.count c = (s.take i).count c + ((s.drop (i + 1)).count c + 1) := by
        conv => lhs; rw [h4]
        rw [List.count_append, List.count_cons_self]
      rw [this, List.count_eq_zero_of_not_mem h5]; omega

theorem splitK_one (c : UInt8) : ∀ (k : Nat) (s : List UInt8), s.count c ≤ k → Lib.splitK [c] 0 k s = splitL c s := by
  intro k
  induction k with
  | zero =>
    intro s h
    rw [splitL_cut]
    rcases cutB_idx c s with ⟨_, h2, _⟩ | ⟨i, _, _, _, h4, _⟩
    · rw [h2]; rfl
    · rw [h4, List.count_append, List.count_cons_self] at h; omega
  | succ k ih =>
    intro s h
    rw [splitL_cut]
    unfold Lib.splitK
    rcases cutB_idx c s with ⟨h1, h2, _⟩ | ⟨i, h1, h2, h3, h4, _⟩
    · rw [h1, h2]; rfl
    · have hi : (Lib.index s [c] == -1) = false := by rw [h1]; simp
      rw [hi, h2, h1]
      have hc : (s.drop (i + 1)).count c ≤ k := by
        rw [h4, List.count_append, List.count_cons_self] at h; omega
      have := ih (s.drop (i + 1)) hc
      simp only [Bool.false_eq_true, if_false, if_true, Int.toNat_natCast, Nat.add_zero, List.length_singleton]
      rw [this]

theorem split_one (c : UInt8) (s : ByteArray) : (Lib.splitB ⟨#[c]⟩ 0 (Lib.countB s ⟨#[c]⟩) s).map (·.data.toList) = splitL c s.data.toList := by
  rw [Lib.splitB_data]
  refine splitK_one c _ _ ?_
  show _ ≤ Lib.countFrom [c] (s.data.toList.length + 1) s.data.toList
  rw [countFrom_one c _ _ (by omega)]
  exact Nat.le_refl _

theorem count_one (c : UInt8) (s : ByteArray) : Lib.countB s ⟨#[c]⟩ = s.data.toList.count c := countFrom_one c _ _ (by omega)

theorem splitL_length (c : UInt8) : ∀ s, (splitL c s).length = s.count c + 1 := by
  intro s
  induction s with
  | nil => rfl
  | cons x r ih =>
    unfold splitL
    by_cases h : x = c
    · subst h; simp [ih]
    · rw [if_neg h, List.count_cons_of_ne h]
      split
      · rename_i e; exact absurd e (splitL_ne c r)
      · rename_i a b e; rw [e] at ih; simpa using ih

end Go.Ex

/- (*strings.Builder).String, with all that it turns: the bytes that it tells are frozen. Conditions: the program's numbers are as the shelf asks. -/
namespace Go.Ex
open Go.Shelf Go.RowKit Go.Proofs
variable {P : Program} {ρ : Ren}

theorem freeze_one (w : World) (g m : Nat) : OneTurned w (w.freeze ⟨g, 0, none⟩ m) g := by
  unfold World.freeze
  split
  · exact ⟨rfl, rfl, rfl, rfl, fun _ _ => rfl⟩
  · refine ⟨rfl, rfl, rfl, by simp, fun c hc => ?_⟩
    dsimp only
    rw [Array.getElem?_modify, if_neg (fun h => hc h.symm)]
theorem OneTurned.drew {w w' : World} {g : Nat} (h : OneTurned w.drew w' g) : OneTurned w w' g := ⟨h.os, h.tape, h.output, h.size, h.rest⟩

set_option maxHeartbeats 1000000 in
set_option maxRecDepth 100000 in
theorem string_model (L : Lays.n169 P ρ) (X : Builder.Extra P ρ) (b g cap : Nat) (p : Value) (cur : Array Value) (l : List UInt8) (w : World) (h0 : l ≠ []) (hmx : l.length < 1000000) (hbk : w.heap[b]? = some (.cells #[p, .slice (some ⟨g, 0, none⟩) l.length cap] (ρ.t 72) (0, 0))) (hg : w.heap[g]? = some (.cells cur (ρ.t 5) (0, 0)))
    (hnc : l.length ≤ cap) (hcs : cap ≤ cur.size) (hcur : ∀ (j : Nat) (y : UInt8), l[j]? = some y → cur[j]? = some (.int .u8 (y.toNat : Nat))) :
    Calls P (ρ.f 169) #[.pointer (some ⟨b, 0, none⟩)] w fun e w' => e = .returned (.string ⟨l.toArray⟩) ∧ OneTurned w w' g := by
  have hl0 : l.length ≠ 0 := by simpa using h0
  have c1 : w.drew.cell? ⟨b, 1, none⟩ = some (.slice (some ⟨g, 0, none⟩) l.length cap) := by
    have : w.drew.heap[b]? = some (.cells #[p, .slice (some ⟨g, 0, none⟩) l.length cap] (ρ.t 72) (0, 0)) := hbk
    rw [Lib.cell_of_heap this]; rfl
  have hSD : (Builtin.unsafeSliceData_ #[(ρ.t 37)] (ρ.t 127) #[.slice (some ⟨g, 0, none⟩) l.length cap]).run P w.drew = .ok (.pointer (some ⟨g, 0, none⟩)) w.drew :=
    Lib.run_unsafeSliceData_row _ _ _ _ _ _ (by omega)
  have hUS : (Builtin.unsafeString_ #[(ρ.t 127), (ρ.t 3)] (ρ.t 9) #[.pointer (some ⟨g, 0, none⟩), .int .i64 l.length]).run P w.drew = .ok (.string ⟨l.toArray⟩) (w.drew.freeze ⟨g, 0, none⟩ l.length) := by
    refine Lib.run_unsafeString_row w.drew (ρ.t 127) (ρ.t 3) (ρ.t 9) (ρ.t 5) L.t127 X.cellsByte g cur.size (by have hg' : w.drew.heap[g]? = some (.cells cur (ρ.t 5) (0, 0)) := hg; simp [World.shape?, hg']) l h0 (by omega) (by omega) ?_
    intro j x hx
    have hg' : w.drew.heap[g]? = some (.cells cur (ρ.t 5) (0, 0)) := hg
    have e9 : Addr.add ⟨g, 0, none⟩ j = ⟨g, j, none⟩ := by simp [Addr.add]; omega
    rw [e9, Lib.cell_of_heap hg']
    exact hcur j x hx
  have mixed := L.mixed
  have t72 := L.t72; have a72 := L.a72; have z72 := L.z72; have v72 := L.v72; have u72 := run_underlying L.t72
  have t70 := L.t70; have a70 := L.a70; have z70 := L.z70; have v70 := L.v70; have u70 := run_underlying L.t70
  have t37 := L.t37; have a37 := L.a37; have z37 := L.z37; have v37 := L.v37; have u37 := run_underlying L.t37
  have t127 := L.t127; have a127 := L.a127; have z127 := L.z127; have v127 := L.v127; have u127 := run_underlying L.t127
  have t3 := L.t3; have a3 := L.a3; have z3 := L.z3; have v3 := L.v3; have u3 := run_underlying L.t3
  have t9 := L.t9; have a9 := L.a9; have z9 := L.z9; have v9 := L.v9; have u9 := run_underlying L.t9
  have t5 := X.t5; have a5 := X.a5; have z5 := X.z5; have v5 := X.v5; have u5 := run_underlying X.t5
  go_enter L.f169, Body.n169_ntmps ρ
  go_wp2
  go_region_o
  all_goals (go_wp2; go_ret; exact ⟨rfl, (freeze_one _ _ _).drew⟩)
end Go.Ex

/- A block that a call does not look at stays. Conditions: none. -/
namespace Go.Ex
section
variable {P : Program} {ng : Nat}
theorem CallTo.frame {f : FuncId} {args : List Value} {df : Bool} {u u' : Option Chain} {l h1 : Heap} {n n' : Nat} {o : Out} (c : CallTo P ng f args df u l n o u' h1 n') {b : Nat} {ob : AObj} (hb : b < n) (hl : hget l b = .dead) :
    CallTo P ng f args df u (l.set .dead ob b) n o u' (h1.set .dead ob b) n' := by
  refine ⟨c.1, fun ρ base w0 wd args' cs hH ha hu => ?_⟩
  have hsub : Sub l (l.set .dead ob b) := fun x => by
    rw [hget_set]
    by_cases hx : b = x
    · subst hx; exact .inl hl
    · rw [if_neg hx]; exact .inr rfl
  obtain ⟨ρ', wd', fr, cs', s1, s2, s3, s4, s5, s6, s7⟩ := c.2 ρ base w0 wd args' cs (hH.sub hsub) ha hu
  have hlt : ∀ {x X}, ρ x = some X → x < n := fun {x X} e => by
    rcases Nat.lt_or_ge x n with h9 | h9
    · exact h9
    · rw [hH.dom x h9] at e; cases e
  have hle : ρ.le ρ' := fun x X e => by rw [s3.old x (hlt e)]; exact e
  have h1b : hget h1 b = .dead := s3.dead b hb hl
  -- the block's place in the model
  have hobj : ∀ X, ρ' b = some X → ob ≠ .dead → (∃ o', wd'.heap[X.b]? = some o' ∧ ObjR P ng ρ' base X ob o') ∧ X.b < wd.heap.size ∧ ρ b = some X := by
    intro X e hd
    have e0 : ρ b = some X := by rw [← s3.old b hb]; exact e
    have hget0 : hget (l.set .dead ob b) b = ob := by rw [hget_set, if_pos rfl]
    obtain ⟨o', q1, q2⟩ := hH.obj b X e0 (by rw [hget0]; exact hd)
    rw [hget0] at q2
    have hsz : X.b < wd.heap.size := by
      rcases Nat.lt_or_ge X.b wd.heap.size with h9 | h9
      · exact h9
      · rw [Array.getElem?_eq_none h9] at q1; cases q1
    have hk := s3.keep X.b hsz fun x X2 ex hlx heq => by
      have hne : x ≠ b := fun e9 => by subst e9; exact hlx hl
      have := hH.inj x b X2 X ex e0 (by rw [hget_set, if_neg (fun e9 => hne e9.symm)]; exact hlx) (by rw [hget0]; exact hd) heq
      exact hne this
    exact ⟨⟨o', by rw [hk]; exact q1, q2.mono hle⟩, hsz, e0⟩
  have apart : ∀ x X B, x ≠ b → ρ' x = some X → hget h1 x ≠ .dead → ρ' b = some B → ob ≠ .dead → X.b ≠ B.b := by
    intro x X B hne ex hlx eb hd heq
    obtain ⟨_, hsz, eb0⟩ := hobj B eb hd
    have hget0 : hget (l.set .dead ob b) b = ob := by rw [hget_set, if_pos rfl]
    rcases Nat.lt_or_ge x n with h9 | h9
    · have ex0 : ρ x = some X := by rw [← s3.old x h9]; exact ex
      have hlx2 : hget l x ≠ .dead := fun e9 => hlx (s3.dead x h9 e9)
      exact hne (hH.inj x b X B ex0 eb0 (by rw [hget_set, if_neg (fun e9 => hne e9.symm)]; exact hlx2) (by rw [hget0]; exact hd) heq)
    · rcases s3.new x X h9 ex with h8 | ⟨y, Y, hy, ey, eyb, hly⟩
      · omega
      · have hyb : y ≠ b := fun e9 => by subst e9; exact hly hl
        exact hyb (hH.inj y b Y B ey eb0 (by rw [hget_set, if_neg (fun e9 => hyb e9.symm)]; exact hly) (by rw [hget0]; exact hd) (eyb.trans heq))
  refine ⟨ρ', wd', fr, cs', s1, ⟨s2.dom, fun x X e hlx => ?_, fun x y X Y ex ey hlx hly heq => ?_, s2.below, s2.size, s2.glob, s2.ngn⟩, ⟨s3.nn, s3.old, fun x X hx e => ?_, fun cx hcx hk => s3.keep cx hcx fun x X e hlx => hk x X e ?_, s3.size, fun x hx hd => ?_, s3.tape⟩, s4, s5, s6, s7⟩
  · rw [hget_set] at hlx ⊢
    by_cases hx : b = x
    · subst hx
      rw [if_pos rfl] at hlx ⊢
      exact (hobj X e hlx).1
    · rw [if_neg hx] at hlx ⊢
      exact s2.obj x X e hlx
  · rw [hget_set] at hlx hly
    by_cases hx : b = x
    · by_cases hy : b = y
      · rw [← hx, ← hy]
      · subst hx
        rw [if_pos rfl] at hlx
        rw [if_neg hy] at hly
        exact absurd heq.symm (apart y Y X (fun e9 => hy e9.symm) ey hly ex hlx)
    · rw [if_neg hx] at hlx
      by_cases hy : b = y
      · subst hy
        rw [if_pos rfl] at hly
        exact absurd heq (apart x X Y (fun e9 => hx e9.symm) ex hlx ey hly)
      · rw [if_neg hy] at hly
        exact s2.inj x y X Y ex ey hlx hly heq
  · rcases s3.new x X hx e with h8 | ⟨y, Y, hy, ey, eyb, hly⟩
    · exact .inl h8
    · have hyb : b ≠ y := fun e9 => by subst e9; exact hly hl
      exact .inr ⟨y, Y, hy, ey, eyb, by rw [hget_set, if_neg hyb]; exact hly⟩
  · have hxb : b ≠ x := fun e9 => by subst e9; exact hlx hl
    rw [hget_set, if_neg hxb]; exact hlx
  · rw [hget_set] at hd ⊢
    by_cases hxb : b = x
    · rw [if_pos hxb] at hd ⊢; exact hd
    · rw [if_neg hxb] at hd ⊢; exact s3.dead x hx hd
end
end Go.Ex
