/- The library's functions, worked out by the kernel: what is known of their calls beforehand. Conditions: none. -/
import Derived.Test.YtapnnpoljobanabGreatDoorLib
namespace Go.Proofs.YtapnnpoljobanabGreatDoor
open Go.Ex Go.RowKit
set_option maxRecDepth 1000000

theorem does_pure {f : FuncId} {args : List Value} {h : Heap} {n : Nat} {v : Value} (r : Pure P 8 f args h n v) (u : Option Chain) : CallTo P 8 f args false u h n (.ret v) u h n := by
  obtain ⟨v', h', n', ⟨rfl, rfl, rfl⟩, hc⟩ := r.does u
  exact hc

/-- A hook's answer is so. -/
def Fine (f : FuncId) (args : List Value) (h : Heap) (n : Nat) (o : Option Rsl) : Prop := ∀ r, o = some r → ∀ u, CallTo P 8 f args false u h n (.ret r.v) u r.h r.n
theorem Fine.none {f : FuncId} {args : List Value} {h : Heap} {n : Nat} : Fine f args h n none := fun _ e => by cases e
theorem Fine.pure {f : FuncId} {args : List Value} {h : Heap} {n : Nat} {v : Value} (r : Pure P 8 f args h n v) : Fine f args h n (some ⟨v, h, n⟩) := fun r' e u => by
  injection e with e; subst e; exact does_pure r u
theorem Fine.cond {f : FuncId} {args : List Value} {h : Heap} {n : Nat} {b : Bool} {o : Option Rsl} (ho : b = true → Fine f args h n o) : Fine f args h n (_root_.cond b o Option.none) := by
  cases b with
  | true => exact ho rfl
  | false => exact Fine.none

/-! ### tables -/

def pow : List Value := Lib.pow10Tab.map fun z => Value.int .u64 z
def powL : List Value := [.int .u64 1, .int .u64 10, .int .u64 100, .int .u64 1000, .int .u64 10000, .int .u64 100000, .int .u64 1000000, .int .u64 10000000, .int .u64 100000000, .int .u64 1000000000, .int .u64 10000000000, .int .u64 100000000000, .int .u64 1000000000000, .int .u64 10000000000000, .int .u64 100000000000000, .int .u64 1000000000000000, .int .u64 10000000000000000, .int .u64 100000000000000000, .int .u64 1000000000000000000, .int .u64 10000000000000000000]
theorem powL_eq : powL = pow := by kernel_rfl

noncomputable def maxOf (o : AObj) (K : Int → Option Rsl) : Option Rsl :=
  onCells o (fun c n _ kd => Bool.rec none (onInt (Tr.get undef c 0) (fun k m => Bool.rec none (K m) (kindEq k .i64)) none) (Nat.beq kd 2 && Nat.beq n 1)) none

noncomputable def withT (h : Heap) (K : Option Rsl) : Option Rsl := maxOf (hget h 0) fun _ => Bool.rec none K (tabB powL (hget h 1))

theorem tabB_H {vs : List Value} {o : AObj} (h : tabB vs o = true) : (∃ z, infoOf o = some (vs.length, z, 2)) ∧ ∀ i, cellOf o i = vs[i]? := by
  unfold tabB at h
  split at h
  · rename_i c n z kd
    obtain ⟨h1, h2⟩ := Bool.and_eq_true_iff.1 h
    obtain ⟨h2, h3⟩ := Bool.and_eq_true_iff.1 h2
    obtain rfl := beq_eq h1
    obtain rfl := beq_eq h2
    refine ⟨⟨z, rfl⟩, fun i => ?_⟩
    unfold cellOf
    dsimp only
    by_cases hi : i < vs.length
    · rw [if_pos hi, List.getElem?_eq_getElem hi]
      have := cellsB_at h3 (List.getElem?_eq_getElem hi)
      rw [Nat.zero_add] at this
      rw [this]
    · rw [if_neg hi, List.getElem?_eq_none (by omega)]
  · cases h

theorem withT_of {h : Heap} {K : Option Rsl} {r : Rsl} (e : withT h K = some r) : K = some r ∧ ∃ m, TabsH (tb m) h := by
  unfold withT maxOf at e
  cases ho : hget h 0 <;> rw [ho] at e <;> first | (cases e; done) | skip
  rename_i c n z kd
  have e' : (Bool.rec none (onInt (Tr.get undef c 0) (fun k m => Bool.rec none (Bool.rec none K (tabB powL (hget h 1))) (kindEq k .i64)) none) (Nat.beq kd 2 && Nat.beq n 1) : Option Rsl) = some r := e
  cases h1 : (Nat.beq kd 2 && Nat.beq n 1) with
  | false => rw [h1] at e'; cases e'
  | true =>
    rw [h1] at e'
    obtain ⟨a1, a2⟩ := Bool.and_eq_true_iff.1 h1
    obtain rfl := beq_eq a1
    obtain rfl := beq_eq a2
    rcases onInt_some e' with ⟨k, m, hv, e2⟩ | e2
    · cases hk : kindEq k .i64 with
      | false => rw [hk] at e2; cases e2
      | true =>
        rw [hk] at e2
        obtain rfl := kindEq_eq hk
        cases h3 : tabB powL (hget h 1) with
        | false => rw [h3] at e2; cases e2
        | true =>
          rw [h3] at e2
          refine ⟨e2, m, fun p hp => ?_⟩
          simp only [tb, List.mem_cons, List.not_mem_nil, or_false] at hp
          rcases hp with rfl | rfl
          · dsimp only
            rw [ho]
            refine ⟨⟨z, rfl⟩, fun i => ?_⟩
            unfold cellAt
            rw [ho]
            unfold cellOf
            dsimp only
            cases i with
            | zero => rw [if_pos (by omega), hv]; rfl
            | succ i => rw [if_neg (by omega)]; simp
          · rw [powL_eq] at h3
            exact tabB_H h3
    · cases e2
theorem fine_withT {f : FuncId} {args : List Value} {h : Heap} {n : Nat} {K : Option Rsl} (hk : ∀ m, TabsH (tb m) h → Fine f args h n K) : Fine f args h n (withT h K) := fun r e u => by
  obtain ⟨e1, m, hm⟩ := withT_of e
  exact hk m hm r e1 u

/-! ### cutting -/

noncomputable def cutK (c : Nat) (s : List UInt8) (K : List UInt8 → List UInt8 → Bool → Option Rsl) : Option Rsl :=
  List.rec (motive := fun _ => (List UInt8 → List UInt8 → Bool → Option Rsl) → Option Rsl) (fun K => K [] [] false)
    (fun x r ih K => Bool.rec (ih fun a b f => K (x :: a) b f) (K [] r true) (Nat.beq x.toNat c)) s K
theorem beq_toNat (x c : UInt8) : Nat.beq x.toNat c.toNat = decide (x = c) := by
  by_cases h : x = c
  · subst h; simp [Nat.beq_refl]
  · rw [decide_eq_false h]
    cases e : Nat.beq x.toNat c.toNat with
    | false => rfl
    | true => exact absurd (UInt8.toNat_inj.1 (beq_eq e)) h
theorem cutK_eq (c : UInt8) : ∀ (s : List UInt8) (K : List UInt8 → List UInt8 → Bool → Option Rsl), cutK c.toNat s K = K (cutB c s).1 (cutB c s).2.1 (cutB c s).2.2 := by
  intro s
  induction s with
  | nil => intro K; rfl
  | cons x r ih =>
    intro K
    show (Bool.rec (cutK c.toNat r fun a b f => K (x :: a) b f) (K [] r true) (Nat.beq x.toNat c.toNat) : Option Rsl) = _
    rw [beq_toNat]
    unfold cutB
    by_cases h : x = c
    · rw [decide_eq_true h, if_pos h]
    · rw [decide_eq_false h, if_neg h]
      exact ih _

noncomputable def fits (s : List UInt8) : Bool := Nat.blt s.length 1000000
theorem fits_lt {s : List UInt8} (h : fits s = true) : s.length < 1000000 := blt_lt h

noncomputable def cutH (args : List Value) (h : Heap) (n : Nat) : Option Rsl := match args with
  | [.string ⟨⟨s⟩⟩, .string ⟨⟨[c]⟩⟩] => cond (fits s) (withT h (cutK c.toNat s fun a b f => some ⟨.tuple #[str a, str b, .bool f], h, n⟩)) none
  | _ => none
theorem cutH_ok (args : List Value) (h : Heap) (n : Nat) : Fine 125 args h n (cutH args h n) := by
  unfold cutH
  split
  · rename_i s c
    refine Fine.cond fun hs => fine_withT fun m hm => ?_
    rw [cutK_eq]
    exact Fine.pure (cut_pure n hm s c (fits_lt hs))
  · exact Fine.none

noncomputable def prefK (p s : List UInt8) (K : List UInt8 → Option Rsl) (d : Option Rsl) : Option Rsl :=
  List.rec (motive := fun _ => List UInt8 → Option Rsl) (fun s => K s) (fun x _ ih s => List.rec d (fun y r _ => Bool.rec d (ih r) (Nat.beq x.toNat y.toNat)) s) p s
theorem prefK_eq (K : List UInt8 → Option Rsl) (d : Option Rsl) : ∀ (p s : List UInt8), prefK p s K d = if p.isPrefixOf s then K (s.drop p.length) else d := by
  intro p
  induction p with
  | nil => intro s; simp [prefK]
  | cons x p ih =>
    intro s
    cases s with
    | nil => rfl
    | cons y r =>
      show (Bool.rec d (prefK p r K d) (Nat.beq x.toNat y.toNat) : Option Rsl) = _
      rw [beq_toNat, ih]
      by_cases h : x = y
      · subst h; simp [List.isPrefixOf]
      · have : (x == y) = false := by simpa using h
        rw [decide_eq_false h]; simp [List.isPrefixOf, this]
noncomputable def cutPrefixH (args : List Value) (h : Heap) (n : Nat) : Option Rsl := match args with
  | [.string ⟨⟨s⟩⟩, .string ⟨⟨p⟩⟩] => prefK p s (fun r => some ⟨.tuple #[str r, .bool true], h, n⟩) (some ⟨.tuple #[str s, .bool false], h, n⟩)
  | _ => none
theorem cutPrefixH_ok (args : List Value) (h : Heap) (n : Nat) : Fine 155 args h n (cutPrefixH args h n) := by
  unfold cutPrefixH
  split
  · rename_i s p
    rw [prefK_eq]
    have := Fine.pure (cutPrefix_pure (h := h) n s p)
    unfold Lib.trimPrefix Lib.hasPrefix at this
    by_cases hp : p.isPrefixOf s = true
    · rw [if_pos hp]; rw [if_pos hp, hp] at this; exact this
    · rw [if_neg hp]; rw [if_neg hp, Bool.eq_false_iff.2 hp] at this; exact this
  · exact Fine.none

/-! ### lists, worked out ahead -/

noncomputable def forceL {R : Type} (l : List UInt8) (K : List UInt8 → R) : R := List.rec (motive := fun _ => (List UInt8 → R) → R) (fun K => K []) (fun x _ ih K => ih fun r => K (x :: r)) l K
theorem forceL_eq {R : Type} : ∀ (l : List UInt8) (K : List UInt8 → R), forceL l K = K l := by
  intro l
  induction l with
  | nil => intro K; rfl
  | cons x r ih => intro K; exact ih _

noncomputable def splK (c : Nat) (s : List UInt8) (K : List UInt8 → List (List UInt8) → Option Rsl) : Option Rsl :=
  List.rec (motive := fun _ => (List UInt8 → List (List UInt8) → Option Rsl) → Option Rsl) (fun K => K [] [])
    (fun x _ ih K => Bool.rec (ih fun a l => K (x :: a) l) (ih fun a l => K [] (a :: l)) (Nat.beq x.toNat c)) s K
theorem splK_eq (c : UInt8) : ∀ (s : List UInt8) (K : List UInt8 → List (List UInt8) → Option Rsl), ∃ a l, splitL c s = a :: l ∧ splK c.toNat s K = K a l := by
  intro s
  induction s with
  | nil => intro K; exact ⟨[], [], rfl, rfl⟩
  | cons x r ih =>
    intro K
    have e : splK c.toNat (x :: r) K = (Bool.rec (splK c.toNat r fun a l => K (x :: a) l) (splK c.toNat r fun a l => K [] (a :: l)) (Nat.beq x.toNat c.toNat) : Option Rsl) := rfl
    rw [e, beq_toNat]
    unfold splitL
    by_cases h : x = c
    · rw [decide_eq_true h, if_pos h]
      obtain ⟨a, l, e1, e2⟩ := ih fun a l => K [] (a :: l)
      exact ⟨[], a :: l, by rw [e1], e2⟩
    · rw [decide_eq_false h, if_neg h]
      obtain ⟨a, l, e1, e2⟩ := ih fun a l => K (x :: a) l
      exact ⟨x :: a, l, by rw [e1], e2⟩

noncomputable def rowK (ls : List (List UInt8)) (i : Nat) (c : Tr Value) (K : Tr Value → Option Rsl) : Option Rsl :=
  List.rec (motive := fun _ => Nat → Tr Value → (Tr Value → Option Rsl) → Option Rsl) (fun _ c K => K c) (fun l _ ih i c K => c.setK undef (str l) i fun c' => ih (Nat.succ i) c' K) ls i c K
theorem rowK_eq : ∀ (ls : List (List UInt8)) (i : Nat) (c : Tr Value) (K : Tr Value → Option Rsl), rowK ls i c K = K (Tr.ofListFrom undef c i (ls.map str)) := by
  intro ls
  induction ls with
  | nil => intro i c K; rfl
  | cons l r ih =>
    intro i c K
    show c.setK undef (str l) i (fun c' => rowK r (Nat.succ i) c' K) = _
    rw [Tr.setK_eq, ih]; rfl

noncomputable def splitH (args : List Value) (h : Heap) (n : Nat) : Option Rsl := match args with
  | [.string ⟨⟨s⟩⟩, .string ⟨⟨[c]⟩⟩] => cond (fits s) (withT h (splK c.toNat s fun a l => rowK (a :: l) 0 .leaf fun t =>
      h.setK .dead (.cells t (a :: l).length 0 0) n fun h' => some ⟨.slice (some ⟨n, 0, none⟩) (a :: l).length (a :: l).length, h', Nat.succ n⟩)) none
  | _ => none
theorem splitH_ok (args : List Value) (h : Heap) (n : Nat) : Fine 156 args h n (splitH args h n) := by
  unfold splitH
  split
  · rename_i s c
    refine Fine.cond fun hs => fine_withT fun m hm => ?_
    obtain ⟨a, l, e1, e2⟩ := splK_eq c s fun a l => rowK (a :: l) 0 .leaf fun t => h.setK .dead (.cells t (a :: l).length 0 0) n fun h' => some ⟨.slice (some ⟨n, 0, none⟩) (a :: l).length (a :: l).length, h', Nat.succ n⟩
    rw [e2, rowK_eq, Tr.setK_eq]
    intro r er u
    injection er with er
    subst er
    obtain ⟨v, h', n', ⟨rfl, rfl, rfl⟩, hc⟩ := (split_rets n hm s c (fits_lt hs)).does u
    rw [e1] at hc
    have e9 : mkC (((a :: l) : List (List UInt8)).map str) 0 0 = .cells (Tr.ofListFrom undef .leaf 0 ((a :: l).map str)) (a :: l).length 0 0 := by unfold mkC; rw [List.length_map]
    rw [e9] at hc
    exact hc
  · exact Fine.none

/-! ### joining -/

noncomputable def onStr {R : Type} (v : Value) (f : List UInt8 → R) (d : R) : R := match v with
  | .string ⟨⟨s⟩⟩ => f s
  | _ => d
theorem onStr_some {v : Value} {f : List UInt8 → Option Rsl} {r : Rsl} (e : onStr v f none = some r) : ∃ s, v = str s ∧ f s = some r := by
  unfold onStr at e
  split at e
  · exact ⟨_, rfl, e⟩
  · cases e
noncomputable def strs (l : List Value) (K : List (List UInt8) → Option Rsl) : Option Rsl :=
  List.rec (motive := fun _ => (List (List UInt8) → Option Rsl) → Option Rsl) (fun K => K []) (fun v _ ih K => onStr v (fun s => ih fun r => K (s :: r)) none) l K
theorem strs_of {l : List Value} {K : List (List UInt8) → Option Rsl} {r : Rsl} (e : strs l K = some r) : ∃ ls, l = ls.map str ∧ K ls = some r := by
  induction l generalizing K with
  | nil => exact ⟨[], rfl, e⟩
  | cons v l ih =>
    have e' : onStr v (fun s => strs l fun r => K (s :: r)) none = some r := e
    obtain ⟨s, rfl, e2⟩ := onStr_some e'
    obtain ⟨ls, e3, e4⟩ := ih e2
    exact ⟨s :: ls, by rw [e3]; rfl, e4⟩

/-- A row of strings, as it is seen. -/
noncomputable def rowS (h : Heap) (n : Nat) (v : Value) (K : List Value → Option Rsl) : Option Rsl := match v with
  | .slice none 0 0 => K []
  | .slice (some ⟨b, off, none⟩) len cap => match hget h b with
    | .cells c kn z kd => cond (Nat.blt b n && (Nat.ble (Nat.add off len) kn && cond (Nat.beq cap inf) (Nat.beq kd 1 && Nat.beq z (zc 9 1)) (Nat.blt cap inf && Nat.ble len cap))) (K (c.toListFrom undef off len)) none
    | _ => none
  | _ => none
theorem rowS_of {h : Heap} {n : Nat} {v : Value} {K : List Value → Option Rsl} {r : Rsl} (e : rowS h n v K = some r) : ∃ vs, Row n h v 9 1 vs.length vs ∧ K vs = some r := by
  unfold rowS at e
  split at e
  · exact ⟨[], .inl ⟨rfl, rfl, rfl⟩, e⟩
  · rename_i b off len cap
    split at e
    · rename_i c kn z kd ho
      cases hb : (Nat.blt b n && (Nat.ble (Nat.add off len) kn && cond (Nat.beq cap inf) (Nat.beq kd 1 && Nat.beq z (zc 9 1)) (Nat.blt cap inf && Nat.ble len cap))) with
      | false => rw [hb] at e; cases e
      | true =>
        rw [hb] at e
        have e' : K (c.toListFrom undef off len) = some r := e
        obtain ⟨b1, b2⟩ := Bool.and_eq_true_iff.1 hb
        obtain ⟨b2, b3⟩ := Bool.and_eq_true_iff.1 b2
        have hl : (c.toListFrom undef off len).length = len := Tr.length_toListFrom ..
        have h2 : off + len ≤ kn := ble_le b2
        refine ⟨_, .inr ⟨b, off, cap, kn, z, kd, blt_lt b1, by rw [hl], by rw [Nat.mul_one], by rw [ho]; rfl, by rw [hl]; exact h2, fun j x hj => ?_, ?_⟩, e'⟩
        · rw [Tr.getElem?_toListFrom] at hj
          split at hj
          · rename_i hlt
            injection hj with hj
            unfold cellAt
            rw [ho]
            unfold cellOf
            dsimp only
            rw [if_pos (by omega), hj]
          · cases hj
        · rw [hl]
          cases hc : Nat.beq cap inf with
          | true =>
            rw [hc] at b3
            obtain ⟨c1, c2⟩ := Bool.and_eq_true_iff.1 b3
            exact .inr ⟨beq_eq hc, beq_eq c1, beq_eq c2, Nat.le_refl _⟩
          | false =>
            rw [hc] at b3
            obtain ⟨c1, c2⟩ := Bool.and_eq_true_iff.1 b3
            exact .inl ⟨blt_lt c1, ble_le c2⟩
    · cases e
  · cases e

noncomputable def joinH (args : List Value) (h : Heap) (n : Nat) : Option Rsl := match args with
  | [v, .string ⟨⟨sep⟩⟩] => rowS h n v fun vs => strs vs fun ls => forceL (Lib.join ls sep) fun t => cond (Nat.blt ls.length 1000000 && fits t) (some ⟨str t, h, n⟩) none
  | _ => none
theorem joinH_ok (args : List Value) (h : Heap) (n : Nat) : Fine 29 args h n (joinH args h n) := by
  unfold joinH
  split
  · rename_i v sep
    intro r e u
    obtain ⟨vs, h1, e1⟩ := rowS_of e
    obtain ⟨ls, rfl, e2⟩ := strs_of e1
    rw [forceL_eq] at e2
    cases hb : (Nat.blt ls.length 1000000 && fits (Lib.join ls sep)) with
    | false => rw [hb] at e2; cases e2
    | true =>
      rw [hb] at e2
      obtain ⟨b1, b2⟩ := Bool.and_eq_true_iff.1 hb
      injection e2 with e2
      subst e2
      rw [List.length_map] at h1
      exact does_pure (join_pure ls sep h1 (blt_lt b1) (fits_lt b2)) u
  · exact Fine.none

/-! ### numbers -/

noncomputable def decK (f : Nat) : Nat → List UInt8 → List UInt8 :=
  Nat.rec (motive := fun _ => Nat → List UInt8 → List UInt8) (fun _ acc => acc)
    (fun _ ih n acc => Bool.rec (ih (Nat.div n 10) (UInt8.ofNat (Nat.add 48 (Nat.mod n 10)) :: acc)) (UInt8.ofNat (Nat.add 48 n) :: acc) (Nat.blt n 10)) f
theorem decK_eq : ∀ (f n : Nat) (acc : List UInt8), n < 10 ^ (f + 1) → decK (f + 1) n acc = Lib.decDigits n ++ acc := by
  intro f
  induction f with
  | zero =>
    intro n acc h
    have e : decK 1 n acc = (Bool.rec (decK 0 (Nat.div n 10) (UInt8.ofNat (Nat.add 48 (Nat.mod n 10)) :: acc)) (UInt8.ofNat (Nat.add 48 n) :: acc) (Nat.blt n 10) : List UInt8) := rfl
    have h2 : n < 10 := by simpa using h
    rw [e, blt_of h2]
    unfold Lib.decDigits
    rw [dif_pos h2]; rfl
  | succ f ih =>
    intro n acc h
    have e : decK (f + 1 + 1) n acc = (Bool.rec (decK (f + 1) (Nat.div n 10) (UInt8.ofNat (Nat.add 48 (Nat.mod n 10)) :: acc)) (UInt8.ofNat (Nat.add 48 n) :: acc) (Nat.blt n 10) : List UInt8) := rfl
    rw [e]
    unfold Lib.decDigits
    by_cases h2 : n < 10
    · rw [blt_of h2, dif_pos h2]; rfl
    · have h3 : Nat.blt n 10 = false := by
        cases e9 : Nat.blt n 10 with
        | false => rfl
        | true => exact absurd (blt_lt e9) h2
      rw [h3, dif_neg h2]
      show decK (f + 1) (n / 10) (UInt8.ofNat (48 + n % 10) :: acc) = _
      rw [ih (n / 10) _ (by rw [Nat.pow_succ] at h; omega), List.append_assoc]; rfl

noncomputable def itoaH (args : List Value) (h : Heap) (n : Nat) : Option Rsl := match args with
  | [.int .i64 a] => withT h (Int.rec (motive := fun _ => Option Rsl) (fun m => cond (Nat.blt m 9223372036854775808) (forceL (decK 20 m []) fun t => some ⟨str t, h, n⟩) none)
      (fun m => cond (Nat.blt m 9223372036854775808) (forceL (decK 20 (Nat.succ m) []) fun t => some ⟨str (45 :: t), h, n⟩) none) a)
  | _ => none
theorem itoaH_ok (args : List Value) (h : Heap) (n : Nat) : Fine 30 args h n (itoaH args h n) := by
  unfold itoaH
  split
  · rename_i a
    refine fine_withT fun m hm => ?_
    cases a with
    | ofNat k =>
      refine Fine.cond fun hk => ?_
      have hk := blt_lt hk
      have := Fine.pure (itoa_pure n hm (.ofNat k) (by show (-9223372036854775808 : Int) ≤ (k : Int); omega) (by show (k : Int) ≤ _; omega))
      have e : Lib.itoa (.ofNat k) = Lib.decDigits k := by unfold Lib.itoa; rw [if_neg (by show ¬ ((k : Int) < 0); omega)]; rfl
      rw [e] at this
      rw [forceL_eq, decK_eq 19 k [] (by omega), List.append_nil]
      exact this
    | negSucc k =>
      refine Fine.cond fun hk => ?_
      have hk := blt_lt hk
      have := Fine.pure (itoa_pure n hm (.negSucc k) (by omega) (by omega))
      have e : Lib.itoa (.negSucc k) = 45 :: Lib.decDigits (k + 1) := by unfold Lib.itoa; rw [if_pos (by omega)]; rfl
      rw [e] at this
      rw [forceL_eq, decK_eq 19 (Nat.succ k) [] (by omega), List.append_nil]
      exact this
  · exact Fine.none

noncomputable def atoiH (args : List Value) (h : Heap) (n : Nat) : Option Rsl := match args with
  | [.string ⟨⟨s⟩⟩] => cond (Nat.ble s.length 18) (Option.rec (motive := fun _ => Option Rsl) none (fun v => Int.rec (motive := fun _ => Option Rsl) (fun m => some ⟨.tuple #[.int .i64 (.ofNat m), .nilIface], h, n⟩) (fun m => some ⟨.tuple #[.int .i64 (.negSucc m), .nilIface], h, n⟩) v) (Lib.atoi s)) none
  | _ => none
theorem atoiH_ok (args : List Value) (h : Heap) (n : Nat) : Fine 151 args h n (atoiH args h n) := by
  unfold atoiH
  split
  · rename_i s
    refine Fine.cond fun hs => ?_
    cases hv : Lib.atoi s with
    | none => exact Fine.none
    | some v =>
      have := Fine.pure (atoi_pure (h := h) n s v (ble_le hs) hv)
      cases v <;> exact this
  · exact Fine.none

/-! ### builders -/

noncomputable def checkH (args : List Value) (h : Heap) (n : Nat) : Option Rsl := match args with
  | [.pointer (some ⟨b, 0, none⟩)] => match hget h b with
    | .cells c 2 z 0 => cond (Nat.beq z (90 + 1)) (match Tr.get undef c 0 with
      | .pointer none => c.setK undef (.pointer (some ⟨b, 0, none⟩)) 0 fun c' => h.setK .dead (.cells c' 2 z 0) b fun h' => some ⟨.tuple #[], h', n⟩
      | .pointer (some ⟨b', 0, none⟩) => cond (Nat.beq b' b) (some ⟨.tuple #[], h, n⟩) none
      | _ => none) none
    | _ => none
  | _ => none
theorem bld_of {h : Heap} {b z : Nat} {c : Tr Value} (ho : hget h b = .cells c 2 z 0) (hz : Nat.beq z (90 + 1) = true) : Bld 90 h b (Tr.get undef c 0) (Tr.get undef c 1) := by
  obtain rfl := beq_eq hz
  unfold Bld cellAt
  rw [ho]
  exact ⟨rfl, rfl, rfl⟩
theorem checkH_ok (args : List Value) (h : Heap) (n : Nat) : Fine 70 args h n (checkH args h n) := by
  unfold checkH
  split
  · rename_i b
    split
    · rename_i c z ho
      refine Fine.cond fun hz => ?_
      have hB := bld_of ho hz
      split
      · rename_i hp
        rw [hp] at hB
        intro r e u
        rw [Tr.setK_eq, Tr.setK_eq] at e
        injection e with e
        subst e
        obtain ⟨v, h', n', ⟨rfl, rfl, rfl⟩, hc⟩ := (check_fresh (n := n) hB).does u
        rw [ho] at hc
        exact hc
      · rename_i b' hp
        refine Fine.cond fun hb => ?_
        obtain rfl := beq_eq hb
        rw [hp] at hB
        intro r e u
        injection e with e
        subst e
        obtain ⟨v, h', n', ⟨rfl, rfl, rfl⟩, hc⟩ := (check_used (n := n) hB).does u
        exact hc
      · exact Fine.none
    · exact Fine.none
  · exact Fine.none

/-- Cells that are bytes. -/
noncomputable def bytesK (l : List Value) (K : List UInt8 → Option Rsl) : Option Rsl :=
  List.rec (motive := fun _ => (List UInt8 → Option Rsl) → Option Rsl) (fun K => K [])
    (fun v _ ih K => onInt v (fun k a => Int.rec (motive := fun _ => Option Rsl) (fun m => Bool.rec none (ih fun r => K (UInt8.ofNat m :: r)) (kindEq k .u8 && Nat.blt m 256)) (fun _ => none) a) none) l K
theorem bytesK_of {l : List Value} {K : List UInt8 → Option Rsl} {r : Rsl} (e : bytesK l K = some r) : ∃ t, l = bytesV t ∧ K t = some r := by
  induction l generalizing K with
  | nil => exact ⟨[], rfl, e⟩
  | cons v l ih =>
    have e' : onInt v (fun k a => Int.rec (motive := fun _ => Option Rsl) (fun m => Bool.rec none (bytesK l fun r => K (UInt8.ofNat m :: r)) (kindEq k .u8 && Nat.blt m 256)) (fun _ => none) a) none = some r := e
    rcases onInt_some e' with ⟨k, a, rfl, e2⟩ | e2
    · cases a with
      | negSucc m => cases e2
      | ofNat m =>
        have e3 : (Bool.rec none (bytesK l fun r => K (UInt8.ofNat m :: r)) (kindEq k .u8 && Nat.blt m 256) : Option Rsl) = some r := e2
        cases hb : (kindEq k .u8 && Nat.blt m 256) with
        | false => rw [hb] at e3; cases e3
        | true =>
          rw [hb] at e3
          obtain ⟨b1, b2⟩ := Bool.and_eq_true_iff.1 hb
          obtain rfl := kindEq_eq b1
          obtain ⟨t, rfl, e4⟩ := ih e3
          refine ⟨UInt8.ofNat m :: t, ?_, e4⟩
          have : ((UInt8.ofNat m).toNat : Int) = Int.ofNat m := by
            rw [UInt8.toNat_ofNat', Nat.mod_eq_of_lt (blt_lt b2)]; rfl
          simp only [List.map_cons, this]
    · cases e2

noncomputable def stringH (args : List Value) (h : Heap) (n : Nat) : Option Rsl := match args with
  | [.pointer (some ⟨b, 0, none⟩)] => match hget h b with
    | .cells c 2 z 0 => cond (Nat.beq z (90 + 1)) (match Tr.get undef c 1 with
      | .slice none 0 0 => some ⟨str [], h, n⟩
      | .slice (some ⟨b2, 0, none⟩) len cap => match hget h b2 with
        | .cells c2 kn z2 1 => cond (Nat.beq cap inf && (Nat.beq kn len && (Nat.beq z2 (zc 5 1) && (!Nat.beq b2 b && (Nat.blt b2 n && (Nat.blt len 1000000 && Nat.blt 0 len))))))
          (bytesK (c2.toListFrom undef 0 kn) fun t => h.setK .dead .dead b2 fun h' => some ⟨str t, h', n⟩) none
        | _ => none
      | _ => none) none
    | _ => none
  | _ => none
theorem stringH_ok (args : List Value) (h : Heap) (n : Nat) : Fine 32 args h n (stringH args h n) := by
  unfold stringH
  split
  · rename_i b
    split
    · rename_i c z ho
      refine Fine.cond fun hz => ?_
      have hB := bld_of ho hz
      split
      · rename_i hp
        rw [hp] at hB
        intro r e u
        injection e with e
        subst e
        obtain ⟨v, h', n', ⟨rfl, rfl, hh⟩, hc⟩ := (string_rets (lo := 0) (n := n) (l := []) hB (.inl ⟨rfl, rfl, rfl⟩) (by intro e; cases e) (by decide)).does u
        exact hc.sub (Sub.refl _) fun b' => .inr (hh b' (by intro e; cases e))
      · rename_i b2 len cap hp
        split
        · rename_i c2 kn z2 ho2
          refine Fine.cond fun hb => ?_
          obtain ⟨b1, hb⟩ := Bool.and_eq_true_iff.1 hb
          obtain ⟨b2', hb⟩ := Bool.and_eq_true_iff.1 hb
          obtain ⟨b3, hb⟩ := Bool.and_eq_true_iff.1 hb
          obtain ⟨b4, hb⟩ := Bool.and_eq_true_iff.1 hb
          obtain ⟨b5, hb⟩ := Bool.and_eq_true_iff.1 hb
          obtain ⟨b6, b7⟩ := Bool.and_eq_true_iff.1 hb
          obtain rfl := beq_eq b1
          obtain rfl := beq_eq b2'
          obtain rfl := beq_eq b3
          have hne : b2 ≠ b := fun e => by rw [e, Nat.beq_refl] at b4; cases b4
          intro r e u
          obtain ⟨t, ht, e2⟩ := bytesK_of e
          rw [Tr.setK_eq] at e2
          injection e2 with e2
          subst e2
          have hl : t.length = kn := by
            have := congrArg List.length ht
            rw [Tr.length_toListFrom, List.length_map] at this
            exact this.symm
          subst hl
          rw [hp] at hB
          have hOwn : Own 0 n h (.slice (some ⟨b2, 0, none⟩) t.length inf) 5 1 t.length (bytesV t) := by
            refine .inr ⟨b2, Nat.zero_le _, blt_lt b5, rfl, by rw [ho2]; show some (t.length, _, 1) = some ((bytesV t).length, _, 1); rw [List.length_map], by rw [List.length_map, Nat.mul_one], blt_lt b7, fun i => ?_⟩
            unfold cellAt
            rw [ho2, ← ht, Tr.getElem?_toListFrom, Nat.zero_add]
            rfl
          obtain ⟨v, h', n', ⟨rfl, rfl, hh⟩, hc⟩ := (string_rets hB hOwn (by intro e; injection e with e; exact hne e) (blt_lt b6)).does u
          refine hc.sub (Sub.refl _) fun b' => ?_
          rw [hget_set]
          by_cases hbb : b2 = b'
          · rw [if_pos hbb]; exact .inl rfl
          · rw [if_neg hbb]
            exact .inr (hh b' (by intro e; injection e with e; exact hbb e))
        · exact Fine.none
      · exact Fine.none
    · exact Fine.none
  · exact Fine.none

/-- What is known of the library. -/
noncomputable def hkLib : HookH := fun f args h n =>
  cond (Nat.beq f 70) (checkH args h n) <| cond (Nat.beq f 29) (joinH args h n) <| cond (Nat.beq f 30) (itoaH args h n) <| cond (Nat.beq f 125) (cutH args h n) <|
  cond (Nat.beq f 156) (splitH args h n) <| cond (Nat.beq f 155) (cutPrefixH args h n) <| cond (Nat.beq f 151) (atoiH args h n) <| cond (Nat.beq f 32) (stringH args h n) none
theorem cond_some {b : Bool} {o o' : Option Rsl} {r : Rsl} (e : cond b o o' = some r) : (b = true ∧ o = some r) ∨ o' = some r := by
  cases b with
  | true => exact .inl ⟨rfl, e⟩
  | false => exact .inr e
theorem hkLib_ok : HookHOK P 8 hkLib := by
  intro f args h n r e u
  unfold hkLib at e
  rcases cond_some e with ⟨hf, e⟩ | e
  · obtain rfl := beq_eq hf; exact checkH_ok _ _ _ r e u
  rcases cond_some e with ⟨hf, e⟩ | e
  · obtain rfl := beq_eq hf; exact joinH_ok _ _ _ r e u
  rcases cond_some e with ⟨hf, e⟩ | e
  · obtain rfl := beq_eq hf; exact itoaH_ok _ _ _ r e u
  rcases cond_some e with ⟨hf, e⟩ | e
  · obtain rfl := beq_eq hf; exact cutH_ok _ _ _ r e u
  rcases cond_some e with ⟨hf, e⟩ | e
  · obtain rfl := beq_eq hf; exact splitH_ok _ _ _ r e u
  rcases cond_some e with ⟨hf, e⟩ | e
  · obtain rfl := beq_eq hf; exact cutPrefixH_ok _ _ _ r e u
  rcases cond_some e with ⟨hf, e⟩ | e
  · obtain rfl := beq_eq hf; exact atoiH_ok _ _ _ r e u
  rcases cond_some e with ⟨hf, e⟩ | e
  · obtain rfl := beq_eq hf; exact stringH_ok _ _ _ r e u
  cases e
end Go.Proofs.YtapnnpoljobanabGreatDoor
