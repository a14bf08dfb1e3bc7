/- What the law leans on: an executor of the model that is sound, deduction over it, and the walks through the code (part 5 of 6). Conditions: those that each theorem states. -/
import Derived.Test.YtapnnpoljobanaaGreatDoorVirWordsx4

set_option linter.unusedVariables false
set_option linter.unusedSimpArgs false
namespace Go.Proofs.YtapnnpoljobanaaGreatDoor
open Go.Ex Go.Ex.Vir Go.RowKit
set_option maxRecDepth 100000
set_option maxHeartbeats 4000000
theorem vF (Q : Fr → W → Prop) {z : Bool} {A B : KN → Bool} {kn : KN} (hkn : ∀ t w, Q t w → kn t w = true) (ht : z = true → ∀ kk : KN, (∀ t w, Q t w → kk t w = true) → A kk = true) (hf : z = false → ∀ kk : KN, (∀ t w, Q t w → kk t w = true) → B kk = true) : brJ z A B kn = true := by
 cases z with
 | true => exact ht rfl kn hkn
 | false => exact hf rfl kn hkn
theorem tA (Q : Fr → W → Prop) {A : KN → Bool} {kn : KN} (hkn : ∀ t w, Q t w → kn t w = true) (h : ∀ kk : KN, (∀ t w, Q t w → kk t w = true) → A kk = true) : blkJ A kn = true := h kn hkn
def Done (m : Int) (lo hi b rb ib n0 : Nat) (h0 : zD) (u : Option zL) (g : Res Ins) (t : Fr) (w : W) : Prop :=
 zA t 2 = ptr rb 0 ∧ zA t 3 = ptr ib 0 ∧ ∃ h n i ws, w = ⟨[], u, h, n⟩ ∧ J m lo hi b rb ib n0 h0 n h i ws ∧ g = .ok (i, ws)
theorem defining_comes {m : Int} {lo hi n b : Nat} {h : zD} {ws : List Tx} (w : WordsAt lo hi n h b ws) (hE : Env m h) (hg : 8 ≤ lo) :
 ComesE P 8 157 [ptr b 0] h n (RQV lo hi b h n (xZ ws)) := by
 refine yR zP mixed (hint := hint157) l157 fun u k hk => ?_
 rw [F157_eq]
 unfold F157
 have hn8 : 8 ≤ n := by have := w.1; have := w.2.1; omega
 refine wS ze50 fun h1 c1 x1 => ?_
 have w1 := w.touch (x1.touch []) (fun _ h => by cases h)
 have hE1 := hE.touch (x1.touch []) hn8 (fun _ h => by cases h)
 refine callI_comes (number_comes w1 hE1 hg) (fun v h2 n2 q => ?_) (fun c h2 n2 q => ?_)
 · obtain ⟨q1, q2⟩ := q
   cases ha : xY ws with
   | error e => rw [ha] at q2; cases q2
   | ok p =>
    obtain ⟨a, r⟩ := p
    have hm : xZ ws = xZ ws := rfl
    conv at hm => rhs; unfold xZ
    rw [ha] at q2 hm
    obtain ⟨v', q2, rfl, w2⟩ := q2
    injection q2 with q2; subst q2
    dsimp only at hm
    refine ⟨a, rfl, ?_⟩
    have e1 : xP P 50 [(1, .int .i64 a)] = some (.agg ⟨uM { Ins.z with d := a } (.slice none 0 0)⟩) := by kernel_rfl
    simp only [↓e1, ↓zC]
    have q1n := q1.1
    have hbn : b < n := by have := w.2.1; omega
    refine wS ze50 fun h3 c3 x3 => ?_
    refine xU c3 sh50 rfl rfl (by intro x hx; simp only [uM, List.mem_cons, List.not_mem_nil, or_false] at hx; rcases hx with rfl | rfl | rfl | rfl | rfl | rfl | rfl | rfl | rfl <;> rfl) fun h4 c4 k4 => ?_
    have t14 : TouchE [n2] h2 n2 h4 (n2 + 1) := (x3.touch _).trans (zS k4 (by simp))
    have t04 : TouchE [b] h n h4 (n2 + 1) := ((x1.touch [b]).trans q1).step t14 (fun x hx => by simp at hx; subst hx; exact .inr (by omega))
    have j : J m lo hi b n n2 n h (n2 + 1) h4 { Ins.z with d := a } r := by
     refine ⟨t04, hE.touch t04 hn8 (fun x hx => by simp at hx; subst hx; have := w.1; omega), w2.touch t14 (fun x hx => by simp at hx; subst hx; exact .inr (by have := w.2.1; omega)), ⟨_, rfl, (c1.touch q1 (by omega) (by simp; omega)).touch t14 (by omega) (by simp; omega)⟩, ⟨by omega, _, c4, .inl ⟨rfl, rfl, rfl⟩, by show 0 < 100000; omega, fun e => by cases e⟩, hg, w.2.1.2, ⟨Nat.le_refl _, by omega⟩, ⟨by omega, by omega⟩⟩
    refine j.want tEq (fun r1 h5 n5 hw j => ?_) (fun e h5 n5 hw t5 => ?_)
    · rw [hw] at hm
      dsimp only at hm
      refine j.name (fun s r2 h6 n6 hs j => ?_) (fun e h6 n6 hs t6 => ?_)
      · rw [hs] at hm
        dsimp only at hm
        have e0 : ∀ K, yB wJ P .eql 9 true (str s) (.string (ByteArray.mk #[99, 111, 110, 115, 116])) K = K (s == pI) := fun K => vB _ _ _ _ _ K
        have e1 : ∀ K, yB wJ P .eql 9 true (str s) (.string (ByteArray.mk #[99, 111, 112, 121])) K = K (s == tCopy) := fun K => vB _ _ _ _ _ K
        have e2 : ∀ K, yB wJ P .eql 9 true (str s) (.string (ByteArray.mk #[108, 111, 97, 100])) K = K (s == tLoad) := fun K => vB _ _ _ _ _ K
        have e3 : ∀ K, yB wJ P .eql 9 true (str s) (.string (ByteArray.mk #[99, 97, 108, 108])) K = K (s == tCall) := fun K => vB _ _ _ _ _ K
        simp only [↓e0, ↓e1, ↓e2, ↓e3]
        refine tA (Done m lo hi b n n2 n h u (xZ ws)) (fun t w q => ?_) (fun kk hkk => ?_)
        · obtain ⟨t2, t3, h8, n8, i8, ws8, rfl, j8, g8⟩ := q
          rw [g8] at hk
          simp only [t2, t3, ↓zG, ↓xC]
          exact j8.tell r157 (fun _ => rfl) (fun v h' n' q => hk _ _ _ q)
        refine vF (Done m lo hi b n n2 n h u (xZ ws)) (fun t w q => ?_) (fun hc kk' hkk' => ?_) (fun hc kk hkk => ?_)
        · obtain ⟨t2, t3, h8, n8, i8, ws8, rfl, j8, g8⟩ := q
          simp only [t2, t3, ↓zG, ↓xC]
          exact hkk _ _ ⟨rfl, rfl, _, _, _, _, rfl, j8, g8⟩
        · rw [hc, if_pos rfl] at hm
          refine j.any (fun x0 r0 ha0 na0 hx j => ?_) (fun e h7 n7 hx t7 => ?_)
          · rw [hx] at hm
            dsimp only at hm
            try simp only [↓tG, ↓zC]
            refine j.store sh3 (by decide) rfl (i' := { Ins.z with d := a, kind := 1 }) (fun _ => rfl) rfl fun hb0 j => ?_
            try simp only [↓fa50_4, ↓zC]
            refine j.store sh3 (by decide) rfl (i' := { Ins.z with d := a, kind := 1, n := x0 }) (fun _ => rfl) rfl fun hc0 j => ?_
            exact hkk' _ _ ⟨rfl, rfl, _, _, _, _, rfl, j, hm⟩
          · rw [hx] at hm
            exact yT r157 (hk _ _ _ (by rw [hm]; exact ⟨t7, rfl⟩))
        rw [hc, if_neg Bool.false_ne_true] at hm
        refine vF (Done m lo hi b n n2 n h u (xZ ws)) (fun t w q => ?_) (fun hc kk' hkk' => ?_) (fun hc kk hkk => ?_)
        · obtain ⟨t2, t3, h8, n8, i8, ws8, rfl, j8, g8⟩ := q
          simp only [t2, t3, ↓zG, ↓xC]
          exact hkk _ _ ⟨rfl, rfl, _, _, _, _, rfl, j8, g8⟩
        · rw [hc, if_pos rfl] at hm
          refine j.num (fun x0 r0 ha0 na0 hx j => ?_) (fun e h7 n7 hx t7 => ?_)
          · rw [hx] at hm
            dsimp only at hm
            try simp only [↓tG, ↓zC]
            refine j.store sh3 (by decide) rfl (i' := { Ins.z with d := a, kind := 2 }) (fun _ => rfl) rfl fun hb0 j => ?_
            try simp only [↓rD, ↓zC]
            refine j.store sh3 (by decide) rfl (i' := { Ins.z with d := a, kind := 2, a := x0 }) (fun _ => rfl) rfl fun hc0 j => ?_
            exact hkk' _ _ ⟨rfl, rfl, _, _, _, _, rfl, j, hm⟩
          · rw [hx] at hm
            exact yT r157 (hk _ _ _ (by rw [hm]; exact ⟨t7, rfl⟩))
        rw [hc, if_neg Bool.false_ne_true] at hm
        refine vF (Done m lo hi b n n2 n h u (xZ ws)) (fun t w q => ?_) (fun hc kk' hkk' => ?_) (fun hc kk hkk => ?_)
        · obtain ⟨t2, t3, h8, n8, i8, ws8, rfl, j8, g8⟩ := q
          simp only [t2, t3, ↓zG, ↓xC]
          exact hkk _ _ ⟨rfl, rfl, _, _, _, _, rfl, j8, g8⟩
        · rw [hc, if_pos rfl] at hm
          refine j.num (fun x0 r0 ha0 na0 hx j => ?_) (fun e h7 n7 hx t7 => ?_)
          · rw [hx] at hm
            dsimp only at hm
            try simp only [↓tG, ↓zC]
            refine j.store sh3 (by decide) rfl (i' := { Ins.z with d := a, kind := 4 }) (fun _ => rfl) rfl fun hb0 j => ?_
            try simp only [↓rD, ↓zC]
            refine j.store sh3 (by decide) rfl (i' := { Ins.z with d := a, kind := 4, a := x0 }) (fun _ => rfl) rfl fun hc0 j => ?_
            exact hkk' _ _ ⟨rfl, rfl, _, _, _, _, rfl, j, hm⟩
          · rw [hx] at hm
            exact yT r157 (hk _ _ _ (by rw [hm]; exact ⟨t7, rfl⟩))
        rw [hc, if_neg Bool.false_ne_true] at hm
        refine vF (Done m lo hi b n n2 n h u (xZ ws)) (fun t w q => ?_) (fun hc kk' hkk' => ?_) (fun hc kk hkk => ?_)
        · obtain ⟨t2, t3, h8, n8, i8, ws8, rfl, j8, g8⟩ := q
          simp only [t2, t3, ↓zG, ↓xC]
          exact hkk _ _ ⟨rfl, rfl, _, _, _, _, rfl, j8, g8⟩
        · rw [hc, if_pos rfl] at hm
          refine j.called (fun i' r3 h7 n7 hx j => ?_) (fun e h7 n7 hx t7 => ?_)
          · rw [hx] at hm
            exact hkk' _ _ ⟨rfl, rfl, _, _, _, _, rfl, j, hm⟩
          · rw [hx] at hm
            exact yT r157 (hk _ _ _ (by rw [hm]; exact ⟨t7, rfl⟩))
        rw [hc, if_neg Bool.false_ne_true] at hm
        try simp only [↓tG, ↓qK, ↓sH, ↓zC, ↓xE]
        refine j.store sh3 (by decide) rfl (i' := { Ins.z with kind := 3, d := a }) (fun _ => rfl) rfl fun h8 j => ?_
        try simp only [↓tG, ↓qK, ↓sH, ↓zC, ↓xE]
        refine j.store sh9 (by decide) rfl (i' := { Ins.z with kind := 3, d := a, name := s }) (fun _ => rfl) rfl fun h9 j => ?_
        try simp only [↓xE]
        refine j.nums (fun l r3 v h7 n7 hx j o7 l7 b7 => ?_) (fun e h7 n7 hx t7 => ?_)
        · rw [hx] at hm
          dsimp only at hm
          try simp only [↓tG, ↓qK, ↓sH, ↓zC, ↓xE]
          refine j.args sh40 o7 l7 b7 fun h10 j e6 o10 => ?_
          have e7 := xL (P := P) us40 (o10.row (Nat.le_refl 1)) [] h10
          try simp only [↓sH, ↓e6, ↓zC, ↓e7, ↓zH]
          by_cases h1l : 1 ≤ l.length
          · rw [if_pos h1l] at hm
            have e8 : rM 1 (l.length : Nat) = true := by rw [vA]; exact decide_eq_true (by omega)
            simp only [↓e8, ↓yP]
            refine yA (fun _ => ?_) (fun e => by cases e)
            try simp only [↓sH, ↓e6, ↓zC, ↓e7, ↓zH]
            by_cases h2l : l.length ≤ 2
            · rw [if_pos h2l] at hm
              have e9 : rM (l.length : Nat) 2 = true := by rw [vA]; exact decide_eq_true (by omega)
              simp only [↓e9, ↓yP]
              refine yA (fun _ => ?_) (fun e => by cases e)
              exact hkk _ _ ⟨rfl, rfl, _, _, _, _, rfl, j, hm⟩
            · rw [if_neg h2l] at hm
              have e9 : rM (l.length : Nat) 2 = false := by rw [vA]; exact decide_eq_false (by omega)
              simp only [↓e9, ↓yP]
              refine yA (fun e => by cases e) (fun _ => ?_)
              exact yT r157 (hk _ _ _ (by rw [hm]; exact ⟨j.t, rfl⟩))
          · rw [if_neg h1l] at hm
            have e8 : rM 1 (l.length : Nat) = false := by rw [vA]; exact decide_eq_false (by omega)
            simp only [↓e8, ↓yP]
            refine yA (fun e => by cases e) (fun _ => ?_)
            exact yT r157 (hk _ _ _ (by rw [hm]; exact ⟨j.t, rfl⟩))
        · rw [hx] at hm
          exact yT r157 (hk _ _ _ (by rw [hm]; exact ⟨t7, rfl⟩))
      · rw [hs] at hm
        exact yT r157 (hk _ _ _ (by rw [hm]; exact ⟨t6, rfl⟩))
    · rw [hw] at hm
      exact yT r157 (hk _ _ _ (by rw [hm]; exact ⟨t5, rfl⟩))
 · obtain ⟨q1, q2⟩ := q
   unfold xZ at hk
   cases ha : xY ws with
   | error e => rw [ha] at q2 hk; injection q2 with q2; subst q2; exact yT r157 (hk _ _ _ ⟨(x1.touch [b]).trans q1, rfl⟩)
   | ok p => rw [ha] at q2; obtain ⟨v', q2, _⟩ := q2; cases q2
theorem one_comes {m : Int} {lo hi n b : Nat} {h : zD} {ws : List Tx} (w : WordsAt lo hi n h b ws) (hE : Env m h) (hg : 8 ≤ lo) :
 ComesE P 8 123 [ptr b 0] h n (RQV lo hi b h n (oneI ws)) := by
 refine yR zP mixed (hint := hint123) l123 fun u k hk => ?_
 rw [F123_eq]
 unfold F123
 have hn8 : 8 ≤ n := by have := w.1; have := w.2.1; omega
 have hbn : b < n := by have := w.2.1; omega
 have hm : oneI ws = oneI ws := rfl
 conv at hm => rhs; unfold oneI
 refine wS ze50 fun h1 c1 x1 => ?_
 have w1 := w.touch (x1.touch []) (fun _ h => by cases h)
 have hE1 := hE.touch (x1.touch []) hn8 (fun _ h => by cases h)
 refine wW (peek_pure w1) ?_
 have ee : ∀ (x : Tx) K, yB wJ P .eql 9 true (str x) (.string (ByteArray.mk #[61])) K = K (x == tEq) := fun x K => vB _ _ _ _ _ K
 simp only [↓ee]
 cases hq : (wordAt1 ws == tEq) with
 | true =>
  rw [hq, if_pos rfl] at hm
  simp only [↓uD]
  refine yY (defining_comes w1 hE1 hg) (fun v h2 n2 q => ?_) (fun c h2 n2 q => ?_)
  · obtain ⟨q1, q2⟩ := q
    cases ha : xZ ws with
    | error e => rw [ha] at q2; cases q2
    | ok p =>
     obtain ⟨i, r⟩ := p
     rw [ha] at q2 hm
     obtain ⟨sv, q2, o2, l2, w2⟩ := q2
     injection q2 with q2; subst q2
     have hone : ∀ x ∈ uM i sv, x.oneCell' = true := by
      intro x hx
      simp only [uM, List.mem_cons, List.not_mem_nil, or_false] at hx
      rcases hx with rfl | rfl | rfl | rfl | rfl | rfl | rfl | rfl | rfl <;> first | rfl | exact o2.one
     refine xU (c1.touch q1 (by omega) (by simp; omega)) sh50 rfl rfl hone fun h3 c3 k3 => ?_
     have t3 : TouchE [n] h2 n2 h3 n2 := zS k3 (by simp)
     refine leaveC r123 rfl (xJ c3 sh50 rfl (by decide)) (hk _ _ _ ?_)
     rw [hm]
     exact ⟨((x1.touch [b]).trans q1).step t3 (fun x hx => by simp at hx; subst hx; exact .inr (Nat.le_refl _)), sv, rfl, (o2.touch t3 (fun x hx hS => by have := (o2.ge x hx).1; simp at hS; omega)).low (by omega), l2, w2.touch t3 (fun x hx => by simp at hx; subst hx; exact .inr (by have := w.2.1; omega))⟩
  · obtain ⟨q1, q2⟩ := q
    cases ha : xZ ws with
    | error e => rw [ha] at q2 hm; injection q2 with q2; subst q2; exact yT r123 (hk _ _ _ (by rw [hm]; exact ⟨(x1.touch [b]).trans q1, rfl⟩))
    | ok p => rw [ha] at q2; obtain ⟨v', q2, _⟩ := q2; cases q2
 | false =>
  rw [hq, if_neg Bool.false_ne_true] at hm
  simp only [↓uL]
  have e1 : xP P 50 [] = some (.agg ⟨uM Ins.z (.slice none 0 0)⟩) := by kernel_rfl
  simp only [↓e1, ↓zC]
  refine wS ze50 fun h3 c3 x3 => ?_
  refine xU c3 sh50 rfl rfl (by intro x hx; simp only [uM, List.mem_cons, List.not_mem_nil, or_false] at hx; rcases hx with rfl | rfl | rfl | rfl | rfl | rfl | rfl | rfl | rfl <;> rfl) fun h4 c4 k4 => ?_
  have t14 : TouchE [n + 1] h1 (n + 1) h4 (n + 1 + 1) := (x3.touch _).trans (zS k4 (by simp))
  have t04 : TouchE [b] h n h4 (n + 1 + 1) := (x1.touch [b]).step t14 (fun x hx => by simp at hx; subst hx; exact .inr (by omega))
  have j : J m lo hi b n (n + 1) n h (n + 1 + 1) h4 Ins.z ws := by
   refine ⟨t04, hE.touch t04 hn8 (fun x hx => by simp at hx; subst hx; have := w.1; omega), w1.touch t14 (fun x hx => by simp at hx; subst hx; exact .inr (by have := w.2.1; omega)), ⟨_, rfl, c1.touch t14 (by omega) (by simp)⟩, ⟨by omega, _, c4, .inl ⟨rfl, rfl, rfl⟩, by show 0 < 100000; omega, fun e => by cases e⟩, hg, w.2.1.2, ⟨Nat.le_refl _, by omega⟩, ⟨by omega, by omega⟩⟩
  refine j.next (fun s r h6 n6 hs j => ?_) (fun e h6 n6 hs t6 => ?_)
  · rw [hs] at hm
    dsimp only at hm
    have e0 : ∀ K, yB wJ P .eql 9 true (str s) (.string (ByteArray.mk #[115, 116, 111, 114, 101])) K = K (s == tStore) := fun K => vB _ _ _ _ _ K
    have e1 : ∀ K, yB wJ P .eql 9 true (str s) (.string (ByteArray.mk #[99, 97, 108, 108])) K = K (s == tCall) := fun K => vB _ _ _ _ _ K
    have e2 : ∀ K, yB wJ P .eql 9 true (str s) (.string (ByteArray.mk #[98, 114])) K = K (s == tBr) := fun K => vB _ _ _ _ _ K
    have e3 : ∀ K, yB wJ P .eql 9 true (str s) (.string (ByteArray.mk #[106, 117, 109, 112])) K = K (s == tJump) := fun K => vB _ _ _ _ _ K
    have e4 : ∀ K, yB wJ P .eql 9 true (str s) (.string (ByteArray.mk #[114, 101, 116])) K = K (s == tRet) := fun K => vB _ _ _ _ _ K
    simp only [↓e0, ↓e1, ↓e2, ↓e3, ↓e4]
    refine tA (Done m lo hi b n (n + 1) n h u (oneI ws)) (fun t w q => ?_) (fun kk hkk => ?_)
    · obtain ⟨t2, t3, h8, n8, i8, ws8, rfl, j8, g8⟩ := q
      rw [g8] at hk
      simp only [t2, t3, ↓zG, ↓xC]
      exact j8.tell r123 (fun _ => rfl) (fun v h' n' q => hk _ _ _ q)
    refine vF (Done m lo hi b n (n + 1) n h u (oneI ws)) (fun t w q => ?_) (fun hc kk' hkk' => ?_) (fun hc kk hkk => ?_)
    · obtain ⟨t2, t3, h8, n8, i8, ws8, rfl, j8, g8⟩ := q
      simp only [t2, t3, ↓zG, ↓xC]
      exact hkk _ _ ⟨rfl, rfl, _, _, _, _, rfl, j8, g8⟩
    · rw [hc, if_pos rfl] at hm
      refine j.num (fun x0 r0 ha0 na0 hx j => ?_) (fun e h7 n7 hx t7 => ?_)
      · rw [hx] at hm
        dsimp only at hm
        try simp only [↓tG, ↓zC]
        refine j.store sh3 (by decide) rfl (i' := { Ins.z with kind := 5 }) (fun _ => rfl) rfl fun hb0 j => ?_
        try simp only [↓rD, ↓zC]
        refine j.store sh3 (by decide) rfl (i' := { Ins.z with kind := 5, a := x0 }) (fun _ => rfl) rfl fun hc0 j => ?_
        refine j.num (fun x1 r1 ha1 na1 hx j => ?_) (fun e h7 n7 hx t7 => ?_)
        · rw [hx] at hm
          dsimp only at hm
          try simp only [↓fa50_3, ↓zC]
          refine j.store sh3 (by decide) rfl (i' := { Ins.z with kind := 5, a := x0, b := x1 }) (fun _ => rfl) rfl fun hc1 j => ?_
          exact hkk' _ _ ⟨rfl, rfl, _, _, _, _, rfl, j, hm⟩
        · rw [hx] at hm
          exact yT r123 (hk _ _ _ (by rw [hm]; exact ⟨t7, rfl⟩))
      · rw [hx] at hm
        exact yT r123 (hk _ _ _ (by rw [hm]; exact ⟨t7, rfl⟩))
    rw [hc, if_neg Bool.false_ne_true] at hm
    refine vF (Done m lo hi b n (n + 1) n h u (oneI ws)) (fun t w q => ?_) (fun hc kk' hkk' => ?_) (fun hc kk hkk => ?_)
    · obtain ⟨t2, t3, h8, n8, i8, ws8, rfl, j8, g8⟩ := q
      simp only [t2, t3, ↓zG, ↓xC]
      exact hkk _ _ ⟨rfl, rfl, _, _, _, _, rfl, j8, g8⟩
    · rw [hc, if_pos rfl] at hm
      simp only [↓fa50_1, ↓zC]
      refine j.store sh3 (by decide) rfl (i' := { Ins.z with d := -1 }) (fun _ => rfl) rfl fun h8 j => ?_
      refine j.called (fun i' r3 h7 n7 hx j => ?_) (fun e h7 n7 hx t7 => ?_)
      · rw [hx] at hm
        exact hkk' _ _ ⟨rfl, rfl, _, _, _, _, rfl, j, hm⟩
      · rw [hx] at hm
        exact yT r123 (hk _ _ _ (by rw [hm]; exact ⟨t7, rfl⟩))
    rw [hc, if_neg Bool.false_ne_true] at hm
    refine vF (Done m lo hi b n (n + 1) n h u (oneI ws)) (fun t w q => ?_) (fun hc kk' hkk' => ?_) (fun hc kk hkk => ?_)
    · obtain ⟨t2, t3, h8, n8, i8, ws8, rfl, j8, g8⟩ := q
      simp only [t2, t3, ↓zG, ↓xC]
      exact hkk _ _ ⟨rfl, rfl, _, _, _, _, rfl, j8, g8⟩
    · rw [hc, if_pos rfl] at hm
      refine j.num (fun x0 r0 ha0 na0 hx j => ?_) (fun e h7 n7 hx t7 => ?_)
      · rw [hx] at hm
        dsimp only at hm
        try simp only [↓tG, ↓zC]
        refine j.store sh3 (by decide) rfl (i' := { Ins.z with kind := 7 }) (fun _ => rfl) rfl fun hb0 j => ?_
        try simp only [↓rD, ↓zC]
        refine j.store sh3 (by decide) rfl (i' := { Ins.z with kind := 7, a := x0 }) (fun _ => rfl) rfl fun hc0 j => ?_
        refine j.num (fun x1 r1 ha1 na1 hx j => ?_) (fun e h7 n7 hx t7 => ?_)
        · rw [hx] at hm
          dsimp only at hm
          try simp only [↓fa50_7, ↓zC]
          refine j.store sh3 (by decide) rfl (i' := { Ins.z with kind := 7, a := x0, t := x1 }) (fun _ => rfl) rfl fun hc1 j => ?_
          refine j.num (fun x2 r2 ha2 na2 hx j => ?_) (fun e h7 n7 hx t7 => ?_)
          · rw [hx] at hm
            dsimp only at hm
            try simp only [↓fa50_8, ↓zC]
            refine j.store sh3 (by decide) rfl (i' := { Ins.z with kind := 7, a := x0, t := x1, f := x2 }) (fun _ => rfl) rfl fun hc2 j => ?_
            exact hkk' _ _ ⟨rfl, rfl, _, _, _, _, rfl, j, hm⟩
          · rw [hx] at hm
            exact yT r123 (hk _ _ _ (by rw [hm]; exact ⟨t7, rfl⟩))
        · rw [hx] at hm
          exact yT r123 (hk _ _ _ (by rw [hm]; exact ⟨t7, rfl⟩))
      · rw [hx] at hm
        exact yT r123 (hk _ _ _ (by rw [hm]; exact ⟨t7, rfl⟩))
    rw [hc, if_neg Bool.false_ne_true] at hm
    refine vF (Done m lo hi b n (n + 1) n h u (oneI ws)) (fun t w q => ?_) (fun hc kk' hkk' => ?_) (fun hc kk hkk => ?_)
    · obtain ⟨t2, t3, h8, n8, i8, ws8, rfl, j8, g8⟩ := q
      simp only [t2, t3, ↓zG, ↓xC]
      exact hkk _ _ ⟨rfl, rfl, _, _, _, _, rfl, j8, g8⟩
    · rw [hc, if_pos rfl] at hm
      refine j.num (fun x0 r0 ha0 na0 hx j => ?_) (fun e h7 n7 hx t7 => ?_)
      · rw [hx] at hm
        dsimp only at hm
        try simp only [↓tG, ↓zC]
        refine j.store sh3 (by decide) rfl (i' := { Ins.z with kind := 8 }) (fun _ => rfl) rfl fun hb0 j => ?_
        try simp only [↓fa50_7, ↓zC]
        refine j.store sh3 (by decide) rfl (i' := { Ins.z with kind := 8, t := x0 }) (fun _ => rfl) rfl fun hc0 j => ?_
        exact hkk' _ _ ⟨rfl, rfl, _, _, _, _, rfl, j, hm⟩
      · rw [hx] at hm
        exact yT r123 (hk _ _ _ (by rw [hm]; exact ⟨t7, rfl⟩))
    rw [hc, if_neg Bool.false_ne_true] at hm
    refine vF (Done m lo hi b n (n + 1) n h u (oneI ws)) (fun t w q => ?_) (fun hc kk' hkk' => ?_) (fun hc kk hkk => ?_)
    · obtain ⟨t2, t3, h8, n8, i8, ws8, rfl, j8, g8⟩ := q
      simp only [t2, t3, ↓zG, ↓xC]
      exact hkk _ _ ⟨rfl, rfl, _, _, _, _, rfl, j8, g8⟩
    · rw [hc, if_pos rfl] at hm
      refine j.num (fun x0 r0 ha0 na0 hx j => ?_) (fun e h7 n7 hx t7 => ?_)
      · rw [hx] at hm
        dsimp only at hm
        try simp only [↓tG, ↓zC]
        refine j.store sh3 (by decide) rfl (i' := { Ins.z with kind := 9 }) (fun _ => rfl) rfl fun hb0 j => ?_
        try simp only [↓rD, ↓zC]
        refine j.store sh3 (by decide) rfl (i' := { Ins.z with kind := 9, a := x0 }) (fun _ => rfl) rfl fun hc0 j => ?_
        exact hkk' _ _ ⟨rfl, rfl, _, _, _, _, rfl, j, hm⟩
      · rw [hx] at hm
        exact yT r123 (hk _ _ _ (by rw [hm]; exact ⟨t7, rfl⟩))
    rw [hc, if_neg Bool.false_ne_true] at hm
    refine yA (fun e => by cases e) (fun _ => ?_)
    exact yT r123 (hk _ _ _ (by rw [hm]; exact ⟨j.t, rfl⟩))
  · rw [hs] at hm
    exact yT r123 (hk _ _ _ (by rw [hm]; exact ⟨t6, rfl⟩))
set_option maxRecDepth 1000000
theorem xcall_caught (L : Lo) (g : FuncId) (first cap : List Value) (u : Option zL) (h : zD) (n : Nat) (k : KO) :
 xcall P (Lo.next P L) 125 [.func (.func g) ⟨first⟩ ⟨cap⟩] false u h n k =
  yO h n (vI [.int .i64 0] 25) fun h1 n1 =>
   rZ L (.func (.func g) ⟨first⟩ ⟨cap⟩) [] h1 n1
    (fun v h2 n2 => storeAt h2 n 0 [.int .i64 0] fun h3 => tB P L Tryz.f125 none (((((fr0.set undef (.func (.func g) ⟨first⟩ ⟨cap⟩) 0).set undef (ptr n 0) 2).set undef (.func (.func 161) #[] #[ptr n 0]) 3).set undef (.func (.func g) ⟨first⟩ ⟨cap⟩) 4).set undef v 5) ⟨[{ target := .fn (.func 161) #[ptr n 0], args := #[] }], u, h3, n2⟩ k)
    (fun c h2 n2 => tB P L Tryz.f125 (some c) ((((fr0.set undef (.func (.func g) ⟨first⟩ ⟨cap⟩) 0).set undef (ptr n 0) 2).set undef (.func (.func 161) #[] #[ptr n 0]) 3).set undef (.func (.func g) ⟨first⟩ ⟨cap⟩) 4) ⟨[{ target := .fn (.func 161) #[ptr n 0], args := #[] }], u, h2, n2⟩ k) := by kernel_rfl
theorem xcall_recover0 (L : Lo) (c n : Nat) (h : zD) (k : KO) :
 xcall P (Lo.next P L) 161 [ptr c 0] true none h n k = k (.ret (.tuple ⟨[]⟩)) none h n := by kernel_rfl
theorem xcall_recover1 (L : Lo) (c n : Nat) (e : Int) (h : zD) (k : KO) :
 xcall P (Lo.next P L) 161 [ptr c 0] true (some (uZ e)) h n k =
  yO h n (vI [.int .i64 0] 191) fun h1 n1 => storeAt h1 n 0 [.int .i64 e] fun h2 =>
   Option.rec false (fun v => Bool.rec false (storeAt h2 c 0 (cellsOf v) fun h3 => k (.ret (.tuple ⟨[]⟩)) (some [⟨.iface 191 (.agg ⟨[.int .i64 e]⟩), true, false⟩]) h3 n1) (Nat.beq (cellsOf v).length 1)) (zF P 25 h2 (ptr n 0)) := by kernel_rfl
theorem res_caught : Tryz.f125.results.toList = [.cell 2 25] := by kernel_rfl
theorem caught_comes {g : FuncId} {first cap : List Value} {h : zD} {n : Nat} {Q : Out → zD → Nat → Prop}
 (hg : ∀ h1, Cel h1 n (25 + 1) [I64 0] → Ext h n h1 (n + 1) → ComesE P 8 g (first ++ ([] ++ cap)) h1 (n + 1) fun o h2 n2 => Q o h2 n2 ∧ n + 1 ≤ n2 ∧ Cel h2 n (25 + 1) [I64 0])
 (hw : ∀ c h2 n2, Q (.panic c) h2 n2 → ∃ e, c = uZ e) :
 ComesE P 8 125 [.func (.func g) ⟨first⟩ ⟨cap⟩] h n fun o h' n' => ∃ h2 n2, n + 1 ≤ n2 ∧ Cel h2 n (25 + 1) [I64 0] ∧ TouchE [n] h2 n2 h' n' ∧ ((∃ v, Q (.ret v) h2 n2 ∧ o = .ret (I64 0)) ∨ ∃ e, Q (.panic (uZ e)) h2 n2 ∧ o = .ret (I64 e)) := by
 refine comes_intro1 zP mixed fun u k hk => ?_
 rw [xcall_caught, yQ]
 have c1 : Cel (h.set .dead (vI [.int .i64 0] 25) n) n (25 + 1) [I64 0] := cel_mkC
 have x1 : Ext h n (h.set .dead (vI [.int .i64 0] 25) n) (n + 1) := set_ext
 generalize h.set .dead (vI [.int .i64 0] 25) n = h1 at c1 x1
 refine hg h1 c1 x1 none _ fun o h2 n2 q => ?_
 obtain ⟨q, hn, c2⟩ := q
 cases o with
 | ret v =>
  refine tM c2 (by simp) rfl fun h3 c3 k3 => ?_
  have t3 : TouchE [n] h2 n2 h3 n2 := zS k3 (by simp)
  refine xleave_defer0 (Q := fun h' n' => h' = h3 ∧ n' = n2) (v := .tuple ⟨[]⟩) (fun k' hk' => call_intro1 zP mixed ?_) (fun h' n' q' => ?_)
  · show xcall P (lo1 P 8) 161 [ptr n 0] true none h3 n2 k' = true
    rw [xcall_recover0]
    exact hk' _ _ ⟨rfl, rfl⟩
  · obtain ⟨rfl, rfl⟩ := q'
    exact leave_intro zP (xleave_cell res_caught (v := I64 0) (zI c3 sh25 rfl) (hk _ _ _ ⟨h2, n', hn, c2, t3, .inl ⟨v, q, rfl⟩⟩))
 | panic c =>
  obtain ⟨e, rfl⟩ := hw _ _ _ q
  refine xleave_defer1 (c := uZ e) (Q := fun h' n' => TouchE [n] h2 n2 h' n' ∧ Cel h' n (25 + 1) [I64 e]) (v := .tuple ⟨[]⟩) (x := .iface 191 (.agg ⟨[.int .i64 e]⟩)) (fun k' hk' => call_intro1 zP mixed ?_) (fun h' n' q' => ?_)
  · show xcall P (lo1 P 8) 161 [ptr n 0] true (some (uZ e)) h2 n2 k' = true
    rw [xcall_recover1, yQ]
    have c4 : Cel (h2.set .dead (vI [.int .i64 0] 191) n2) n2 (191 + 1) [I64 0] := cel_mkC
    have x4 : Ext h2 n2 (h2.set .dead (vI [.int .i64 0] 191) n2) (n2 + 1) := set_ext
    generalize h2.set .dead (vI [.int .i64 0] 191) n2 = h4 at c4 x4
    refine tM c4 (by simp) rfl fun h5 c5 k5 => ?_
    have e5 : zF P 25 h5 (ptr n2 0) = some (I64 e) := zI c5 sh25 rfl
    rw [e5]
    have c6 := (c2.touch (x4.touch []) (by omega) (by simp)).touch (zS (n := n2 + 1) k5 (S := [n2]) (by simp)) (by omega) (by simp; omega)
    refine tM (v := I64 e) c6 (by simp) rfl fun h7 c7 k7 => hk' _ _ ⟨?_, c7⟩
    exact (x4.touch [n]).step ((zS (n := n2 + 1) k5 (S := [n, n2]) (by simp)).trans (zS k7 (by simp))) (fun x hx => by simp at hx; rcases hx with rfl | rfl; exact .inl (by simp); exact .inr (Nat.le_refl _))
  · obtain ⟨q1, q2⟩ := q'
    exact leave_intro zP (xleave_cell res_caught (v := I64 e) (zI q2 sh25 rfl) (hk _ _ _ ⟨h2, n2, hn, c2, q1, .inr ⟨e, q, rfl⟩⟩))
set_option maxRecDepth 100000
def RO (M : List Nat) (n : Nat) (h : zD) (v : Value) (e sz len : Nat) (vs : List Value) : Prop := Row n h v e sz len vs ∧ (∀ b, wB v = some b → b ∉ M) ∧ ∀ b m z, wB v = some b → tS (zU h b) ≠ some (m, z + 1, 0)
theorem RO.step {M M' S : List Nat} {n n' : Nat} {h h' : zD} {v : Value} {e sz len : Nat} {vs : List Value} (r : RO M n h v e sz len vs) (t : TouchE S h n h' n') (hS : ∀ x ∈ S, x ∈ M ∨ n ≤ x) (hM : ∀ x ∈ M', x ∈ M ∨ n ≤ x) : RO M' n' h' v e sz len vs := by
 refine ⟨r.1.touch t fun b hb hbS => ?_, fun b hb hbM => ?_, fun b m z hb hi => ?_⟩
 · have := r.1.lt b hb
   rcases hS b hbS with h1 | h1
   · exact r.2.1 b hb h1
   · omega
 · have := r.1.lt b hb
   rcases hM b hbM with h1 | h1
   · exact r.2.1 b hb h1
   · omega
 · have hlt := r.1.lt b hb
   rw [t.2 b hlt (fun hbS => (hS b hbS).elim (r.2.1 b hb) (fun h => by omega))] at hi
   exact r.2.2 b m z hb hi
theorem own_ro {M : List Nat} {lo n : Nat} {h : zD} {v : Value} {e sz len : Nat} {vs : List Value} (o : Own lo n h v e sz len vs) (hsz : 1 ≤ sz) (hM : ∀ b, wB v = some b → b ∉ M) : RO M n h v e sz len vs := by
 refine ⟨o.row hsz, hM, fun b m z hb hi => ?_⟩
 rcases o with ⟨rfl, _⟩ | ⟨b', q1, q2, rfl, q3, _⟩
 · cases hb
 · injection hb with hb
   subst hb
   rw [q3] at hi
   injection hi with hi; injection hi with _ hi; injection hi with _ hi; cases hi
theorem RO.hole {M : List Nat} {n n' x m z : Nat} {h h' : zD} {v : Value} {e sz len : Nat} {vs : List Value} (r : RO M n h v e sz len vs) (t : TouchE [x] h n h' n') (hx : tS (zU h x) = some (m, z + 1, 0)) : RO M n' h' v e sz len vs := by
 have hne : ∀ b, wB v = some b → b ≠ x := fun b hb e => r.2.2 b m z hb (by rw [e]; exact hx)
 refine ⟨r.1.touch t fun b hb hbS => hne b hb (by simpa using hbS), r.2.1, fun b m z hb hi => ?_⟩
 rw [t.2 b (r.1.lt b hb) (by simpa using hne b hb)] at hi
 exact r.2.2 b m z hb hi
theorem Own.hole {lo n n' x m z : Nat} {h h' : zD} {v : Value} {e sz len : Nat} {vs : List Value} (o : Own lo n h v e sz len vs) (t : TouchE [x] h n h' n') (hx : tS (zU h x) = some (m, z + 1, 0)) : Own lo n' h' v e sz len vs := by
 refine o.touch t fun b hb hbS => ?_
 simp at hbS
 subst hbS
 rcases o with ⟨rfl, _⟩ | ⟨b', q1, q2, rfl, q3, _⟩
 · cases hb
 · injection hb with hb
   subst hb
   rw [q3] at hx
   injection hx with hx; injection hx with _ hx; injection hx with _ hx; cases hx
def uS (l : List Ins) (av : List Value) : List Value := (l.zip av).flatMap fun p => uM p.1 p.2
theorem insFlat_add {l : List Ins} {av : List Value} (h : av.length = l.length) (i : Ins) (a : Value) : uS (l ++ [i]) (av ++ [a]) = uS l av ++ uM i a := by
 unfold uS
 rw [List.zip_append h.symm, List.flatMap_append]
 simp
def ArgsOK (M : List Nat) (n : Nat) (h : zD) (l : List Ins) (av : List Value) : Prop := av.length = l.length ∧ ∀ (j : Nat) (i : Ins) (a : Value), l[j]? = some i → av[j]? = some a → RO M n h a 3 1 i.args.length (i.args.map I64)
def BlkRO (M : List Nat) (n : Nat) (h : zD) (v : Value) (l : List Ins) : Prop := ∃ av, ArgsOK M n h l av ∧ RO M n h v 50 9 l.length (uS l av)
def BlkOwn (M : List Nat) (lo n : Nat) (h : zD) (v : Value) (l : List Ins) : Prop := ∃ av, ArgsOK M n h l av ∧ Own lo n h v 50 9 l.length (uS l av)
theorem ArgsOK.step {M M' S : List Nat} {n n' : Nat} {h h' : zD} {l : List Ins} {av : List Value} (r : ArgsOK M n h l av) (t : TouchE S h n h' n') (hS : ∀ x ∈ S, x ∈ M ∨ n ≤ x) (hM : ∀ x ∈ M', x ∈ M ∨ n ≤ x) : ArgsOK M' n' h' l av :=
 ⟨r.1, fun j i a h1 h2 => (r.2 j i a h1 h2).step t hS hM⟩
theorem BlkRO.step {M M' S : List Nat} {n n' : Nat} {h h' : zD} {v : Value} {l : List Ins} (r : BlkRO M n h v l) (t : TouchE S h n h' n') (hS : ∀ x ∈ S, x ∈ M ∨ n ≤ x) (hM : ∀ x ∈ M', x ∈ M ∨ n ≤ x) : BlkRO M' n' h' v l := by
 obtain ⟨av, a, b⟩ := r
 exact ⟨av, a.step t hS hM, b.step t hS hM⟩
def pO (svs : List Value) : List Nat := (svs.getLast?.bind wB).toList
def MM (pb rb : Nat) (bv : Value) (svs : List Value) : List Nat := (List.range' pb 8 ++ [rb]) ++ (wB bv).toList ++ pO svs
structure BlksAt (M : List Nat) (lo n : Nat) (h : zD) (bs : List (List Ins)) (svs : List Value) : Prop where
 len : svs.length = bs.length
 ro : ∀ (k : Nat) (l : List Ins) (v : Value), k + 1 < bs.length → bs[k]? = some l → svs[k]? = some v → BlkRO M n h v l
 last : ∀ (l : List Ins) (v : Value), bs.getLast? = some l → svs.getLast? = some v → BlkOwn M lo n h v l
structure RAt (lo n : Nat) (h : zD) (pb rb : Nat) (f : Fct) (vv pv bv : Value) (svs : List Value) : Prop where
 cel : Cel h rb 0 [str f.name, vv, pv, str f.result, bv]
 low : 8 ≤ lo ∧ lo ≤ pb ∧ lo ≤ rb ∧ pb + 7 < n ∧ rb < n ∧ rb < pb
 vr : RO (MM pb rb bv svs) n h vv 9 1 f.vregs.length (f.vregs.map str)
 pr : RO (MM pb rb bv svs) n h pv 3 1 f.params.length (f.params.map I64)
 bo : Own lo n h bv 51 1 f.blocks.length svs
 bne : ∀ b, wB bv = some b → (b < pb ∨ pb + 7 < b) ∧ b ≠ rb
 lne : ∀ b, svs.getLast?.bind wB = some b → (b < pb ∨ pb + 7 < b) ∧ b ≠ rb ∧ wB bv ≠ some b
 bl : BlksAt (MM pb rb bv svs) lo n h f.blocks svs
 bnd : f.blocks.length ≤ 200
theorem mem_MM {pb rb : Nat} {bv : Value} {svs : List Value} {x : Nat} : x ∈ MM pb rb bv svs ↔ (pb ≤ x ∧ x ≤ pb + 7) ∨ x = rb ∨ wB bv = some x ∨ svs.getLast?.bind wB = some x := by
 unfold MM pO
 simp only [List.mem_append, List.mem_cons, List.not_mem_nil, or_false, Option.mem_toList, List.mem_range'_1]
 constructor
 · rintro (((h | h) | h) | h)
   · exact .inl ⟨h.1, by omega⟩
   · exact .inr (.inl h)
   · exact .inr (.inr (.inl h))
   · exact .inr (.inr (.inr h))
 · rintro (h | h | h | h)
   · exact .inl (.inl (.inl ⟨h.1, by omega⟩))
   · exact .inl (.inl (.inr h))
   · exact .inl (.inr h)
   · exact .inr h
theorem RAt.lt {lo n : Nat} {h : zD} {pb rb : Nat} {f : Fct} {vv pv bv : Value} {svs : List Value} (r : RAt lo n h pb rb f vv pv bv svs) : ∀ x ∈ MM pb rb bv svs, lo ≤ x ∧ x < n := by
 intro x hx
 obtain ⟨l1, l2, l3, l4, l5, l6⟩ := r.low
 rcases mem_MM.1 hx with hx | rfl | hx | hx
 · omega
 · exact ⟨l3, l5⟩
 · exact r.bo.ge x hx
 · cases hs : svs.getLast? with
   | none => rw [hs] at hx; cases hx
   | some v =>
    rw [hs] at hx
    cases hb : f.blocks.getLast? with
    | none =>
     have h1 : f.blocks = [] := List.getLast?_eq_none_iff.1 hb
     have h2 := r.bl.len
     rw [h1] at h2
     have h3 : svs = [] := List.length_eq_zero_iff.1 h2
     rw [h3] at hs; cases hs
    | some l =>
     obtain ⟨av, _, o⟩ := r.bl.last l v hb hs
     exact o.ge x hx
theorem RAt.step {lo n n' : Nat} {h h' : zD} {pb rb : Nat} {f f' : Fct} {vv pv bv vv' pv' : Value} {svs : List Value} {S : List Nat} (r : RAt lo n h pb rb f vv pv bv svs) (t : TouchE S h n h' n') (hS : ∀ x ∈ S, (pb ≤ x ∧ x ≤ pb + 7) ∨ x = rb ∨ n ≤ x)
 (hb : f'.blocks = f.blocks) (c : Cel h' rb 0 [str f'.name, vv', pv', str f'.result, bv]) (hv : RO (MM pb rb bv svs) n' h' vv' 9 1 f'.vregs.length (f'.vregs.map str)) (hp : RO (MM pb rb bv svs) n' h' pv' 3 1 f'.params.length (f'.params.map I64)) :
 RAt lo n' h' pb rb f' vv' pv' bv svs := by
 obtain ⟨l1, l2, l3, l4, l5, l6⟩ := r.low
 have hS' : ∀ x ∈ S, x ∈ MM pb rb bv svs ∨ n ≤ x := fun x hx => by
  rcases hS x hx with h1 | rfl | h1
  · exact .inl (mem_MM.2 (.inl h1))
  · exact .inl (mem_MM.2 (.inr (.inl rfl)))
  · exact .inr h1
 have hM : ∀ x ∈ MM pb rb bv svs, x ∈ MM pb rb bv svs ∨ n ≤ x := fun x hx => .inl hx
 refine ⟨c, ⟨l1, l2, l3, Nat.lt_of_lt_of_le l4 t.1, Nat.lt_of_lt_of_le l5 t.1, l6⟩, hv, hp, ?_, r.bne, r.lne, ⟨?_, ?_, ?_⟩, by rw [hb]; exact r.bnd⟩
 · rw [hb]
   refine r.bo.touch t fun b hb hbS => ?_
   have := r.bne b hb
   have := (r.bo.ge b hb).2
   rcases hS b hbS with h1 | h1 | h1 <;> omega
 · rw [hb]; exact r.bl.len
 · rw [hb]; exact fun k l v h1 h2 h3 => (r.bl.ro k l v h1 h2 h3).step t hS' hM
 · rw [hb]
   intro l v h1 h2
   obtain ⟨av, a, o⟩ := r.bl.last l v h1 h2
   refine ⟨av, a.step t hS' hM, o.touch t fun b hb hbS => ?_⟩
   have h3 := r.lne b (by rw [h2]; exact hb)
   have := (o.ge b hb).2
   rcases hS b hbS with h1 | h1 | h1 <;> omega
theorem RAt.hole {lo n n' x m z : Nat} {h h' : zD} {pb rb : Nat} {f : Fct} {vv pv bv : Value} {svs : List Value} (r : RAt lo n h pb rb f vv pv bv svs) (t : TouchE [x] h n h' n') (hx : tS (zU h x) = some (m, z + 1, 0)) : RAt lo n' h' pb rb f vv pv bv svs := by
 obtain ⟨l1, l2, l3, l4, l5, l6⟩ := r.low
 refine ⟨r.cel.touch t l5 fun hr => ?_, ⟨l1, l2, l3, Nat.lt_of_lt_of_le l4 t.1, Nat.lt_of_lt_of_le l5 t.1, l6⟩, r.vr.hole t hx, r.pr.hole t hx, Own.hole r.bo t hx, r.bne, r.lne, ⟨r.bl.len, fun k l v h1 h2 h3 => ?_, fun l v h1 h2 => ?_⟩, r.bnd⟩
 · simp at hr
   subst hr
   rw [r.cel.1] at hx
   injection hx with hx; injection hx with _ hx; injection hx with hx _; cases hx
 · obtain ⟨av, a, b⟩ := r.bl.ro k l v h1 h2 h3
   exact ⟨av, ⟨a.1, fun j i a' g1 g2 => (a.2 j i a' g1 g2).hole t hx⟩, b.hole t hx⟩
 · obtain ⟨av, a, b⟩ := r.bl.last l v h1 h2
   exact ⟨av, ⟨a.1, fun j i a' g1 g2 => (a.2 j i a' g1 g2).hole t hx⟩, Own.hole b t hx⟩
structure KW (m : Int) (S : List Nat) (nc hi b n0 : Nat) (h0 : zD) (n : Nat) (h : zD) (ws : List Tx) : Prop where
 t : TouchE S h0 n0 h n
 env : Env m h
 w : WordsAt n0 hi n h b ws
 g : 8 ≤ n0
 nn : nc ≤ n
section
variable {m : Int} {S : List Nat} {nc hi b n0 n : Nat} {h0 h : zD} {ws : List Tx}
theorem KW.call (j : KW m S nc hi b n0 h0 n h ws) {h' : zD} {n' : Nat} {ws' : List Tx} (t : TouchE [b] h n h' n') (w : WordsAt n0 hi n' h' b ws') : KW m S nc hi b n0 h0 n' h' ws' := by
 have h1 := j.g; have h2 := j.w.1; have h3 := j.w.2.1
 exact ⟨j.t.step t (fun x hx => by simp at hx; subst hx; exact .inr h2), j.env.touch t (by omega) (fun x hx => by simp at hx; omega), w, h1, Nat.le_trans j.nn t.1⟩
theorem KW.mono (j : KW m S nc hi b n0 h0 n h ws) {S' : List Nat} (hS : ∀ x ∈ S, x ∈ S') : KW m S' nc hi b n0 h0 n h ws := ⟨j.t.mono hS, j.env, j.w, j.g, j.nn⟩
theorem KW.wr (j : KW m S nc hi b n0 h0 n h ws) {h' : zD} {n' : Nat} {S' : List Nat} (t : TouchE S' h n h' n') (hS : ∀ x ∈ S', (x ∈ S ∧ 8 ≤ x ∧ x < n0) ∨ n ≤ x) : KW m S nc hi b n0 h0 n' h' ws := by
 have h1 := j.g; have h2 := j.w.1; have h3 := j.w.2.1; have h4 := j.t.1
 refine ⟨j.t.step t (fun x hx => (hS x hx).elim (fun q => .inl q.1) (fun q => .inr (by omega))), j.env.touch t (by omega) (fun x hx => (hS x hx).elim (fun q => q.2.1) (fun q => by omega)), j.w.touch t (fun x hx => (hS x hx).elim (fun q => .inl q.2.2) (fun q => .inr (by omega))), h1, Nat.le_trans j.nn t.1⟩
theorem KW.name (j : KW m S nc hi b n0 h0 n h ws) {Kp : KC} {K : Value → zD → Nat → Bool} (hK : ∀ a r h' n', sK ws = .ok (a, r) → TouchE [b] h n h' n' → KW m S nc hi b n0 h0 n' h' r → K (str a) h' n' = true)
 (hp : ∀ e h' n', sK ws = .error e → TouchE S h0 n0 h' n' → Kp (uZ e) h' n' = true) : yX (loS P 8) 117 [ptr b 0] h n Kp K = true := by
 have hb := j.w.1
 refine yY (name_comes j.w) (fun v h1 n1 q => ?_) (fun c h1 n1 q => ?_)
 · obtain ⟨q1, q2⟩ := q
   cases ha : sK ws with
   | error e => rw [ha] at q2; cases q2
   | ok p =>
    rw [ha] at q2
    obtain ⟨v', q2, e, w1⟩ := q2
    injection q2 with q2; subst q2
    subst e; exact hK _ _ _ _ ha q1 (j.call q1 w1)
 · obtain ⟨q1, q2⟩ := q
   cases ha : sK ws with
   | error e => rw [ha] at q2; injection q2 with q2; subst q2; exact hp _ _ _ ha (j.t.step q1 (fun x hx => by simp at hx; subst hx; exact .inr hb))
   | ok p => rw [ha] at q2; obtain ⟨v', q2, _⟩ := q2; cases q2
theorem KW.want (j : KW m S nc hi b n0 h0 n h ws) (x : Tx) {Kp : KC} {K : Value → zD → Nat → Bool} (hK : ∀ r h' n', wantW x ws = .ok ((), r) → TouchE [b] h n h' n' → KW m S nc hi b n0 h0 n' h' r → K (.tuple ⟨[]⟩) h' n' = true)
 (hp : ∀ e h' n', wantW x ws = .error e → TouchE S h0 n0 h' n' → Kp (uZ e) h' n' = true) : yX (loS P 8) 116 [ptr b 0, str x] h n Kp K = true := by
 have hb := j.w.1
 refine yY (want_comes j.w x) (fun v h1 n1 q => ?_) (fun c h1 n1 q => ?_)
 · obtain ⟨q1, q2⟩ := q
   cases ha : wantW x ws with
   | error e => rw [ha] at q2; cases q2
   | ok p =>
    rw [ha] at q2
    obtain ⟨v', q2, e, w1⟩ := q2
    injection q2 with q2; subst q2
    subst e; exact hK _ _ _ ha q1 (j.call q1 w1)
 · obtain ⟨q1, q2⟩ := q
   cases ha : wantW x ws with
   | error e => rw [ha] at q2; injection q2 with q2; subst q2; exact hp _ _ _ ha (j.t.step q1 (fun x hx => by simp at hx; subst hx; exact .inr hb))
   | ok p => rw [ha] at q2; obtain ⟨v', q2, _⟩ := q2; cases q2
theorem KW.fin (j : KW m S nc hi b n0 h0 n h ws) {Kp : KC} {K : Value → zD → Nat → Bool} (hK : ∀ r h' n', endW ws = .ok ((), r) → TouchE [b] h n h' n' → KW m S nc hi b n0 h0 n' h' r → K (.tuple ⟨[]⟩) h' n' = true)
 (hp : ∀ e h' n', endW ws = .error e → TouchE S h0 n0 h' n' → Kp (uZ e) h' n' = true) : yX (loS P 8) 118 [ptr b 0] h n Kp K = true := by
 have hb := j.w.1
 refine yY (end_comes j.w) (fun v h1 n1 q => ?_) (fun c h1 n1 q => ?_)
 · obtain ⟨q1, q2⟩ := q
   cases ha : endW ws with
   | error e => rw [ha] at q2; cases q2
   | ok p =>
    rw [ha] at q2
    obtain ⟨v', q2, e, w1⟩ := q2
    injection q2 with q2; subst q2
    subst e; exact hK _ _ _ ha q1 (j.call q1 w1)
 · obtain ⟨q1, q2⟩ := q
   cases ha : endW ws with
   | error e => rw [ha] at q2; injection q2 with q2; subst q2; exact hp _ _ _ ha (j.t.step q1 (fun x hx => by simp at hx; subst hx; exact .inr hb))
   | ok p => rw [ha] at q2; obtain ⟨v', q2, _⟩ := q2; cases q2
theorem KW.names (j : KW m S nc hi b n0 h0 n h ws) {Kp : KC} {K : Value → zD → Nat → Bool} (hK : ∀ l r v h' n', tF ws = .ok (l, r) → TouchE [b] h n h' n' → KW m S nc hi b n0 h0 n' h' r → Own n0 n' h' v 9 1 l.length (l.map str) → l.length < 100000 → K v h' n' = true)
 (hp : ∀ e h' n', tF ws = .error e → TouchE S h0 n0 h' n' → Kp (uZ e) h' n' = true) : yX (loS P 8) 119 [ptr b 0, .func (.func 117) ⟨[ptr b 0]⟩ ⟨[]⟩] h n Kp K = true := by
 have hb := j.w.1
 have hlo : 8 ≤ n0 := j.g
 refine yY (restS_comes j.w j.env j.g) (fun v h1 n1 q => ?_) (fun c h1 n1 q => ?_)
 · obtain ⟨q1, q2⟩ := q
   cases ha : tF ws with
   | error e => rw [ha] at q2; cases q2
   | ok p =>
    rw [ha] at q2
    obtain ⟨v', q2, o1, l1, w1⟩ := q2
    injection q2 with q2; subst q2
    exact hK _ _ _ _ _ ha q1 (j.call q1 w1) (o1.low j.t.1) l1
 · obtain ⟨q1, q2⟩ := q
   cases ha : tF ws with
   | error e => rw [ha] at q2; injection q2 with q2; subst q2; exact hp _ _ _ ha (j.t.step q1 (fun x hx => by simp at hx; subst hx; exact .inr hb))
   | ok p => rw [ha] at q2; obtain ⟨v', q2, _⟩ := q2; cases q2
theorem KW.nums (j : KW m S nc hi b n0 h0 n h ws) {Kp : KC} {K : Value → zD → Nat → Bool} (hK : ∀ l r v h' n', vJ ws = .ok (l, r) → TouchE [b] h n h' n' → KW m S nc hi b n0 h0 n' h' r → Own n0 n' h' v 3 1 l.length (l.map I64) → l.length < 100000 → K v h' n' = true)
 (hp : ∀ e h' n', vJ ws = .error e → TouchE S h0 n0 h' n' → Kp (uZ e) h' n' = true) : yX (loS P 8) 121 [ptr b 0, .func (.func 122) ⟨[ptr b 0]⟩ ⟨[]⟩] h n Kp K = true := by
 have hb := j.w.1
 have hlo : 8 ≤ n0 := j.g
 refine yY (restI_comes j.w j.env j.g) (fun v h1 n1 q => ?_) (fun c h1 n1 q => ?_)
 · obtain ⟨q1, q2⟩ := q
   cases ha : vJ ws with
   | error e => rw [ha] at q2; cases q2
   | ok p =>
    rw [ha] at q2
    obtain ⟨v', q2, o1, l1, w1⟩ := q2
    injection q2 with q2; subst q2
    exact hK _ _ _ _ _ ha q1 (j.call q1 w1) (o1.low j.t.1) l1
 · obtain ⟨q1, q2⟩ := q
   cases ha : vJ ws with
   | error e => rw [ha] at q2; injection q2 with q2; subst q2; exact hp _ _ _ ha (j.t.step q1 (fun x hx => by simp at hx; subst hx; exact .inr hb))
   | ok p => rw [ha] at q2; obtain ⟨v', q2, _⟩ := q2; cases q2
end
def HQ (lo pb rb : Nat) (bv : Value) (svs : List Value) (h0 : zD) (n0 nc : Nat) (r : Except Int Fct) : Out → zD → Nat → Prop := fun o h' n' => TouchE [rb] h0 n0 h' n' ∧
 match r with
 | .ok f' => o = .ret (.tuple ⟨[]⟩) ∧ nc ≤ n' ∧ ∃ vv pv, RAt lo n' h' pb rb f' vv pv bv svs
 | .error e => o = .panic (uZ e)
theorem hname_comes {m : Int} {lo hi n n0 b pb rb : Nat} {h h0 : zD} {ws : List Tx} {f : Fct} {vv pv bv : Value} {svs : List Value} {op en : Bool} (r : RAt lo n0 h0 pb rb f vv pv bv svs) (j : KW m [] n hi b n0 h0 n h ws) :
 ComesE P 8 63 [ptr rb 0, ptr b 0] h n (HQ lo pb rb bv svs h0 n0 n (rP ⟨0, op, en, f⟩ ws)) := by
 obtain ⟨l1, l2, l3, l4, l5, l6⟩ := r.low
 have hb := j.w.1
 have hrb : rb ≠ b := by omega
 refine yR zP mixed (hint := hint63) l63 fun u k hk => ?_
 rw [F63_eq]
 unfold F63
 unfold rP at hk
 dsimp only at hk
 refine j.want tFunc (fun r1 h1 n1 ha u1 j1 => ?_) (fun e h1 n1 ha t1 => ?_)
 · rw [ha] at hk
   dsimp only at hk
   refine j1.name (fun s r2 h2 n2 ha2 u2 j2 => ?_) (fun e h2 n2 ha2 t2 => ?_)
   · rw [ha2] at hk
     dsimp only at hk
     have c2 := r.cel.touch j2.t l5 (by simp)
     try simp only [↓yS, ↓qL, ↓fa43_0, ↓zC]
     refine xQ c2 sh9 (by simp) rfl fun h3 c3 k3 => ?_
     have t3 : TouchE [rb] h2 n2 h3 n2 := zS k3 (by simp)
     have j3 := (j2.mono (S' := [rb]) (by simp)).wr t3 (fun x hx => by simp at hx; subst hx; exact .inl ⟨by simp, by omega, l5⟩)
     have l52 : rb < n2 := Nat.lt_of_lt_of_le l5 j2.t.1
     refine j3.fin (fun r4 h4 n4 ha4 u4 j4 => ?_) (fun e h4 n4 ha4 t4 => ?_)
     · rw [ha4] at hk
       refine qE r63 (hk _ _ _ ⟨j4.t, rfl, j4.nn, vv, pv, r.step j4.t (fun x hx => by simp at hx; exact .inr (.inl hx)) rfl ?_ ?_ ?_⟩)
       · have c4 : Cel h4 rb 0 [str s, vv, pv, str f.result, bv] := Cel.touch c3 u4 l52 (by simp; omega)
         exact c4
       · exact r.vr.step j4.t (fun x hx => by simp at hx; subst hx; exact .inl (mem_MM.2 (.inr (.inl rfl)))) (fun x hx => .inl hx)
       · exact r.pr.step j4.t (fun x hx => by simp at hx; subst hx; exact .inl (mem_MM.2 (.inr (.inl rfl)))) (fun x hx => .inl hx)
     · rw [ha4] at hk
       exact yT r63 (hk _ _ _ ⟨t4, rfl⟩)
   · rw [ha2] at hk
     exact yT r63 (hk _ _ _ ⟨t2.mono (by simp), rfl⟩)
 · rw [ha] at hk
   exact yT r63 (hk _ _ _ ⟨t1.mono (by simp), rfl⟩)
theorem hregs_comes {m : Int} {lo hi n n0 b pb rb : Nat} {h h0 : zD} {ws : List Tx} {f : Fct} {vv pv bv : Value} {svs : List Value} {op en : Bool} (r : RAt lo n0 h0 pb rb f vv pv bv svs) (j : KW m [] n hi b n0 h0 n h ws) :
 ComesE P 8 64 [ptr rb 0, ptr b 0] h n (HQ lo pb rb bv svs h0 n0 n (rP ⟨1, op, en, f⟩ ws)) := by
 obtain ⟨l1, l2, l3, l4, l5, l6⟩ := r.low
 have hb := j.w.1
 have hrb : rb ≠ b := by omega
 refine yR zP mixed (hint := hint64) l64 fun u k hk => ?_
 rw [F64_eq]
 unfold F64
 unfold rP at hk
 dsimp only at hk
 refine j.want tRegs (fun r1 h1 n1 ha u1 j1 => ?_) (fun e h1 n1 ha t1 => ?_)
 · rw [ha] at hk
   dsimp only at hk
   try simp only [↓xE]
   refine j1.names (fun l r2 v h2 n2 ha2 u2 j2 o2 l2' => ?_) (fun e h2 n2 ha2 t2 => ?_)
   · rw [ha2] at hk
     dsimp only at hk
     have c2 := r.cel.touch j2.t l5 (by simp)
     try simp only [↓yS, ↓qL, ↓qI, ↓zC]
     refine xQ c2 sh23 (by simp) o2.one fun h3 c3 k3 => ?_
     have t3 : TouchE [rb] h2 n2 h3 n2 := zS k3 (by simp)
     have j3 := (j2.mono (S' := [rb]) (by simp)).wr t3 (fun x hx => by simp at hx; subst hx; exact .inl ⟨by simp, by omega, l5⟩)
     have o3 := o2.touch t3 (fun x hx hS => by have := (o2.ge x hx).1; simp at hS; omega)
     have c3' : Cel h3 rb 0 [str f.name, v, pv, str f.result, bv] := c3
     have e1 : zF P 23 h3 (.pointer (some ⟨rb, 1, none⟩)) = some v := zI c3' sh23 rfl
     have e2 := xL (P := P) us23 (o3.row (Nat.le_refl 1)) [] h3
     try simp only [↓yS, ↓qL, ↓qI, ↓zC, ↓e1, ↓e2, ↓zH]
     by_cases hl : l.length ≤ 500
     · rw [if_pos hl] at hk
       have e3 : rM (l.length : Nat) 500 = true := by rw [vA]; exact decide_eq_true (by omega)
       simp only [↓e3, ↓yP]
       refine yA (fun _ => ?_) (fun e => by cases e)
       refine qE r64 (hk _ _ _ ⟨j3.t, rfl, j3.nn, v, pv, r.step j3.t (fun x hx => by simp at hx; exact .inr (.inl hx)) rfl c3' ?_ ?_⟩)
       · exact own_ro o3 (Nat.le_refl 1) (fun x hx hM => by have h8 := (o3.ge x hx).1; have h9 := (r.lt x hM).2; omega)
       · exact r.pr.step j3.t (fun x hx => by simp at hx; subst hx; exact .inl (mem_MM.2 (.inr (.inl rfl)))) (fun x hx => .inl hx)
     · rw [if_neg hl] at hk
       have e3 : rM (l.length : Nat) 500 = false := by rw [vA]; exact decide_eq_false (by omega)
       simp only [↓e3, ↓yP]
       refine yA (fun e => by cases e) (fun _ => ?_)
       exact yT r64 (hk _ _ _ ⟨j3.t, rfl⟩)
   · rw [ha2] at hk
     exact yT r64 (hk _ _ _ ⟨t2.mono (by simp), rfl⟩)
 · rw [ha] at hk
   exact yT r64 (hk _ _ _ ⟨t1.mono (by simp), rfl⟩)
theorem hparams_comes {m : Int} {lo hi n n0 b pb rb : Nat} {h h0 : zD} {ws : List Tx} {f : Fct} {vv pv bv : Value} {svs : List Value} {op en : Bool} (r : RAt lo n0 h0 pb rb f vv pv bv svs) (j : KW m [] n hi b n0 h0 n h ws) :
 ComesE P 8 65 [ptr rb 0, ptr b 0] h n (HQ lo pb rb bv svs h0 n0 n (rP ⟨2, op, en, f⟩ ws)) := by
 obtain ⟨l1, l2, l3, l4, l5, l6⟩ := r.low
 have hb := j.w.1
 have hrb : rb ≠ b := by omega
 refine yR zP mixed (hint := hint65) l65 fun u k hk => ?_
 rw [F65_eq]
 unfold F65
 unfold rP at hk
 dsimp only at hk
 refine j.want qH (fun r1 h1 n1 ha u1 j1 => ?_) (fun e h1 n1 ha t1 => ?_)
 · rw [ha] at hk
   dsimp only at hk
   try simp only [↓xE]
   refine j1.nums (fun l r2 v h2 n2 ha2 u2 j2 o2 l2' => ?_) (fun e h2 n2 ha2 t2 => ?_)
   · rw [ha2] at hk
     dsimp only at hk
     have c2 := r.cel.touch j2.t l5 (by simp)
     try simp only [↓yS, ↓qL, ↓fa43_2, ↓zC]
     refine xQ c2 sh40 (by simp) o2.one fun h3 c3 k3 => ?_
     have t3 : TouchE [rb] h2 n2 h3 n2 := zS k3 (by simp)
     have j3 := (j2.mono (S' := [rb]) (by simp)).wr t3 (fun x hx => by simp at hx; subst hx; exact .inl ⟨by simp, by omega, l5⟩)
     have o3 := o2.touch t3 (fun x hx hS => by have := (o2.ge x hx).1; simp at hS; omega)
     have c3' : Cel h3 rb 0 [str f.name, vv, v, str f.result, bv] := c3
     have e1 : zF P 40 h3 (.pointer (some ⟨rb, 2, none⟩)) = some v := zI c3' sh40 rfl
     have e2 := xL (P := P) us40 (o3.row (Nat.le_refl 1)) [] h3
     try simp only [↓yS, ↓qL, ↓fa43_2, ↓zC, ↓e1, ↓e2, ↓zH]
     by_cases hl : l.length ≤ 16
     · rw [if_pos hl] at hk
       have e3 : rM (l.length : Nat) 16 = true := by rw [vA]; exact decide_eq_true (by omega)
       simp only [↓e3, ↓yP]
       refine yA (fun _ => ?_) (fun e => by cases e)
       refine qE r65 (hk _ _ _ ⟨j3.t, rfl, j3.nn, vv, v, r.step j3.t (fun x hx => by simp at hx; exact .inr (.inl hx)) rfl c3' ?_ ?_⟩)
       · exact r.vr.step j3.t (fun x hx => by simp at hx; subst hx; exact .inl (mem_MM.2 (.inr (.inl rfl)))) (fun x hx => .inl hx)
       · exact own_ro o3 (Nat.le_refl 1) (fun x hx hM => by have h8 := (o3.ge x hx).1; have h9 := (r.lt x hM).2; omega)
     · rw [if_neg hl] at hk
       have e3 : rM (l.length : Nat) 16 = false := by rw [vA]; exact decide_eq_false (by omega)
       simp only [↓e3, ↓yP]
       refine yA (fun e => by cases e) (fun _ => ?_)
       exact yT r65 (hk _ _ _ ⟨j3.t, rfl⟩)
   · rw [ha2] at hk
     exact yT r65 (hk _ _ _ ⟨t2.mono (by simp), rfl⟩)
 · rw [ha] at hk
   exact yT r65 (hk _ _ _ ⟨t1.mono (by simp), rfl⟩)
theorem hresult_comes {m : Int} {lo hi n n0 b pb rb : Nat} {h h0 : zD} {ws : List Tx} {f : Fct} {vv pv bv : Value} {svs : List Value} {op en : Bool} (r : RAt lo n0 h0 pb rb f vv pv bv svs) (j : KW m [] n hi b n0 h0 n h ws) :
 ComesE P 8 66 [ptr rb 0, ptr b 0] h n (HQ lo pb rb bv svs h0 n0 n (rP ⟨3, op, en, f⟩ ws)) := by
 obtain ⟨l1, l2, l3, l4, l5, l6⟩ := r.low
 have hb := j.w.1
 have hrb : rb ≠ b := by omega
 refine yR zP mixed (hint := hint66) l66 fun u k hk => ?_
 rw [F66_eq]
 unfold F66
 unfold rP at hk
 dsimp only at hk
 refine j.want qV (fun r1 h1 n1 ha u1 j1 => ?_) (fun e h1 n1 ha t1 => ?_)
 · rw [ha] at hk
   dsimp only at hk
   refine j1.name (fun s r2 h2 n2 ha2 u2 j2 => ?_) (fun e h2 n2 ha2 t2 => ?_)
   · rw [ha2] at hk
     dsimp only at hk
     have c2 := r.cel.touch j2.t l5 (by simp)
     try simp only [↓yS, ↓qL, ↓fa43_3, ↓zC]
     refine xQ c2 sh9 (by simp) rfl fun h3 c3 k3 => ?_
     have t3 : TouchE [rb] h2 n2 h3 n2 := zS k3 (by simp)
     have j3 := (j2.mono (S' := [rb]) (by simp)).wr t3 (fun x hx => by simp at hx; subst hx; exact .inl ⟨by simp, by omega, l5⟩)
     have l52 : rb < n2 := Nat.lt_of_lt_of_le l5 j2.t.1
     refine j3.fin (fun r4 h4 n4 ha4 u4 j4 => ?_) (fun e h4 n4 ha4 t4 => ?_)
     · rw [ha4] at hk
       refine qE r66 (hk _ _ _ ⟨j4.t, rfl, j4.nn, vv, pv, r.step j4.t (fun x hx => by simp at hx; exact .inr (.inl hx)) rfl ?_ ?_ ?_⟩)
       · have c4 : Cel h4 rb 0 [str f.name, vv, pv, str s, bv] := Cel.touch c3 u4 l52 (by simp; omega)
         exact c4
       · exact r.vr.step j4.t (fun x hx => by simp at hx; subst hx; exact .inl (mem_MM.2 (.inr (.inl rfl)))) (fun x hx => .inl hx)
       · exact r.pr.step j4.t (fun x hx => by simp at hx; subst hx; exact .inl (mem_MM.2 (.inr (.inl rfl)))) (fun x hx => .inl hx)
     · rw [ha4] at hk
       exact yT r66 (hk _ _ _ ⟨t4, rfl⟩)
   · rw [ha2] at hk
     exact yT r66 (hk _ _ _ ⟨t2.mono (by simp), rfl⟩)
 · rw [ha] at hk
   exact yT r66 (hk _ _ _ ⟨t1.mono (by simp), rfl⟩)
theorem own_set {ty : TypeId} {lo n e len i : Nat} {h : zD} {bv v : Value} {vs : List Value} {bb : Nat} {K : KH} (o : Own lo n h bv e 1 len vs) (hb : wB bv = some bb) (hs : yG P ty = .scal) (hi : i < vs.length) (hv : v.oneCell' = true)
 (hK : ∀ h', Own lo n h' bv e 1 len (vs.set i v) → (∀ b', b' ≠ bb → zU h' b' = zU h b') → K h' n undef = true) : zV P ty (.pointer (some ⟨bb, i, none⟩)) v h n K = true := by
 rcases o with ⟨rfl, rfl, rfl⟩ | ⟨b, q1, q2, rfl, q3, q4, q5, q6⟩
 · simp at hi
 · injection hb with hb
   subst hb
   have e1 := cellsOf_one hv
   refine eStore_ok (.inl ⟨hs, rfl⟩) (by rw [e1]; rfl) (by rw [e1]; simpa using hv) q3 (by decide) (by omega) (hK _ (.inr ⟨b, q1, q2, rfl, ?_, ?_, q5, fun j => ?_⟩) fun b' hb' => ?_)
   · rw [zK, if_pos rfl, pF, q3, List.length_set]
   · rw [List.length_set]; exact q4
   · unfold xM
     rw [zK, if_pos rfl, e1, pE _ _ _ q3 (by simp; omega)]
     have h2 := q6 j
     unfold xM at h2
     rw [h2, List.getElem?_set]
     by_cases hj : j = i
     · subst hj
       rw [if_pos ⟨Nat.le_refl _, by simp⟩, if_pos rfl]
       simp [hi]
     · rw [if_neg (by simp; omega), if_neg (fun h => hj h.symm)]
   · rw [zK, if_neg (fun h => hb' h.symm)]
def GQ (lo pb rb : Nat) (M S : List Nat) (h0 : zD) (n0 nc : Nat) (r : Except Int Fct) : Out → zD → Nat → Prop := fun o h' n' => TouchE S h0 n0 h' n' ∧
 match r with
 | .ok f' => o = .ret (.tuple ⟨[]⟩) ∧ nc ≤ n' ∧ ∃ vv pv bv svs, RAt lo n' h' pb rb f' vv pv bv svs ∧ ∀ x ∈ MM pb rb bv svs, x ∈ M ∨ n0 ≤ x
 | .error e => o = .panic (uZ e)
theorem HQ.gq {lo pb rb : Nat} {bv : Value} {svs : List Value} {h0 : zD} {n0 nc : Nat} {r : Except Int Fct} {o : Out} {h' : zD} {n' : Nat} (q : HQ lo pb rb bv svs h0 n0 nc r o h' n') : GQ lo pb rb (MM pb rb bv svs) (rb :: ((wB bv).toList ++ pO svs)) h0 n0 nc r o h' n' := by
 refine ⟨q.1.mono (by simp), ?_⟩
 cases r with
 | ok f' => obtain ⟨q1, q3, vv, pv, q2⟩ := q.2; exact ⟨q1, q3, vv, pv, bv, svs, q2, fun x hx => .inl hx⟩
 | error e => exact q.2
theorem mem_lastB {svs : List Value} {x : Nat} : x ∈ pO svs ↔ svs.getLast?.bind wB = some x := by unfold pO; rw [Option.mem_toList]
def blockF (f : Fct) : Except Int Fct := if f.blocks.length < 200 then .ok { f with blocks := f.blocks ++ [[]] } else .error 2
theorem block_comes {lo n pb rb : Nat} {h : zD} {f : Fct} {vv pv bv : Value} {svs : List Value} (r : RAt lo n h pb rb f vv pv bv svs) :
 ComesE P 8 67 [ptr rb 0] h n (GQ lo pb rb (MM pb rb bv svs) (rb :: ((wB bv).toList ++ pO svs)) h n n (blockF f)) := by
 obtain ⟨l1, l2, l3, l4, l5, l6⟩ := r.low
 refine yR zP mixed (hint := hint67) l67 fun u k hk => ?_
 rw [F67_eq]
 unfold F67
 unfold blockF at hk
 have e1 : zF P 41 h (.pointer (some ⟨rb, 4, none⟩)) = some bv := zI r.cel sh41 rfl
 have e2 := xL (P := P) us41 (r.bo.row (Nat.le_refl 1)) [] h
 try simp only [↓yS, ↓qL, ↓qJ, ↓zC, ↓e1, ↓e2, ↓zH]
 by_cases hl : f.blocks.length < 200
 · rw [if_pos hl] at hk
   have e3 : vD (f.blocks.length : Nat) 200 = true := by rw [yC]; exact decide_eq_true (by omega)
   simp only [↓e3, ↓yP]
   refine yA (fun _ => ?_) (fun e => by cases e)
   try simp only [↓yS, ↓qL, ↓qJ, ↓zC, ↓e1, ↓e2, ↓zH]
   refine uJ on41 (v := .slice none 0 0) rfl fun h1 c1 x1 => ?_
   have o1 := r.bo.touch (x1.touch []) (fun _ _ h => by cases h)
   refine append_new ap41 o1 (by omega) c1 rfl (by simp [Value.oneCell']) (by omega) fun v2 h2 n2 o2 n2le k2 => ?_
   have t2 : TouchE (wB bv).toList h1 (n + 1) h2 n2 := touch_blk (lo := 0) n2le k2
   have t02 : TouchE (wB bv).toList h n h2 n2 := (x1.touch _).trans t2
   try simp only [↓yS, ↓qL, ↓qJ, ↓zC]
   have hrb : rb ∉ (wB bv).toList := fun hx => (r.bne rb (by simpa using hx)).2 rfl
   refine xQ (r.cel.touch t02 l5 hrb) sh41 (by simp) o2.one fun h3 c3 k3 => ?_
   have t3 : TouchE [rb] h2 n2 h3 n2 := zS k3 (by simp)
   have t03 : TouchE (rb :: (wB bv).toList) h n h3 n2 := (t02.mono (fun x hx => List.mem_cons_of_mem _ hx)).trans (t3.mono (by simp))
   have t : TouchE (rb :: ((wB bv).toList ++ pO svs)) h n h3 n2 := t03.mono (fun x hx => (List.mem_cons.1 hx).elim (fun e => by rw [e]; exact List.mem_cons_self) (fun e => List.mem_cons_of_mem _ (List.mem_append_left _ e)))
   have hS : ∀ x ∈ rb :: (wB bv).toList, x ∈ MM pb rb bv svs ∨ n ≤ x := fun x hx => .inl (mem_MM.2 (by
    rcases List.mem_cons.1 hx with rfl | hx
    · exact .inr (.inl rfl)
    · exact .inr (.inr (.inl (by simpa using hx)))))
   have hl2 : (svs ++ [Value.slice none 0 0]).getLast?.bind wB = none := by rw [List.getLast?_append]; rfl
   have hM : ∀ x ∈ MM pb rb v2 (svs ++ [.slice none 0 0]), x ∈ MM pb rb bv svs ∨ n ≤ x := fun x hx => by
    rcases mem_MM.1 hx with hx | rfl | hx | hx
    · exact .inl (mem_MM.2 (.inl hx))
    · exact .inl (mem_MM.2 (.inr (.inl rfl)))
    · exact .inr (by have := (o2.ge x hx).1; omega)
    · rw [hl2] at hx; cases hx
   have o3 := o2.touch t3 (fun x hx hS => by have := (o2.ge x hx).1; simp at hS; omega)
   have hlen := r.bl.len
   refine qE r67 (hk _ _ _ ⟨t, rfl, t.1, vv, pv, v2, svs ++ [.slice none 0 0], ⟨c3, ⟨l1, l2, l3, Nat.lt_of_lt_of_le l4 t.1, Nat.lt_of_lt_of_le l5 t.1, l6⟩, r.vr.step t03 hS hM, r.pr.step t03 hS hM, ?_, ?_, ?_, ⟨?_, ?_, ?_⟩, ?_⟩, hM⟩)
   · have h9 : (f.blocks ++ [[]]).length = f.blocks.length + 1 := by simp
     show Own lo n2 h3 v2 51 1 (f.blocks ++ [[]]).length _
     rw [h9]
     exact o3.low (by omega)
   · intro b hb
     have := (o2.ge b hb).1
     omega
   · intro b hb
     rw [hl2] at hb; cases hb
   · simp [hlen]
   · intro k' l v h1' h2' h3'
     have h1'' : k' < f.blocks.length := by simpa using h1'
     rw [List.getElem?_append_left h1''] at h2'
     rw [List.getElem?_append_left (by omega)] at h3'
     by_cases hkl : k' + 1 < f.blocks.length
     · exact (r.bl.ro k' l v hkl h2' h3').step t03 hS hM
     · have hlast : f.blocks.getLast? = some l := by rw [List.getLast?_eq_getElem?, ← h2']; congr 1; omega
       have hlast2 : svs.getLast? = some v := by rw [List.getLast?_eq_getElem?, ← h3']; congr 1; omega
       obtain ⟨av, a1, a2⟩ := r.bl.last l v hlast hlast2
       refine ⟨av, a1.step t03 hS hM, own_ro (a2.touch t03 fun x hx hxS => ?_) (by omega) (fun x hx hxM => ?_)⟩
       · have h8 := r.lne x (by rw [hlast2]; exact hx)
         rcases List.mem_cons.1 hxS with h7 | h7
         · exact h8.2.1 h7
         · exact h8.2.2 (by simpa using h7)
       · have h8 := r.lne x (by rw [hlast2]; exact hx)
         have h6 := (a2.ge x hx).2
         rcases mem_MM.1 hxM with h7 | h7 | h7 | h7
         · have := h8.1; omega
         · exact h8.2.1 h7
         · have := (o2.ge x h7).1; omega
         · rw [hl2] at h7; cases h7
   · intro l v h1' h2'
     rw [List.getLast?_append] at h1' h2'
     have h1'' : some ([] : List Ins) = some l := h1'
     have h2'' : some (Value.slice none 0 0) = some v := h2'
     injection h1'' with h1''
     injection h2'' with h2''
     subst h1'' h2''
     exact ⟨[], ⟨rfl, fun j i a h => by simp at h⟩, .inl ⟨rfl, rfl, rfl⟩⟩
   · show (f.blocks ++ [[]]).length ≤ 200
     simp; omega
 · rw [if_neg hl] at hk
   have e3 : vD (f.blocks.length : Nat) 200 = false := by rw [yC]; exact decide_eq_false (by omega)
   simp only [↓e3, ↓yP]
   refine yA (fun e => by cases e) (fun _ => ?_)
   exact yT r67 (hk _ _ _ ⟨TouchE.refl _ _ _, rfl⟩)
theorem ins_comes {m : Int} {lo hi n n0 b pb rb : Nat} {h h0 : zD} {ws : List Tx} {f : Fct} {vv pv bv : Value} {svs : List Value} {st : Nat} {op en : Bool} (r : RAt lo n0 h0 pb rb f vv pv bv svs) (j : KW m [] n hi b n0 h0 n h ws) (hne : f.blocks ≠ []) :
 ComesE P 8 68 [ptr rb 0, ptr b 0] h n (GQ lo pb rb (MM pb rb bv svs) (rb :: ((wB bv).toList ++ pO svs)) h0 n0 n (insS ⟨st, op, en, f⟩ ws)) := by
 obtain ⟨l1, l2, l3, l4, l5, l6⟩ := r.low
 obtain ⟨bi, bl, hbl⟩ : ∃ bi bl, f.blocks = bi ++ [bl] := ⟨f.blocks.dropLast, f.blocks.getLast hne, (List.dropLast_concat_getLast hne).symm⟩
 have hlen := r.bl.len
 have hsne : svs ≠ [] := fun e => by rw [e, hbl] at hlen; simp at hlen
 obtain ⟨si, sl, hsl⟩ : ∃ si sl, svs = si ++ [sl] := ⟨svs.dropLast, svs.getLast hsne, (List.dropLast_concat_getLast hsne).symm⟩
 have hsi : si.length = bi.length := by rw [hbl, hsl] at hlen; simpa using hlen
 have hlast : f.blocks.getLast? = some bl := by rw [hbl]; simp
 have hlast2 : svs.getLast? = some sl := by rw [hsl]; simp
 obtain ⟨av, a1, a2⟩ := r.bl.last bl sl hlast hlast2
 have hgd : f.blocks.getLastD [] = bl := by rw [hbl]; simp
 have hbe : ∃ bb, wB bv = some bb ∧ bv = .slice (some ⟨bb, 0, none⟩) f.blocks.length inf ∧ bb < n0 := by
  rcases r.bo with ⟨_, e, _⟩ | ⟨bb, q1, q2, q3, _⟩
  · rw [hbl] at e; simp at e
  · exact ⟨bb, by rw [q3]; rfl, q3, q2⟩
 obtain ⟨bb, hbb, hbv, hbbn⟩ := hbe
 have hb := j.w.1
 have hrb : rb ≠ b := by omega
 have hn0 := j.t.1
 refine yR zP mixed (hint := hint68) l68 fun u k hk => ?_
 rw [F68_eq]
 unfold F68
 unfold insS at hk
 dsimp only at hk
 rw [hgd] at hk
 refine yY (one_comes j.w j.env j.g) (fun v h1 n1 q => ?_) (fun c h1 n1 q => ?_)
 · obtain ⟨q1, q2⟩ := q
   cases ha : oneI ws with
   | error e => rw [ha] at q2; cases q2
   | ok p =>
    obtain ⟨i, r1⟩ := p
    rw [ha] at q2 hk
    obtain ⟨sv, q2, o1, il, w1⟩ := q2
    injection q2 with q2; subst q2
    dsimp only at hk
    have j1 := j.call q1 w1
    have hone : ∀ x ∈ uM i sv, x.oneCell' = true := by
     intro x hx
     simp only [uM, List.mem_cons, List.not_mem_nil, or_false] at hx
     rcases hx with rfl | rfl | rfl | rfl | rfl | rfl | rfl | rfl | rfl <;> first | rfl | exact o1.one
    refine wS ze50 fun h2 c2 x2 => ?_
    refine xU c2 sh50 rfl rfl hone fun h3 c3 k3 => ?_
    have t13 : TouchE [n1] h1 n1 h3 (n1 + 1) := (x2.touch _).trans (zS k3 (by simp))
    have j3 := j1.wr t13 (fun x hx => by simp at hx; subst hx; exact .inr (Nat.le_refl _))
    have n01 := j1.t.1
    refine j3.fin (fun r4 h4 n4 ha4 u4 j4 => ?_) (fun e h4 n4 ha4 t4 => ?_)
    · rw [ha4] at hk
      dsimp only at hk
      have hb1 := q1.1
      have n34 := u4.1
      have c4 := r.cel.touch j4.t l5 (by simp)
      have e1 : zF P 41 h4 (.pointer (some ⟨rb, 4, none⟩)) = some bv := zI c4 sh41 rfl
      have o4 := r.bo.touch j4.t (fun _ _ h => by cases h)
      have e2 := xL (P := P) us41 (o4.row (Nat.le_refl 1)) [] h4
      try simp only [↓yS, ↓qL, ↓qJ, ↓zC, ↓e1, ↓e2, ↓zH]
      have hbl1 : f.blocks.length = bi.length + 1 := by rw [hbl]; simp
      have hbnd := r.bnd
      refine fi_sub (by omega) ?_
      have e3 : ((f.blocks.length : Nat) : Int) - 1 = (bi.length : Nat) := by omega
      rw [e3]
      have e4 : zT P 41 bv (.int .i64 (bi.length : Nat)) = some (.pointer (some ⟨bb, bi.length, none⟩)) := by
       rw [hbv, index_sl ix41 (by omega)]; simp
      have hcell : xM h4 bb bi.length = some sl := by
       rcases o4 with ⟨_, e, _⟩ | ⟨bb', _, _, q3, _, _, _, q6⟩
       · rw [hbl] at e; simp at e
       · rw [hbv] at q3
         injection q3 with q3; injection q3 with q3; injection q3 with q3
         subst q3
         rw [q6, hsl, List.getElem?_append_right (by omega)]
         simp [hsi]
      have e5 : zF P 51 h4 (.pointer (some ⟨bb, bi.length, none⟩)) = some sl := load_scal sh51 hcell
      have a24 := a2.touch j4.t (fun _ _ h => by cases h)
      have e6 := xL (P := P) us51 (a24.row (by omega)) [] h4
      have hbn : b < n := by have := j.w.2.1; omega
      have c34 := c3.touch u4 (by omega) (by simp; omega)
      have e7 : zF P 50 h4 (ptr n1 0) = some (.agg ⟨uM i sv⟩) := xJ c34 sh50 rfl (by decide)
      try simp only [↓e4, ↓zC, ↓xN, ↓tK, ↓yS, ↓e5, ↓e6, ↓zH]
      by_cases hl : bl.length < 400
      · rw [if_pos hl] at hk
        have e8 : vD (bl.length : Nat) 400 = true := by rw [yC]; exact decide_eq_true (by omega)
        simp only [↓e8, ↓yP]
        refine yA (fun _ => ?_) (fun e => by cases e)
        try simp only [↓zC, ↓yS, ↓e5, ↓e7]
        have e9 : yW P 51 1 [(0, .agg ⟨uM i sv⟩)] = some (vZ (uM i sv) 0) := by kernel_rfl
        refine rB (e := 50) (sz := 9) e9 rfl (by unfold inf; omega) fun h5 c5 x5 => ?_
        have o5 := a24.touch (x5.touch []) (fun _ _ h => by cases h)
        refine append_new ap51 o5 (by omega) c5 rfl hone (by omega) fun v6 h6 n6 o6 n6le k6 => ?_
        have t6 : TouchE (wB sl).toList h5 (n4 + 1) h6 n6 := touch_blk (lo := 0) n6le k6
        rw [vE n6le]
        have hls : ∀ x ∈ (wB sl).toList, x ∈ pO svs := fun x hx => mem_lastB.2 (by rw [hlast2]; simpa using hx)
        have hlsn : ∀ x ∈ (wB sl).toList, x < n0 := fun x hx => (a2.ge x (by simpa using hx)).2
        have t06 : TouchE (pO svs) h0 n0 h6 n6 := ((j4.t.mono (S' := pO svs) (by simp)).trans (x5.touch _)).trans (t6.mono hls)
        have hbbl : bb ∉ pO svs := fun hx => (r.lne bb (mem_lastB.1 hx)).2.2 hbb
        have ob6 := r.bo.touch t06 (fun x hx hxS => by rw [hbb] at hx; injection hx with hx; subst hx; exact hbbl hxS)
        try simp only [↓tK, ↓zC, ↓yS]
        refine own_set ob6 hbb sh51 (by rw [hsl]; simp [hsi]) o6.one fun h7 o7 k7 => ?_
        rw [vE (Nat.le_refl _)]
        try simp only [↓tK, ↓xN]
        have t7 : TouchE [bb] h6 n6 h7 n6 := zS k7 (by simp)
        have T : TouchE ((wB bv).toList ++ pO svs) h0 n0 h7 n6 := (t06.mono (fun x hx => List.mem_append_right _ hx)).trans (t7.mono (fun x hx => by simp at hx; subst hx; exact List.mem_append_left _ (by rw [hbb]; simp)))
        have hset : svs.set bi.length v6 = si ++ [v6] := by
         rw [hsl, ← hsi, List.set_append_right _ _ (Nat.le_refl _)]; simp
        rw [hset] at o7
        have hS : ∀ x ∈ (wB bv).toList ++ pO svs, x ∈ MM pb rb bv svs ∨ n0 ≤ x := fun x hx => .inl (mem_MM.2 (by
         rcases List.mem_append.1 hx with hx | hx
         · exact .inr (.inr (.inl (by simpa using hx)))
         · exact .inr (.inr (.inr (mem_lastB.1 hx)))))
        have hl2 : (si ++ [v6]).getLast? = some v6 := by simp
        have hM : ∀ x ∈ MM pb rb bv (si ++ [v6]), x ∈ MM pb rb bv svs ∨ n0 ≤ x := fun x hx => by
         rcases mem_MM.1 hx with hx | rfl | hx | hx
         · exact .inl (mem_MM.2 (.inl hx))
         · exact .inl (mem_MM.2 (.inr (.inl rfl)))
         · exact .inl (mem_MM.2 (.inr (.inr (.inl hx))))
         · rw [hl2] at hx
           exact .inr (by have := (o6.ge x hx).1; omega)
        have hrbS : rb ∉ (wB bv).toList ++ pO svs := fun hx => by
         rcases List.mem_append.1 hx with hx | hx
         · exact (r.bne rb (by simpa using hx)).2 rfl
         · exact (r.lne rb (mem_lastB.1 hx)).2.1 rfl
        have o67 := o6.touch t7 (fun x hx hS => by have := (o6.ge x hx).1; simp at hS; omega)
        have hadd : pJ f.blocks i = bi ++ [bl ++ [i]] := by unfold pJ; rw [hgd, hbl]; simp
        refine qE r68 (hk _ _ _ ⟨T.mono (fun x hx => List.mem_cons_of_mem _ hx), rfl, (by have := j4.nn; have := x5.1; omega), vv, pv, bv, si ++ [v6], ⟨r.cel.touch T l5 hrbS, ⟨l1, l2, l3, Nat.lt_of_lt_of_le l4 T.1, Nat.lt_of_lt_of_le l5 T.1, l6⟩, r.vr.step T hS hM, r.pr.step T hS hM, ?_, r.bne, ?_, ⟨?_, ?_, ?_⟩, ?_⟩, hM⟩)
        · show Own lo n6 h7 bv 51 1 (pJ f.blocks i).length _
          have h9 : (pJ f.blocks i).length = f.blocks.length := by rw [hadd, hbl]; simp
          rw [h9]; exact o7
        · intro x hx
          rw [hl2] at hx
          have h8 := (o6.ge x hx).1
          refine ⟨by omega, by omega, fun e => ?_⟩
          rw [hbb] at e; injection e with e; omega
        · show (si ++ [v6]).length = (pJ f.blocks i).length
          rw [hadd]; simp [hsi]
        · intro k' l v h1' h2' h3'
          have h1'' : k' + 1 < (pJ f.blocks i).length := h1'
          have h2'' : (pJ f.blocks i)[k']? = some l := h2'
          rw [hadd] at h1'' h2''
          have hk' : k' < bi.length := by simpa using h1''
          rw [List.getElem?_append_left hk'] at h2''
          rw [List.getElem?_append_left (by omega)] at h3'
          exact (r.bl.ro k' l v (by omega) (by rw [hbl, List.getElem?_append_left hk']; exact h2'') (by rw [hsl, List.getElem?_append_left (by omega)]; exact h3')).step T hS hM
        · intro l v h1' h2'
          have h1'' : (pJ f.blocks i).getLast? = some l := h1'
          rw [hadd] at h1''
          have h3'' : some (bl ++ [i]) = some l := by simpa using h1''
          have h4'' : some v6 = some v := by rw [hl2] at h2'; exact h2'
          injection h3'' with h3''
          injection h4'' with h4''
          subst h3'' h4''
          refine ⟨av ++ [sv], ⟨by simp [a1.1], fun jx ix ax g1 g2 => ?_⟩, ?_⟩
          · by_cases hjx : jx < bl.length
            · rw [List.getElem?_append_left hjx] at g1
              rw [List.getElem?_append_left (by rw [a1.1]; exact hjx)] at g2
              exact (a1.2 jx ix ax g1 g2).step T hS hM
            · rw [List.getElem?_append_right (by omega)] at g1
              rw [List.getElem?_append_right (by rw [a1.1]; omega), a1.1] at g2
              have hz : jx - bl.length = 0 := by
               cases hh : jx - bl.length with
               | zero => rfl
               | succ z => rw [hh] at g1; simp at g1
              rw [hz] at g1 g2
              simp at g1 g2
              subst g1 g2
              have osv : ∀ x, wB sv = some x → n ≤ x ∧ x < n1 := o1.ge
              have oo := (o1.touch (S := [n1]) (t13) (fun x hx hS => by have := (osv x hx).2; simp at hS; omega)).touch u4 (fun x hx hS => by have := (osv x hx).1; have := j.w.2.1; simp at hS; omega)
              have oo7 := ((oo.touch (x5.touch []) (fun _ _ h => by cases h)).touch t6 (fun x hx hS => by have := (osv x hx).1; have := hlsn x hS; omega)).touch t7 (fun x hx hS => by have := (osv x hx).1; simp at hS; omega)
              refine own_ro oo7 (Nat.le_refl 1) (fun x hx hxM => ?_)
              have h8 := osv x hx
              rcases mem_MM.1 hxM with h7 | h7 | h7 | h7
              · omega
              · omega
              · rw [hbb] at h7; injection h7 with h7; omega
              · rw [hl2] at h7
                have := (o6.ge x h7).1; omega
          · rw [insFlat_add a1.1]
            have h9 : (bl ++ [i]).length = bl.length + 1 := by simp
            rw [h9]
            exact o67.low (by omega)
        · show (pJ f.blocks i).length ≤ 200
          rw [hadd]; have := r.bnd; rw [hbl] at this; simpa using this
      · rw [if_neg hl] at hk
        have e8 : vD (bl.length : Nat) 400 = false := by rw [yC]; exact decide_eq_false (by omega)
        simp only [↓e8, ↓yP]
        refine yA (fun e => by cases e) (fun _ => ?_)
        exact yT r68 (hk _ _ _ ⟨j4.t.mono (by simp), rfl⟩)
    · rw [ha4] at hk
      exact yT r68 (hk _ _ _ ⟨t4.mono (by simp), rfl⟩)
 · obtain ⟨q1, q2⟩ := q
   cases ha : oneI ws with
   | error e => rw [ha] at q2 hk; injection q2 with q2; subst q2; exact yT r68 (hk _ _ _ ⟨(j.t.mono (by simp)).step q1 (fun x hx => by simp at hx; subst hx; exact .inr hb), rfl⟩)
   | ok p => rw [ha] at q2; obtain ⟨v', q2, _⟩ := q2; cases q2
theorem lk_ok {q : zD → Option Value} {p v : Value} {w : W} (hp : blkLt w.n p = true) (hq : q w.h = some v) (hs : sameB v v = true) : lkQ q p v w = true := by
 unfold lkQ
 rw [hp, tK, hq]
 exact hs
theorem rS (x : Int) : sameB (I64 x) (I64 x) = true := by
 show scalB (I64 x) (I64 x) = true
 unfold scalB
 show (vT .i64 .i64 && wJ x x) = true
 rw [wX]; simp; rfl
theorem lks2 {wa wb : W} {f : W → Bool} {ls : List Lk} (hb : f wb = true) (ha : f wa = true) (h : lks [wa, wb] ls = true) : lks [wa, wb] (⟨true, f, 0, 1⟩ :: ls) = true := by
 show gt (gt (gt (f wa) true) (gt (gt (f wb) true) true)) (lks [wa, wb] ls) = true
 rw [hb, ha, h]; rfl
theorem lks3 {wa wb wc : W} {f : W → Bool} {ls : List Lk} (hb : f wb = true) (hc : f wc = true) (h : lks [wa, wb, wc] ls = true) : lks [wa, wb, wc] (⟨true, f, 0, 1⟩ :: ls) = true := by
 show gt (gt true (gt (gt (f wb) true) (gt (gt (f wc) true) true))) (lks [wa, wb, wc] ls) = true
 rw [hb, hc, h]; rfl
theorem same_slice (b o l c : Nat) : sameB (.slice (some ⟨b, o, none⟩) l c) (.slice (some ⟨b, o, none⟩) l c) = true := by
 show (Nat.beq b b && Nat.beq o o && Nat.beq l l && Nat.beq c c) = true
 simp
abbrev hd (g rb : Nat) : Value := .func (.func g) ⟨[ptr rb 0]⟩ ⟨[]⟩
theorem same_hd (g rb : Nat) : sameB (hd g rb) (hd g rb) = true := by
 show (Nat.beq g g && (((Nat.beq rb rb && Nat.beq 0 0) && true) && true)) = true
 simp
structure PAt (M : List Nat) (n : Nat) (h : zD) (pb rb : Nat) (step : Nat) (op en : Bool) (hv : Value) : Prop where
 cel : Cel h pb 0 [hv, hd 67 rb, hd 68 rb, I64 (step : Nat), .bool op, .bool en]
 row : RO M n h hv 113 1 4 [hd 63 rb, hd 64 rb, hd 65 rb, hd 66 rb]
structure SAt (lo n : Nat) (h : zD) (pb rb : Nat) (st : St) (vv pv bv : Value) (svs : List Value) (hv : Value) : Prop where
 r : RAt lo n h pb rb st.f vv pv bv svs
 p : PAt (MM pb rb bv svs) n h pb rb st.step st.opn st.ended hv
 o : st.opn = true → st.f.blocks ≠ []
 s : st.step ≤ 4
def TS (pb rb : Nat) (bv : Value) (svs : List Value) : List Nat := pb :: rb :: ((wB bv).toList ++ pO svs)
def LQ (lo pb rb : Nat) (S M : List Nat) (h : zD) (n : Nat) (r : Except Int St) : Out → zD → Nat → Prop := fun o h' n' => TouchE S h n h' n' ∧
 match r with
 | .ok st' => o = .ret (.tuple ⟨[]⟩) ∧ ∃ vv pv bv svs hv, SAt lo n' h' pb rb st' vv pv bv svs hv ∧ ∀ x ∈ MM pb rb bv svs, x ∈ M ∨ n ≤ x
 | .error e => o = .panic (uZ e)
def OfOK (st : St) (s : Tx) : Prop := (st.step < 4 → ∃ ws, ofW s [] = .ok ws) ∧ (4 ≤ st.step → (s == tEnd) = false → (s == rL) = false → st.opn = true → ∃ ws, ofW s tTwo = .ok ws)
theorem RAt.pwr {lo n : Nat} {h h' : zD} {pb rb : Nat} {f : Fct} {vv pv bv : Value} {svs : List Value} (r : RAt lo n h pb rb f vv pv bv svs) (t : TouchE [pb] h n h' n) : RAt lo n h' pb rb f vv pv bv svs := by
 obtain ⟨l1, l2, l3, l4, l5, l6⟩ := r.low
 have hS : ∀ x ∈ [pb], x ∈ MM pb rb bv svs ∨ n ≤ x := fun x hx => by simp at hx; subst hx; exact .inl (mem_MM.2 (.inl (by omega)))
 exact r.step t (fun x hx => by simp at hx; exact .inl (by omega)) rfl (r.cel.touch t l5 (by simp; omega)) (r.vr.step t hS (fun x hx => .inl hx)) (r.pr.step t hS (fun x hx => .inl hx))
theorem PAt.step {M M' S : List Nat} {n n' : Nat} {h h' : zD} {pb rb step : Nat} {op en : Bool} {hv : Value} (p : PAt M n h pb rb step op en hv) (t : TouchE S h n h' n') (hpb : pb < n) (h1 : pb ∉ S) (hS : ∀ x ∈ S, x ∈ M ∨ n ≤ x) (hM : ∀ x ∈ M', x ∈ M ∨ n ≤ x) : PAt M' n' h' pb rb step op en hv :=
 ⟨p.cel.touch t hpb h1, p.row.step t hS hM⟩
theorem gS_ok {lo n : Nat} {h : zD} {pb rb : Nat} {f : Fct} {vv pv bv : Value} {svs : List Value} (r : RAt lo n h pb rb f vv pv bv svs) : pb ∉ rb :: ((wB bv).toList ++ pO svs) ∧ (∀ x ∈ rb :: ((wB bv).toList ++ pO svs), x ∈ MM pb rb bv svs) := by
 obtain ⟨l1, l2, l3, l4, l5, l6⟩ := r.low
 refine ⟨fun hx => ?_, fun x hx => mem_MM.2 ?_⟩
 · rcases List.mem_cons.1 hx with hx | hx
   · omega
   · rcases List.mem_append.1 hx with hx | hx
     · have := (r.bne pb (by simpa using hx)).1; omega
     · have := (r.lne pb (mem_lastB.1 hx)).1; omega
 · rcases List.mem_cons.1 hx with hx | hx
   · exact .inr (.inl hx)
   · rcases List.mem_append.1 hx with hx | hx
     · exact .inr (.inr (.inl (by simpa using hx)))
     · exact .inr (.inr (.inr (mem_lastB.1 hx)))
def DoneL (lo pb rb : Nat) (S M : List Nat) (h : zD) (n : Nat) (u : Option zL) (g : Except Int St) (t : Fr) (w : W) : Prop := ∃ h' n', w = ⟨[], u, h', n'⟩ ∧ LQ lo pb rb S M h n g (.ret (.tuple ⟨[]⟩)) h' n'
theorem head_comes {m : Int} {lo hi n n0 b pb rb : Nat} {h h0 : zD} {ws : List Tx} {f : Fct} {vv pv bv : Value} {svs : List Value} {op en : Bool} {st : Nat} {g : Nat} (hst : st < 4) (hg : [hd 63 rb, hd 64 rb, hd 65 rb, hd 66 rb][st]? = some (hd g rb))
 (r : RAt lo n0 h0 pb rb f vv pv bv svs) (j : KW m [] n hi b n0 h0 n h ws) :
 ComesE P 8 g [ptr rb 0, ptr b 0] h n (GQ lo pb rb (MM pb rb bv svs) (rb :: ((wB bv).toList ++ pO svs)) h0 n0 n (rP ⟨st, op, en, f⟩ ws)) := by
 have h4 : st = 0 ∨ st = 1 ∨ st = 2 ∨ st = 3 := by omega
 rcases h4 with rfl | rfl | rfl | rfl
 · have : hd 63 rb = hd g rb := Option.some.inj hg
   injection this with e _ _; injection e with e; subst e
   exact (hname_comes r j).mono fun _ _ _ q => q.gq
 · have : hd 64 rb = hd g rb := Option.some.inj hg
   injection this with e _ _; injection e with e; subst e
   exact (hregs_comes r j).mono fun _ _ _ q => q.gq
 · have : hd 65 rb = hd g rb := Option.some.inj hg
   injection this with e _ _; injection e with e; subst e
   exact (hparams_comes r j).mono fun _ _ _ q => q.gq
 · have : hd 66 rb = hd g rb := Option.some.inj hg
   injection this with e _ _; injection e with e; subst e
   exact (hresult_comes r j).mono fun _ _ _ q => q.gq
theorem line_comes {m : Int} {lo n pb rb : Nat} {h : zD} {st : St} {vv pv bv : Value} {svs : List Value} {hv : Value} (s : SAt lo n h pb rb st vv pv bv svs hv) (hE : Env m h) (x : Tx) (hx : x.length < 90000) (hof : OfOK st x) :
 ComesE P 8 127 [ptr pb 0, str x] h n (LQ lo pb rb (TS pb rb bv svs) (MM pb rb bv svs) h n (uE st x)) := by
 obtain ⟨l1, l2, l3, l40, l5, l6⟩ := s.r.low
 have l4 : pb < n := by omega
 have hgS := gS_ok s.r
 have hpM : pb ∈ MM pb rb bv svs := mem_MM.2 (.inl (by omega))
 have hts : ∀ y ∈ TS pb rb bv svs, y ∈ MM pb rb bv svs := fun y hy => by
  rcases List.mem_cons.1 hy with rfl | hy
  · exact hpM
  · exact hgS.2 y hy
 have hself : ∀ y ∈ MM pb rb bv svs, y ∈ MM pb rb bv svs ∨ n ≤ y := fun y hy => .inl hy
 refine yR zP mixed (hint := hint127) l127 fun u k hk => ?_
 rw [F127_eq]
 unfold F127
 have hm : uE st x = uE st x := rfl
 conv at hm => rhs; unfold uE
 have e1 : zF P 4 h (.pointer (some ⟨pb, 5, none⟩)) = some (.bool st.ended) := zI s.p.cel sh4 rfl
 have e2 : zF P 3 h (.pointer (some ⟨pb, 3, none⟩)) = some (I64 (st.step : Nat)) := zI s.p.cel sh3 rfl
 have e3 : zF P 114 h (ptr pb 0) = some hv := zI s.p.cel sh114 rfl
 have e4 := xL (P := P) us114 s.p.row.1 [] h
 have e5 : zF P 4 h (.pointer (some ⟨pb, 4, none⟩)) = some (.bool st.opn) := zI s.p.cel sh4 rfl
 have e6 : zF P 1 h (.pointer (some ⟨pb, 1, none⟩)) = some (hd 67 rb) := zI s.p.cel sh1 rfl
 have e7 : zF P 113 h (.pointer (some ⟨pb, 2, none⟩)) = some (hd 68 rb) := zI s.p.cel sh113 rfl
 have ec : ((ByteArray.mk #[]).data.toList : List UInt8) = [] := rfl
 have hbad : (!st.ended && !(x == [])) = false → ∀ t, zE P (loS P 8) 127 k (.panic (uZ 3)) t ⟨[], u, h, n⟩ = true := fun e t => by
  rw [if_neg (by rw [e]; exact Bool.false_ne_true)] at hm
  exact yT r127 (hk _ _ _ (by rw [hm]; exact ⟨TouchE.refl _ _ _, rfl⟩))
 try simp only [↓yS, ↓zC, ↓fa116_5, ↓e1, ↓zJ, ↓xR]
 cases hen : st.ended with
 | true =>
  simp only [↓Bool.not_true, ↓xK, ↓xG, ↓zJ]
  refine yA (fun e => by cases e) (fun _ => hbad (by rw [hen]; rfl) _)
 | false =>
  simp only [↓Bool.not_false, ↓yZ, ↓xA, ↓zJ]
  rw [cmpS_ne, ec]
  simp only [↓zJ]
  show yX (loS P 8) 120 [.bool (!(x == [])), I64 3] h n _ _ = true
  refine yA (fun hne => ?_) (fun hne => hbad (by rw [hen, hne]; rfl) _)
  rw [hen, hne, if_pos (show (!false && true) = true from rfl)] at hm
  refine tA (DoneL lo pb rb (TS pb rb bv svs) (MM pb rb bv svs) h n u (uE st x)) (fun t w q => ?_) (fun kk hkk => ?_)
  · obtain ⟨h', n', rfl, q⟩ := q
    try simp only [↓xC]
    exact qE r127 (hk _ _ _ q)
  try simp only [↓yS, ↓zC, ↓fa116_3, ↓fa116_0, ↓e2, ↓e3, ↓e4, ↓zH, ↓xN, ↓tK, ↓yP]
  refine vF (DoneL lo pb rb (TS pb rb bv svs) (MM pb rb bv svs) h n u (uE st x)) (fun t w q => ?_) (fun hc kk' hkk' => ?_) (fun hc kk hkk => ?_)
  · obtain ⟨h', n', rfl, q⟩ := q
    try simp only [↓xC]
    exact hkk _ _ ⟨h', n', rfl, q⟩
  · have hst : st.step < 4 := by
     rw [yC] at hc
     have := of_decide_eq_true hc
     omega
    rw [if_pos hst] at hm
    obtain ⟨ws, hws⟩ := hof.1 hst
    rw [hws] at hm
    dsimp only at hm
    refine yY (of_comes hE (by omega) x [] hx) (fun v h1 n1 q => ?_) (fun c h1 n1 q => ?_)
    · obtain ⟨x1, q⟩ := q
      rw [hws] at q
      obtain ⟨b, q, w1⟩ := q
      injection q with q; subst q
      have j : KW m [] n1 n1 b n h n1 h1 ws := ⟨x1.touch [], hE.touch (x1.touch []) (by omega) (fun _ h => by cases h), w1, by omega, Nat.le_refl _⟩
      have p1 := s.p.step (x1.touch []) l4 (by simp) (by simp) (M' := MM pb rb bv svs) (fun y hy => .inl hy)
      obtain ⟨g, hg⟩ : ∃ g, [hd 63 rb, hd 64 rb, hd 65 rb, hd 66 rb][st.step]? = some (hd g rb) := by
       have h4 : st.step = 0 ∨ st.step = 1 ∨ st.step = 2 ∨ st.step = 3 := by omega
       rcases h4 with e | e | e | e <;> rw [e] <;> exact ⟨_, rfl⟩
      obtain ⟨bb, off, cap, hvb, hbb, hrow⟩ : ∃ bb off cap, hv = .slice (some ⟨bb, off, none⟩) 4 cap ∧ bb < n ∧ True := by
       rcases s.p.row.1 with ⟨_, e, _⟩ | ⟨bb, off, cap, _, _, _, hb, e, _⟩
       · cases e
       · exact ⟨bb, off, cap, e, hb, trivial⟩
      obtain ⟨pp, i1, i2⟩ := xX (P := P) (k := .i64) s.p.row.1 ix114 (tl := 113) sh113 (i := st.step) hg
      obtain ⟨pp', i1', i3⟩ := xX (P := P) (k := .i64) p1.row.1 ix114 (tl := 113) sh113 (i := st.step) hg
      obtain rfl : pp = pp' := Option.some.inj (i1.symm.trans i1')
      have hpp : pp = .pointer (some ⟨bb, off + st.step * 1, none⟩) := by
       rw [hvb, index_sl ix114 hst] at i1
       exact (Option.some.inj i1).symm
      have f3 : zF P 114 h1 (ptr pb 0) = some hv := zI p1.cel sh114 rfl
      have f2 : zF P 3 h1 (.pointer (some ⟨pb, 3, none⟩)) = some (I64 (st.step : Nat)) := zI p1.cel sh3 rfl
      have lt1 : ∀ {y off' : Nat}, y < n → blkLt n (.pointer (some ⟨y, off', none⟩)) = true := fun hy => rK hy
      have lt2 : ∀ {y off' : Nat}, y < n → blkLt n1 (.pointer (some ⟨y, off', none⟩)) = true := fun hy => rK (Nat.lt_of_lt_of_le hy x1.1)
      have k1a : ∀ {d : List Deferred} {u : Option zL}, lkQ (fun h53 => zF P 113 h53 pp) pp (hd g rb) ⟨d, u, h1, n1⟩ = true := lk_ok (by rw [hpp]; exact lt2 hbb) i3 (same_hd g rb)
      have k1b : ∀ {d : List Deferred} {u : Option zL}, lkQ (fun h53 => zF P 113 h53 pp) pp (hd g rb) ⟨d, u, h, n⟩ = true := lk_ok (by rw [hpp]; exact lt1 hbb) i2 (same_hd g rb)
      have k2a : ∀ {d : List Deferred} {u : Option zL}, lkQ (fun h50 => zF P 3 h50 (.pointer (some ⟨pb, 3, none⟩))) (.pointer (some ⟨pb, 3, none⟩)) (I64 (st.step : Nat)) ⟨d, u, h1, n1⟩ = true := lk_ok (lt2 l4) f2 (rS _)
      have k2b : ∀ {d : List Deferred} {u : Option zL}, lkQ (fun h50 => zF P 3 h50 (.pointer (some ⟨pb, 3, none⟩))) (.pointer (some ⟨pb, 3, none⟩)) (I64 (st.step : Nat)) ⟨d, u, h, n⟩ = true := lk_ok (lt1 l4) e2 (rS _)
      have k3a : ∀ {d : List Deferred} {u : Option zL}, lkQ (fun h45 => zF P 114 h45 (ptr pb 0)) (ptr pb 0) hv ⟨d, u, h1, n1⟩ = true := lk_ok (lt2 l4) f3 (by rw [hvb]; exact same_slice _ _ _ _)
      have k3b : ∀ {d : List Deferred} {u : Option zL}, lkQ (fun h45 => zF P 114 h45 (ptr pb 0)) (ptr pb 0) hv ⟨d, u, h, n⟩ = true := lk_ok (lt1 l4) e3 (by rw [hvb]; exact same_slice _ _ _ _)
      rw [vE x1.1]
      try simp only [↓tK, ↓yS, ↓zC, ↓fa116_3, ↓fa116_0, ↓f2, ↓f3, ↓zH, ↓i1, ↓i3]
      refine rO (first := [ptr rb 0]) (cap := []) (args := [ptr b 0]) (head_comes (op := st.opn) (en := false) hst hg s.r j) (fun v h2 n2 q => ?_) (fun c h2 n2 q => ?_)
      · obtain ⟨q1, q2⟩ := q
        cases ha : rP ⟨st.step, st.opn, false, st.f⟩ ws with
        | error e => rw [ha] at q2; cases q2
        | ok f' =>
         rw [ha] at q2
         have ha' : rP st ws = .ok f' := by rw [← ha]; cases st; dsimp only at hen ⊢; subst hen; rfl
         rw [ha'] at hm
         dsimp only at hm
         obtain ⟨q2, q3, vv', pv', bv', svs', r', hM'⟩ := q2
         rw [vE q3]
         rw [tK, lks3 k1a k1b (lks3 k2a k2b (lks3 k3a k3b rfl)), tK]
         have c2 := s.p.cel.touch q1 l4 hgS.1
         have g2 : zF P 3 h2 (.pointer (some ⟨pb, 3, none⟩)) = some (I64 (st.step : Nat)) := zI c2 sh3 rfl
         try simp only [↓yS, ↓zC, ↓fa116_3, ↓g2, ↓zH]
         refine sF (by omega) ?_
         refine xQ c2 sh3 (by simp) rfl fun h3 c3 k3 => ?_
         have t3 : TouchE [pb] h2 n2 h3 n2 := zS k3 (by simp)
         have T : TouchE (TS pb rb bv svs) h n h3 n2 := (q1.mono (fun y hy => List.mem_cons_of_mem _ hy)).trans (t3.mono (fun y hy => by simp at hy; subst hy; exact List.mem_cons_self))
         refine hkk' _ _ ⟨h3, n2, rfl, T, ?_⟩
         rw [hm]
         have c3' : Cel h3 pb 0 [hv, hd 67 rb, hd 68 rb, I64 ((st.step + 1 : Nat)), .bool st.opn, .bool false] := by
          rw [hen] at c3; exact c3
         refine ⟨rfl, vv', pv', bv', svs', hv, ⟨r'.pwr t3, ⟨c3', s.p.row.step T (fun y hy => .inl (hts y hy)) hM'⟩, fun ho => ?_, by show st.step + 1 ≤ 4; omega⟩, hM'⟩
         rw [show f'.blocks = st.f.blocks from headS_blocks ha']
         exact s.o ho
      · obtain ⟨q1, q2⟩ := q
        cases ha : rP ⟨st.step, st.opn, false, st.f⟩ ws with
        | ok f' => rw [ha] at q2; obtain ⟨q2, _⟩ := q2; cases q2
        | error e =>
         rw [ha] at q2
         have ha' : rP st ws = .error e := by rw [← ha]; cases st; dsimp only at hen ⊢; subst hen; rfl
         rw [ha'] at hm
         dsimp only at hm
         injection q2 with q2; subst q2
         rw [lks2 k1b k1a (lks2 k2b k2a (lks2 k3b k3a rfl)), tK]
         exact yT r127 (hk _ _ _ (by rw [hm]; exact ⟨q1.mono (fun y hy => List.mem_cons_of_mem _ hy), rfl⟩))
    · obtain ⟨x1, q⟩ := q
      rw [hws] at q
      obtain ⟨b, q, w1⟩ := q
      cases q
  · have hst : ¬ st.step < 4 := by
     rw [yC] at hc
     have := of_decide_eq_false hc
     omega
    rw [if_neg hst] at hm
    have y1 : ∀ K, yB wJ P .eql 9 true (str x) (.string (ByteArray.mk #[101, 110, 100])) K = K (x == tEnd) := fun K => vB _ _ _ _ _ K
    have y2 : ∀ K, yB wJ P .eql 9 true (str x) (.string (ByteArray.mk #[98, 108, 111, 99, 107])) K = K (x == rL) := fun K => vB _ _ _ _ _ K
    simp only [↓y1, ↓y2]
    refine vF (DoneL lo pb rb (TS pb rb bv svs) (MM pb rb bv svs) h n u (uE st x)) (fun t w q => ?_) (fun hc1 kk' hkk' => ?_) (fun hc1 kk hkk => ?_)
    · obtain ⟨h', n', rfl, q⟩ := q
      try simp only [↓xC]
      exact hkk _ _ ⟨h', n', rfl, q⟩
    · rw [hc1, if_pos rfl] at hm
      try simp only [↓yS, ↓zC, ↓fa116_5]
      refine xQ s.p.cel sh4 (by simp) rfl fun h3 c3 k3 => ?_
      have t3 : TouchE [pb] h n h3 n := zS k3 (by simp)
      have T : TouchE (TS pb rb bv svs) h n h3 n := t3.mono (fun y hy => by simp at hy; subst hy; exact List.mem_cons_self)
      refine hkk' _ _ ⟨h3, n, rfl, T, ?_⟩
      rw [hm]
      exact ⟨rfl, vv, pv, bv, svs, hv, ⟨s.r.pwr t3, ⟨c3, s.p.row.step T (fun y hy => .inl (hts y hy)) (fun y hy => .inl hy)⟩, s.o, s.s⟩, hself⟩
    rw [hc1, if_neg Bool.false_ne_true] at hm
    refine vF (DoneL lo pb rb (TS pb rb bv svs) (MM pb rb bv svs) h n u (uE st x)) (fun t w q => ?_) (fun hc2 kk' hkk' => ?_) (fun hc2 kk hkk => ?_)
    · obtain ⟨h', n', rfl, q⟩ := q
      try simp only [↓xC]
      exact hkk _ _ ⟨h', n', rfl, q⟩
    · rw [hc2, if_pos rfl] at hm
      try simp only [↓yS, ↓zC, ↓fa116_1, ↓fa116_4, ↓e6]
      refine rO (first := [ptr rb 0]) (cap := []) (args := []) (block_comes s.r) (fun v h2 n2 q => ?_) (fun c h2 n2 q => ?_)
      · obtain ⟨q1, q2⟩ := q
        unfold blockF at q2
        by_cases hl : st.f.blocks.length < 200
        · rw [if_pos hl] at q2 hm
          obtain ⟨q2, q3, vv', pv', bv', svs', r', hM'⟩ := q2
          have c2 := s.p.cel.touch q1 l4 hgS.1
          refine xQ c2 sh4 (by simp) rfl fun h3 c3 k3 => ?_
          have t3 : TouchE [pb] h2 n2 h3 n2 := zS k3 (by simp)
          have T : TouchE (TS pb rb bv svs) h n h3 n2 := (q1.mono (fun y hy => List.mem_cons_of_mem _ hy)).trans (t3.mono (fun y hy => by simp at hy; subst hy; exact List.mem_cons_self))
          refine hkk' _ _ ⟨h3, n2, rfl, T, ?_⟩
          rw [hm]
          have c3' : Cel h3 pb 0 [hv, hd 67 rb, hd 68 rb, I64 (st.step : Nat), .bool true, .bool false] := by
           rw [hen] at c3; exact c3
          exact ⟨rfl, vv', pv', bv', svs', hv, ⟨r'.pwr t3, ⟨c3', s.p.row.step T (fun y hy => .inl (hts y hy)) hM'⟩, fun _ => by simp, s.s⟩, hM'⟩
        · rw [if_neg hl] at q2; cases q2
      · obtain ⟨q1, q2⟩ := q
        unfold blockF at q2
        by_cases hl : st.f.blocks.length < 200
        · rw [if_pos hl] at q2; obtain ⟨q2, _⟩ := q2; cases q2
        · rw [if_neg hl] at q2 hm
          injection q2 with q2; subst q2
          exact yT r127 (hk _ _ _ (by rw [hm]; exact ⟨q1.mono (fun y hy => List.mem_cons_of_mem _ hy), rfl⟩))
    · rw [hc2, if_neg Bool.false_ne_true] at hm
      try simp only [↓yS, ↓zC, ↓fa116_2, ↓fa116_4, ↓e5, ↓zJ]
      refine yA (fun ho => ?_) (fun ho => ?_)
      · rw [if_pos ho] at hm
        obtain ⟨ws, hws⟩ := hof.2 (by omega) hc1 hc2 ho
        rw [hws] at hm
        dsimp only at hm
        refine yY (of_comes hE (by omega) x tTwo hx) (fun v h1 n1 q => ?_) (fun c h1 n1 q => ?_)
        · obtain ⟨x1, q⟩ := q
          rw [hws] at q
          obtain ⟨b, q, w1⟩ := q
          injection q with q; subst q
          have j : KW m [] n1 n1 b n h n1 h1 ws := ⟨x1.touch [], hE.touch (x1.touch []) (by omega) (fun _ h => by cases h), w1, by omega, Nat.le_refl _⟩
          have p1 := s.p.step (x1.touch []) l4 (by simp) (by simp) (M' := MM pb rb bv svs) (fun y hy => .inl hy)
          have f7 : zF P 113 h1 (.pointer (some ⟨pb, 2, none⟩)) = some (hd 68 rb) := zI p1.cel sh113 rfl
          have k7a : ∀ {d : List Deferred} {u : Option zL}, lkQ (fun h45 => zF P 113 h45 (.pointer (some ⟨pb, 2, none⟩))) (.pointer (some ⟨pb, 2, none⟩)) (hd 68 rb) ⟨d, u, h1, n1⟩ = true := lk_ok (rK (Nat.lt_of_lt_of_le l4 x1.1)) f7 (same_hd _ rb)
          have k7b : ∀ {d : List Deferred} {u : Option zL}, lkQ (fun h45 => zF P 113 h45 (.pointer (some ⟨pb, 2, none⟩))) (.pointer (some ⟨pb, 2, none⟩)) (hd 68 rb) ⟨d, u, h, n⟩ = true := lk_ok (rK l4) e7 (same_hd _ rb)
          rw [vE x1.1]
          try simp only [↓tK, ↓yS, ↓zC, ↓fa116_2, ↓f7]
          refine rO (first := [ptr rb 0]) (cap := []) (args := [ptr b 0]) (ins_comes (st := st.step) (op := st.opn) (en := st.ended) s.r j (s.o ho)) (fun v h2 n2 q => ?_) (fun c h2 n2 q => ?_)
          · obtain ⟨q1, q2⟩ := q
            cases ha : insS ⟨st.step, st.opn, st.ended, st.f⟩ ws with
            | error e => rw [ha] at q2; cases q2
            | ok f' =>
             rw [ha] at q2
             have ha' : insS st ws = .ok f' := ha
             rw [ha'] at hm
             dsimp only at hm
             obtain ⟨q2, q3, vv', pv', bv', svs', r', hM'⟩ := q2
             rw [vE q3, tK, lks3 k7a k7b rfl, tK]
             have T : TouchE (TS pb rb bv svs) h n h2 n2 := q1.mono (fun y hy => List.mem_cons_of_mem _ hy)
             refine hkk _ _ ⟨h2, n2, rfl, T, ?_⟩
             rw [hm]
             refine ⟨rfl, vv', pv', bv', svs', hv, ⟨r', ⟨?_, s.p.row.step T (fun y hy => .inl (hts y hy)) hM'⟩, fun _ => ?_, s.s⟩, hM'⟩
             · have c2 := s.p.cel.touch q1 l4 hgS.1
               rw [hen] at c2; exact c2
             · exact insS_blocks ha'
          · obtain ⟨q1, q2⟩ := q
            cases ha : insS ⟨st.step, st.opn, st.ended, st.f⟩ ws with
            | ok f' => rw [ha] at q2; obtain ⟨q2, _⟩ := q2; cases q2
            | error e =>
             rw [ha] at q2
             have ha' : insS st ws = .error e := ha
             rw [ha'] at hm
             dsimp only at hm
             injection q2 with q2; subst q2
             rw [lks2 k7b k7a rfl, tK]
             exact yT r127 (hk _ _ _ (by rw [hm]; exact ⟨q1.mono (fun y hy => List.mem_cons_of_mem _ hy), rfl⟩))
        · obtain ⟨x1, q⟩ := q
          rw [hws] at q
          obtain ⟨b, q, w1⟩ := q
          cases q
      · rw [if_neg (by rw [ho]; exact Bool.false_ne_true)] at hm
        exact yT r127 (hk _ _ _ (by rw [hm]; exact ⟨TouchE.refl _ _ _, rfl⟩))
set_option maxRecDepth 1000000
theorem line1_comes {m : Int} {lo n pb rb pbx lbx zl : Nat} {h : zD} {st : St} {vv pv bv : Value} {svs : List Value} {hv : Value} (s : SAt lo n h pb rb st vv pv bv svs hv) (hE : Env m h) (x : Tx) (hx : x.length < 90000) (hof : OfOK st x)
 (hp : Cel h pbx 0 [ptr pb 0]) (hl : Cel h lbx zl [str x]) (shp : yG P 112 = .scal) :
 ComesE P 8 126 [ptr pbx 0, ptr lbx 0] h n (LQ lo pb rb (TS pb rb bv svs) (MM pb rb bv svs) h n (uE st x)) := by
 refine yR zP mixed (hint := hint126) l126 fun u k hk => ?_
 rw [F126_eq]
 unfold F126
 have e1 : zF P 112 h (ptr pbx 0) = some (ptr pb 0) := zI hp shp rfl
 have e2 : zF P 9 h (ptr lbx 0) = some (str x) := zI hl sh9 rfl
 simp only [↓e1, ↓e2, ↓zC]
 refine yY (line_comes s hE x hx hof) (fun v h' n' q => ?_) (fun c h' n' q => ?_)
 · have hv : v = .tuple ⟨[]⟩ := by
    obtain ⟨_, q2⟩ := q
    cases hm : uE st x with
    | error e => rw [hm] at q2; cases q2
    | ok st' => rw [hm] at q2; obtain ⟨q2, _⟩ := q2; injection q2
   subst hv
   exact qE r126 (hk _ _ _ q)
 · exact yT r126 (hk _ _ _ q)
noncomputable def ansL (o : Out) (h : zD) (n : Nat) : Lo := ⟨fun _ _ _ _ _ => false, fun _ _ _ _ _ _ k => k o none h n, fun _ _ _ _ _ => false, fun _ _ _ _ _ => false⟩
section
variable (L : Lo) (s0 s1 s3 s7 s8 s9 s10 s11 s12 s13 s14 s15 s16 s17 s18 s19 s20 s21 s22 s23 s24 s25 s26 s27 : Value) (b2 b4 b5 b6 b8 l n : Nat) (no : Int) (x : Tx) (h : zD)
theorem assign_eq (k : KX) :
 qY (fr69 s0 s1 (ptr b2 0) s3 (ptr b4 0) (ptr b5 0) (ptr b6 0) s7 s8 s9 s10 s11 s12 s13 s14 s15 s16 s17 s18 s19 s20 s21 s22 s23 s24 s25 s26 s27) (rfP P 69 5).toList [.int .i64 no, str x] (fun t' => xcode P L (rfA P 69 5) ⟨69, some l, false⟩ t' ⟨[], none, h, n⟩ k) =
  yO h n (vI [str []] 9) fun h1 n1 => storeAt h1 n 0 [str x] fun h2 =>
   k .normal (fr69 s0 s1 (ptr b2 0) s3 (ptr b4 0) (ptr b5 0) (ptr b6 0) (.int .i64 no) (ptr n 0) s9 s10 s11 (.int .i64 no) (str x) s14 s15 s16 s17 s18 s19 s20 s21 s22 s23 s24 s25 s26 s27) ⟨[], none, h2, n1⟩ := by kernel_rfl
theorem body_eq (k : KX) (u : Option zL) :
 xcode P L (rfB P 69 5) ⟨69, some l, false⟩ (fr69 s0 s1 (ptr b2 0) s3 (ptr b4 0) (ptr b5 0) (ptr b6 0) (.int .i64 no) (ptr b8 0) s9 s10 s11 s12 s13 s14 s15 s16 s17 s18 s19 s20 s21 s22 s23 s24 s25 s26 s27) ⟨[], u, h, n⟩ k =
  L.call 125 [(.func (.func 126) ⟨[]⟩ ⟨[ptr b2 0, ptr b8 0]⟩)] false none h n fun o _ h' n' =>
   xcode P (ansL o h' n') (rfB P 69 5) ⟨69, some l, false⟩ (fr69 s0 s1 (ptr b2 0) s3 (ptr b4 0) (ptr b5 0) (ptr b6 0) (.int .i64 no) (ptr b8 0) s9 s10 s11 s12 s13 s14 s15 s16 s17 s18 s19 s20 s21 s22 s23 s24 s25 s26 s27) ⟨[], u, h, n⟩ k := by kernel_rfl
theorem body_ans (k : KX) (u : Option zL) (e : Int) (h' : zD) (n' : Nat) :
 xcode P (ansL (.ret (.int .i64 e)) h' n') (rfB P 69 5) ⟨69, some l, false⟩ (fr69 s0 s1 (ptr b2 0) s3 (ptr b4 0) (ptr b5 0) (ptr b6 0) (.int .i64 no) (ptr b8 0) s9 s10 s11 s12 s13 s14 s15 s16 s17 s18 s19 s20 s21 s22 s23 s24 s25 s26 s27) ⟨[], u, h, n⟩ k =
  Bool.rec (storeAt h' b6 0 [.int .i64 no] fun h3 => k .normal (fr69 s0 s1 (ptr b2 0) s3 (ptr b4 0) (ptr b5 0) (ptr b6 0) (.int .i64 no) (ptr b8 0) (.int .i64 e) s10 s11 s12 s13 (.func (.func 126) ⟨[]⟩ ⟨[ptr b2 0, ptr b8 0]⟩) (.int .i64 e) (.int .i64 e) (.bool (Bool.rec true false (wJ e 0))) s18 s19 (.int .i64 no) s21 s22 s23 s24 s25 s26 s27) ⟨[], u, h3, n'⟩) (storeAt h' b4 0 [.int .i64 no] fun h3 => storeAt h3 b5 0 [.int .i64 e] fun h4 => k .ret (fr69 s0 s1 (ptr b2 0) s3 (ptr b4 0) (ptr b5 0) (ptr b6 0) (.int .i64 no) (ptr b8 0) (.int .i64 e) s10 s11 s12 s13 (.func (.func 126) ⟨[]⟩ ⟨[ptr b2 0, ptr b8 0]⟩) (.int .i64 e) (.int .i64 e) (.bool (Bool.rec true false (wJ e 0))) (.int .i64 no) (.int .i64 e) s20 s21 s22 s23 s24 s25 s26 s27) ⟨[], u, h4, n'⟩) (Bool.rec true false (wJ e 0)) := by kernel_rfl
end
theorem SAt.wr {lo n n' pb rb : Nat} {h h' : zD} {st : St} {vv pv bv : Value} {svs : List Value} {hv : Value} {S : List Nat} (s : SAt lo n h pb rb st vv pv bv svs hv) (t : TouchE S h n h' n') (hS : ∀ x ∈ S, (pb < x ∧ x ≤ pb + 7) ∨ n ≤ x) : SAt lo n' h' pb rb st vv pv bv svs hv := by
 obtain ⟨l1, l2, l3, l4, l5, l6⟩ := s.r.low
 have hM : ∀ x ∈ S, x ∈ MM pb rb bv svs ∨ n ≤ x := fun x hx => (hS x hx).imp (fun h => mem_MM.2 (.inl ⟨by omega, h.2⟩)) id
 have hM2 : ∀ x ∈ MM pb rb bv svs, x ∈ MM pb rb bv svs ∨ n ≤ x := fun x hx => .inl hx
 refine ⟨s.r.step t (fun x hx => (hS x hx).elim (fun h => .inl ⟨by omega, h.2⟩) (fun h => .inr (.inr h))) rfl (s.r.cel.touch t l5 fun hx => ?_) (s.r.vr.step t hM hM2) (s.r.pr.step t hM hM2), s.p.step t (by omega) (fun hx => ?_) hM hM2, s.o, s.s⟩
 · rcases hS rb hx with h | h <;> omega
 · rcases hS pb hx with h | h <;> omega
theorem SAt.hole {lo n n' x m z pb rb : Nat} {h h' : zD} {st : St} {vv pv bv : Value} {svs : List Value} {hv : Value} (s : SAt lo n h pb rb st vv pv bv svs hv) (t : TouchE [x] h n h' n') (hx : tS (zU h x) = some (m, z + 1, 0)) : SAt lo n' h' pb rb st vv pv bv svs hv := by
 obtain ⟨l1, l2, l3, l4, l5, l6⟩ := s.r.low
 refine ⟨s.r.hole t hx, ⟨s.p.cel.touch t (by omega) fun hr => ?_, s.p.row.hole t hx⟩, s.o, s.s⟩
 simp at hr
 subst hr
 rw [s.p.cel.1] at hx
 injection hx with hx; injection hx with _ hx; injection hx with hx _; cases hx
noncomputable def LL (blk : Nat) : Loop := { state := .ready, pending := none, fn := 69, tmps := #[], params := rfP P 69 5, assign := rfA P 69 5, body := rfB P 69 5, defers := blk }
noncomputable def LB (blk : Nat) : Loop := { state := .busy, pending := none, fn := 69, tmps := #[], params := rfP P 69 5, assign := rfA P 69 5, body := rfB P 69 5, defers := blk }
noncomputable def LD (blk : Nat) : Loop := { state := .done, pending := some .ret, fn := 69, tmps := #[], params := rfP P 69 5, assign := rfA P 69 5, body := rfB P 69 5, defers := blk }
noncomputable def T0 (pb : Nat) (s0 s1 s10 s11 : Value) : Fr := fr69 s0 s1 (ptr (pb + 1) 0) undef (ptr (pb + 2) 0) (ptr (pb + 3) 0) (ptr (pb + 4) 0) undef undef undef s10 s11 undef undef undef undef undef undef undef undef undef undef undef undef undef undef undef undef
structure BX (h : zD) (pb : Nat) (x4 x5 x6 : Value) : Prop where
 c2 : Cel h (pb + 1) 0 [ptr pb 0]
 c4 : Cel h (pb + 2) (3 + 1) [x4]
 c5 : Cel h (pb + 3) (25 + 1) [x5]
 c6 : Cel h (pb + 4) (3 + 1) [x6]
theorem BX.step {h h' : zD} {pb : Nat} {x4 x5 x6 : Value} (b : BX h pb x4 x5 x6) (k : ∀ y, pb + 1 ≤ y → y ≤ pb + 4 → zU h' y = zU h y) : BX h' pb x4 x5 x6 :=
 ⟨b.c2.keep (k _ (by omega) (by omega)), b.c4.keep (k _ (by omega) (by omega)), b.c5.keep (k _ (by omega) (by omega)), b.c6.keep (k _ (by omega) (by omega))⟩
def RdQ (lo pb rb : Nat) (S M : List Nat) (blk : Nat) (t0 : Fr) (h : zD) (n : Nat) (no : Int) (r : Except Int St) (v : Value) (h' : zD) (n' : Nat) : Prop :=
 match r with
 | .ok st' => v = .bool true ∧ TouchE ((pb + 7) :: (pb + 4) :: S) h n h' n' ∧ zU h' (pb + 7) = .loop (LL blk) t0 ∧ (∃ vv pv bv svs hv, SAt lo n' h' pb rb st' vv pv bv svs hv ∧ ∀ x ∈ MM pb rb bv svs, x ∈ M ∨ n ≤ x) ∧ ∃ x4 x5, BX h' pb x4 x5 (I64 no)
 | .error e => v = .bool false ∧ TouchE ((pb + 7) :: (pb + 2) :: (pb + 3) :: S) h n h' n' ∧ zU h' (pb + 7) = .loop (LD blk) t0 ∧ Cel h' (pb + 2) (3 + 1) [I64 no] ∧ Cel h' (pb + 3) (25 + 1) [I64 e]
theorem TS_far {lo n pb rb : Nat} {h : zD} {f : Fct} {vv pv bv : Value} {svs : List Value} (r : RAt lo n h pb rb f vv pv bv svs) : ∀ y, pb < y → y ≤ pb + 7 → y ∉ TS pb rb bv svs := by
 obtain ⟨l1, l2, l3, l4, l5, l6⟩ := r.low
 intro y h1 h2 hx
 unfold TS at hx
 rcases List.mem_cons.1 hx with hx | hx
 · omega
 · rcases List.mem_cons.1 hx with hx | hx
   · omega
   · rcases List.mem_append.1 hx with hx | hx
     · have := (r.bne y (by simpa using hx)).1; omega
     · have := (r.lne y (mem_lastB.1 hx)).1; omega
theorem round_comes {m : Int} {lo n pb rb : Nat} {h : zD} {st : St} {vv pv bv : Value} {svs : List Value} {hv : Value} {blk : Nat} {s0 s1 s10 s11 x4 x5 x6 : Value} (shp : yG P 112 = .scal)
 (s : SAt lo n h pb rb st vv pv bv svs hv) (hE : Env m h) (hll : zU h (pb + 7) = .loop (LL blk) (T0 pb s0 s1 s10 s11)) (B : BX h pb x4 x5 x6) (no : Int) (x : Tx) (hx : x.length < 90000) (hof : OfOK st x) (he0 : ∀ e, uE st x = .error e → e ≠ 0)
 (k : Out → zD → Nat → Bool) (hk : ∀ v h' n', RdQ lo pb rb (TS pb rb bv svs) (MM pb rb bv svs) blk (T0 pb s0 s1 s10 s11) h n no (uE st x) v h' n' → k (.ret v) h' n' = true) :
 (loS P 8).round (pb + 7) [.int .i64 no, str x] h n k = true := by
 obtain ⟨l1, l2, l3, l4, l5, l6⟩ := s.r.low
 have hfar := TS_far s.r
 have hTSn : ∀ y ∈ TS pb rb bv svs, y < n := fun y hy => (s.r.lt y (by
  unfold TS at hy
  rcases List.mem_cons.1 hy with hy | hy
  · exact mem_MM.2 (.inl (by omega))
  · exact (gS_ok s.r).2 _ hy)).2
 refine loS_round.2 (xround_ok zP (sound_lo1 zP mixed) ?_)
 unfold xround
 rw [hll]
 show qY (T0 pb s0 s1 s10 s11) (rfP P 69 5).toList [.int .i64 no, str x] (fun t' => xcode P (loS P 8) (rfA P 69 5) ⟨69, some (pb + 7), false⟩ t' ⟨[], none, h, n⟩ _) = true
 unfold T0
 rw [assign_eq, yQ]
 have c1 : Cel (h.set .dead (vI [str []] 9) n) n (9 + 1) [str []] := cel_mkC
 have x1 : Ext h n (h.set .dead (vI [str []] 9) n) (n + 1) := set_ext
 generalize h.set .dead (vI [str []] 9) n = h1 at c1 x1
 refine tM c1 (by simp) rfl fun h2 c2 k2 => ?_
 have t02 : TouchE [] h n h2 (n + 1) := (x1.touch []).step (zS (n := n + 1) k2 (S := [n]) (by simp)) (fun y hy => by simp at hy; subst hy; exact .inr (Nat.le_refl _))
 have hl2 : zU h2 (pb + 7) = .loop (LL blk) (T0 pb s0 s1 s10 s11) := by rw [t02.2 (pb + 7) l4 (by simp)]; exact hll
 dsimp only
 rw [hl2]
 dsimp only [LL]
 rw [Tr.setK_eq]
 have hl3 : zU (h2.set .dead (.loop (LB blk) (T0 pb s0 s1 s10 s11)) (pb + 7)) (pb + 7) = .loop (LB blk) (T0 pb s0 s1 s10 s11) := by rw [zK, if_pos rfl]
 have k3 : ∀ y, y ≠ pb + 7 → zU (h2.set .dead (.loop (LB blk) (T0 pb s0 s1 s10 s11)) (pb + 7)) y = zU h2 y := fun y hy => by rw [zK, if_neg (fun e => hy e.symm)]
 dsimp only [LB] at hl3 k3
 generalize h2.set .dead _ (pb + 7) = h3 at hl3 k3 ⊢
 have hcode : (lo1 P 8).code = xcode P (loS P 8) := rfl
 rw [hcode]
 have t03 : TouchE [pb + 7] h n h3 (n + 1) := (t02.mono (by simp)).trans (zS (n := n + 1) k3 (by simp))
 have c3 : Cel h3 n (9 + 1) [str x] := Cel.keep c2 (k3 n (by omega))
 rw [body_eq]
 have hE3 : Env m h3 := hE.touch t03 (by omega) (fun y hy => by simp at hy; omega)
 have s3 := s.wr t03 (fun y hy => by simp at hy; exact .inl ⟨by omega, by omega⟩)
 have hB3 : BX h3 pb x4 x5 x6 := B.step fun y h1 h2 => t03.2 y (by omega) (by simp; omega)
 refine (caught_comes (g := 126) (first := []) (cap := [ptr (pb + 1) 0, ptr n 0])
  (Q := fun o h5 n5 => TouchE (TS pb rb bv svs) h3 (n + 1) h5 n5 ∧ match uE st x with
   | .ok st' => o = .ret (.tuple ⟨[]⟩) ∧ ∃ vv pv bv' svs' hv, SAt lo n5 h5 pb rb st' vv pv bv' svs' hv ∧ ∀ y ∈ MM pb rb bv' svs', y ∈ MM pb rb bv svs ∨ n ≤ y
   | .error e => o = .panic (uZ e)) ?_ ?_) none _ fun o h7 n7 q => ?_
 · intro h4 c4 x4'
   have s4 := s3.wr (x4'.touch []) (fun _ h => by cases h)
   have hE4 := hE3.touch (x4'.touch []) (by omega) (fun _ h => by cases h)
   refine (line1_comes s4 hE4 x hx hof (hB3.c2.touch (x4'.touch []) (by omega) (by simp)) (c3.touch (x4'.touch []) (by omega) (by simp)) shp).mono fun o h5 n5 q => ?_
   obtain ⟨q1, q2⟩ := q
   refine ⟨⟨(x4'.touch _).trans q1, ?_⟩, q1.1, c4.touch q1 (by omega) (fun hy => by
    have := hTSn (n + 1) hy
    omega)⟩
   cases hm : uE st x with
   | error e => rw [hm] at q2; exact q2
   | ok st' =>
    rw [hm] at q2
    obtain ⟨q2, vv', pv', bv', svs', hv', q3, q4⟩ := q2
    exact ⟨q2, vv', pv', bv', svs', hv', q3, fun y hy => (q4 y hy).imp id (fun h => by omega)⟩
 · intro c h5 n5 q
   obtain ⟨q1, q2⟩ := q
   cases hm : uE st x with
   | error e => rw [hm] at q2; injection q2 with q2; exact ⟨e, q2⟩
   | ok st' => rw [hm] at q2; obtain ⟨q2, _⟩ := q2; cases q2
 · obtain ⟨h5, n5, hn5, cn5, t57, q⟩ := q
   have hgo : ∀ (hq : TouchE (TS pb rb bv svs) h3 (n + 1) h5 n5), (∀ y, pb + 1 ≤ y → y ≤ pb + 7 → zU h7 y = zU h3 y) ∧ TouchE ((pb + 7) :: TS pb rb bv svs) h n h7 n7 := fun hq => by
    refine ⟨fun y h1 h2 => ?_, ?_⟩
    · have e1 := hq.2 y (by omega) (hfar y (by omega) h2)
      rw [t57.2 y (by have := hq.1; omega) (by simp; omega), e1]
    · have t1 : TouchE ((pb + 7) :: TS pb rb bv svs) h n h5 n5 := (t03.mono (fun y hy => by simp at hy; subst hy; exact List.mem_cons_self)).trans (hq.mono (fun y hy => List.mem_cons_of_mem _ hy))
      exact t1.step t57 (fun y hy => by simp at hy; subst hy; exact .inr (by omega))
   rcases q with ⟨v, ⟨q1, q2⟩, rfl⟩ | ⟨e, ⟨q1, q2⟩, rfl⟩
   · obtain ⟨g1, g2⟩ := hgo q1
     cases hm : uE st x with
     | error e => rw [hm] at q2; cases q2
     | ok st' =>
      rw [hm] at q2 hk
      obtain ⟨q2, vv', pv', bv', svs', hv', q3, q4⟩ := q2
      rw [body_ans]
      have e0 : (Bool.rec true false (wJ 0 0) : Bool) = false := rfl
      rw [e0]
      have hB7 : BX h7 pb x4 x5 x6 := hB3.step fun y h1 h2 => g1 y h1 (by omega)
      refine tM hB7.c6 (by simp) rfl fun h8 c8 k8 => ?_
      have hl8 : zU h8 (pb + 7) = .loop (LB blk) (T0 pb s0 s1 s10 s11) := by
       rw [k8 (pb + 7) (by omega), g1 (pb + 7) (by omega) (by omega), hl3]; rfl
      dsimp only
      unfold endRound
      rw [hl8]
      dsimp only [LB]
      rw [Tr.setK_eq]
      have hl9 : zU (h8.set .dead (.loop (LL blk) (T0 pb s0 s1 s10 s11)) (pb + 7)) (pb + 7) = .loop (LL blk) (T0 pb s0 s1 s10 s11) := by rw [zK, if_pos rfl]
      have k9 : ∀ y, y ≠ pb + 7 → zU (h8.set .dead (.loop (LL blk) (T0 pb s0 s1 s10 s11)) (pb + 7)) y = zU h8 y := fun y hy => by rw [zK, if_neg (fun e => hy e.symm)]
      dsimp only [LL] at hl9 k9
      generalize h8.set .dead _ (pb + 7) = h9 at hl9 k9 ⊢
      have t8 : TouchE [pb + 4] h7 n7 h8 n7 := zS k8 (by simp)
      have t9 : TouchE [pb + 7] h8 n7 h9 n7 := zS k9 (by simp)
      refine hk _ _ _ ⟨rfl, ?_, hl9, ⟨vv', pv', bv', svs', hv', ?_, fun y hy => q4 y hy⟩, x4, x5, ?_⟩
      · refine ((g2.mono (fun y hy => ?_)).trans (t8.mono (fun y hy => by simp at hy; subst hy; simp))).trans (t9.mono (fun y hy => by simp at hy; subst hy; simp))
        rcases List.mem_cons.1 hy with rfl | hy
        · simp
        · exact List.mem_cons_of_mem _ (List.mem_cons_of_mem _ hy)
      · exact ((q3.hole t57 (by rw [cn5.1])).wr t8 (fun y hy => by simp at hy; exact .inl ⟨by omega, by omega⟩)).wr t9 (fun y hy => by simp at hy; exact .inl ⟨by omega, by omega⟩)
      · have c6 : Cel h8 (pb + 4) (3 + 1) [I64 no] := c8
        exact ⟨(hB7.c2.keep (k8 _ (by omega))).keep (k9 _ (by omega)), (hB7.c4.keep (k8 _ (by omega))).keep (k9 _ (by omega)), (hB7.c5.keep (k8 _ (by omega))).keep (k9 _ (by omega)), c6.keep (k9 _ (by omega))⟩
   · obtain ⟨g1, g2⟩ := hgo q1
     cases hm : uE st x with
     | ok st' => rw [hm] at q2; obtain ⟨q2, _⟩ := q2; cases q2
     | error e' =>
      rw [hm] at q2 hk
      injection q2 with q2; injection q2 with q2 _; injection q2 with q2 _ _; injection q2 with _ q2; injection q2 with q2; injection q2 with q2; injection q2 with q2 _; injection q2 with _ q2
      subst q2
      rw [body_ans]
      have e0 : (Bool.rec true false (wJ e 0) : Bool) = true := by
       rw [wX, decide_eq_false (he0 e hm)]
      rw [e0]
      have hB7 : BX h7 pb x4 x5 x6 := hB3.step fun y h1 h2 => g1 y h1 (by omega)
      refine tM hB7.c4 (by simp) rfl fun h8 c8 k8 => ?_
      refine tM (hB7.c5.keep (k8 _ (by omega))) (by simp) rfl fun h10 c10 k10 => ?_
      have hl8 : zU h10 (pb + 7) = .loop (LB blk) (T0 pb s0 s1 s10 s11) := by
       rw [k10 (pb + 7) (by omega), k8 (pb + 7) (by omega), g1 (pb + 7) (by omega) (by omega), hl3]; rfl
      dsimp only
      unfold endRound
      rw [hl8]
      dsimp only [LB]
      rw [Tr.setK_eq]
      have hl9 : zU (h10.set .dead (.loop (LD blk) (T0 pb s0 s1 s10 s11)) (pb + 7)) (pb + 7) = .loop (LD blk) (T0 pb s0 s1 s10 s11) := by rw [zK, if_pos rfl]
      have k9 : ∀ y, y ≠ pb + 7 → zU (h10.set .dead (.loop (LD blk) (T0 pb s0 s1 s10 s11)) (pb + 7)) y = zU h10 y := fun y hy => by rw [zK, if_neg (fun e => hy e.symm)]
      dsimp only [LD] at hl9 k9
      generalize h10.set .dead _ (pb + 7) = h9 at hl9 k9 ⊢
      have t8 : TouchE [pb + 2, pb + 3] h7 n7 h10 n7 := (zS (n := n7) k8 (S := [pb + 2, pb + 3]) (by simp)).trans (zS k10 (by simp))
      have t9 : TouchE [pb + 7] h10 n7 h9 n7 := zS k9 (by simp)
      have c4 : Cel h8 (pb + 2) (3 + 1) [I64 no] := c8
      have c5 : Cel h10 (pb + 3) (25 + 1) [I64 e] := c10
      refine hk _ _ _ ⟨rfl, ?_, hl9, (c4.keep (k10 _ (by omega))).keep (k9 _ (by omega)), c5.keep (k9 _ (by omega))⟩
      refine ((g2.mono (fun y hy => ?_)).trans (t8.mono (fun y hy => by simp at hy; rcases hy with rfl | rfl <;> simp))).trans (t9.mono (fun y hy => by simp at hy; subst hy; simp))
      rcases List.mem_cons.1 hy with rfl | hy
      · simp
      · exact List.mem_cons_of_mem _ (List.mem_cons_of_mem _ (List.mem_cons_of_mem _ hy))
theorem zW {d : List Deferred} {u : Option zL} {h : zD} {n : Nat} {f : List Deferred → Option zL → zD → Nat → Bool} (hf : f d u h n = true) : onW ⟨d, u, h, n⟩ f = true := hf
def Low (lo : Nat) (h : zD) (n : Nat) (h' : zD) (n' : Nat) : Prop := n ≤ n' ∧ ∀ b, b < lo → b < n → zU h' b = zU h b
theorem Low.touch {lo : Nat} {h h1 h2 : zD} {n n1 n2 : Nat} {S : List Nat} (a : Low lo h n h1 n1) (t : TouchE S h1 n1 h2 n2) (hS : ∀ x ∈ S, lo ≤ x) : Low lo h n h2 n2 :=
 ⟨Nat.le_trans a.1 t.1, fun b hb hbn => (t.2 b (Nat.lt_of_lt_of_le hbn a.1) (fun hx => by have := hS b hx; omega)).trans (a.2 b hb hbn)⟩
structure Mid (lo : Nat) (h0 : zD) (n0 : Nat) (pb : Nat) (t0 : Fr) (last : Int) (n : Nat) (h : zD) : Prop where
 low : Low lo h0 n0 h n
 ll : zU h (pb + 7) = .loop (LL (pb + 6)) t0
 df : zU h (pb + 6) = .deferred true
 bx : ∃ x4 x5, BX h pb x4 x5 (I64 last)
structure Fell (lo : Nat) (h0 : zD) (n0 : Nat) (pb : Nat) (t0 : Fr) (no e : Int) (n : Nat) (h : zD) : Prop where
 low : Low lo h0 n0 h n
 ll : zU h (pb + 7) = .loop (LD (pb + 6)) t0
 df : zU h (pb + 6) = .deferred true
 c4 : Cel h (pb + 2) (3 + 1) [I64 no]
 c5 : Cel h (pb + 3) (25 + 1) [I64 e]
theorem lines_loop {m : Int} {lo pb rb n0 : Nat} {h0 : zD} {s0 s1 s10 s11 : Value} (shp : yG P 112 = .scal) (u : Option zL) (ka : KX) :
 ∀ (k no : Nat) (s : Tx) (st : St) (vv pv bv : Value) (svs : List Value) (hv : Value) (h : zD) (n : Nat) (t : Fr), s.length < k → s.length < 90000 → no + s.length < 1000000 → 1 ≤ no → RunOK k s st OfOK →
 SAt lo n h pb rb st vv pv bv svs hv → Env m h → Mid lo h0 n0 pb (T0 pb s0 s1 s10 s11) ((no : Int) - 1) n h → Cel h (pb + 5) 0 [str s] →
 zA t 0 = .func (.yield (pb + 7)) #[] #[] → zA t 1 = ptr (pb + 5) 0 → zA t 3 = I64 (no : Nat) →
 (∀ st' no' t' h' n', runS k no s st = .ok (st', no') → (∃ vv pv bv svs hv, SAt lo n' h' pb rb st' vv pv bv svs hv) → Env m h' → Mid lo h0 n0 pb (T0 pb s0 s1 s10 s11) ((no' : Int) - 1) n' h' → no' < 1000000 → ka (.exit 0) t' ⟨[], u, h', n'⟩ = true) →
 (∀ no' e t' h' n', runS k no s st = .error (no', e) → Fell lo h0 n0 pb (T0 pb s0 s1 s10 s11) (no' : Nat) e n' h' → ka .ret t' ⟨[], u, h', n'⟩ = true) →
 lpS P 8 1000001 ⟨159, none, false⟩ t ⟨[], u, h, n⟩ ka = true := by
 intro k
 induction k with
 | zero => intro no s st vv pv bv svs hv h n t hs; omega
 | succ k ih =>
  intro no s st vv pv bv svs hv h n t hs hsl hno hno1 hrun sa hE hM hc t0 t1 t3 hok herr
  obtain ⟨l1, l2, l3, l4, l5, l6⟩ := sa.r.low
  refine xW zP mixed (hint := hint159) l159 lp159_1000001 ?_
  rw [B159_1000001_eq]
  unfold B159_1000001
  rw [t0, t1, t3]
  have e1 : zF P 9 h (ptr (pb + 5) 0) = some (str s) := zI hc sh9 rfl
  have ec : ((ByteArray.mk #[]).data.toList : List UInt8) = [] := rfl
  simp only [↓zG, ↓zH]
  refine zW ?_
  simp only [↓e1, ↓zC]
  rw [cmpS_ne, ec]
  show br (!(s == [])) _ _ = true
  cases hse : (s == []) with
  | true =>
   have hs0 : s = [] := by simpa using hse
   subst hs0
   simp only [Bool.not_true, ↓uL]
   exact hok st no _ h n rfl ⟨vv, pv, bv, svs, hv, sa⟩ hE hM (by omega)
  | false =>
   have hne : s ≠ [] := fun e => by rw [e] at hse; simp at hse
   obtain ⟨hof, hrun'⟩ := hrun.resolve_left hne
   have hcl := cutB_len 10 s hne
   simp only [Bool.not_false, ↓uD, ↓xO]
   refine wW (cut_pure n hE.tabs s 10 (by omega)) ?_
   have x0 : ∀ a b c, xD 0 (.tuple #[str a, str b, .bool c]) = some (str a) := fun _ _ _ => rfl
   have x1 : ∀ a b c, xD 1 (.tuple #[str a, str b, .bool c]) = some (str b) := fun _ _ _ => rfl
   have x2 : ∀ a b c, xD 2 (.tuple #[str a, str b, .bool c]) = some (.bool c) := fun _ _ _ => rfl
   simp only [↓x0, ↓x1, ↓x2, ↓zC, ↓zJ, ↓xR]
   obtain ⟨x4, x5, hB⟩ := hM.bx
   refine vF (fun t w => zA t 0 = .func (.yield (pb + 7)) #[] #[] ∧ zA t 1 = ptr (pb + 5) 0 ∧ zA t 3 = I64 (no : Nat) ∧ zA t 4 = str (sL s) ∧ zA t 5 = str (cutB 10 s).2.1 ∧ w = ⟨[], u, h, n⟩) (fun t w q => ?_) (fun hb kk hkk => ?_) (fun hb kk hkk => ?_)
   · obtain ⟨q0, q1, q3, q4, q5, rfl⟩ := q
     rw [q0, q1, q3, q4, q5]
     simp only [↓zG, ↓zH]
     refine zW ?_
     show (loS P 8).round (pb + 7) [.int .i64 (no : Nat), str (sL s)] h n _ = true
     refine round_comes shp sa hE hM.ll hB (no : Nat) (sL s) (by have := lineOf_len s; omega) hof (fun e he => by have := lineS_bad he; unfold Bad at this; omega) _ fun v h2 n2 q => ?_
     have hTS : ∀ y ∈ TS pb rb bv svs, lo ≤ y := fun y hy => (sa.r.lt y (by
      unfold TS at hy
      rcases List.mem_cons.1 hy with hy | hy
      · exact mem_MM.2 (.inl (by omega))
      · exact (gS_ok sa.r).2 _ hy)).1
     have hfar := TS_far sa.r
     unfold RdQ at q
     cases hm : uE st (sL s) with
     | error e =>
      rw [hm] at q
      obtain ⟨rfl, q2, q3, q4, q5⟩ := q
      show rtB (.bool false) _ = true
      simp only [↓zJ, ↓xR, ↓zC, Bool.not_false, ↓uD]
      refine herr no e _ h2 n2 (runS_er hse hm) ⟨hM.low.touch q2 (fun y hy => ?_), q3, ?_, q4, q5⟩
      · simp only [List.mem_cons] at hy
        rcases hy with rfl | rfl | rfl | hy
        · omega
        · omega
        · omega
        · exact hTS y hy
      · rw [q2.2 (pb + 6) (by omega) (by
         intro hy
         simp only [List.mem_cons] at hy
         rcases hy with hy | hy | hy | hy
         · omega
         · omega
         · omega
         · exact hfar (pb + 6) (by omega) (by omega) hy)]
        exact hM.df
     | ok st' =>
      rw [hm] at q
      obtain ⟨rfl, q2, q3, ⟨vv', pv', bv', svs', hv', q4, q4'⟩, x4', x5', q5⟩ := q
      show rtB (.bool true) _ = true
      simp only [↓zJ, ↓xR, ↓zC, Bool.not_true, ↓uL]
      have hn5 : ∀ y, pb + 5 ≤ y → y ≤ pb + 6 → y ∉ (pb + 7) :: (pb + 4) :: TS pb rb bv svs := fun y h1 h2 hy => by
       simp only [List.mem_cons] at hy
       rcases hy with hy | hy | hy
       · omega
       · omega
       · exact hfar y (by omega) (by omega) hy
      have hc2 := hc.touch q2 (by omega) (hn5 (pb + 5) (by omega) (by omega))
      refine xQ hc2 sh9 (by simp) rfl fun h3 c3 k3 => ?_
      have t3' : TouchE [pb + 5] h2 n2 h3 n2 := zS k3 (by simp)
      have hlow2 : Low lo h0 n0 h2 n2 := hM.low.touch q2 (fun y hy => by
       simp only [List.mem_cons] at hy
       rcases hy with rfl | rfl | hy
       · omega
       · omega
       · exact hTS y hy)
      have hE2 : Env m h2 := hE.touch q2 (by omega) (fun y hy => by
       simp only [List.mem_cons] at hy
       rcases hy with rfl | rfl | hy
       · omega
       · omega
       · have := hTS y hy; omega)
      simp only [↓fg0, ↓fg1, ↓fg3, q0, q1, q3, ↓zG, ↓zH]
      refine zW ?_
      refine sF (by omega) ?_
      refine ih (no + 1) (cutB 10 s).2.1 st' vv' pv' bv' svs' hv' h3 n2 _ (by omega) (by omega) (by omega) (by omega) (hrun' st' hm) (q4.wr t3' (fun y hy => by simp at hy; exact .inl ⟨by omega, by omega⟩)) (hE2.touch t3' (by have := q2.1; omega) (fun y hy => by simp at hy; omega))
       ⟨hlow2.touch t3' (fun y hy => by simp at hy; omega), by rw [k3 _ (by omega)]; assumption, ?_, x4', x5', ?_⟩ c3 rfl rfl rfl ?_ ?_
      · rw [k3 _ (by omega), q2.2 (pb + 6) (by omega) (hn5 (pb + 6) (by omega) (by omega))]; exact hM.df
      · have e9 : (((no + 1 : Nat) : Int) - 1) = (no : Nat) := by omega
        rw [e9]
        exact q5.step fun y h1 h2 => k3 y (by omega)
      · intro st'' no'' t' h' n' hr
        exact hok st'' no'' t' h' n' (by rw [runS_ok hse hm]; exact hr)
      · intro no'' e t' h' n' hr
        exact herr no'' e t' h' n' (by rw [runS_ok hse hm]; exact hr)
   · have hb' : (cutB 10 s).2.2 = false := by simpa using hb
     exact hkk _ _ ⟨rfl, rfl, rfl, by show str [] = str (sL s); unfold sL; rw [hb']; rfl, rfl, rfl⟩
   · have hb' : (cutB 10 s).2.2 = true := by simpa using hb
     exact hkk _ _ ⟨rfl, rfl, rfl, by show str _ = str (sL s); unfold sL; rw [hb']; rfl, rfl, rfl⟩
theorem lines_rets (s : Tx) (h : zD) (n : Nat) : Rets P 8 124 [str s] h n fun v h' n' => v = .func (.func 159) ⟨[]⟩ ⟨[ptr n 0]⟩ ∧ n' = n + 1 ∧ Cel h' n 0 [str s] ∧ Ext h n h' (n + 1) := by
 refine yM zP mixed (hint := hint124) l124 fun u k hk => ?_
 rw [F124_eq]
 unfold F124
 refine tL (by simp [cellsOf, Value.oneCell']) fun h1 c1 x1 => ?_
 simp only [↓xE]
 exact yF r124 rfl (hk _ _ _ ⟨rfl, rfl, c1, x1⟩)
theorem code_ret {cx : Cx} {t : Fr} {w : W} {k : KX} (h : k .ret t w = true) : (loS P 8).code .ret cx t w k = true := by
 have h1 : (lo1 P 8).code .ret cx t w k = true := h
 exact loS_code.2 ((sound_lo1 zP mixed).code _ _ _ _ _ h1)
theorem range_at {f : FuncId} {cap : List Value} {params : Array Tmp} {assign body : Code} {fn : FuncId} {t : Fr} {u : Option zL} {h : zD} {n : Nat} {K : KX} {Q : Out → zD → Nat → Prop}
 (hc : ∀ h1, zU h1 n = .deferred true → zU h1 (n + 1) = .loop { state := .ready, pending := none, fn := fn, tmps := #[], params := params, assign := assign, body := body, defers := n } t → TouchE [] h n h1 (n + 2) →
  ComesE P 8 f (.func (.yield (n + 1)) #[] #[] :: cap) h1 (n + 2) Q)
 (hq : ∀ o h2 n2, Q o h2 n2 → ∃ v l t1, o = .ret v ∧ zU h2 (n + 1) = .loop l t1 ∧ ((l.state = .ready ∧ l.pending = none ∧ ∀ h3, (∀ y, y ≠ n + 1 → zU h3 y = zU h2 y) → K .normal t ⟨[{ target := .collected n, args := #[] }], u, h3, n2⟩ = true) ∨ (l.state = .done ∧ l.pending = some .ret ∧ ∀ h3, (∀ y, y ≠ n + 1 → zU h3 y = zU h2 y) → K .ret t ⟨[{ target := .collected n, args := #[] }], u, h3, n2⟩ = true))) :
 yRange (loS P 8) (.func (.func f) ⟨[]⟩ ⟨cap⟩) params assign body ⟨fn, none, false⟩ t [] u h n K = true := by
 unfold yRange
 dsimp only
 rw [yQ]
 unfold xrange
 rw [yQ]
 have d1 : zU ((h.set .dead (.deferred true) n).set .dead (.loop { state := .ready, pending := none, fn := fn, tmps := #[], params := params, assign := assign, body := body, defers := n } t) (n + 1)) n = .deferred true := by
  rw [zK, if_neg (by omega), zK, if_pos rfl]
 have d2 : zU ((h.set .dead (.deferred true) n).set .dead (.loop { state := .ready, pending := none, fn := fn, tmps := #[], params := params, assign := assign, body := body, defers := n } t) (n + 1)) (n + 1) = .loop { state := .ready, pending := none, fn := fn, tmps := #[], params := params, assign := assign, body := body, defers := n } t := by
  rw [zK, if_pos rfl]
 have d3 : TouchE [] h n ((h.set .dead (.deferred true) n).set .dead (.loop { state := .ready, pending := none, fn := fn, tmps := #[], params := params, assign := assign, body := body, defers := n } t) (n + 1)) (n + 2) :=
  ⟨by omega, fun b hb _ => by rw [zK, if_neg (by omega), zK, if_neg (by omega)]⟩
 dsimp only at d1 d2 d3 ⊢
 generalize (h.set .dead (.deferred true) n).set .dead _ (n + 1) = h1 at d1 d2 d3 ⊢
 have hcc := hc h1 d1 d2 d3
 refine hcc none _ fun o h2 n2 q => ?_
 obtain ⟨v, l, t1, rfl, hl, hk⟩ := hq o h2 n2 q
 dsimp only
 rw [hl]
 dsimp only
 have k3 : ∀ y, y ≠ n + 1 → zU (h2.set .dead (.loop { l with state := .exhausted } t1) (n + 1)) y = zU h2 y := fun y hy => by rw [zK, if_neg (fun e => hy e.symm)]
 rcases hk with ⟨e1, e2, hk⟩ | ⟨e1, e2, hk⟩
 · rw [e1, e2]
   dsimp only
   rw [Tr.setK_eq]
   refine hk _ ?_
   rw [e2] at k3
   exact k3
 · rw [e1, e2]
   dsimp only
   rw [Tr.setK_eq]
   refine code_ret (hk _ ?_)
   rw [e2] at k3
   exact k3
theorem leave_coll2 {f : FuncId} {i j : Nat} {ti tj : TypeId} (hr : wA P f = some [.cell i ti, .cell j tj]) {t : Fr} {u : Option zL} {h : zD} {n r : Nat} {k : KO} {v w : Value} (hd : zU h r = .deferred true)
 (hv : ∀ h', (∀ y, y ≠ r → zU h' y = zU h y) → zF P ti h' (zA t i) = some v ∧ zF P tj h' (zA t j) = some w ∧ k (.ret (.tuple ⟨[v, w]⟩)) u h' n = true) :
 zE P (loS P 8) f k .ret t ⟨[{ target := .collected r, args := #[] }], u, h, n⟩ = true := by
 unfold wA at hr
 cases hb : sX P f with
 | none => rw [hb] at hr; cases hr
 | some fb =>
  rw [hb] at hr
  injection hr with hr
  unfold zE
  rw [hb]
  show tB P (loS P 8) fb.1 none t ⟨[{ target := .collected r, args := #[] }], u, h, n⟩ k = true
  unfold tB
  dsimp only
  rw [hd]
  dsimp only
  rw [Tr.setK_eq]
  refine leave_intro zP ?_
  have k3 : ∀ y, y ≠ r → zU (h.set .dead (.deferred false) r) y = zU h y := fun y hy => by rw [zK, if_neg (fun e => hy e.symm)]
  obtain ⟨e1, e2, e3⟩ := hv _ k3
  have hl : xV P t (h.set .dead (.deferred false) r) fb.1.results.toList = some [v, w] := by
   have q1 : ldV P (h.set .dead (.deferred false) r) ti (zA t i) = some v := e1
   have q2 : ldV P (h.set .dead (.deferred false) r) tj (zA t j) = some w := e2
   dsimp only at hr
   rw [hr]
   unfold xV
   rw [q1]
   unfold xV
   rw [q2]
   rfl
  unfold tB
  dsimp only
  rw [hl]
  dsimp only
  rw [wV]
  exact e3
def LnQ (m : Int) (lo : Nat) (h0 : zD) (n0 pb rb : Nat) (t0 : Fr) (r : Except (Nat × Int) (St × Nat)) (h2 : zD) (n2 : Nat) : Prop :=
 (∃ st no, r = .ok (st, no) ∧ (∃ vv pv bv svs hv, SAt lo n2 h2 pb rb st vv pv bv svs hv) ∧ Env m h2 ∧ Mid lo h0 n0 pb t0 ((no : Int) - 1) n2 h2 ∧ no < 1000000) ∨
 (∃ no e, r = .error (no, e) ∧ Fell lo h0 n0 pb t0 (no : Nat) e n2 h2)
theorem lines1_comes {m : Int} {lo pb rb n n0 : Nat} {h h0 : zD} {s0 s1 s10 s11 : Value} (shp : yG P 112 = .scal) {s : Tx} {vv pv bv : Value} {svs : List Value} {hv : Value} (hs : s.length ≤ 65536) (hrun : RunOK (s.length + 1) s St.z OfOK)
 (sa : SAt lo n h pb rb St.z vv pv bv svs hv) (hE : Env m h) (hM : Mid lo h0 n0 pb (T0 pb s0 s1 s10 s11) 0 n h) (hc : Cel h (pb + 5) 0 [str s]) :
 ComesE P 8 159 [.func (.yield (pb + 7)) #[] #[], ptr (pb + 5) 0] h n fun o h2 n2 => o = .ret (.tuple ⟨[]⟩) ∧ LnQ m lo h0 n0 pb rb (T0 pb s0 s1 s10 s11) (runS (s.length + 1) 1 s St.z) h2 n2 := by
 refine yR zP mixed (hint := hint159) l159 fun u k hk => ?_
 rw [F159_eq]
 unfold F159
 refine lines_loop shp u _ (s.length + 1) 1 s St.z vv pv bv svs hv h n _ (by omega) (by omega) (by omega) (by omega) hrun sa hE hM hc rfl rfl rfl ?_ ?_
 · intro st' no' t' h' n' hr h1 h2 h3 h4
   simp only [↓zQ, ↓zR]
   exact qE r159 (hk _ _ _ ⟨rfl, .inl ⟨st', no', hr, h1, h2, h3, h4⟩⟩)
 · intro no' e t' h' n' hr h1
   simp only [↓yH, ↓yI]
   exact qE r159 (hk _ _ _ ⟨rfl, .inr ⟨no', e, hr, h1⟩⟩)
def PRQ (lo pb rb : Nat) (r : Except (Nat × Int) (St × Nat)) (o : Out) (h' : zD) (n' : Nat) : Prop :=
 (∃ st no, r = .ok (st, no) ∧ st.ended = true ∧ o = .ret (.tuple ⟨[I64 0, I64 0]⟩) ∧ ∃ vv pv bv svs hv, SAt lo n' h' pb rb st vv pv bv svs hv) ∨
 (∃ st no, r = .ok (st, no) ∧ st.ended = false ∧ o = .ret (.tuple ⟨[I64 (no : Nat), I64 3]⟩)) ∨
 (∃ no e, r = .error (no, e) ∧ o = .ret (.tuple ⟨[I64 (no : Nat), I64 e]⟩))
theorem endA_normal (kn : KN) (ka : KX) (t : Fr) (w : W) : endA kn ka .normal t w = kn t w := rfl
theorem paper_comes {m : Int} {lo pb rb : Nat} {h : zD} (shp : yG P 112 = .scal) {s : Tx} {hv : Value} (hs : s.length ≤ 65536) (hrun : RunOK (s.length + 1) s St.z OfOK)
 (hlo : 8 ≤ lo ∧ lo ≤ rb ∧ rb < pb) (cp : Cel h pb 0 [hv, hd 67 rb, hd 68 rb, I64 0, .bool false, .bool false]) (cr : Cel h rb 0 [str [], .slice none 0 0, .slice none 0 0, str [], .slice none 0 0])
 (rh : RO [] (pb + 1) h hv 113 1 4 [hd 63 rb, hd 64 rb, hd 65 rb, hd 66 rb]) (rhb : ∀ b, wB hv = some b → b < pb ∧ b ≠ rb) (hE : Env m h) :
 ComesE P 8 69 [ptr pb 0, str s] h (pb + 1) fun o h' n' => Low lo h (pb + 1) h' n' ∧ PRQ lo pb rb (runS (s.length + 1) 1 s St.z) o h' n' := by
 obtain ⟨l1, l2, l3⟩ := hlo
 refine yR zP mixed (hint := hint69) l69 fun u k hk => ?_
 rw [F69_eq]
 unfold F69
 refine tL (by simp [cellsOf, Value.oneCell']) fun h1 c1 x1 => ?_
 refine wS ze3 fun h2 c2 x2 => ?_
 refine wS ze25 fun h3 c3 x3 => ?_
 refine wS ze3 fun h4 c4 x4 => ?_
 refine xQ c4 sh3 (by simp [cellsOf]) rfl fun h5 c5 k5 => ?_
 refine uH (lines_rets s h5 (pb + 1 + 1 + 1 + 1 + 1)) fun v h6 n6 ⟨e1, e2, c6, x6⟩ => ?_
 subst e1 e2
 have g5 : ∀ y, y ≠ pb + 4 → zU h5 y = zU h4 y := fun y hy => k5 y (by omega)
 have T06 : TouchE [] h (pb + 1) h6 (pb + 6) := by
  refine ⟨by omega, fun b hb _ => ?_⟩
  rw [x6.2 b (by omega), g5 b (by omega), x4.2 b (by omega), x3.2 b (by omega), x2.2 b (by omega), x1.2 b (by omega)]
 have B6 : BX h6 pb (I64 0) (I64 0) (I64 0) := by
  refine ⟨Cel.keep c1 ?_, Cel.keep c2 ?_, Cel.keep c3 ?_, Cel.keep c5 ?_⟩
  · rw [x6.2 _ (by omega), g5 _ (by omega), x4.2 _ (by omega), x3.2 _ (by omega), x2.2 _ (by omega)]
  · show zU h6 (pb + 1 + 1) = _
    rw [x6.2 _ (by omega), g5 _ (by omega), x4.2 _ (by omega), x3.2 _ (by omega)]
  · show zU h6 (pb + 1 + 1 + 1) = _
    rw [x6.2 _ (by omega), g5 _ (by omega), x4.2 _ (by omega)]
  · show zU h6 (pb + 1 + 1 + 1 + 1) = _
    rw [x6.2 _ (by omega)]
 have c6' : Cel h6 (pb + 5) 0 [str s] := c6
 have cp6 := cp.touch T06 (by omega) (by simp)
 have cr6 := cr.touch T06 (by omega) (by simp)
 have hE6 : Env m h6 := hE.touch T06 (by omega) (by simp)
 refine tA (fun t w => zA t 2 = ptr (pb + 1) 0 ∧ zA t 4 = ptr (pb + 2) 0 ∧ zA t 5 = ptr (pb + 3) 0 ∧ zA t 6 = ptr (pb + 4) 0 ∧ ∃ h7 n7 st no x4 x5, w = ⟨[{ target := .collected (pb + 6), args := #[] }], u, h7, n7⟩ ∧ runS (s.length + 1) 1 s St.z = .ok (st, no) ∧
  (∃ vv pv bv svs hv, SAt lo n7 h7 pb rb st vv pv bv svs hv) ∧ Low lo h (pb + 1) h7 n7 ∧ zU h7 (pb + 6) = .deferred true ∧ BX h7 pb x4 x5 (I64 ((no : Int) - 1)) ∧ no < 1000000) (fun t w q => ?_) (fun kk hkk => ?_)
 · obtain ⟨q2, q4, q5, q6, h7, n7, st, no, y4, y5, rfl, hr, ⟨vv, pv, bv, svs, hv', sa⟩, hlow, hdf, B7, hno⟩ := q
   obtain ⟨m1, m2, m3, m4, m5, m6⟩ := sa.r.low
   simp only [q2, q4, q5, q6, ↓zG]
   refine zW ?_
   have e1 : zF P 112 h7 (ptr (pb + 1) 0) = some (ptr pb 0) := zI B7.c2 shp rfl
   have e2 : zF P 4 h7 (.pointer (some ⟨pb, 5, none⟩)) = some (.bool st.ended) := zI sa.p.cel sh4 rfl
   have e3 : zF P 3 h7 (ptr (pb + 4) 0) = some (I64 ((no : Int) - 1)) := zI B7.c6 sh3 rfl
   simp only [↓e1, ↓zC, ↓yS, ↓fa116_5, ↓e2, ↓zJ, ↓xR]
   cases hen : st.ended with
   | true =>
    simp only [↓Bool.not_true, ↓uL]
    refine xQ B7.c4 sh3 (by simp) rfl fun h8 c8 k8 => ?_
    refine xQ (B7.c5.keep (k8 _ (by omega))) sh25 (by simp) rfl fun h9 c9 k9 => ?_
    have t8 : TouchE [pb + 2, pb + 3] h7 n7 h9 n7 := (zS (n := n7) k8 (S := [pb + 2, pb + 3]) (by simp)).trans (zS k9 (by simp))
    refine leave_coll2 r69 (r := pb + 6) (v := I64 0) (w := I64 0) (by rw [k9 _ (by omega), k8 _ (by omega)]; exact hdf) fun h10 k10 => ⟨?_, ?_, hk _ _ _ ⟨?_, .inl ⟨st, no, hr, hen, rfl, vv, pv, bv, svs, hv', ?_⟩⟩⟩
    · exact zI ((Cel.keep c8 (k9 _ (by omega))).keep (k10 _ (by omega))) sh3 rfl
    · exact zI (Cel.keep c9 (k10 _ (by omega))) sh25 rfl
    · exact (hlow.touch t8 (fun y hy => by simp at hy; omega)).touch (zS (n := n7) k10 (S := [pb + 6]) (by simp)) (fun y hy => by simp at hy; omega)
    · exact (sa.wr t8 (fun y hy => by simp at hy; exact .inl ⟨by omega, by omega⟩)).wr (zS (n := n7) k10 (S := [pb + 6]) (by simp)) (fun y hy => by simp at hy; exact .inl ⟨by omega, by omega⟩)
   | false =>
    simp only [↓Bool.not_false, ↓uD, ↓e3, ↓zC, ↓zH]
    refine sF (by omega) ?_
    refine xQ B7.c4 sh3 (by simp) rfl fun h8 c8 k8 => ?_
    refine xQ (B7.c5.keep (k8 _ (by omega))) sh25 (by simp) rfl fun h9 c9 k9 => ?_
    have t8 : TouchE [pb + 2, pb + 3] h7 n7 h9 n7 := (zS (n := n7) k8 (S := [pb + 2, pb + 3]) (by simp)).trans (zS k9 (by simp))
    have eno : (no : Int) - 1 + 1 = (no : Nat) := by omega
    refine leave_coll2 r69 (r := pb + 6) (v := I64 (no : Nat)) (w := I64 3) (by rw [k9 _ (by omega), k8 _ (by omega)]; exact hdf) fun h10 k10 => ⟨?_, ?_, hk _ _ _ ⟨?_, .inr (.inl ⟨st, no, hr, hen, rfl⟩)⟩⟩
    · have c8' : Cel h8 (pb + 2) (3 + 1) [I64 (no : Nat)] := by rw [eno] at c8; exact c8
      exact zI ((Cel.keep c8' (k9 _ (by omega))).keep (k10 _ (by omega))) sh3 rfl
    · exact zI (Cel.keep c9 (k10 _ (by omega))) sh25 rfl
    · exact (hlow.touch t8 (fun y hy => by simp at hy; omega)).touch (zS (n := n7) k10 (S := [pb + 6]) (by simp)) (fun y hy => by simp at hy; omega)
 · refine range_at (f := 159) (cap := [ptr (pb + 5) 0]) (n := pb + 6) (Q := fun o h2 n2 => o = .ret (.tuple ⟨[]⟩) ∧ LnQ m lo h (pb + 1) pb rb (T0 pb (ptr pb 0) (str s) (str s) (.func (.func 159) ⟨[]⟩ ⟨[ptr (pb + 5) 0]⟩)) (runS (s.length + 1) 1 s St.z) h2 n2) ?_ ?_
   · intro h7 d1 d2 t7
     have T07 : TouchE [] h (pb + 1) h7 (pb + 8) := T06.trans t7
     have hM : MM pb rb (.slice none 0 0) [] = List.range' pb 8 ++ [rb] := by unfold MM pO; simp [wB]
     have rnil : ∀ {e sz : Nat}, RO (MM pb rb (.slice none 0 0) []) (pb + 8) h7 (.slice none 0 0) e sz 0 [] := ⟨.inl ⟨rfl, rfl, rfl⟩, fun _ hb => (by cases hb), fun _ _ _ hb => (by cases hb)⟩
     have sa : SAt lo (pb + 8) h7 pb rb St.z (.slice none 0 0) (.slice none 0 0) (.slice none 0 0) [] hv := by
      refine ⟨⟨cr6.touch t7 (by omega) (by simp), ⟨l1, by omega, l2, by omega, by omega, l3⟩, rnil, rnil, .inl ⟨rfl, rfl, rfl⟩, fun _ hb => (by cases hb), fun _ hb => (by cases hb), ⟨rfl, fun k l v h1 => ?_, fun l v h1 => ?_⟩, ?_⟩, ⟨cp6.touch t7 (by omega) (by simp), rh.1.touch T07 (by simp), fun b hb hbM => ?_, fun b m z hb hi => ?_⟩, fun h => ?_, ?_⟩
      · exact absurd h1 (by show ¬ (k + 1 < 0); omega)
      · cases h1
      · show 0 ≤ 200; omega
      · have := rhb b hb
        rw [hM] at hbM
        simp only [List.mem_append, List.mem_range'_1, List.mem_cons, List.not_mem_nil, or_false] at hbM
        omega
      · have hb' := (rhb b hb).1
        rw [T07.2 b (by omega) (by simp)] at hi
        exact rh.2.2 b m z hb hi
      · cases h
      · show 0 ≤ 4; omega
     exact lines1_comes shp hs hrun sa (hE6.touch t7 (by omega) (by simp)) ⟨⟨T07.1, fun b hb hbn => T07.2 b hbn (by simp)⟩, d2, d1, I64 0, I64 0, B6.step fun y h1 h2 => t7.2 y (by omega) (by simp)⟩ (c6'.touch t7 (by omega) (by simp))
   · intro o h7 n7 q
     obtain ⟨rfl, q⟩ := q
     rcases q with ⟨st, no, hr, ⟨vv, pv, bv, svs, hv', sa⟩, hE7, hM, hno⟩ | ⟨no, e, hr, hF⟩
     · obtain ⟨y4, y5, hB⟩ := hM.bx
       obtain ⟨m1, m2, m3, m4, m5, m6⟩ := sa.r.low
       refine ⟨_, _, _, rfl, hM.ll, .inl ⟨rfl, rfl, fun h8 k8 => ?_⟩⟩
       have t8 : TouchE [pb + 7] h7 n7 h8 n7 := zS k8 (by simp)
       simp only [↓endA_normal]
       show kk _ _ = true
       refine hkk _ _ ⟨rfl, rfl, rfl, rfl, h8, n7, st, no, y4, y5, rfl, hr, ⟨vv, pv, bv, svs, hv', sa.wr t8 (fun y hy => by simp at hy; exact .inl ⟨by omega, by omega⟩)⟩, hM.low.touch t8 (fun y hy => by simp at hy; omega), ?_, hB.step fun y h1 h2 => k8 y (by omega), hno⟩
       rw [k8 (pb + 6) (by omega)]; exact hM.df
     · refine ⟨_, _, _, rfl, hF.ll, .inr ⟨rfl, rfl, fun h8 k8 => ?_⟩⟩
       have t8 : TouchE [pb + 7] h7 n7 h8 n7 := zS k8 (by simp)
       simp only [↓yH, ↓yI]
       refine leave_coll2 r69 (r := pb + 6) (v := I64 (no : Nat)) (w := I64 e) (by rw [k8 (pb + 6) (by omega)]; exact hF.df) fun h10 k10 => ⟨?_, ?_, hk _ _ _ ⟨?_, .inr (.inr ⟨no, e, hr, rfl⟩)⟩⟩
       · exact zI ((hF.c4.keep (k8 _ (by omega))).keep (k10 _ (by omega))) sh3 rfl
       · exact zI ((hF.c5.keep (k8 _ (by omega))).keep (k10 _ (by omega))) sh25 rfl
       · exact (hF.low.touch t8 (fun y hy => by simp at hy; omega)).touch (zS (n := n7) k10 (S := [pb + 6]) (by simp)) (fun y hy => by simp at hy; omega)
def FunAt (n : Nat) (h : zD) (v : Value) (f : Fct) : Prop := ∃ vv pv bv svs, v = .agg ⟨[str f.name, vv, pv, str f.result, bv]⟩ ∧ RO [] n h vv 9 1 f.vregs.length (f.vregs.map str) ∧ RO [] n h pv 3 1 f.params.length (f.params.map I64) ∧
 RO [] n h bv 51 1 f.blocks.length svs ∧ svs.length = f.blocks.length ∧ ∀ (k : Nat) (l : List Ins) (v : Value), f.blocks[k]? = some l → svs[k]? = some v → BlkRO [] n h v l
theorem RO.any {M : List Nat} {n : Nat} {h : zD} {v : Value} {e sz len : Nat} {vs : List Value} (r : RO M n h v e sz len vs) : RO [] n h v e sz len vs := ⟨r.1, fun _ _ => by simp, r.2.2⟩
theorem BlkRO.any {M : List Nat} {n : Nat} {h : zD} {v : Value} {l : List Ins} (r : BlkRO M n h v l) : BlkRO [] n h v l := by
 obtain ⟨av, a, b⟩ := r
 exact ⟨av, ⟨a.1, fun j i a' h1 h2 => (a.2 j i a' h1 h2).any⟩, b.any⟩
theorem BlkRO.ext {n n' : Nat} {h h' : zD} {v : Value} {l : List Ins} (r : BlkRO [] n h v l) (x : Ext h n h' n') : BlkRO [] n' h' v l := r.step (x.touch []) (by simp) (by simp)
theorem FunAt.ext {n n' : Nat} {h h' : zD} {v : Value} {f : Fct} (a : FunAt n h v f) (x : Ext h n h' n') : FunAt n' h' v f := by
 obtain ⟨vv, pv, bv, svs, e, r1, r2, r3, r4, r5⟩ := a
 exact ⟨vv, pv, bv, svs, e, r1.step (x.touch []) (by simp) (by simp), r2.step (x.touch []) (by simp) (by simp), r3.step (x.touch []) (by simp) (by simp), r4, fun k l v h1 h2 => (r5 k l v h1 h2).ext x⟩
theorem funAt_z (n : Nat) (h : zD) : FunAt n h (.agg ⟨[str [], .slice none 0 0, .slice none 0 0, str [], .slice none 0 0]⟩) Fct.z := by
 have rnil : ∀ {e sz : Nat}, RO [] n h (.slice none 0 0) e sz 0 [] := ⟨.inl ⟨rfl, rfl, rfl⟩, fun _ hb => (by cases hb), fun _ _ _ hb => (by cases hb)⟩
 exact ⟨_, _, _, [], rfl, rnil, rnil, rnil, rfl, fun k l v h1 => by simp [Fct.z] at h1⟩
theorem SAt.funAt {lo n pb rb x m z n' : Nat} {h h' : zD} {st : St} {vv pv bv : Value} {svs : List Value} {hv : Value} (s : SAt lo n h pb rb st vv pv bv svs hv) (t : TouchE [x] h n h' n') (hx : tS (zU h x) = some (m, z + 1, 0)) :
 FunAt n' h' (.agg ⟨[str st.f.name, vv, pv, str st.f.result, bv]⟩) st.f := by
 have r := s.r.hole t hx
 refine ⟨vv, pv, bv, svs, rfl, r.vr.any, r.pr.any, own_ro r.bo (Nat.le_refl 1) (by simp), r.bl.len, fun k l v h1 h2 => ?_⟩
 by_cases hk : k + 1 < st.f.blocks.length
 · exact (r.bl.ro k l v hk h1 h2).any
 · have hkl : k < st.f.blocks.length := (List.getElem?_eq_some_iff.1 h1).1
   have hlen := r.bl.len
   obtain ⟨av, a, o⟩ := r.bl.last l v (by rw [List.getLast?_eq_getElem?, ← h1]; congr 1; omega) (by rw [List.getLast?_eq_getElem?, ← h2]; congr 1; omega)
   exact ⟨av, ⟨a.1, fun j i a' g1 g2 => (a.2 j i a' g1 g2).any⟩, own_ro o (by omega) (by simp)⟩
theorem leave_c2 {L : Lo} {f : FuncId} {i j l : Nat} {ty : TypeId} (hr : wA P f = some [.cell i ty, .tmp j, .tmp l]) {k : KO} {t : Fr} {u : Option zL} {h : zD} {n : Nat} {v : Value} (hv : zF P ty h (zA t i) = some v) (hk : k (.ret (.tuple ⟨[v, zA t j, zA t l]⟩)) u h n = true) :
 zE P L f k .ret t ⟨[], u, h, n⟩ = true := by
 have hl : xV P t h [.cell i ty, .tmp j, .tmp l] = some [v, zA t j, zA t l] := by
  have e : ldV P h ty (zA t i) = some v := hv
  unfold xV
  rw [e]
  rfl
 rw [leave_res hr hl]
 exact hk
theorem read_rets {m : Int} {h : zD} {n : Nat} (shp : yG P 112 = .scal) (hE : Env m h) (hn : 8 ≤ n) (s : Tx) (hs : s.length < 1000000) (hrun : s.length ≤ 65536 → RunOK (s.length + 1) s St.z OfOK) :
 Rets P 8 22 [str s] h n fun v h' n' => Ext h n h' n' ∧ ∃ fv, v = .tuple ⟨[fv, I64 (readS s).2.1, I64 (readS s).2.2]⟩ ∧ FunAt n' h' fv (readS s).1 := by
 refine yM zP mixed (hint := hint22) l22 fun u k hk => ?_
 rw [F22_eq]
 unfold F22
 refine wS ze43 fun h1 c1 x1 => ?_
 have e1 : yL P .len [9] [str s] h1 = some (I64 (s.length : Nat)) := len_strL us9 s [] h1
 have z1 : xP P 43 [] = some (.agg ⟨[str [], .slice none 0 0, .slice none 0 0, str [], .slice none 0 0]⟩) := by kernel_rfl
 have zone : ∀ x ∈ [str [], Value.slice none 0 0, .slice none 0 0, str [], .slice none 0 0], x.oneCell' = true := by
  intro x hx
  simp only [List.mem_cons, List.not_mem_nil, or_false] at hx
  rcases hx with rfl | rfl | rfl | rfl | rfl <;> rfl
 simp only [↓e1, ↓zC, ↓zH]
 unfold readS at hk
 by_cases hl : 65536 < s.length
 · rw [if_pos hl] at hk
   have e2 : vD 65536 (s.length : Nat) = true := by rw [yC]; exact decide_eq_true (by omega)
   simp only [↓e2, ↓yP, ↓uD, ↓z1, ↓zC]
   refine xU c1 sh43 rfl rfl zone fun h2 c2 k2 => ?_
   have x2 : Ext h n h2 (n + 1) := ⟨by omega, fun b hb => by rw [k2 b (by omega)]; exact x1.2 b hb⟩
   exact leave_c2 r22 (xJ c2 sh43 rfl (by decide)) (hk _ _ _ ⟨x2, _, rfl, funAt_z _ _⟩)
 · rw [if_neg hl] at hk
   have e2 : vD 65536 (s.length : Nat) = false := by rw [yC]; exact decide_eq_false (by omega)
   have z2 : xP P 111 [] = some (.agg ⟨[str [], .slice none 0 0, .slice none 0 0, str [], .slice none 0 0]⟩) := by kernel_rfl
   simp only [↓e2, ↓yP, ↓uL, ↓z2, ↓zC]
   refine tL zone fun h2 c2 x2 => ?_
   simp only [↓xE]
   have z3 : yW P 114 4 [(0, hd 63 (n + 1)), (1, hd 64 (n + 1)), (2, hd 65 (n + 1)), (3, hd 66 (n + 1))] = some (vZ [hd 63 (n + 1), hd 64 (n + 1), hd 65 (n + 1), hd 66 (n + 1)] 0) := by kernel_rfl
   refine pH (e := 113) (sz := 1) z3 rfl (by unfold inf; omega) fun h3 c3 i3 x3 => ?_
   have z4 : xP P 116 [(0, .slice (some ⟨n + 1 + 1, 0, none⟩) 4 4), (1, hd 67 (n + 1)), (2, hd 68 (n + 1))] = some (.agg ⟨[.slice (some ⟨n + 1 + 1, 0, none⟩) 4 4, hd 67 (n + 1), hd 68 (n + 1), I64 0, .bool false, .bool false]⟩) := by kernel_rfl
   simp only [↓xE, ↓z4, ↓zC]
   refine tL (by intro x hx; simp only [cellsOf, List.mem_cons, List.not_mem_nil, or_false] at hx; rcases hx with rfl | rfl | rfl | rfl | rfl | rfl <;> rfl) fun h4 c4 x4 => ?_
   have x24 : Ext h2 (n + 1 + 1) h4 (n + 1 + 1 + 1 + 1) := x3.trans x4
   have x04 : Ext h n h4 (n + 1 + 1 + 1 + 1) := (x1.trans x2).trans x24
   have rh : RO [] (n + 3 + 1) h4 (.slice (some ⟨n + 1 + 1, 0, none⟩) 4 4) 113 1 4 [hd 63 (n + 1), hd 64 (n + 1), hd 65 (n + 1), hd 66 (n + 1)] := by
    refine ⟨c3.ext x4, fun _ _ => by simp, fun b m z hb hi => ?_⟩
    have hb' : some (n + 1 + 1) = some b := hb
    injection hb' with hb'
    subst hb'
    rw [x4.2 _ (by omega), i3] at hi
    injection hi with hi; injection hi with _ hi; injection hi with hi _; cases hi
   refine yY (paper_comes (lo := n + 1) (pb := n + 3) (rb := n + 1) shp (by omega) (hrun (by omega)) ⟨by omega, by omega, by omega⟩ c4 (Cel.touch c2 (x24.touch []) (by omega) (by simp)) rh (fun b hb => ?_) (hE.touch (x04.touch []) hn (by simp))) (fun v h5 n5 q => ?_) (fun c h5 n5 q => ?_)
   · have hb' : some (n + 1 + 1) = some b := hb
     injection hb' with hb'
     omega
   · obtain ⟨lw, q⟩ := q
     have c15 : Cel h5 n (43 + 1) [str [], .slice none 0 0, .slice none 0 0, str [], .slice none 0 0] := Cel.keep c1 (by rw [lw.2 n (by omega) (by omega), x24.2 n (by omega), x2.2 n (by omega)])
     have x05 : Ext h n h5 n5 := ⟨by have := lw.1; omega, fun b hb => by rw [lw.2 b (by omega) (by omega)]; exact x04.2 b hb⟩
     have y0 : ∀ a b, xD 0 (.tuple ⟨[I64 a, I64 b]⟩) = some (I64 a) := fun _ _ => rfl
     have y1 : ∀ a b, xD 1 (.tuple ⟨[I64 a, I64 b]⟩) = some (I64 b) := fun _ _ => rfl
     rcases q with ⟨st, no, hr, hen, hv, vv, pv, bv, svs, hv', sa⟩ | ⟨st, no, hr, hen, hv⟩ | ⟨no, e, hr, hv⟩
     · injection hv with hv
       subst hv
       have ht : tellS (runS (s.length + 1) 1 s St.z) = (st.f, 0, 0) := by rw [hr]; unfold tellS; dsimp only; rw [if_pos hen]
       rw [ht] at hk
       have ne : ineB 0 0 = false := rfl
       have e9 : zF P 43 h5 (ptr (n + 1) 0) = some (.agg ⟨[str st.f.name, vv, pv, str st.f.result, bv]⟩) := xJ sa.r.cel sh43 rfl (by decide)
       have f9 : zB P 111 0 (ptr (n + 1) 0) = some (ptr (n + 1) 0) := qL _
       simp only [↓y0, ↓y1, ↓zC, ↓zH, ↓ne, ↓yP, ↓uL, ↓yS, ↓f9, ↓e9]
       have hone : ∀ x ∈ [str st.f.name, vv, pv, str st.f.result, bv], x.oneCell' = true := by
        intro x hx
        simp only [List.mem_cons, List.not_mem_nil, or_false] at hx
        rcases hx with rfl | rfl | rfl | rfl | rfl
        · rfl
        · exact sa.r.vr.1.one
        · exact sa.r.pr.1.one
        · rfl
        · exact sa.r.bo.one
       refine xU c15 sh43 rfl rfl hone fun h6 c6 k6 => ?_
       have x6 : Ext h n h6 n5 := ⟨x05.1, fun b hb => by rw [k6 b (by omega)]; exact x05.2 b hb⟩
       exact leave_c2 r22 (xJ c6 sh43 rfl (by decide)) (hk _ _ _ ⟨x6, _, rfl, sa.funAt (zS k6 (by simp)) c15.1⟩)
     · injection hv with hv
       subst hv
       have ht : tellS (runS (s.length + 1) 1 s St.z) = (Fct.z, (no : Int), 3) := by rw [hr]; unfold tellS; dsimp only; rw [if_neg (by rw [hen]; exact Bool.false_ne_true)]
       rw [ht] at hk
       have ne : ineB 3 0 = true := rfl
       simp only [↓y0, ↓y1, ↓zC, ↓zH, ↓ne, ↓yP, ↓uD, ↓z1]
       refine xU c15 sh43 rfl rfl zone fun h6 c6 k6 => ?_
       have x6 : Ext h n h6 n5 := ⟨x05.1, fun b hb => by rw [k6 b (by omega)]; exact x05.2 b hb⟩
       exact leave_c2 r22 (xJ c6 sh43 rfl (by decide)) (hk _ _ _ ⟨x6, _, rfl, funAt_z _ _⟩)
     · injection hv with hv
       subst hv
       have ht : tellS (runS (s.length + 1) 1 s St.z) = (Fct.z, (no : Int), e) := by rw [hr]; rfl
       rw [ht] at hk
       have hbad := runS_bad _ _ _ _ _ _ hr
       have ne : ineB e 0 = true := by rw [qU, decide_eq_false (by unfold Bad at hbad; omega)]; rfl
       simp only [↓y0, ↓y1, ↓zC, ↓zH, ↓ne, ↓yP, ↓uD, ↓z1]
       refine xU c15 sh43 rfl rfl zone fun h6 c6 k6 => ?_
       have x6 : Ext h n h6 n5 := ⟨x05.1, fun b hb => by rw [k6 b (by omega)]; exact x05.2 b hb⟩
       exact leave_c2 r22 (xJ c6 sh43 rfl (by decide)) (hk _ _ _ ⟨x6, _, rfl, funAt_z _ _⟩)
   · obtain ⟨_, q⟩ := q
     rcases q with ⟨_, _, _, _, q, _⟩ | ⟨_, _, _, _, q⟩ | ⟨_, _, _, q⟩ <;> cases q
set_option maxRecDepth 100000
def qM (l : List (List UInt8)) (x : List UInt8) (i : Nat) : Int := match l with
 | [] => -1
 | y :: r => if x == y then (i : Int) else qM r x (i + 1)
theorem idxFrom_neg (l : List (List UInt8)) (x : List UInt8) : ∀ i, decide (0 ≤ qM l x i) = l.any (x == ·) := by
 induction l with
 | nil => intro i; rfl
 | cons y r ih => intro i; unfold qM; cases h : (x == y) <;> simp [h, ih, List.any_cons]
theorem idxFrom_m1 (l : List (List UInt8)) (x : List UInt8) : ∀ i, qM l x i < 0 → qM l x i = -1 := by
 induction l with
 | nil => intro i _; rfl
 | cons y r ih => intro i h; unfold qM at h ⊢; cases hx : (x == y) <;> simp [hx] at h ⊢; exact ih _ h; omega
theorem index_loop (ls : List (List UInt8)) (x : List UInt8) (sv : Value) (h : zD) (n : Nat) (d : List Deferred) (u : Option zL) (ka : KX) (hr : Row n h sv 9 1 ls.length (ls.map str)) (hlen : ls.length < 100000) :
 ∀ (m i : Nat), m + i = ls.length → ∀ t, zA t 0 = sv → zA t 1 = str x → zA t 7 = .int .i64 (ls.length : Nat) → zA t 8 = .int .i64 (i : Nat) →
 (qM (ls.drop i) x i < 0 → ∀ t', ka (.exit 0) t' ⟨d, u, h, n⟩ = true) → (0 ≤ qM (ls.drop i) x i → ∀ t', zA t' 4 = .int .i64 (qM (ls.drop i) x i) → ka .ret t' ⟨d, u, h, n⟩ = true) →
 lpS P 8 1000002 ⟨178, none, false⟩ t ⟨d, u, h, n⟩ ka = true := by
 intro m
 induction m with
 | zero =>
  intro i hi t h0 h1 h7 h8 hE hR
  refine xW zP mixed (hint := hint178) l178 lp178_1000002 ?_
  rw [B178_1000002_eq]
  unfold B178_1000002
  rw [h0, h1, h7, h8]
  repeat' (first
   | omega
   | with_reducible first | refine tV (fun _ => ?_) (fun _ => ?_) | refine tW (fun _ => ?_) (fun _ => ?_) | refine vR (fun _ => ?_) (fun _ => ?_) | refine vS (fun _ => ?_) (fun _ => ?_) | refine vL (fun _ => ?_) (fun _ => ?_) | refine vM (fun _ => ?_) (fun _ => ?_) | refine vN (fun _ => ?_) (fun _ => ?_) | refine vO (fun _ => ?_) (fun _ => ?_) | refine vP (fun _ => ?_) (fun _ => ?_) | refine vQ (fun _ => ?_) (fun _ => ?_)
   | simp only [↓zH, ↓zJ, ↓zC, ↓zG, ↓xE, ↓xC, ↓zM, ↓yZ, ↓xK, ↓uD, ↓uL, ↓tK, ↓xA, ↓xG, ↓qF, ↓rI, ↓wF, ↓xH, ↓xI, ↓yU, ↓xN, ↓xR, ↓xO, ↓zQ, ↓yH, ↓zR, ↓yI, Bool.not_true, Bool.not_false, yV, zZ])
  refine hE ?_ _
  rw [List.drop_eq_nil_of_le (by omega)]; show (-1 : Int) < 0; decide
 | succ m ih =>
  intro i hi t h0 h1 h7 h8 hE hR
  have hlt : i < ls.length := by omega
  have hd : ls.drop i = ls[i] :: ls.drop (i + 1) := List.drop_eq_getElem_cons hlt
  obtain ⟨p, hp, hq⟩ := xX (P := P) (k := .i64) hr ix23 (tl := 9) sh9 (i := i) (x := str ls[i]) (by rw [List.getElem?_map, List.getElem?_eq_getElem hlt]; rfl)
  generalize ls[i] = y at hd hq
  refine xW zP mixed (hint := hint178) l178 lp178_1000002 ?_
  rw [B178_1000002_eq]
  unfold B178_1000002
  rw [h0, h1, h7, h8]
  rw [hd] at hE hR
  unfold qM at hE hR
  cases hxy : (x == y) <;> rw [hxy] at hE hR
  · repeat' (first
     | rw [vB, hxy]
     | exact ih (i + 1) (by omega) _ rfl rfl rfl rfl hE hR
     | omega
     | with_reducible refine sF (by omega) ?_
     | with_reducible first | refine tV (fun _ => ?_) (fun _ => ?_) | refine tW (fun _ => ?_) (fun _ => ?_) | refine vR (fun _ => ?_) (fun _ => ?_) | refine vS (fun _ => ?_) (fun _ => ?_) | refine vL (fun _ => ?_) (fun _ => ?_) | refine vM (fun _ => ?_) (fun _ => ?_) | refine vN (fun _ => ?_) (fun _ => ?_) | refine vO (fun _ => ?_) (fun _ => ?_) | refine vP (fun _ => ?_) (fun _ => ?_) | refine vQ (fun _ => ?_) (fun _ => ?_)
     | simp only [↓zH, ↓zJ, ↓zC, ↓zG, ↓xE, ↓xC, ↓zM, ↓yZ, ↓xK, ↓uD, ↓uL, ↓tK, ↓xA, ↓xG, ↓qF, ↓rI, ↓wF, ↓xH, ↓xI, ↓yU, ↓xN, ↓xR, ↓xO, ↓zQ, ↓yH, ↓zR, ↓yI, Bool.not_true, Bool.not_false, yV, zZ,  ↓hp, ↓hq, fg0, fg1, fg7, fg8])
  · repeat' (first
     | rw [vB, hxy]
     | exact hR (by simp) _ rfl
     | omega
     | with_reducible first | refine tV (fun _ => ?_) (fun _ => ?_) | refine tW (fun _ => ?_) (fun _ => ?_) | refine vR (fun _ => ?_) (fun _ => ?_) | refine vS (fun _ => ?_) (fun _ => ?_) | refine vL (fun _ => ?_) (fun _ => ?_) | refine vM (fun _ => ?_) (fun _ => ?_) | refine vN (fun _ => ?_) (fun _ => ?_) | refine vO (fun _ => ?_) (fun _ => ?_) | refine vP (fun _ => ?_) (fun _ => ?_) | refine vQ (fun _ => ?_) (fun _ => ?_)
     | simp only [↓zH, ↓zJ, ↓zC, ↓zG, ↓xE, ↓xC, ↓zM, ↓yZ, ↓xK, ↓uD, ↓uL, ↓tK, ↓xA, ↓xG, ↓qF, ↓rI, ↓wF, ↓xH, ↓xI, ↓yU, ↓xN, ↓xR, ↓xO, ↓zQ, ↓yH, ↓zR, ↓yI, Bool.not_true, Bool.not_false, yV, zZ,  ↓hp, ↓hq, fg0, fg1, fg7, fg8])
theorem index_pure (ls : List (List UInt8)) (x : List UInt8) (sv : Value) (h : zD) (n : Nat) (hr : Row n h sv 9 1 ls.length (ls.map str)) (hlen : ls.length < 100000) :
 Pure P 8 178 [sv, str x] h n (.int .i64 (qM ls x 0)) := by
 refine yM zP mixed (hint := hint178) l178 fun u k hk => ?_
 rw [F178_eq]
 unfold F178
 have hl := xL (P := P) us23 hr [] h
 repeat' (first
  | refine index_loop ls x sv h n [] u _ hr hlen _ 0 (Nat.add_zero _) _ rfl rfl rfl rfl ?_ ?_
  | with_reducible first | refine tV (fun _ => ?_) (fun _ => ?_) | refine tW (fun _ => ?_) (fun _ => ?_) | refine vR (fun _ => ?_) (fun _ => ?_) | refine vS (fun _ => ?_) (fun _ => ?_) | refine vL (fun _ => ?_) (fun _ => ?_) | refine vM (fun _ => ?_) (fun _ => ?_) | refine vN (fun _ => ?_) (fun _ => ?_) | refine vO (fun _ => ?_) (fun _ => ?_) | refine vP (fun _ => ?_) (fun _ => ?_) | refine vQ (fun _ => ?_) (fun _ => ?_)
  | simp only [↓zH, ↓zJ, ↓zC, ↓zG, ↓xE, ↓xC, ↓zM, ↓yZ, ↓xK, ↓uD, ↓uL, ↓tK, ↓xA, ↓xG, ↓qF, ↓rI, ↓wF, ↓xH, ↓xI, ↓yU, ↓xN, ↓xR, ↓xO, ↓zQ, ↓yH, ↓zR, ↓yI, Bool.not_true, Bool.not_false, yV, zZ,  ↓hl])
 · intro hneg t'
   repeat' (first
    | refine yF r178 (v := .int _ _) rfl (hk _ _ _ ⟨congrArg (Value.int .i64) ?_, rfl, rfl⟩)
    | with_reducible first | refine tV (fun _ => ?_) (fun _ => ?_) | refine tW (fun _ => ?_) (fun _ => ?_) | refine vR (fun _ => ?_) (fun _ => ?_) | refine vS (fun _ => ?_) (fun _ => ?_) | refine vL (fun _ => ?_) (fun _ => ?_) | refine vM (fun _ => ?_) (fun _ => ?_) | refine vN (fun _ => ?_) (fun _ => ?_) | refine vO (fun _ => ?_) (fun _ => ?_) | refine vP (fun _ => ?_) (fun _ => ?_) | refine vQ (fun _ => ?_) (fun _ => ?_)
    | simp only [↓zH, ↓zJ, ↓zC, ↓zG, ↓xE, ↓xC, ↓zM, ↓yZ, ↓xK, ↓uD, ↓uL, ↓tK, ↓xA, ↓xG, ↓qF, ↓rI, ↓wF, ↓xH, ↓xI, ↓yU, ↓xN, ↓xR, ↓xO, ↓zQ, ↓yH, ↓zR, ↓yI, Bool.not_true, Bool.not_false, yV, zZ])
   exact (idxFrom_m1 ls x 0 hneg).symm
 · intro hpos t' h4
   repeat' (first
    | exact yF r178 h4 (hk _ _ _ ⟨rfl, rfl, rfl⟩)
    | with_reducible first | refine tV (fun _ => ?_) (fun _ => ?_) | refine tW (fun _ => ?_) (fun _ => ?_) | refine vR (fun _ => ?_) (fun _ => ?_) | refine vS (fun _ => ?_) (fun _ => ?_) | refine vL (fun _ => ?_) (fun _ => ?_) | refine vM (fun _ => ?_) (fun _ => ?_) | refine vN (fun _ => ?_) (fun _ => ?_) | refine vO (fun _ => ?_) (fun _ => ?_) | refine vP (fun _ => ?_) (fun _ => ?_) | refine vQ (fun _ => ?_) (fun _ => ?_)
    | simp only [↓zH, ↓zJ, ↓zC, ↓zG, ↓xE, ↓xC, ↓zM, ↓yZ, ↓xK, ↓uD, ↓uL, ↓tK, ↓xA, ↓xG, ↓qF, ↓rI, ↓wF, ↓xH, ↓xI, ↓yU, ↓xN, ↓xR, ↓xO, ↓zQ, ↓yH, ↓zR, ↓yI, Bool.not_true, Bool.not_false, yV, zZ])
theorem contains_pure (ls : List (List UInt8)) (x : List UInt8) (sv : Value) (h : zD) (n : Nat) (hr : Row n h sv 9 1 ls.length (ls.map str)) (hlen : ls.length < 100000) :
 Pure P 8 152 [sv, str x] h n (.bool (ls.any (x == ·))) := by
 refine yM zP mixed (hint := hint152) l152 fun u k hk => ?_
 rw [F152_eq]
 unfold F152
 rw [← idxFrom_neg ls x 0] at hk
 repeat' (first
  | with_reducible refine sP (index_pure ls x sv h n hr hlen) ?_
  | refine yF r152 (v := .bool _) rfl (hk _ _ _ ⟨congrArg Value.bool ?_, rfl, rfl⟩)
  | with_reducible first | refine tV (fun _ => ?_) (fun _ => ?_) | refine tW (fun _ => ?_) (fun _ => ?_) | refine vR (fun _ => ?_) (fun _ => ?_) | refine vS (fun _ => ?_) (fun _ => ?_) | refine vL (fun _ => ?_) (fun _ => ?_) | refine vM (fun _ => ?_) (fun _ => ?_) | refine vN (fun _ => ?_) (fun _ => ?_) | refine vO (fun _ => ?_) (fun _ => ?_) | refine vP (fun _ => ?_) (fun _ => ?_) | refine vQ (fun _ => ?_) (fun _ => ?_)
  | simp only [↓zH, ↓zJ, ↓zC, ↓zG, ↓xE, ↓xC, ↓zM, ↓yZ, ↓xK, ↓uD, ↓uL, ↓tK, ↓xA, ↓xG, ↓qF, ↓rI, ↓wF, ↓xH, ↓xI, ↓yU, ↓xN, ↓xR, ↓xO, ↓zQ, ↓yH, ↓zR, ↓yI, Bool.not_true, Bool.not_false, yV, zZ])
 · exact (decide_eq_true (by assumption)).symm
 · exact (decide_eq_false (by omega)).symm
theorem word_pure (x : Tx) (h : zD) (n : Nat) : Pure P 8 114 [str x] h n (.bool (wordB x)) := by
 refine Rets.pureE (yM zP mixed (hint := hint114) l114 fun u k hk => ?_) (.inl rfl)
 rw [F114_eq]
 unfold F114
 have z3 : yW P 23 4 [(0, .string (ByteArray.mk #[99, 111, 110, 115, 116])), (1, .string (ByteArray.mk #[99, 111, 112, 121])), (2, .string (ByteArray.mk #[108, 111, 97, 100])), (3, .string (ByteArray.mk #[99, 97, 108, 108]))] = some (vZ ([pI, tCopy, tLoad, tCall].map str) 0) := by kernel_rfl
 refine rB (e := 9) (sz := 1) z3 rfl (by unfold inf; omega) fun h1 c1 x1 => ?_
 refine yN (contains_pure [pI, tCopy, tLoad, tCall] x _ h1 (n + 1) c1 (by decide)) ?_
 exact yF r114 rfl (hk _ _ _ ⟨rfl, x1⟩)
theorem number_loop (ns : List Int) (sv : Value) (h : zD) (n : Nat) (u : Option zL) (ka : KX) (hr : Row n h sv 3 1 ns.length (ns.map I64)) (hlen : ns.length < 100000) : ∀ (m i : Nat), m + i = ns.length → ∀ t, zA t 5 = sv → zA t 6 = I64 (ns.length : Nat) → zA t 7 = I64 (i : Nat) →
 ((ns.drop i).all wU = true → ∀ t', ka (.exit 0) t' ⟨[], u, h, n⟩ = true) → ((ns.drop i).all wU = false → ∀ t', zA t' 2 = .bool false → ka .ret t' ⟨[], u, h, n⟩ = true) →
 lpS P 8 1000002 ⟨59, none, false⟩ t ⟨[], u, h, n⟩ ka = true := by
 intro m
 induction m with
 | zero =>
  intro i hi t t5 t6 t7 hE hR
  refine xW zP mixed (hint := hint59) l59 lp59_1000002 ?_
  rw [B59_1000002_eq]
  unfold B59_1000002
  rw [t5, t6, t7]
  have e3 : vD (i : Nat) (ns.length : Nat) = false := by rw [yC]; exact decide_eq_false (by omega)
  simp only [↓zG, ↓zH]
  refine zW ?_
  simp only [↓e3, ↓yP, ↓uL]
  refine hE ?_ _
  rw [List.drop_eq_nil_of_le (by omega)]; rfl
 | succ m ih =>
  intro i hi t t5 t6 t7 hE hR
  have hlt : i < ns.length := by omega
  have hd : ns.drop i = ns[i] :: ns.drop (i + 1) := List.drop_eq_getElem_cons hlt
  obtain ⟨q, q1, q2⟩ := xX (P := P) (k := .i64) hr ix40 (tl := 3) sh3 (i := i) (x := I64 ns[i]) (by rw [List.getElem?_map, List.getElem?_eq_getElem hlt]; rfl)
  generalize ns[i] = y at hd q2
  have ea : (y :: ns.drop (i + 1)).all wU = (wU y && (ns.drop (i + 1)).all wU) := rfl
  rw [hd, ea] at hE hR
  refine xW zP mixed (hint := hint59) l59 lp59_1000002 ?_
  rw [B59_1000002_eq]
  unfold B59_1000002
  rw [t5, t6, t7]
  have e3 : vD (i : Nat) (ns.length : Nat) = true := by rw [yC]; exact decide_eq_true (by omega)
  simp only [↓zG, ↓zH]
  refine zW ?_
  simp only [↓e3, ↓yP, ↓uD, ↓xO, ↓q1, ↓q2, ↓zC, ↓zH]
  by_cases h0 : y < 0
  · have e4 : vD y 0 = true := by rw [yC]; exact decide_eq_true h0
    have hs : wU y = false := decide_eq_false (by omega)
    rw [hs] at hR
    simp only [↓e4, ↓qF, ↓xK, ↓xA, ↓zJ, ↓uD]
    exact hR rfl _ rfl
  · have e4 : vD y 0 = false := by rw [yC]; exact decide_eq_false h0
    simp only [↓e4, ↓rI, ↓yZ, ↓xG, cmpI]
    by_cases h1 : 99999 < y
    · have e5 : igtB y 99999 = true := by rw [igtB_ap]; exact decide_eq_true h1
      have hs : wU y = false := decide_eq_false (by omega)
      rw [hs] at hR
      simp only [↓e5, ↓zJ, ↓uD]
      exact hR rfl _ rfl
    · have e5 : igtB y 99999 = false := by rw [igtB_ap]; exact decide_eq_false h1
      have hs : wU y = true := decide_eq_true (by omega)
      rw [hs] at hE hR
      simp only [↓e5, ↓zJ, ↓uL, ↓fg5, ↓fg6, ↓fg7, ↓zG, ↓zH]
      refine zW ?_
      refine sF (by omega) ?_
      exact ih (i + 1) (by omega) _ rfl rfl rfl hE hR
theorem sS (ns : List Int) (sv : Value) (h : zD) (n : Nat) (hr : Row n h sv 3 1 ns.length (ns.map I64)) (hlen : ns.length < 100000) : Pure P 8 59 [sv] h n (.bool (ns.all wU)) := by
 refine yM zP mixed (hint := hint59) l59 fun u k hk => ?_
 rw [F59_eq]
 unfold F59
 have e2 := xL (P := P) us40 hr [] h
 simp only [↓e2, ↓zC, ↓zH]
 refine number_loop ns sv h n u _ hr hlen ns.length 0 (Nat.add_zero _) _ rfl rfl rfl ?_ ?_
 · intro ha t'
   rw [List.drop_zero] at ha
   rw [ha] at hk
   simp only [↓zQ, ↓zR]
   refine zW ?_
   exact yF r59 rfl (hk _ _ _ ⟨rfl, rfl, rfl⟩)
 · intro ha t' t2
   rw [List.drop_zero] at ha
   rw [ha] at hk
   simp only [↓yH, ↓yI]
   exact yF r59 t2 (hk _ _ _ ⟨rfl, rfl, rfl⟩)
theorem texts_loop {m : Int} (ns : List Int) (hns : ∀ x ∈ ns, -9223372036854775808 ≤ x ∧ x ≤ 9223372036854775807) (sv : Value) (h0 : zD) (n0 : Nat) (hn8 : 8 ≤ n0) (hlen : ns.length < 50000) (u : Option zL) (ka : KX) : ∀ (m' i : Nat), m' + i = ns.length → ∀ (t : Fr) (h : zD) (n : Nat) (ov : Value), Env m h → Ext h0 n0 h n → Row n0 h0 sv 3 1 ns.length (ns.map I64) →
 Own n0 n h ov 9 1 i ((ns.take i).map fun x => str (Lib.itoa x)) → zA t 3 = ov → zA t 6 = sv → zA t 7 = I64 (ns.length : Nat) → zA t 8 = I64 (i : Nat) →
 (∀ t' h' n' ov', zA t' 3 = ov' → Ext h0 n0 h' n' → Own n0 n' h' ov' 9 1 ns.length (ns.map fun x => str (Lib.itoa x)) → ka (.exit 0) t' ⟨[], u, h', n'⟩ = true) →
 lpS P 8 1000003 ⟨55, none, false⟩ t ⟨[], u, h, n⟩ ka = true := by
 intro m'
 induction m' with
 | zero =>
  intro i hi t h n ov hE x hr ho t3 t6 t7 t8 hk
  refine xW zP mixed (hint := hint55) l55 lp55_1000003 ?_
  rw [B55_1000003_eq]
  unfold B55_1000003
  rw [t3, t6, t7, t8]
  have e3 : vD (i : Nat) (ns.length : Nat) = false := by rw [yC]; exact decide_eq_false (by omega)
  simp only [↓zG, ↓zH]
  refine zW ?_
  simp only [↓e3, ↓yP, ↓uL]
  have hi' : i = ns.length := by omega
  subst hi'
  rw [List.take_length] at ho
  exact hk _ h n ov rfl x ho
 | succ m' ih =>
  intro i hi t h n ov hE x hr ho t3 t6 t7 t8 hk
  have hlt : i < ns.length := by omega
  have hr' := hr.ext x
  obtain ⟨q, q1, q2⟩ := xX (P := P) (k := .i64) hr' ix40 (tl := 3) sh3 (i := i) (x := I64 ns[i]) (by rw [List.getElem?_map, List.getElem?_eq_getElem hlt]; rfl)
  refine xW zP mixed (hint := hint55) l55 lp55_1000003 ?_
  rw [B55_1000003_eq]
  unfold B55_1000003
  rw [t3, t6, t7, t8]
  have e3 : vD (i : Nat) (ns.length : Nat) = true := by rw [yC]; exact decide_eq_true (by omega)
  simp only [↓zG, ↓zH]
  refine zW ?_
  simp only [↓e3, ↓yP, ↓uD, ↓xO, ↓q1, ↓q2, ↓zC, ↓zH]
  have hb := hns ns[i] (List.getElem_mem hlt)
  refine wW (itoa_pure n hE.tabs ns[i] hb.1 hb.2) ?_
  refine uJ on23 (sR _) fun h1 c1 x1 => ?_
  have o1 := ho.touch (x1.touch []) (fun _ _ h => by cases h)
  have hxn := x.1
  refine pG ap23 o1 (by omega) c1 rfl (by simpa using sR _) (by omega) fun v2 h2 n2 o2 n2le k2 => ?_
  have t2 := touch_blk (lo := 0) n2le k2
  have xx : Ext h0 n0 h2 n2 := by
   refine ⟨by omega, fun b hb => ?_⟩
   rw [k2 b (by omega) (fun e => by have := (ho.ge b e).1; omega), x1.2 b (by omega), x.2 b hb]
  have hE2 : Env m h2 := (hE.touch (x1.touch []) (by omega) (by simp)).touch t2 (by omega) (fun y hy => by have := (ho.ge y (by simpa using hy)).1; omega)
  simp only [↓fg3, ↓fg6, ↓fg7, ↓fg8, ↓zG, ↓zH]
  refine zW ?_
  refine sF (by omega) ?_
  refine ih (i + 1) (by omega) _ h2 n2 v2 hE2 xx hr ?_ rfl rfl rfl rfl hk
  have e9 : (ns.take (i + 1)).map (fun x => str (Lib.itoa x)) = (ns.take i).map (fun x => str (Lib.itoa x)) ++ [str (Lib.itoa ns[i])] := by
   have e8 : ns.take (i + 1) = ns.take i ++ [ns[i]] := by
    rw [List.take_add_one, List.getElem?_eq_getElem hlt]; rfl
   rw [e8, List.map_append]; rfl
  rw [e9]
  exact o2
theorem texts_rets {m : Int} {h : zD} {n : Nat} (hE : Env m h) (hn : 8 ≤ n) (ns : List Int) (hns : ∀ x ∈ ns, -9223372036854775808 ≤ x ∧ x ≤ 9223372036854775807) (sv : Value) (hr : Row n h sv 3 1 ns.length (ns.map I64)) (hlen : ns.length < 50000) :
 Rets P 8 55 [sv] h n fun v h' n' => Ext h n h' n' ∧ Own n n' h' v 9 1 ns.length (ns.map fun x => str (Lib.itoa x)) := by
 refine yM zP mixed (hint := hint55) l55 fun u k hk => ?_
 rw [F55_eq]
 unfold F55
 have e2 := xL (P := P) us40 hr [] h
 simp only [↓e2, ↓zC, ↓zH]
 refine texts_loop (m := m) ns hns sv h n hn hlen u _ ns.length 0 (Nat.add_zero _) _ h n (.slice none 0 0) hE (Ext.refl _ _) hr (.inl ⟨rfl, rfl, by simp⟩) rfl rfl rfl rfl ?_
 intro t' h' n' ov' t3 x o
 simp only [↓zQ, ↓zR, ↓zG, t3]
 refine zW ?_
 exact yF r55 rfl (hk _ _ _ ⟨x, o⟩)
theorem rT {i : Ins} {sv : Value} (hs : sv.oneCell' = true) : ∀ x ∈ uM i sv, x.oneCell' = true := by
 intro x hx
 simp only [uM, List.mem_cons, List.not_mem_nil, or_false] at hx
 rcases hx with rfl | rfl | rfl | rfl | rfl | rfl | rfl | rfl | rfl <;> first | rfl | exact hs
theorem zero_pure (i : Ins) (sv : Value) (h : zD) (n : Nat) (hr : Row n h sv 3 1 i.args.length (i.args.map I64)) : Pure P 8 112 [.agg ⟨uM i sv⟩] h n (.bool (zeroI i)) := by
 refine Rets.pureE (yM zP mixed (hint := hint112) l112 fun u k hk => ?_) (.inl rfl)
 rw [F112_eq]
 unfold F112
 refine tL (rT hr.one) fun h1 c1 x1 => ?_
 have hr1 := hr.ext x1
 have c1' : Cel h1 n 0 (uM i sv) := c1
 have f0 : zF P 3 h1 (ptr n 0) = some (I64 i.kind) := zI c1' sh3 rfl
 have f1 : zF P 3 h1 (.pointer (some ⟨n, 1, none⟩)) = some (I64 i.d) := zI c1' sh3 rfl
 have f2 : zF P 3 h1 (.pointer (some ⟨n, 2, none⟩)) = some (I64 i.a) := zI c1' sh3 rfl
 have f3 : zF P 3 h1 (.pointer (some ⟨n, 3, none⟩)) = some (I64 i.b) := zI c1' sh3 rfl
 have f4 : zF P 3 h1 (.pointer (some ⟨n, 4, none⟩)) = some (I64 i.n) := zI c1' sh3 rfl
 have f5 : zF P 9 h1 (.pointer (some ⟨n, 5, none⟩)) = some (str i.name) := zI c1' sh9 rfl
 have f6 : zF P 40 h1 (.pointer (some ⟨n, 6, none⟩)) = some sv := zI c1' sh40 rfl
 have f7 : zF P 3 h1 (.pointer (some ⟨n, 7, none⟩)) = some (I64 i.t) := zI c1' sh3 rfl
 have f8 : zF P 3 h1 (.pointer (some ⟨n, 8, none⟩)) = some (I64 i.f) := zI c1' sh3 rfl
 have fl := xL (P := P) us40 hr1 [] h1
 have ec : ∀ (x : Tx) K, yB wJ P .eql 9 true (str x) (.string (ByteArray.mk #[])) K = K (x == []) := fun x K => vB _ _ _ _ [] K
 have ei : ∀ (a : Int) K, yB wJ P .eql 3 true (.int .i64 a) (.int .i64 0) K = K (decide (a = 0)) := fun a K => by rw [cmpI, wX]
 have e0 : wJ i.kind 0 = decide (i.kind = 0) := wX _ _
 have fin : ∀ t, ∀ b, b = zeroI i → zA t 2 = .bool b → zE P (loS P 8) 112 k .ret t ⟨[], u, h1, n + 1⟩ = true := fun t b hb ht => yF r112 ht (hk _ _ _ ⟨by rw [hb], x1⟩)
 have hz : ∀ b : Bool, (b = true ↔ (i.kind = 0 ∧ i.d = 0 ∧ i.a = 0 ∧ i.b = 0 ∧ i.n = 0 ∧ i.name = [] ∧ i.args.length = 0 ∧ i.t = 0 ∧ i.f = 0)) → b = zeroI i := fun b hb => by
  unfold zeroI
  cases b with
  | true => exact (decide_eq_true (hb.1 rfl)).symm
  | false => exact (decide_eq_false (fun h => Bool.false_ne_true (hb.2 h))).symm
 simp only [↓tG, ↓zC, ↓f0, ↓zH, ↓e0, ↓yP]
 by_cases g0 : i.kind = 0
 case neg =>
  simp only [↓decide_eq_false g0, ↓xK, ↓xG, ↓zJ]
  exact fin _ false (hz _ (by simp [g0])) rfl
 simp only [↓decide_eq_true g0, ↓yZ, ↓xA, ↓fa50_1, ↓zC, ↓f1, ↓zH, ↓ei]
 by_cases g1 : i.d = 0
 case neg =>
  simp only [↓decide_eq_false g1, ↓xK, ↓xG, ↓zJ]
  exact fin _ false (hz _ (by simp [g1])) rfl
 simp only [↓decide_eq_true g1, ↓zJ, ↓yZ, ↓xA, ↓rD, ↓zC, ↓f2, ↓zH, ↓ei]
 by_cases g2 : i.a = 0
 case neg =>
  simp only [↓decide_eq_false g2, ↓xK, ↓xG, ↓zJ]
  exact fin _ false (hz _ (by simp [g2])) rfl
 simp only [↓decide_eq_true g2, ↓zJ, ↓yZ, ↓xA, ↓fa50_3, ↓zC, ↓f3, ↓zH, ↓ei]
 by_cases g3 : i.b = 0
 case neg =>
  simp only [↓decide_eq_false g3, ↓xK, ↓xG, ↓zJ]
  exact fin _ false (hz _ (by simp [g3])) rfl
 simp only [↓decide_eq_true g3, ↓zJ, ↓yZ, ↓xA, ↓fa50_4, ↓zC, ↓f4, ↓zH, ↓ei]
 by_cases g4 : i.n = 0
 case neg =>
  simp only [↓decide_eq_false g4, ↓xK, ↓xG, ↓zJ]
  exact fin _ false (hz _ (by simp [g4])) rfl
 simp only [↓decide_eq_true g4, ↓zJ, ↓yZ, ↓xA, ↓qK, ↓zC, ↓f5, ↓ec]
 cases g5 : (i.name == []) with
 | false =>
  have g5' : i.name ≠ [] := fun e => by rw [e] at g5; simp at g5
  simp only [↓xK, ↓xG, ↓zJ]
  exact fin _ false (hz _ (by simp [g5'])) rfl
 | true =>
 have g5' : i.name = [] := by simpa using g5
 simp only [↓zJ, ↓yZ, ↓xA, ↓sH, ↓zC, ↓f6, ↓fl, ↓zH, ↓ei]
 by_cases g6 : ((i.args.length : Nat) : Int) = 0
 case neg =>
  simp only [↓decide_eq_false g6, ↓xK, ↓xG, ↓zJ]
  exact fin _ false (hz _ ⟨fun h => (by cases h), fun h => absurd h.2.2.2.2.2.2.1 (by omega)⟩) rfl
 simp only [↓decide_eq_true g6, ↓zJ, ↓yZ, ↓xA, ↓fa50_7, ↓zC, ↓f7, ↓zH, ↓ei]
 by_cases g7 : i.t = 0
 case neg =>
  simp only [↓decide_eq_false g7, ↓xK, ↓xG, ↓zJ]
  exact fin _ false (hz _ (by simp [g7])) rfl
 simp only [↓decide_eq_true g7, ↓zJ, ↓yZ, ↓xA, ↓fa50_8, ↓zC, ↓f8, ↓zH, ↓ei]
 exact fin _ (decide (i.f = 0)) (hz _ ⟨fun h => ⟨g0, g1, g2, g3, g4, g5', by omega, g7, of_decide_eq_true h⟩, fun h => decide_eq_true h.2.2.2.2.2.2.2.2⟩) rfl
def RD (n : Nat) (h : zD) (u : Option zL) (i : Ins) (sv : Value) (t : Fr) (w : W) : Prop :=
 zA t 1 = ptr n 0 ∧ zA t 2 = ptr (n + 1) 0 ∧ ∃ h' sv', w = ⟨[], u, h', n + 1 + 1⟩ ∧ Cel h' n 0 (uM (tX i) sv') ∧ (∃ vs, vs.length = 9 ∧ Cel h' (n + 1) (50 + 1) vs) ∧ Ext h n h' (n + 1 + 1) ∧ ((sv' = sv ∧ (tX i).args = i.args) ∨ (sv' = .slice none 0 0 ∧ (tX i).args = []))
theorem rest_rets (i : Ins) (sv : Value) (h : zD) (n : Nat) (hs : sv.oneCell' = true) : Rets P 8 113 [.agg ⟨uM i sv⟩] h n fun v h' n' => Ext h n h' n' ∧ ∃ sv', v = .agg ⟨uM (tX i) sv'⟩ ∧ ((sv' = sv ∧ (tX i).args = i.args) ∨ (sv' = .slice none 0 0 ∧ (tX i).args = [])) := by
 refine yM zP mixed (hint := hint113) l113 fun u k hk => ?_
 rw [F113_eq]
 unfold F113
 refine tL (rT hs) fun h1 c1 x1 => ?_
 refine wS ze50 fun h2 c2 x2 => ?_
 have c1' : Cel h2 n 0 (uM i sv) := Cel.touch c1 (x2.touch []) (by omega) (by simp)
 have f0 : zF P 3 h2 (ptr n 0) = some (I64 i.kind) := zI c1' sh3 rfl
 simp only [↓tG, ↓zC, ↓f0, ↓zH]
 refine xQ c1' sh3 (by simp [uM]) rfl fun h3 c3 k3 => ?_
 have c3' : Cel h3 n 0 (uM { i with kind := 0 } sv) := c3
 have x3 : Ext h n h3 (n + 1 + 1) := ⟨by omega, fun b hb => by rw [k3 b (by omega), x2.2 b (by omega), x1.2 b hb]⟩
 have r3 : ∃ vs, vs.length = 9 ∧ Cel h3 (n + 1) (50 + 1) vs := ⟨_, rfl, Cel.keep c2 (k3 _ (by omega))⟩
 have sto : ∀ {h' : zD} {j : Ins} {sw : Value} {off : Nat} {v : Value} {ty : TypeId} {K : KH} (j' : Ins) (sw' : Value), Cel h' n 0 (uM j sw) → (∃ vs, vs.length = 9 ∧ Cel h' (n + 1) (50 + 1) vs) → Ext h n h' (n + 1 + 1) → yG P ty = .scal → off < 9 → v.oneCell' = true → (uM j sw).set off v = uM j' sw' →
  (∀ h'', Cel h'' n 0 (uM j' sw') → (∃ vs, vs.length = 9 ∧ Cel h'' (n + 1) (50 + 1) vs) → Ext h n h'' (n + 1 + 1) → K h'' (n + 1 + 1) undef = true) → zV P ty (.pointer (some ⟨n, off, none⟩)) v h' (n + 1 + 1) K = true := by
  intro h' j sw off v ty K j' sw' c r x hs ho hv he hK
  refine xQ c hs (by show off < 9; exact ho) hv fun h'' c'' k'' => ?_
  obtain ⟨vs, r1, r2⟩ := r
  exact hK h'' (by rw [← he]; exact c'') ⟨vs, r1, r2.keep (k'' _ (by omega))⟩ ⟨x.1, fun b hb => by rw [k'' b (by omega)]; exact x.2 b hb⟩
 refine tA (RD n h u i sv) (fun t w q => ?_) (fun kk hkk => ?_)
 · obtain ⟨q1, q2, h', sv', rfl, c, ⟨vs, r1, r2⟩, x, hsv⟩ := q
   simp only [q1, q2, ↓zG]
   refine zW ?_
   refine opt_of (xJ c sh50 rfl (by decide)) ?_
   have hs' : sv'.oneCell' = true := by rcases hsv with ⟨rfl, _⟩ | ⟨rfl, _⟩; exact hs; rfl
   refine xU r2 sh50 rfl r1 (rT hs') fun h4 c4 k4 => ?_
   refine leaveC r113 rfl (xJ c4 sh50 rfl (by decide)) (hk _ _ _ ⟨⟨x.1, fun b hb => by rw [k4 b (by omega)]; exact x.2 b hb⟩, sv', rfl, hsv⟩)
 have join : ∀ {kk : KN}, (∀ t w, RD n h u i sv t w → kk t w = true) → ∀ t w, RD n h u i sv t w → ∀ T : Fr, zA T 1 = ptr n 0 → zA T 2 = ptr (n + 1) 0 → kk T w = true := fun hkk t w q T h1 h2 => by
  obtain ⟨q1, q2, q3⟩ := q
  exact hkk _ _ ⟨h1, h2, q3⟩
 have ib : ∀ c : Int, wJ i.kind c = decide (i.kind = c) := fun c => wX _ _
 try simp only [↓ib, ↓yP]
 refine vF (RD n h u i sv) (fun t w q => ?_) (fun hc kk' hkk' => ?_) (fun hc kk hkk => ?_)
 · obtain ⟨q1, q2, h', sv', rfl, q3⟩ := q
   simp only [q1, q2, ↓zG]
   refine zW ?_
   exact hkk _ _ ⟨rfl, rfl, h', sv', rfl, q3⟩
 · have k1 : i.kind = 1 := of_decide_eq_true hc
   try simp only [↓fa50_1, ↓zC]
   refine sto { i with kind := 0, d := 0 } sv c3' r3 x3 sh3 (by decide) rfl rfl fun g0 cc0 rr0 xx0 => ?_
   try simp only [↓fa50_4, ↓zC]
   refine sto { i with kind := 0, d := 0, n := 0 } sv cc0 rr0 xx0 sh3 (by decide) rfl rfl fun g1 cc1 rr1 xx1 => ?_
   have hR : tX i = { i with kind := 0, d := 0, n := 0 } := by unfold tX; rw [if_pos k1]
   exact hkk' _ _ ⟨rfl, rfl, g1, sv, rfl, by rw [hR]; exact cc1, rr1, xx1, .inl ⟨rfl, by rw [hR]⟩⟩
 have hn0 : ¬ (i.kind = 1) := of_decide_eq_false hc
 try simp only [↓ib, ↓yP]
 refine vF (fun t w => zA t 1 = ptr n 0 ∧ zA t 2 = ptr (n + 1) 0 ∧ zA t 7 = I64 i.kind ∧ zA t 12 = .bool (decide (i.kind = 2 ∨ i.kind = 4)) ∧ w = ⟨[], u, h3, n + 1 + 1⟩) (fun t w q => ?_) (fun hc kk hkk => ?_) (fun hc kk hkk => ?_)
 rotate_left
 · have k1 : i.kind = 2 := of_decide_eq_true hc
   exact hkk _ _ ⟨rfl, rfl, rfl, by show Value.bool (decide (i.kind = 2)) = _; rw [hc, decide_eq_true (Or.inl k1)], rfl⟩
 · have k1 : ¬ i.kind = 2 := of_decide_eq_false hc
   try simp only [↓ib, ↓yP]
   refine hkk _ _ ⟨rfl, rfl, rfl, ?_, rfl⟩
   show Value.bool (decide (i.kind = 4)) = _
   by_cases k2 : i.kind = 4
   · rw [decide_eq_true k2, decide_eq_true (Or.inr k2)]
   · rw [decide_eq_false k2, decide_eq_false (fun h => h.elim k1 k2)]
 obtain ⟨q1, q2, q7, q12, rfl⟩ := q
 simp only [q1, q2, q7, q12, ↓zG, ↓zH, ↓zJ]
 refine zW ?_
 refine vF (RD n h u i sv) (fun t w q => ?_) (fun hc kk' hkk' => ?_) (fun hc kk hkk => ?_)
 · obtain ⟨q1, q2, h', sv', rfl, q3⟩ := q
   simp only [q1, q2, ↓zG]
   refine zW ?_
   exact hkk _ _ ⟨rfl, rfl, h', sv', rfl, q3⟩
 · have k1 : i.kind = 2 ∨ i.kind = 4 := of_decide_eq_true hc
   try simp only [↓fa50_1, ↓zC]
   refine sto { i with kind := 0, d := 0 } sv c3' r3 x3 sh3 (by decide) rfl rfl fun g0 cc0 rr0 xx0 => ?_
   try simp only [↓rD, ↓zC]
   refine sto { i with kind := 0, d := 0, a := 0 } sv cc0 rr0 xx0 sh3 (by decide) rfl rfl fun g1 cc1 rr1 xx1 => ?_
   have hR : tX i = { i with kind := 0, d := 0, a := 0 } := by unfold tX; rw [if_neg hn0]; rw [if_pos k1]
   exact hkk' _ _ ⟨rfl, rfl, g1, sv, rfl, by rw [hR]; exact cc1, rr1, xx1, .inl ⟨rfl, by rw [hR]⟩⟩
 have hn1 : ¬ (i.kind = 2 ∨ i.kind = 4) := of_decide_eq_false hc
 try simp only [↓ib, ↓yP]
 refine vF (fun t w => zA t 1 = ptr n 0 ∧ zA t 2 = ptr (n + 1) 0 ∧ zA t 7 = I64 i.kind ∧ zA t 17 = .bool (decide (i.kind = 3 ∨ i.kind = 6)) ∧ w = ⟨[], u, h3, n + 1 + 1⟩) (fun t w q => ?_) (fun hc kk hkk => ?_) (fun hc kk hkk => ?_)
 rotate_left
 · have k1 : i.kind = 3 := of_decide_eq_true hc
   exact hkk _ _ ⟨rfl, rfl, rfl, by show Value.bool (decide (i.kind = 3)) = _; rw [hc, decide_eq_true (Or.inl k1)], rfl⟩
 · have k1 : ¬ i.kind = 3 := of_decide_eq_false hc
   try simp only [↓ib, ↓yP]
   refine hkk _ _ ⟨rfl, rfl, rfl, ?_, rfl⟩
   show Value.bool (decide (i.kind = 6)) = _
   by_cases k2 : i.kind = 6
   · rw [decide_eq_true k2, decide_eq_true (Or.inr k2)]
   · rw [decide_eq_false k2, decide_eq_false (fun h => h.elim k1 k2)]
 obtain ⟨q1, q2, q7, q17, rfl⟩ := q
 simp only [q1, q2, q7, q17, ↓zG, ↓zH, ↓zJ]
 refine zW ?_
 refine vF (RD n h u i sv) (fun t w q => ?_) (fun hc kk' hkk' => ?_) (fun hc kk hkk => ?_)
 · obtain ⟨q1, q2, h', sv', rfl, q3⟩ := q
   simp only [q1, q2, ↓zG]
   refine zW ?_
   exact hkk _ _ ⟨rfl, rfl, h', sv', rfl, q3⟩
 · have k1 : i.kind = 3 ∨ i.kind = 6 := of_decide_eq_true hc
   try simp only [↓fa50_1, ↓zC]
   refine sto { i with kind := 0, d := 0 } sv c3' r3 x3 sh3 (by decide) rfl rfl fun g0 cc0 rr0 xx0 => ?_
   try simp only [↓qK, ↓zC]
   refine sto { i with kind := 0, d := 0, name := [] } sv cc0 rr0 xx0 sh9 (by decide) rfl rfl fun g1 cc1 rr1 xx1 => ?_
   try simp only [↓sH, ↓zC]
   refine sto { i with kind := 0, d := 0, name := [], args := [] } (.slice none 0 0) cc1 rr1 xx1 sh40 (by decide) rfl rfl fun g2 cc2 rr2 xx2 => ?_
   have hR : tX i = { i with kind := 0, d := 0, name := [], args := [] } := by unfold tX; rw [if_neg hn0]; rw [if_neg hn1]; rw [if_pos k1]
   exact hkk' _ _ ⟨rfl, rfl, g2, (.slice none 0 0), rfl, by rw [hR]; exact cc2, rr2, xx2, .inr ⟨rfl, by rw [hR]⟩⟩
 have hn2 : ¬ (i.kind = 3 ∨ i.kind = 6) := of_decide_eq_false hc
 try simp only [↓ib, ↓yP]
 refine vF (RD n h u i sv) (fun t w q => ?_) (fun hc kk' hkk' => ?_) (fun hc kk hkk => ?_)
 · obtain ⟨q1, q2, h', sv', rfl, q3⟩ := q
   simp only [q1, q2, ↓zG]
   refine zW ?_
   exact hkk _ _ ⟨rfl, rfl, h', sv', rfl, q3⟩
 · have k1 : i.kind = 5 := of_decide_eq_true hc
   try simp only [↓rD, ↓zC]
   refine sto { i with kind := 0, a := 0 } sv c3' r3 x3 sh3 (by decide) rfl rfl fun g0 cc0 rr0 xx0 => ?_
   try simp only [↓fa50_3, ↓zC]
   refine sto { i with kind := 0, a := 0, b := 0 } sv cc0 rr0 xx0 sh3 (by decide) rfl rfl fun g1 cc1 rr1 xx1 => ?_
   have hR : tX i = { i with kind := 0, a := 0, b := 0 } := by unfold tX; rw [if_neg hn0]; rw [if_neg hn1]; rw [if_neg hn2]; rw [if_pos k1]
   exact hkk' _ _ ⟨rfl, rfl, g1, sv, rfl, by rw [hR]; exact cc1, rr1, xx1, .inl ⟨rfl, by rw [hR]⟩⟩
 have hn3 : ¬ (i.kind = 5) := of_decide_eq_false hc
 try simp only [↓ib, ↓yP]
 refine vF (RD n h u i sv) (fun t w q => ?_) (fun hc kk' hkk' => ?_) (fun hc kk hkk => ?_)
 · obtain ⟨q1, q2, h', sv', rfl, q3⟩ := q
   simp only [q1, q2, ↓zG]
   refine zW ?_
   exact hkk _ _ ⟨rfl, rfl, h', sv', rfl, q3⟩
 · have k1 : i.kind = 7 := of_decide_eq_true hc
   try simp only [↓rD, ↓zC]
   refine sto { i with kind := 0, a := 0 } sv c3' r3 x3 sh3 (by decide) rfl rfl fun g0 cc0 rr0 xx0 => ?_
   try simp only [↓fa50_7, ↓zC]
   refine sto { i with kind := 0, a := 0, t := 0 } sv cc0 rr0 xx0 sh3 (by decide) rfl rfl fun g1 cc1 rr1 xx1 => ?_
   try simp only [↓fa50_8, ↓zC]
   refine sto { i with kind := 0, a := 0, t := 0, f := 0 } sv cc1 rr1 xx1 sh3 (by decide) rfl rfl fun g2 cc2 rr2 xx2 => ?_
   have hR : tX i = { i with kind := 0, a := 0, t := 0, f := 0 } := by unfold tX; rw [if_neg hn0]; rw [if_neg hn1]; rw [if_neg hn2]; rw [if_neg hn3]; rw [if_pos k1]
   exact hkk' _ _ ⟨rfl, rfl, g2, sv, rfl, by rw [hR]; exact cc2, rr2, xx2, .inl ⟨rfl, by rw [hR]⟩⟩
 have hn4 : ¬ (i.kind = 7) := of_decide_eq_false hc
 try simp only [↓ib, ↓yP]
 refine vF (RD n h u i sv) (fun t w q => ?_) (fun hc kk' hkk' => ?_) (fun hc kk hkk => ?_)
 · obtain ⟨q1, q2, h', sv', rfl, q3⟩ := q
   simp only [q1, q2, ↓zG]
   refine zW ?_
   exact hkk _ _ ⟨rfl, rfl, h', sv', rfl, q3⟩
 · have k1 : i.kind = 8 := of_decide_eq_true hc
   try simp only [↓fa50_7, ↓zC]
   refine sto { i with kind := 0, t := 0 } sv c3' r3 x3 sh3 (by decide) rfl rfl fun g0 cc0 rr0 xx0 => ?_
   have hR : tX i = { i with kind := 0, t := 0 } := by unfold tX; rw [if_neg hn0]; rw [if_neg hn1]; rw [if_neg hn2]; rw [if_neg hn3]; rw [if_neg hn4]; rw [if_pos k1]
   exact hkk' _ _ ⟨rfl, rfl, g0, sv, rfl, by rw [hR]; exact cc0, rr0, xx0, .inl ⟨rfl, by rw [hR]⟩⟩
 have hn5 : ¬ (i.kind = 8) := of_decide_eq_false hc
 try simp only [↓ib, ↓yP]
 refine vF (RD n h u i sv) (fun t w q => ?_) (fun hc kk' hkk' => ?_) (fun hc kk hkk => ?_)
 · obtain ⟨q1, q2, h', sv', rfl, q3⟩ := q
   simp only [q1, q2, ↓zG]
   refine zW ?_
   exact hkk _ _ ⟨rfl, rfl, h', sv', rfl, q3⟩
 · have k1 : i.kind = 9 := of_decide_eq_true hc
   try simp only [↓rD, ↓zC]
   refine sto { i with kind := 0, a := 0 } sv c3' r3 x3 sh3 (by decide) rfl rfl fun g0 cc0 rr0 xx0 => ?_
   have hR : tX i = { i with kind := 0, a := 0 } := by unfold tX; rw [if_neg hn0]; rw [if_neg hn1]; rw [if_neg hn2]; rw [if_neg hn3]; rw [if_neg hn4]; rw [if_neg hn5]; rw [if_pos k1]
   exact hkk' _ _ ⟨rfl, rfl, g0, sv, rfl, by rw [hR]; exact cc0, rr0, xx0, .inl ⟨rfl, by rw [hR]⟩⟩
 have hn6 : ¬ (i.kind = 9) := of_decide_eq_false hc
 have hR : tX i = { i with kind := 0 } := by unfold tX; rw [if_neg hn0]; rw [if_neg hn1]; rw [if_neg hn2]; rw [if_neg hn3]; rw [if_neg hn4]; rw [if_neg hn5]; rw [if_neg hn6]
 exact hkk _ _ ⟨rfl, rfl, h3, sv, rfl, by rw [hR]; exact c3', r3, x3, .inl ⟨rfl, by rw [hR]⟩⟩
theorem max_two (a : Int) (h : zD) : yL P .max [3, 3] [.int .i64 0, .int .i64 a] h = some (I64 (max 0 a)) := by
 show some (Value.int .i64 (cond (vD 0 a) a 0)) = some (I64 (max 0 a))
 rw [yC]
 by_cases g : 0 < a
 · rw [decide_eq_true g, show max 0 a = a by omega]; rfl
 · rw [decide_eq_false g, show max 0 a = 0 by omega]; rfl
theorem plainIns_pure (i : Ins) (sv : Value) (h : zD) (n : Nat) (hr : Row n h sv 3 1 i.args.length (i.args.map I64)) (hd : -9223372036854775808 ≤ i.d ∧ i.d ≤ 9223372036854775807) (hal : i.args.length < 100000) : Pure P 8 60 [.agg ⟨uM i sv⟩] h n (.bool (wI i)) := by
  refine Rets.pureE (yM zP mixed (hint := hint60) l60 fun u k hk => ?_) (.inl rfl)
  rw [F60_eq]
  unfold F60
  refine tL (rT hr.one) fun h1 c1 x1 => ?_
  have LD : ∀ {h' : zD} {n' : Nat}, Ext h1 (n + 1) h' n' → Cel h' n 0 (uM i sv) := fun x => Cel.touch c1 (x.touch []) (by omega) (by simp)
  have LR : ∀ {h' : zD} {n' : Nat}, Ext h1 (n + 1) h' n' → Row n' h' sv 3 1 i.args.length (i.args.map I64) := fun x => (hr.ext x1).ext x
  have x0 : Ext h1 (n + 1) h1 (n + 1) := Ext.refl _ _
  have fin : ∀ {h' : zD} {n' : Nat} (x : Ext h1 (n + 1) h' n') (t : Fr) (b : Bool), b = wI i → zA t 2 = .bool b → zE P (loS P 8) 60 k .ret t ⟨[], u, h', n'⟩ = true := fun x t b hb ht => yF r60 ht (hk _ _ _ ⟨by rw [hb], x1.trans x⟩)
  have f0 : zF P 3 h1 (ptr n 0) = some (I64 i.kind) := zI (LD x0) sh3 rfl
  simp only [↓tG, ↓zC, ↓f0, ↓zH]
  by_cases g1 : i.kind < 1
  · have e1 : vD i.kind 1 = true := by rw [yC]; exact decide_eq_true g1
    simp only [↓e1, ↓yP, ↓qF, ↓xK, ↓xA, ↓zJ, ↓uD]
    exact fin x0 _ false (by unfold wI; rw [decide_eq_false (show ¬ 1 ≤ i.kind by omega)]; simp) rfl
  have e1 : vD i.kind 1 = false := by rw [yC]; exact decide_eq_false g1
  have cg : ∀ (a b : Int) K, yB igtB P .gtr 3 true (.int .i64 a) (.int .i64 b) K = K (decide (b < a)) := fun a b K => by rw [cmpI, igtB_ap]
  have cl : ∀ (a b : Int) K, yB vD P .lss 3 true (.int .i64 a) (.int .i64 b) K = K (decide (a < b)) := fun a b K => by rw [cmpI, yC]
  simp only [↓e1, ↓yP, ↓rI, ↓yZ, ↓xG, ↓tG, ↓zC, ↓f0, ↓zH, ↓cg]
  by_cases g2 : 9 < i.kind
  · simp only [↓decide_eq_true g2, ↓yP, ↓qF, ↓xK, ↓xA, ↓zJ, ↓uD]
    exact fin x0 _ false (by unfold wI; rw [decide_eq_false (show ¬ i.kind ≤ 9 by omega)]; simp) rfl
  have fA : zF P 50 h1 (ptr n 0) = some (.agg ⟨uM i sv⟩) := xJ (LD x0) sh50 rfl (by decide)
  simp only [↓decide_eq_false g2, ↓zJ, ↓rI, ↓yZ, ↓xG, ↓fA, ↓zC]
  refine uH (rest_rets i sv h1 (n + 1) hr.one) fun v h2 n2 ⟨x2, sv', e2, hsv⟩ => ?_
  subst e2
  have hr2 : Row n2 h2 sv' 3 1 (tX i).args.length ((tX i).args.map I64) := by
    rcases hsv with ⟨rfl, ha⟩ | ⟨rfl, ha⟩
    · rw [ha]; exact LR x2
    · rw [ha]; exact .inl ⟨rfl, rfl, rfl⟩
  refine yN (zero_pure (tX i) sv' h2 n2 hr2) ?_
  try simp only [↓xR, ↓zC, ↓zJ]
  cases g3 : zeroI (tX i) with
  | false =>
    simp only [↓Bool.not_false, ↓yP, ↓qF, ↓xK, ↓xA, ↓zJ, ↓uD]
    exact fin x2 _ false (by unfold wI; rw [g3]; simp) rfl
  | true =>
  have f2 : zF P 3 h2 (.pointer (some ⟨n, 2, none⟩)) = some (I64 i.a) := zI (LD x2) sh3 rfl
  have f3 : zF P 3 h2 (.pointer (some ⟨n, 3, none⟩)) = some (I64 i.b) := zI (LD x2) sh3 rfl
  have f7 : zF P 3 h2 (.pointer (some ⟨n, 7, none⟩)) = some (I64 i.t) := zI (LD x2) sh3 rfl
  have f8 : zF P 3 h2 (.pointer (some ⟨n, 8, none⟩)) = some (I64 i.f) := zI (LD x2) sh3 rfl
  simp only [↓Bool.not_true, ↓rI, ↓yZ, ↓xG, ↓rD, ↓fa50_3, ↓fa50_7, ↓fa50_8, ↓zC, ↓f2, ↓f3, ↓f7, ↓f8, ↓zH]
  have z3 : yW P 40 4 [(0, .int .i64 i.a), (1, .int .i64 i.b), (2, .int .i64 i.t), (3, .int .i64 i.f)] = some (vZ ([i.a, i.b, i.t, i.f].map I64) 0) := by kernel_rfl
  refine rB (e := 3) (sz := 1) z3 rfl (by unfold inf; omega) fun h3 c3 x3' => ?_
  have x3 := x2.trans x3'
  refine yN (sS [i.a, i.b, i.t, i.f] _ h3 (n2 + 1) c3 (by simp)) ?_
  try simp only [↓xR, ↓zC, ↓zJ]
  cases g4 : [i.a, i.b, i.t, i.f].all wU with
  | false =>
    simp only [↓Bool.not_false, ↓yP, ↓qF, ↓xK, ↓xA, ↓zJ, ↓uD]
    exact fin x3 _ false (by unfold wI; rw [g4]; simp) rfl
  | true =>
  have f6 : zF P 40 h3 (.pointer (some ⟨n, 6, none⟩)) = some sv := zI (LD x3) sh40 rfl
  have fl := xL (P := P) us40 (LR x3) [] h3
  simp only [↓Bool.not_true, ↓rI, ↓yZ, ↓xG, ↓sH, ↓zC, ↓f6]
  refine yN (sS i.args sv h3 (n2 + 1) (LR x3) hal) ?_
  try simp only [↓xR, ↓zC, ↓zJ]
  cases g5 : i.args.all wU with
  | false =>
    simp only [↓Bool.not_false, ↓yP, ↓qF, ↓xK, ↓xA, ↓zJ, ↓uD]
    exact fin x3 _ false (by unfold wI; rw [g5]; simp) rfl
  | true =>
  simp only [↓Bool.not_true, ↓rI, ↓yZ, ↓xG, ↓sH, ↓zC, ↓f6, ↓fl, ↓zH, ↓cg]
  by_cases g6 : (16 : Int) < (i.args.length : Nat)
  · simp only [↓decide_eq_true g6, ↓zJ, ↓uD]
    exact fin x3 _ false (by unfold wI; rw [decide_eq_false (show ¬ i.args.length ≤ 16 by omega)]; simp) rfl
  have hp : wI i = (if i.kind = 3 then named i.name && !wordB i.name && decide (1 ≤ i.args.length) && decide (i.args.length ≤ 2) && wU i.d
   else if i.kind = 6 then named i.name && (decide (i.d = -1) || wU i.d) else wU i.d) := by
    unfold wI
    rw [g3, g4, g5, decide_eq_true (show 1 ≤ i.kind by omega), decide_eq_true (show i.kind ≤ 9 by omega), decide_eq_true (show i.args.length ≤ 16 by omega)]
    simp
  have f1 : zF P 3 h3 (.pointer (some ⟨n, 1, none⟩)) = some (I64 i.d) := zI (LD x3) sh3 rfl
  have f0' : zF P 3 h3 (ptr n 0) = some (I64 i.kind) := zI (LD x3) sh3 rfl
  have f5 : zF P 9 h3 (.pointer (some ⟨n, 5, none⟩)) = some (str i.name) := zI (LD x3) sh9 rfl
  simp only [↓decide_eq_false g6, ↓zJ, ↓uL, ↓tG, ↓fa50_1, ↓zC, ↓f1, ↓f0', ↓zH]
  refine tA (fun t w => zA t 3 = I64 i.d ∧ w = ⟨[], u, h3, n2 + 1⟩ ∧ wI i = wU i.d) (fun t w q => ?_) (fun kk hkk => ?_)
  · obtain ⟨q3, rfl, hq⟩ := q
    simp only [q3, ↓zH]
    refine zW ?_
    refine uJ on40 (v := I64 i.d) rfl fun h4 c4 x4 => ?_
    refine yN (sS [i.d] _ h4 _ c4 (by simp)) ?_
    exact fin (x3.trans x4) _ _ (by rw [hq]; simp) rfl
  have ib : ∀ c : Int, wJ i.kind c = decide (i.kind = c) := fun c => wX _ _
  simp only [↓ib, ↓yP]
  refine vF (fun t w => zA t 3 = I64 i.d ∧ w = ⟨[], u, h3, n2 + 1⟩ ∧ wI i = wU i.d) (fun t w q => ?_) (fun hc kk' hkk' => ?_) (fun hc kk hkk => ?_)
  · obtain ⟨q3, rfl, hq⟩ := q
    simp only [q3, ↓zH]
    refine zW ?_
    exact hkk _ _ ⟨rfl, rfl, hq⟩
  · have k3 : i.kind = 3 := of_decide_eq_true hc
    rw [if_pos k3] at hp
    simp only [↓qK, ↓sH, ↓zC, ↓f5, ↓f6]
    refine yN (rW i.name h3 (n2 + 1)) ?_
    try simp only [↓xR, ↓zC, ↓zJ]
    cases n3 : named i.name with
    | false =>
      simp only [↓Bool.not_false, ↓qF, ↓xK, ↓xA, ↓zJ, ↓uD]
      exact fin x3 _ false (by rw [hp, n3]; simp) rfl
    | true =>
    simp only [↓Bool.not_true, ↓rI, ↓yZ, ↓xG, ↓qK, ↓zC, ↓f5]
    refine yN (word_pure i.name h3 (n2 + 1)) ?_
    cases n4 : wordB i.name with
    | true =>
      simp only [↓zJ, ↓qF, ↓xK, ↓xA, ↓uD]
      exact fin x3 _ false (by rw [hp, n4]; simp) rfl
    | false =>
    simp only [↓zJ, ↓rI, ↓yZ, ↓xG, ↓sH, ↓zC, ↓f6, ↓fl, ↓zH, ↓cl]
    by_cases n5 : ((i.args.length : Nat) : Int) < 1
    · simp only [↓decide_eq_true n5, ↓zJ, ↓qF, ↓xK, ↓xA, ↓uD]
      exact fin x3 _ false (by rw [hp, decide_eq_false (show ¬ 1 ≤ i.args.length by omega)]; simp) rfl
    simp only [↓decide_eq_false n5, ↓zJ, ↓rI, ↓yZ, ↓xG, ↓sH, ↓zC, ↓f6, ↓fl, ↓zH, ↓cg]
    by_cases n6 : (2 : Int) < ((i.args.length : Nat) : Int)
    · simp only [↓decide_eq_true n6, ↓zJ, ↓uD]
      exact fin x3 _ false (by rw [hp, decide_eq_false (show ¬ i.args.length ≤ 2 by omega)]; simp) rfl
    simp only [↓decide_eq_false n6, ↓zJ, ↓uL]
    exact hkk' _ _ ⟨rfl, rfl, by rw [hp, n3, n4, decide_eq_true (show 1 ≤ i.args.length by omega), decide_eq_true (show i.args.length ≤ 2 by omega)]; simp⟩
  · have k3 : ¬ i.kind = 3 := of_decide_eq_false hc
    rw [if_neg k3] at hp
    try simp only [↓ib, ↓yP]
    by_cases k6 : i.kind = 6
    · rw [if_pos k6] at hp
      simp only [↓decide_eq_true k6, ↓uD, ↓qK, ↓zC, ↓f5]
      refine yN (rW i.name h3 (n2 + 1)) ?_
      try simp only [↓xR, ↓zC, ↓zJ]
      cases n3 : named i.name with
      | false =>
        simp only [↓Bool.not_false, ↓uD]
        exact fin x3 _ false (by rw [hp, n3]; simp) rfl
      | true =>
      rw [n3] at hp
      simp only [↓Bool.not_true, ↓uL]
      have ib1 : wJ i.d (-1) = decide (i.d = -1) := wX _ _
      have go : ∀ d' : Int, (d' = i.d ∨ (d' = -1 ∧ wU i.d = false ∧ i.d ≠ -1) ∨ i.d = -1) → ∀ (T : Bool → Value → Value → Value → Value → Bool → Fr), (∀ a b c d e f, zA (T a b c d e f) 2 = .bool f) → True := fun _ _ _ _ => trivial
      by_cases m1 : i.d = 9223372036854775807
      · have ew : IntKind.i64.wrap (i.d + 1) = -9223372036854775808 := by rw [m1]; decide
        rw [fi_eq, iadd_eq, uO, ew]
        simp only [↓max_two, ↓zC, ↓zH]
        refine fi_sub (by omega) ?_
        simp only [↓fa50_1, ↓zC, ↓f1, ↓zH, ↓ib1, ↓yP]
        have m2 : ¬ i.d = -1 := by omega
        simp only [↓decide_eq_false m2, ↓rI, ↓yZ, ↓xG]
        refine uJ on40 (v := I64 _) rfl fun h4 c4 x4 => ?_
        refine yN (sS [max 0 (-9223372036854775808) - 1] _ h4 _ c4 (by simp)) ?_
        simp only [↓zJ]
        refine fin (x3.trans x4) _ _ ?_ rfl
        rw [hp, m1]
        decide
      · refine sF (by omega) ?_
        simp only [↓max_two, ↓zC, ↓zH]
        refine fi_sub (by omega) ?_
        simp only [↓fa50_1, ↓zC, ↓f1, ↓zH, ↓ib1, ↓yP]
        by_cases m2 : i.d = -1
        · simp only [↓decide_eq_true m2, ↓qF, ↓xK, ↓xA, ↓zJ]
          exact fin x3 _ true (by rw [hp, decide_eq_true m2]; rfl) rfl
        · simp only [↓decide_eq_false m2, ↓rI, ↓yZ, ↓xG]
          refine uJ on40 (v := I64 _) rfl fun h4 c4 x4 => ?_
          refine yN (sS [max 0 (i.d + 1) - 1] _ h4 _ c4 (by simp)) ?_
          simp only [↓zJ]
          refine fin (x3.trans x4) _ _ ?_ rfl
          rw [hp, decide_eq_false m2]
          simp only [List.all_cons, List.all_nil, Bool.and_true, Bool.true_and, Bool.false_or]
          unfold wU
          by_cases m3 : 0 ≤ i.d
          · have : max 0 (i.d + 1) - 1 = i.d := by omega
            rw [this]
          · rw [decide_eq_false (by omega), decide_eq_false (by omega)]
    · rw [if_neg k6] at hp
      simp only [↓decide_eq_false k6, ↓uL]
      exact hkk _ _ ⟨rfl, rfl, hp⟩
theorem vG (ns : List Tx) (cv sv : Value) (h : zD) (n : Nat) (u : Option zL) (ka : KX) (hr : Row n h sv 9 1 ns.length (ns.map str)) (hlen : ns.length < 1000000) : ∀ (m i : Nat), m + i = ns.length → ∀ acc t, zA t 1 = cv → zA t 3 = .bool acc → zA t 42 = sv → zA t 43 = I64 (ns.length : Nat) → zA t 44 = I64 (i : Nat) →
 (∀ t', zA t' 1 = cv → zA t' 3 = .bool (acc && (ns.drop i).all named) → ka (.exit 0) t' ⟨[], u, h, n⟩ = true) →
 lpS P 8 1000003 ⟨20, none, false⟩ t ⟨[], u, h, n⟩ ka = true := by
 intro m
 induction m with
 | zero =>
  intro i hi acc t t1 t3 t42 t43 t44 hE
  refine xW zP mixed (hint := hint20) l20 lp20_1000003 ?_
  rw [B20_1000003_eq]
  unfold B20_1000003
  rw [t1, t3, t42, t43, t44]
  have e3 : vD (i : Nat) (ns.length : Nat) = false := by rw [yC]; exact decide_eq_false (by omega)
  simp only [↓zG, ↓zJ, ↓zH]
  refine zW ?_
  simp only [↓e3, ↓yP, ↓uL]
  refine hE _ rfl ?_
  rw [List.drop_eq_nil_of_le (by omega), List.all_nil, Bool.and_true]
  rfl
 | succ m ih =>
  intro i hi acc t t1 t3 t42 t43 t44 hE
  have hlt : i < ns.length := by omega
  have hd : ns.drop i = ns[i] :: ns.drop (i + 1) := List.drop_eq_getElem_cons hlt
  obtain ⟨q, q1, q2⟩ := xX (P := P) (k := .i64) hr ix23 (tl := 9) sh9 (i := i) (x := str ns[i]) (by rw [List.getElem?_map, List.getElem?_eq_getElem hlt]; rfl)
  generalize ns[i] = y at hd q2
  have ea : (acc && (y :: ns.drop (i + 1)).all named) = ((acc && named y) && (ns.drop (i + 1)).all named) := by rw [List.all_cons, Bool.and_assoc]
  rw [hd, ea] at hE
  refine xW zP mixed (hint := hint20) l20 lp20_1000003 ?_
  rw [B20_1000003_eq]
  unfold B20_1000003
  rw [t1, t3, t42, t43, t44]
  have e3 : vD (i : Nat) (ns.length : Nat) = true := by rw [yC]; exact decide_eq_true (by omega)
  simp only [↓zG, ↓zJ, ↓zH]
  refine zW ?_
  simp only [↓e3, ↓yP, ↓uD]
  refine tA (fun t w => zA t 1 = cv ∧ zA t 3 = .bool (acc && named y) ∧ zA t 42 = sv ∧ zA t 43 = I64 (ns.length : Nat) ∧ zA t 44 = I64 (i : Nat) ∧ w = ⟨[], u, h, n⟩) (fun t w q => ?_) (fun kk hkk => ?_)
  · obtain ⟨p1, p3, p42, p43, p44, rfl⟩ := q
    simp only [p1, p3, p42, p43, p44, ↓zG, ↓zJ, ↓zH]
    refine zW ?_
    refine sF (by omega) ?_
    exact ih (i + 1) (by omega) _ _ rfl rfl rfl rfl rfl hE
  · simp only [↓q1, ↓q2, ↓zC]
    cases acc with
    | false =>
     simp only [↓xK, ↓xG, ↓zJ]
     exact hkk _ _ ⟨rfl, rfl, rfl, rfl, rfl, rfl⟩
    | true =>
     simp only [↓yZ]
     refine yN (rW y h n) ?_
     simp only [↓xA, ↓zJ]
     exact hkk _ _ ⟨rfl, rfl, rfl, rfl, rfl, rfl⟩
def InsFit (i : Ins) : Prop := (-9223372036854775808 ≤ i.d ∧ i.d ≤ 9223372036854775807) ∧ i.args.length < 100000
theorem pP {l : List Ins} : ∀ {av : List Value} (h : av.length = l.length) {j : Nat} {i : Ins} {a : Value} (hi : l[j]? = some i) (ha : av[j]? = some a), ((uS l av).drop (j * 9)).take 9 = uM i a := by
 induction l with
 | nil => intro av h j i a hi; simp at hi
 | cons x r ih =>
  intro av h j i a hi ha
  cases av with
  | nil => simp at h
  | cons y s =>
   have e : uS (x :: r) (y :: s) = uM x y ++ uS r s := by unfold uS; rw [List.zip_cons_cons, List.flatMap_cons]
   have el : (uM x y).length = 9 := rfl
   rw [e]
   cases j with
   | zero =>
    simp only [List.getElem?_cons_zero, Option.some.injEq] at hi ha
    subst hi; subst ha
    rw [Nat.zero_mul, List.drop_zero, ← el, List.take_left]
   | succ j =>
    simp only [List.getElem?_cons_succ] at hi ha
    have : (j + 1) * 9 = (uM x y).length + j * 9 := by rw [el]; omega
    rw [this, List.drop_append, List.drop_eq_nil_of_le (by omega), List.nil_append, Nat.add_sub_cancel_left]
    exact ih (by simpa using h) hi ha
theorem plainBlk_loop (l : List Ins) (bv v : Value) (bl bi : Int) (hfit : ∀ i ∈ l, InsFit i) (hlen : l.length < 1000000) (u : Option zL) (ka : KX) : ∀ (m i : Nat), m + i = l.length → ∀ acc t (h : zD) (n : Nat), BlkRO [] n h v l → zA t 3 = .bool acc → zA t 55 = bv → zA t 56 = I64 bl → zA t 57 = I64 bi → zA t 67 = v → zA t 68 = I64 (l.length : Nat) → zA t 69 = I64 (i : Nat) →
 (∀ t' h' n', Ext h n h' n' → zA t' 3 = .bool (acc && (l.drop i).all wI) → zA t' 55 = bv → zA t' 56 = I64 bl → zA t' 57 = I64 bi → ka (.exit 4) t' ⟨[], u, h', n'⟩ = true) →
 ((acc && (l.drop i).all wI) = false → ∀ t' h' n', Ext h n h' n' → zA t' 2 = .bool false → ka .ret t' ⟨[], u, h', n'⟩ = true) →
 lpS P 8 1000012 ⟨20, none, false⟩ t ⟨[], u, h, n⟩ ka = true := by
 intro m
 induction m with
 | zero =>
  intro i hi acc t h n hb t3 t55 t56 t57 t67 t68 t69 hE hR
  refine xW zP mixed (hint := hint20) l20 lp20_1000012 ?_
  rw [B20_1000012_eq]
  unfold B20_1000012
  rw [t3, t55, t56, t57, t67, t68, t69]
  have e3 : vD (i : Nat) (l.length : Nat) = false := by rw [yC]; exact decide_eq_false (by omega)
  simp only [↓zG, ↓zJ, ↓zH]
  refine zW ?_
  simp only [↓e3, ↓yP, ↓uL]
  refine hE _ h n (Ext.refl _ _) ?_ rfl rfl rfl
  rw [List.drop_eq_nil_of_le (by omega), List.all_nil, Bool.and_true]
  rfl
 | succ m ih =>
  intro i hi acc t h n hb t3 t55 t56 t57 t67 t68 t69 hE hR
  have hlt : i < l.length := by omega
  have hd : l.drop i = l[i] :: l.drop (i + 1) := List.drop_eq_getElem_cons hlt
  obtain ⟨av, ⟨ha1, ha2⟩, hr⟩ := id hb
  have hlt2 : i < av.length := by omega
  have hg : l[i]? = some l[i] := List.getElem?_eq_getElem hlt
  have hga : av[i]? = some av[i] := List.getElem?_eq_getElem hlt2
  have hfl := pP ha1 hg hga
  have hra := (ha2 i _ _ hg hga).1
  obtain ⟨q, q1, q2⟩ := tE (P := P) (k := .i64) hr.1 ix51 (tl := 50) sh50 (by decide) hlt
  rw [hfl] at q2
  have hfi := hfit _ (List.getElem_mem hlt)
  generalize l[i] = y at hd q2 hra hfi
  generalize av[i] = sv at q2 hra
  have ea : (acc && (y :: l.drop (i + 1)).all wI) = ((acc && wI y) && (l.drop (i + 1)).all wI) := by rw [List.all_cons, Bool.and_assoc]
  rw [hd, ea] at hE hR
  refine xW zP mixed (hint := hint20) l20 lp20_1000012 ?_
  rw [B20_1000012_eq]
  unfold B20_1000012
  rw [t3, t55, t56, t57, t67, t68, t69]
  have e3 : vD (i : Nat) (l.length : Nat) = true := by rw [yC]; exact decide_eq_true (by omega)
  simp only [↓zG, ↓zJ, ↓zH]
  refine zW ?_
  simp only [↓e3, ↓yP, ↓uD]
  refine tA (fun t w => zA t 3 = .bool true ∧ (acc && wI y) = true ∧ zA t 55 = bv ∧ zA t 56 = I64 bl ∧ zA t 57 = I64 bi ∧ zA t 67 = v ∧ zA t 68 = I64 (l.length : Nat) ∧ zA t 69 = I64 (i : Nat) ∧ ∃ h' n', w = ⟨[], u, h', n'⟩ ∧ Ext h n h' n') (fun t w q => ?_) (fun kk hkk => ?_)
  · obtain ⟨p3, pp, p55, p56, p57, p67, p68, p69, h', n', rfl, x⟩ := q
    rw [pp] at hE hR
    simp only [p3, p55, p56, p57, p67, p68, p69, ↓zG, ↓zJ, ↓zH]
    refine zW ?_
    refine sF (by omega) ?_
    exact ih (i + 1) (by omega) true _ h' n' (hb.ext x) rfl rfl rfl rfl rfl rfl rfl (fun t' h2 n2 x2 => hE t' h2 n2 (x.trans x2)) (fun hf t' h2 n2 x2 => hR hf t' h2 n2 (x.trans x2))
  · simp only [↓q1, ↓q2, ↓zC]
    refine wS ze50 fun h1 c1 x1 => ?_
    refine xU c1 sh50 rfl rfl (rT hra.one) fun h2 c2 k2 => ?_
    have x2 : Ext h n h2 (n + 1) := ⟨by omega, fun b hb => (k2 b (by omega)).trans (x1.2 b hb)⟩
    cases acc with
    | false =>
     simp only [↓xK, ↓xG, ↓zJ, ↓xR, ↓Bool.not_false, ↓zC, ↓uD]
     exact hR rfl _ h2 _ x2 rfl
    | true =>
     have fA : zF P 50 h2 (.pointer (some ⟨n, 0, none⟩)) = some (.agg ⟨uM y sv⟩) := xJ c2 sh50 rfl (by decide)
     simp only [↓yZ, ↓fA, ↓zC]
     refine yN (plainIns_pure y sv h2 (n + 1) (hra.ext x2) hfi.1 hfi.2) ?_
     cases hp : wI y with
     | false =>
      rw [hp] at hR
      simp only [↓xA, ↓zJ, ↓xR, ↓Bool.not_false, ↓zC, ↓uD]
      exact hR rfl _ h2 _ x2 rfl
     | true =>
      simp only [↓xA, ↓zJ, ↓xR, ↓Bool.not_true, ↓zC, ↓uL]
      exact hkk _ _ ⟨rfl, by rw [hp]; rfl, rfl, rfl, rfl, rfl, rfl, rfl, h2, _, rfl, x2⟩
def plainB (b : List Ins) : Bool := decide (b.length ≤ 400) && b.all wI
def BlksRow (n : Nat) (h : zD) (bv : Value) (bs : List (List Ins)) (svs : List Value) : Prop :=
 Row n h bv 51 1 bs.length svs ∧ svs.length = bs.length ∧ ∀ (k : Nat) (l : List Ins) (v : Value), bs[k]? = some l → svs[k]? = some v → BlkRO [] n h v l
theorem BlksRow.ext {n n' : Nat} {h h' : zD} {bv : Value} {bs : List (List Ins)} {svs : List Value} (r : BlksRow n h bv bs svs) (x : Ext h n h' n') : BlksRow n' h' bv bs svs :=
 ⟨r.1.ext x, r.2.1, fun k l v h1 h2 => (r.2.2 k l v h1 h2).ext x⟩
theorem vX (bs : List (List Ins)) (bv : Value) (svs : List Value) (hfit : ∀ b ∈ bs, b.length < 1000000 ∧ ∀ i ∈ b, InsFit i) (hlen : bs.length < 1000000) (u : Option zL) (ka : KX) : ∀ (m i : Nat), m + i = bs.length → ∀ acc t (h : zD) (n : Nat), BlksRow n h bv bs svs → zA t 3 = .bool acc → zA t 55 = bv → zA t 56 = I64 (bs.length : Nat) → zA t 57 = I64 (i : Nat) →
 (∀ t' h' n', Ext h n h' n' → zA t' 3 = .bool (acc && (bs.drop i).all plainB) → ka (.exit 2) t' ⟨[], u, h', n'⟩ = true) →
 ((acc && (bs.drop i).all plainB) = false → ∀ t' h' n', Ext h n h' n' → zA t' 2 = .bool false → ka .ret t' ⟨[], u, h', n'⟩ = true) →
 lpS P 8 1000008 ⟨20, none, false⟩ t ⟨[], u, h, n⟩ ka = true := by
 intro m
 induction m with
 | zero =>
  intro i hi acc t h n hb t3 t55 t56 t57 hE hR
  refine xW zP mixed (hint := hint20) l20 lp20_1000008 ?_
  rw [B20_1000008_eq]
  unfold B20_1000008
  rw [t3, t55, t56, t57]
  have e3 : vD (i : Nat) (bs.length : Nat) = false := by rw [yC]; exact decide_eq_false (by omega)
  simp only [↓zG, ↓zJ, ↓zH]
  refine zW ?_
  simp only [↓e3, ↓yP, ↓uL]
  refine hE _ h n (Ext.refl _ _) ?_
  rw [List.drop_eq_nil_of_le (by omega), List.all_nil, Bool.and_true]
  rfl
 | succ m ih =>
  intro i hi acc t h n hb t3 t55 t56 t57 hE hR
  have hlt : i < bs.length := by omega
  have hd : bs.drop i = bs[i] :: bs.drop (i + 1) := List.drop_eq_getElem_cons hlt
  have hsl := hb.2.1
  have hlt2 : i < svs.length := by omega
  have hg : bs[i]? = some bs[i] := List.getElem?_eq_getElem hlt
  have hgs : svs[i]? = some svs[i] := List.getElem?_eq_getElem hlt2
  have hk := hb.2.2 i _ _ hg hgs
  have hfi := hfit _ (List.getElem_mem hlt)
  obtain ⟨q, q1, q2⟩ := xX (P := P) (k := .i64) hb.1 ix41 (tl := 51) sh51 hgs
  generalize bs[i] = y at hd hk hfi
  generalize svs[i] = v at q2 hk hgs
  have ea : (acc && (y :: bs.drop (i + 1)).all plainB) = ((acc && plainB y) && (bs.drop (i + 1)).all plainB) := by rw [List.all_cons, Bool.and_assoc]
  rw [hd, ea] at hE hR
  obtain ⟨av, _, hr⟩ := id hk
  have fl := xL (P := P) us51 hr.1 [] h
  refine xW zP mixed (hint := hint20) l20 lp20_1000008 ?_
  rw [B20_1000008_eq]
  unfold B20_1000008
  rw [t3, t55, t56, t57]
  have e3 : vD (i : Nat) (bs.length : Nat) = true := by rw [yC]; exact decide_eq_true (by omega)
  have cle : ∀ (a b : Int) K, yB rM P .leq 3 true (.int .i64 a) (.int .i64 b) K = K (decide (a ≤ b)) := fun a b K => by rw [cmpI, vA]
  simp only [↓zG, ↓zJ, ↓zH]
  refine zW ?_
  simp only [↓e3, ↓yP, ↓uD]
  refine tA (fun t w => ∃ h' n', w = ⟨[], u, h', n'⟩ ∧ Ext h n h' n' ∧ zA t 3 = .bool (acc && plainB y) ∧ zA t 55 = bv ∧ zA t 56 = I64 (bs.length : Nat) ∧ zA t 57 = I64 (i : Nat)) (fun t w q => ?_) (fun kk hkk => ?_)
  · obtain ⟨h', n', rfl, x, p3, p55, p56, p57⟩ := q
    simp only [p3, p55, p56, p57, ↓zG, ↓zJ, ↓zH]
    refine zW ?_
    refine sF (by omega) ?_
    exact ih (i + 1) (by omega) _ _ h' n' (hb.ext x) rfl rfl rfl rfl (fun t' h2 n2 x2 => hE t' h2 n2 (x.trans x2)) (fun hf t' h2 n2 x2 => hR hf t' h2 n2 (x.trans x2))
  · simp only [↓q1, ↓q2, ↓zC]
    have tail : ∀ (T : Fr) (K : KX), zA T 3 = .bool (acc && decide (y.length ≤ 400)) → zA T 55 = bv → zA T 56 = I64 (bs.length : Nat) → zA T 57 = I64 (i : Nat) → zA T 67 = v → zA T 68 = I64 (y.length : Nat) → zA T 69 = I64 0 →
     (∀ t' h' n', Ext h n h' n' → zA t' 3 = .bool (acc && plainB y) → zA t' 55 = bv → zA t' 56 = I64 (bs.length : Nat) → zA t' 57 = I64 (i : Nat) → K (.exit 4) t' ⟨[], u, h', n'⟩ = true) →
     ((acc && plainB y) = false → ∀ t' h' n', Ext h n h' n' → zA t' 2 = .bool false → K .ret t' ⟨[], u, h', n'⟩ = true) →
     lpS P 8 1000012 ⟨20, none, false⟩ T ⟨[], u, h, n⟩ K = true := fun T K p3 p55 p56 p57 p67 p68 p69 gE gR => by
     have e2 : (acc && plainB y) = ((acc && decide (y.length ≤ 400)) && y.all wI) := by unfold plainB; rw [Bool.and_assoc]
     rw [e2] at gE gR
     exact plainBlk_loop y bv v _ _ hfi.2 hfi.1 u K y.length 0 (Nat.add_zero _) _ T h n hk p3 p55 p56 p57 p67 p68 p69 gE gR
    cases acc with
    | false =>
     simp only [↓xK, ↓xG, ↓zJ, ↓fl, ↓zC, ↓zH]
     refine tail _ _ rfl rfl rfl rfl rfl rfl rfl (fun t' h' n' x p3 p55 p56 p57 => ?_) (fun hf t' h' n' x p2 => ?_)
     · simp only [↓zQ, ↓zR]
       simp only [p3, p55, p56, p57, ↓zG, ↓zJ, ↓zH]
       refine zW ?_
       exact hkk _ _ ⟨h', n', rfl, x, rfl, rfl, rfl, rfl⟩
     · exact hR (by rw [hf]; rfl) t' h' n' x p2
    | true =>
     simp only [↓yZ, ↓fl, ↓zC, ↓zH, ↓cle, ↓xA, ↓zJ]
     refine tail _ _ ?_ rfl rfl rfl rfl rfl rfl (fun t' h' n' x p3 p55 p56 p57 => ?_) (fun hf t' h' n' x p2 => ?_)
     · show Value.bool _ = _
       rw [Bool.true_and]
       exact congrArg Value.bool (by congr 1; exact propext (by omega))
     · simp only [↓zQ, ↓zR]
       simp only [p3, p55, p56, p57, ↓zG, ↓zJ, ↓zH]
       refine zW ?_
       exact hkk _ _ ⟨h', n', rfl, x, rfl, rfl, rfl, rfl⟩
     · exact hR (by rw [hf]; rfl) t' h' n' x p2
def FctFit (f : Fct) : Prop := f.vregs.length < 1000000 ∧ f.params.length < 100000 ∧ f.blocks.length < 1000000 ∧ ∀ b ∈ f.blocks, b.length < 1000000 ∧ ∀ i ∈ b, InsFit i
theorem plainF_eq (f : Fct) : qQ f = (named f.name && named f.result && decide (f.vregs.length ≤ 500) && decide (f.params.length ≤ 16) && decide (f.blocks.length ≤ 200) && f.params.all wU && f.vregs.all named && f.blocks.all plainB) := rfl
theorem plain_pure (f : Fct) (fv : Value) (h : zD) (n : Nat) (hf : FunAt n h fv f) (hfit : FctFit f) : Pure P 8 20 [fv] h n (.bool (qQ f)) := by
 obtain ⟨vv, pv, bv, svs, rfl, r1, r2, r3, r4, r5⟩ := hf
 obtain ⟨z1, z2, z3, z4⟩ := hfit
 refine Rets.pureE (yM zP mixed (hint := hint20) l20 fun u k hk => ?_) (.inl rfl)
 rw [F20_eq]
 unfold F20
 refine tL (fun x hx => ?_) fun h1 c1 x1 => ?_
 · have hx : x ∈ [str f.name, vv, pv, str f.result, bv] := hx
   simp only [List.mem_cons, List.not_mem_nil, or_false] at hx
   rcases hx with rfl | rfl | rfl | rfl | rfl
   · rfl
   · exact r1.1.one
   · exact r2.1.one
   · rfl
   · exact r3.1.one
 have c1' : Cel h1 n 0 [str f.name, vv, pv, str f.result, bv] := c1
 have R1 := r1.1.ext x1
 have R2 := r2.1.ext x1
 have R3 : BlksRow (n + 1) h1 bv f.blocks svs := ⟨r3.1.ext x1, r4, fun k l v a b => (r5 k l v a b).ext x1⟩
 have f0 : zF P 9 h1 (ptr n 0) = some (str f.name) := zI c1' sh9 rfl
 have f3 : zF P 9 h1 (.pointer (some ⟨n, 3, none⟩)) = some (str f.result) := zI c1' sh9 rfl
 have f1 : zF P 23 h1 (.pointer (some ⟨n, 1, none⟩)) = some vv := zI c1' sh23 rfl
 have f2 : zF P 40 h1 (.pointer (some ⟨n, 2, none⟩)) = some pv := zI c1' sh40 rfl
 have f4 : zF P 41 h1 (.pointer (some ⟨n, 4, none⟩)) = some bv := zI c1' sh41 rfl
 have l1 := xL (P := P) us23 R1 [] h1
 have l2 := xL (P := P) us40 R2 [] h1
 have l4 := xL (P := P) us41 R3.1 [] h1
 have cle : ∀ (a b : Int) K, yB rM P .leq 3 true (.int .i64 a) (.int .i64 b) K = K (decide (a ≤ b)) := fun a b K => by rw [cmpI, vA]
 have d3 : decide (((f.vregs.length : Nat) : Int) ≤ 500) = decide (f.vregs.length ≤ 500) := decide_eq_decide.2 (by omega)
 have d4 : decide (((f.params.length : Nat) : Int) ≤ 16) = decide (f.params.length ≤ 16) := decide_eq_decide.2 (by omega)
 have d5 : decide (((f.blocks.length : Nat) : Int) ≤ 200) = decide (f.blocks.length ≤ 200) := decide_eq_decide.2 (by omega)
 have hpl := plainF_eq f
 simp only [↓fa43_0, ↓zC, ↓f0]
 refine yN (rW f.name h1 (n + 1)) ?_
 cases g1 : named f.name with
 | false =>
  rw [g1] at hpl
  simp only [↓xK, ↓xG, ↓zJ, ↓qI, ↓zC, ↓f1, ↓l1, ↓zH]
  refine vG f.vregs (ptr n 0) vv h1 (n + 1) u _ R1 z1 _ 0 (Nat.add_zero _) false _ rfl rfl rfl rfl rfl ?_
  intro t' p1 p3
  simp only [↓zQ, ↓zR, p1, p3, ↓zG, ↓zJ]
  refine zW ?_
  simp only [↓qJ, ↓zC, ↓f4, ↓l4, ↓zH]
  refine vX f.blocks bv svs z4 z3 u _ _ 0 (Nat.add_zero _) _ _ h1 (n + 1) R3 rfl rfl rfl rfl (fun t2 h2 n2 x2 q3 => ?_) (fun hf t2 h2 n2 x2 q2 => ?_)
  · simp only [↓zQ, ↓zR, q3, ↓zJ]
    refine zW ?_
    refine yF r20 rfl (hk _ _ _ ⟨congrArg Value.bool ?_, x1.trans x2⟩)
    rw [hpl]
    simp [*, List.drop_zero]
  · simp only [↓yH, ↓yI]
    refine yF r20 q2 (hk _ _ _ ⟨congrArg Value.bool ?_, x1.trans x2⟩)
    rw [hpl]
    simp [*]
 | true =>
 rw [g1] at hpl
 simp only [↓yZ, ↓fa43_3, ↓zC, ↓f3]
 refine yN (rW f.result h1 (n + 1)) ?_
 simp only [↓xA, ↓zJ]
 cases g2 : named f.result with
 | false =>
  rw [g2] at hpl
  simp only [↓xK, ↓xG, ↓zJ, ↓qI, ↓zC, ↓f1, ↓l1, ↓zH]
  refine vG f.vregs (ptr n 0) vv h1 (n + 1) u _ R1 z1 _ 0 (Nat.add_zero _) false _ rfl rfl rfl rfl rfl ?_
  intro t' p1 p3
  simp only [↓zQ, ↓zR, p1, p3, ↓zG, ↓zJ]
  refine zW ?_
  simp only [↓qJ, ↓zC, ↓f4, ↓l4, ↓zH]
  refine vX f.blocks bv svs z4 z3 u _ _ 0 (Nat.add_zero _) _ _ h1 (n + 1) R3 rfl rfl rfl rfl (fun t2 h2 n2 x2 q3 => ?_) (fun hf t2 h2 n2 x2 q2 => ?_)
  · simp only [↓zQ, ↓zR, q3, ↓zJ]
    refine zW ?_
    refine yF r20 rfl (hk _ _ _ ⟨congrArg Value.bool ?_, x1.trans x2⟩)
    rw [hpl]
    simp [*, List.drop_zero]
  · simp only [↓yH, ↓yI]
    refine yF r20 q2 (hk _ _ _ ⟨congrArg Value.bool ?_, x1.trans x2⟩)
    rw [hpl]
    simp [*]
 | true =>
 rw [g2] at hpl
 simp only [↓yZ, ↓qI, ↓zC, ↓f1, ↓l1, ↓zH, ↓cle, ↓d3, ↓xA, ↓zJ]
 cases g3 : decide (f.vregs.length ≤ 500) with
 | false =>
  rw [g3] at hpl
  simp only [↓xK, ↓xG, ↓zJ, ↓qI, ↓zC, ↓f1, ↓l1, ↓zH]
  refine vG f.vregs (ptr n 0) vv h1 (n + 1) u _ R1 z1 _ 0 (Nat.add_zero _) false _ rfl rfl rfl rfl rfl ?_
  intro t' p1 p3
  simp only [↓zQ, ↓zR, p1, p3, ↓zG, ↓zJ]
  refine zW ?_
  simp only [↓qJ, ↓zC, ↓f4, ↓l4, ↓zH]
  refine vX f.blocks bv svs z4 z3 u _ _ 0 (Nat.add_zero _) _ _ h1 (n + 1) R3 rfl rfl rfl rfl (fun t2 h2 n2 x2 q3 => ?_) (fun hf t2 h2 n2 x2 q2 => ?_)
  · simp only [↓zQ, ↓zR, q3, ↓zJ]
    refine zW ?_
    refine yF r20 rfl (hk _ _ _ ⟨congrArg Value.bool ?_, x1.trans x2⟩)
    rw [hpl]
    simp [*, List.drop_zero]
  · simp only [↓yH, ↓yI]
    refine yF r20 q2 (hk _ _ _ ⟨congrArg Value.bool ?_, x1.trans x2⟩)
    rw [hpl]
    simp [*]
 | true =>
 rw [g3] at hpl
 simp only [↓yZ, ↓fa43_2, ↓zC, ↓f2, ↓l2, ↓zH, ↓cle, ↓d4, ↓xA, ↓zJ]
 cases g4 : decide (f.params.length ≤ 16) with
 | false =>
  rw [g4] at hpl
  simp only [↓xK, ↓xG, ↓zJ, ↓qI, ↓zC, ↓f1, ↓l1, ↓zH]
  refine vG f.vregs (ptr n 0) vv h1 (n + 1) u _ R1 z1 _ 0 (Nat.add_zero _) false _ rfl rfl rfl rfl rfl ?_
  intro t' p1 p3
  simp only [↓zQ, ↓zR, p1, p3, ↓zG, ↓zJ]
  refine zW ?_
  simp only [↓qJ, ↓zC, ↓f4, ↓l4, ↓zH]
  refine vX f.blocks bv svs z4 z3 u _ _ 0 (Nat.add_zero _) _ _ h1 (n + 1) R3 rfl rfl rfl rfl (fun t2 h2 n2 x2 q3 => ?_) (fun hf t2 h2 n2 x2 q2 => ?_)
  · simp only [↓zQ, ↓zR, q3, ↓zJ]
    refine zW ?_
    refine yF r20 rfl (hk _ _ _ ⟨congrArg Value.bool ?_, x1.trans x2⟩)
    rw [hpl]
    simp [*, List.drop_zero]
  · simp only [↓yH, ↓yI]
    refine yF r20 q2 (hk _ _ _ ⟨congrArg Value.bool ?_, x1.trans x2⟩)
    rw [hpl]
    simp [*]
 | true =>
 rw [g4] at hpl
 simp only [↓yZ, ↓qJ, ↓zC, ↓f4, ↓l4, ↓zH, ↓cle, ↓d5, ↓xA, ↓zJ]
 cases g5 : decide (f.blocks.length ≤ 200) with
 | false =>
  rw [g5] at hpl
  simp only [↓xK, ↓xG, ↓zJ, ↓qI, ↓zC, ↓f1, ↓l1, ↓zH]
  refine vG f.vregs (ptr n 0) vv h1 (n + 1) u _ R1 z1 _ 0 (Nat.add_zero _) false _ rfl rfl rfl rfl rfl ?_
  intro t' p1 p3
  simp only [↓zQ, ↓zR, p1, p3, ↓zG, ↓zJ]
  refine zW ?_
  simp only [↓qJ, ↓zC, ↓f4, ↓l4, ↓zH]
  refine vX f.blocks bv svs z4 z3 u _ _ 0 (Nat.add_zero _) _ _ h1 (n + 1) R3 rfl rfl rfl rfl (fun t2 h2 n2 x2 q3 => ?_) (fun hf t2 h2 n2 x2 q2 => ?_)
  · simp only [↓zQ, ↓zR, q3, ↓zJ]
    refine zW ?_
    refine yF r20 rfl (hk _ _ _ ⟨congrArg Value.bool ?_, x1.trans x2⟩)
    rw [hpl]
    simp [*, List.drop_zero]
  · simp only [↓yH, ↓yI]
    refine yF r20 q2 (hk _ _ _ ⟨congrArg Value.bool ?_, x1.trans x2⟩)
    rw [hpl]
    simp [*]
 | true =>
 rw [g5] at hpl
 simp only [↓yZ, ↓fa43_2, ↓zC, ↓f2]
 refine yN (sS f.params pv h1 (n + 1) R2 z2) ?_
 simp only [↓xA, ↓zJ]
 cases g6 : f.params.all wU with
 | false =>
  rw [g6] at hpl
  simp only [↓xK, ↓xG, ↓zJ, ↓qI, ↓zC, ↓f1, ↓l1, ↓zH]
  refine vG f.vregs (ptr n 0) vv h1 (n + 1) u _ R1 z1 _ 0 (Nat.add_zero _) false _ rfl rfl rfl rfl rfl ?_
  intro t' p1 p3
  simp only [↓zQ, ↓zR, p1, p3, ↓zG, ↓zJ]
  refine zW ?_
  simp only [↓qJ, ↓zC, ↓f4, ↓l4, ↓zH]
  refine vX f.blocks bv svs z4 z3 u _ _ 0 (Nat.add_zero _) _ _ h1 (n + 1) R3 rfl rfl rfl rfl (fun t2 h2 n2 x2 q3 => ?_) (fun hf t2 h2 n2 x2 q2 => ?_)
  · simp only [↓zQ, ↓zR, q3, ↓zJ]
    refine zW ?_
    refine yF r20 rfl (hk _ _ _ ⟨congrArg Value.bool ?_, x1.trans x2⟩)
    rw [hpl]
    simp [*, List.drop_zero]
  · simp only [↓yH, ↓yI]
    refine yF r20 q2 (hk _ _ _ ⟨congrArg Value.bool ?_, x1.trans x2⟩)
    rw [hpl]
    simp [*]
 | true =>
 rw [g6] at hpl
 simp only [↓qI, ↓zC, ↓f1, ↓l1, ↓zH]
 refine vG f.vregs (ptr n 0) vv h1 (n + 1) u _ R1 z1 _ 0 (Nat.add_zero _) true _ rfl rfl rfl rfl rfl ?_
 intro t' p1 p3
 simp only [↓zQ, ↓zR, p1, p3, ↓zG, ↓zJ]
 refine zW ?_
 simp only [↓qJ, ↓zC, ↓f4, ↓l4, ↓zH]
 refine vX f.blocks bv svs z4 z3 u _ _ 0 (Nat.add_zero _) _ _ h1 (n + 1) R3 rfl rfl rfl rfl (fun t2 h2 n2 x2 q3 => ?_) (fun hf t2 h2 n2 x2 q2 => ?_)
 · simp only [↓zQ, ↓zR, q3, ↓zJ]
   refine zW ?_
   refine yF r20 rfl (hk _ _ _ ⟨congrArg Value.bool ?_, x1.trans x2⟩)
   rw [hpl]
   simp [*, List.drop_zero]
 · simp only [↓yH, ↓yI]
   refine yF r20 q2 (hk _ _ _ ⟨congrArg Value.bool ?_, x1.trans x2⟩)
   rw [hpl]
   simp [*] at hf ⊢; try exact hf
theorem vH {m : Int} {h : zD} {n : Nat} {x : Int} {Kp : KC} {K : Value → zD → Nat → Bool} (hE : Env m h) (hx : Go64 x) (hK : K (str (Lib.itoa x)) h n = true) :
 wZ (loS P 8) (.func (.func 81) #[] #[]) [.int .i64 x] h n Kp K = true :=
 show yX (loS P 8) 81 [.int .i64 x] h n Kp K = true from wW (itoa_pure n hE.tabs x hx.1 hx.2) hK
theorem sI {a b : Tx} {h : zD} {n : Nat} {K : KH}
 (hK : ∀ h', Row (n + 1) h' (.slice (some ⟨n, 0, none⟩) 2 2) 9 1 2 [str a, str b] → Ext h n h' (n + 1) → K h' (n + 1) (.slice (some ⟨n, 0, none⟩) 2 2) = true) :
 zN P 23 2 [(0, str a), (1, str b)] h n K = true := by
 have z : yW P 23 2 [(0, str a), (1, str b)] = some (vZ [str a, str b] 0) := rfl
 exact rB (e := 9) (sz := 1) z rfl (by unfold inf; omega) hK
theorem sU {sT xT e sz n len b off m : Nat} {h : zD} {x : Value} {vs new : List Value} {K : KH} (hT : apTB P sT xT e sz = true) (hv : Row n h (.slice (some ⟨b, off, none⟩) len len) e sz len vs) (hlt : len < inf) (hvs : ∀ y ∈ vs, y.oneCell' = true) (hm : 0 < m)
 (hr : Row n h x e sz m new) (hnew : new.length = m * sz) (h1 : ∀ y ∈ new, y.oneCell' = true) (hlim : len + m < 1000000) (hK : ∀ v' h', Own n (n + 1) h' v' e sz (len + m) (vs ++ new) → Ext h n h' (n + 1) → K h' (n + 1) v' = true) :
 wE P [sT, xT] [.slice (some ⟨b, off, none⟩) len len, x] h n K = true := by
 obtain ⟨xd, ei, z, t1, t2, t3, t4, t5, t6, t7, t8, t9⟩ := apTB_of hT
 have hap : uF P h e ei.size xd x = some (m, new) := by rw [t6]; exact appended_of t3 hr
 have hro := (row_of hv).1
 have hvl : vs.length = len * sz := by
  rcases hv with ⟨hv, _⟩ | ⟨_, _, _, _, _, _, _, _, hl, _⟩
  · cases hv
  · exact hl
 unfold wE xappend
 dsimp only
 rw [t1, t2]
 dsimp only
 rw [t4, t5]
 dsimp only
 rw [hap]
 dsimp only
 have c1 : (Nat.beq ei.size 0 || !Nat.beq (cellsOf z).length ei.size || !Nat.blt (Nat.add len m) 1000000 || !Nat.blt ei.bytes 100000) = false := by
  have a1 : Nat.beq ei.size 0 = false := by
   cases e9 : Nat.beq ei.size 0 with
   | false => rfl
   | true => have := zX e9; omega
  have a2 : Nat.beq (cellsOf z).length ei.size = true := by rw [t7, t6]; exact Nat.beq_refl _
  rw [a1, a2, rK (show Nat.add len m < 1000000 from hlim), rK t9]; rfl
 rw [c1]
 show cond (Nat.beq m 0 && !Nat.beq len 0 && (Nat.beq len inf || Nat.ble len len)) _ _ = true
 have hm0 : Nat.beq m 0 = false := by
  cases e9 : Nat.beq m 0 with
  | false => rfl
  | true => have := zX e9; omega
 rw [hm0]
 show cond (Nat.beq len inf) _ _ = true
 have hi0 : Nat.beq len inf = false := by
  cases e9 : Nat.beq len inf with
  | false => rfl
  | true => have := zX e9; omega
 rw [hi0]
 dsimp only [cond_false]
 unfold growEx
 have b1 : Nat.ble (Nat.add len m) len = false := by
  cases e9 : Nat.ble (Nat.add len m) len with
  | false => rfl
  | true =>
   have h9 : Nat.add len m ≤ len := uN e9
   have h10 : len + m ≤ len := h9
   omega
 rw [b1, t6, hro]
 show vW .leaf 0 (vs ++ new) _ = true
 refine tT (fun y hy => (List.mem_append.1 hy).elim (hvs y) (h1 y)) ?_
 rw [yQ]
 have hne : Nat.mul (Nat.add len m) sz = (vs ++ new).length := by
  rw [List.length_append, hvl, hnew]; exact Nat.add_mul len m sz
 rw [hne]
 refine hK _ _ (.inr ⟨n, Nat.le_refl n, Nat.lt_succ_self n, rfl, ?_, ?_, by omega, fun i => ?_⟩) ⟨Nat.le_succ n, fun b hb => ?_⟩
 · rw [zK, if_pos rfl]; rfl
 · rw [List.length_append, hvl, hnew, Nat.add_mul]
 · unfold xM
   rw [zK, if_pos rfl]
   exact uV (vs ++ new) (zc e sz) 1 i
 · rw [zK, if_neg (by omega)]
theorem lks4 {wa wb wc wd : W} {f : W → Bool} {ls : List Lk} (hc : f wc = true) (hd : f wd = true) (h : lks [wa, wb, wc, wd] ls = true) : lks [wa, wb, wc, wd] (⟨true, f, 0, 1⟩ :: ls) = true := by
 show gt (gt true (gt true (gt (gt (f wc) true) (gt (gt (f wd) true) true)))) (lks [wa, wb, wc, wd] ls) = true
 rw [hc, hd, h]; rfl
theorem lks42 {wa wb wc wd : W} {f : W → Bool} {ls : List Lk} (hb : f wb = true) (hc : f wc = true) (hd : f wd = true) (h : lks [wa, wb, wc, wd] ls = true) : lks [wa, wb, wc, wd] (⟨true, f, 0, 2⟩ :: ls) = true := by
 show gt (gt true (gt (gt (f wb) true) (gt (gt (f wc) true) (gt (gt (f wd) true) true)))) (lks [wa, wb, wc, wd] ls) = true
 rw [hb, hc, hd, h]; rfl
theorem lks31 {wb wc wd : W} {f : W → Bool} {ls : List Lk} (hc : f wc = true) (hd : f wd = true) (h : lks [wb, wc, wd] ls = true) : lks [wb, wc, wd] (⟨true, f, 0, 1⟩ :: ls) = true := by
 show gt (gt true (gt (gt (f wc) true) (gt (gt (f wd) true) true))) (lks [wb, wc, wd] ls) = true
 rw [hc, hd, h]; rfl
theorem lkp {b off n : Nat} (h : b < n) : blkLt n (.pointer (some ⟨b, off, none⟩)) = true := rK h
theorem lk_at {q : zD → Option Value} {b off n : Nat} {v : Value} {h : zD} {d : List Deferred} {u : Option zL} (hp : b < n) (hq : q h = some v) (hs : sameB v v = true) : lkQ q (.pointer (some ⟨b, off, none⟩)) v ⟨d, u, h, n⟩ = true :=
 lk_ok (lkp hp) hq hs
theorem same_row {n len : Nat} {h : zD} {v : Value} {e sz : Nat} {vs : List Value} (r : Row n h v e sz len vs) : sameB v v = true := by
 rcases r with ⟨rfl, _⟩ | ⟨b, off, cap, _, _, _, _, rfl, _⟩
 · rfl
 · exact same_slice _ _ _ _
theorem build_three {a b c : Tx} {h : zD} {n : Nat} {K : KH}
 (hK : ∀ h', Row (n + 1) h' (.slice (some ⟨n, 0, none⟩) 3 3) 9 1 3 [str a, str b, str c] → Ext h n h' (n + 1) → K h' (n + 1) (.slice (some ⟨n, 0, none⟩) 3 3) = true) :
 zN P 23 3 [(0, str a), (1, str b), (2, str c)] h n K = true := by
 have z : yW P 23 3 [(0, str a), (1, str b), (2, str c)] = some (vZ [str a, str b, str c] 0) := rfl
 exact rB (e := 9) (sz := 1) z rfl (by unfold inf; omega) hK
theorem build_four {a b c d : Tx} {h : zD} {n : Nat} {K : KH}
 (hK : ∀ h', Row (n + 1) h' (.slice (some ⟨n, 0, none⟩) 4 4) 9 1 4 [str a, str b, str c, str d] → Ext h n h' (n + 1) → K h' (n + 1) (.slice (some ⟨n, 0, none⟩) 4 4) = true) :
 zN P 23 4 [(0, str a), (1, str b), (2, str c), (3, str d)] h n K = true := by
 have z : yW P 23 4 [(0, str a), (1, str b), (2, str c), (3, str d)] = some (vZ [str a, str b, str c, str d] 0) := rfl
 exact rB (e := 9) (sz := 1) z rfl (by unfold inf; omega) hK
theorem show_rets {m : Int} {h : zD} {n : Nat} (hE : Env m h) (hn : 8 ≤ n) (i : Ins) (sv : Value) (hi : InsAll i) (hr : Row n h sv 3 1 i.args.length (i.args.map I64)) :
 Rets P 8 56 [.agg ⟨uM i sv⟩] h n fun v h' n' => Ext h n h' n' ∧ Row n' h' v 9 1 (rH i).length ((rH i).map str) := by
 obtain ⟨gd, ga, gb, gn, gt', gf, gargs, gl⟩ := hi
 refine yM zP mixed (hint := hint56) l56 fun u k hk => ?_
 rw [F56_eq]
 unfold F56
 refine tL (rT hr.one) fun h1 c1 x1 => ?_
 have hE1 : Env m h1 := hE.touch (x1.touch []) hn (by simp)
 have c1' : Cel h1 n 0 (uM i sv) := c1
 have f1 : zF P 3 h1 (.pointer (some ⟨n, 1, none⟩)) = some (I64 i.d) := zI c1' sh3 rfl
 simp only [↓fa50_1, ↓zC, ↓f1, ↓zH]
 refine vH hE1 gd ?_
 refine sI (a := Lib.itoa i.d) (b := tEq) fun h2 c2 x2' => ?_
 have x2 := x1.trans x2'
 have hE2 : Env m h2 := hE1.touch (x2'.touch []) (by omega) (by simp)
 have LD : ∀ {h' : zD} {n' : Nat}, Ext h2 (n + 1 + 1) h' n' → Cel h' n 0 (uM i sv) := fun x => (c1'.touch (x2'.touch []) (by omega) (by simp)).touch (x.touch []) (by omega) (by simp)
 have xr : Ext h2 (n + 1 + 1) h2 (n + 1 + 1) := Ext.refl _ _
 have q0 : zF P 3 h2 (ptr n 0) = some (I64 i.kind) := zI (LD xr) sh3 rfl
 have q1 : zF P 3 h2 (.pointer (some ⟨n, 1, none⟩)) = some (I64 i.d) := zI (LD xr) sh3 rfl
 have q2 : zF P 3 h2 (.pointer (some ⟨n, 2, none⟩)) = some (I64 i.a) := zI (LD xr) sh3 rfl
 have q3 : zF P 3 h2 (.pointer (some ⟨n, 3, none⟩)) = some (I64 i.b) := zI (LD xr) sh3 rfl
 have q4 : zF P 3 h2 (.pointer (some ⟨n, 4, none⟩)) = some (I64 i.n) := zI (LD xr) sh3 rfl
 have q5 : zF P 9 h2 (.pointer (some ⟨n, 5, none⟩)) = some (str i.name) := zI (LD xr) sh9 rfl
 have q6' : zF P 40 h2 (.pointer (some ⟨n, 6, none⟩)) = some sv := zI (LD xr) sh40 rfl
 have q7 : zF P 3 h2 (.pointer (some ⟨n, 7, none⟩)) = some (I64 i.t) := zI (LD xr) sh3 rfl
 have q8 : zF P 3 h2 (.pointer (some ⟨n, 8, none⟩)) = some (I64 i.f) := zI (LD xr) sh3 rfl
 have ib : ∀ c : Int, wJ i.kind c = decide (i.kind = c) := fun c => wX _ _
 have ibd : ∀ c : Int, wJ i.d c = decide (i.d = c) := fun c => wX _ _
 have s2 : ∀ a b : Tx, ∀ y ∈ [str a, str b], y.oneCell' = true := fun a b y hy => by
  simp only [List.mem_cons, List.not_mem_nil, or_false] at hy
  rcases hy with rfl | rfl <;> rfl
 have nn : n < n + 1 + 1 := by omega
 obtain ⟨S, sh⟩ : ∃ S, S = rH i := ⟨_, rfl⟩
 rw [← sh] at hk
 unfold rH at sh
 simp only [↓tG, ↓zC, ↓q0, ↓zH]
 have tail : ∀ {D : List Tx} {h4 : zD} {n4 : Nat} {v4 : Value} {fA : Value → zD → Nat → Bool} {Kp : KC}, S = D ++ i.args.map Lib.itoa → D.length ≤ 4 → Own (n + 1 + 1) n4 h4 v4 9 1 D.length (D.map str) → Ext h2 (n + 1 + 1) h4 n4 →
  (∀ v5 h5 n5, Ext h4 n4 h5 n5 → Own n4 n5 h5 v5 9 1 i.args.length (i.args.map fun x => str (Lib.itoa x)) → fA v5 h5 n5 = true) → yX (loS P 8) 55 [sv] h4 n4 Kp fA = true := by
  intro D h4 n4 v4 fA Kp hS hD o4 x4 hf
  have hE4 : Env m h4 := hE2.touch (x4.touch []) (by omega) (by simp)
  exact uH (texts_rets hE4 (by have := x4.1; omega) i.args gargs sv ((hr.ext x2).ext x4) gl) fun v5 h5 n5 ⟨x5, o5⟩ => hf v5 h5 n5 x5 o5
 have tail2 : ∀ {D : List Tx} {h4 h5 : zD} {n4 n5 : Nat} {v4 v5 : Value} {K : KH}, S = D ++ i.args.map Lib.itoa → D.length ≤ 4 → Own (n + 1 + 1) n4 h4 v4 9 1 D.length (D.map str) → Ext h2 (n + 1 + 1) h4 n4 → Ext h4 n4 h5 n5 →
  Own n4 n5 h5 v5 9 1 i.args.length (i.args.map fun x => str (Lib.itoa x)) → (∀ v6 h6 n6, Ext h n h6 n6 → Row n6 h6 v6 9 1 S.length (S.map str) → n5 ≤ n6 → K h6 n6 v6 = true) → wE P [23, 23] [v4, v5] h5 n5 K = true := by
  intro D h4 h5 n4 n5 v4 v5 K hS hD o4 x4 x5 o5 hK
  refine pG ap23 (o4.touch (x5.touch []) (fun _ _ h => by cases h)) (by have := x4.1; have := x5.1; omega) (o5.row (Nat.le_refl _)) (by simp) (fun y hy => ?_) (by omega) fun v6 h6 n6 o6 n6le k6 => ?_
  · obtain ⟨z, _, rfl⟩ := List.mem_map.1 hy
    rfl
  have x6 : Ext h n h6 n6 := ⟨by have := x2.1; have := x4.1; have := x5.1; omega, fun b hb => by
   have := x2.1; have := x4.1; have := x5.1
   rw [k6 b (by omega) (fun e => by have := (o4.ge b e).1; omega)]
   exact ((x2.trans x4).trans x5).2 b hb⟩
  refine hK v6 h6 n6 x6 ?_ n6le
  have e9 : S.map str = D.map str ++ i.args.map fun x => str (Lib.itoa x) := by rw [hS, List.map_append, List.map_map]; rfl
  have e8 : S.length = D.length + i.args.length := by rw [hS]; simp
  rw [e9, e8]
  exact o6.row (Nat.le_refl _)
 refine tA (fun t w => zA t 1 = ptr n 0 ∧ zA t 3 = .func (.func 81) #[] #[] ∧ w = ⟨[], u, h2, n + 1 + 1⟩ ∧ S = [tRet, Lib.itoa i.a]) (fun t w q => ?_) (fun kk hkk => ?_)
 · obtain ⟨p1, p3, rfl, p4⟩ := q
   simp only [p1, p3, ↓zG]
   refine zW ?_
   simp only [↓rD, ↓zC, ↓q2, ↓zH]
   refine vH hE2 ga ?_
   refine sI (a := tRet) (b := Lib.itoa i.a) fun h3 c3 x3 => ?_
   exact yF r56 rfl (hk _ _ _ ⟨x2.trans x3, by rw [p4]; exact c3⟩)
 try simp only [↓ib, ↓yP]
 refine vF (fun t w => zA t 1 = ptr n 0 ∧ zA t 3 = .func (.func 81) #[] #[] ∧ w = ⟨[], u, h2, n + 1 + 1⟩ ∧ S = [tRet, Lib.itoa i.a]) (fun t w q => ?_) (fun hc kk' hkk' => ?_) (fun hc kk hkk => ?_)
 · obtain ⟨p1, p3, rfl, p4⟩ := q
   simp only [p1, p3, ↓zG]
   refine zW ?_
   exact hkk _ _ ⟨rfl, rfl, rfl, p4⟩
 · rw [if_pos (of_decide_eq_true hc)] at sh
   simp only [↓fa50_4, ↓zC, ↓q4, ↓zH]
   refine vH hE2 gn ?_
   refine sI (a := pI) (b := Lib.itoa i.n) fun h3 c3 x3 => ?_
   refine sU ap23 (c2.ext x3) (by decide) (s2 _ _) (by omega) c3 rfl (s2 _ _) (by omega) fun v4 h4 o4 x4 => ?_
   exact yF r56 rfl (hk _ _ _ ⟨(x2.trans x3).trans x4, by rw [sh]; exact o4.row (Nat.le_refl _)⟩)
 rw [if_neg (of_decide_eq_false hc)] at sh
 try simp only [↓ib, ↓yP]
 refine vF (fun t w => zA t 1 = ptr n 0 ∧ zA t 3 = .func (.func 81) #[] #[] ∧ w = ⟨[], u, h2, n + 1 + 1⟩ ∧ S = [tRet, Lib.itoa i.a]) (fun t w q => ?_) (fun hc kk' hkk' => ?_) (fun hc kk hkk => ?_)
 · obtain ⟨p1, p3, rfl, p4⟩ := q
   simp only [p1, p3, ↓zG]
   refine zW ?_
   exact hkk _ _ ⟨rfl, rfl, rfl, p4⟩
 · rw [if_pos (of_decide_eq_true hc)] at sh
   simp only [↓rD, ↓zC, ↓q2, ↓zH]
   refine vH hE2 ga ?_
   refine sI (a := tCopy) (b := Lib.itoa i.a) fun h3 c3 x3 => ?_
   refine sU ap23 (c2.ext x3) (by decide) (s2 _ _) (by omega) c3 rfl (s2 _ _) (by omega) fun v4 h4 o4 x4 => ?_
   exact yF r56 rfl (hk _ _ _ ⟨(x2.trans x3).trans x4, by rw [sh]; exact o4.row (Nat.le_refl _)⟩)
 rw [if_neg (of_decide_eq_false hc)] at sh
 try simp only [↓ib, ↓yP]
 refine vF (fun t w => zA t 1 = ptr n 0 ∧ zA t 3 = .func (.func 81) #[] #[] ∧ w = ⟨[], u, h2, n + 1 + 1⟩ ∧ S = [tRet, Lib.itoa i.a]) (fun t w q => ?_) (fun hc kk' hkk' => ?_) (fun hc kk hkk => ?_)
 · obtain ⟨p1, p3, rfl, p4⟩ := q
   simp only [p1, p3, ↓zG]
   refine zW ?_
   exact hkk _ _ ⟨rfl, rfl, rfl, p4⟩
 · rw [if_pos (of_decide_eq_true hc)] at sh
   simp only [↓qK, ↓zC, ↓q5]
   refine uJ on23 (sR _) fun h3 c3 x3 => ?_
   refine sU ap23 (c2.ext x3) (by decide) (s2 _ _) (by omega) c3 rfl (by simpa using sR _) (by omega) fun v4 h4 o4 x4 => ?_
   have x34 := x3.trans x4
   have q6 : zF P 40 h4 (.pointer (some ⟨n, 6, none⟩)) = some sv := zI (LD x34) sh40 rfl
   have o4' : Own (n + 1 + 1) (n + 1 + 1 + 1 + 1) h4 v4 9 1 [Lib.itoa i.d, tEq, i.name].length ([Lib.itoa i.d, tEq, i.name].map str) := o4.low (by omega)
   rw [vE (by omega), tK]
   simp only [↓sH, ↓zC, ↓q6]
   refine tail sh (by simp) o4' x34 fun v5 h5 n5 x5 o5 => ?_
   rw [vE x5.1, tK]
   refine tail2 sh (by simp) o4' x34 x5 o5 fun v6 h6 n6 x6 r6 n6le => ?_
   rw [vE n6le, tK, lks4 (lk_at (by omega) q6 (same_row (hr.ext x2))) (lk_at (by omega) q6' (same_row (hr.ext x2))) rfl, tK]
   exact yF r56 rfl (hk _ _ _ ⟨x6, r6⟩)
 rw [if_neg (of_decide_eq_false hc)] at sh
 try simp only [↓ib, ↓yP]
 refine vF (fun t w => zA t 1 = ptr n 0 ∧ zA t 3 = .func (.func 81) #[] #[] ∧ w = ⟨[], u, h2, n + 1 + 1⟩ ∧ S = [tRet, Lib.itoa i.a]) (fun t w q => ?_) (fun hc kk' hkk' => ?_) (fun hc kk hkk => ?_)
 · obtain ⟨p1, p3, rfl, p4⟩ := q
   simp only [p1, p3, ↓zG]
   refine zW ?_
   exact hkk _ _ ⟨rfl, rfl, rfl, p4⟩
 · rw [if_pos (of_decide_eq_true hc)] at sh
   simp only [↓rD, ↓zC, ↓q2, ↓zH]
   refine vH hE2 ga ?_
   refine sI (a := tLoad) (b := Lib.itoa i.a) fun h3 c3 x3 => ?_
   refine sU ap23 (c2.ext x3) (by decide) (s2 _ _) (by omega) c3 rfl (s2 _ _) (by omega) fun v4 h4 o4 x4 => ?_
   exact yF r56 rfl (hk _ _ _ ⟨(x2.trans x3).trans x4, by rw [sh]; exact o4.row (Nat.le_refl _)⟩)
 rw [if_neg (of_decide_eq_false hc)] at sh
 try simp only [↓ib, ↓yP]
 refine vF (fun t w => zA t 1 = ptr n 0 ∧ zA t 3 = .func (.func 81) #[] #[] ∧ w = ⟨[], u, h2, n + 1 + 1⟩ ∧ S = [tRet, Lib.itoa i.a]) (fun t w q => ?_) (fun hc kk' hkk' => ?_) (fun hc kk hkk => ?_)
 · obtain ⟨p1, p3, rfl, p4⟩ := q
   simp only [p1, p3, ↓zG]
   refine zW ?_
   exact hkk _ _ ⟨rfl, rfl, rfl, p4⟩
 · rw [if_pos (of_decide_eq_true hc)] at sh
   simp only [↓rD, ↓zC, ↓q2, ↓zH]
   refine vH hE2 ga ?_
   rw [vE (Nat.le_refl _), tK]
   simp only [↓fa50_3, ↓zC, ↓q3, ↓zH]
   refine vH hE2 gb ?_
   rw [vE (Nat.le_refl _), tK]
   refine build_three (a := tStore) (b := Lib.itoa i.a) (c := Lib.itoa i.b) fun h3 c3 x3 => ?_
   rw [lks31 (lk_at nn q3 (rS _)) (lk_at nn q3 (rS _)) rfl, tK]
   exact yF r56 rfl (hk _ _ _ ⟨x2.trans x3, by rw [sh]; exact c3⟩)
 rw [if_neg (of_decide_eq_false hc)] at sh
 try simp only [↓ib, ↓yP]
 refine vF (fun t w => zA t 1 = ptr n 0 ∧ zA t 3 = .func (.func 81) #[] #[] ∧ w = ⟨[], u, h2, n + 1 + 1⟩ ∧ S = [tRet, Lib.itoa i.a]) (fun t w q => ?_) (fun hc kk' hkk' => ?_) (fun hc kk hkk => ?_)
 · obtain ⟨p1, p3, rfl, p4⟩ := q
   simp only [p1, p3, ↓zG]
   refine zW ?_
   exact hkk _ _ ⟨rfl, rfl, rfl, p4⟩
 · rw [if_pos (of_decide_eq_true hc)] at sh
   simp only [↓fa50_1, ↓zC, ↓q1, ↓zH, ↓ibd, ↓yP]
   refine vF (fun t w => zA t 1 = ptr n 0 ∧ w = ⟨[], u, h2, n + 1 + 1⟩ ∧ ((zA t 4 = .slice none 0 0 ∧ i.d = -1) ∨ (zA t 4 = .slice (some ⟨n + 1, 0, none⟩) 2 2 ∧ i.d ≠ -1))) (fun t w q => ?_) (fun hd kk hkk => ?_) (fun hd kk hkk => ?_)
   · obtain ⟨p1, rfl, p4⟩ := q
     simp only [p1, ↓zG]
     refine zW ?_
     simp only [↓qK, ↓zC, ↓q5]
     refine sI (a := tCall) (b := i.name) fun h3 c3 x3 => ?_
     have go : ∀ {K : KH}, (∀ (D : List Tx) v4 h4 n4, S = D ++ i.args.map Lib.itoa → D.length ≤ 4 → Own (n + 1 + 1) n4 h4 v4 9 1 D.length (D.map str) → Ext h2 (n + 1 + 1) h4 n4 → n + 1 + 1 + 1 ≤ n4 → K h4 n4 v4 = true) →
      wE P [23, 23] [zA t 4, .slice (some ⟨n + 1 + 1, 0, none⟩) 2 2] h3 (n + 1 + 1 + 1) K = true := by
      intro K hK
      rcases p4 with ⟨p4, hd⟩ | ⟨p4, hd⟩
      · rw [if_pos hd] at sh
        rw [p4]
        refine pG ap23 (lo := n + 1 + 1) (v := .slice none 0 0) (len := 0) (vs := []) (.inl ⟨rfl, rfl, rfl⟩) (by omega) c3 rfl (s2 _ _) (by omega) fun v4 h4 n4 o4 n4le k4 => ?_
        refine hK [tCall, i.name] v4 h4 n4 sh (by simp) ?_ ⟨by omega, fun b hb => ?_⟩ n4le
        · simpa using o4
        · rw [k4 b (by omega) (fun e => by cases e), x3.2 b hb]
      · rw [if_neg hd] at sh
        rw [p4]
        refine sU ap23 (c2.ext x3) (by decide) (s2 _ _) (by omega) c3 rfl (s2 _ _) (by omega) fun v4 h4 o4 x4 => ?_
        exact hK [Lib.itoa i.d, tEq, tCall, i.name] v4 h4 _ sh (by simp) (o4.low (by omega)) (x3.trans x4) (by omega)
     refine go fun D v4 h4 n4 hS hD o4 x34 n4le => ?_
     have q6 : zF P 40 h4 (.pointer (some ⟨n, 6, none⟩)) = some sv := zI (LD x34) sh40 rfl
     rw [vE n4le, tK]
     simp only [↓sH, ↓zC, ↓q6]
     refine tail hS hD o4 x34 fun v5 h5 n5 x5 o5 => ?_
     rw [vE x5.1, tK]
     refine tail2 hS hD o4 x34 x5 o5 fun v6 h6 n6 x6 r6 n6le => ?_
     rw [vE n6le, tK, lks4 (lk_at (by omega) q6 (same_row (hr.ext x2))) (lk_at (by omega) q6' (same_row (hr.ext x2))) rfl, tK]
     exact yF r56 rfl (hk _ _ _ ⟨x6, r6⟩)
   · exact hkk _ _ ⟨rfl, rfl, .inl ⟨rfl, of_decide_eq_true hd⟩⟩
   · exact hkk _ _ ⟨rfl, rfl, .inr ⟨rfl, of_decide_eq_false hd⟩⟩
 rw [if_neg (of_decide_eq_false hc)] at sh
 try simp only [↓ib, ↓yP]
 by_cases k7 : i.kind = 7
 · rw [if_pos k7] at sh
   simp only [↓decide_eq_true k7, ↓uD, ↓rD, ↓zC, ↓q2, ↓zH]
   refine vH hE2 ga ?_
   rw [vE (Nat.le_refl _), tK]
   simp only [↓fa50_7, ↓zC, ↓q7, ↓zH]
   refine vH hE2 gt' ?_
   rw [vE (Nat.le_refl _), tK]
   simp only [↓fa50_8, ↓zC, ↓q8, ↓zH]
   refine vH hE2 gf ?_
   rw [vE (Nat.le_refl _), tK]
   refine build_four (a := tBr) (b := Lib.itoa i.a) (c := Lib.itoa i.t) (d := Lib.itoa i.f) fun h3 c3 x3 => ?_
   rw [lks42 (lk_at nn q8 (rS _)) (lk_at nn q8 (rS _)) (lk_at nn q8 (rS _)) (lks4 (lk_at nn q7 (rS _)) (lk_at nn q7 (rS _)) rfl), tK]
   exact yF r56 rfl (hk _ _ _ ⟨x2.trans x3, by rw [sh]; exact c3⟩)
 rw [if_neg k7] at sh
 simp only [↓decide_eq_false k7, ↓uL]
 try simp only [↓ib, ↓yP]
 by_cases k8 : i.kind = 8
 · rw [if_pos k8] at sh
   simp only [↓decide_eq_true k8, ↓uD, ↓fa50_7, ↓zC, ↓q7, ↓zH]
   refine vH hE2 gt' ?_
   refine sI (a := tJump) (b := Lib.itoa i.t) fun h3 c3 x3 => ?_
   exact yF r56 rfl (hk _ _ _ ⟨x2.trans x3, by rw [sh]; exact c3⟩)
 rw [if_neg k8] at sh
 simp only [↓decide_eq_false k8, ↓uL]
 exact hkk _ _ ⟨rfl, rfl, rfl, sh⟩
def Under (b : Nat) (h : zD) (n : Nat) (h' : zD) (n' : Nat) : Prop := n ≤ n' ∧ ∀ x, x < b → zU h' x = zU h x
theorem Under.refl (b : Nat) (h : zD) (n : Nat) : Under b h n h n := ⟨Nat.le_refl _, fun _ _ => rfl⟩
theorem Under.trans {b n n1 n2 : Nat} {h h1 h2 : zD} (a : Under b h n h1 n1) (c : Under b h1 n1 h2 n2) : Under b h n h2 n2 := ⟨Nat.le_trans a.1 c.1, fun x hx => (c.2 x hx).trans (a.2 x hx)⟩
theorem Under.ext {b n n' : Nat} {h h' : zD} (a : Under b h n h' n') : Ext h b h' b := ⟨Nat.le_refl _, a.2⟩
theorem Under.of_ext {b n n' : Nat} {h h' : zD} (a : Ext h n h' n') (hb : b ≤ n) : Under b h n h' n' := ⟨a.1, fun x hx => a.2 x (by omega)⟩
theorem Env.under {m : Int} {b n n' : Nat} {h h' : zD} (e : Env m h) (a : Under b h n h' n') (hb : 8 ≤ b) : Env m h' := e.touch (a.ext.touch []) hb (by simp)
def BldT (b n : Nat) (h : zD) (l : Tx) : Prop := b < n ∧ ∃ p sv, Cel h b (97 + 1) [p, sv] ∧ (p = .pointer none ∨ p = ptr b 0) ∧ Own (b + 1) n h sv 5 1 l.length (bytesV l)
theorem BldT.ext {b n n' : Nat} {h h' : zD} {l : Tx} (w : BldT b n h l) (x : Ext h n h' n') : BldT b n' h' l := by
 obtain ⟨hb, p, sv, c, hp, o⟩ := w
 exact ⟨Nat.lt_of_lt_of_le hb x.1, p, sv, c.touch (x.touch []) hb (by simp), hp, o.touch (x.touch []) (fun _ _ h => by cases h)⟩
theorem cel_set {h : zD} {b z : Nat} {vs : List Value} {v : Value} (hc : Cel h b z vs) (h0 : 0 < vs.length) : Cel (h.set .dead (stC (zU h b) 0 [v]) b) b z (vs.set 0 v) := by
 obtain ⟨hi, hx⟩ := hc
 refine ⟨?_, fun i => ?_⟩
 · rw [zK, if_pos rfl, pF, hi, List.length_set]
 · unfold xM
   rw [zK, if_pos rfl, pE _ 0 [v] hi (by simp only [List.length_cons, List.length_nil]; omega)]
   by_cases hi0 : i = 0
   · subst hi0
     rw [if_pos (by simp)]
     rw [List.getElem?_set_self h0]; rfl
   · rw [if_neg (by simp; omega), List.getElem?_set_ne (by omega)]
     exact hx i
theorem write_rets {b n : Nat} {h : zD} {l s : Tx} (w : BldT b n h l) (hlen : l.length + s.length < 1000000) :
 Rets P 8 53 [ptr b 0, str s] h n fun v h' n' => Under b h n h' n' ∧ BldT b n' h' (l ++ s) := by
 obtain ⟨hb, p, sv, c, hp, o⟩ := w
 have hne : wB sv ≠ some b := fun e => by have := (o.ge b e).1; omega
 refine yM zP mixed (hint := hint53) l53 fun u k hk => ?_
 rw [F53_eq]
 unfold F53
 have rest : ∀ {h1 : zD} {K : KH}, Cel h1 b (97 + 1) [ptr b 0, sv] → (∀ x, x ≠ b → zU h1 x = zU h x) →
  (∀ v2 h2 n2, Own (b + 1) n2 h2 v2 5 1 (l ++ s).length (bytesV (l ++ s)) → Cel h2 b (97 + 1) [ptr b 0, sv] → Under b h n h2 n2 → K h2 n2 v2 = true) →
  wE P [95, 9] [sv, str s] h1 n K = true := by
  intro h1 K c1 k1 hK
  have o1 : Own (b + 1) n h1 sv 5 1 l.length (bytesV l) := o.touch (zS k1 (S := [b]) (by simp)) (fun x hx hm => by simp at hm; subst hm; exact hne hx)
  refine append_text (by kernel_rfl) o1 (by omega) hlen fun v2 h2 n2 o2 n2le k2 => ?_
  refine hK v2 h2 n2 ?_ (c1.keep (k2 b hb (fun e => hne e))) ⟨n2le, fun x hx => ?_⟩
  · rw [List.length_append]
    have e : bytesV (l ++ s) = bytesV l ++ s.map fun b => Value.int .u8 (b.toNat : Nat) := by simp [bytesV]
    rw [e]; exact o2
  · rw [k2 x (by omega) (fun e => by have := (o.ge x e).1; omega), k1 x (by omega)]
 have go : ∀ {h1 : zD}, Cel h1 b (97 + 1) [ptr b 0, sv] → (∀ x, x ≠ b → zU h1 x = zU h x) → ∀ T : Value,
  opt (qC (ptr b 0)) (fun v7 => opt (zB P 97 1 v7) fun v8 => opt (zF P 95 h1 v8) fun v9 => wE P [95, 9] [v9, str s] h1 n fun h10 n11 v12 =>
   opt (qC (ptr b 0)) fun v13 => opt (zB P 97 1 v13) fun v14 => zV P 95 v14 v12 h10 n11 fun h15 n16 v17 => opt (yL P .len [9] [str s] h15) fun v18 => rtI .i64 v18 fun a19 =>
    zE P (loS P 8) 53 k .ret ((fr53 (ptr b 0) (str s) undef undef (.int .i64 a19) .nilIface (ptr b 0) T (ptr b 0) (ptr b 0) v7 v8 v9 (str s) v12 v13 v14 (str s) (.int .i64 a19))) (W.mk [] u h15 n16)) = true := by
  intro h1 c1 k1 T
  have e9 : zF P 95 h1 (.pointer (some ⟨b, 1, none⟩)) = some sv := zI c1 (by kernel_rfl) rfl
  have f1 : zB P 97 1 (ptr b 0) = some (.pointer (some ⟨b, 1, none⟩)) := by rw [yE (o := 1) (by kernel_rfl), Nat.zero_add]
  simp only [↓yS, ↓zC, ↓f1, ↓e9]
  refine rest c1 k1 fun v2 h2 n2 o2 c2 x2 => ?_
  try simp only [↓yS, ↓zC, ↓f1]
  refine xQ c2 (by kernel_rfl) (by simp) o2.one fun h3 c3 k3 => ?_
  have e5 := len_strL (P := P) us9 s [] h3
  simp only [↓e5, ↓zC, ↓zH]
  refine leave2 r53 rfl rfl (hk _ _ _ ⟨⟨x2.1, fun x hx => by rw [k3 x (by omega)]; exact x2.2 x hx⟩, Nat.lt_of_lt_of_le hb x2.1, ptr b 0, v2, c3, .inr rfl, ?_⟩)
  exact o2.touch (zS k3 (S := [b]) (by simp)) (fun x hx hm => by simp at hm; subst hm; have := (o2.ge _ hx).1; omega)
 rcases hp with rfl | rfl
 · refine uH (check_fresh (sv := sv) ⟨c.1, c.2 0, c.2 1⟩) fun v h1 n1 ⟨q1, q2, q3⟩ => ?_
   subst q1 q2 q3
   exact go (cel_set c (by simp)) (fun x hx => by rw [zK, if_neg (fun e => hx e.symm)]) (.tuple #[])
 · refine uH (check_used (sv := sv) ⟨c.1, c.2 0, c.2 1⟩) fun v h1 n1 ⟨q1, q2, q3⟩ => ?_
   subst q1 q2 q3
   exact go c (fun x hx => rfl) (.tuple #[])
theorem line_rets {b n : Nat} {h : zD} {l hd : Tx} {ws : List Tx} {sv : Value} (w : BldT b n h l) (r : Row n h sv 9 1 ws.length (ws.map str)) (hn : ws.length < 100000) (hlen : l.length + (hd ++ Lib.join ws [32] ++ [10]).length < 1000000) :
 Rets P 8 52 [str hd, sv, ptr b 0] h n fun v h' n' => Under b h n h' n' ∧ BldT b n' h' (l ++ (hd ++ Lib.join ws [32] ++ [10])) := by
 refine yM zP mixed (hint := hint52) l52 fun u k hk => ?_
 rw [F52_eq]
 unfold F52
 simp only [List.length_append, List.length_cons, List.length_nil] at hlen
 refine wW (join_pure ws [32] r (by omega) (by omega)) ?_
 refine yJ (by omega) ?_
 refine yJ (a := hd ++ Lib.join ws [32]) (b := [10]) (by simp; omega) ?_
 refine uH (write_rets w (by simp; omega)) fun v h1 n1 q => ?_
 exact qE r52 (hk _ _ _ q)
abbrev lineFn (b : Nat) : Value := .func (.func 52) (Array.mk []) (Array.mk [ptr b 0])
theorem tN {b n : Nat} {h : zD} {l hd : Tx} {ws : List Tx} {sv : Value} {Kp : KC} {K : Value → zD → Nat → Bool} (w : BldT b n h l) (r : Row n h sv 9 1 ws.length (ws.map str)) (hn : ws.length < 100000) (hlen : l.length + (hd ++ Lib.join ws [32] ++ [10]).length < 1000000)
 (hK : ∀ v h' n', Under b h n h' n' → BldT b n' h' (l ++ (hd ++ Lib.join ws [32] ++ [10])) → K v h' n' = true) : wZ (loS P 8) (lineFn b) [str hd, sv] h n Kp K = true :=
 show yX (loS P 8) 52 [str hd, sv, ptr b 0] h n Kp K = true from uH (line_rets w r hn hlen) fun v h' n' q => hK v h' n' q.1 q.2
theorem textL_one (l : Tx) : vV [l] = l ++ [10] := by simp [vV]
theorem printBlk_loop {m : Int} {b : Nat} (hg : 8 ≤ b) (l : List Ins) (v bv : Value) (bl bi : Int) (hl : l.length < 1000000) (hall : ∀ i ∈ l, InsAll i) (u : Option zL) (ka : KX) : ∀ (m' i : Nat), m' + i = l.length → ∀ (t : Fr) (h : zD) (n : Nat) (txt : Tx), Env m h → BlkRO [] b h v l → BldT b n h txt →
 txt.length + (vV ((l.drop i).map uY)).length < 1000000 → zA t 3 = ptr b 0 → zA t 4 = lineFn b → zA t 37 = bv → zA t 38 = I64 bl → zA t 39 = I64 bi → zA t 46 = v → zA t 47 = I64 (l.length : Nat) → zA t 48 = I64 (i : Nat) →
 (∀ t' h' n', Under b h n h' n' → BldT b n' h' (txt ++ vV ((l.drop i).map uY)) → zA t' 3 = ptr b 0 → zA t' 4 = lineFn b → zA t' 37 = bv → zA t' 38 = I64 bl → zA t' 39 = I64 bi → ka (.exit 2) t' ⟨[], u, h', n'⟩ = true) →
 lpS P 8 1000014 ⟨19, none, false⟩ t ⟨[], u, h, n⟩ ka = true := by
 intro m'
 induction m' with
 | zero =>
  intro i hi t h n txt hE hb w hlen t3 t4 t37 t38 t39 t46 t47 t48 hk
  refine xW zP mixed (hint := hint19) l19 lp19_1000014 ?_
  rw [B19_1000014_eq]
  unfold B19_1000014
  rw [t3, t4, t37, t38, t39, t46, t47, t48]
  have e3 : vD (i : Nat) (l.length : Nat) = false := by rw [yC]; exact decide_eq_false (by omega)
  simp only [↓zG, ↓zH]
  refine zW ?_
  simp only [↓e3, ↓yP, ↓uL]
  refine hk _ h n (Under.refl _ _ _) ?_ rfl rfl rfl rfl rfl
  rw [List.drop_eq_nil_of_le (by omega)]
  simpa [vV] using w
 | succ m' ih =>
  intro i hi t h n txt hE hb w hlen t3 t4 t37 t38 t39 t46 t47 t48 hk
  have hlt : i < l.length := by omega
  have hd : l.drop i = l[i] :: l.drop (i + 1) := List.drop_eq_getElem_cons hlt
  obtain ⟨av, ⟨ha1, ha2⟩, hr⟩ := id hb
  have hlt2 : i < av.length := by omega
  have hgt : l[i]? = some l[i] := List.getElem?_eq_getElem hlt
  have hga : av[i]? = some av[i] := List.getElem?_eq_getElem hlt2
  have hfl := pP ha1 hgt hga
  have hra := (ha2 i _ _ hgt hga).1
  obtain ⟨q, q1, q2⟩ := tE (P := P) (k := .i64) hr.1 ix51 (tl := 50) sh50 (by decide) hlt
  rw [hfl] at q2
  have hfi := hall _ (List.getElem_mem hlt)
  generalize l[i] = y at hd q2 hra hfi
  generalize av[i] = sv at q2 hra
  rw [hd, List.map_cons, sQ] at hlen hk
  simp only [List.length_append, List.length_cons] at hlen
  refine xW zP mixed (hint := hint19) l19 lp19_1000014 ?_
  rw [B19_1000014_eq]
  unfold B19_1000014
  rw [t3, t4, t37, t38, t39, t46, t47, t48]
  have e3 : vD (i : Nat) (l.length : Nat) = true := by rw [yC]; exact decide_eq_true (by omega)
  simp only [↓zG, ↓zH]
  refine zW ?_
  simp only [↓e3, ↓yP, ↓uD]
  refine tA (fun t w => zA t 3 = ptr b 0 ∧ zA t 4 = lineFn b ∧ zA t 37 = bv ∧ zA t 38 = I64 bl ∧ zA t 39 = I64 bi ∧ zA t 46 = v ∧ zA t 47 = I64 (l.length : Nat) ∧ zA t 48 = I64 (i : Nat) ∧ ∃ h' n', w = ⟨[], u, h', n'⟩ ∧ Under b h n h' n' ∧ BldT b n' h' (txt ++ (uY y ++ [10]))) (fun t w q => ?_) (fun kk hkk => ?_)
  · obtain ⟨p3, p4, p37, p38, p39, p46, p47, p48, h', n', rfl, x, w'⟩ := q
    simp only [p3, p4, p37, p38, p39, p46, p47, p48, ↓zG, ↓zH]
    refine zW ?_
    refine sF (by omega) ?_
    refine ih (i + 1) (by omega) _ h' n' _ (hE.under x hg) (hb.ext x.ext) w' (by simp only [List.length_append, List.length_cons, List.length_nil]; omega) rfl rfl rfl rfl rfl rfl rfl rfl fun t2 h2 n2 x2 w2 => ?_
    refine hk t2 h2 n2 (x.trans x2) ?_
    rw [List.append_assoc, List.append_assoc] at w2
    exact w2
  · simp only [↓q1, ↓q2, ↓zC]
    have hbn := w.1
    refine wS ze50 fun h1 c1 x1 => ?_
    refine xU c1 sh50 rfl rfl (rT hra.one) fun h2 c2 k2 => ?_
    have x2 : Ext h n h2 (n + 1) := ⟨by omega, fun b hb => (k2 b (by omega)).trans (x1.2 b hb)⟩
    have fA : zF P 50 h2 (.pointer (some ⟨n, 0, none⟩)) = some (.agg ⟨uM y sv⟩) := xJ c2 sh50 rfl (by decide)
    simp only [↓fA, ↓zC]
    have xb : Ext h b h2 (n + 1) := ⟨by omega, fun z hz => x2.2 z (by omega)⟩
    refine uH (show_rets (hE.under (Under.of_ext x2 (by omega)) hg) (by omega) y sv hfi (hra.ext xb)) fun v3 h3 n3 ⟨x3, r3⟩ => ?_
    have hll : (rH y).length < 100000 := by
     have := hfi.2.2.2.2.2.2.2
     unfold rH
     repeat' split
     all_goals simp
     all_goals omega
    refine tN (w.ext (x2.trans x3)) r3 hll (by unfold uY at hlen; simp only [List.length_append, List.length_cons, List.length_nil] at hlen ⊢; omega) fun v4 h4 n4 x4 w4 => ?_
    exact hkk _ _ ⟨rfl, rfl, rfl, rfl, rfl, rfl, rfl, rfl, h4, n4, rfl, (Under.of_ext (x2.trans x3) (by omega)).trans x4, w4⟩
theorem printBlks_loop {m : Int} {b : Nat} (hg : 8 ≤ b) (bs : List (List Ins)) (bv : Value) (svs : List Value) (hl : bs.length < 1000000) (hall : ∀ l ∈ bs, l.length < 1000000 ∧ ∀ i ∈ l, InsAll i) (u : Option zL) (ka : KX) : ∀ (m' i : Nat), m' + i = bs.length → ∀ (t : Fr) (h : zD) (n : Nat) (txt : Tx), Env m h → BlksRow b h bv bs svs → BldT b n h txt →
 txt.length + (vV ((bs.drop i).flatMap uC)).length < 1000000 → zA t 3 = ptr b 0 → zA t 4 = lineFn b → zA t 37 = bv → zA t 38 = I64 (bs.length : Nat) → zA t 39 = I64 (i : Nat) →
 (∀ t' h' n', Under b h n h' n' → BldT b n' h' (txt ++ vV ((bs.drop i).flatMap uC)) → zA t' 3 = ptr b 0 → zA t' 4 = lineFn b → ka (.exit 0) t' ⟨[], u, h', n'⟩ = true) →
 lpS P 8 1000010 ⟨19, none, false⟩ t ⟨[], u, h, n⟩ ka = true := by
 intro m'
 induction m' with
 | zero =>
  intro i hi t h n txt hE hb w hlen t3 t4 t37 t38 t39 hk
  refine xW zP mixed (hint := hint19) l19 lp19_1000010 ?_
  rw [B19_1000010_eq]
  unfold B19_1000010
  rw [t3, t4, t37, t38, t39]
  have e3 : vD (i : Nat) (bs.length : Nat) = false := by rw [yC]; exact decide_eq_false (by omega)
  simp only [↓zG, ↓zH]
  refine zW ?_
  simp only [↓e3, ↓yP, ↓uL]
  refine hk _ h n (Under.refl _ _ _) ?_ rfl rfl
  rw [List.drop_eq_nil_of_le (by omega)]
  simpa [vV] using w
 | succ m' ih =>
  intro i hi t h n txt hE hb w hlen t3 t4 t37 t38 t39 hk
  have hlt : i < bs.length := by omega
  have hd : bs.drop i = bs[i] :: bs.drop (i + 1) := List.drop_eq_getElem_cons hlt
  have hsl := hb.2.1
  have hlt2 : i < svs.length := by omega
  have hgt : bs[i]? = some bs[i] := List.getElem?_eq_getElem hlt
  have hgs : svs[i]? = some svs[i] := List.getElem?_eq_getElem hlt2
  have hk2 := hb.2.2 i _ _ hgt hgs
  have hfi := hall _ (List.getElem_mem hlt)
  obtain ⟨q, q1, q2⟩ := xX (P := P) (k := .i64) hb.1 ix41 (tl := 51) sh51 hgs
  generalize bs[i] = y at hd hk2 hfi
  generalize svs[i] = v at q2 hk2 hgs
  have el : vV ((y :: bs.drop (i + 1)).flatMap uC) = (rL ++ [10]) ++ vV (y.map uY) ++ vV ((bs.drop (i + 1)).flatMap uC) := by
   have e : vV (uC y) = (rL ++ [10]) ++ vV (y.map uY) := by
    unfold uC
    rw [sQ]; simp
   rw [List.flatMap_cons, textL_append, e]
  rw [hd, el] at hlen hk
  simp only [List.length_append, List.length_cons, List.length_nil] at hlen
  refine xW zP mixed (hint := hint19) l19 lp19_1000010 ?_
  rw [B19_1000010_eq]
  unfold B19_1000010
  rw [t3, t4, t37, t38, t39]
  have e3 : vD (i : Nat) (bs.length : Nat) = true := by rw [yC]; exact decide_eq_true (by omega)
  simp only [↓zG, ↓zH]
  refine zW ?_
  simp only [↓e3, ↓yP, ↓uD]
  refine tA (fun t w => zA t 3 = ptr b 0 ∧ zA t 4 = lineFn b ∧ zA t 37 = bv ∧ zA t 38 = I64 (bs.length : Nat) ∧ zA t 39 = I64 (i : Nat) ∧ ∃ h' n', w = ⟨[], u, h', n'⟩ ∧ Under b h n h' n' ∧ BldT b n' h' (txt ++ ((rL ++ [10]) ++ vV (y.map uY)))) (fun t w q => ?_) (fun kk hkk => ?_)
  · obtain ⟨p3, p4, p37, p38, p39, h', n', rfl, x, w'⟩ := q
    simp only [p3, p4, p37, p38, p39, ↓zG, ↓zH]
    refine zW ?_
    refine sF (by omega) ?_
    refine ih (i + 1) (by omega) _ h' n' _ (hE.under x hg) (hb.ext x.ext) w' (by simp only [List.length_append, List.length_cons, List.length_nil]; omega) rfl rfl rfl rfl rfl fun t2 h2 n2 x2 w2 => ?_
    refine hk t2 h2 n2 (x.trans x2) ?_
    rw [List.append_assoc] at w2
    exact w2
  · simp only [↓q1, ↓q2, ↓zC]
    have hbn := w.1
    refine uJ on23 (sR rL) fun h1 c1 x1 => ?_
    refine tN (hd := []) (ws := [rL]) (w.ext x1) c1 (by decide) (by rw [Lib.join_one]; simp; omega) fun v2 h2 n2 x2 w2 => ?_
    rw [Lib.join_one] at w2
    have x12 := (Under.of_ext x1 (by omega : b ≤ n)).trans x2
    have hk3 := hk2.ext x12.ext
    obtain ⟨av, _, hr⟩ := id hk3
    have fl := xL (P := P) us51 hr.1 [] h2
    simp only [↓fl, ↓zC, ↓zH]
    refine printBlk_loop hg y v bv _ _ hfi.1 hfi.2 u _ y.length 0 (Nat.add_zero _) _ h2 n2 _ (hE.under x12 hg) hk3 w2 (by rw [List.drop_zero]; simp; omega) rfl rfl rfl rfl rfl rfl rfl rfl fun t3 h3 n3 x3 w3 p3 p4 p37 p38 p39 => ?_
    rw [List.drop_zero, List.append_assoc] at w3
    simp only [↓zQ, ↓zR]
    simp only [p3, p4, p37, p38, p39, ↓zG, ↓zH]
    refine zW ?_
    exact hkk _ _ ⟨rfl, rfl, rfl, rfl, rfl, h3, n3, rfl, x12.trans x3, w3⟩
theorem append_one {sT xT e n b m : Nat} {h : zD} {x a : Value} {new : List Value} {K : KH} (hT : apTB P sT xT e 1 = true) (hv : Row n h (.slice (some ⟨b, 0, none⟩) 1 1) e 1 1 [a]) (ha : a.oneCell' = true)
 (hr : Row n h x e 1 m new) (hnew : new.length = m) (h1 : ∀ y ∈ new, y.oneCell' = true) (hlim : 1 + m < 1000000) (hK : ∀ v' h' n', Row n' h' v' e 1 (1 + m) (a :: new) → Ext h n h' n' → K h' n' v' = true) :
 wE P [sT, xT] [.slice (some ⟨b, 0, none⟩) 1 1, x] h n K = true := by
 by_cases hm : 0 < m
 · refine sU hT hv (by decide) (by simpa using ha) hm hr (by omega) h1 hlim fun v' h' o x' => ?_
   exact hK v' h' _ (o.row (Nat.le_refl _)) x'
 · have hm0 : m = 0 := by omega
   subst hm0
   have hn0 : new = [] := List.length_eq_zero_iff.1 hnew
   subst hn0
   obtain ⟨xd, ei, z, t1, t2, t3, t4, t5, t6, t7, t8, t9⟩ := apTB_of hT
   have hap : uF P h e ei.size xd x = some (0, []) := by rw [t6]; exact appended_of t3 hr
   unfold wE xappend
   dsimp only
   rw [t1, t2]
   dsimp only
   rw [t4, t5]
   dsimp only
   rw [hap]
   dsimp only
   have c1 : (Nat.beq ei.size 0 || !Nat.beq (cellsOf z).length ei.size || !Nat.blt (Nat.add 1 0) 1000000 || !Nat.blt ei.bytes 100000) = false := by
    have a2 : Nat.beq (cellsOf z).length ei.size = true := by rw [t7, t6]; exact Nat.beq_refl _
    rw [a2, t6, rK t9]; rfl
   rw [c1]
   exact hK _ _ _ hv (Ext.refl _ _)
theorem ze_builder : wM P 97 = some (.agg ⟨[.pointer none, .slice none 0 0]⟩) := by kernel_rfl
def FctAll (f : Fct) : Prop := FctFit f ∧ (∀ b ∈ f.blocks, ∀ i ∈ b, InsAll i) ∧ f.vregs.length < 90000 ∧ (∀ x ∈ f.params, Go64 x) ∧ f.params.length < 50000
theorem print_pure {m : Int} {h : zD} {n : Nat} (hE : Env m h) (hn : 8 ≤ n) (f : Fct) (fv : Value) (hf : FunAt n h fv f) (hfit : FctAll f) (hlen : (vV (uR f)).length < 1000000) :
 Pure P 8 19 [fv] h n (str (pM f)) := by
 obtain ⟨hfit, hins, hv9, hp9, hp8⟩ := hfit
 have hf0 := hf
 obtain ⟨vv, pv, bv, svs, rfl, r1, r2, r3, r4, r5⟩ := hf
 obtain ⟨z1, z2, z3, z4⟩ := hfit
 refine Rets.pureE (yM zP mixed (hint := hint19) l19 fun u k hk => ?_) (.inl rfl)
 rw [F19_eq]
 unfold F19
 refine tL (fun x hx => ?_) fun h1 c1 x1 => ?_
 · have hx : x ∈ [str f.name, vv, pv, str f.result, bv] := hx
   simp only [List.mem_cons, List.not_mem_nil, or_false] at hx
   rcases hx with rfl | rfl | rfl | rfl | rfl
   · rfl
   · exact r1.1.one
   · exact r2.1.one
   · rfl
   · exact r3.1.one
 have c1 : Cel h1 n 0 [str f.name, vv, pv, str f.result, bv] := c1
 have fA : zF P 43 h1 (ptr n 0) = some (.agg ⟨[str f.name, vv, pv, str f.result, bv]⟩) := xJ c1 sh43 rfl (by decide)
 simp only [↓fA, ↓zC]
 refine yN (plain_pure f _ h1 (n + 1) (hf0.ext x1) ⟨z1, z2, z3, z4⟩) ?_
 simp only [↓xR, ↓zC, ↓zJ]
 cases hp : qQ f with
 | false =>
  have e0 : pM f = [] := by unfold pM; rw [hp]; rfl
  rw [e0] at hk
  simp only [↓Bool.not_false, ↓uD]
  exact yF r19 rfl (hk _ _ _ ⟨rfl, x1⟩)
 | true =>
 have e0 : pM f = vV (uR f) := by unfold pM; rw [hp]; rfl
 rw [e0] at hk
 simp only [↓Bool.not_true, ↓uL]
 refine wS ze_builder fun h2 c2 x2 => ?_
 have w2 : BldT (n + 1) (n + 1 + 1) h2 [] := ⟨by omega, .pointer none, .slice none 0 0, c2, .inl rfl, .inl ⟨rfl, rfl, rfl⟩⟩
 have hg : 8 ≤ n + 1 := by omega
 have hE2 : Env m h2 := (hE.touch (x1.touch []) hn (by simp)).touch (x2.touch []) hg (by simp)
 have C : ∀ {h' : zD} {n' : Nat}, Under (n + 1) h2 (n + 1 + 1) h' n' → Cel h' n 0 [str f.name, vv, pv, str f.result, bv] := fun x => (c1.touch (x2.touch []) (by omega) (by simp)).keep (x.2 n (by omega))
 have X : ∀ {h' : zD} {n' : Nat}, Under (n + 1) h2 (n + 1 + 1) h' n' → Ext h n h' (n + 1) := fun x => ⟨by omega, fun y hy => by rw [x.2 y (by omega), x2.2 y (by omega), x1.2 y hy]⟩
 have X' : ∀ {h' : zD} {n' : Nat}, Under (n + 1) h2 (n + 1 + 1) h' n' → Ext h n h' n' := fun x => ⟨by have := x.1; omega, (X x).2⟩
 simp only [↓xE]
 have eT : vV (uR f) = (Lib.join [tFunc, f.name] [32] ++ [10]) ++ (Lib.join (tRegs :: f.vregs) [32] ++ [10]) ++ (Lib.join (qH :: f.params.map Lib.itoa) [32] ++ [10]) ++ (Lib.join [qV, f.result] [32] ++ [10]) ++ vV (sG f) ++ (tEnd ++ [10]) := by
  unfold uR pL
  rw [textL_append, textL_append, textL_one, sQ, sQ, sQ, textL_one]
  simp
 rw [eT] at hlen hk
 simp only [List.length_append, List.length_cons, List.length_nil] at hlen
 have s0 : Under (n + 1) h2 (n + 1 + 1) h2 (n + 1 + 1) := Under.refl _ _ _
 have g0 : zF P 9 h2 (ptr n 0) = some (str f.name) := zI (C s0) sh9 rfl
 simp only [↓fa43_0, ↓zC, ↓g0]
 refine sI (a := tFunc) (b := f.name) fun h3 c3 x3 => ?_
 refine tN (hd := []) (ws := [tFunc, f.name]) (w2.ext x3) c3 (by simp) (by simp only [List.nil_append, List.length_append, List.length_cons, List.length_nil]; omega) fun v4 h4 n4 x4 w4 => ?_
 have s4 := (Under.of_ext x3 (by omega : n + 1 ≤ n + 1 + 1)).trans x4
 have n4b := w4.1
 refine uJ on23 (sR tRegs) fun h5 c5 x5 => ?_
 have s5 := s4.trans (Under.of_ext x5 (by omega : n + 1 ≤ n4))
 have g1 : zF P 23 h5 (.pointer (some ⟨n, 1, none⟩)) = some vv := zI (C s5) sh23 rfl
 simp only [↓qI, ↓zC, ↓g1]
 refine append_one ap23 c5 (sR _) (r1.1.ext (X' s5)) (by simp) (fun y hy => by obtain ⟨z, _, rfl⟩ := List.mem_map.1 hy; rfl) (by omega) fun v6 h6 n6 r6 x6 => ?_
 have r6 : Row n6 h6 v6 9 1 (tRegs :: f.vregs).length ((tRegs :: f.vregs).map str) := by rw [List.length_cons, Nat.add_comm]; exact r6
 refine tN (hd := []) (w4.ext (x5.trans x6)) r6 (by rw [List.length_cons]; omega) (by simp only [List.nil_append, List.length_append, List.length_cons, List.length_nil]; omega) fun v7 h7 n7 x7 w7 => ?_
 have s7 := s5.trans ((Under.of_ext x6 (by have := x5.1; omega)).trans x7)
 have n7b := w7.1
 refine uJ on23 (sR qH) fun h8 c8 x8 => ?_
 have s8 := s7.trans (Under.of_ext x8 (by omega : n + 1 ≤ n7))
 have g2 : zF P 40 h8 (.pointer (some ⟨n, 2, none⟩)) = some pv := zI (C s8) sh40 rfl
 simp only [↓fa43_2, ↓zC, ↓g2]
 refine uH (texts_rets (hE2.under s8 hg) (by omega) f.params hp9 pv (r2.1.ext (X' s8)) hp8) fun v9 h9 n9 ⟨x9, o9⟩ => ?_
 refine append_one ap23 (c8.ext x9) (sR _) (o9.row (Nat.le_refl _)) (by simp) (fun y hy => by obtain ⟨z, _, rfl⟩ := List.mem_map.1 hy; rfl) (by omega) fun v10 h10 n10 r10 x10 => ?_
 have r10 : Row n10 h10 v10 9 1 (qH :: f.params.map Lib.itoa).length ((qH :: f.params.map Lib.itoa).map str) := by
  rw [List.length_cons, Nat.add_comm, List.length_map, List.map_cons, List.map_map]; exact r10
 have x89 := x8.trans (x9.trans x10)
 refine tN (hd := []) (w7.ext x89) r10 (by rw [List.length_cons, List.length_map]; omega) (by simp only [List.nil_append, List.length_append, List.length_cons, List.length_nil]; omega) fun v11 h11 n11 x11 w11 => ?_
 have s11 := s7.trans ((Under.of_ext x89 (by omega : n + 1 ≤ n7)).trans x11)
 have n11b := w11.1
 have g3 : zF P 9 h11 (.pointer (some ⟨n, 3, none⟩)) = some (str f.result) := zI (C s11) sh9 rfl
 simp only [↓fa43_3, ↓zC, ↓g3]
 refine sI (a := qV) (b := f.result) fun h12 c12 x12 => ?_
 refine tN (hd := []) (ws := [qV, f.result]) (w11.ext x12) c12 (by simp) (by simp only [List.nil_append, List.length_append, List.length_cons, List.length_nil]; omega) fun v13 h13 n13 x13 w13 => ?_
 have s13 := s11.trans ((Under.of_ext x12 (by omega : n + 1 ≤ n11)).trans x13)
 have n13b := w13.1
 have g4 : zF P 41 h13 (.pointer (some ⟨n, 4, none⟩)) = some bv := zI (C s13) sh41 rfl
 have R3 : BlksRow (n + 1) h13 bv f.blocks svs := ⟨r3.1.ext (X s13), r4, fun k l v h1 h2 => (r5 k l v h1 h2).ext (X s13)⟩
 have l4 := xL (P := P) us41 R3.1 [] h13
 simp only [↓qJ, ↓zC, ↓g4, ↓l4, ↓zH]
 refine printBlks_loop hg f.blocks bv svs z3 (fun l hl => ⟨(z4 l hl).1, hins l hl⟩) u _ f.blocks.length 0 (Nat.add_zero _) _ h13 n13 _ (hE2.under s13 hg) R3 w13 (by rw [List.drop_zero]; simp only [List.nil_append, List.length_append, List.length_cons, List.length_nil]; unfold sG at hlen; omega) rfl rfl rfl rfl rfl fun t14 h14 n14 x14 w14 p3 p4 => ?_
 rw [List.drop_zero] at w14
 simp only [↓zQ, ↓zR]
 simp only [p3, p4, ↓zG]
 refine zW ?_
 have s14 := s13.trans x14
 have n14b := w14.1
 refine uJ on23 (sR tEnd) fun h15 c15 x15 => ?_
 refine tN (hd := []) (ws := [tEnd]) (w14.ext x15) c15 (by decide) (by rw [Lib.join_one]; simp only [List.nil_append, List.length_append, List.length_cons, List.length_nil]; unfold sG at hlen; omega) fun v16 h16 n16 x16 w16 => ?_
 rw [Lib.join_one] at w16
 have s16 := s14.trans ((Under.of_ext x15 (by omega : n + 1 ≤ n14)).trans x16)
 obtain ⟨b16, p, sv, cB, hpp, oB⟩ := w16
 have hne : wB sv ≠ some (n + 1) := fun e => by have := (oB.ge _ e).1; omega
 refine uH (string_rets (p := p) (sv := sv) ⟨cB.1, cB.2 0, cB.2 1⟩ oB hne (by simp only [List.nil_append, List.length_append, List.length_cons, List.length_nil]; unfold sG at hlen; omega)) fun v17 h17 n17 ⟨q1, q2, q3⟩ => ?_
 subst q1 q2
 refine yF r19 rfl (hk _ _ _ ⟨?_, ?_⟩)
 · simp only [List.nil_append, List.append_assoc, sG]
   rfl
 · refine ⟨(X' s16).1, fun y hy => ?_⟩
   rw [q3 y (fun e => by have := (oB.ge _ e).1; omega)]
   exact (X' s16).2 y hy
theorem sameInts_loop (xs ys : List Int) (hl : xs.length = ys.length) (av bv : Value) (h : zD) (n : Nat) (ra : Row n h av 3 1 xs.length (xs.map I64)) (rb : Row n h bv 3 1 ys.length (ys.map I64)) (hlen : xs.length < 1000000) (u : Option zL) (ka : KX) :
 ∀ (m i : Nat), m + i = xs.length → ∀ t, zA t 0 = av → zA t 1 = bv → zA t 5 = I64 (i : Nat) →
 (xs.drop i = ys.drop i → ∀ t', ka (.exit 0) t' ⟨[], u, h, n⟩ = true) → (xs.drop i ≠ ys.drop i → ∀ t', zA t' 4 = .bool false → ka .ret t' ⟨[], u, h, n⟩ = true) →
 lpS P 8 1000004 ⟨70, none, false⟩ t ⟨[], u, h, n⟩ ka = true := by
 have fl := xL (P := P) us40 ra [] h
 intro m
 induction m with
 | zero =>
  intro i hi t t0 t1 t5 hE hR
  refine xW zP mixed (hint := hint70) l70 lp70_1000004 ?_
  rw [B70_1000004_eq]
  unfold B70_1000004
  rw [t0, t1, t5]
  have e3 : vD (i : Nat) (xs.length : Nat) = false := by rw [yC]; exact decide_eq_false (by omega)
  simp only [↓zG, ↓zH]
  refine zW ?_
  simp only [↓fl, ↓zC, ↓zH, ↓e3, ↓yP, ↓uL]
  refine hE ?_ _
  rw [List.drop_eq_nil_of_le (by omega), List.drop_eq_nil_of_le (by omega)]
 | succ m ih =>
  intro i hi t t0 t1 t5 hE hR
  have hlt : i < xs.length := by omega
  have hlb : i < ys.length := by omega
  have hda : xs.drop i = xs[i] :: xs.drop (i + 1) := List.drop_eq_getElem_cons hlt
  have hdb : ys.drop i = ys[i] :: ys.drop (i + 1) := List.drop_eq_getElem_cons hlb
  obtain ⟨q, q1, q2⟩ := xX (P := P) (k := .i64) ra ix40 (tl := 3) sh3 (i := i) (x := I64 xs[i]) (by rw [List.getElem?_map, List.getElem?_eq_getElem hlt]; rfl)
  obtain ⟨p, p1, p2⟩ := xX (P := P) (k := .i64) rb ix40 (tl := 3) sh3 (i := i) (x := I64 ys[i]) (by rw [List.getElem?_map, List.getElem?_eq_getElem hlb]; rfl)
  generalize xs[i] = x at hda q2
  generalize ys[i] = y at hdb p2
  rw [hda, hdb] at hE hR
  refine xW zP mixed (hint := hint70) l70 lp70_1000004 ?_
  rw [B70_1000004_eq]
  unfold B70_1000004
  rw [t0, t1, t5]
  have e3 : vD (i : Nat) (xs.length : Nat) = true := by rw [yC]; exact decide_eq_true (by omega)
  simp only [↓zG, ↓zH]
  refine zW ?_
  simp only [↓fl, ↓zC, ↓zH, ↓e3, ↓yP, ↓uD]
  refine tA (fun t w => zA t 0 = av ∧ zA t 1 = bv ∧ zA t 5 = I64 (i : Nat) ∧ w = ⟨[], u, h, n⟩ ∧ x = y) (fun t w q => ?_) (fun kk hkk => ?_)
  · obtain ⟨p0, p1, p5, rfl, hxy⟩ := q
    simp only [p0, p1, p5, ↓zG, ↓zH]
    refine zW ?_
    refine sF (by omega) ?_
    subst hxy
    exact ih (i + 1) (by omega) _ rfl rfl rfl (fun e => hE (by rw [e])) (fun e => hR (fun e' => e (List.cons.inj e').2))
  · simp only [↓q1, ↓q2, ↓p1, ↓p2, ↓zC, ↓zH, ↓xN, ↓tK]
    by_cases hxy : x = y
    · have e4 : ineB x y = false := by rw [qU, decide_eq_true hxy]; rfl
      simp only [↓e4, ↓yP, ↓uL]
      exact hkk _ _ ⟨rfl, rfl, rfl, rfl, hxy⟩
    · have e4 : ineB x y = true := by rw [qU, decide_eq_false hxy]; rfl
      simp only [↓e4, ↓yP, ↓uD]
      exact hR (fun e => hxy (List.cons.inj e).1) _ rfl
theorem sameInts_pure (xs ys : List Int) (av bv : Value) (h : zD) (n : Nat) (ra : Row n h av 3 1 xs.length (xs.map I64)) (rb : Row n h bv 3 1 ys.length (ys.map I64)) (hlen : xs.length < 1000000) :
 Pure P 8 70 [av, bv] h n (.bool (decide (xs = ys))) := by
 refine yM zP mixed (hint := hint70) l70 fun u k hk => ?_
 rw [F70_eq]
 unfold F70
 have e1 := xL (P := P) us40 ra [] h
 have e2 := xL (P := P) us40 rb [] h
 simp only [↓e1, ↓e2, ↓zC, ↓zH]
 by_cases hl : xs.length = ys.length
 · have e4 : ineB (xs.length : Nat) (ys.length : Nat) = false := by rw [qU, decide_eq_true (by omega)]; rfl
   simp only [↓e4, ↓yP, ↓uL]
   refine sameInts_loop xs ys hl av bv h n ra rb hlen u _ xs.length 0 (Nat.add_zero _) _ rfl rfl rfl (fun e t' => ?_) (fun e t' t4 => ?_)
   · rw [List.drop_zero, List.drop_zero] at e
     simp only [↓zQ, ↓zR]
     refine zW ?_
     exact yF r70 (v := .bool true) rfl (hk _ _ _ ⟨by rw [decide_eq_true e], rfl, rfl⟩)
   · rw [List.drop_zero, List.drop_zero] at e
     simp only [↓yH, ↓yI]
     exact yF r70 t4 (hk _ _ _ ⟨by rw [decide_eq_false e], rfl, rfl⟩)
 · have e4 : ineB (xs.length : Nat) (ys.length : Nat) = true := by rw [qU, decide_eq_false (by omega)]; rfl
   simp only [↓e4, ↓yP, ↓uD]
   exact yF r70 (v := .bool false) rfl (hk _ _ _ ⟨by rw [decide_eq_false (fun e => hl (by rw [e]))], rfl, rfl⟩)
def sameI (i j : Ins) : Bool := decide (i.kind = j.kind ∧ i.d = j.d ∧ i.a = j.a ∧ i.b = j.b ∧ i.n = j.n ∧ i.name = j.name ∧ i.t = j.t ∧ i.f = j.f ∧ i.args = j.args)
theorem sameI_eq {i j : Ins} : sameI i j = true ↔ i = j := by
 unfold sameI
 rw [decide_eq_true_eq]
 cases i; cases j
 constructor
 · rintro ⟨h1, h2, h3, h4, h5, h6, h7, h8, h9⟩
   dsimp only at h1 h2 h3 h4 h5 h6 h7 h8 h9
   subst h1 h2 h3 h4 h5 h6 h7 h8 h9; rfl
 · intro h; injection h with h1 h2 h3 h4 h5 h6 h7 h8 h9
   exact ⟨h1, h2, h3, h4, h5, h6, h8, h9, h7⟩
theorem sameIns_pure (i j : Ins) (sv sw : Value) (h : zD) (n : Nat) (rs : Row n h sv 3 1 i.args.length (i.args.map I64)) (rw' : Row n h sw 3 1 j.args.length (j.args.map I64)) (hlen : i.args.length < 1000000) :
 Pure P 8 105 [.agg ⟨uM i sv⟩, .agg ⟨uM j sw⟩] h n (.bool (sameI i j)) := by
 refine Rets.pureE (yM zP mixed (hint := hint105) l105 fun u k hk => ?_) (.inl rfl)
 rw [F105_eq]
 unfold F105
 refine tL (rT rs.one) fun h1 c1 x1 => ?_
 refine tL (rT rw'.one) fun h2 c2 x2 => ?_
 have c1' : Cel h2 n 0 (uM i sv) := Cel.touch c1 (x2.touch []) (by omega) (by simp)
 have c2' : Cel h2 (n + 1) 0 (uM j sw) := c2
 have X := x1.trans x2
 have p0 : zF P 3 h2 (.pointer (some ⟨n, 0, none⟩)) = some (I64 i.kind) := zI c1' sh3 rfl
 have q0 : zF P 3 h2 (.pointer (some ⟨n + 1, 0, none⟩)) = some (I64 j.kind) := zI c2' sh3 rfl
 have p1 : zF P 3 h2 (.pointer (some ⟨n, 1, none⟩)) = some (I64 i.d) := zI c1' sh3 rfl
 have q1 : zF P 3 h2 (.pointer (some ⟨n + 1, 1, none⟩)) = some (I64 j.d) := zI c2' sh3 rfl
 have p2 : zF P 3 h2 (.pointer (some ⟨n, 2, none⟩)) = some (I64 i.a) := zI c1' sh3 rfl
 have q2 : zF P 3 h2 (.pointer (some ⟨n + 1, 2, none⟩)) = some (I64 j.a) := zI c2' sh3 rfl
 have p3 : zF P 3 h2 (.pointer (some ⟨n, 3, none⟩)) = some (I64 i.b) := zI c1' sh3 rfl
 have q3 : zF P 3 h2 (.pointer (some ⟨n + 1, 3, none⟩)) = some (I64 j.b) := zI c2' sh3 rfl
 have p4 : zF P 3 h2 (.pointer (some ⟨n, 4, none⟩)) = some (I64 i.n) := zI c1' sh3 rfl
 have q4 : zF P 3 h2 (.pointer (some ⟨n + 1, 4, none⟩)) = some (I64 j.n) := zI c2' sh3 rfl
 have p5 : zF P 9 h2 (.pointer (some ⟨n, 5, none⟩)) = some (str i.name) := zI c1' sh9 rfl
 have q5 : zF P 9 h2 (.pointer (some ⟨n + 1, 5, none⟩)) = some (str j.name) := zI c2' sh9 rfl
 have p7 : zF P 3 h2 (.pointer (some ⟨n, 7, none⟩)) = some (I64 i.t) := zI c1' sh3 rfl
 have q7 : zF P 3 h2 (.pointer (some ⟨n + 1, 7, none⟩)) = some (I64 j.t) := zI c2' sh3 rfl
 have p8 : zF P 3 h2 (.pointer (some ⟨n, 8, none⟩)) = some (I64 i.f) := zI c1' sh3 rfl
 have q8 : zF P 3 h2 (.pointer (some ⟨n + 1, 8, none⟩)) = some (I64 j.f) := zI c2' sh3 rfl
 have p6 : zF P 40 h2 (.pointer (some ⟨n, 6, none⟩)) = some sv := zI c1' sh40 rfl
 have q6 : zF P 40 h2 (.pointer (some ⟨n + 1, 6, none⟩)) = some sw := zI c2' sh40 rfl
 have fin : ∀ (t : Fr) (b : Bool), b = sameI i j → zA t 4 = .bool b → zE P (loS P 8) 105 k .ret t ⟨[], u, h2, n + 1 + 1⟩ = true := fun t b hb ht => yF r105 ht (hk _ _ _ ⟨by rw [hb], X⟩)
 have ei : ∀ (a b : Int) K, yB wJ P .eql 3 false (.int .i64 a) (.int .i64 b) K = K (decide (a = b)) := fun a b K => by rw [cmpI, wX]
 have ec : ∀ (a b : Tx) K, yB wJ P .eql 9 false (str a) (str b) K = K (decide (a = b)) := fun a b K => by
  rw [vB]
  congr 1
  by_cases e : a = b
  · rw [decide_eq_true e, e]; simp
  · rw [decide_eq_false e]; simpa using e
 have e0 : wJ i.kind j.kind = decide (i.kind = j.kind) := wX _ _
 simp only [↓yP, ↓tG, ↓zC, ↓p0, ↓q0, ↓zH, ↓e0]
 by_cases g0 : i.kind = j.kind
 case neg =>
  simp only [↓decide_eq_false g0, ↓xK, ↓zM, ↓xA, ↓xG, ↓zJ, ↓yZ]
  exact fin _ false (by unfold sameI; exact (decide_eq_false (by simp [g0])).symm) rfl
 simp only [↓decide_eq_true g0, ↓zM, ↓xA, ↓zJ, ↓yZ, ↓fa50_1, ↓zC, ↓p1, ↓q1, ↓zH, ↓ei]
 by_cases g1 : i.d = j.d
 case neg =>
  simp only [↓decide_eq_false g1, ↓xK, ↓zM, ↓xA, ↓xG, ↓zJ, ↓yZ]
  exact fin _ false (by unfold sameI; exact (decide_eq_false (by simp [g1])).symm) rfl
 simp only [↓decide_eq_true g1, ↓zM, ↓xA, ↓zJ, ↓yZ, ↓rD, ↓zC, ↓p2, ↓q2, ↓zH, ↓ei]
 by_cases g2 : i.a = j.a
 case neg =>
  simp only [↓decide_eq_false g2, ↓xK, ↓zM, ↓xA, ↓xG, ↓zJ, ↓yZ]
  exact fin _ false (by unfold sameI; exact (decide_eq_false (by simp [g2])).symm) rfl
 simp only [↓decide_eq_true g2, ↓zM, ↓xA, ↓zJ, ↓yZ, ↓fa50_3, ↓zC, ↓p3, ↓q3, ↓zH, ↓ei]
 by_cases g3 : i.b = j.b
 case neg =>
  simp only [↓decide_eq_false g3, ↓xK, ↓zM, ↓xA, ↓xG, ↓zJ, ↓yZ]
  exact fin _ false (by unfold sameI; exact (decide_eq_false (by simp [g3])).symm) rfl
 simp only [↓decide_eq_true g3, ↓zM, ↓xA, ↓zJ, ↓yZ, ↓fa50_4, ↓zC, ↓p4, ↓q4, ↓zH, ↓ei]
 by_cases g4 : i.n = j.n
 case neg =>
  simp only [↓decide_eq_false g4, ↓xK, ↓zM, ↓xA, ↓xG, ↓zJ, ↓yZ]
  exact fin _ false (by unfold sameI; exact (decide_eq_false (by simp [g4])).symm) rfl
 simp only [↓decide_eq_true g4, ↓zM, ↓xA, ↓zJ, ↓yZ, ↓qK, ↓zC, ↓p5, ↓q5, ↓zH, ↓ec]
 by_cases g5 : i.name = j.name
 case neg =>
  simp only [↓decide_eq_false g5, ↓xK, ↓zM, ↓xA, ↓xG, ↓zJ, ↓yZ]
  exact fin _ false (by unfold sameI; exact (decide_eq_false (by simp [g5])).symm) rfl
 simp only [↓decide_eq_true g5, ↓zM, ↓xA, ↓zJ, ↓yZ, ↓fa50_7, ↓zC, ↓p7, ↓q7, ↓zH, ↓ei]
 by_cases g7 : i.t = j.t
 case neg =>
  simp only [↓decide_eq_false g7, ↓xK, ↓zM, ↓xA, ↓xG, ↓zJ, ↓yZ]
  exact fin _ false (by unfold sameI; exact (decide_eq_false (by simp [g7])).symm) rfl
 simp only [↓decide_eq_true g7, ↓zM, ↓xA, ↓zJ, ↓yZ, ↓fa50_8, ↓zC, ↓p8, ↓q8, ↓zH, ↓ei]
 by_cases g8 : i.f = j.f
 case neg =>
  simp only [↓decide_eq_false g8, ↓xK, ↓zM, ↓xA, ↓xG, ↓zJ, ↓yZ]
  exact fin _ false (by unfold sameI; exact (decide_eq_false (by simp [g8])).symm) rfl
 simp only [↓decide_eq_true g8, ↓zM, ↓xA, ↓zJ, ↓yZ, ↓sH, ↓zC, ↓p6, ↓q6]
 refine yN (sameInts_pure i.args j.args sv sw h2 _ (rs.ext X) (rw'.ext X) hlen) ?_
 try simp only [↓zM, ↓xA, ↓zJ]
 exact fin _ (decide (i.args = j.args)) (by unfold sameI; simp [*]) rfl
theorem lks_none (hs : List W) : lks hs [] = true := rfl
theorem sameBlk_loop (l : List Ins) (hl : l.length < 1000000) (hlen : ∀ i ∈ l, i.args.length < 1000000) (av bv va vb : Value) (ix : Int) (h : zD) (n : Nat) {qa qb : Value} (a1 : zT P 41 av (I64 ix) = some qa) (a2 : zF P 51 h qa = some va)
 (b1 : zT P 41 bv (I64 ix) = some qb) (b2 : zF P 51 h qb = some vb) (ra : BlkRO [] n h va l) (rb : BlkRO [] n h vb l) (u : Option zL) (ka : KX) :
 ∀ (m j : Nat), m + j = l.length → ∀ t, zA t 0 = av → zA t 1 = bv → zA t 5 = I64 ix → zA t 6 = I64 (j : Nat) → (∀ t', zA t' 0 = av → zA t' 1 = bv → zA t' 5 = I64 ix → ka (.exit 2) t' ⟨[], u, h, n⟩ = true) →
 lpS P 8 1000009 ⟨71, none, false⟩ t ⟨[], u, h, n⟩ ka = true := by
 obtain ⟨ava, ⟨ha1, ha2⟩, hra⟩ := id ra
 obtain ⟨avb, ⟨hb1, hb2⟩, hrb⟩ := id rb
 have fl := xL (P := P) us51 hra.1 [] h
 intro m
 induction m with
 | zero =>
  intro j hj t t0 t1 t5 t6 hE
  refine xW zP mixed (hint := hint71) l71 lp71_1000009 ?_
  rw [B71_1000009_eq]
  unfold B71_1000009
  rw [t0, t1, t5, t6]
  have e3 : vD (j : Nat) (l.length : Nat) = false := by rw [yC]; exact decide_eq_false (by omega)
  simp only [↓zG, ↓zH]
  refine zW ?_
  simp only [↓a1, ↓a2, ↓fl, ↓zC, ↓zH, ↓e3, ↓yP, ↓uL]
  exact hE _ rfl rfl rfl
 | succ m ih =>
  intro j hj t t0 t1 t5 t6 hE
  have hlt : j < l.length := by omega
  have hgt : l[j]? = some l[j] := List.getElem?_eq_getElem hlt
  have hga : ava[j]? = some (ava[j]'(by omega)) := List.getElem?_eq_getElem (by omega)
  have hgb : avb[j]? = some (avb[j]'(by omega)) := List.getElem?_eq_getElem (by omega)
  obtain ⟨q, q1, q2⟩ := tE (P := P) (k := .i64) hra.1 ix51 (tl := 50) sh50 (by decide) hlt
  obtain ⟨p, p1, p2⟩ := tE (P := P) (k := .i64) hrb.1 ix51 (tl := 50) sh50 (by decide) hlt
  rw [pP ha1 hgt hga] at q2
  rw [pP hb1 hgt hgb] at p2
  have hsa := (ha2 j _ _ hgt hga).1
  have hsb := (hb2 j _ _ hgt hgb).1
  refine xW zP mixed (hint := hint71) l71 lp71_1000009 ?_
  rw [B71_1000009_eq]
  unfold B71_1000009
  rw [t0, t1, t5, t6]
  have e3 : vD (j : Nat) (l.length : Nat) = true := by rw [yC]; exact decide_eq_true (by omega)
  simp only [↓zG, ↓zH]
  refine zW ?_
  simp only [↓a1, ↓a2, ↓fl, ↓zC, ↓zH, ↓e3, ↓yP, ↓uD]
  refine tA (fun t w => zA t 0 = av ∧ zA t 1 = bv ∧ zA t 5 = I64 ix ∧ zA t 6 = I64 (j : Nat) ∧ w = ⟨[], u, h, n⟩) (fun t w q => ?_) (fun kk hkk => ?_)
  · obtain ⟨p0, p1, p5, p6, rfl⟩ := q
    simp only [p0, p1, p5, p6, ↓zG, ↓zH]
    refine zW ?_
    refine sF (by omega) ?_
    exact ih (j + 1) (by omega) _ rfl rfl rfl rfl hE
  · simp only [↓a1, ↓a2, ↓b1, ↓b2, ↓q1, ↓q2, ↓p1, ↓p2, ↓zC]
    refine yN (sameIns_pure _ _ _ _ h n hsa hsb (hlen _ (List.getElem_mem hlt))) ?_
    rw [vE (Nat.le_refl _), tK, lks_none, tK]
    have es : sameI l[j] l[j] = true := sameI_eq.2 rfl
    simp only [↓es, ↓xR, ↓zC, ↓zJ, ↓Bool.not_true, ↓uL]
    exact hkk _ _ ⟨rfl, rfl, rfl, rfl, rfl⟩
theorem sameBlks_loop (ls : List (List Ins)) (hl : ls.length < 1000000) (hlen : ∀ l ∈ ls, l.length < 1000000 ∧ ∀ i ∈ l, i.args.length < 1000000) (av bv : Value) (sva svb : List Value) (h : zD) (n : Nat) (ra : BlksRow n h av ls sva) (rb : BlksRow n h bv ls svb) (u : Option zL) (ka : KX) :
 ∀ (m i : Nat), m + i = ls.length → ∀ t, zA t 0 = av → zA t 1 = bv → zA t 5 = I64 (i : Nat) → (∀ t', ka (.exit 0) t' ⟨[], u, h, n⟩ = true) →
 lpS P 8 1000004 ⟨71, none, false⟩ t ⟨[], u, h, n⟩ ka = true := by
 have fl := xL (P := P) us41 ra.1 [] h
 intro m
 induction m with
 | zero =>
  intro i hi t t0 t1 t5 hE
  refine xW zP mixed (hint := hint71) l71 lp71_1000004 ?_
  rw [B71_1000004_eq]
  unfold B71_1000004
  rw [t0, t1, t5]
  have e3 : vD (i : Nat) (ls.length : Nat) = false := by rw [yC]; exact decide_eq_false (by omega)
  simp only [↓zG, ↓zH]
  refine zW ?_
  simp only [↓fl, ↓zC, ↓zH, ↓e3, ↓yP, ↓uL]
  exact hE _
 | succ m ih =>
  intro i hi t t0 t1 t5 hE
  have hlt : i < ls.length := by omega
  have sa := ra.2.1
  have sb := rb.2.1
  have hgt : ls[i]? = some ls[i] := List.getElem?_eq_getElem hlt
  have hga : sva[i]? = some (sva[i]'(by omega)) := List.getElem?_eq_getElem (by omega)
  have hgb : svb[i]? = some (svb[i]'(by omega)) := List.getElem?_eq_getElem (by omega)
  have ba := ra.2.2 i _ _ hgt hga
  have bb := rb.2.2 i _ _ hgt hgb
  have hfi := hlen _ (List.getElem_mem hlt)
  obtain ⟨q, q1, q2⟩ := xX (P := P) (k := .i64) ra.1 ix41 (tl := 51) sh51 hga
  obtain ⟨p, p1, p2⟩ := xX (P := P) (k := .i64) rb.1 ix41 (tl := 51) sh51 hgb
  generalize ls[i] = y at ba bb hfi
  obtain ⟨_, _, ya⟩ := id ba
  obtain ⟨_, _, yb⟩ := id bb
  have la := xL (P := P) us51 ya.1 [] h
  have lb := xL (P := P) us51 yb.1 [] h
  refine xW zP mixed (hint := hint71) l71 lp71_1000004 ?_
  rw [B71_1000004_eq]
  unfold B71_1000004
  rw [t0, t1, t5]
  have e3 : vD (i : Nat) (ls.length : Nat) = true := by rw [yC]; exact decide_eq_true (by omega)
  have e4 : ineB (y.length : Nat) (y.length : Nat) = false := by rw [qU, decide_eq_true rfl]; rfl
  simp only [↓zG, ↓zH]
  refine zW ?_
  simp only [↓fl, ↓zC, ↓zH, ↓e3, ↓yP, ↓uD]
  refine tA (fun t w => zA t 0 = av ∧ zA t 1 = bv ∧ zA t 5 = I64 (i : Nat) ∧ w = ⟨[], u, h, n⟩) (fun t w q => ?_) (fun kk hkk => ?_)
  · obtain ⟨p0, p1, p5, rfl⟩ := q
    simp only [p0, p1, p5, ↓zG, ↓zH]
    refine zW ?_
    refine sF (by omega) ?_
    exact ih (i + 1) (by omega) _ rfl rfl rfl hE
  · simp only [↓q1, ↓q2, ↓p1, ↓p2, ↓la, ↓lb, ↓zC, ↓zH, ↓e4, ↓yP, ↓uL, ↓xN, ↓tK]
    refine sameBlk_loop y hfi.1 hfi.2 av bv _ _ _ h n q1 q2 p1 p2 ba bb u _ y.length 0 (Nat.add_zero _) _ rfl rfl rfl rfl fun t' r0 r1 r5 => ?_
    simp only [↓zQ, ↓zR]
    simp only [r0, r1, r5, ↓zG, ↓zH]
    refine zW ?_
    exact hkk _ _ ⟨rfl, rfl, rfl, rfl⟩
theorem sameBlocks_true (ls : List (List Ins)) (hl : ls.length < 1000000) (hlen : ∀ l ∈ ls, l.length < 1000000 ∧ ∀ i ∈ l, i.args.length < 1000000) (av bv : Value) (sva svb : List Value) (h : zD) (n : Nat) (ra : BlksRow n h av ls sva) (rb : BlksRow n h bv ls svb) :
 Pure P 8 71 [av, bv] h n (.bool true) := by
 refine yM zP mixed (hint := hint71) l71 fun u k hk => ?_
 rw [F71_eq]
 unfold F71
 have e1 := xL (P := P) us41 ra.1 [] h
 have e2 := xL (P := P) us41 rb.1 [] h
 have e4 : ineB (ls.length : Nat) (ls.length : Nat) = false := by rw [qU, decide_eq_true rfl]; rfl
 simp only [↓e1, ↓e2, ↓zC, ↓zH, ↓e4, ↓yP, ↓uL]
 refine sameBlks_loop ls hl hlen av bv sva svb h n ra rb u _ ls.length 0 (Nat.add_zero _) _ rfl rfl rfl fun t' => ?_
 simp only [↓zQ, ↓zR]
 refine zW ?_
 exact yF r71 (v := .bool true) rfl (hk _ _ _ ⟨rfl, rfl, rfl⟩)
theorem sameVregs_loop (ws : List Tx) (hlen : ws.length < 1000000) (fb gb : Nat) (av bv : Value) (h : zD) (n : Nat) {ca cb : List Value} (c1 : Cel h fb 0 ca) (c2 : Cel h gb 0 cb) (a1 : ca[1]? = some av) (b1 : cb[1]? = some bv)
 (ra : Row n h av 9 1 ws.length (ws.map str)) (rb : Row n h bv 9 1 ws.length (ws.map str)) (u : Option zL) (ka : KX) :
 ∀ (m i : Nat), m + i = ws.length → ∀ t, zA t 2 = ptr fb 0 → zA t 3 = ptr gb 0 → zA t 5 = I64 (i : Nat) → (∀ t', zA t' 2 = ptr fb 0 → zA t' 3 = ptr gb 0 → ka (.exit 0) t' ⟨[], u, h, n⟩ = true) →
 lpS P 8 1000004 ⟨24, none, false⟩ t ⟨[], u, h, n⟩ ka = true := by
 have la : zF P 23 h (.pointer (some ⟨fb, 1, none⟩)) = some av := zI c1 sh23 a1
 have lb : zF P 23 h (.pointer (some ⟨gb, 1, none⟩)) = some bv := zI c2 sh23 b1
 have fl := xL (P := P) us23 ra [] h
 intro m
 induction m with
 | zero =>
  intro i hi t t2 t3 t5 hE
  refine xW zP mixed (hint := hint24) l24 lp24_1000004 ?_
  rw [B24_1000004_eq]
  unfold B24_1000004
  rw [t2, t3, t5]
  have e3 : vD (i : Nat) (ws.length : Nat) = false := by rw [yC]; exact decide_eq_false (by omega)
  simp only [↓zG, ↓zH]
  refine zW ?_
  simp only [↓qI, ↓la, ↓fl, ↓zC, ↓zH, ↓e3, ↓yP, ↓uL]
  exact hE _ rfl rfl
 | succ m ih =>
  intro i hi t t2 t3 t5 hE
  have hlt : i < ws.length := by omega
  obtain ⟨q, q1, q2⟩ := xX (P := P) (k := .i64) ra ix23 (tl := 9) sh9 (i := i) (x := str ws[i]) (by rw [List.getElem?_map, List.getElem?_eq_getElem hlt]; rfl)
  obtain ⟨p, p1, p2⟩ := xX (P := P) (k := .i64) rb ix23 (tl := 9) sh9 (i := i) (x := str ws[i]) (by rw [List.getElem?_map, List.getElem?_eq_getElem hlt]; rfl)
  generalize ws[i] = x at q2 p2
  refine xW zP mixed (hint := hint24) l24 lp24_1000004 ?_
  rw [B24_1000004_eq]
  unfold B24_1000004
  rw [t2, t3, t5]
  have e3 : vD (i : Nat) (ws.length : Nat) = true := by rw [yC]; exact decide_eq_true (by omega)
  have e4 : (x == x) = true := by simp
  simp only [↓zG, ↓zH]
  refine zW ?_
  simp only [↓qI, ↓la, ↓fl, ↓zC, ↓zH, ↓e3, ↓yP, ↓uD]
  refine tA (fun t w => zA t 2 = ptr fb 0 ∧ zA t 3 = ptr gb 0 ∧ zA t 5 = I64 (i : Nat) ∧ w = ⟨[], u, h, n⟩) (fun t w q => ?_) (fun kk hkk => ?_)
  · obtain ⟨p0, p1, p5, rfl⟩ := q
    simp only [p0, p1, p5, ↓zG, ↓zH]
    refine zW ?_
    refine sF (by omega) ?_
    exact ih (i + 1) (by omega) _ rfl rfl rfl hE
  · simp only [↓qI, ↓la, ↓lb, ↓q1, ↓q2, ↓p1, ↓p2, ↓zC, ↓cmpSL_ne, ↓e4, ↓Bool.not_true, ↓xN, ↓tK, ↓uL]
    exact hkk _ _ ⟨rfl, rfl, rfl, rfl⟩
theorem sameFunc_true (f : Fct) (v w : Value) (h : zD) (n : Nat) (hv : FunAt n h v f) (hw : FunAt n h w f) (hfit : FctFit f) :
 Pure P 8 24 [v, w] h n (.bool true) := by
 obtain ⟨vv, pv, bv, svs, rfl, r1, r2, r3, r4, r5⟩ := hv
 obtain ⟨vv', pv', bv', svs', rfl, s1, s2, s3, s4, s5⟩ := hw
 obtain ⟨z1, z2, z3, z4⟩ := hfit
 refine Rets.pureE (yM zP mixed (hint := hint24) l24 fun u k hk => ?_) (.inl rfl)
 rw [F24_eq]
 unfold F24
 have one5 : ∀ {a b c : Value} {x y : Tx}, a.oneCell' = true → b.oneCell' = true → c.oneCell' = true → ∀ z ∈ [str x, a, b, str y, c], z.oneCell' = true := fun ha hb hc z hz => by
  simp only [List.mem_cons, List.not_mem_nil, or_false] at hz
  rcases hz with rfl | rfl | rfl | rfl | rfl <;> first | rfl | assumption
 refine tL (one5 r1.1.one r2.1.one r3.1.one) fun h1 c1 x1 => ?_
 refine tL (one5 s1.1.one s2.1.one s3.1.one) fun h2 c2 x2 => ?_
 have c1' : Cel h2 n 0 [str f.name, vv, pv, str f.result, bv] := Cel.touch c1 (x2.touch []) (by omega) (by simp)
 have c2' : Cel h2 (n + 1) 0 [str f.name, vv', pv', str f.result, bv'] := c2
 have X := x1.trans x2
 have R1 := r1.1.ext X
 have R2 := r2.1.ext X
 have R3 : BlksRow (n + 1 + 1) h2 bv f.blocks svs := ⟨r3.1.ext X, r4, fun k l v h1 h2 => (r5 k l v h1 h2).ext X⟩
 have S1 := s1.1.ext X
 have S2 := s2.1.ext X
 have S3 : BlksRow (n + 1 + 1) h2 bv' f.blocks svs' := ⟨s3.1.ext X, s4, fun k l v h1 h2 => (s5 k l v h1 h2).ext X⟩
 have p0 : zF P 9 h2 (ptr n 0) = some (str f.name) := zI c1' sh9 rfl
 have q0 : zF P 9 h2 (ptr (n + 1) 0) = some (str f.name) := zI c2' sh9 rfl
 have p3 : zF P 9 h2 (.pointer (some ⟨n, 3, none⟩)) = some (str f.result) := zI c1' sh9 rfl
 have q3 : zF P 9 h2 (.pointer (some ⟨n + 1, 3, none⟩)) = some (str f.result) := zI c2' sh9 rfl
 have p1 : zF P 23 h2 (.pointer (some ⟨n, 1, none⟩)) = some vv := zI c1' sh23 rfl
 have q1 : zF P 23 h2 (.pointer (some ⟨n + 1, 1, none⟩)) = some vv' := zI c2' sh23 rfl
 have p2 : zF P 40 h2 (.pointer (some ⟨n, 2, none⟩)) = some pv := zI c1' sh40 rfl
 have q2 : zF P 40 h2 (.pointer (some ⟨n + 1, 2, none⟩)) = some pv' := zI c2' sh40 rfl
 have p4 : zF P 41 h2 (.pointer (some ⟨n, 4, none⟩)) = some bv := zI c1' sh41 rfl
 have q4 : zF P 41 h2 (.pointer (some ⟨n + 1, 4, none⟩)) = some bv' := zI c2' sh41 rfl
 have lp := xL (P := P) us23 R1 [] h2
 have lq := xL (P := P) us23 S1 [] h2
 have en : ∀ a : Tx, (a == a) = true := fun a => by simp
 have ei : ∀ (a : Int) K, yB ineB P .neq 3 false (.int .i64 a) (.int .i64 a) K = K false := fun a K => by
  rw [cmpI, qU, decide_eq_true rfl]; rfl
 simp only [↓fa43_0, ↓qI, ↓fa43_3, ↓zC, ↓p0, ↓q0, ↓cmpSL_ne, ↓en, ↓Bool.not_true, ↓rI, ↓yZ, ↓p3, ↓q3, ↓xG, ↓zJ, ↓p1, ↓q1, ↓lp, ↓lq, ↓zH, ↓ei, ↓uL]
 refine sameVregs_loop f.vregs z1 n (n + 1) vv vv' h2 (n + 1 + 1) c1' c2' rfl rfl R1 S1 u _ f.vregs.length 0 (Nat.add_zero _) _ rfl rfl rfl fun t' g2 g3 => ?_
 simp only [↓zQ, ↓zR]
 simp only [g2, g3, ↓zG]
 refine zW ?_
 simp only [↓fa43_2, ↓qJ, ↓zC, ↓p2, ↓q2]
 have hI := sameInts_pure f.params f.params pv pv' h2 _ R2 S2 (by omega)
 rw [show decide (f.params = f.params) = true from decide_eq_true rfl] at hI
 refine yN hI ?_
 simp only [↓fa43_2, ↓qJ, ↓zC, ↓p4, ↓q4]
 refine yN (sameBlocks_true f.blocks z3 (fun l hl => ⟨(z4 l hl).1, fun i hi => by have := ((z4 l hl).2 i hi).2; omega⟩) bv bv' svs svs' h2 _ R3 S3) ?_
 simp only [↓yZ, ↓xA, ↓zJ]
 exact yF r24 (v := .bool true) rfl (hk _ _ _ ⟨rfl, X⟩)
theorem ofOK_of {st : St} {l : Tx} {st' : St} (h : uE st l = .ok st') : OfOK st l := by
 unfold uE at h
 cases hc : (!st.ended && !(l == [])) <;> rw [hc] at h
 · cases h
 simp only [reduceIte] at h
 refine ⟨fun hs => ?_, fun hs h1 h2 ho => ?_⟩
 · rw [if_pos hs] at h
   cases e : ofW l [] with
   | error x => rw [e] at h; cases h
   | ok ws => exact ⟨ws, rfl⟩
 · rw [if_neg (by omega), h1, h2, ho] at h
   cases e : ofW l tTwo with
   | error x => rw [e] at h; cases h
   | ok ws => exact ⟨ws, rfl⟩
theorem ro_nil {n : Nat} {h : zD} {e sz : Nat} : RO [] n h (.slice none 0 0) e sz 0 [] := ⟨.inl ⟨rfl, rfl, rfl⟩, fun _ hb => (by cases hb), fun _ _ _ hb => (by cases hb)⟩
theorem RO.ext {n n' : Nat} {h h' : zD} {v : Value} {e sz len : Nat} {vs : List Value} (r : RO [] n h v e sz len vs) (x : Ext h n h' n') : RO [] n' h' v e sz len vs := r.step (x.touch []) (by simp) (by simp)
theorem ro_built {n len e sz m : Nat} {h : zD} {vs : List Value} (r : Row (n + 1) h (.slice (some ⟨n, 0, none⟩) len len) e sz len vs) (hi : tS (zU h n) = some (m, 0, 0)) : RO [] (n + 1) h (.slice (some ⟨n, 0, none⟩) len len) e sz len vs :=
 ⟨r, fun _ _ => by simp, fun b m' z hb hx => by
  injection hb with hb
  subst hb
  rw [hi] at hx
  injection hx with hx; injection hx with _ hx; injection hx with hx _; cases hx⟩
theorem rE {ty e : TypeId} (ht : oneTB P ty e = true) {v : Value} (hv : v.oneCell' = true) {h : zD} {n : Nat} {K : KH}
 (hK : ∀ h', RO [] (n + 1) h' (.slice (some ⟨n, 0, none⟩) 1 1) e 1 1 [v] → Ext h n h' (n + 1) → K h' (n + 1) (.slice (some ⟨n, 0, none⟩) 1 1) = true) : zN P ty 1 [(0, v)] h n K = true := by
 refine pH (cs := [v]) ?_ rfl (by unfold inf; omega) fun h' r hi x => hK h' (ro_built r hi) x
 unfold oneTB at ht
 unfold yW
 cases h1 : und P ty <;> rw [h1] at ht <;> first | (cases ht; done) | skip
 rename_i d
 cases d <;> first | (cases ht; done) | skip
 rename_i e'
 dsimp only at ht ⊢
 cases h2 : wM P e' <;> rw [h2] at ht <;> first | (cases ht; done) | skip
 rename_i z
 cases h3 : inf? P e' <;> rw [h3] at ht <;> first | (cases ht; done) | skip
 rename_i ei
 dsimp only at ht ⊢
 obtain ⟨_, ht⟩ := Bool.and_eq_true_iff.1 ht
 obtain ⟨a1, a2⟩ := Bool.and_eq_true_iff.1 ht
 have e1 := zX a1
 have e2 := zX a2
 rw [e1, e2]
 obtain ⟨x, hx⟩ : ∃ x, cellsOf z = [x] := List.length_eq_one_iff.1 e2
 rw [hx]
 have e3 := cellsOf_one hv
 show (match aFill (fun i => some (Nat.mul i 1, 1)) [x] [(0, v)] with
  | some cs => some (vZ cs 0)
  | none => none) = _
 have : aFill (fun i => some (Nat.mul i 1, 1)) [x] [(0, v)] = some [v] := by
  unfold aFill
  dsimp only
  rw [e3]
  rfl
 rw [this]
theorem build_ins {i : Ins} {sv : Value} {h : zD} {n : Nat} {K : KH} (ha : RO [] n h sv 3 1 i.args.length (i.args.map I64))
 (hK : ∀ h', BlkRO [] (n + 1) h' (.slice (some ⟨n, 0, none⟩) 1 1) [i] → Ext h n h' (n + 1) → K h' (n + 1) (.slice (some ⟨n, 0, none⟩) 1 1) = true) : zN P 51 1 [(0, .agg ⟨uM i sv⟩)] h n K = true := by
 have z : yW P 51 1 [(0, .agg ⟨uM i sv⟩)] = some (vZ (uM i sv) 0) := rfl
 refine pH (e := 50) (sz := 9) z rfl (by unfold inf; omega) fun h' r hi x => hK h' ⟨[sv], ⟨rfl, fun j i' a h1 h2 => ?_⟩, ?_⟩ x
 · cases j with
   | zero =>
    simp only [List.getElem?_cons_zero, Option.some.injEq] at h1 h2
    subst h1 h2
    exact ha.ext x
   | succ j => simp at h1
 · have e : uS [i] [sv] = uM i sv := by simp [uS]
   rw [e]
   exact ro_built r hi
theorem num_pure (e : Int) (h : zD) (n : Nat) : Pure P 8 23 [I64 e] h n (I64 e) := by
 refine yM zP mixed (hint := hint23) l23 fun u k hk => ?_
 rw [F23_eq]
 unfold F23
 simp only [↓zH]
 exact yF r23 rfl (hk _ _ _ ⟨rfl, rfl, rfl⟩)
end Go.Proofs.YtapnnpoljobanaaGreatDoor
