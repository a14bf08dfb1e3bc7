/- What the law leans on: an executor of the model that is sound, deduction over it, and the walks through the code (part 5 of 6). Conditions: those that each theorem states. -/
import Derived.Test.YtapnnpoljobanaaGreatDoorVirLimitsx4

set_option linter.unusedVariables false
set_option linter.unusedSimpArgs false
namespace Go.Proofs.YtapnnpoljobanaaGreatDoor
open Go.Ex Go.Ex.Vir Go.RowKit
set_option maxRecDepth 100000
theorem row_new {h : zG} {n e : Nat} {cs : List Value} (hl : cs.length < inf) : Row (n + 1) (h.set .dead (mkC cs 0 0) n) (.slice (some ⟨n, 0, none⟩) cs.length cs.length) e 1 cs.length cs := by
 refine .inr ⟨n, 0, cs.length, cs.length, 0, 0, Nat.lt_succ_self _, rfl, by simp, ?_, by omega, fun j v ej => ?_, .inl ⟨hl, Nat.le_refl _⟩⟩
 · rw [zK, if_pos rfl]; rfl
 · unfold xO;rw [zK, if_pos rfl, Nat.zero_add];exact (uV cs 0 0 j).trans ej
theorem splitL_mem (c : UInt8) : ∀ (s x : Tx), x ∈ wV c s → x.length ≤ s.length := by
 intro s
 induction s with
 | nil => intro x hx; simp [wV] at hx; subst hx; exact Nat.le_refl _
 | cons a r ih =>
  intro x hx;unfold wV at hx;split at hx
  · rcases List.mem_cons.1 hx with rfl | hx
    · simp
    · have := ih x hx; simp only [List.length_cons]; omega
  · split at hx
    · rename_i e;exact absurd e (splitL_ne c r)
    · rename_i y t e;rcases List.mem_cons.1 hx with rfl | hx
      · have := ih y (by rw [e]; simp); simp only [List.length_cons]; omega
      · have := ih x (by rw [e]; exact List.mem_cons_of_mem _ hx); simp only [List.length_cons]; omega
theorem of_loop (ws : List Tx) (p sv : Value) (h : zG) (n : Nat) (u : Option zX) (ka : KX) (hr : Row n h sv 9 1 ws.length (ws.map str)) (hlen : ws.length < 100000) : ∀ (m i : Nat), m + i = ws.length → ∀ t, zA t 7 = p → zA t 29 = sv → zA t 30 = I64 (ws.length : Nat) → zA t 31 = I64 (i : Nat) →
 ((ws.drop i).all (fun s => !(s == [])) = true → ∀ t', zA t' 7 = p → ka (.exit 0) t' ⟨[], u, h, n⟩ = true) → ((ws.drop i).all (fun s => !(s == [])) = false → ∀ t', ka (.panic (tI 3)) t' ⟨[], u, h, n⟩ = true) →
 lpS P 8 1000005 ⟨162, none, false⟩ t ⟨[], u, h, n⟩ ka = true := by
 intro m
 induction m with
 | zero =>
  intro i hi t t7 t29 t30 t31 hE hR;refine yO zM mixed (hint := hint162) l162 lp162_1000005 ?_;rw [B162_1000005_eq];unfold B162_1000005;rw [t7, t29, t30, t31];have e3 : wO (i : Nat) (ws.length : Nat) = false := by rw [zV]; exact decide_eq_false (by omega)
  simp only [↓zC, ↓zE, ↓xB, ↓e3, ↓zY, ↓uS];refine hE ?_ _ rfl;rw [List.drop_eq_nil_of_le (by omega)]; rfl
 | succ m ih =>
  intro i hi t t7 t29 t30 t31 hE hR;have hlt : i < ws.length := by omega
  have hd : ws.drop i = ws[i] :: ws.drop (i + 1) := List.drop_eq_getElem_cons hlt;obtain ⟨q, q1, q2⟩ := xU (P := P) (k := .i64) hr ix23 (tl := 9) sh9 (i := i) (x := str ws[i]) (by rw [List.getElem?_map, List.getElem?_eq_getElem hlt]; rfl);generalize ws[i] = y at hd q2
  rw [hd] at hE hR;refine yO zM mixed (hint := hint162) l162 lp162_1000005 ?_;rw [B162_1000005_eq];unfold B162_1000005;rw [t7, t29, t30, t31];have e3 : wO (i : Nat) (ws.length : Nat) = true := by rw [zV]; exact decide_eq_true (by omega)
  simp only [↓zC, ↓zE, ↓xB, ↓e3, ↓zY, ↓uK, ↓xS, ↓q1, ↓q2, ↓zD];have ec : ((ByteArray.mk #[]).data.toList : List UInt8) = [] := rfl;rw [cmpS_ne, ec];have ea : (y :: ws.drop (i + 1)).all (fun s => !(s == [])) = (!(y == []) && (ws.drop (i + 1)).all (fun s => !(s == []))) := rfl;rw [ea] at hE hR;show yY (loS P 8) 120 [.bool (!(y == [])), I64 3] h n _ _ = true;refine yC (fun hb => ?_) (fun hb => ?_)
  · rw [hb] at hE hR;simp only [↓fg7, ↓fg29, ↓fg30, ↓fg31, ↓zC, ↓zE, ↓xB];refine uH (by omega) ?_;exact ih (i + 1) (by omega) _ rfl rfl rfl rfl hE hR
  · exact hR (by rw [hb]; rfl) _
theorem of_comes {m : Int} {h : zG} {n : Nat} (hE : Env m h) (hn : 8 ≤ n) (line head : Tx) (hl : line.length < 90000) :
 ComesE P 8 162 [str line, str head] h n fun o h' n' => Ext h n h' n' ∧ (match ofW line head with
  | .ok ws => ∃ b, o = .ret (ptr b 0) ∧ WordsAt n n' n' h' b ws
  | .error e => o = .panic (tI e)) := by
 refine yR zM mixed (hint := hint162) l162 fun u k hk => ?_;rw [F162_eq];unfold F162;unfold ofW at hk;refine uO (cutPrefix_pure n line head) ?_;have x0 : ∀ a b, yN 0 (.tuple #[str a, .bool b]) = some (str a) := fun _ _ => rfl;have x1 : ∀ a b, yN 1 (.tuple #[str a, .bool b]) = some (.bool b) := fun _ _ => rfl;simp only [↓x0, ↓x1, ↓zD, ↓zJ]
 have htl : (Lib.trimPrefix line head).length ≤ line.length := by
  unfold Lib.trimPrefix;split
  · rw [List.length_drop]; omega
  · exact Nat.le_refl _
 have ec : ((ByteArray.mk #[]).data.toList : List UInt8) = [] := rfl
 have hgo : (Lib.hasPrefix line head && !(Lib.trimPrefix line head == [])) = false → ∀ t, zO P (loS P 8) 162 k (.panic (tI 3)) t ⟨[], u, h, n⟩ = true := fun e t => by
  rw [e, if_neg Bool.false_ne_true] at hk;exact yT r162 (hk _ _ _ ⟨Ext.refl _ _, rfl⟩)
 cases hp : Lib.hasPrefix line head with
 | false =>
  simp only [↓xW, ↓xP, ↓zJ];refine yC (fun e => by cases e) (fun _ => ?_);exact hgo (by rw [hp]; rfl) _
 | true =>
  simp only [↓yZ, ↓xF, ↓zJ];rw [cmpS_ne, ec];simp only [↓zJ];show yY (loS P 8) 120 [.bool (!(Lib.trimPrefix line head == [])), I64 3] h n _ _ = true;refine yC (fun hb => ?_) (fun hb => ?_)
  · rw [hp, hb] at hk;rw [if_pos (show (true && true) = true from rfl)] at hk;generalize Lib.trimPrefix line head = r at *
    refine uJ (split_rets n hE.tabs r 32 (by omega)) fun v h1 n1 ⟨e1, e2, e3⟩ => ?_;subst e1 e2 e3;have hsl : (wV 32 r).length < 100000 := by rw [splitL_length]; have := List.count_le_length (a := 32) (l := r); omega
    have hml : ∀ x ∈ wV 32 r, x.length < 1000000 := fun x hx => by have := splitL_mem 32 r x hx; omega
    generalize wV 32 r = ws at *
    have e1 : vR P 189 [(0, .slice (some ⟨n, 0, none⟩) ws.length ws.length)] = some (.agg ⟨[.slice (some ⟨n, 0, none⟩) ws.length ws.length]⟩) := by kernel_rfl
    simp only [↓e1, ↓zD]
    have hr : Row (n + 1) (h.set .dead (mkC (ws.map str) 0 0) n) (.slice (some ⟨n, 0, none⟩) ws.length ws.length) 9 1 ws.length (ws.map str) := by
     have := row_new (h := h) (n := n) (e := 9) (cs := ws.map str) (by unfold inf; simp; omega);rw [List.length_map] at this;exact this
    refine tR (by simp [cellsOf, Value.oneCell']) fun h2 c2 x2 => ?_;have hr2 := hr.ext x2;have e2 : zF P 23 h2 (ptr (n + 1) 0) = some (.slice (some ⟨n, 0, none⟩) ws.length ws.length) := zH c2 sh23 rfl;have e3 := xI (P := P) us23 hr2 [] h2;have xx : Ext h n h2 (n + 1 + 1) := (pL).trans x2;simp only [↓zD, ↓yS, ↓fa189_0, ↓e2, ↓e3, ↓zE];refine of_loop ws (ptr (n + 1) 0) _ h2 (n + 1 + 1) u _ hr2 (by omega) ws.length 0 (Nat.add_zero _) _ rfl rfl rfl rfl ?_ ?_
    · intro ha t' t7;rw [List.drop_zero] at ha;rw [if_pos ha] at hk;simp only [↓zP, ↓zQ, ↓zC, ↓xB, t7];refine yP r162 rfl (hk _ _ _ ⟨xx, n + 1, rfl, by omega, ⟨by omega, Nat.le_refl _⟩, by omega, hml, _, c2, hr2, fun x hx => ?_⟩);have hx' : some n = some x := hx;injection hx' with hx'
      omega
    · intro ha t';rw [List.drop_zero] at ha;rw [if_neg (by rw [ha]; exact Bool.false_ne_true)] at hk;simp only [↓endA_panic, ↓blkA_panic];exact yT r162 (hk _ _ _ ⟨xx, rfl⟩)
  · exact hgo (by rw [hp, hb]; rfl) _
structure J (m : Int) (lo hi b rb ib n0 : Nat) (h0 : zG) (n : Nat) (h : zG) (i : Ins) (ws : List Tx) : Prop where
 t : TouchE [b] h0 n0 h n
 env : Env m h
 w : WordsAt lo hi n h b ws
 r : ∃ vs, vs.length = 9 ∧ Cel h rb (50 + 1) vs
 i : InsAt (rb + 1) n h ib i
 g : 8 ≤ lo
 hi0 : hi ≤ n0
 rb0 : n0 ≤ rb ∧ rb < n
 ib0 : n0 ≤ ib ∧ rb ≠ ib
section
variable {m : Int} {lo hi b rb ib n0 n : Nat} {h0 h : zG} {i : Ins} {ws : List Tx}
theorem J.b8 (j : J m lo hi b rb ib n0 h0 n h i ws) : 8 ≤ b ∧ b < hi ∧ b < n ∧ n0 ≤ n ∧ ib < n := by
 have h1 := j.g; have h2 := j.w.1; have h3 := j.w.2.1; have h4 := j.t.1; have h5 := j.i.1;omega
theorem J.call (j : J m lo hi b rb ib n0 h0 n h i ws) {h' : zG} {n' : Nat} {ws' : List Tx} (t : TouchE [b] h n h' n') (w : WordsAt lo hi n' h' b ws') : J m lo hi b rb ib n0 h0 n' h' i ws' := by
 obtain ⟨b1, b2, b3, b4, b5⟩ := j.b8;obtain ⟨vs, v1, v2⟩ := j.r;have hh := j.hi0; have hr := j.rb0; have hib := j.ib0;refine ⟨j.t.trans t, j.env.touch t (by omega) (fun x hx => by simp at hx; omega), w, ⟨vs, v1, v2.touch t hr.2 (by simp; omega)⟩, j.i.touch t (by simp; omega) (fun x hx => by simp at hx; omega), j.g, j.hi0, ⟨hr.1, Nat.lt_of_lt_of_le hr.2 t.1⟩, hib⟩
theorem J.wr (j : J m lo hi b rb ib n0 h0 n h i ws) {h' : zG} {i' : Ins} (t : TouchE [ib] h n h' n) (w : InsAt (rb + 1) n h' ib i') : J m lo hi b rb ib n0 h0 n h' i' ws := by
 obtain ⟨b1, b2, b3, b4, b5⟩ := j.b8;obtain ⟨vs, v1, v2⟩ := j.r;have hh := j.hi0; have hr := j.rb0; have hib := j.ib0;refine ⟨j.t.step t (fun x hx => by simp at hx; subst hx; exact .inr hib.1), j.env.touch t (by omega) (fun x hx => by simp at hx; omega), j.w.touch t (fun x hx => by simp at hx; subst hx; exact .inr (by omega)), ⟨vs, v1, v2.touch t hr.2 (by simp; omega)⟩, w, j.g, j.hi0, hr, hib⟩
theorem J.store (j : J m lo hi b rb ib n0 h0 n h i ws) {off : Nat} {i' : Ins} {v : Value} {ty : TypeId} {K : KH} (hs : yF P ty = .scal) (ho : off < 9) (hv : v.oneCell' = true) (he : ∀ sv, (uY i sv).set off v = uY i' sv) (ha : i'.args = i.args)
 (hK : ∀ h', J m lo hi b rb ib n0 h0 n h' i' ws → K h' n undef = true) : zW P ty (.pointer (some ⟨ib, off, none⟩)) v h n K = true :=
 j.i.store hs ho hv he ha (.inr trivial) fun h' w t => hK h' (j.wr t w)
theorem J.args (j : J m lo hi b rb ib n0 h0 n h i ws) {l : List Int} {v : Value} {ty : TypeId} {K : KH} (hs : yF P ty = .scal) (ho : Own (rb + 1) n h v 3 1 l.length (l.map I64)) (hl : l.length < 100000) (hne : xK v ≠ some ib)
 (hK : ∀ h', J m lo hi b rb ib n0 h0 n h' { i with args := l } ws → zF P 40 h' (.pointer (some ⟨ib, 6, none⟩)) = some v → Own (rb + 1) n h' v 3 1 l.length (l.map I64) → K h' n undef = true) : zW P ty (.pointer (some ⟨ib, 6, none⟩)) v h n K = true := by
 obtain ⟨a, sv, c, d, e, f⟩ := j.i;refine xH c hs (by simp [uY]) ho.one fun h' c' k' => ?_;have t : TouchE [ib] h n h' n := zS k' (by simp);have o' := ho.touch t (fun x hx hS => by simp at hS; subst hS; exact hne hx);exact hK h' (j.wr t ⟨a, v, c', o', hl, hne⟩) (zH c' sh40 (by simp [uY])) o'
theorem J.num (j : J m lo hi b rb ib n0 h0 n h i ws) {Kp : KC} {K : Int → zG → Nat → Bool} (hK : ∀ a r h' n', wB ws = .ok (a, r) → J m lo hi b rb ib n0 h0 n' h' i r → K a h' n' = true)
 (hp : ∀ e h' n', wB ws = .error e → TouchE [b] h0 n0 h' n' → Kp (tI e) h' n' = true) : qS (loS P 8) .i64 122 [ptr b 0] h n Kp K = true := by
 refine callI_comes (number_comes j.w j.env j.g) (fun v h1 n1 q => ?_) (fun c h1 n1 q => ?_)
 · obtain ⟨q1, q2⟩ := q
   cases ha : wB ws with
   | error e => rw [ha] at q2; cases q2
   | ok p =>
    rw [ha] at q2;obtain ⟨v', q2, e, w1⟩ := q2;injection q2 with q2; subst q2
    exact ⟨_, e, hK _ _ _ _ ha (j.call q1 w1)⟩
 · obtain ⟨q1, q2⟩ := q
   cases ha : wB ws with
   | error e => rw [ha] at q2; injection q2 with q2; subst q2; exact hp _ _ _ ha (j.t.trans q1)
   | ok p => rw [ha] at q2; obtain ⟨v', q2, _⟩ := q2; cases q2
theorem J.any (j : J m lo hi b rb ib n0 h0 n h i ws) {Kp : KC} {K : Int → zG → Nat → Bool} (hK : ∀ a r h' n', anyW ws = .ok (a, r) → J m lo hi b rb ib n0 h0 n' h' i r → K a h' n' = true)
 (hp : ∀ e h' n', anyW ws = .error e → TouchE [b] h0 n0 h' n' → Kp (tI e) h' n' = true) : qS (loS P 8) .i64 155 [ptr b 0] h n Kp K = true := by
 refine callI_comes (any_comes j.w j.env j.g) (fun v h1 n1 q => ?_) (fun c h1 n1 q => ?_)
 · obtain ⟨q1, q2⟩ := q
   cases ha : anyW ws with
   | error e => rw [ha] at q2; cases q2
   | ok p =>
    rw [ha] at q2;obtain ⟨v', q2, e, w1⟩ := q2;injection q2 with q2; subst q2
    exact ⟨_, e, hK _ _ _ _ ha (j.call q1 w1)⟩
 · obtain ⟨q1, q2⟩ := q
   cases ha : anyW ws with
   | error e => rw [ha] at q2; injection q2 with q2; subst q2; exact hp _ _ _ ha (j.t.trans q1)
   | ok p => rw [ha] at q2; obtain ⟨v', q2, _⟩ := q2; cases q2
theorem J.name (j : J m lo hi b rb ib n0 h0 n h i ws) {Kp : KC} {K : Value → zG → Nat → Bool} (hK : ∀ a r h' n', rC ws = .ok (a, r) → J m lo hi b rb ib n0 h0 n' h' i r → K (str a) h' n' = true)
 (hp : ∀ e h' n', rC ws = .error e → TouchE [b] h0 n0 h' n' → Kp (tI e) h' n' = true) : yY (loS P 8) 117 [ptr b 0] h n Kp K = true := by
 refine yX (name_comes j.w) (fun v h1 n1 q => ?_) (fun c h1 n1 q => ?_)
 · obtain ⟨q1, q2⟩ := q
   cases ha : rC ws with
   | error e => rw [ha] at q2; cases q2
   | ok p =>
    rw [ha] at q2;obtain ⟨v', q2, e, w1⟩ := q2;injection q2 with q2; subst q2; subst e
    exact hK _ _ _ _ ha (j.call q1 w1)
 · obtain ⟨q1, q2⟩ := q
   cases ha : rC ws with
   | error e => rw [ha] at q2; injection q2 with q2; subst q2; exact hp _ _ _ ha (j.t.trans q1)
   | ok p => rw [ha] at q2; obtain ⟨v', q2, _⟩ := q2; cases q2
theorem J.next (j : J m lo hi b rb ib n0 h0 n h i ws) {Kp : KC} {K : Value → zG → Nat → Bool} (hK : ∀ a r h' n', nextW ws = .ok (a, r) → J m lo hi b rb ib n0 h0 n' h' i r → K (str a) h' n' = true)
 (hp : ∀ e h' n', nextW ws = .error e → TouchE [b] h0 n0 h' n' → Kp (tI e) h' n' = true) : yY (loS P 8) 153 [ptr b 0] h n Kp K = true := by
 refine yX (next_comes j.w) (fun v h1 n1 q => ?_) (fun c h1 n1 q => ?_)
 · obtain ⟨q1, q2⟩ := q
   cases ha : nextW ws with
   | error e => rw [ha] at q2; cases q2
   | ok p =>
    rw [ha] at q2;obtain ⟨v', q2, e, w1⟩ := q2;injection q2 with q2; subst q2; subst e
    exact hK _ _ _ _ ha (j.call q1 w1)
 · obtain ⟨q1, q2⟩ := q
   cases ha : nextW ws with
   | error e => rw [ha] at q2; injection q2 with q2; subst q2; exact hp _ _ _ ha (j.t.trans q1)
   | ok p => rw [ha] at q2; obtain ⟨v', q2, _⟩ := q2; cases q2
theorem J.want (j : J m lo hi b rb ib n0 h0 n h i ws) (x : Tx) {Kp : KC} {K : Value → zG → Nat → Bool} (hK : ∀ r h' n', wantW x ws = .ok ((), r) → J m lo hi b rb ib n0 h0 n' h' i r → K (.tuple ⟨[]⟩) h' n' = true)
 (hp : ∀ e h' n', wantW x ws = .error e → TouchE [b] h0 n0 h' n' → Kp (tI e) h' n' = true) : yY (loS P 8) 116 [ptr b 0, str x] h n Kp K = true := by
 refine yX (want_comes j.w x) (fun v h1 n1 q => ?_) (fun c h1 n1 q => ?_)
 · obtain ⟨q1, q2⟩ := q
   cases ha : wantW x ws with
   | error e => rw [ha] at q2; cases q2
   | ok p =>
    rw [ha] at q2;obtain ⟨v', q2, e, w1⟩ := q2;injection q2 with q2; subst q2; subst e
    exact hK _ _ _ ha (j.call q1 w1)
 · obtain ⟨q1, q2⟩ := q
   cases ha : wantW x ws with
   | error e => rw [ha] at q2; injection q2 with q2; subst q2; exact hp _ _ _ ha (j.t.trans q1)
   | ok p => rw [ha] at q2; obtain ⟨v', q2, _⟩ := q2; cases q2
theorem J.nums (j : J m lo hi b rb ib n0 h0 n h i ws) {Kp : KC} {K : Value → zG → Nat → Bool} (hK : ∀ l r v h' n', vQ ws = .ok (l, r) → J m lo hi b rb ib n0 h0 n' h' i r → Own (rb + 1) n' h' v 3 1 l.length (l.map I64) → l.length < 100000 → xK v ≠ some ib → K v h' n' = true)
 (hp : ∀ e h' n', vQ ws = .error e → TouchE [b] h0 n0 h' n' → Kp (tI e) h' n' = true) : yY (loS P 8) 121 [ptr b 0, .func (.func 122) ⟨[ptr b 0]⟩ ⟨[]⟩] h n Kp K = true := by
 obtain ⟨b1, b2, b3, b4, b5⟩ := j.b8;refine yX (restI_comes j.w j.env j.g) (fun v h1 n1 q => ?_) (fun c h1 n1 q => ?_)
 · obtain ⟨q1, q2⟩ := q
   cases ha : vQ ws with
   | error e => rw [ha] at q2; cases q2
   | ok p =>
    rw [ha] at q2;obtain ⟨v', q2, o1, l1, w1⟩ := q2;injection q2 with q2; subst q2
    exact hK _ _ _ _ _ ha (j.call q1 w1) (o1.low j.rb0.2) l1 (fun e => by have := (o1.ge _ e).1; omega)
 · obtain ⟨q1, q2⟩ := q
   cases ha : vQ ws with
   | error e => rw [ha] at q2; injection q2 with q2; subst q2; exact hp _ _ _ ha (j.t.trans q1)
   | ok p => rw [ha] at q2; obtain ⟨v', q2, _⟩ := q2; cases q2
theorem J.called (j : J m lo hi b rb ib n0 h0 n h i ws) {Kp : KC} {K : Value → zG → Nat → Bool} (hK : ∀ i' r h' n', rV i ws = .ok (i', r) → J m lo hi b rb ib n0 h0 n' h' i' r → K (.tuple ⟨[]⟩) h' n' = true)
 (hp : ∀ e h' n', rV i ws = .error e → TouchE [b] h0 n0 h' n' → Kp (tI e) h' n' = true) : yY (loS P 8) 158 [ptr ib 0, ptr b 0] h n Kp K = true := by
 obtain ⟨b1, b2, b3, b4, b5⟩ := j.b8;obtain ⟨a, sv, c, d, e, f⟩ := j.i;obtain ⟨vs, v1, v2⟩ := j.r;have hh := j.hi0; have hr := j.rb0; have hib := j.ib0;refine yX (called_comes j.w j.env j.g c a (by omega)) (fun v h1 n1 q => ?_) (fun c h1 n1 q => ?_)
 · obtain ⟨q1, q2⟩ := q
   cases ha : rV i ws with
   | error e => rw [ha] at q2; cases q2
   | ok p =>
    rw [ha] at q2;obtain ⟨q2, i1, w1⟩ := q2;injection q2 with q2; subst q2
    refine hK _ _ _ _ ha ⟨j.t.step q1 (fun x hx => by simp at hx; rcases hx with rfl | rfl; exact .inl (by simp); exact .inr hib.1), j.env.touch q1 (by omega) (fun x hx => by simp at hx; rcases hx with rfl | rfl <;> omega), w1, ⟨vs, v1, v2.touch q1 hr.2 (by simp; omega)⟩, i1.low hr.2, j.g, j.hi0, ⟨hr.1, Nat.lt_of_lt_of_le hr.2 q1.1⟩, hib⟩
 · obtain ⟨q1, q2⟩ := q
   cases ha : rV i ws with
   | error e => rw [ha] at q2; injection q2 with q2; subst q2; exact hp _ _ _ ha (j.t.step q1 (fun x hx => by simp at hx; rcases hx with rfl | rfl; exact .inl (by simp); exact .inr hib.1))
   | ok p => rw [ha] at q2; obtain ⟨q2, _⟩ := q2; cases q2
theorem J.tell (j : J m lo hi b rb ib n0 h0 n h i ws) {f : FuncId} (hr : wF P f = some [.cell 2 50]) {k : KO} {u : Option zX} {T : Value → Fr} (hT : ∀ v, zA (T v) 2 = ptr rb 0)
 (hk : ∀ v h' n', RQV lo hi b h0 n0 (.ok (i, ws)) (.ret v) h' n' → k (.ret v) u h' n' = true) :
 opt (zF P 50 h (ptr ib 0)) (fun v => zW P 50 (ptr rb 0) v h n fun h' n' _ => zO P (loS P 8) f k .ret (T v) ⟨[], u, h', n'⟩) = true := by
 obtain ⟨b1, b2, b3, b4, b5⟩ := j.b8;obtain ⟨a, sv, c, d, e, f'⟩ := j.i;obtain ⟨vs, v1, v2⟩ := j.r;have hh := j.hi0; have hrb := j.rb0; have hib := j.ib0;refine opt_of (xE c sh50 rfl (by decide)) ?_
 have hone : ∀ x ∈ uY i sv, x.oneCell' = true := by
  intro x hx;simp only [uY, List.mem_cons, List.not_mem_nil, or_false] at hx;rcases hx with rfl | rfl | rfl | rfl | rfl | rfl | rfl | rfl | rfl <;> first | rfl | exact d.one
 refine xQ v2 sh50 rfl v1 hone fun h' c' k' => ?_;have t : TouchE [rb] h n h' n := zS k' (by simp);refine leaveC hr (hT _) (xE c' sh50 rfl (by decide)) (hk _ _ _ ⟨j.t.step t (fun x hx => by simp at hx; subst hx; exact .inr hrb.1), sv, rfl, ?_, e, j.w.touch t (fun x hx => by simp at hx; subst hx; exact .inr (by omega))⟩);exact (d.touch t (fun x hx hS => by have := (d.ge x hx).1; simp at hS; omega)).low (by omega)
end
set_option maxHeartbeats 4000000
theorem wE (Q : Fr → W → Prop) {z : Bool} {A B : KN → Bool} {kn : KN} (hkn : ∀ t w, Q t w → kn t w = true) (ht : z = true → ∀ kk : KN, (∀ t w, Q t w → kk t w = true) → A kk = true) (hf : z = false → ∀ kk : KN, (∀ t w, Q t w → kk t w = true) → B kk = true) : brJ z A B kn = true := by
 cases z with
 | true => exact ht rfl kn hkn
 | false => exact hf rfl kn hkn
theorem wN (Q : Fr → W → Prop) {A : KN → Bool} {kn : KN} (hkn : ∀ t w, Q t w → kn t w = true) (h : ∀ kk : KN, (∀ t w, Q t w → kk t w = true) → A kk = true) : blkJ A kn = true := h kn hkn
def Done (m : Int) (lo hi b rb ib n0 : Nat) (h0 : zG) (u : Option zX) (g : Res Ins) (t : Fr) (w : W) : Prop :=
 zA t 2 = ptr rb 0 ∧ zA t 3 = ptr ib 0 ∧ ∃ h n i ws, w = ⟨[], u, h, n⟩ ∧ J m lo hi b rb ib n0 h0 n h i ws ∧ g = .ok (i, ws)
theorem defining_comes {m : Int} {lo hi n b : Nat} {h : zG} {ws : List Tx} (w : WordsAt lo hi n h b ws) (hE : Env m h) (hg : 8 ≤ lo) :
 ComesE P 8 157 [ptr b 0] h n (RQV lo hi b h n (wC ws)) := by
 refine yR zM mixed (hint := hint157) l157 fun u k hk => ?_;rw [F157_eq];unfold F157;have hn8 : 8 ≤ n := by have := w.1; have := w.2.1; omega
 refine wR ze50 fun h1 c1 x1 => ?_;have w1 := w.touch (x1.touch []) (fun _ h => by cases h);have hE1 := hE.touch (x1.touch []) hn8 (fun _ h => by cases h);refine callI_comes (number_comes w1 hE1 hg) (fun v h2 n2 q => ?_) (fun c h2 n2 q => ?_)
 · obtain ⟨q1, q2⟩ := q
   cases ha : wB ws with
   | error e => rw [ha] at q2; cases q2
   | ok p =>
    obtain ⟨a, r⟩ := p;have hm : wC ws = wC ws := rfl;conv at hm => rhs; unfold wC
    rw [ha] at q2 hm;obtain ⟨v', q2, rfl, w2⟩ := q2;injection q2 with q2; subst q2
    dsimp only at hm;refine ⟨a, rfl, ?_⟩;have e1 : vR P 50 [(1, .int .i64 a)] = some (.agg ⟨uY { Ins.z with d := a } (.slice none 0 0)⟩) := by kernel_rfl
    simp only [↓e1, ↓zD];have q1n := q1.1;have hbn : b < n := by have := w.2.1; omega
    refine wR ze50 fun h3 c3 x3 => ?_;refine xQ c3 sh50 rfl rfl (by intro x hx; simp only [uY, List.mem_cons, List.not_mem_nil, or_false] at hx; rcases hx with rfl | rfl | rfl | rfl | rfl | rfl | rfl | rfl | rfl <;> rfl) fun h4 c4 k4 => ?_;have t14 : TouchE [n2] h2 n2 h4 (n2 + 1) := (x3.touch _).trans (zS k4 (by simp));have t04 : TouchE [b] h n h4 (n2 + 1) := ((x1.touch [b]).trans q1).step t14 (fun x hx => by simp at hx; subst hx; exact .inr (by omega))
    have j : J m lo hi b n n2 n h (n2 + 1) h4 { Ins.z with d := a } r := by
     refine ⟨t04, hE.touch t04 hn8 (fun x hx => by simp at hx; subst hx; have := w.1; omega), w2.touch t14 (fun x hx => by simp at hx; subst hx; exact .inr (by have := w.2.1; omega)), ⟨_, rfl, (c1.touch q1 (by omega) (by simp; omega)).touch t14 (by omega) (by simp; omega)⟩, ⟨by omega, _, c4, .inl ⟨rfl, rfl, rfl⟩, by show 0 < 100000; omega, fun e => by cases e⟩, hg, w.2.1.2, ⟨Nat.le_refl _, by omega⟩, ⟨by omega, by omega⟩⟩
    refine j.want tEq (fun r1 h5 n5 hw j => ?_) (fun e h5 n5 hw t5 => ?_)
    · rw [hw] at hm;dsimp only at hm;refine j.name (fun s r2 h6 n6 hs j => ?_) (fun e h6 n6 hs t6 => ?_)
      · rw [hs] at hm;dsimp only at hm;have e0 : ∀ K, yD xZ P .eql 9 true (str s) (.string (ByteArray.mk #[99, 111, 110, 115, 116])) K = K (s == pW) := fun K => vG _ _ _ _ _ K;have e1 : ∀ K, yD xZ P .eql 9 true (str s) (.string (ByteArray.mk #[99, 111, 112, 121])) K = K (s == tCopy) := fun K => vG _ _ _ _ _ K;have e2 : ∀ K, yD xZ P .eql 9 true (str s) (.string (ByteArray.mk #[108, 111, 97, 100])) K = K (s == tLoad) := fun K => vG _ _ _ _ _ K;have e3 : ∀ K, yD xZ P .eql 9 true (str s) (.string (ByteArray.mk #[99, 97, 108, 108])) K = K (s == tCall) := fun K => vG _ _ _ _ _ K;simp only [↓e0, ↓e1, ↓e2, ↓e3];refine wN (Done m lo hi b n n2 n h u (wC ws)) (fun t w q => ?_) (fun kk hkk => ?_)
        · obtain ⟨t2, t3, h8, n8, i8, ws8, rfl, j8, g8⟩ := q;rw [g8] at hk;simp only [t2, t3, ↓zC, ↓xB];exact j8.tell r157 (fun _ => rfl) (fun v h' n' q => hk _ _ _ q)
        refine wE (Done m lo hi b n n2 n h u (wC ws)) (fun t w q => ?_) (fun hc kk' hkk' => ?_) (fun hc kk hkk => ?_)
        · obtain ⟨t2, t3, h8, n8, i8, ws8, rfl, j8, g8⟩ := q;simp only [t2, t3, ↓zC, ↓xB];exact hkk _ _ ⟨rfl, rfl, _, _, _, _, rfl, j8, g8⟩
        · rw [hc, if_pos rfl] at hm;refine j.any (fun x0 r0 ha0 na0 hx j => ?_) (fun e h7 n7 hx t7 => ?_)
          · rw [hx] at hm;dsimp only at hm;try simp only [↓tO, ↓zD]
            refine j.store sh3 (by decide) rfl (i' := { Ins.z with d := a, kind := 1 }) (fun _ => rfl) rfl fun hb0 j => ?_;try simp only [↓fa50_4, ↓zD]
            refine j.store sh3 (by decide) rfl (i' := { Ins.z with d := a, kind := 1, n := x0 }) (fun _ => rfl) rfl fun hc0 j => ?_;exact hkk' _ _ ⟨rfl, rfl, _, _, _, _, rfl, j, hm⟩
          · rw [hx] at hm;exact yT r157 (hk _ _ _ (by rw [hm]; exact ⟨t7, rfl⟩))
        rw [hc, if_neg Bool.false_ne_true] at hm;refine wE (Done m lo hi b n n2 n h u (wC ws)) (fun t w q => ?_) (fun hc kk' hkk' => ?_) (fun hc kk hkk => ?_)
        · obtain ⟨t2, t3, h8, n8, i8, ws8, rfl, j8, g8⟩ := q;simp only [t2, t3, ↓zC, ↓xB];exact hkk _ _ ⟨rfl, rfl, _, _, _, _, rfl, j8, g8⟩
        · rw [hc, if_pos rfl] at hm;refine j.num (fun x0 r0 ha0 na0 hx j => ?_) (fun e h7 n7 hx t7 => ?_)
          · rw [hx] at hm;dsimp only at hm;try simp only [↓tO, ↓zD]
            refine j.store sh3 (by decide) rfl (i' := { Ins.z with d := a, kind := 2 }) (fun _ => rfl) rfl fun hb0 j => ?_;try simp only [↓rS, ↓zD]
            refine j.store sh3 (by decide) rfl (i' := { Ins.z with d := a, kind := 2, a := x0 }) (fun _ => rfl) rfl fun hc0 j => ?_;exact hkk' _ _ ⟨rfl, rfl, _, _, _, _, rfl, j, hm⟩
          · rw [hx] at hm;exact yT r157 (hk _ _ _ (by rw [hm]; exact ⟨t7, rfl⟩))
        rw [hc, if_neg Bool.false_ne_true] at hm;refine wE (Done m lo hi b n n2 n h u (wC ws)) (fun t w q => ?_) (fun hc kk' hkk' => ?_) (fun hc kk hkk => ?_)
        · obtain ⟨t2, t3, h8, n8, i8, ws8, rfl, j8, g8⟩ := q;simp only [t2, t3, ↓zC, ↓xB];exact hkk _ _ ⟨rfl, rfl, _, _, _, _, rfl, j8, g8⟩
        · rw [hc, if_pos rfl] at hm;refine j.num (fun x0 r0 ha0 na0 hx j => ?_) (fun e h7 n7 hx t7 => ?_)
          · rw [hx] at hm;dsimp only at hm;try simp only [↓tO, ↓zD]
            refine j.store sh3 (by decide) rfl (i' := { Ins.z with d := a, kind := 4 }) (fun _ => rfl) rfl fun hb0 j => ?_;try simp only [↓rS, ↓zD]
            refine j.store sh3 (by decide) rfl (i' := { Ins.z with d := a, kind := 4, a := x0 }) (fun _ => rfl) rfl fun hc0 j => ?_;exact hkk' _ _ ⟨rfl, rfl, _, _, _, _, rfl, j, hm⟩
          · rw [hx] at hm;exact yT r157 (hk _ _ _ (by rw [hm]; exact ⟨t7, rfl⟩))
        rw [hc, if_neg Bool.false_ne_true] at hm;refine wE (Done m lo hi b n n2 n h u (wC ws)) (fun t w q => ?_) (fun hc kk' hkk' => ?_) (fun hc kk hkk => ?_)
        · obtain ⟨t2, t3, h8, n8, i8, ws8, rfl, j8, g8⟩ := q;simp only [t2, t3, ↓zC, ↓xB];exact hkk _ _ ⟨rfl, rfl, _, _, _, _, rfl, j8, g8⟩
        · rw [hc, if_pos rfl] at hm;refine j.called (fun i' r3 h7 n7 hx j => ?_) (fun e h7 n7 hx t7 => ?_)
          · rw [hx] at hm;exact hkk' _ _ ⟨rfl, rfl, _, _, _, _, rfl, j, hm⟩
          · rw [hx] at hm;exact yT r157 (hk _ _ _ (by rw [hm]; exact ⟨t7, rfl⟩))
        rw [hc, if_neg Bool.false_ne_true] at hm;try simp only [↓tO, ↓qX, ↓sY, ↓zD, ↓xG]
        refine j.store sh3 (by decide) rfl (i' := { Ins.z with kind := 3, d := a }) (fun _ => rfl) rfl fun h8 j => ?_;try simp only [↓tO, ↓qX, ↓sY, ↓zD, ↓xG]
        refine j.store sh9 (by decide) rfl (i' := { Ins.z with kind := 3, d := a, name := s }) (fun _ => rfl) rfl fun h9 j => ?_;try simp only [↓xG]
        refine j.nums (fun l r3 v h7 n7 hx j o7 l7 b7 => ?_) (fun e h7 n7 hx t7 => ?_)
        · rw [hx] at hm;dsimp only at hm;try simp only [↓tO, ↓qX, ↓sY, ↓zD, ↓xG]
          refine j.args sh40 o7 l7 b7 fun h10 j e6 o10 => ?_;have e7 := xI (P := P) us40 (o10.row (Nat.le_refl 1)) [] h10;try simp only [↓sY, ↓e6, ↓zD, ↓e7, ↓zE]
          by_cases h1l : 1 ≤ l.length
          · rw [if_pos h1l] at hm;have e8 : rU 1 (l.length : Nat) = true := by rw [vF]; exact decide_eq_true (by omega)
            simp only [↓e8, ↓zY];refine yC (fun _ => ?_) (fun e => by cases e);try simp only [↓sY, ↓e6, ↓zD, ↓e7, ↓zE]
            by_cases h2l : l.length ≤ 2
            · rw [if_pos h2l] at hm;have e9 : rU (l.length : Nat) 2 = true := by rw [vF]; exact decide_eq_true (by omega)
              simp only [↓e9, ↓zY];refine yC (fun _ => ?_) (fun e => by cases e);exact hkk _ _ ⟨rfl, rfl, _, _, _, _, rfl, j, hm⟩
            · rw [if_neg h2l] at hm;have e9 : rU (l.length : Nat) 2 = false := by rw [vF]; exact decide_eq_false (by omega)
              simp only [↓e9, ↓zY];refine yC (fun e => by cases e) (fun _ => ?_);exact yT r157 (hk _ _ _ (by rw [hm]; exact ⟨j.t, rfl⟩))
          · rw [if_neg h1l] at hm;have e8 : rU 1 (l.length : Nat) = false := by rw [vF]; exact decide_eq_false (by omega)
            simp only [↓e8, ↓zY];refine yC (fun e => by cases e) (fun _ => ?_);exact yT r157 (hk _ _ _ (by rw [hm]; exact ⟨j.t, rfl⟩))
        · rw [hx] at hm;exact yT r157 (hk _ _ _ (by rw [hm]; exact ⟨t7, rfl⟩))
      · rw [hs] at hm;exact yT r157 (hk _ _ _ (by rw [hm]; exact ⟨t6, rfl⟩))
    · rw [hw] at hm;exact yT r157 (hk _ _ _ (by rw [hm]; exact ⟨t5, rfl⟩))
 · obtain ⟨q1, q2⟩ := q;unfold wC at hk
   cases ha : wB ws with
   | error e => rw [ha] at q2 hk; injection q2 with q2; subst q2; exact yT r157 (hk _ _ _ ⟨(x1.touch [b]).trans q1, rfl⟩)
   | ok p => rw [ha] at q2; obtain ⟨v', q2, _⟩ := q2; cases q2
theorem one_comes {m : Int} {lo hi n b : Nat} {h : zG} {ws : List Tx} (w : WordsAt lo hi n h b ws) (hE : Env m h) (hg : 8 ≤ lo) :
 ComesE P 8 123 [ptr b 0] h n (RQV lo hi b h n (oneI ws)) := by
 refine yR zM mixed (hint := hint123) l123 fun u k hk => ?_;rw [F123_eq];unfold F123;have hn8 : 8 ≤ n := by have := w.1; have := w.2.1; omega
 have hbn : b < n := by have := w.2.1; omega
 have hm : oneI ws = oneI ws := rfl;conv at hm => rhs; unfold oneI
 refine wR ze50 fun h1 c1 x1 => ?_;have w1 := w.touch (x1.touch []) (fun _ h => by cases h);have hE1 := hE.touch (x1.touch []) hn8 (fun _ h => by cases h);refine uO (peek_pure w1) ?_;have ee : ∀ (x : Tx) K, yD xZ P .eql 9 true (str x) (.string (ByteArray.mk #[61])) K = K (x == tEq) := fun x K => vG _ _ _ _ _ K;simp only [↓ee]
 cases hq : (wordAt1 ws == tEq) with
 | true =>
  rw [hq, if_pos rfl] at hm;simp only [↓uK];refine yX (defining_comes w1 hE1 hg) (fun v h2 n2 q => ?_) (fun c h2 n2 q => ?_)
  · obtain ⟨q1, q2⟩ := q
    cases ha : wC ws with
    | error e => rw [ha] at q2; cases q2
    | ok p =>
     obtain ⟨i, r⟩ := p;rw [ha] at q2 hm;obtain ⟨sv, q2, o2, l2, w2⟩ := q2;injection q2 with q2; subst q2
     have hone : ∀ x ∈ uY i sv, x.oneCell' = true := by
      intro x hx;simp only [uY, List.mem_cons, List.not_mem_nil, or_false] at hx;rcases hx with rfl | rfl | rfl | rfl | rfl | rfl | rfl | rfl | rfl <;> first | rfl | exact o2.one
     refine xQ (c1.touch q1 (by omega) (by simp; omega)) sh50 rfl rfl hone fun h3 c3 k3 => ?_;have t3 : TouchE [n] h2 n2 h3 n2 := zS k3 (by simp);refine leaveC r123 rfl (xE c3 sh50 rfl (by decide)) (hk _ _ _ ?_);rw [hm];exact ⟨((x1.touch [b]).trans q1).step t3 (fun x hx => by simp at hx; subst hx; exact .inr (Nat.le_refl _)), sv, rfl, (o2.touch t3 (fun x hx hS => by have := (o2.ge x hx).1; simp at hS; omega)).low (by omega), l2, w2.touch t3 (fun x hx => by simp at hx; subst hx; exact .inr (by have := w.2.1; omega))⟩
  · obtain ⟨q1, q2⟩ := q
    cases ha : wC ws with
    | error e => rw [ha] at q2 hm; injection q2 with q2; subst q2; exact yT r123 (hk _ _ _ (by rw [hm]; exact ⟨(x1.touch [b]).trans q1, rfl⟩))
    | ok p => rw [ha] at q2; obtain ⟨v', q2, _⟩ := q2; cases q2
 | false =>
  rw [hq, if_neg Bool.false_ne_true] at hm;simp only [↓uS];have e1 : vR P 50 [] = some (.agg ⟨uY Ins.z (.slice none 0 0)⟩) := by kernel_rfl
  simp only [↓e1, ↓zD];refine wR ze50 fun h3 c3 x3 => ?_;refine xQ c3 sh50 rfl rfl (by intro x hx; simp only [uY, List.mem_cons, List.not_mem_nil, or_false] at hx; rcases hx with rfl | rfl | rfl | rfl | rfl | rfl | rfl | rfl | rfl <;> rfl) fun h4 c4 k4 => ?_;have t14 : TouchE [n + 1] h1 (n + 1) h4 (n + 1 + 1) := (x3.touch _).trans (zS k4 (by simp));have t04 : TouchE [b] h n h4 (n + 1 + 1) := (x1.touch [b]).step t14 (fun x hx => by simp at hx; subst hx; exact .inr (by omega))
  have j : J m lo hi b n (n + 1) n h (n + 1 + 1) h4 Ins.z ws := by
   refine ⟨t04, hE.touch t04 hn8 (fun x hx => by simp at hx; subst hx; have := w.1; omega), w1.touch t14 (fun x hx => by simp at hx; subst hx; exact .inr (by have := w.2.1; omega)), ⟨_, rfl, c1.touch t14 (by omega) (by simp)⟩, ⟨by omega, _, c4, .inl ⟨rfl, rfl, rfl⟩, by show 0 < 100000; omega, fun e => by cases e⟩, hg, w.2.1.2, ⟨Nat.le_refl _, by omega⟩, ⟨by omega, by omega⟩⟩
  refine j.next (fun s r h6 n6 hs j => ?_) (fun e h6 n6 hs t6 => ?_)
  · rw [hs] at hm;dsimp only at hm;have e0 : ∀ K, yD xZ P .eql 9 true (str s) (.string (ByteArray.mk #[115, 116, 111, 114, 101])) K = K (s == tStore) := fun K => vG _ _ _ _ _ K;have e1 : ∀ K, yD xZ P .eql 9 true (str s) (.string (ByteArray.mk #[99, 97, 108, 108])) K = K (s == tCall) := fun K => vG _ _ _ _ _ K;have e2 : ∀ K, yD xZ P .eql 9 true (str s) (.string (ByteArray.mk #[98, 114])) K = K (s == tBr) := fun K => vG _ _ _ _ _ K;have e3 : ∀ K, yD xZ P .eql 9 true (str s) (.string (ByteArray.mk #[106, 117, 109, 112])) K = K (s == tJump) := fun K => vG _ _ _ _ _ K;have e4 : ∀ K, yD xZ P .eql 9 true (str s) (.string (ByteArray.mk #[114, 101, 116])) K = K (s == tRet) := fun K => vG _ _ _ _ _ K;simp only [↓e0, ↓e1, ↓e2, ↓e3, ↓e4];refine wN (Done m lo hi b n (n + 1) n h u (oneI ws)) (fun t w q => ?_) (fun kk hkk => ?_)
    · obtain ⟨t2, t3, h8, n8, i8, ws8, rfl, j8, g8⟩ := q;rw [g8] at hk;simp only [t2, t3, ↓zC, ↓xB];exact j8.tell r123 (fun _ => rfl) (fun v h' n' q => hk _ _ _ q)
    refine wE (Done m lo hi b n (n + 1) n h u (oneI ws)) (fun t w q => ?_) (fun hc kk' hkk' => ?_) (fun hc kk hkk => ?_)
    · obtain ⟨t2, t3, h8, n8, i8, ws8, rfl, j8, g8⟩ := q;simp only [t2, t3, ↓zC, ↓xB];exact hkk _ _ ⟨rfl, rfl, _, _, _, _, rfl, j8, g8⟩
    · rw [hc, if_pos rfl] at hm;refine j.num (fun x0 r0 ha0 na0 hx j => ?_) (fun e h7 n7 hx t7 => ?_)
      · rw [hx] at hm;dsimp only at hm;try simp only [↓tO, ↓zD]
        refine j.store sh3 (by decide) rfl (i' := { Ins.z with kind := 5 }) (fun _ => rfl) rfl fun hb0 j => ?_;try simp only [↓rS, ↓zD]
        refine j.store sh3 (by decide) rfl (i' := { Ins.z with kind := 5, a := x0 }) (fun _ => rfl) rfl fun hc0 j => ?_;refine j.num (fun x1 r1 ha1 na1 hx j => ?_) (fun e h7 n7 hx t7 => ?_)
        · rw [hx] at hm;dsimp only at hm;try simp only [↓fa50_3, ↓zD]
          refine j.store sh3 (by decide) rfl (i' := { Ins.z with kind := 5, a := x0, b := x1 }) (fun _ => rfl) rfl fun hc1 j => ?_;exact hkk' _ _ ⟨rfl, rfl, _, _, _, _, rfl, j, hm⟩
        · rw [hx] at hm;exact yT r123 (hk _ _ _ (by rw [hm]; exact ⟨t7, rfl⟩))
      · rw [hx] at hm;exact yT r123 (hk _ _ _ (by rw [hm]; exact ⟨t7, rfl⟩))
    rw [hc, if_neg Bool.false_ne_true] at hm;refine wE (Done m lo hi b n (n + 1) n h u (oneI ws)) (fun t w q => ?_) (fun hc kk' hkk' => ?_) (fun hc kk hkk => ?_)
    · obtain ⟨t2, t3, h8, n8, i8, ws8, rfl, j8, g8⟩ := q;simp only [t2, t3, ↓zC, ↓xB];exact hkk _ _ ⟨rfl, rfl, _, _, _, _, rfl, j8, g8⟩
    · rw [hc, if_pos rfl] at hm;simp only [↓fa50_1, ↓zD];refine j.store sh3 (by decide) rfl (i' := { Ins.z with d := -1 }) (fun _ => rfl) rfl fun h8 j => ?_;refine j.called (fun i' r3 h7 n7 hx j => ?_) (fun e h7 n7 hx t7 => ?_)
      · rw [hx] at hm;exact hkk' _ _ ⟨rfl, rfl, _, _, _, _, rfl, j, hm⟩
      · rw [hx] at hm;exact yT r123 (hk _ _ _ (by rw [hm]; exact ⟨t7, rfl⟩))
    rw [hc, if_neg Bool.false_ne_true] at hm;refine wE (Done m lo hi b n (n + 1) n h u (oneI ws)) (fun t w q => ?_) (fun hc kk' hkk' => ?_) (fun hc kk hkk => ?_)
    · obtain ⟨t2, t3, h8, n8, i8, ws8, rfl, j8, g8⟩ := q;simp only [t2, t3, ↓zC, ↓xB];exact hkk _ _ ⟨rfl, rfl, _, _, _, _, rfl, j8, g8⟩
    · rw [hc, if_pos rfl] at hm;refine j.num (fun x0 r0 ha0 na0 hx j => ?_) (fun e h7 n7 hx t7 => ?_)
      · rw [hx] at hm;dsimp only at hm;try simp only [↓tO, ↓zD]
        refine j.store sh3 (by decide) rfl (i' := { Ins.z with kind := 7 }) (fun _ => rfl) rfl fun hb0 j => ?_;try simp only [↓rS, ↓zD]
        refine j.store sh3 (by decide) rfl (i' := { Ins.z with kind := 7, a := x0 }) (fun _ => rfl) rfl fun hc0 j => ?_;refine j.num (fun x1 r1 ha1 na1 hx j => ?_) (fun e h7 n7 hx t7 => ?_)
        · rw [hx] at hm;dsimp only at hm;try simp only [↓fa50_7, ↓zD]
          refine j.store sh3 (by decide) rfl (i' := { Ins.z with kind := 7, a := x0, t := x1 }) (fun _ => rfl) rfl fun hc1 j => ?_;refine j.num (fun x2 r2 ha2 na2 hx j => ?_) (fun e h7 n7 hx t7 => ?_)
          · rw [hx] at hm;dsimp only at hm;try simp only [↓fa50_8, ↓zD]
            refine j.store sh3 (by decide) rfl (i' := { Ins.z with kind := 7, a := x0, t := x1, f := x2 }) (fun _ => rfl) rfl fun hc2 j => ?_;exact hkk' _ _ ⟨rfl, rfl, _, _, _, _, rfl, j, hm⟩
          · rw [hx] at hm;exact yT r123 (hk _ _ _ (by rw [hm]; exact ⟨t7, rfl⟩))
        · rw [hx] at hm;exact yT r123 (hk _ _ _ (by rw [hm]; exact ⟨t7, rfl⟩))
      · rw [hx] at hm;exact yT r123 (hk _ _ _ (by rw [hm]; exact ⟨t7, rfl⟩))
    rw [hc, if_neg Bool.false_ne_true] at hm;refine wE (Done m lo hi b n (n + 1) n h u (oneI ws)) (fun t w q => ?_) (fun hc kk' hkk' => ?_) (fun hc kk hkk => ?_)
    · obtain ⟨t2, t3, h8, n8, i8, ws8, rfl, j8, g8⟩ := q;simp only [t2, t3, ↓zC, ↓xB];exact hkk _ _ ⟨rfl, rfl, _, _, _, _, rfl, j8, g8⟩
    · rw [hc, if_pos rfl] at hm;refine j.num (fun x0 r0 ha0 na0 hx j => ?_) (fun e h7 n7 hx t7 => ?_)
      · rw [hx] at hm;dsimp only at hm;try simp only [↓tO, ↓zD]
        refine j.store sh3 (by decide) rfl (i' := { Ins.z with kind := 8 }) (fun _ => rfl) rfl fun hb0 j => ?_;try simp only [↓fa50_7, ↓zD]
        refine j.store sh3 (by decide) rfl (i' := { Ins.z with kind := 8, t := x0 }) (fun _ => rfl) rfl fun hc0 j => ?_;exact hkk' _ _ ⟨rfl, rfl, _, _, _, _, rfl, j, hm⟩
      · rw [hx] at hm;exact yT r123 (hk _ _ _ (by rw [hm]; exact ⟨t7, rfl⟩))
    rw [hc, if_neg Bool.false_ne_true] at hm;refine wE (Done m lo hi b n (n + 1) n h u (oneI ws)) (fun t w q => ?_) (fun hc kk' hkk' => ?_) (fun hc kk hkk => ?_)
    · obtain ⟨t2, t3, h8, n8, i8, ws8, rfl, j8, g8⟩ := q;simp only [t2, t3, ↓zC, ↓xB];exact hkk _ _ ⟨rfl, rfl, _, _, _, _, rfl, j8, g8⟩
    · rw [hc, if_pos rfl] at hm;refine j.num (fun x0 r0 ha0 na0 hx j => ?_) (fun e h7 n7 hx t7 => ?_)
      · rw [hx] at hm;dsimp only at hm;try simp only [↓tO, ↓zD]
        refine j.store sh3 (by decide) rfl (i' := { Ins.z with kind := 9 }) (fun _ => rfl) rfl fun hb0 j => ?_;try simp only [↓rS, ↓zD]
        refine j.store sh3 (by decide) rfl (i' := { Ins.z with kind := 9, a := x0 }) (fun _ => rfl) rfl fun hc0 j => ?_;exact hkk' _ _ ⟨rfl, rfl, _, _, _, _, rfl, j, hm⟩
      · rw [hx] at hm;exact yT r123 (hk _ _ _ (by rw [hm]; exact ⟨t7, rfl⟩))
    rw [hc, if_neg Bool.false_ne_true] at hm;refine yC (fun e => by cases e) (fun _ => ?_);exact yT r123 (hk _ _ _ (by rw [hm]; exact ⟨j.t, rfl⟩))
  · rw [hs] at hm;exact yT r123 (hk _ _ _ (by rw [hm]; exact ⟨t6, rfl⟩))
set_option maxRecDepth 1000000
theorem xcall_caught (L : Lo) (g : FuncId) (first cap : List Value) (u : Option zX) (h : zG) (n : Nat) (k : KO) :
 xcall P (Lo.next P L) 125 [.func (.func g) ⟨first⟩ ⟨cap⟩] false u h n k =
  yL h n (vP [.int .i64 0] 25) fun h1 n1 =>
   qM L (.func (.func g) ⟨first⟩ ⟨cap⟩) [] h1 n1
    (fun v h2 n2 => storeAt h2 n 0 [.int .i64 0] fun h3 => tK P L Tryz.f125 none (((((fr0.set undef (.func (.func g) ⟨first⟩ ⟨cap⟩) 0).set undef (ptr n 0) 2).set undef (.func (.func 161) #[] #[ptr n 0]) 3).set undef (.func (.func g) ⟨first⟩ ⟨cap⟩) 4).set undef v 5) ⟨[{ target := .fn (.func 161) #[ptr n 0], args := #[] }], u, h3, n2⟩ k)
    (fun c h2 n2 => tK P L Tryz.f125 (some c) ((((fr0.set undef (.func (.func g) ⟨first⟩ ⟨cap⟩) 0).set undef (ptr n 0) 2).set undef (.func (.func 161) #[] #[ptr n 0]) 3).set undef (.func (.func g) ⟨first⟩ ⟨cap⟩) 4) ⟨[{ target := .fn (.func 161) #[ptr n 0], args := #[] }], u, h2, n2⟩ k) := by kernel_rfl
theorem xcall_recover0 (L : Lo) (c n : Nat) (h : zG) (k : KO) :
 xcall P (Lo.next P L) 161 [ptr c 0] true none h n k = k (.ret (.tuple ⟨[]⟩)) none h n := by kernel_rfl
theorem xcall_recover1 (L : Lo) (c n : Nat) (e : Int) (h : zG) (k : KO) :
 xcall P (Lo.next P L) 161 [ptr c 0] true (some (tI e)) h n k =
  yL h n (vP [.int .i64 0] 191) fun h1 n1 => storeAt h1 n 0 [.int .i64 e] fun h2 =>
   Option.rec false (fun v => Bool.rec false (storeAt h2 c 0 (cellsOf v) fun h3 => k (.ret (.tuple ⟨[]⟩)) (some [⟨.iface 191 (.agg ⟨[.int .i64 e]⟩), true, false⟩]) h3 n1) (Nat.beq (cellsOf v).length 1)) (zF P 25 h2 (ptr n 0)) := by kernel_rfl
theorem res_caught : Tryz.f125.results.toList = [.cell 2 25] := by kernel_rfl
theorem caught_comes {g : FuncId} {first cap : List Value} {h : zG} {n : Nat} {Q : Out → zG → Nat → Prop}
 (hg : ∀ h1, Cel h1 n (25 + 1) [I64 0] → Ext h n h1 (n + 1) → ComesE P 8 g (first ++ ([] ++ cap)) h1 (n + 1) fun o h2 n2 => Q o h2 n2 ∧ n + 1 ≤ n2 ∧ Cel h2 n (25 + 1) [I64 0])
 (hw : ∀ c h2 n2, Q (.panic c) h2 n2 → ∃ e, c = tI e) :
 ComesE P 8 125 [.func (.func g) ⟨first⟩ ⟨cap⟩] h n fun o h' n' => ∃ h2 n2, n + 1 ≤ n2 ∧ Cel h2 n (25 + 1) [I64 0] ∧ TouchE [n] h2 n2 h' n' ∧ ((∃ v, Q (.ret v) h2 n2 ∧ o = .ret (I64 0)) ∨ ∃ e, Q (.panic (tI e)) h2 n2 ∧ o = .ret (I64 e)) := by
 refine comes_intro1 zM mixed fun u k hk => ?_;rw [xcall_caught, yM];have c1 : Cel (h.set .dead (vP [.int .i64 0] 25) n) n (25 + 1) [I64 0] := cel_mkC;have x1 : Ext h n (h.set .dead (vP [.int .i64 0] 25) n) (n + 1) := pL;generalize h.set .dead (vP [.int .i64 0] 25) n = h1 at c1 x1
 refine hg h1 c1 x1 none _ fun o h2 n2 q => ?_;obtain ⟨q, hn, c2⟩ := q
 cases o with
 | ret v =>
  refine tS c2 (by simp) rfl fun h3 c3 k3 => ?_;have t3 : TouchE [n] h2 n2 h3 n2 := zS k3 (by simp);refine xleave_defer0 (Q := fun h' n' => h' = h3 ∧ n' = n2) (v := .tuple ⟨[]⟩) (fun k' hk' => call_intro1 zM mixed ?_) (fun h' n' q' => ?_)
  · show xcall P (lo1 P 8) 161 [ptr n 0] true none h3 n2 k' = true;rw [xcall_recover0];exact hk' _ _ ⟨rfl, rfl⟩
  · obtain ⟨rfl, rfl⟩ := q';exact leave_intro zM (xleave_cell res_caught (v := I64 0) (zH c3 sh25 rfl) (hk _ _ _ ⟨h2, n', hn, c2, t3, .inl ⟨v, q, rfl⟩⟩))
 | panic c =>
  obtain ⟨e, rfl⟩ := hw _ _ _ q;refine xleave_defer1 (c := tI e) (Q := fun h' n' => TouchE [n] h2 n2 h' n' ∧ Cel h' n (25 + 1) [I64 e]) (v := .tuple ⟨[]⟩) (x := .iface 191 (.agg ⟨[.int .i64 e]⟩)) (fun k' hk' => call_intro1 zM mixed ?_) (fun h' n' q' => ?_)
  · show xcall P (lo1 P 8) 161 [ptr n 0] true (some (tI e)) h2 n2 k' = true;rw [xcall_recover1, yM];have c4 : Cel (h2.set .dead (vP [.int .i64 0] 191) n2) n2 (191 + 1) [I64 0] := cel_mkC;have x4 : Ext h2 n2 (h2.set .dead (vP [.int .i64 0] 191) n2) (n2 + 1) := pL;generalize h2.set .dead (vP [.int .i64 0] 191) n2 = h4 at c4 x4
    refine tS c4 (by simp) rfl fun h5 c5 k5 => ?_;have e5 : zF P 25 h5 (ptr n2 0) = some (I64 e) := zH c5 sh25 rfl;rw [e5];have c6 := (c2.touch (x4.touch []) (by omega) (by simp)).touch (zS (n := n2 + 1) k5 (S := [n2]) (by simp)) (by omega) (by simp; omega);refine tS (v := I64 e) c6 (by simp) rfl fun h7 c7 k7 => hk' _ _ ⟨?_, c7⟩;exact (x4.touch [n]).step ((zS (n := n2 + 1) k5 (S := [n, n2]) (by simp)).trans (zS k7 (by simp))) (fun x hx => by simp at hx; rcases hx with rfl | rfl; exact .inl (by simp); exact .inr (Nat.le_refl _))
  · obtain ⟨q1, q2⟩ := q';exact leave_intro zM (xleave_cell res_caught (v := I64 e) (zH q2 sh25 rfl) (hk _ _ _ ⟨h2, n2, hn, c2, q1, .inr ⟨e, q, rfl⟩⟩))
set_option maxRecDepth 100000
def RO (M : List Nat) (n : Nat) (h : zG) (v : Value) (e sz len : Nat) (vs : List Value) : Prop := Row n h v e sz len vs ∧ (∀ b, xK v = some b → b ∉ M) ∧ ∀ b m z, xK v = some b → tM (zT h b) ≠ some (m, z + 1, 0)
theorem RO.step {M M' S : List Nat} {n n' : Nat} {h h' : zG} {v : Value} {e sz len : Nat} {vs : List Value} (r : RO M n h v e sz len vs) (t : TouchE S h n h' n') (hS : ∀ x ∈ S, x ∈ M ∨ n ≤ x) (hM : ∀ x ∈ M', x ∈ M ∨ n ≤ x) : RO M' n' h' v e sz len vs := by
 refine ⟨r.1.touch t fun b hb hbS => ?_, fun b hb hbM => ?_, fun b m z hb hi => ?_⟩
 · have := r.1.lt b hb;rcases hS b hbS with h1 | h1
   · exact r.2.1 b hb h1
   · omega
 · have := r.1.lt b hb;rcases hM b hbM with h1 | h1
   · exact r.2.1 b hb h1
   · omega
 · have hlt := r.1.lt b hb;rw [t.2 b hlt (fun hbS => (hS b hbS).elim (r.2.1 b hb) (fun h => by omega))] at hi;exact r.2.2 b m z hb hi
theorem own_ro {M : List Nat} {lo n : Nat} {h : zG} {v : Value} {e sz len : Nat} {vs : List Value} (o : Own lo n h v e sz len vs) (hsz : 1 ≤ sz) (hM : ∀ b, xK v = some b → b ∉ M) : RO M n h v e sz len vs := by
 refine ⟨o.row hsz, hM, fun b m z hb hi => ?_⟩;rcases o with ⟨rfl, _⟩ | ⟨b', q1, q2, rfl, q3, _⟩
 · cases hb
 · injection hb with hb
   subst hb;rw [q3] at hi;injection hi with hi; injection hi with _ hi; injection hi with _ hi; cases hi
theorem RO.hole {M : List Nat} {n n' x m z : Nat} {h h' : zG} {v : Value} {e sz len : Nat} {vs : List Value} (r : RO M n h v e sz len vs) (t : TouchE [x] h n h' n') (hx : tM (zT h x) = some (m, z + 1, 0)) : RO M n' h' v e sz len vs := by
 have hne : ∀ b, xK v = some b → b ≠ x := fun b hb e => r.2.2 b m z hb (by rw [e]; exact hx);refine ⟨r.1.touch t fun b hb hbS => hne b hb (by simpa using hbS), r.2.1, fun b m z hb hi => ?_⟩;rw [t.2 b (r.1.lt b hb) (by simpa using hne b hb)] at hi;exact r.2.2 b m z hb hi
theorem Own.hole {lo n n' x m z : Nat} {h h' : zG} {v : Value} {e sz len : Nat} {vs : List Value} (o : Own lo n h v e sz len vs) (t : TouchE [x] h n h' n') (hx : tM (zT h x) = some (m, z + 1, 0)) : Own lo n' h' v e sz len vs := by
 refine o.touch t fun b hb hbS => ?_;simp at hbS;subst hbS;rcases o with ⟨rfl, _⟩ | ⟨b', q1, q2, rfl, q3, _⟩
 · cases hb
 · injection hb with hb
   subst hb;rw [q3] at hx;injection hx with hx; injection hx with _ hx; injection hx with _ hx; cases hx
def vM (l : List Ins) (av : List Value) : List Value := (l.zip av).flatMap fun p => uY p.1 p.2
theorem insFlat_add {l : List Ins} {av : List Value} (h : av.length = l.length) (i : Ins) (a : Value) : vM (l ++ [i]) (av ++ [a]) = vM l av ++ uY i a := by
 unfold vM;rw [List.zip_append h.symm, List.flatMap_append];simp
def ArgsOK (M : List Nat) (n : Nat) (h : zG) (l : List Ins) (av : List Value) : Prop := av.length = l.length ∧ ∀ (j : Nat) (i : Ins) (a : Value), l[j]? = some i → av[j]? = some a → RO M n h a 3 1 i.args.length (i.args.map I64)
def BlkRO (M : List Nat) (n : Nat) (h : zG) (v : Value) (l : List Ins) : Prop := ∃ av, ArgsOK M n h l av ∧ RO M n h v 50 9 l.length (vM l av)
def BlkOwn (M : List Nat) (lo n : Nat) (h : zG) (v : Value) (l : List Ins) : Prop := ∃ av, ArgsOK M n h l av ∧ Own lo n h v 50 9 l.length (vM l av)
theorem ArgsOK.step {M M' S : List Nat} {n n' : Nat} {h h' : zG} {l : List Ins} {av : List Value} (r : ArgsOK M n h l av) (t : TouchE S h n h' n') (hS : ∀ x ∈ S, x ∈ M ∨ n ≤ x) (hM : ∀ x ∈ M', x ∈ M ∨ n ≤ x) : ArgsOK M' n' h' l av :=
 ⟨r.1, fun j i a h1 h2 => (r.2 j i a h1 h2).step t hS hM⟩
theorem BlkRO.step {M M' S : List Nat} {n n' : Nat} {h h' : zG} {v : Value} {l : List Ins} (r : BlkRO M n h v l) (t : TouchE S h n h' n') (hS : ∀ x ∈ S, x ∈ M ∨ n ≤ x) (hM : ∀ x ∈ M', x ∈ M ∨ n ≤ x) : BlkRO M' n' h' v l := by
 obtain ⟨av, a, b⟩ := r;exact ⟨av, a.step t hS hM, b.step t hS hM⟩
def oA (svs : List Value) : List Nat := (svs.getLast?.bind xK).toList
def MM (pb rb : Nat) (bv : Value) (svs : List Value) : List Nat := (List.range' pb 8 ++ [rb]) ++ (xK bv).toList ++ oA svs
structure BlksAt (M : List Nat) (lo n : Nat) (h : zG) (bs : List (List Ins)) (svs : List Value) : Prop where
 len : svs.length = bs.length
 ro : ∀ (k : Nat) (l : List Ins) (v : Value), k + 1 < bs.length → bs[k]? = some l → svs[k]? = some v → BlkRO M n h v l
 last : ∀ (l : List Ins) (v : Value), bs.getLast? = some l → svs.getLast? = some v → BlkOwn M lo n h v l
structure RAt (lo n : Nat) (h : zG) (pb rb : Nat) (f : Fct) (vv pv bv : Value) (svs : List Value) : Prop where
 cel : Cel h rb 0 [str f.name, vv, pv, str f.result, bv]
 low : 8 ≤ lo ∧ lo ≤ pb ∧ lo ≤ rb ∧ pb + 7 < n ∧ rb < n ∧ rb < pb
 vr : RO (MM pb rb bv svs) n h vv 9 1 f.vregs.length (f.vregs.map str)
 pr : RO (MM pb rb bv svs) n h pv 3 1 f.params.length (f.params.map I64)
 bo : Own lo n h bv 51 1 f.blocks.length svs
 bne : ∀ b, xK bv = some b → (b < pb ∨ pb + 7 < b) ∧ b ≠ rb
 lne : ∀ b, svs.getLast?.bind xK = some b → (b < pb ∨ pb + 7 < b) ∧ b ≠ rb ∧ xK bv ≠ some b
 bl : BlksAt (MM pb rb bv svs) lo n h f.blocks svs
 bnd : f.blocks.length ≤ 200
theorem mem_MM {pb rb : Nat} {bv : Value} {svs : List Value} {x : Nat} : x ∈ MM pb rb bv svs ↔ (pb ≤ x ∧ x ≤ pb + 7) ∨ x = rb ∨ xK bv = some x ∨ svs.getLast?.bind xK = some x := by
 unfold MM oA;simp only [List.mem_append, List.mem_cons, List.not_mem_nil, or_false, Option.mem_toList, List.mem_range'_1];constructor
 · rintro (((h | h) | h) | h)
   · exact .inl ⟨h.1, by omega⟩
   · exact .inr (.inl h)
   · exact .inr (.inr (.inl h))
   · exact .inr (.inr (.inr h))
 · rintro (h | h | h | h)
   · exact .inl (.inl (.inl ⟨h.1, by omega⟩))
   · exact .inl (.inl (.inr h))
   · exact .inl (.inr h)
   · exact .inr h
theorem RAt.lt {lo n : Nat} {h : zG} {pb rb : Nat} {f : Fct} {vv pv bv : Value} {svs : List Value} (r : RAt lo n h pb rb f vv pv bv svs) : ∀ x ∈ MM pb rb bv svs, lo ≤ x ∧ x < n := by
 intro x hx;obtain ⟨l1, l2, l3, l4, l5, l6⟩ := r.low;rcases mem_MM.1 hx with hx | rfl | hx | hx
 · omega
 · exact ⟨l3, l5⟩
 · exact r.bo.ge x hx
 · cases hs : svs.getLast? with
   | none => rw [hs] at hx; cases hx
   | some v =>
    rw [hs] at hx
    cases hb : f.blocks.getLast? with
    | none =>
     have h1 : f.blocks = [] := List.getLast?_eq_none_iff.1 hb;have h2 := r.bl.len;rw [h1] at h2;have h3 : svs = [] := List.length_eq_zero_iff.1 h2;rw [h3] at hs; cases hs
    | some l =>
     obtain ⟨av, _, o⟩ := r.bl.last l v hb hs;exact o.ge x hx
theorem RAt.step {lo n n' : Nat} {h h' : zG} {pb rb : Nat} {f f' : Fct} {vv pv bv vv' pv' : Value} {svs : List Value} {S : List Nat} (r : RAt lo n h pb rb f vv pv bv svs) (t : TouchE S h n h' n') (hS : ∀ x ∈ S, (pb ≤ x ∧ x ≤ pb + 7) ∨ x = rb ∨ n ≤ x)
 (hb : f'.blocks = f.blocks) (c : Cel h' rb 0 [str f'.name, vv', pv', str f'.result, bv]) (hv : RO (MM pb rb bv svs) n' h' vv' 9 1 f'.vregs.length (f'.vregs.map str)) (hp : RO (MM pb rb bv svs) n' h' pv' 3 1 f'.params.length (f'.params.map I64)) :
 RAt lo n' h' pb rb f' vv' pv' bv svs := by
 obtain ⟨l1, l2, l3, l4, l5, l6⟩ := r.low
 have hS' : ∀ x ∈ S, x ∈ MM pb rb bv svs ∨ n ≤ x := fun x hx => by
  rcases hS x hx with h1 | rfl | h1
  · exact .inl (mem_MM.2 (.inl h1))
  · exact .inl (mem_MM.2 (.inr (.inl rfl)))
  · exact .inr h1
 have hM : ∀ x ∈ MM pb rb bv svs, x ∈ MM pb rb bv svs ∨ n ≤ x := fun x hx => .inl hx;refine ⟨c, ⟨l1, l2, l3, Nat.lt_of_lt_of_le l4 t.1, Nat.lt_of_lt_of_le l5 t.1, l6⟩, hv, hp, ?_, r.bne, r.lne, ⟨?_, ?_, ?_⟩, by rw [hb]; exact r.bnd⟩
 · rw [hb];refine r.bo.touch t fun b hb hbS => ?_;have := r.bne b hb;have := (r.bo.ge b hb).2;rcases hS b hbS with h1 | h1 | h1 <;> omega
 · rw [hb]; exact r.bl.len
 · rw [hb]; exact fun k l v h1 h2 h3 => (r.bl.ro k l v h1 h2 h3).step t hS' hM
 · rw [hb];intro l v h1 h2;obtain ⟨av, a, o⟩ := r.bl.last l v h1 h2;refine ⟨av, a.step t hS' hM, o.touch t fun b hb hbS => ?_⟩;have h3 := r.lne b (by rw [h2]; exact hb);have := (o.ge b hb).2;rcases hS b hbS with h1 | h1 | h1 <;> omega
theorem RAt.hole {lo n n' x m z : Nat} {h h' : zG} {pb rb : Nat} {f : Fct} {vv pv bv : Value} {svs : List Value} (r : RAt lo n h pb rb f vv pv bv svs) (t : TouchE [x] h n h' n') (hx : tM (zT h x) = some (m, z + 1, 0)) : RAt lo n' h' pb rb f vv pv bv svs := by
 obtain ⟨l1, l2, l3, l4, l5, l6⟩ := r.low;refine ⟨r.cel.touch t l5 fun hr => ?_, ⟨l1, l2, l3, Nat.lt_of_lt_of_le l4 t.1, Nat.lt_of_lt_of_le l5 t.1, l6⟩, r.vr.hole t hx, r.pr.hole t hx, Own.hole r.bo t hx, r.bne, r.lne, ⟨r.bl.len, fun k l v h1 h2 h3 => ?_, fun l v h1 h2 => ?_⟩, r.bnd⟩
 · simp at hr;subst hr;rw [r.cel.1] at hx;injection hx with hx; injection hx with _ hx; injection hx with hx _; cases hx
 · obtain ⟨av, a, b⟩ := r.bl.ro k l v h1 h2 h3;exact ⟨av, ⟨a.1, fun j i a' g1 g2 => (a.2 j i a' g1 g2).hole t hx⟩, b.hole t hx⟩
 · obtain ⟨av, a, b⟩ := r.bl.last l v h1 h2;exact ⟨av, ⟨a.1, fun j i a' g1 g2 => (a.2 j i a' g1 g2).hole t hx⟩, Own.hole b t hx⟩
structure KW (m : Int) (S : List Nat) (nc hi b n0 : Nat) (h0 : zG) (n : Nat) (h : zG) (ws : List Tx) : Prop where
 t : TouchE S h0 n0 h n
 env : Env m h
 w : WordsAt n0 hi n h b ws
 g : 8 ≤ n0
 nn : nc ≤ n
section
variable {m : Int} {S : List Nat} {nc hi b n0 n : Nat} {h0 h : zG} {ws : List Tx}
theorem KW.call (j : KW m S nc hi b n0 h0 n h ws) {h' : zG} {n' : Nat} {ws' : List Tx} (t : TouchE [b] h n h' n') (w : WordsAt n0 hi n' h' b ws') : KW m S nc hi b n0 h0 n' h' ws' := by
 have h1 := j.g; have h2 := j.w.1; have h3 := j.w.2.1;exact ⟨j.t.step t (fun x hx => by simp at hx; subst hx; exact .inr h2), j.env.touch t (by omega) (fun x hx => by simp at hx; omega), w, h1, Nat.le_trans j.nn t.1⟩
theorem KW.mono (j : KW m S nc hi b n0 h0 n h ws) {S' : List Nat} (hS : ∀ x ∈ S, x ∈ S') : KW m S' nc hi b n0 h0 n h ws := ⟨j.t.mono hS, j.env, j.w, j.g, j.nn⟩
theorem KW.wr (j : KW m S nc hi b n0 h0 n h ws) {h' : zG} {n' : Nat} {S' : List Nat} (t : TouchE S' h n h' n') (hS : ∀ x ∈ S', (x ∈ S ∧ 8 ≤ x ∧ x < n0) ∨ n ≤ x) : KW m S nc hi b n0 h0 n' h' ws := by
 have h1 := j.g; have h2 := j.w.1; have h3 := j.w.2.1; have h4 := j.t.1;refine ⟨j.t.step t (fun x hx => (hS x hx).elim (fun q => .inl q.1) (fun q => .inr (by omega))), j.env.touch t (by omega) (fun x hx => (hS x hx).elim (fun q => q.2.1) (fun q => by omega)), j.w.touch t (fun x hx => (hS x hx).elim (fun q => .inl q.2.2) (fun q => .inr (by omega))), h1, Nat.le_trans j.nn t.1⟩
theorem KW.name (j : KW m S nc hi b n0 h0 n h ws) {Kp : KC} {K : Value → zG → Nat → Bool} (hK : ∀ a r h' n', rC ws = .ok (a, r) → TouchE [b] h n h' n' → KW m S nc hi b n0 h0 n' h' r → K (str a) h' n' = true)
 (hp : ∀ e h' n', rC ws = .error e → TouchE S h0 n0 h' n' → Kp (tI e) h' n' = true) : yY (loS P 8) 117 [ptr b 0] h n Kp K = true := by
 have hb := j.w.1;refine yX (name_comes j.w) (fun v h1 n1 q => ?_) (fun c h1 n1 q => ?_)
 · obtain ⟨q1, q2⟩ := q
   cases ha : rC ws with
   | error e => rw [ha] at q2; cases q2
   | ok p =>
    rw [ha] at q2;obtain ⟨v', q2, e, w1⟩ := q2;injection q2 with q2; subst q2
    subst e; exact hK _ _ _ _ ha q1 (j.call q1 w1)
 · obtain ⟨q1, q2⟩ := q
   cases ha : rC ws with
   | error e => rw [ha] at q2; injection q2 with q2; subst q2; exact hp _ _ _ ha (j.t.step q1 (fun x hx => by simp at hx; subst hx; exact .inr hb))
   | ok p => rw [ha] at q2; obtain ⟨v', q2, _⟩ := q2; cases q2
theorem KW.want (j : KW m S nc hi b n0 h0 n h ws) (x : Tx) {Kp : KC} {K : Value → zG → Nat → Bool} (hK : ∀ r h' n', wantW x ws = .ok ((), r) → TouchE [b] h n h' n' → KW m S nc hi b n0 h0 n' h' r → K (.tuple ⟨[]⟩) h' n' = true)
 (hp : ∀ e h' n', wantW x ws = .error e → TouchE S h0 n0 h' n' → Kp (tI e) h' n' = true) : yY (loS P 8) 116 [ptr b 0, str x] h n Kp K = true := by
 have hb := j.w.1;refine yX (want_comes j.w x) (fun v h1 n1 q => ?_) (fun c h1 n1 q => ?_)
 · obtain ⟨q1, q2⟩ := q
   cases ha : wantW x ws with
   | error e => rw [ha] at q2; cases q2
   | ok p =>
    rw [ha] at q2;obtain ⟨v', q2, e, w1⟩ := q2;injection q2 with q2; subst q2
    subst e; exact hK _ _ _ ha q1 (j.call q1 w1)
 · obtain ⟨q1, q2⟩ := q
   cases ha : wantW x ws with
   | error e => rw [ha] at q2; injection q2 with q2; subst q2; exact hp _ _ _ ha (j.t.step q1 (fun x hx => by simp at hx; subst hx; exact .inr hb))
   | ok p => rw [ha] at q2; obtain ⟨v', q2, _⟩ := q2; cases q2
theorem KW.fin (j : KW m S nc hi b n0 h0 n h ws) {Kp : KC} {K : Value → zG → Nat → Bool} (hK : ∀ r h' n', endW ws = .ok ((), r) → TouchE [b] h n h' n' → KW m S nc hi b n0 h0 n' h' r → K (.tuple ⟨[]⟩) h' n' = true)
 (hp : ∀ e h' n', endW ws = .error e → TouchE S h0 n0 h' n' → Kp (tI e) h' n' = true) : yY (loS P 8) 118 [ptr b 0] h n Kp K = true := by
 have hb := j.w.1;refine yX (end_comes j.w) (fun v h1 n1 q => ?_) (fun c h1 n1 q => ?_)
 · obtain ⟨q1, q2⟩ := q
   cases ha : endW ws with
   | error e => rw [ha] at q2; cases q2
   | ok p =>
    rw [ha] at q2;obtain ⟨v', q2, e, w1⟩ := q2;injection q2 with q2; subst q2
    subst e; exact hK _ _ _ ha q1 (j.call q1 w1)
 · obtain ⟨q1, q2⟩ := q
   cases ha : endW ws with
   | error e => rw [ha] at q2; injection q2 with q2; subst q2; exact hp _ _ _ ha (j.t.step q1 (fun x hx => by simp at hx; subst hx; exact .inr hb))
   | ok p => rw [ha] at q2; obtain ⟨v', q2, _⟩ := q2; cases q2
theorem KW.names (j : KW m S nc hi b n0 h0 n h ws) {Kp : KC} {K : Value → zG → Nat → Bool} (hK : ∀ l r v h' n', uZ ws = .ok (l, r) → TouchE [b] h n h' n' → KW m S nc hi b n0 h0 n' h' r → Own n0 n' h' v 9 1 l.length (l.map str) → l.length < 100000 → K v h' n' = true)
 (hp : ∀ e h' n', uZ ws = .error e → TouchE S h0 n0 h' n' → Kp (tI e) h' n' = true) : yY (loS P 8) 119 [ptr b 0, .func (.func 117) ⟨[ptr b 0]⟩ ⟨[]⟩] h n Kp K = true := by
 have hb := j.w.1;have hlo : 8 ≤ n0 := j.g;refine yX (restS_comes j.w j.env j.g) (fun v h1 n1 q => ?_) (fun c h1 n1 q => ?_)
 · obtain ⟨q1, q2⟩ := q
   cases ha : uZ ws with
   | error e => rw [ha] at q2; cases q2
   | ok p =>
    rw [ha] at q2;obtain ⟨v', q2, o1, l1, w1⟩ := q2;injection q2 with q2; subst q2
    exact hK _ _ _ _ _ ha q1 (j.call q1 w1) (o1.low j.t.1) l1
 · obtain ⟨q1, q2⟩ := q
   cases ha : uZ ws with
   | error e => rw [ha] at q2; injection q2 with q2; subst q2; exact hp _ _ _ ha (j.t.step q1 (fun x hx => by simp at hx; subst hx; exact .inr hb))
   | ok p => rw [ha] at q2; obtain ⟨v', q2, _⟩ := q2; cases q2
theorem KW.nums (j : KW m S nc hi b n0 h0 n h ws) {Kp : KC} {K : Value → zG → Nat → Bool} (hK : ∀ l r v h' n', vQ ws = .ok (l, r) → TouchE [b] h n h' n' → KW m S nc hi b n0 h0 n' h' r → Own n0 n' h' v 3 1 l.length (l.map I64) → l.length < 100000 → K v h' n' = true)
 (hp : ∀ e h' n', vQ ws = .error e → TouchE S h0 n0 h' n' → Kp (tI e) h' n' = true) : yY (loS P 8) 121 [ptr b 0, .func (.func 122) ⟨[ptr b 0]⟩ ⟨[]⟩] h n Kp K = true := by
 have hb := j.w.1;have hlo : 8 ≤ n0 := j.g;refine yX (restI_comes j.w j.env j.g) (fun v h1 n1 q => ?_) (fun c h1 n1 q => ?_)
 · obtain ⟨q1, q2⟩ := q
   cases ha : vQ ws with
   | error e => rw [ha] at q2; cases q2
   | ok p =>
    rw [ha] at q2;obtain ⟨v', q2, o1, l1, w1⟩ := q2;injection q2 with q2; subst q2
    exact hK _ _ _ _ _ ha q1 (j.call q1 w1) (o1.low j.t.1) l1
 · obtain ⟨q1, q2⟩ := q
   cases ha : vQ ws with
   | error e => rw [ha] at q2; injection q2 with q2; subst q2; exact hp _ _ _ ha (j.t.step q1 (fun x hx => by simp at hx; subst hx; exact .inr hb))
   | ok p => rw [ha] at q2; obtain ⟨v', q2, _⟩ := q2; cases q2
end
def HQ (lo pb rb : Nat) (bv : Value) (svs : List Value) (h0 : zG) (n0 nc : Nat) (r : Except Int Fct) : Out → zG → Nat → Prop := fun o h' n' => TouchE [rb] h0 n0 h' n' ∧
 match r with
 | .ok f' => o = .ret (.tuple ⟨[]⟩) ∧ nc ≤ n' ∧ ∃ vv pv, RAt lo n' h' pb rb f' vv pv bv svs
 | .error e => o = .panic (tI e)
theorem hname_comes {m : Int} {lo hi n n0 b pb rb : Nat} {h h0 : zG} {ws : List Tx} {f : Fct} {vv pv bv : Value} {svs : List Value} {op en : Bool} (r : RAt lo n0 h0 pb rb f vv pv bv svs) (j : KW m [] n hi b n0 h0 n h ws) :
 ComesE P 8 63 [ptr rb 0, ptr b 0] h n (HQ lo pb rb bv svs h0 n0 n (sF ⟨0, op, en, f⟩ ws)) := by
 obtain ⟨l1, l2, l3, l4, l5, l6⟩ := r.low;have hb := j.w.1;have hrb : rb ≠ b := by omega
 refine yR zM mixed (hint := hq0) l63 fun u k hk => ?_;rw [F63_eq];unfold F63;unfold sF at hk;dsimp only at hk;refine j.want tFunc (fun r1 h1 n1 ha u1 j1 => ?_) (fun e h1 n1 ha t1 => ?_)
 · rw [ha] at hk;dsimp only at hk;refine j1.name (fun s r2 h2 n2 ha2 u2 j2 => ?_) (fun e h2 n2 ha2 t2 => ?_)
   · rw [ha2] at hk;dsimp only at hk;have c2 := r.cel.touch j2.t l5 (by simp);try simp only [↓yS, ↓qY, ↓fa43_0, ↓zD]
     refine xH c2 sh9 (by simp) rfl fun h3 c3 k3 => ?_;have t3 : TouchE [rb] h2 n2 h3 n2 := zS k3 (by simp);have j3 := (j2.mono (S' := [rb]) (by simp)).wr t3 (fun x hx => by simp at hx; subst hx; exact .inl ⟨by simp, by omega, l5⟩);have l52 : rb < n2 := Nat.lt_of_lt_of_le l5 j2.t.1;refine j3.fin (fun r4 h4 n4 ha4 u4 j4 => ?_) (fun e h4 n4 ha4 t4 => ?_)
     · rw [ha4] at hk;refine qT r63 (hk _ _ _ ⟨j4.t, rfl, j4.nn, vv, pv, r.step j4.t (fun x hx => by simp at hx; exact .inr (.inl hx)) rfl ?_ ?_ ?_⟩)
       · have c4 : Cel h4 rb 0 [str s, vv, pv, str f.result, bv] := Cel.touch c3 u4 l52 (by simp; omega);exact c4
       · exact r.vr.step j4.t (fun x hx => by simp at hx; subst hx; exact .inl (mem_MM.2 (.inr (.inl rfl)))) (fun x hx => .inl hx)
       · exact r.pr.step j4.t (fun x hx => by simp at hx; subst hx; exact .inl (mem_MM.2 (.inr (.inl rfl)))) (fun x hx => .inl hx)
     · rw [ha4] at hk;exact yT r63 (hk _ _ _ ⟨t4, rfl⟩)
   · rw [ha2] at hk;exact yT r63 (hk _ _ _ ⟨t2.mono (by simp), rfl⟩)
 · rw [ha] at hk;exact yT r63 (hk _ _ _ ⟨t1.mono (by simp), rfl⟩)
theorem hregs_comes {m : Int} {lo hi n n0 b pb rb : Nat} {h h0 : zG} {ws : List Tx} {f : Fct} {vv pv bv : Value} {svs : List Value} {op en : Bool} (r : RAt lo n0 h0 pb rb f vv pv bv svs) (j : KW m [] n hi b n0 h0 n h ws) :
 ComesE P 8 64 [ptr rb 0, ptr b 0] h n (HQ lo pb rb bv svs h0 n0 n (sF ⟨1, op, en, f⟩ ws)) := by
 obtain ⟨l1, l2, l3, l4, l5, l6⟩ := r.low;have hb := j.w.1;have hrb : rb ≠ b := by omega
 refine yR zM mixed (hint := hq0) l64 fun u k hk => ?_;rw [F64_eq];unfold F64;unfold sF at hk;dsimp only at hk;refine j.want tRegs (fun r1 h1 n1 ha u1 j1 => ?_) (fun e h1 n1 ha t1 => ?_)
 · rw [ha] at hk;dsimp only at hk;try simp only [↓xG]
   refine j1.names (fun l r2 v h2 n2 ha2 u2 j2 o2 l2' => ?_) (fun e h2 n2 ha2 t2 => ?_)
   · rw [ha2] at hk;dsimp only at hk;have c2 := r.cel.touch j2.t l5 (by simp);try simp only [↓yS, ↓qY, ↓sX, ↓zD]
     refine xH c2 sh23 (by simp) o2.one fun h3 c3 k3 => ?_;have t3 : TouchE [rb] h2 n2 h3 n2 := zS k3 (by simp);have j3 := (j2.mono (S' := [rb]) (by simp)).wr t3 (fun x hx => by simp at hx; subst hx; exact .inl ⟨by simp, by omega, l5⟩);have o3 := o2.touch t3 (fun x hx hS => by have := (o2.ge x hx).1; simp at hS; omega);have c3' : Cel h3 rb 0 [str f.name, v, pv, str f.result, bv] := c3;have e1 : zF P 23 h3 (.pointer (some ⟨rb, 1, none⟩)) = some v := zH c3' sh23 rfl;have e2 := xI (P := P) us23 (o3.row (Nat.le_refl 1)) [] h3;try simp only [↓yS, ↓qY, ↓sX, ↓zD, ↓e1, ↓e2, ↓zE]
     by_cases hl : l.length ≤ 500
     · rw [if_pos hl] at hk;have e3 : rU (l.length : Nat) 500 = true := by rw [vF]; exact decide_eq_true (by omega)
       simp only [↓e3, ↓zY];refine yC (fun _ => ?_) (fun e => by cases e);refine qT r64 (hk _ _ _ ⟨j3.t, rfl, j3.nn, v, pv, r.step j3.t (fun x hx => by simp at hx; exact .inr (.inl hx)) rfl c3' ?_ ?_⟩)
       · exact own_ro o3 (Nat.le_refl 1) (fun x hx hM => by have h8 := (o3.ge x hx).1; have h9 := (r.lt x hM).2; omega)
       · exact r.pr.step j3.t (fun x hx => by simp at hx; subst hx; exact .inl (mem_MM.2 (.inr (.inl rfl)))) (fun x hx => .inl hx)
     · rw [if_neg hl] at hk;have e3 : rU (l.length : Nat) 500 = false := by rw [vF]; exact decide_eq_false (by omega)
       simp only [↓e3, ↓zY];refine yC (fun e => by cases e) (fun _ => ?_);exact yT r64 (hk _ _ _ ⟨j3.t, rfl⟩)
   · rw [ha2] at hk;exact yT r64 (hk _ _ _ ⟨t2.mono (by simp), rfl⟩)
 · rw [ha] at hk;exact yT r64 (hk _ _ _ ⟨t1.mono (by simp), rfl⟩)
theorem hparams_comes {m : Int} {lo hi n n0 b pb rb : Nat} {h h0 : zG} {ws : List Tx} {f : Fct} {vv pv bv : Value} {svs : List Value} {op en : Bool} (r : RAt lo n0 h0 pb rb f vv pv bv svs) (j : KW m [] n hi b n0 h0 n h ws) :
 ComesE P 8 65 [ptr rb 0, ptr b 0] h n (HQ lo pb rb bv svs h0 n0 n (sF ⟨2, op, en, f⟩ ws)) := by
 obtain ⟨l1, l2, l3, l4, l5, l6⟩ := r.low;have hb := j.w.1;have hrb : rb ≠ b := by omega
 refine yR zM mixed (hint := hq0) l65 fun u k hk => ?_;rw [F65_eq];unfold F65;unfold sF at hk;dsimp only at hk;refine j.want tParams (fun r1 h1 n1 ha u1 j1 => ?_) (fun e h1 n1 ha t1 => ?_)
 · rw [ha] at hk;dsimp only at hk;try simp only [↓xG]
   refine j1.nums (fun l r2 v h2 n2 ha2 u2 j2 o2 l2' => ?_) (fun e h2 n2 ha2 t2 => ?_)
   · rw [ha2] at hk;dsimp only at hk;have c2 := r.cel.touch j2.t l5 (by simp);try simp only [↓yS, ↓qY, ↓fa43_2, ↓zD]
     refine xH c2 sh40 (by simp) o2.one fun h3 c3 k3 => ?_;have t3 : TouchE [rb] h2 n2 h3 n2 := zS k3 (by simp);have j3 := (j2.mono (S' := [rb]) (by simp)).wr t3 (fun x hx => by simp at hx; subst hx; exact .inl ⟨by simp, by omega, l5⟩);have o3 := o2.touch t3 (fun x hx hS => by have := (o2.ge x hx).1; simp at hS; omega);have c3' : Cel h3 rb 0 [str f.name, vv, v, str f.result, bv] := c3;have e1 : zF P 40 h3 (.pointer (some ⟨rb, 2, none⟩)) = some v := zH c3' sh40 rfl;have e2 := xI (P := P) us40 (o3.row (Nat.le_refl 1)) [] h3;try simp only [↓yS, ↓qY, ↓fa43_2, ↓zD, ↓e1, ↓e2, ↓zE]
     by_cases hl : l.length ≤ 16
     · rw [if_pos hl] at hk;have e3 : rU (l.length : Nat) 16 = true := by rw [vF]; exact decide_eq_true (by omega)
       simp only [↓e3, ↓zY];refine yC (fun _ => ?_) (fun e => by cases e);refine qT r65 (hk _ _ _ ⟨j3.t, rfl, j3.nn, vv, v, r.step j3.t (fun x hx => by simp at hx; exact .inr (.inl hx)) rfl c3' ?_ ?_⟩)
       · exact r.vr.step j3.t (fun x hx => by simp at hx; subst hx; exact .inl (mem_MM.2 (.inr (.inl rfl)))) (fun x hx => .inl hx)
       · exact own_ro o3 (Nat.le_refl 1) (fun x hx hM => by have h8 := (o3.ge x hx).1; have h9 := (r.lt x hM).2; omega)
     · rw [if_neg hl] at hk;have e3 : rU (l.length : Nat) 16 = false := by rw [vF]; exact decide_eq_false (by omega)
       simp only [↓e3, ↓zY];refine yC (fun e => by cases e) (fun _ => ?_);exact yT r65 (hk _ _ _ ⟨j3.t, rfl⟩)
   · rw [ha2] at hk;exact yT r65 (hk _ _ _ ⟨t2.mono (by simp), rfl⟩)
 · rw [ha] at hk;exact yT r65 (hk _ _ _ ⟨t1.mono (by simp), rfl⟩)
theorem hresult_comes {m : Int} {lo hi n n0 b pb rb : Nat} {h h0 : zG} {ws : List Tx} {f : Fct} {vv pv bv : Value} {svs : List Value} {op en : Bool} (r : RAt lo n0 h0 pb rb f vv pv bv svs) (j : KW m [] n hi b n0 h0 n h ws) :
 ComesE P 8 66 [ptr rb 0, ptr b 0] h n (HQ lo pb rb bv svs h0 n0 n (sF ⟨3, op, en, f⟩ ws)) := by
 obtain ⟨l1, l2, l3, l4, l5, l6⟩ := r.low;have hb := j.w.1;have hrb : rb ≠ b := by omega
 refine yR zM mixed (hint := hq0) l66 fun u k hk => ?_;rw [F66_eq];unfold F66;unfold sF at hk;dsimp only at hk;refine j.want tResult (fun r1 h1 n1 ha u1 j1 => ?_) (fun e h1 n1 ha t1 => ?_)
 · rw [ha] at hk;dsimp only at hk;refine j1.name (fun s r2 h2 n2 ha2 u2 j2 => ?_) (fun e h2 n2 ha2 t2 => ?_)
   · rw [ha2] at hk;dsimp only at hk;have c2 := r.cel.touch j2.t l5 (by simp);try simp only [↓yS, ↓qY, ↓fa43_3, ↓zD]
     refine xH c2 sh9 (by simp) rfl fun h3 c3 k3 => ?_;have t3 : TouchE [rb] h2 n2 h3 n2 := zS k3 (by simp);have j3 := (j2.mono (S' := [rb]) (by simp)).wr t3 (fun x hx => by simp at hx; subst hx; exact .inl ⟨by simp, by omega, l5⟩);have l52 : rb < n2 := Nat.lt_of_lt_of_le l5 j2.t.1;refine j3.fin (fun r4 h4 n4 ha4 u4 j4 => ?_) (fun e h4 n4 ha4 t4 => ?_)
     · rw [ha4] at hk;refine qT r66 (hk _ _ _ ⟨j4.t, rfl, j4.nn, vv, pv, r.step j4.t (fun x hx => by simp at hx; exact .inr (.inl hx)) rfl ?_ ?_ ?_⟩)
       · have c4 : Cel h4 rb 0 [str f.name, vv, pv, str s, bv] := Cel.touch c3 u4 l52 (by simp; omega);exact c4
       · exact r.vr.step j4.t (fun x hx => by simp at hx; subst hx; exact .inl (mem_MM.2 (.inr (.inl rfl)))) (fun x hx => .inl hx)
       · exact r.pr.step j4.t (fun x hx => by simp at hx; subst hx; exact .inl (mem_MM.2 (.inr (.inl rfl)))) (fun x hx => .inl hx)
     · rw [ha4] at hk;exact yT r66 (hk _ _ _ ⟨t4, rfl⟩)
   · rw [ha2] at hk;exact yT r66 (hk _ _ _ ⟨t2.mono (by simp), rfl⟩)
 · rw [ha] at hk;exact yT r66 (hk _ _ _ ⟨t1.mono (by simp), rfl⟩)
theorem own_set {ty : TypeId} {lo n e len i : Nat} {h : zG} {bv v : Value} {vs : List Value} {bb : Nat} {K : KH} (o : Own lo n h bv e 1 len vs) (hb : xK bv = some bb) (hs : yF P ty = .scal) (hi : i < vs.length) (hv : v.oneCell' = true)
 (hK : ∀ h', Own lo n h' bv e 1 len (vs.set i v) → (∀ b', b' ≠ bb → zT h' b' = zT h b') → K h' n undef = true) : zW P ty (.pointer (some ⟨bb, i, none⟩)) v h n K = true := by
 rcases o with ⟨rfl, rfl, rfl⟩ | ⟨b, q1, q2, rfl, q3, q4, q5, q6⟩
 · simp at hi
 · injection hb with hb
   subst hb;have e1 := cellsOf_one hv;refine eStore_ok (.inl ⟨hs, rfl⟩) (by rw [e1]; rfl) (by rw [e1]; simpa using hv) q3 (by decide) (by omega) (hK _ (.inr ⟨b, q1, q2, rfl, ?_, ?_, q5, fun j => ?_⟩) fun b' hb' => ?_)
   · rw [zK, if_pos rfl, pT, q3, List.length_set]
   · rw [List.length_set]; exact q4
   · unfold xO;rw [zK, if_pos rfl, e1, pS _ _ _ q3 (by simp; omega)];have h2 := q6 j;unfold xO at h2;rw [h2, List.getElem?_set];by_cases hj : j = i
     · subst hj;rw [if_pos ⟨Nat.le_refl _, by simp⟩, if_pos rfl];simp [hi]
     · rw [if_neg (by simp; omega), if_neg (fun h => hj h.symm)]
   · rw [zK, if_neg (fun h => hb' h.symm)]
def GQ (lo pb rb : Nat) (M S : List Nat) (h0 : zG) (n0 nc : Nat) (r : Except Int Fct) : Out → zG → Nat → Prop := fun o h' n' => TouchE S h0 n0 h' n' ∧
 match r with
 | .ok f' => o = .ret (.tuple ⟨[]⟩) ∧ nc ≤ n' ∧ ∃ vv pv bv svs, RAt lo n' h' pb rb f' vv pv bv svs ∧ ∀ x ∈ MM pb rb bv svs, x ∈ M ∨ n0 ≤ x
 | .error e => o = .panic (tI e)
theorem HQ.gq {lo pb rb : Nat} {bv : Value} {svs : List Value} {h0 : zG} {n0 nc : Nat} {r : Except Int Fct} {o : Out} {h' : zG} {n' : Nat} (q : HQ lo pb rb bv svs h0 n0 nc r o h' n') : GQ lo pb rb (MM pb rb bv svs) (rb :: ((xK bv).toList ++ oA svs)) h0 n0 nc r o h' n' := by
 refine ⟨q.1.mono (by simp), ?_⟩
 cases r with
 | ok f' => obtain ⟨q1, q3, vv, pv, q2⟩ := q.2; exact ⟨q1, q3, vv, pv, bv, svs, q2, fun x hx => .inl hx⟩
 | error e => exact q.2
theorem mem_lastB {svs : List Value} {x : Nat} : x ∈ oA svs ↔ svs.getLast?.bind xK = some x := by unfold oA; rw [Option.mem_toList]
def blockF (f : Fct) : Except Int Fct := if f.blocks.length < 200 then .ok { f with blocks := f.blocks ++ [[]] } else .error 2
theorem block_comes {lo n pb rb : Nat} {h : zG} {f : Fct} {vv pv bv : Value} {svs : List Value} (r : RAt lo n h pb rb f vv pv bv svs) :
 ComesE P 8 67 [ptr rb 0] h n (GQ lo pb rb (MM pb rb bv svs) (rb :: ((xK bv).toList ++ oA svs)) h n n (blockF f)) := by
 obtain ⟨l1, l2, l3, l4, l5, l6⟩ := r.low;refine yR zM mixed (hint := hq0) l67 fun u k hk => ?_;rw [F67_eq];unfold F67;unfold blockF at hk;have e1 : zF P 41 h (.pointer (some ⟨rb, 4, none⟩)) = some bv := zH r.cel sh41 rfl;have e2 := xI (P := P) us41 (r.bo.row (Nat.le_refl 1)) [] h;try simp only [↓yS, ↓qY, ↓tA, ↓zD, ↓e1, ↓e2, ↓zE]
 by_cases hl : f.blocks.length < 200
 · rw [if_pos hl] at hk;have e3 : wO (f.blocks.length : Nat) 200 = true := by rw [zV]; exact decide_eq_true (by omega)
   simp only [↓e3, ↓zY];refine yC (fun _ => ?_) (fun e => by cases e);try simp only [↓yS, ↓qY, ↓tA, ↓zD, ↓e1, ↓e2, ↓zE]
   refine vK on41 (v := .slice none 0 0) rfl fun h1 c1 x1 => ?_;have o1 := r.bo.touch (x1.touch []) (fun _ _ h => by cases h);refine append_new ap41 o1 (by omega) c1 rfl (by simp [Value.oneCell']) (by omega) fun v2 h2 n2 o2 n2le k2 => ?_;have t2 : TouchE (xK bv).toList h1 (n + 1) h2 n2 := touch_blk (lo := 0) n2le k2;have t02 : TouchE (xK bv).toList h n h2 n2 := (x1.touch _).trans t2;try simp only [↓yS, ↓qY, ↓tA, ↓zD]
   have hrb : rb ∉ (xK bv).toList := fun hx => (r.bne rb (by simpa using hx)).2 rfl;refine xH (r.cel.touch t02 l5 hrb) sh41 (by simp) o2.one fun h3 c3 k3 => ?_;have t3 : TouchE [rb] h2 n2 h3 n2 := zS k3 (by simp);have t03 : TouchE (rb :: (xK bv).toList) h n h3 n2 := (t02.mono (fun x hx => List.mem_cons_of_mem _ hx)).trans (t3.mono (by simp));have t : TouchE (rb :: ((xK bv).toList ++ oA svs)) h n h3 n2 := t03.mono (fun x hx => (List.mem_cons.1 hx).elim (fun e => by rw [e]; exact List.mem_cons_self) (fun e => List.mem_cons_of_mem _ (List.mem_append_left _ e)))
   have hS : ∀ x ∈ rb :: (xK bv).toList, x ∈ MM pb rb bv svs ∨ n ≤ x := fun x hx => .inl (mem_MM.2 (by
    rcases List.mem_cons.1 hx with rfl | hx
    · exact .inr (.inl rfl)
    · exact .inr (.inr (.inl (by simpa using hx)))))
   have hl2 : (svs ++ [Value.slice none 0 0]).getLast?.bind xK = none := by rw [List.getLast?_append]; rfl
   have hM : ∀ x ∈ MM pb rb v2 (svs ++ [.slice none 0 0]), x ∈ MM pb rb bv svs ∨ n ≤ x := fun x hx => by
    rcases mem_MM.1 hx with hx | rfl | hx | hx
    · exact .inl (mem_MM.2 (.inl hx))
    · exact .inl (mem_MM.2 (.inr (.inl rfl)))
    · exact .inr (by have := (o2.ge x hx).1; omega)
    · rw [hl2] at hx; cases hx
   have o3 := o2.touch t3 (fun x hx hS => by have := (o2.ge x hx).1; simp at hS; omega);have hlen := r.bl.len;refine qT r67 (hk _ _ _ ⟨t, rfl, t.1, vv, pv, v2, svs ++ [.slice none 0 0], ⟨c3, ⟨l1, l2, l3, Nat.lt_of_lt_of_le l4 t.1, Nat.lt_of_lt_of_le l5 t.1, l6⟩, r.vr.step t03 hS hM, r.pr.step t03 hS hM, ?_, ?_, ?_, ⟨?_, ?_, ?_⟩, ?_⟩, hM⟩)
   · have h9 : (f.blocks ++ [[]]).length = f.blocks.length + 1 := by simp
     show Own lo n2 h3 v2 51 1 (f.blocks ++ [[]]).length _;rw [h9];exact o3.low (by omega)
   · intro b hb;have := (o2.ge b hb).1;omega
   · intro b hb;rw [hl2] at hb; cases hb
   · simp [hlen]
   · intro k' l v h1' h2' h3';have h1'' : k' < f.blocks.length := by simpa using h1'
     rw [List.getElem?_append_left h1''] at h2';rw [List.getElem?_append_left (by omega)] at h3';by_cases hkl : k' + 1 < f.blocks.length
     · exact (r.bl.ro k' l v hkl h2' h3').step t03 hS hM
     · have hlast : f.blocks.getLast? = some l := by rw [List.getLast?_eq_getElem?, ← h2']; congr 1; omega
       have hlast2 : svs.getLast? = some v := by rw [List.getLast?_eq_getElem?, ← h3']; congr 1; omega
       obtain ⟨av, a1, a2⟩ := r.bl.last l v hlast hlast2;refine ⟨av, a1.step t03 hS hM, own_ro (a2.touch t03 fun x hx hxS => ?_) (by omega) (fun x hx hxM => ?_)⟩
       · have h8 := r.lne x (by rw [hlast2]; exact hx);rcases List.mem_cons.1 hxS with h7 | h7
         · exact h8.2.1 h7
         · exact h8.2.2 (by simpa using h7)
       · have h8 := r.lne x (by rw [hlast2]; exact hx);have h6 := (a2.ge x hx).2;rcases mem_MM.1 hxM with h7 | h7 | h7 | h7
         · have := h8.1; omega
         · exact h8.2.1 h7
         · have := (o2.ge x h7).1; omega
         · rw [hl2] at h7; cases h7
   · intro l v h1' h2';rw [List.getLast?_append] at h1' h2';have h1'' : some ([] : List Ins) = some l := h1';have h2'' : some (Value.slice none 0 0) = some v := h2';injection h1'' with h1''
     injection h2'' with h2''
     subst h1'' h2'';exact ⟨[], ⟨rfl, fun j i a h => by simp at h⟩, .inl ⟨rfl, rfl, rfl⟩⟩
   · show (f.blocks ++ [[]]).length ≤ 200;simp; omega
 · rw [if_neg hl] at hk;have e3 : wO (f.blocks.length : Nat) 200 = false := by rw [zV]; exact decide_eq_false (by omega)
   simp only [↓e3, ↓zY];refine yC (fun e => by cases e) (fun _ => ?_);exact yT r67 (hk _ _ _ ⟨TouchE.refl _ _ _, rfl⟩)
theorem ins_comes {m : Int} {lo hi n n0 b pb rb : Nat} {h h0 : zG} {ws : List Tx} {f : Fct} {vv pv bv : Value} {svs : List Value} {st : Nat} {op en : Bool} (r : RAt lo n0 h0 pb rb f vv pv bv svs) (j : KW m [] n hi b n0 h0 n h ws) (hne : f.blocks ≠ []) :
 ComesE P 8 68 [ptr rb 0, ptr b 0] h n (GQ lo pb rb (MM pb rb bv svs) (rb :: ((xK bv).toList ++ oA svs)) h0 n0 n (insS ⟨st, op, en, f⟩ ws)) := by
 obtain ⟨l1, l2, l3, l4, l5, l6⟩ := r.low;obtain ⟨bi, bl, hbl⟩ : ∃ bi bl, f.blocks = bi ++ [bl] := ⟨f.blocks.dropLast, f.blocks.getLast hne, (List.dropLast_concat_getLast hne).symm⟩;have hlen := r.bl.len;have hsne : svs ≠ [] := fun e => by rw [e, hbl] at hlen; simp at hlen
 obtain ⟨si, sl, hsl⟩ : ∃ si sl, svs = si ++ [sl] := ⟨svs.dropLast, svs.getLast hsne, (List.dropLast_concat_getLast hsne).symm⟩;have hsi : si.length = bi.length := by rw [hbl, hsl] at hlen; simpa using hlen
 have hlast : f.blocks.getLast? = some bl := by rw [hbl]; simp
 have hlast2 : svs.getLast? = some sl := by rw [hsl]; simp
 obtain ⟨av, a1, a2⟩ := r.bl.last bl sl hlast hlast2;have hgd : f.blocks.getLastD [] = bl := by rw [hbl]; simp
 have hbe : ∃ bb, xK bv = some bb ∧ bv = .slice (some ⟨bb, 0, none⟩) f.blocks.length inf ∧ bb < n0 := by
  rcases r.bo with ⟨_, e, _⟩ | ⟨bb, q1, q2, q3, _⟩
  · rw [hbl] at e; simp at e
  · exact ⟨bb, by rw [q3]; rfl, q3, q2⟩
 obtain ⟨bb, hbb, hbv, hbbn⟩ := hbe;have hb := j.w.1;have hrb : rb ≠ b := by omega
 have hn0 := j.t.1;refine yR zM mixed (hint := hq0) l68 fun u k hk => ?_;rw [F68_eq];unfold F68;unfold insS at hk;dsimp only at hk;rw [hgd] at hk;refine yX (one_comes j.w j.env j.g) (fun v h1 n1 q => ?_) (fun c h1 n1 q => ?_)
 · obtain ⟨q1, q2⟩ := q
   cases ha : oneI ws with
   | error e => rw [ha] at q2; cases q2
   | ok p =>
    obtain ⟨i, r1⟩ := p;rw [ha] at q2 hk;obtain ⟨sv, q2, o1, il, w1⟩ := q2;injection q2 with q2; subst q2
    dsimp only at hk;have j1 := j.call q1 w1
    have hone : ∀ x ∈ uY i sv, x.oneCell' = true := by
     intro x hx;simp only [uY, List.mem_cons, List.not_mem_nil, or_false] at hx;rcases hx with rfl | rfl | rfl | rfl | rfl | rfl | rfl | rfl | rfl <;> first | rfl | exact o1.one
    refine wR ze50 fun h2 c2 x2 => ?_;refine xQ c2 sh50 rfl rfl hone fun h3 c3 k3 => ?_;have t13 : TouchE [n1] h1 n1 h3 (n1 + 1) := (x2.touch _).trans (zS k3 (by simp));have j3 := j1.wr t13 (fun x hx => by simp at hx; subst hx; exact .inr (Nat.le_refl _));have n01 := j1.t.1;refine j3.fin (fun r4 h4 n4 ha4 u4 j4 => ?_) (fun e h4 n4 ha4 t4 => ?_)
    · rw [ha4] at hk;dsimp only at hk;have hb1 := q1.1;have n34 := u4.1;have c4 := r.cel.touch j4.t l5 (by simp);have e1 : zF P 41 h4 (.pointer (some ⟨rb, 4, none⟩)) = some bv := zH c4 sh41 rfl;have o4 := r.bo.touch j4.t (fun _ _ h => by cases h);have e2 := xI (P := P) us41 (o4.row (Nat.le_refl 1)) [] h4;try simp only [↓yS, ↓qY, ↓tA, ↓zD, ↓e1, ↓e2, ↓zE]
      have hbl1 : f.blocks.length = bi.length + 1 := by rw [hbl]; simp
      have hbnd := r.bnd;refine fi_sub (by omega) ?_;have e3 : ((f.blocks.length : Nat) : Int) - 1 = (bi.length : Nat) := by omega
      rw [e3]
      have e4 : zU P 41 bv (.int .i64 (bi.length : Nat)) = some (.pointer (some ⟨bb, bi.length, none⟩)) := by
       rw [hbv, index_sl ix41 (by omega)]; simp
      have hcell : xO h4 bb bi.length = some sl := by
       rcases o4 with ⟨_, e, _⟩ | ⟨bb', _, _, q3, _, _, _, q6⟩
       · rw [hbl] at e; simp at e
       · rw [hbv] at q3;injection q3 with q3; injection q3 with q3; injection q3 with q3
         subst q3;rw [q6, hsl, List.getElem?_append_right (by omega)];simp [hsi]
      have e5 : zF P 51 h4 (.pointer (some ⟨bb, bi.length, none⟩)) = some sl := load_scal sh51 hcell;have a24 := a2.touch j4.t (fun _ _ h => by cases h);have e6 := xI (P := P) us51 (a24.row (by omega)) [] h4;have hbn : b < n := by have := j.w.2.1; omega
      have c34 := c3.touch u4 (by omega) (by simp; omega);have e7 : zF P 50 h4 (ptr n1 0) = some (.agg ⟨uY i sv⟩) := xE c34 sh50 rfl (by decide);try simp only [↓e4, ↓zD, ↓xR, ↓tJ, ↓yS, ↓e5, ↓e6, ↓zE]
      by_cases hl : bl.length < 400
      · rw [if_pos hl] at hk;have e8 : wO (bl.length : Nat) 400 = true := by rw [zV]; exact decide_eq_true (by omega)
        simp only [↓e8, ↓zY];refine yC (fun _ => ?_) (fun e => by cases e);try simp only [↓zD, ↓yS, ↓e5, ↓e7]
        have e9 : yW P 51 1 [(0, .agg ⟨uY i sv⟩)] = some (uE (uY i sv) 0) := by kernel_rfl
        refine qV (e := 50) (sz := 9) e9 rfl (by unfold inf; omega) fun h5 c5 x5 => ?_;have o5 := a24.touch (x5.touch []) (fun _ _ h => by cases h);refine append_new ap51 o5 (by omega) c5 rfl hone (by omega) fun v6 h6 n6 o6 n6le k6 => ?_;have t6 : TouchE (xK sl).toList h5 (n4 + 1) h6 n6 := touch_blk (lo := 0) n6le k6;rw [vJ n6le];have hls : ∀ x ∈ (xK sl).toList, x ∈ oA svs := fun x hx => mem_lastB.2 (by rw [hlast2]; simpa using hx);have hlsn : ∀ x ∈ (xK sl).toList, x < n0 := fun x hx => (a2.ge x (by simpa using hx)).2;have t06 : TouchE (oA svs) h0 n0 h6 n6 := ((j4.t.mono (S' := oA svs) (by simp)).trans (x5.touch _)).trans (t6.mono hls);have hbbl : bb ∉ oA svs := fun hx => (r.lne bb (mem_lastB.1 hx)).2.2 hbb;have ob6 := r.bo.touch t06 (fun x hx hxS => by rw [hbb] at hx; injection hx with hx; subst hx; exact hbbl hxS);try simp only [↓tJ, ↓zD, ↓yS]
        refine own_set ob6 hbb sh51 (by rw [hsl]; simp [hsi]) o6.one fun h7 o7 k7 => ?_;rw [vJ (Nat.le_refl _)];try simp only [↓tJ, ↓xR]
        have t7 : TouchE [bb] h6 n6 h7 n6 := zS k7 (by simp);have T : TouchE ((xK bv).toList ++ oA svs) h0 n0 h7 n6 := (t06.mono (fun x hx => List.mem_append_right _ hx)).trans (t7.mono (fun x hx => by simp at hx; subst hx; exact List.mem_append_left _ (by rw [hbb]; simp)))
        have hset : svs.set bi.length v6 = si ++ [v6] := by
         rw [hsl, ← hsi, List.set_append_right _ _ (Nat.le_refl _)]; simp
        rw [hset] at o7
        have hS : ∀ x ∈ (xK bv).toList ++ oA svs, x ∈ MM pb rb bv svs ∨ n0 ≤ x := fun x hx => .inl (mem_MM.2 (by
         rcases List.mem_append.1 hx with hx | hx
         · exact .inr (.inr (.inl (by simpa using hx)))
         · exact .inr (.inr (.inr (mem_lastB.1 hx)))))
        have hl2 : (si ++ [v6]).getLast? = some v6 := by simp
        have hM : ∀ x ∈ MM pb rb bv (si ++ [v6]), x ∈ MM pb rb bv svs ∨ n0 ≤ x := fun x hx => by
         rcases mem_MM.1 hx with hx | rfl | hx | hx
         · exact .inl (mem_MM.2 (.inl hx))
         · exact .inl (mem_MM.2 (.inr (.inl rfl)))
         · exact .inl (mem_MM.2 (.inr (.inr (.inl hx))))
         · rw [hl2] at hx;exact .inr (by have := (o6.ge x hx).1; omega)
        have hrbS : rb ∉ (xK bv).toList ++ oA svs := fun hx => by
         rcases List.mem_append.1 hx with hx | hx
         · exact (r.bne rb (by simpa using hx)).2 rfl
         · exact (r.lne rb (mem_lastB.1 hx)).2.1 rfl
        have o67 := o6.touch t7 (fun x hx hS => by have := (o6.ge x hx).1; simp at hS; omega);have hadd : pX f.blocks i = bi ++ [bl ++ [i]] := by unfold pX; rw [hgd, hbl]; simp
        refine qT r68 (hk _ _ _ ⟨T.mono (fun x hx => List.mem_cons_of_mem _ hx), rfl, (by have := j4.nn; have := x5.1; omega), vv, pv, bv, si ++ [v6], ⟨r.cel.touch T l5 hrbS, ⟨l1, l2, l3, Nat.lt_of_lt_of_le l4 T.1, Nat.lt_of_lt_of_le l5 T.1, l6⟩, r.vr.step T hS hM, r.pr.step T hS hM, ?_, r.bne, ?_, ⟨?_, ?_, ?_⟩, ?_⟩, hM⟩)
        · show Own lo n6 h7 bv 51 1 (pX f.blocks i).length _;have h9 : (pX f.blocks i).length = f.blocks.length := by rw [hadd, hbl]; simp
          rw [h9]; exact o7
        · intro x hx;rw [hl2] at hx;have h8 := (o6.ge x hx).1;refine ⟨by omega, by omega, fun e => ?_⟩;rw [hbb] at e; injection e with e; omega
        · show (si ++ [v6]).length = (pX f.blocks i).length;rw [hadd]; simp [hsi]
        · intro k' l v h1' h2' h3';have h1'' : k' + 1 < (pX f.blocks i).length := h1';have h2'' : (pX f.blocks i)[k']? = some l := h2';rw [hadd] at h1'' h2'';have hk' : k' < bi.length := by simpa using h1''
          rw [List.getElem?_append_left hk'] at h2'';rw [List.getElem?_append_left (by omega)] at h3';exact (r.bl.ro k' l v (by omega) (by rw [hbl, List.getElem?_append_left hk']; exact h2'') (by rw [hsl, List.getElem?_append_left (by omega)]; exact h3')).step T hS hM
        · intro l v h1' h2';have h1'' : (pX f.blocks i).getLast? = some l := h1';rw [hadd] at h1'';have h3'' : some (bl ++ [i]) = some l := by simpa using h1''
          have h4'' : some v6 = some v := by rw [hl2] at h2'; exact h2'
          injection h3'' with h3''
          injection h4'' with h4''
          subst h3'' h4'';refine ⟨av ++ [sv], ⟨by simp [a1.1], fun jx ix ax g1 g2 => ?_⟩, ?_⟩
          · by_cases hjx : jx < bl.length
            · rw [List.getElem?_append_left hjx] at g1;rw [List.getElem?_append_left (by rw [a1.1]; exact hjx)] at g2;exact (a1.2 jx ix ax g1 g2).step T hS hM
            · rw [List.getElem?_append_right (by omega)] at g1;rw [List.getElem?_append_right (by rw [a1.1]; omega), a1.1] at g2
              have hz : jx - bl.length = 0 := by
               cases hh : jx - bl.length with
               | zero => rfl
               | succ z => rw [hh] at g1; simp at g1
              rw [hz] at g1 g2;simp at g1 g2;subst g1 g2;have osv : ∀ x, xK sv = some x → n ≤ x ∧ x < n1 := o1.ge;have oo := (o1.touch (S := [n1]) (t13) (fun x hx hS => by have := (osv x hx).2; simp at hS; omega)).touch u4 (fun x hx hS => by have := (osv x hx).1; have := j.w.2.1; simp at hS; omega);have oo7 := ((oo.touch (x5.touch []) (fun _ _ h => by cases h)).touch t6 (fun x hx hS => by have := (osv x hx).1; have := hlsn x hS; omega)).touch t7 (fun x hx hS => by have := (osv x hx).1; simp at hS; omega);refine own_ro oo7 (Nat.le_refl 1) (fun x hx hxM => ?_);have h8 := osv x hx;rcases mem_MM.1 hxM with h7 | h7 | h7 | h7
              · omega
              · omega
              · rw [hbb] at h7; injection h7 with h7; omega
              · rw [hl2] at h7;have := (o6.ge x h7).1; omega
          · rw [insFlat_add a1.1];have h9 : (bl ++ [i]).length = bl.length + 1 := by simp
            rw [h9];exact o67.low (by omega)
        · show (pX f.blocks i).length ≤ 200;rw [hadd]; have := r.bnd; rw [hbl] at this; simpa using this
      · rw [if_neg hl] at hk;have e8 : wO (bl.length : Nat) 400 = false := by rw [zV]; exact decide_eq_false (by omega)
        simp only [↓e8, ↓zY];refine yC (fun e => by cases e) (fun _ => ?_);exact yT r68 (hk _ _ _ ⟨j4.t.mono (by simp), rfl⟩)
    · rw [ha4] at hk;exact yT r68 (hk _ _ _ ⟨t4.mono (by simp), rfl⟩)
 · obtain ⟨q1, q2⟩ := q
   cases ha : oneI ws with
   | error e => rw [ha] at q2 hk; injection q2 with q2; subst q2; exact yT r68 (hk _ _ _ ⟨(j.t.mono (by simp)).step q1 (fun x hx => by simp at hx; subst hx; exact .inr hb), rfl⟩)
   | ok p => rw [ha] at q2; obtain ⟨v', q2, _⟩ := q2; cases q2
theorem lk_ok {q : zG → Option Value} {p v : Value} {w : W} (hp : blkLt w.n p = true) (hq : q w.h = some v) (hs : sameB v v = true) : lkQ q p v w = true := by
 unfold lkQ;rw [hp, tJ, hq];exact hs
theorem qE (x : Int) : sameB (I64 x) (I64 x) = true := by
 show scalB (I64 x) (I64 x) = true;unfold scalB;show (uA .i64 .i64 && xZ x x) = true;rw [wS]; simp; rfl
theorem lks2 {wa wb : W} {f : W → Bool} {ls : List Lk} (hb : f wb = true) (ha : f wa = true) (h : lks [wa, wb] ls = true) : lks [wa, wb] (⟨true, f, 0, 1⟩ :: ls) = true := by
 show gt (gt (gt (f wa) true) (gt (gt (f wb) true) true)) (lks [wa, wb] ls) = true;rw [hb, ha, h]; rfl
theorem lks3 {wa wb wc : W} {f : W → Bool} {ls : List Lk} (hb : f wb = true) (hc : f wc = true) (h : lks [wa, wb, wc] ls = true) : lks [wa, wb, wc] (⟨true, f, 0, 1⟩ :: ls) = true := by
 show gt (gt true (gt (gt (f wb) true) (gt (gt (f wc) true) true))) (lks [wa, wb, wc] ls) = true;rw [hb, hc, h]; rfl
theorem oC (b o l c : Nat) : sameB (.slice (some ⟨b, o, none⟩) l c) (.slice (some ⟨b, o, none⟩) l c) = true := by
 show (Nat.beq b b && Nat.beq o o && Nat.beq l l && Nat.beq c c) = true;simp
abbrev hd (g rb : Nat) : Value := .func (.func g) ⟨[ptr rb 0]⟩ ⟨[]⟩
theorem same_hd (g rb : Nat) : sameB (hd g rb) (hd g rb) = true := by
 show (Nat.beq g g && (((Nat.beq rb rb && Nat.beq 0 0) && true) && true)) = true;simp
structure PAt (M : List Nat) (n : Nat) (h : zG) (pb rb : Nat) (step : Nat) (op en : Bool) (hv : Value) : Prop where
 cel : Cel h pb 0 [hv, hd 67 rb, hd 68 rb, I64 (step : Nat), .bool op, .bool en]
 row : RO M n h hv 113 1 4 [hd 63 rb, hd 64 rb, hd 65 rb, hd 66 rb]
structure SAt (lo n : Nat) (h : zG) (pb rb : Nat) (st : St) (vv pv bv : Value) (svs : List Value) (hv : Value) : Prop where
 r : RAt lo n h pb rb st.f vv pv bv svs
 p : PAt (MM pb rb bv svs) n h pb rb st.step st.opn st.ended hv
 o : st.opn = true → st.f.blocks ≠ []
 s : st.step ≤ 4
def TS (pb rb : Nat) (bv : Value) (svs : List Value) : List Nat := pb :: rb :: ((xK bv).toList ++ oA svs)
def LQ (lo pb rb : Nat) (S M : List Nat) (h : zG) (n : Nat) (r : Except Int St) : Out → zG → Nat → Prop := fun o h' n' => TouchE S h n h' n' ∧
 match r with
 | .ok st' => o = .ret (.tuple ⟨[]⟩) ∧ ∃ vv pv bv svs hv, SAt lo n' h' pb rb st' vv pv bv svs hv ∧ ∀ x ∈ MM pb rb bv svs, x ∈ M ∨ n ≤ x
 | .error e => o = .panic (tI e)
def OfOK (st : St) (s : Tx) : Prop := (st.step < 4 → ∃ ws, ofW s [] = .ok ws) ∧ (4 ≤ st.step → (s == tEnd) = false → (s == wX) = false → st.opn = true → ∃ ws, ofW s tTwo = .ok ws)
theorem RAt.pwr {lo n : Nat} {h h' : zG} {pb rb : Nat} {f : Fct} {vv pv bv : Value} {svs : List Value} (r : RAt lo n h pb rb f vv pv bv svs) (t : TouchE [pb] h n h' n) : RAt lo n h' pb rb f vv pv bv svs := by
 obtain ⟨l1, l2, l3, l4, l5, l6⟩ := r.low;have hS : ∀ x ∈ [pb], x ∈ MM pb rb bv svs ∨ n ≤ x := fun x hx => by simp at hx; subst hx; exact .inl (mem_MM.2 (.inl (by omega)))
 exact r.step t (fun x hx => by simp at hx; exact .inl (by omega)) rfl (r.cel.touch t l5 (by simp; omega)) (r.vr.step t hS (fun x hx => .inl hx)) (r.pr.step t hS (fun x hx => .inl hx))
theorem PAt.step {M M' S : List Nat} {n n' : Nat} {h h' : zG} {pb rb step : Nat} {op en : Bool} {hv : Value} (p : PAt M n h pb rb step op en hv) (t : TouchE S h n h' n') (hpb : pb < n) (h1 : pb ∉ S) (hS : ∀ x ∈ S, x ∈ M ∨ n ≤ x) (hM : ∀ x ∈ M', x ∈ M ∨ n ≤ x) : PAt M' n' h' pb rb step op en hv :=
 ⟨p.cel.touch t hpb h1, p.row.step t hS hM⟩
theorem gS_ok {lo n : Nat} {h : zG} {pb rb : Nat} {f : Fct} {vv pv bv : Value} {svs : List Value} (r : RAt lo n h pb rb f vv pv bv svs) : pb ∉ rb :: ((xK bv).toList ++ oA svs) ∧ (∀ x ∈ rb :: ((xK bv).toList ++ oA svs), x ∈ MM pb rb bv svs) := by
 obtain ⟨l1, l2, l3, l4, l5, l6⟩ := r.low;refine ⟨fun hx => ?_, fun x hx => mem_MM.2 ?_⟩
 · rcases List.mem_cons.1 hx with hx | hx
   · omega
   · rcases List.mem_append.1 hx with hx | hx
     · have := (r.bne pb (by simpa using hx)).1; omega
     · have := (r.lne pb (mem_lastB.1 hx)).1; omega
 · rcases List.mem_cons.1 hx with hx | hx
   · exact .inr (.inl hx)
   · rcases List.mem_append.1 hx with hx | hx
     · exact .inr (.inr (.inl (by simpa using hx)))
     · exact .inr (.inr (.inr (mem_lastB.1 hx)))
def DoneL (lo pb rb : Nat) (S M : List Nat) (h : zG) (n : Nat) (u : Option zX) (g : Except Int St) (t : Fr) (w : W) : Prop := ∃ h' n', w = ⟨[], u, h', n'⟩ ∧ LQ lo pb rb S M h n g (.ret (.tuple ⟨[]⟩)) h' n'
theorem head_comes {m : Int} {lo hi n n0 b pb rb : Nat} {h h0 : zG} {ws : List Tx} {f : Fct} {vv pv bv : Value} {svs : List Value} {op en : Bool} {st : Nat} {g : Nat} (hst : st < 4) (hg : [hd 63 rb, hd 64 rb, hd 65 rb, hd 66 rb][st]? = some (hd g rb))
 (r : RAt lo n0 h0 pb rb f vv pv bv svs) (j : KW m [] n hi b n0 h0 n h ws) :
 ComesE P 8 g [ptr rb 0, ptr b 0] h n (GQ lo pb rb (MM pb rb bv svs) (rb :: ((xK bv).toList ++ oA svs)) h0 n0 n (sF ⟨st, op, en, f⟩ ws)) := by
 have h4 : st = 0 ∨ st = 1 ∨ st = 2 ∨ st = 3 := by omega
 rcases h4 with rfl | rfl | rfl | rfl
 · have : hd 63 rb = hd g rb := Option.some.inj hg;injection this with e _ _; injection e with e; subst e
   exact (hname_comes r j).mono fun _ _ _ q => q.gq
 · have : hd 64 rb = hd g rb := Option.some.inj hg;injection this with e _ _; injection e with e; subst e
   exact (hregs_comes r j).mono fun _ _ _ q => q.gq
 · have : hd 65 rb = hd g rb := Option.some.inj hg;injection this with e _ _; injection e with e; subst e
   exact (hparams_comes r j).mono fun _ _ _ q => q.gq
 · have : hd 66 rb = hd g rb := Option.some.inj hg;injection this with e _ _; injection e with e; subst e
   exact (hresult_comes r j).mono fun _ _ _ q => q.gq
theorem line_comes {m : Int} {lo n pb rb : Nat} {h : zG} {st : St} {vv pv bv : Value} {svs : List Value} {hv : Value} (s : SAt lo n h pb rb st vv pv bv svs hv) (hE : Env m h) (x : Tx) (hx : x.length < 90000) (hof : OfOK st x) :
 ComesE P 8 127 [ptr pb 0, str x] h n (LQ lo pb rb (TS pb rb bv svs) (MM pb rb bv svs) h n (wT st x)) := by
 obtain ⟨l1, l2, l3, l40, l5, l6⟩ := s.r.low;have l4 : pb < n := by omega
 have hgS := gS_ok s.r;have hpM : pb ∈ MM pb rb bv svs := mem_MM.2 (.inl (by omega))
 have hts : ∀ y ∈ TS pb rb bv svs, y ∈ MM pb rb bv svs := fun y hy => by
  rcases List.mem_cons.1 hy with rfl | hy
  · exact hpM
  · exact hgS.2 y hy
 have hself : ∀ y ∈ MM pb rb bv svs, y ∈ MM pb rb bv svs ∨ n ≤ y := fun y hy => .inl hy;refine yR zM mixed (hint := hq0) l127 fun u k hk => ?_;rw [F127_eq];unfold F127;have hm : wT st x = wT st x := rfl;conv at hm => rhs; unfold wT
 have e1 : zF P 4 h (.pointer (some ⟨pb, 5, none⟩)) = some (.bool st.ended) := zH s.p.cel sh4 rfl;have e2 : zF P 3 h (.pointer (some ⟨pb, 3, none⟩)) = some (I64 (st.step : Nat)) := zH s.p.cel sh3 rfl;have e3 : zF P 114 h (ptr pb 0) = some hv := zH s.p.cel sh114 rfl;have e4 := xI (P := P) us114 s.p.row.1 [] h;have e5 : zF P 4 h (.pointer (some ⟨pb, 4, none⟩)) = some (.bool st.opn) := zH s.p.cel sh4 rfl;have e6 : zF P 1 h (.pointer (some ⟨pb, 1, none⟩)) = some (hd 67 rb) := zH s.p.cel sh1 rfl;have e7 : zF P 113 h (.pointer (some ⟨pb, 2, none⟩)) = some (hd 68 rb) := zH s.p.cel sh113 rfl;have ec : ((ByteArray.mk #[]).data.toList : List UInt8) = [] := rfl
 have hbad : (!st.ended && !(x == [])) = false → ∀ t, zO P (loS P 8) 127 k (.panic (tI 3)) t ⟨[], u, h, n⟩ = true := fun e t => by
  rw [if_neg (by rw [e]; exact Bool.false_ne_true)] at hm;exact yT r127 (hk _ _ _ (by rw [hm]; exact ⟨TouchE.refl _ _ _, rfl⟩))
 try simp only [↓yS, ↓zD, ↓fa116_5, ↓e1, ↓zJ, ↓xX]
 cases hen : st.ended with
 | true =>
  simp only [↓Bool.not_true, ↓xW, ↓xP, ↓zJ];refine yC (fun e => by cases e) (fun _ => hbad (by rw [hen]; rfl) _)
 | false =>
  simp only [↓Bool.not_false, ↓yZ, ↓xF, ↓zJ];rw [cmpS_ne, ec];simp only [↓zJ];show yY (loS P 8) 120 [.bool (!(x == [])), I64 3] h n _ _ = true;refine yC (fun hne => ?_) (fun hne => hbad (by rw [hen, hne]; rfl) _);rw [hen, hne, if_pos (show (!false && true) = true from rfl)] at hm;refine wN (DoneL lo pb rb (TS pb rb bv svs) (MM pb rb bv svs) h n u (wT st x)) (fun t w q => ?_) (fun kk hkk => ?_)
  · obtain ⟨h', n', rfl, q⟩ := q;try simp only [↓xB]
    exact qT r127 (hk _ _ _ q)
  try simp only [↓yS, ↓zD, ↓fa116_3, ↓fa116_0, ↓e2, ↓e3, ↓e4, ↓zE, ↓xR, ↓tJ, ↓zY]
  refine wE (DoneL lo pb rb (TS pb rb bv svs) (MM pb rb bv svs) h n u (wT st x)) (fun t w q => ?_) (fun hc kk' hkk' => ?_) (fun hc kk hkk => ?_)
  · obtain ⟨h', n', rfl, q⟩ := q;try simp only [↓xB]
    exact hkk _ _ ⟨h', n', rfl, q⟩
  · have hst : st.step < 4 := by
     rw [zV] at hc;have := of_decide_eq_true hc;omega
    rw [if_pos hst] at hm;obtain ⟨ws, hws⟩ := hof.1 hst;rw [hws] at hm;dsimp only at hm;refine yX (of_comes hE (by omega) x [] hx) (fun v h1 n1 q => ?_) (fun c h1 n1 q => ?_)
    · obtain ⟨x1, q⟩ := q;rw [hws] at q;obtain ⟨b, q, w1⟩ := q;injection q with q; subst q
      have j : KW m [] n1 n1 b n h n1 h1 ws := ⟨x1.touch [], hE.touch (x1.touch []) (by omega) (fun _ h => by cases h), w1, by omega, Nat.le_refl _⟩;have p1 := s.p.step (x1.touch []) l4 (by simp) (by simp) (M' := MM pb rb bv svs) (fun y hy => .inl hy)
      obtain ⟨g, hg⟩ : ∃ g, [hd 63 rb, hd 64 rb, hd 65 rb, hd 66 rb][st.step]? = some (hd g rb) := by
       have h4 : st.step = 0 ∨ st.step = 1 ∨ st.step = 2 ∨ st.step = 3 := by omega
       rcases h4 with e | e | e | e <;> rw [e] <;> exact ⟨_, rfl⟩
      obtain ⟨bb, off, cap, hvb, hbb, hrow⟩ : ∃ bb off cap, hv = .slice (some ⟨bb, off, none⟩) 4 cap ∧ bb < n ∧ True := by
       rcases s.p.row.1 with ⟨_, e, _⟩ | ⟨bb, off, cap, _, _, _, hb, e, _⟩
       · cases e
       · exact ⟨bb, off, cap, e, hb, trivial⟩
      obtain ⟨pp, i1, i2⟩ := xU (P := P) (k := .i64) s.p.row.1 ix114 (tl := 113) sh113 (i := st.step) hg;obtain ⟨pp', i1', i3⟩ := xU (P := P) (k := .i64) p1.row.1 ix114 (tl := 113) sh113 (i := st.step) hg;obtain rfl : pp = pp' := Option.some.inj (i1.symm.trans i1')
      have hpp : pp = .pointer (some ⟨bb, off + st.step * 1, none⟩) := by
       rw [hvb, index_sl ix114 hst] at i1;exact (Option.some.inj i1).symm
      have f3 : zF P 114 h1 (ptr pb 0) = some hv := zH p1.cel sh114 rfl;have f2 : zF P 3 h1 (.pointer (some ⟨pb, 3, none⟩)) = some (I64 (st.step : Nat)) := zH p1.cel sh3 rfl;have lt1 : ∀ {y off' : Nat}, y < n → blkLt n (.pointer (some ⟨y, off', none⟩)) = true := fun hy => rY hy;have lt2 : ∀ {y off' : Nat}, y < n → blkLt n1 (.pointer (some ⟨y, off', none⟩)) = true := fun hy => rY (Nat.lt_of_lt_of_le hy x1.1);have k1a : ∀ {d : List Deferred} {u : Option zX}, lkQ (fun h53 => zF P 113 h53 pp) pp (hd g rb) ⟨d, u, h1, n1⟩ = true := lk_ok (by rw [hpp]; exact lt2 hbb) i3 (same_hd g rb);have k1b : ∀ {d : List Deferred} {u : Option zX}, lkQ (fun h53 => zF P 113 h53 pp) pp (hd g rb) ⟨d, u, h, n⟩ = true := lk_ok (by rw [hpp]; exact lt1 hbb) i2 (same_hd g rb);have k2a : ∀ {d : List Deferred} {u : Option zX}, lkQ (fun h50 => zF P 3 h50 (.pointer (some ⟨pb, 3, none⟩))) (.pointer (some ⟨pb, 3, none⟩)) (I64 (st.step : Nat)) ⟨d, u, h1, n1⟩ = true := lk_ok (lt2 l4) f2 (qE _)
      have k2b : ∀ {d : List Deferred} {u : Option zX}, lkQ (fun h50 => zF P 3 h50 (.pointer (some ⟨pb, 3, none⟩))) (.pointer (some ⟨pb, 3, none⟩)) (I64 (st.step : Nat)) ⟨d, u, h, n⟩ = true := lk_ok (lt1 l4) e2 (qE _);have k3a : ∀ {d : List Deferred} {u : Option zX}, lkQ (fun h45 => zF P 114 h45 (ptr pb 0)) (ptr pb 0) hv ⟨d, u, h1, n1⟩ = true := lk_ok (lt2 l4) f3 (by rw [hvb]; exact oC _ _ _ _);have k3b : ∀ {d : List Deferred} {u : Option zX}, lkQ (fun h45 => zF P 114 h45 (ptr pb 0)) (ptr pb 0) hv ⟨d, u, h, n⟩ = true := lk_ok (lt1 l4) e3 (by rw [hvb]; exact oC _ _ _ _);rw [vJ x1.1];try simp only [↓tJ, ↓yS, ↓zD, ↓fa116_3, ↓fa116_0, ↓f2, ↓f3, ↓zE, ↓i1, ↓i3]
      refine qB (first := [ptr rb 0]) (cap := []) (args := [ptr b 0]) (head_comes (op := st.opn) (en := false) hst hg s.r j) (fun v h2 n2 q => ?_) (fun c h2 n2 q => ?_)
      · obtain ⟨q1, q2⟩ := q
        cases ha : sF ⟨st.step, st.opn, false, st.f⟩ ws with
        | error e => rw [ha] at q2; cases q2
        | ok f' =>
         rw [ha] at q2;have ha' : sF st ws = .ok f' := by rw [← ha]; cases st; dsimp only at hen ⊢; subst hen; rfl
         rw [ha'] at hm;dsimp only at hm;obtain ⟨q2, q3, vv', pv', bv', svs', r', hM'⟩ := q2;rw [vJ q3];rw [tJ, lks3 k1a k1b (lks3 k2a k2b (lks3 k3a k3b rfl)), tJ];have c2 := s.p.cel.touch q1 l4 hgS.1;have g2 : zF P 3 h2 (.pointer (some ⟨pb, 3, none⟩)) = some (I64 (st.step : Nat)) := zH c2 sh3 rfl;try simp only [↓yS, ↓zD, ↓fa116_3, ↓g2, ↓zE]
         refine uH (by omega) ?_;refine xH c2 sh3 (by simp) rfl fun h3 c3 k3 => ?_;have t3 : TouchE [pb] h2 n2 h3 n2 := zS k3 (by simp);have T : TouchE (TS pb rb bv svs) h n h3 n2 := (q1.mono (fun y hy => List.mem_cons_of_mem _ hy)).trans (t3.mono (fun y hy => by simp at hy; subst hy; exact List.mem_cons_self));refine hkk' _ _ ⟨h3, n2, rfl, T, ?_⟩;rw [hm]
         have c3' : Cel h3 pb 0 [hv, hd 67 rb, hd 68 rb, I64 ((st.step + 1 : Nat)), .bool st.opn, .bool false] := by
          rw [hen] at c3; exact c3
         refine ⟨rfl, vv', pv', bv', svs', hv, ⟨r'.pwr t3, ⟨c3', s.p.row.step T (fun y hy => .inl (hts y hy)) hM'⟩, fun ho => ?_, by show st.step + 1 ≤ 4; omega⟩, hM'⟩;rw [show f'.blocks = st.f.blocks from headS_blocks ha'];exact s.o ho
      · obtain ⟨q1, q2⟩ := q
        cases ha : sF ⟨st.step, st.opn, false, st.f⟩ ws with
        | ok f' => rw [ha] at q2; obtain ⟨q2, _⟩ := q2; cases q2
        | error e =>
         rw [ha] at q2;have ha' : sF st ws = .error e := by rw [← ha]; cases st; dsimp only at hen ⊢; subst hen; rfl
         rw [ha'] at hm;dsimp only at hm;injection q2 with q2; subst q2
         rw [lks2 k1b k1a (lks2 k2b k2a (lks2 k3b k3a rfl)), tJ];exact yT r127 (hk _ _ _ (by rw [hm]; exact ⟨q1.mono (fun y hy => List.mem_cons_of_mem _ hy), rfl⟩))
    · obtain ⟨x1, q⟩ := q;rw [hws] at q;obtain ⟨b, q, w1⟩ := q;cases q
  · have hst : ¬ st.step < 4 := by
     rw [zV] at hc;have := of_decide_eq_false hc;omega
    rw [if_neg hst] at hm;have y1 : ∀ K, yD xZ P .eql 9 true (str x) (.string (ByteArray.mk #[101, 110, 100])) K = K (x == tEnd) := fun K => vG _ _ _ _ _ K;have y2 : ∀ K, yD xZ P .eql 9 true (str x) (.string (ByteArray.mk #[98, 108, 111, 99, 107])) K = K (x == wX) := fun K => vG _ _ _ _ _ K;simp only [↓y1, ↓y2];refine wE (DoneL lo pb rb (TS pb rb bv svs) (MM pb rb bv svs) h n u (wT st x)) (fun t w q => ?_) (fun hc1 kk' hkk' => ?_) (fun hc1 kk hkk => ?_)
    · obtain ⟨h', n', rfl, q⟩ := q;try simp only [↓xB]
      exact hkk _ _ ⟨h', n', rfl, q⟩
    · rw [hc1, if_pos rfl] at hm;try simp only [↓yS, ↓zD, ↓fa116_5]
      refine xH s.p.cel sh4 (by simp) rfl fun h3 c3 k3 => ?_;have t3 : TouchE [pb] h n h3 n := zS k3 (by simp);have T : TouchE (TS pb rb bv svs) h n h3 n := t3.mono (fun y hy => by simp at hy; subst hy; exact List.mem_cons_self);refine hkk' _ _ ⟨h3, n, rfl, T, ?_⟩;rw [hm];exact ⟨rfl, vv, pv, bv, svs, hv, ⟨s.r.pwr t3, ⟨c3, s.p.row.step T (fun y hy => .inl (hts y hy)) (fun y hy => .inl hy)⟩, s.o, s.s⟩, hself⟩
    rw [hc1, if_neg Bool.false_ne_true] at hm;refine wE (DoneL lo pb rb (TS pb rb bv svs) (MM pb rb bv svs) h n u (wT st x)) (fun t w q => ?_) (fun hc2 kk' hkk' => ?_) (fun hc2 kk hkk => ?_)
    · obtain ⟨h', n', rfl, q⟩ := q;try simp only [↓xB]
      exact hkk _ _ ⟨h', n', rfl, q⟩
    · rw [hc2, if_pos rfl] at hm;try simp only [↓yS, ↓zD, ↓fa116_1, ↓fa116_4, ↓e6]
      refine qB (first := [ptr rb 0]) (cap := []) (args := []) (block_comes s.r) (fun v h2 n2 q => ?_) (fun c h2 n2 q => ?_)
      · obtain ⟨q1, q2⟩ := q;unfold blockF at q2;by_cases hl : st.f.blocks.length < 200
        · rw [if_pos hl] at q2 hm;obtain ⟨q2, q3, vv', pv', bv', svs', r', hM'⟩ := q2;have c2 := s.p.cel.touch q1 l4 hgS.1;refine xH c2 sh4 (by simp) rfl fun h3 c3 k3 => ?_;have t3 : TouchE [pb] h2 n2 h3 n2 := zS k3 (by simp);have T : TouchE (TS pb rb bv svs) h n h3 n2 := (q1.mono (fun y hy => List.mem_cons_of_mem _ hy)).trans (t3.mono (fun y hy => by simp at hy; subst hy; exact List.mem_cons_self));refine hkk' _ _ ⟨h3, n2, rfl, T, ?_⟩;rw [hm]
          have c3' : Cel h3 pb 0 [hv, hd 67 rb, hd 68 rb, I64 (st.step : Nat), .bool true, .bool false] := by
           rw [hen] at c3; exact c3
          exact ⟨rfl, vv', pv', bv', svs', hv, ⟨r'.pwr t3, ⟨c3', s.p.row.step T (fun y hy => .inl (hts y hy)) hM'⟩, fun _ => by simp, s.s⟩, hM'⟩
        · rw [if_neg hl] at q2; cases q2
      · obtain ⟨q1, q2⟩ := q;unfold blockF at q2;by_cases hl : st.f.blocks.length < 200
        · rw [if_pos hl] at q2; obtain ⟨q2, _⟩ := q2; cases q2
        · rw [if_neg hl] at q2 hm;injection q2 with q2; subst q2
          exact yT r127 (hk _ _ _ (by rw [hm]; exact ⟨q1.mono (fun y hy => List.mem_cons_of_mem _ hy), rfl⟩))
    · rw [hc2, if_neg Bool.false_ne_true] at hm;try simp only [↓yS, ↓zD, ↓fa116_2, ↓fa116_4, ↓e5, ↓zJ]
      refine yC (fun ho => ?_) (fun ho => ?_)
      · rw [if_pos ho] at hm;obtain ⟨ws, hws⟩ := hof.2 (by omega) hc1 hc2 ho;rw [hws] at hm;dsimp only at hm;refine yX (of_comes hE (by omega) x tTwo hx) (fun v h1 n1 q => ?_) (fun c h1 n1 q => ?_)
        · obtain ⟨x1, q⟩ := q;rw [hws] at q;obtain ⟨b, q, w1⟩ := q;injection q with q; subst q
          have j : KW m [] n1 n1 b n h n1 h1 ws := ⟨x1.touch [], hE.touch (x1.touch []) (by omega) (fun _ h => by cases h), w1, by omega, Nat.le_refl _⟩;have p1 := s.p.step (x1.touch []) l4 (by simp) (by simp) (M' := MM pb rb bv svs) (fun y hy => .inl hy);have f7 : zF P 113 h1 (.pointer (some ⟨pb, 2, none⟩)) = some (hd 68 rb) := zH p1.cel sh113 rfl;have k7a : ∀ {d : List Deferred} {u : Option zX}, lkQ (fun h45 => zF P 113 h45 (.pointer (some ⟨pb, 2, none⟩))) (.pointer (some ⟨pb, 2, none⟩)) (hd 68 rb) ⟨d, u, h1, n1⟩ = true := lk_ok (rY (Nat.lt_of_lt_of_le l4 x1.1)) f7 (same_hd _ rb);have k7b : ∀ {d : List Deferred} {u : Option zX}, lkQ (fun h45 => zF P 113 h45 (.pointer (some ⟨pb, 2, none⟩))) (.pointer (some ⟨pb, 2, none⟩)) (hd 68 rb) ⟨d, u, h, n⟩ = true := lk_ok (rY l4) e7 (same_hd _ rb);rw [vJ x1.1];try simp only [↓tJ, ↓yS, ↓zD, ↓fa116_2, ↓f7]
          refine qB (first := [ptr rb 0]) (cap := []) (args := [ptr b 0]) (ins_comes (st := st.step) (op := st.opn) (en := st.ended) s.r j (s.o ho)) (fun v h2 n2 q => ?_) (fun c h2 n2 q => ?_)
          · obtain ⟨q1, q2⟩ := q
            cases ha : insS ⟨st.step, st.opn, st.ended, st.f⟩ ws with
            | error e => rw [ha] at q2; cases q2
            | ok f' =>
             rw [ha] at q2;have ha' : insS st ws = .ok f' := ha;rw [ha'] at hm;dsimp only at hm;obtain ⟨q2, q3, vv', pv', bv', svs', r', hM'⟩ := q2;rw [vJ q3, tJ, lks3 k7a k7b rfl, tJ];have T : TouchE (TS pb rb bv svs) h n h2 n2 := q1.mono (fun y hy => List.mem_cons_of_mem _ hy);refine hkk _ _ ⟨h2, n2, rfl, T, ?_⟩;rw [hm];refine ⟨rfl, vv', pv', bv', svs', hv, ⟨r', ⟨?_, s.p.row.step T (fun y hy => .inl (hts y hy)) hM'⟩, fun _ => ?_, s.s⟩, hM'⟩
             · have c2 := s.p.cel.touch q1 l4 hgS.1;rw [hen] at c2; exact c2
             · exact insS_blocks ha'
          · obtain ⟨q1, q2⟩ := q
            cases ha : insS ⟨st.step, st.opn, st.ended, st.f⟩ ws with
            | ok f' => rw [ha] at q2; obtain ⟨q2, _⟩ := q2; cases q2
            | error e =>
             rw [ha] at q2;have ha' : insS st ws = .error e := ha;rw [ha'] at hm;dsimp only at hm;injection q2 with q2; subst q2
             rw [lks2 k7b k7a rfl, tJ];exact yT r127 (hk _ _ _ (by rw [hm]; exact ⟨q1.mono (fun y hy => List.mem_cons_of_mem _ hy), rfl⟩))
        · obtain ⟨x1, q⟩ := q;rw [hws] at q;obtain ⟨b, q, w1⟩ := q;cases q
      · rw [if_neg (by rw [ho]; exact Bool.false_ne_true)] at hm;exact yT r127 (hk _ _ _ (by rw [hm]; exact ⟨TouchE.refl _ _ _, rfl⟩))
set_option maxRecDepth 1000000
theorem line1_comes {m : Int} {lo n pb rb pbx lbx zl : Nat} {h : zG} {st : St} {vv pv bv : Value} {svs : List Value} {hv : Value} (s : SAt lo n h pb rb st vv pv bv svs hv) (hE : Env m h) (x : Tx) (hx : x.length < 90000) (hof : OfOK st x)
 (hp : Cel h pbx 0 [ptr pb 0]) (hl : Cel h lbx zl [str x]) (shp : yF P 112 = .scal) :
 ComesE P 8 126 [ptr pbx 0, ptr lbx 0] h n (LQ lo pb rb (TS pb rb bv svs) (MM pb rb bv svs) h n (wT st x)) := by
 refine yR zM mixed (hint := hq0) l126 fun u k hk => ?_;rw [F126_eq];unfold F126;have e1 : zF P 112 h (ptr pbx 0) = some (ptr pb 0) := zH hp shp rfl;have e2 : zF P 9 h (ptr lbx 0) = some (str x) := zH hl sh9 rfl;simp only [↓e1, ↓e2, ↓zD];refine yX (line_comes s hE x hx hof) (fun v h' n' q => ?_) (fun c h' n' q => ?_)
 · have hv : v = .tuple ⟨[]⟩ := by
    obtain ⟨_, q2⟩ := q
    cases hm : wT st x with
    | error e => rw [hm] at q2; cases q2
    | ok st' => rw [hm] at q2; obtain ⟨q2, _⟩ := q2; injection q2
   subst hv;exact qT r126 (hk _ _ _ q)
 · exact yT r126 (hk _ _ _ q)
noncomputable def ansL (o : Out) (h : zG) (n : Nat) : Lo := ⟨fun _ _ _ _ _ => false, fun _ _ _ _ _ _ k => k o none h n, fun _ _ _ _ _ => false, fun _ _ _ _ _ => false⟩
section
variable (L : Lo) (s0 s1 s3 s7 s8 s9 s10 s11 s12 s13 s14 s15 s16 s17 s18 s19 s20 s21 s22 s23 s24 s25 s26 s27 : Value) (b2 b4 b5 b6 b8 l n : Nat) (no : Int) (x : Tx) (h : zG)
theorem assign_eq (k : KX) :
 pN (gf28 s0 s1 (ptr b2 0) s3 (ptr b4 0) (ptr b5 0) (ptr b6 0) s7 s8 s9 s10 s11 s12 s13 s14 s15 s16 s17 s18 s19 s20 s21 s22 s23 s24 s25 s26 s27) (rfP P 69 5).toList [.int .i64 no, str x] (fun t' => xcode P L (rfA P 69 5) ⟨69, some l, false⟩ t' ⟨[], none, h, n⟩ k) =
  yL h n (vP [str []] 9) fun h1 n1 => storeAt h1 n 0 [str x] fun h2 =>
   k .normal (gf28 s0 s1 (ptr b2 0) s3 (ptr b4 0) (ptr b5 0) (ptr b6 0) (.int .i64 no) (ptr n 0) s9 s10 s11 (.int .i64 no) (str x) s14 s15 s16 s17 s18 s19 s20 s21 s22 s23 s24 s25 s26 s27) ⟨[], none, h2, n1⟩ := by kernel_rfl
theorem body_eq (k : KX) (u : Option zX) :
 xcode P L (rfB P 69 5) ⟨69, some l, false⟩ (gf28 s0 s1 (ptr b2 0) s3 (ptr b4 0) (ptr b5 0) (ptr b6 0) (.int .i64 no) (ptr b8 0) s9 s10 s11 s12 s13 s14 s15 s16 s17 s18 s19 s20 s21 s22 s23 s24 s25 s26 s27) ⟨[], u, h, n⟩ k =
  L.call 125 [(.func (.func 126) ⟨[]⟩ ⟨[ptr b2 0, ptr b8 0]⟩)] false none h n fun o _ h' n' =>
   xcode P (ansL o h' n') (rfB P 69 5) ⟨69, some l, false⟩ (gf28 s0 s1 (ptr b2 0) s3 (ptr b4 0) (ptr b5 0) (ptr b6 0) (.int .i64 no) (ptr b8 0) s9 s10 s11 s12 s13 s14 s15 s16 s17 s18 s19 s20 s21 s22 s23 s24 s25 s26 s27) ⟨[], u, h, n⟩ k := by kernel_rfl
theorem body_ans (k : KX) (u : Option zX) (e : Int) (h' : zG) (n' : Nat) :
 xcode P (ansL (.ret (.int .i64 e)) h' n') (rfB P 69 5) ⟨69, some l, false⟩ (gf28 s0 s1 (ptr b2 0) s3 (ptr b4 0) (ptr b5 0) (ptr b6 0) (.int .i64 no) (ptr b8 0) s9 s10 s11 s12 s13 s14 s15 s16 s17 s18 s19 s20 s21 s22 s23 s24 s25 s26 s27) ⟨[], u, h, n⟩ k =
  Bool.rec (storeAt h' b6 0 [.int .i64 no] fun h3 => k .normal (gf28 s0 s1 (ptr b2 0) s3 (ptr b4 0) (ptr b5 0) (ptr b6 0) (.int .i64 no) (ptr b8 0) (.int .i64 e) s10 s11 s12 s13 (.func (.func 126) ⟨[]⟩ ⟨[ptr b2 0, ptr b8 0]⟩) (.int .i64 e) (.int .i64 e) (.bool (Bool.rec true false (xZ e 0))) s18 s19 (.int .i64 no) s21 s22 s23 s24 s25 s26 s27) ⟨[], u, h3, n'⟩) (storeAt h' b4 0 [.int .i64 no] fun h3 => storeAt h3 b5 0 [.int .i64 e] fun h4 => k .ret (gf28 s0 s1 (ptr b2 0) s3 (ptr b4 0) (ptr b5 0) (ptr b6 0) (.int .i64 no) (ptr b8 0) (.int .i64 e) s10 s11 s12 s13 (.func (.func 126) ⟨[]⟩ ⟨[ptr b2 0, ptr b8 0]⟩) (.int .i64 e) (.int .i64 e) (.bool (Bool.rec true false (xZ e 0))) (.int .i64 no) (.int .i64 e) s20 s21 s22 s23 s24 s25 s26 s27) ⟨[], u, h4, n'⟩) (Bool.rec true false (xZ e 0)) := by kernel_rfl
end
theorem SAt.wr {lo n n' pb rb : Nat} {h h' : zG} {st : St} {vv pv bv : Value} {svs : List Value} {hv : Value} {S : List Nat} (s : SAt lo n h pb rb st vv pv bv svs hv) (t : TouchE S h n h' n') (hS : ∀ x ∈ S, (pb < x ∧ x ≤ pb + 7) ∨ n ≤ x) : SAt lo n' h' pb rb st vv pv bv svs hv := by
 obtain ⟨l1, l2, l3, l4, l5, l6⟩ := s.r.low;have hM : ∀ x ∈ S, x ∈ MM pb rb bv svs ∨ n ≤ x := fun x hx => (hS x hx).imp (fun h => mem_MM.2 (.inl ⟨by omega, h.2⟩)) id;have hM2 : ∀ x ∈ MM pb rb bv svs, x ∈ MM pb rb bv svs ∨ n ≤ x := fun x hx => .inl hx;refine ⟨s.r.step t (fun x hx => (hS x hx).elim (fun h => .inl ⟨by omega, h.2⟩) (fun h => .inr (.inr h))) rfl (s.r.cel.touch t l5 fun hx => ?_) (s.r.vr.step t hM hM2) (s.r.pr.step t hM hM2), s.p.step t (by omega) (fun hx => ?_) hM hM2, s.o, s.s⟩
 · rcases hS rb hx with h | h <;> omega
 · rcases hS pb hx with h | h <;> omega
theorem SAt.hole {lo n n' x m z pb rb : Nat} {h h' : zG} {st : St} {vv pv bv : Value} {svs : List Value} {hv : Value} (s : SAt lo n h pb rb st vv pv bv svs hv) (t : TouchE [x] h n h' n') (hx : tM (zT h x) = some (m, z + 1, 0)) : SAt lo n' h' pb rb st vv pv bv svs hv := by
 obtain ⟨l1, l2, l3, l4, l5, l6⟩ := s.r.low;refine ⟨s.r.hole t hx, ⟨s.p.cel.touch t (by omega) fun hr => ?_, s.p.row.hole t hx⟩, s.o, s.s⟩;simp at hr;subst hr;rw [s.p.cel.1] at hx;injection hx with hx; injection hx with _ hx; injection hx with hx _; cases hx
noncomputable def LL (blk : Nat) : Loop := { state := .ready, pending := none, fn := 69, tmps := #[], params := rfP P 69 5, assign := rfA P 69 5, body := rfB P 69 5, defers := blk }
noncomputable def LB (blk : Nat) : Loop := { state := .busy, pending := none, fn := 69, tmps := #[], params := rfP P 69 5, assign := rfA P 69 5, body := rfB P 69 5, defers := blk }
noncomputable def LD (blk : Nat) : Loop := { state := .done, pending := some .ret, fn := 69, tmps := #[], params := rfP P 69 5, assign := rfA P 69 5, body := rfB P 69 5, defers := blk }
noncomputable def T0 (pb : Nat) (s0 s1 s10 s11 : Value) : Fr := gf28 s0 s1 (ptr (pb + 1) 0) undef (ptr (pb + 2) 0) (ptr (pb + 3) 0) (ptr (pb + 4) 0) undef undef undef s10 s11 undef undef undef undef undef undef undef undef undef undef undef undef undef undef undef undef
structure BX (h : zG) (pb : Nat) (x4 x5 x6 : Value) : Prop where
 c2 : Cel h (pb + 1) 0 [ptr pb 0]
 c4 : Cel h (pb + 2) (3 + 1) [x4]
 c5 : Cel h (pb + 3) (25 + 1) [x5]
 c6 : Cel h (pb + 4) (3 + 1) [x6]
theorem BX.step {h h' : zG} {pb : Nat} {x4 x5 x6 : Value} (b : BX h pb x4 x5 x6) (k : ∀ y, pb + 1 ≤ y → y ≤ pb + 4 → zT h' y = zT h y) : BX h' pb x4 x5 x6 :=
 ⟨b.c2.keep (k _ (by omega) (by omega)), b.c4.keep (k _ (by omega) (by omega)), b.c5.keep (k _ (by omega) (by omega)), b.c6.keep (k _ (by omega) (by omega))⟩
def RdQ (lo pb rb : Nat) (S M : List Nat) (blk : Nat) (t0 : Fr) (h : zG) (n : Nat) (no : Int) (r : Except Int St) (v : Value) (h' : zG) (n' : Nat) : Prop :=
 match r with
 | .ok st' => v = .bool true ∧ TouchE ((pb + 7) :: (pb + 4) :: S) h n h' n' ∧ zT h' (pb + 7) = .loop (LL blk) t0 ∧ (∃ vv pv bv svs hv, SAt lo n' h' pb rb st' vv pv bv svs hv ∧ ∀ x ∈ MM pb rb bv svs, x ∈ M ∨ n ≤ x) ∧ ∃ x4 x5, BX h' pb x4 x5 (I64 no)
 | .error e => v = .bool false ∧ TouchE ((pb + 7) :: (pb + 2) :: (pb + 3) :: S) h n h' n' ∧ zT h' (pb + 7) = .loop (LD blk) t0 ∧ Cel h' (pb + 2) (3 + 1) [I64 no] ∧ Cel h' (pb + 3) (25 + 1) [I64 e]
theorem TS_far {lo n pb rb : Nat} {h : zG} {f : Fct} {vv pv bv : Value} {svs : List Value} (r : RAt lo n h pb rb f vv pv bv svs) : ∀ y, pb < y → y ≤ pb + 7 → y ∉ TS pb rb bv svs := by
 obtain ⟨l1, l2, l3, l4, l5, l6⟩ := r.low;intro y h1 h2 hx;unfold TS at hx;rcases List.mem_cons.1 hx with hx | hx
 · omega
 · rcases List.mem_cons.1 hx with hx | hx
   · omega
   · rcases List.mem_append.1 hx with hx | hx
     · have := (r.bne y (by simpa using hx)).1; omega
     · have := (r.lne y (mem_lastB.1 hx)).1; omega
theorem round_comes {m : Int} {lo n pb rb : Nat} {h : zG} {st : St} {vv pv bv : Value} {svs : List Value} {hv : Value} {blk : Nat} {s0 s1 s10 s11 x4 x5 x6 : Value} (shp : yF P 112 = .scal)
 (s : SAt lo n h pb rb st vv pv bv svs hv) (hE : Env m h) (hll : zT h (pb + 7) = .loop (LL blk) (T0 pb s0 s1 s10 s11)) (B : BX h pb x4 x5 x6) (no : Int) (x : Tx) (hx : x.length < 90000) (hof : OfOK st x) (he0 : ∀ e, wT st x = .error e → e ≠ 0)
 (k : Out → zG → Nat → Bool) (hk : ∀ v h' n', RdQ lo pb rb (TS pb rb bv svs) (MM pb rb bv svs) blk (T0 pb s0 s1 s10 s11) h n no (wT st x) v h' n' → k (.ret v) h' n' = true) :
 (loS P 8).round (pb + 7) [.int .i64 no, str x] h n k = true := by
 obtain ⟨l1, l2, l3, l4, l5, l6⟩ := s.r.low;have hfar := TS_far s.r
 have hTSn : ∀ y ∈ TS pb rb bv svs, y < n := fun y hy => (s.r.lt y (by
  unfold TS at hy;rcases List.mem_cons.1 hy with hy | hy
  · exact mem_MM.2 (.inl (by omega))
  · exact (gS_ok s.r).2 _ hy)).2
 refine loS_round.2 (xround_ok zM (sound_lo1 zM mixed) ?_);unfold xround;rw [hll];show pN (T0 pb s0 s1 s10 s11) (rfP P 69 5).toList [.int .i64 no, str x] (fun t' => xcode P (loS P 8) (rfA P 69 5) ⟨69, some (pb + 7), false⟩ t' ⟨[], none, h, n⟩ _) = true;unfold T0;rw [assign_eq, yM];have c1 : Cel (h.set .dead (vP [str []] 9) n) n (9 + 1) [str []] := cel_mkC;have x1 : Ext h n (h.set .dead (vP [str []] 9) n) (n + 1) := pL;generalize h.set .dead (vP [str []] 9) n = h1 at c1 x1
 refine tS c1 (by simp) rfl fun h2 c2 k2 => ?_;have t02 : TouchE [] h n h2 (n + 1) := (x1.touch []).step (zS (n := n + 1) k2 (S := [n]) (by simp)) (fun y hy => by simp at hy; subst hy; exact .inr (Nat.le_refl _));have hl2 : zT h2 (pb + 7) = .loop (LL blk) (T0 pb s0 s1 s10 s11) := by rw [t02.2 (pb + 7) l4 (by simp)]; exact hll
 dsimp only;rw [hl2];dsimp only [LL];rw [Tr.setK_eq];have hl3 : zT (h2.set .dead (.loop (LB blk) (T0 pb s0 s1 s10 s11)) (pb + 7)) (pb + 7) = .loop (LB blk) (T0 pb s0 s1 s10 s11) := by rw [zK, if_pos rfl]
 have k3 : ∀ y, y ≠ pb + 7 → zT (h2.set .dead (.loop (LB blk) (T0 pb s0 s1 s10 s11)) (pb + 7)) y = zT h2 y := fun y hy => by rw [zK, if_neg (fun e => hy e.symm)]
 dsimp only [LB] at hl3 k3;generalize h2.set .dead _ (pb + 7) = h3 at hl3 k3 ⊢
 have hcode : (lo1 P 8).code = xcode P (loS P 8) := rfl;rw [hcode];have t03 : TouchE [pb + 7] h n h3 (n + 1) := (t02.mono (by simp)).trans (zS (n := n + 1) k3 (by simp));have c3 : Cel h3 n (9 + 1) [str x] := Cel.keep c2 (k3 n (by omega));rw [body_eq];have hE3 : Env m h3 := hE.touch t03 (by omega) (fun y hy => by simp at hy; omega);have s3 := s.wr t03 (fun y hy => by simp at hy; exact .inl ⟨by omega, by omega⟩);have hB3 : BX h3 pb x4 x5 x6 := B.step fun y h1 h2 => t03.2 y (by omega) (by simp; omega)
 refine (caught_comes (g := 126) (first := []) (cap := [ptr (pb + 1) 0, ptr n 0])
  (Q := fun o h5 n5 => TouchE (TS pb rb bv svs) h3 (n + 1) h5 n5 ∧ match wT st x with
   | .ok st' => o = .ret (.tuple ⟨[]⟩) ∧ ∃ vv pv bv' svs' hv, SAt lo n5 h5 pb rb st' vv pv bv' svs' hv ∧ ∀ y ∈ MM pb rb bv' svs', y ∈ MM pb rb bv svs ∨ n ≤ y
   | .error e => o = .panic (tI e)) ?_ ?_) none _ fun o h7 n7 q => ?_
 · intro h4 c4 x4';have s4 := s3.wr (x4'.touch []) (fun _ h => by cases h);have hE4 := hE3.touch (x4'.touch []) (by omega) (fun _ h => by cases h);refine (line1_comes s4 hE4 x hx hof (hB3.c2.touch (x4'.touch []) (by omega) (by simp)) (c3.touch (x4'.touch []) (by omega) (by simp)) shp).mono fun o h5 n5 q => ?_;obtain ⟨q1, q2⟩ := q
   refine ⟨⟨(x4'.touch _).trans q1, ?_⟩, q1.1, c4.touch q1 (by omega) (fun hy => by
    have := hTSn (n + 1) hy;omega)⟩
   cases hm : wT st x with
   | error e => rw [hm] at q2; exact q2
   | ok st' =>
    rw [hm] at q2;obtain ⟨q2, vv', pv', bv', svs', hv', q3, q4⟩ := q2;exact ⟨q2, vv', pv', bv', svs', hv', q3, fun y hy => (q4 y hy).imp id (fun h => by omega)⟩
 · intro c h5 n5 q;obtain ⟨q1, q2⟩ := q
   cases hm : wT st x with
   | error e => rw [hm] at q2; injection q2 with q2; exact ⟨e, q2⟩
   | ok st' => rw [hm] at q2; obtain ⟨q2, _⟩ := q2; cases q2
 · obtain ⟨h5, n5, hn5, cn5, t57, q⟩ := q
   have hgo : ∀ (hq : TouchE (TS pb rb bv svs) h3 (n + 1) h5 n5), (∀ y, pb + 1 ≤ y → y ≤ pb + 7 → zT h7 y = zT h3 y) ∧ TouchE ((pb + 7) :: TS pb rb bv svs) h n h7 n7 := fun hq => by
    refine ⟨fun y h1 h2 => ?_, ?_⟩
    · have e1 := hq.2 y (by omega) (hfar y (by omega) h2);rw [t57.2 y (by have := hq.1; omega) (by simp; omega), e1]
    · have t1 : TouchE ((pb + 7) :: TS pb rb bv svs) h n h5 n5 := (t03.mono (fun y hy => by simp at hy; subst hy; exact List.mem_cons_self)).trans (hq.mono (fun y hy => List.mem_cons_of_mem _ hy));exact t1.step t57 (fun y hy => by simp at hy; subst hy; exact .inr (by omega))
   rcases q with ⟨v, ⟨q1, q2⟩, rfl⟩ | ⟨e, ⟨q1, q2⟩, rfl⟩
   · obtain ⟨g1, g2⟩ := hgo q1
     cases hm : wT st x with
     | error e => rw [hm] at q2; cases q2
     | ok st' =>
      rw [hm] at q2 hk;obtain ⟨q2, vv', pv', bv', svs', hv', q3, q4⟩ := q2;rw [body_ans];have e0 : (Bool.rec true false (xZ 0 0) : Bool) = false := rfl;rw [e0];have hB7 : BX h7 pb x4 x5 x6 := hB3.step fun y h1 h2 => g1 y h1 (by omega);refine tS hB7.c6 (by simp) rfl fun h8 c8 k8 => ?_
      have hl8 : zT h8 (pb + 7) = .loop (LB blk) (T0 pb s0 s1 s10 s11) := by
       rw [k8 (pb + 7) (by omega), g1 (pb + 7) (by omega) (by omega), hl3]; rfl
      dsimp only;unfold endRound;rw [hl8];dsimp only [LB];rw [Tr.setK_eq];have hl9 : zT (h8.set .dead (.loop (LL blk) (T0 pb s0 s1 s10 s11)) (pb + 7)) (pb + 7) = .loop (LL blk) (T0 pb s0 s1 s10 s11) := by rw [zK, if_pos rfl]
      have k9 : ∀ y, y ≠ pb + 7 → zT (h8.set .dead (.loop (LL blk) (T0 pb s0 s1 s10 s11)) (pb + 7)) y = zT h8 y := fun y hy => by rw [zK, if_neg (fun e => hy e.symm)]
      dsimp only [LL] at hl9 k9;generalize h8.set .dead _ (pb + 7) = h9 at hl9 k9 ⊢
      have t8 : TouchE [pb + 4] h7 n7 h8 n7 := zS k8 (by simp);have t9 : TouchE [pb + 7] h8 n7 h9 n7 := zS k9 (by simp);refine hk _ _ _ ⟨rfl, ?_, hl9, ⟨vv', pv', bv', svs', hv', ?_, fun y hy => q4 y hy⟩, x4, x5, ?_⟩
      · refine ((g2.mono (fun y hy => ?_)).trans (t8.mono (fun y hy => by simp at hy; subst hy; simp))).trans (t9.mono (fun y hy => by simp at hy; subst hy; simp));rcases List.mem_cons.1 hy with rfl | hy
        · simp
        · exact List.mem_cons_of_mem _ (List.mem_cons_of_mem _ hy)
      · exact ((q3.hole t57 (by rw [cn5.1])).wr t8 (fun y hy => by simp at hy; exact .inl ⟨by omega, by omega⟩)).wr t9 (fun y hy => by simp at hy; exact .inl ⟨by omega, by omega⟩)
      · have c6 : Cel h8 (pb + 4) (3 + 1) [I64 no] := c8;exact ⟨(hB7.c2.keep (k8 _ (by omega))).keep (k9 _ (by omega)), (hB7.c4.keep (k8 _ (by omega))).keep (k9 _ (by omega)), (hB7.c5.keep (k8 _ (by omega))).keep (k9 _ (by omega)), c6.keep (k9 _ (by omega))⟩
   · obtain ⟨g1, g2⟩ := hgo q1
     cases hm : wT st x with
     | ok st' => rw [hm] at q2; obtain ⟨q2, _⟩ := q2; cases q2
     | error e' =>
      rw [hm] at q2 hk;injection q2 with q2; injection q2 with q2 _; injection q2 with q2 _ _; injection q2 with _ q2; injection q2 with q2; injection q2 with q2; injection q2 with q2 _; injection q2 with _ q2
      subst q2;rw [body_ans]
      have e0 : (Bool.rec true false (xZ e 0) : Bool) = true := by
       rw [wS, decide_eq_false (he0 e hm)]
      rw [e0];have hB7 : BX h7 pb x4 x5 x6 := hB3.step fun y h1 h2 => g1 y h1 (by omega);refine tS hB7.c4 (by simp) rfl fun h8 c8 k8 => ?_;refine tS (hB7.c5.keep (k8 _ (by omega))) (by simp) rfl fun h10 c10 k10 => ?_
      have hl8 : zT h10 (pb + 7) = .loop (LB blk) (T0 pb s0 s1 s10 s11) := by
       rw [k10 (pb + 7) (by omega), k8 (pb + 7) (by omega), g1 (pb + 7) (by omega) (by omega), hl3]; rfl
      dsimp only;unfold endRound;rw [hl8];dsimp only [LB];rw [Tr.setK_eq];have hl9 : zT (h10.set .dead (.loop (LD blk) (T0 pb s0 s1 s10 s11)) (pb + 7)) (pb + 7) = .loop (LD blk) (T0 pb s0 s1 s10 s11) := by rw [zK, if_pos rfl]
      have k9 : ∀ y, y ≠ pb + 7 → zT (h10.set .dead (.loop (LD blk) (T0 pb s0 s1 s10 s11)) (pb + 7)) y = zT h10 y := fun y hy => by rw [zK, if_neg (fun e => hy e.symm)]
      dsimp only [LD] at hl9 k9;generalize h10.set .dead _ (pb + 7) = h9 at hl9 k9 ⊢
      have t8 : TouchE [pb + 2, pb + 3] h7 n7 h10 n7 := (zS (n := n7) k8 (S := [pb + 2, pb + 3]) (by simp)).trans (zS k10 (by simp));have t9 : TouchE [pb + 7] h10 n7 h9 n7 := zS k9 (by simp);have c4 : Cel h8 (pb + 2) (3 + 1) [I64 no] := c8;have c5 : Cel h10 (pb + 3) (25 + 1) [I64 e] := c10;refine hk _ _ _ ⟨rfl, ?_, hl9, (c4.keep (k10 _ (by omega))).keep (k9 _ (by omega)), c5.keep (k9 _ (by omega))⟩;refine ((g2.mono (fun y hy => ?_)).trans (t8.mono (fun y hy => by simp at hy; rcases hy with rfl | rfl <;> simp))).trans (t9.mono (fun y hy => by simp at hy; subst hy; simp));rcases List.mem_cons.1 hy with rfl | hy
      · simp
      · exact List.mem_cons_of_mem _ (List.mem_cons_of_mem _ (List.mem_cons_of_mem _ hy))
theorem zR {d : List Deferred} {u : Option zX} {h : zG} {n : Nat} {f : List Deferred → Option zX → zG → Nat → Bool} (hf : f d u h n = true) : onW ⟨d, u, h, n⟩ f = true := hf
def Low (lo : Nat) (h : zG) (n : Nat) (h' : zG) (n' : Nat) : Prop := n ≤ n' ∧ ∀ b, b < lo → b < n → zT h' b = zT h b
theorem Low.touch {lo : Nat} {h h1 h2 : zG} {n n1 n2 : Nat} {S : List Nat} (a : Low lo h n h1 n1) (t : TouchE S h1 n1 h2 n2) (hS : ∀ x ∈ S, lo ≤ x) : Low lo h n h2 n2 :=
 ⟨Nat.le_trans a.1 t.1, fun b hb hbn => (t.2 b (Nat.lt_of_lt_of_le hbn a.1) (fun hx => by have := hS b hx; omega)).trans (a.2 b hb hbn)⟩
structure Mid (lo : Nat) (h0 : zG) (n0 : Nat) (pb : Nat) (t0 : Fr) (last : Int) (n : Nat) (h : zG) : Prop where
 low : Low lo h0 n0 h n
 ll : zT h (pb + 7) = .loop (LL (pb + 6)) t0
 df : zT h (pb + 6) = .deferred true
 bx : ∃ x4 x5, BX h pb x4 x5 (I64 last)
structure Fell (lo : Nat) (h0 : zG) (n0 : Nat) (pb : Nat) (t0 : Fr) (no e : Int) (n : Nat) (h : zG) : Prop where
 low : Low lo h0 n0 h n
 ll : zT h (pb + 7) = .loop (LD (pb + 6)) t0
 df : zT h (pb + 6) = .deferred true
 c4 : Cel h (pb + 2) (3 + 1) [I64 no]
 c5 : Cel h (pb + 3) (25 + 1) [I64 e]
theorem lines_loop {m : Int} {lo pb rb n0 : Nat} {h0 : zG} {s0 s1 s10 s11 : Value} (shp : yF P 112 = .scal) (u : Option zX) (ka : KX) :
 ∀ (k no : Nat) (s : Tx) (st : St) (vv pv bv : Value) (svs : List Value) (hv : Value) (h : zG) (n : Nat) (t : Fr), s.length < k → s.length < 90000 → no + s.length < 1000000 → 1 ≤ no → RunOK k s st OfOK →
 SAt lo n h pb rb st vv pv bv svs hv → Env m h → Mid lo h0 n0 pb (T0 pb s0 s1 s10 s11) ((no : Int) - 1) n h → Cel h (pb + 5) 0 [str s] →
 zA t 0 = .func (.yield (pb + 7)) #[] #[] → zA t 1 = ptr (pb + 5) 0 → zA t 3 = I64 (no : Nat) →
 (∀ st' no' t' h' n', runS k no s st = .ok (st', no') → (∃ vv pv bv svs hv, SAt lo n' h' pb rb st' vv pv bv svs hv) → Env m h' → Mid lo h0 n0 pb (T0 pb s0 s1 s10 s11) ((no' : Int) - 1) n' h' → no' < 1000000 → ka (.exit 0) t' ⟨[], u, h', n'⟩ = true) →
 (∀ no' e t' h' n', runS k no s st = .error (no', e) → Fell lo h0 n0 pb (T0 pb s0 s1 s10 s11) (no' : Nat) e n' h' → ka .ret t' ⟨[], u, h', n'⟩ = true) →
 lpS P 8 1000001 ⟨159, none, false⟩ t ⟨[], u, h, n⟩ ka = true := by
 intro k
 induction k with
 | zero => intro no s st vv pv bv svs hv h n t hs; omega
 | succ k ih =>
  intro no s st vv pv bv svs hv h n t hs hsl hno hno1 hrun sa hE hM hc t0 t1 t3 hok herr;obtain ⟨l1, l2, l3, l4, l5, l6⟩ := sa.r.low;refine yO zM mixed (hint := hint159) l159 lp159_1000001 ?_;rw [B159_1000001_eq];unfold B159_1000001;rw [t0, t1, t3];have e1 : zF P 9 h (ptr (pb + 5) 0) = some (str s) := zH hc sh9 rfl;have ec : ((ByteArray.mk #[]).data.toList : List UInt8) = [] := rfl;simp only [↓zC, ↓zE];refine zR ?_;simp only [↓e1, ↓zD];rw [cmpS_ne, ec];show br (!(s == [])) _ _ = true
  cases hse : (s == []) with
  | true =>
   have hs0 : s = [] := by simpa using hse
   subst hs0;simp only [Bool.not_true, ↓uS];exact hok st no _ h n rfl ⟨vv, pv, bv, svs, hv, sa⟩ hE hM (by omega)
  | false =>
   have hne : s ≠ [] := fun e => by rw [e] at hse; simp at hse
   obtain ⟨hof, hrun'⟩ := hrun.resolve_left hne;have hcl := cutB_len 10 s hne;simp only [Bool.not_false, ↓uK, ↓xS];refine uO (cut_pure n hE.tabs s 10 (by omega)) ?_;have x0 : ∀ a b c, yN 0 (.tuple #[str a, str b, .bool c]) = some (str a) := fun _ _ _ => rfl;have x1 : ∀ a b c, yN 1 (.tuple #[str a, str b, .bool c]) = some (str b) := fun _ _ _ => rfl;have x2 : ∀ a b c, yN 2 (.tuple #[str a, str b, .bool c]) = some (.bool c) := fun _ _ _ => rfl;simp only [↓x0, ↓x1, ↓x2, ↓zD, ↓zJ, ↓xX];obtain ⟨x4, x5, hB⟩ := hM.bx;refine wE (fun t w => zA t 0 = .func (.yield (pb + 7)) #[] #[] ∧ zA t 1 = ptr (pb + 5) 0 ∧ zA t 3 = I64 (no : Nat) ∧ zA t 4 = str (rE s) ∧ zA t 5 = str (cutB 10 s).2.1 ∧ w = ⟨[], u, h, n⟩) (fun t w q => ?_) (fun hb kk hkk => ?_) (fun hb kk hkk => ?_)
   · obtain ⟨q0, q1, q3, q4, q5, rfl⟩ := q;rw [q0, q1, q3, q4, q5];simp only [↓zC, ↓zE];refine zR ?_;show (loS P 8).round (pb + 7) [.int .i64 (no : Nat), str (rE s)] h n _ = true;refine round_comes shp sa hE hM.ll hB (no : Nat) (rE s) (by have := lineOf_len s; omega) hof (fun e he => by have := lineS_bad he; unfold Bad at this; omega) _ fun v h2 n2 q => ?_
     have hTS : ∀ y ∈ TS pb rb bv svs, lo ≤ y := fun y hy => (sa.r.lt y (by
      unfold TS at hy;rcases List.mem_cons.1 hy with hy | hy
      · exact mem_MM.2 (.inl (by omega))
      · exact (gS_ok sa.r).2 _ hy)).1
     have hfar := TS_far sa.r;unfold RdQ at q
     cases hm : wT st (rE s) with
     | error e =>
      rw [hm] at q;obtain ⟨rfl, q2, q3, q4, q5⟩ := q;show rtB (.bool false) _ = true;simp only [↓zJ, ↓xX, ↓zD, Bool.not_false, ↓uK];refine herr no e _ h2 n2 (runS_er hse hm) ⟨hM.low.touch q2 (fun y hy => ?_), q3, ?_, q4, q5⟩
      · simp only [List.mem_cons] at hy;rcases hy with rfl | rfl | rfl | hy
        · omega
        · omega
        · omega
        · exact hTS y hy
      · rw [q2.2 (pb + 6) (by omega) (by
         intro hy;simp only [List.mem_cons] at hy;rcases hy with hy | hy | hy | hy
         · omega
         · omega
         · omega
         · exact hfar (pb + 6) (by omega) (by omega) hy)]
        exact hM.df
     | ok st' =>
      rw [hm] at q;obtain ⟨rfl, q2, q3, ⟨vv', pv', bv', svs', hv', q4, q4'⟩, x4', x5', q5⟩ := q;show rtB (.bool true) _ = true;simp only [↓zJ, ↓xX, ↓zD, Bool.not_true, ↓uS]
      have hn5 : ∀ y, pb + 5 ≤ y → y ≤ pb + 6 → y ∉ (pb + 7) :: (pb + 4) :: TS pb rb bv svs := fun y h1 h2 hy => by
       simp only [List.mem_cons] at hy;rcases hy with hy | hy | hy
       · omega
       · omega
       · exact hfar y (by omega) (by omega) hy
      have hc2 := hc.touch q2 (by omega) (hn5 (pb + 5) (by omega) (by omega));refine xH hc2 sh9 (by simp) rfl fun h3 c3 k3 => ?_;have t3' : TouchE [pb + 5] h2 n2 h3 n2 := zS k3 (by simp)
      have hlow2 : Low lo h0 n0 h2 n2 := hM.low.touch q2 (fun y hy => by
       simp only [List.mem_cons] at hy;rcases hy with rfl | rfl | hy
       · omega
       · omega
       · exact hTS y hy)
      have hE2 : Env m h2 := hE.touch q2 (by omega) (fun y hy => by
       simp only [List.mem_cons] at hy;rcases hy with rfl | rfl | hy
       · omega
       · omega
       · have := hTS y hy; omega)
      simp only [↓fg0, ↓fg1, ↓fg3, q0, q1, q3, ↓zC, ↓zE];refine zR ?_;refine uH (by omega) ?_
      refine ih (no + 1) (cutB 10 s).2.1 st' vv' pv' bv' svs' hv' h3 n2 _ (by omega) (by omega) (by omega) (by omega) (hrun' st' hm) (q4.wr t3' (fun y hy => by simp at hy; exact .inl ⟨by omega, by omega⟩)) (hE2.touch t3' (by have := q2.1; omega) (fun y hy => by simp at hy; omega))
       ⟨hlow2.touch t3' (fun y hy => by simp at hy; omega), by rw [k3 _ (by omega)]; assumption, ?_, x4', x5', ?_⟩ c3 (by first | rfl | exact q0 | exact q1 | exact q3) (by first | rfl | exact q0 | exact q1 | exact q3) (by first | rfl | exact q0 | exact q1 | exact q3) ?_ ?_
      · rw [k3 _ (by omega), q2.2 (pb + 6) (by omega) (hn5 (pb + 6) (by omega) (by omega))]; exact hM.df
      · have e9 : (((no + 1 : Nat) : Int) - 1) = (no : Nat) := by omega
        rw [e9];exact q5.step fun y h1 h2 => k3 y (by omega)
      · intro st'' no'' t' h' n' hr;exact hok st'' no'' t' h' n' (by rw [runS_ok hse hm]; exact hr)
      · intro no'' e t' h' n' hr;exact herr no'' e t' h' n' (by rw [runS_ok hse hm]; exact hr)
   · have hb' : (cutB 10 s).2.2 = false := by simpa using hb
     exact hkk _ _ ⟨rfl, rfl, rfl, by show str [] = str (rE s); unfold rE; rw [hb']; rfl, rfl, rfl⟩
   · have hb' : (cutB 10 s).2.2 = true := by simpa using hb
     exact hkk _ _ ⟨rfl, rfl, rfl, by show str _ = str (rE s); unfold rE; rw [hb']; rfl, rfl, rfl⟩
theorem lines_rets (s : Tx) (h : zG) (n : Nat) : Rets P 8 124 [str s] h n fun v h' n' => v = .func (.func 159) ⟨[]⟩ ⟨[ptr n 0]⟩ ∧ n' = n + 1 ∧ Cel h' n 0 [str s] ∧ Ext h n h' (n + 1) := by
 refine yQ zM mixed (hint := hq0) l124 fun u k hk => ?_;rw [F124_eq];unfold F124;refine tR (by simp [cellsOf, Value.oneCell']) fun h1 c1 x1 => ?_;simp only [↓xG];exact yP r124 rfl (hk _ _ _ ⟨rfl, rfl, c1, x1⟩)
theorem code_ret {cx : Cx} {t : Fr} {w : W} {k : KX} (h : k .ret t w = true) : (loS P 8).code .ret cx t w k = true := by
 have h1 : (lo1 P 8).code .ret cx t w k = true := h;exact loS_code.2 ((sound_lo1 zM mixed).code _ _ _ _ _ h1)
theorem range_at {f : FuncId} {cap : List Value} {params : Array Tmp} {assign body : Code} {fn : FuncId} {t : Fr} {u : Option zX} {h : zG} {n : Nat} {K : KX} {Q : Out → zG → Nat → Prop}
 (hc : ∀ h1, zT h1 n = .deferred true → zT h1 (n + 1) = .loop { state := .ready, pending := none, fn := fn, tmps := #[], params := params, assign := assign, body := body, defers := n } t → TouchE [] h n h1 (n + 2) →
  ComesE P 8 f (.func (.yield (n + 1)) #[] #[] :: cap) h1 (n + 2) Q)
 (hq : ∀ o h2 n2, Q o h2 n2 → ∃ v l t1, o = .ret v ∧ zT h2 (n + 1) = .loop l t1 ∧ ((l.state = .ready ∧ l.pending = none ∧ ∀ h3, (∀ y, y ≠ n + 1 → zT h3 y = zT h2 y) → K .normal t ⟨[{ target := .collected n, args := #[] }], u, h3, n2⟩ = true) ∨ (l.state = .done ∧ l.pending = some .ret ∧ ∀ h3, (∀ y, y ≠ n + 1 → zT h3 y = zT h2 y) → K .ret t ⟨[{ target := .collected n, args := #[] }], u, h3, n2⟩ = true))) :
 yRange (loS P 8) (.func (.func f) ⟨[]⟩ ⟨cap⟩) params assign body ⟨fn, none, false⟩ t [] u h n K = true := by
 unfold yRange;dsimp only;rw [yM];unfold xrange;rw [yM]
 have d1 : zT ((h.set .dead (.deferred true) n).set .dead (.loop { state := .ready, pending := none, fn := fn, tmps := #[], params := params, assign := assign, body := body, defers := n } t) (n + 1)) n = .deferred true := by
  rw [zK, if_neg (by omega), zK, if_pos rfl]
 have d2 : zT ((h.set .dead (.deferred true) n).set .dead (.loop { state := .ready, pending := none, fn := fn, tmps := #[], params := params, assign := assign, body := body, defers := n } t) (n + 1)) (n + 1) = .loop { state := .ready, pending := none, fn := fn, tmps := #[], params := params, assign := assign, body := body, defers := n } t := by
  rw [zK, if_pos rfl]
 have d3 : TouchE [] h n ((h.set .dead (.deferred true) n).set .dead (.loop { state := .ready, pending := none, fn := fn, tmps := #[], params := params, assign := assign, body := body, defers := n } t) (n + 1)) (n + 2) :=
  ⟨by omega, fun b hb _ => by rw [zK, if_neg (by omega), zK, if_neg (by omega)]⟩
 dsimp only at d1 d2 d3 ⊢;generalize (h.set .dead (.deferred true) n).set .dead _ (n + 1) = h1 at d1 d2 d3 ⊢
 have hcc := hc h1 d1 d2 d3;refine hcc none _ fun o h2 n2 q => ?_;obtain ⟨v, l, t1, rfl, hl, hk⟩ := hq o h2 n2 q;dsimp only;rw [hl];dsimp only;have k3 : ∀ y, y ≠ n + 1 → zT (h2.set .dead (.loop { l with state := .exhausted } t1) (n + 1)) y = zT h2 y := fun y hy => by rw [zK, if_neg (fun e => hy e.symm)]
 rcases hk with ⟨e1, e2, hk⟩ | ⟨e1, e2, hk⟩
 · rw [e1, e2];dsimp only;rw [Tr.setK_eq];refine hk _ ?_;rw [e2] at k3;exact k3
 · rw [e1, e2];dsimp only;rw [Tr.setK_eq];refine code_ret (hk _ ?_);rw [e2] at k3;exact k3
theorem leave_coll2 {f : FuncId} {i j : Nat} {ti tj : TypeId} (hr : wF P f = some [.cell i ti, .cell j tj]) {t : Fr} {u : Option zX} {h : zG} {n r : Nat} {k : KO} {v w : Value} (hd : zT h r = .deferred true)
 (hv : ∀ h', (∀ y, y ≠ r → zT h' y = zT h y) → zF P ti h' (zA t i) = some v ∧ zF P tj h' (zA t j) = some w ∧ k (.ret (.tuple ⟨[v, w]⟩)) u h' n = true) :
 zO P (loS P 8) f k .ret t ⟨[{ target := .collected r, args := #[] }], u, h, n⟩ = true := by
 unfold wF at hr
 cases hb : rO P f with
 | none => rw [hb] at hr; cases hr
 | some fb =>
  rw [hb] at hr;injection hr with hr
  unfold zO;rw [hb];show tK P (loS P 8) fb.1 none t ⟨[{ target := .collected r, args := #[] }], u, h, n⟩ k = true;unfold tK;dsimp only;rw [hd];dsimp only;rw [Tr.setK_eq];refine leave_intro zM ?_;have k3 : ∀ y, y ≠ r → zT (h.set .dead (.deferred false) r) y = zT h y := fun y hy => by rw [zK, if_neg (fun e => hy e.symm)]
  obtain ⟨e1, e2, e3⟩ := hv _ k3
  have hl : wA P t (h.set .dead (.deferred false) r) fb.1.results.toList = some [v, w] := by
   have q1 : ldV P (h.set .dead (.deferred false) r) ti (zA t i) = some v := e1;have q2 : ldV P (h.set .dead (.deferred false) r) tj (zA t j) = some w := e2;dsimp only at hr;rw [hr];unfold wA;rw [q1];unfold wA;rw [q2];rfl
  unfold tK;dsimp only;rw [hl];dsimp only;rw [wZ];exact e3
def LnQ (m : Int) (lo : Nat) (h0 : zG) (n0 pb rb : Nat) (t0 : Fr) (r : Except (Nat × Int) (St × Nat)) (h2 : zG) (n2 : Nat) : Prop :=
 (∃ st no, r = .ok (st, no) ∧ (∃ vv pv bv svs hv, SAt lo n2 h2 pb rb st vv pv bv svs hv) ∧ Env m h2 ∧ Mid lo h0 n0 pb t0 ((no : Int) - 1) n2 h2 ∧ no < 1000000) ∨
 (∃ no e, r = .error (no, e) ∧ Fell lo h0 n0 pb t0 (no : Nat) e n2 h2)
theorem lines1_comes {m : Int} {lo pb rb n n0 : Nat} {h h0 : zG} {s0 s1 s10 s11 : Value} (shp : yF P 112 = .scal) {s : Tx} {vv pv bv : Value} {svs : List Value} {hv : Value} (hs : s.length ≤ 65536) (hrun : RunOK (s.length + 1) s St.z OfOK)
 (sa : SAt lo n h pb rb St.z vv pv bv svs hv) (hE : Env m h) (hM : Mid lo h0 n0 pb (T0 pb s0 s1 s10 s11) 0 n h) (hc : Cel h (pb + 5) 0 [str s]) :
 ComesE P 8 159 [.func (.yield (pb + 7)) #[] #[], ptr (pb + 5) 0] h n fun o h2 n2 => o = .ret (.tuple ⟨[]⟩) ∧ LnQ m lo h0 n0 pb rb (T0 pb s0 s1 s10 s11) (runS (s.length + 1) 1 s St.z) h2 n2 := by
 refine yR zM mixed (hint := hint159) l159 fun u k hk => ?_;rw [F159_eq];unfold F159;refine lines_loop shp u _ (s.length + 1) 1 s St.z vv pv bv svs hv h n _ (by omega) (by omega) (by omega) (by omega) hrun sa hE hM hc rfl rfl rfl ?_ ?_
 · intro st' no' t' h' n' hr h1 h2 h3 h4;simp only [↓zP, ↓zQ];exact qT r159 (hk _ _ _ ⟨rfl, .inl ⟨st', no', hr, h1, h2, h3, h4⟩⟩)
 · intro no' e t' h' n' hr h1;simp only [↓yH, ↓yI];exact qT r159 (hk _ _ _ ⟨rfl, .inr ⟨no', e, hr, h1⟩⟩)
def PRQ (lo pb rb : Nat) (r : Except (Nat × Int) (St × Nat)) (o : Out) (h' : zG) (n' : Nat) : Prop :=
 (∃ st no, r = .ok (st, no) ∧ st.ended = true ∧ o = .ret (.tuple ⟨[I64 0, I64 0]⟩) ∧ ∃ vv pv bv svs hv, SAt lo n' h' pb rb st vv pv bv svs hv) ∨
 (∃ st no, r = .ok (st, no) ∧ st.ended = false ∧ o = .ret (.tuple ⟨[I64 (no : Nat), I64 3]⟩)) ∨
 (∃ no e, r = .error (no, e) ∧ o = .ret (.tuple ⟨[I64 (no : Nat), I64 e]⟩))
theorem endA_normal (kn : KN) (ka : KX) (t : Fr) (w : W) : endA kn ka .normal t w = kn t w := rfl
theorem paper_comes {m : Int} {lo pb rb : Nat} {h : zG} (shp : yF P 112 = .scal) {s : Tx} {hv : Value} (hs : s.length ≤ 65536) (hrun : RunOK (s.length + 1) s St.z OfOK)
 (hlo : 8 ≤ lo ∧ lo ≤ rb ∧ rb < pb) (cp : Cel h pb 0 [hv, hd 67 rb, hd 68 rb, I64 0, .bool false, .bool false]) (cr : Cel h rb 0 [str [], .slice none 0 0, .slice none 0 0, str [], .slice none 0 0])
 (rh : RO [] (pb + 1) h hv 113 1 4 [hd 63 rb, hd 64 rb, hd 65 rb, hd 66 rb]) (rhb : ∀ b, xK hv = some b → b < pb ∧ b ≠ rb) (hE : Env m h) :
 ComesE P 8 69 [ptr pb 0, str s] h (pb + 1) fun o h' n' => Low lo h (pb + 1) h' n' ∧ PRQ lo pb rb (runS (s.length + 1) 1 s St.z) o h' n' := by
 obtain ⟨l1, l2, l3⟩ := hlo;refine yR zM mixed (hint := hint69) l69 fun u k hk => ?_;rw [F69_eq];unfold F69;refine tR (by simp [cellsOf, Value.oneCell']) fun h1 c1 x1 => ?_;refine wR ze3 fun h2 c2 x2 => ?_;refine wR ze25 fun h3 c3 x3 => ?_;refine wR ze3 fun h4 c4 x4 => ?_;refine xH c4 sh3 (by simp [cellsOf]) rfl fun h5 c5 k5 => ?_;refine uJ (lines_rets s h5 (pb + 1 + 1 + 1 + 1 + 1)) fun v h6 n6 ⟨e1, e2, c6, x6⟩ => ?_;subst e1 e2;have g5 : ∀ y, y ≠ pb + 4 → zT h5 y = zT h4 y := fun y hy => k5 y (by omega)
 have T06 : TouchE [] h (pb + 1) h6 (pb + 6) := by
  refine ⟨by omega, fun b hb _ => ?_⟩;rw [x6.2 b (by omega), g5 b (by omega), x4.2 b (by omega), x3.2 b (by omega), x2.2 b (by omega), x1.2 b (by omega)]
 have B6 : BX h6 pb (I64 0) (I64 0) (I64 0) := by
  refine ⟨Cel.keep c1 ?_, Cel.keep c2 ?_, Cel.keep c3 ?_, Cel.keep c5 ?_⟩
  · rw [x6.2 _ (by omega), g5 _ (by omega), x4.2 _ (by omega), x3.2 _ (by omega), x2.2 _ (by omega)]
  · show zT h6 (pb + 1 + 1) = _;rw [x6.2 _ (by omega), g5 _ (by omega), x4.2 _ (by omega), x3.2 _ (by omega)]
  · show zT h6 (pb + 1 + 1 + 1) = _;rw [x6.2 _ (by omega), g5 _ (by omega), x4.2 _ (by omega)]
  · show zT h6 (pb + 1 + 1 + 1 + 1) = _;rw [x6.2 _ (by omega)]
 have c6' : Cel h6 (pb + 5) 0 [str s] := c6;have cp6 := cp.touch T06 (by omega) (by simp);have cr6 := cr.touch T06 (by omega) (by simp);have hE6 : Env m h6 := hE.touch T06 (by omega) (by simp)
 refine wN (fun t w => zA t 2 = ptr (pb + 1) 0 ∧ zA t 4 = ptr (pb + 2) 0 ∧ zA t 5 = ptr (pb + 3) 0 ∧ zA t 6 = ptr (pb + 4) 0 ∧ ∃ h7 n7 st no x4 x5, w = ⟨[{ target := .collected (pb + 6), args := #[] }], u, h7, n7⟩ ∧ runS (s.length + 1) 1 s St.z = .ok (st, no) ∧
  (∃ vv pv bv svs hv, SAt lo n7 h7 pb rb st vv pv bv svs hv) ∧ Low lo h (pb + 1) h7 n7 ∧ zT h7 (pb + 6) = .deferred true ∧ BX h7 pb x4 x5 (I64 ((no : Int) - 1)) ∧ no < 1000000) (fun t w q => ?_) (fun kk hkk => ?_)
 · obtain ⟨q2, q4, q5, q6, h7, n7, st, no, y4, y5, rfl, hr, ⟨vv, pv, bv, svs, hv', sa⟩, hlow, hdf, B7, hno⟩ := q;obtain ⟨m1, m2, m3, m4, m5, m6⟩ := sa.r.low;simp only [q2, q4, q5, q6, ↓zC];refine zR ?_;have e1 : zF P 112 h7 (ptr (pb + 1) 0) = some (ptr pb 0) := zH B7.c2 shp rfl;have e2 : zF P 4 h7 (.pointer (some ⟨pb, 5, none⟩)) = some (.bool st.ended) := zH sa.p.cel sh4 rfl;have e3 : zF P 3 h7 (ptr (pb + 4) 0) = some (I64 ((no : Int) - 1)) := zH B7.c6 sh3 rfl;simp only [↓e1, ↓zD, ↓yS, ↓fa116_5, ↓e2, ↓zJ, ↓xX]
   cases hen : st.ended with
   | true =>
    simp only [↓Bool.not_true, ↓uS];refine xH B7.c4 sh3 (by simp) rfl fun h8 c8 k8 => ?_;refine xH (B7.c5.keep (k8 _ (by omega))) sh25 (by simp) rfl fun h9 c9 k9 => ?_;have t8 : TouchE [pb + 2, pb + 3] h7 n7 h9 n7 := (zS (n := n7) k8 (S := [pb + 2, pb + 3]) (by simp)).trans (zS k9 (by simp));refine leave_coll2 r69 (r := pb + 6) (v := I64 0) (w := I64 0) (by rw [k9 _ (by omega), k8 _ (by omega)]; exact hdf) fun h10 k10 => ⟨?_, ?_, hk _ _ _ ⟨?_, .inl ⟨st, no, hr, hen, rfl, vv, pv, bv, svs, hv', ?_⟩⟩⟩
    · exact zH ((Cel.keep c8 (k9 _ (by omega))).keep (k10 _ (by omega))) sh3 rfl
    · exact zH (Cel.keep c9 (k10 _ (by omega))) sh25 rfl
    · exact (hlow.touch t8 (fun y hy => by simp at hy; omega)).touch (zS (n := n7) k10 (S := [pb + 6]) (by simp)) (fun y hy => by simp at hy; omega)
    · exact (sa.wr t8 (fun y hy => by simp at hy; exact .inl ⟨by omega, by omega⟩)).wr (zS (n := n7) k10 (S := [pb + 6]) (by simp)) (fun y hy => by simp at hy; exact .inl ⟨by omega, by omega⟩)
   | false =>
    simp only [↓Bool.not_false, ↓uK, ↓e3, ↓zD, ↓zE];refine uH (by omega) ?_;refine xH B7.c4 sh3 (by simp) rfl fun h8 c8 k8 => ?_;refine xH (B7.c5.keep (k8 _ (by omega))) sh25 (by simp) rfl fun h9 c9 k9 => ?_;have t8 : TouchE [pb + 2, pb + 3] h7 n7 h9 n7 := (zS (n := n7) k8 (S := [pb + 2, pb + 3]) (by simp)).trans (zS k9 (by simp));have eno : (no : Int) - 1 + 1 = (no : Nat) := by omega
    refine leave_coll2 r69 (r := pb + 6) (v := I64 (no : Nat)) (w := I64 3) (by rw [k9 _ (by omega), k8 _ (by omega)]; exact hdf) fun h10 k10 => ⟨?_, ?_, hk _ _ _ ⟨?_, .inr (.inl ⟨st, no, hr, hen, rfl⟩)⟩⟩
    · have c8' : Cel h8 (pb + 2) (3 + 1) [I64 (no : Nat)] := by rw [eno] at c8; exact c8
      exact zH ((Cel.keep c8' (k9 _ (by omega))).keep (k10 _ (by omega))) sh3 rfl
    · exact zH (Cel.keep c9 (k10 _ (by omega))) sh25 rfl
    · exact (hlow.touch t8 (fun y hy => by simp at hy; omega)).touch (zS (n := n7) k10 (S := [pb + 6]) (by simp)) (fun y hy => by simp at hy; omega)
 · refine range_at (f := 159) (cap := [ptr (pb + 5) 0]) (n := pb + 6) (Q := fun o h2 n2 => o = .ret (.tuple ⟨[]⟩) ∧ LnQ m lo h (pb + 1) pb rb (T0 pb (ptr pb 0) (str s) (str s) (.func (.func 159) ⟨[]⟩ ⟨[ptr (pb + 5) 0]⟩)) (runS (s.length + 1) 1 s St.z) h2 n2) ?_ ?_
   · intro h7 d1 d2 t7;have T07 : TouchE [] h (pb + 1) h7 (pb + 8) := T06.trans t7;have hM : MM pb rb (.slice none 0 0) [] = List.range' pb 8 ++ [rb] := by unfold MM oA; simp [xK]
     have rnil : ∀ {e sz : Nat}, RO (MM pb rb (.slice none 0 0) []) (pb + 8) h7 (.slice none 0 0) e sz 0 [] := ⟨.inl ⟨rfl, rfl, rfl⟩, fun _ hb => (by cases hb), fun _ _ _ hb => (by cases hb)⟩
     have sa : SAt lo (pb + 8) h7 pb rb St.z (.slice none 0 0) (.slice none 0 0) (.slice none 0 0) [] hv := by
      refine ⟨⟨cr6.touch t7 (by omega) (by simp), ⟨l1, by omega, l2, by omega, by omega, l3⟩, rnil, rnil, .inl ⟨rfl, rfl, rfl⟩, fun _ hb => (by cases hb), fun _ hb => (by cases hb), ⟨rfl, fun k l v h1 => ?_, fun l v h1 => ?_⟩, ?_⟩, ⟨cp6.touch t7 (by omega) (by simp), rh.1.touch T07 (by simp), fun b hb hbM => ?_, fun b m z hb hi => ?_⟩, fun h => ?_, ?_⟩
      · exact absurd h1 (by show ¬ (k + 1 < 0); omega)
      · cases h1
      · show 0 ≤ 200; omega
      · have := rhb b hb;rw [hM] at hbM;simp only [List.mem_append, List.mem_range'_1, List.mem_cons, List.not_mem_nil, or_false] at hbM;omega
      · have hb' := (rhb b hb).1;rw [T07.2 b (by omega) (by simp)] at hi;exact rh.2.2 b m z hb hi
      · cases h
      · show 0 ≤ 4; omega
     exact lines1_comes shp hs hrun sa (hE6.touch t7 (by omega) (by simp)) ⟨⟨T07.1, fun b hb hbn => T07.2 b hbn (by simp)⟩, d2, d1, I64 0, I64 0, B6.step fun y h1 h2 => t7.2 y (by omega) (by simp)⟩ (c6'.touch t7 (by omega) (by simp))
   · intro o h7 n7 q;obtain ⟨rfl, q⟩ := q;rcases q with ⟨st, no, hr, ⟨vv, pv, bv, svs, hv', sa⟩, hE7, hM, hno⟩ | ⟨no, e, hr, hF⟩
     · obtain ⟨y4, y5, hB⟩ := hM.bx;obtain ⟨m1, m2, m3, m4, m5, m6⟩ := sa.r.low;refine ⟨_, _, _, rfl, hM.ll, .inl ⟨rfl, rfl, fun h8 k8 => ?_⟩⟩;have t8 : TouchE [pb + 7] h7 n7 h8 n7 := zS k8 (by simp);simp only [↓endA_normal];show kk _ _ = true;refine hkk _ _ ⟨rfl, rfl, rfl, rfl, h8, n7, st, no, y4, y5, rfl, hr, ⟨vv, pv, bv, svs, hv', sa.wr t8 (fun y hy => by simp at hy; exact .inl ⟨by omega, by omega⟩)⟩, hM.low.touch t8 (fun y hy => by simp at hy; omega), ?_, hB.step fun y h1 h2 => k8 y (by omega), hno⟩;rw [k8 (pb + 6) (by omega)]; exact hM.df
     · refine ⟨_, _, _, rfl, hF.ll, .inr ⟨rfl, rfl, fun h8 k8 => ?_⟩⟩;have t8 : TouchE [pb + 7] h7 n7 h8 n7 := zS k8 (by simp);simp only [↓yH, ↓yI];refine leave_coll2 r69 (r := pb + 6) (v := I64 (no : Nat)) (w := I64 e) (by rw [k8 (pb + 6) (by omega)]; exact hF.df) fun h10 k10 => ⟨?_, ?_, hk _ _ _ ⟨?_, .inr (.inr ⟨no, e, hr, rfl⟩)⟩⟩
       · exact zH ((hF.c4.keep (k8 _ (by omega))).keep (k10 _ (by omega))) sh3 rfl
       · exact zH ((hF.c5.keep (k8 _ (by omega))).keep (k10 _ (by omega))) sh25 rfl
       · exact (hF.low.touch t8 (fun y hy => by simp at hy; omega)).touch (zS (n := n7) k10 (S := [pb + 6]) (by simp)) (fun y hy => by simp at hy; omega)
def FunAt (n : Nat) (h : zG) (v : Value) (f : Fct) : Prop := ∃ vv pv bv svs, v = .agg ⟨[str f.name, vv, pv, str f.result, bv]⟩ ∧ RO [] n h vv 9 1 f.vregs.length (f.vregs.map str) ∧ RO [] n h pv 3 1 f.params.length (f.params.map I64) ∧
 RO [] n h bv 51 1 f.blocks.length svs ∧ svs.length = f.blocks.length ∧ ∀ (k : Nat) (l : List Ins) (v : Value), f.blocks[k]? = some l → svs[k]? = some v → BlkRO [] n h v l
theorem RO.any {M : List Nat} {n : Nat} {h : zG} {v : Value} {e sz len : Nat} {vs : List Value} (r : RO M n h v e sz len vs) : RO [] n h v e sz len vs := ⟨r.1, fun _ _ => by simp, r.2.2⟩
theorem BlkRO.any {M : List Nat} {n : Nat} {h : zG} {v : Value} {l : List Ins} (r : BlkRO M n h v l) : BlkRO [] n h v l := by
 obtain ⟨av, a, b⟩ := r;exact ⟨av, ⟨a.1, fun j i a' h1 h2 => (a.2 j i a' h1 h2).any⟩, b.any⟩
theorem BlkRO.ext {n n' : Nat} {h h' : zG} {v : Value} {l : List Ins} (r : BlkRO [] n h v l) (x : Ext h n h' n') : BlkRO [] n' h' v l := r.step (x.touch []) (by simp) (by simp)
theorem FunAt.ext {n n' : Nat} {h h' : zG} {v : Value} {f : Fct} (a : FunAt n h v f) (x : Ext h n h' n') : FunAt n' h' v f := by
 obtain ⟨vv, pv, bv, svs, e, r1, r2, r3, r4, r5⟩ := a;exact ⟨vv, pv, bv, svs, e, r1.step (x.touch []) (by simp) (by simp), r2.step (x.touch []) (by simp) (by simp), r3.step (x.touch []) (by simp) (by simp), r4, fun k l v h1 h2 => (r5 k l v h1 h2).ext x⟩
theorem funAt_z (n : Nat) (h : zG) : FunAt n h (.agg ⟨[str [], .slice none 0 0, .slice none 0 0, str [], .slice none 0 0]⟩) Fct.z := by
 have rnil : ∀ {e sz : Nat}, RO [] n h (.slice none 0 0) e sz 0 [] := ⟨.inl ⟨rfl, rfl, rfl⟩, fun _ hb => (by cases hb), fun _ _ _ hb => (by cases hb)⟩;exact ⟨_, _, _, [], rfl, rnil, rnil, rnil, rfl, fun k l v h1 => by simp [Fct.z] at h1⟩
theorem SAt.funAt {lo n pb rb x m z n' : Nat} {h h' : zG} {st : St} {vv pv bv : Value} {svs : List Value} {hv : Value} (s : SAt lo n h pb rb st vv pv bv svs hv) (t : TouchE [x] h n h' n') (hx : tM (zT h x) = some (m, z + 1, 0)) :
 FunAt n' h' (.agg ⟨[str st.f.name, vv, pv, str st.f.result, bv]⟩) st.f := by
 have r := s.r.hole t hx;refine ⟨vv, pv, bv, svs, rfl, r.vr.any, r.pr.any, own_ro r.bo (Nat.le_refl 1) (by simp), r.bl.len, fun k l v h1 h2 => ?_⟩;by_cases hk : k + 1 < st.f.blocks.length
 · exact (r.bl.ro k l v hk h1 h2).any
 · have hkl : k < st.f.blocks.length := (List.getElem?_eq_some_iff.1 h1).1;have hlen := r.bl.len;obtain ⟨av, a, o⟩ := r.bl.last l v (by rw [List.getLast?_eq_getElem?, ← h1]; congr 1; omega) (by rw [List.getLast?_eq_getElem?, ← h2]; congr 1; omega);exact ⟨av, ⟨a.1, fun j i a' g1 g2 => (a.2 j i a' g1 g2).any⟩, own_ro o (by omega) (by simp)⟩
theorem leave_c2 {L : Lo} {f : FuncId} {i j l : Nat} {ty : TypeId} (hr : wF P f = some [.cell i ty, .tmp j, .tmp l]) {k : KO} {t : Fr} {u : Option zX} {h : zG} {n : Nat} {v : Value} (hv : zF P ty h (zA t i) = some v) (hk : k (.ret (.tuple ⟨[v, zA t j, zA t l]⟩)) u h n = true) :
 zO P L f k .ret t ⟨[], u, h, n⟩ = true := by
 have hl : wA P t h [.cell i ty, .tmp j, .tmp l] = some [v, zA t j, zA t l] := by
  have e : ldV P h ty (zA t i) = some v := hv;unfold wA;rw [e];rfl
 rw [leave_res hr hl];exact hk
theorem read_rets {m : Int} {h : zG} {n : Nat} (shp : yF P 112 = .scal) (hE : Env m h) (hn : 8 ≤ n) (s : Tx) (hs : s.length < 1000000) (hrun : s.length ≤ 65536 → RunOK (s.length + 1) s St.z OfOK) :
 Rets P 8 22 [str s] h n fun v h' n' => Ext h n h' n' ∧ ∃ fv, v = .tuple ⟨[fv, I64 (readS s).2.1, I64 (readS s).2.2]⟩ ∧ FunAt n' h' fv (readS s).1 := by
 refine yQ zM mixed (hint := hint22) l22 fun u k hk => ?_;rw [F22_eq];unfold F22;refine wR ze43 fun h1 c1 x1 => ?_;have e1 : yG P .len [9] [str s] h1 = some (I64 (s.length : Nat)) := len_strL us9 s [] h1;have z1 : vR P 43 [] = some (.agg ⟨[str [], .slice none 0 0, .slice none 0 0, str [], .slice none 0 0]⟩) := by kernel_rfl
 have zone : ∀ x ∈ [str [], Value.slice none 0 0, .slice none 0 0, str [], .slice none 0 0], x.oneCell' = true := by
  intro x hx;simp only [List.mem_cons, List.not_mem_nil, or_false] at hx;rcases hx with rfl | rfl | rfl | rfl | rfl <;> rfl
 simp only [↓e1, ↓zD, ↓zE];unfold readS at hk;by_cases hl : 65536 < s.length
 · rw [if_pos hl] at hk;have e2 : wO 65536 (s.length : Nat) = true := by rw [zV]; exact decide_eq_true (by omega)
   simp only [↓e2, ↓zY, ↓uK, ↓z1, ↓zD];refine xQ c1 sh43 rfl rfl zone fun h2 c2 k2 => ?_;have x2 : Ext h n h2 (n + 1) := ⟨by omega, fun b hb => by rw [k2 b (by omega)]; exact x1.2 b hb⟩;exact leave_c2 r22 (xE c2 sh43 rfl (by decide)) (hk _ _ _ ⟨x2, _, rfl, funAt_z _ _⟩)
 · rw [if_neg hl] at hk;have e2 : wO 65536 (s.length : Nat) = false := by rw [zV]; exact decide_eq_false (by omega)
   have z2 : vR P 111 [] = some (.agg ⟨[str [], .slice none 0 0, .slice none 0 0, str [], .slice none 0 0]⟩) := by kernel_rfl
   simp only [↓e2, ↓zY, ↓uS, ↓z2, ↓zD];refine tR zone fun h2 c2 x2 => ?_;simp only [↓xG];have z3 : yW P 114 4 [(0, hd 63 (n + 1)), (1, hd 64 (n + 1)), (2, hd 65 (n + 1)), (3, hd 66 (n + 1))] = some (uE [hd 63 (n + 1), hd 64 (n + 1), hd 65 (n + 1), hd 66 (n + 1)] 0) := by kernel_rfl
   refine pV (e := 113) (sz := 1) z3 rfl (by unfold inf; omega) fun h3 c3 i3 x3 => ?_;have z4 : vR P 116 [(0, .slice (some ⟨n + 1 + 1, 0, none⟩) 4 4), (1, hd 67 (n + 1)), (2, hd 68 (n + 1))] = some (.agg ⟨[.slice (some ⟨n + 1 + 1, 0, none⟩) 4 4, hd 67 (n + 1), hd 68 (n + 1), I64 0, .bool false, .bool false]⟩) := by kernel_rfl
   simp only [↓xG, ↓z4, ↓zD];refine tR (by intro x hx; simp only [cellsOf, List.mem_cons, List.not_mem_nil, or_false] at hx; rcases hx with rfl | rfl | rfl | rfl | rfl | rfl <;> rfl) fun h4 c4 x4 => ?_;have x24 : Ext h2 (n + 1 + 1) h4 (n + 1 + 1 + 1 + 1) := x3.trans x4;have x04 : Ext h n h4 (n + 1 + 1 + 1 + 1) := (x1.trans x2).trans x24
   have rh : RO [] (n + 3 + 1) h4 (.slice (some ⟨n + 1 + 1, 0, none⟩) 4 4) 113 1 4 [hd 63 (n + 1), hd 64 (n + 1), hd 65 (n + 1), hd 66 (n + 1)] := by
    refine ⟨c3.ext x4, fun _ _ => by simp, fun b m z hb hi => ?_⟩;have hb' : some (n + 1 + 1) = some b := hb;injection hb' with hb'
    subst hb';rw [x4.2 _ (by omega), i3] at hi;injection hi with hi; injection hi with _ hi; injection hi with hi _; cases hi
   refine yX (paper_comes (lo := n + 1) (pb := n + 3) (rb := n + 1) shp (by omega) (hrun (by omega)) ⟨by omega, by omega, by omega⟩ c4 (Cel.touch c2 (x24.touch []) (by omega) (by simp)) rh (fun b hb => ?_) (hE.touch (x04.touch []) hn (by simp))) (fun v h5 n5 q => ?_) (fun c h5 n5 q => ?_)
   · have hb' : some (n + 1 + 1) = some b := hb;injection hb' with hb'
     omega
   · obtain ⟨lw, q⟩ := q;have c15 : Cel h5 n (43 + 1) [str [], .slice none 0 0, .slice none 0 0, str [], .slice none 0 0] := Cel.keep c1 (by rw [lw.2 n (by omega) (by omega), x24.2 n (by omega), x2.2 n (by omega)]);have x05 : Ext h n h5 n5 := ⟨by have := lw.1; omega, fun b hb => by rw [lw.2 b (by omega) (by omega)]; exact x04.2 b hb⟩;have y0 : ∀ a b, yN 0 (.tuple ⟨[I64 a, I64 b]⟩) = some (I64 a) := fun _ _ => rfl;have y1 : ∀ a b, yN 1 (.tuple ⟨[I64 a, I64 b]⟩) = some (I64 b) := fun _ _ => rfl;rcases q with ⟨st, no, hr, hen, hv, vv, pv, bv, svs, hv', sa⟩ | ⟨st, no, hr, hen, hv⟩ | ⟨no, e, hr, hv⟩
     · injection hv with hv
       subst hv;have ht : tellS (runS (s.length + 1) 1 s St.z) = (st.f, 0, 0) := by rw [hr]; unfold tellS; dsimp only; rw [if_pos hen]
       rw [ht] at hk;have ne : ineB 0 0 = false := rfl;have e9 : zF P 43 h5 (ptr (n + 1) 0) = some (.agg ⟨[str st.f.name, vv, pv, str st.f.result, bv]⟩) := xE sa.r.cel sh43 rfl (by decide);have f9 : zB P 111 0 (ptr (n + 1) 0) = some (ptr (n + 1) 0) := qY _;simp only [↓y0, ↓y1, ↓zD, ↓zE, ↓ne, ↓zY, ↓uS, ↓yS, ↓f9, ↓e9]
       have hone : ∀ x ∈ [str st.f.name, vv, pv, str st.f.result, bv], x.oneCell' = true := by
        intro x hx;simp only [List.mem_cons, List.not_mem_nil, or_false] at hx;rcases hx with rfl | rfl | rfl | rfl | rfl
        · rfl
        · exact sa.r.vr.1.one
        · exact sa.r.pr.1.one
        · rfl
        · exact sa.r.bo.one
       refine xQ c15 sh43 rfl rfl hone fun h6 c6 k6 => ?_;have x6 : Ext h n h6 n5 := ⟨x05.1, fun b hb => by rw [k6 b (by omega)]; exact x05.2 b hb⟩;exact leave_c2 r22 (xE c6 sh43 rfl (by decide)) (hk _ _ _ ⟨x6, _, rfl, sa.funAt (zS k6 (by simp)) c15.1⟩)
     · injection hv with hv
       subst hv;have ht : tellS (runS (s.length + 1) 1 s St.z) = (Fct.z, (no : Int), 3) := by rw [hr]; unfold tellS; dsimp only; rw [if_neg (by rw [hen]; exact Bool.false_ne_true)]
       rw [ht] at hk;have ne : ineB 3 0 = true := rfl;simp only [↓y0, ↓y1, ↓zD, ↓zE, ↓ne, ↓zY, ↓uK, ↓z1];refine xQ c15 sh43 rfl rfl zone fun h6 c6 k6 => ?_;have x6 : Ext h n h6 n5 := ⟨x05.1, fun b hb => by rw [k6 b (by omega)]; exact x05.2 b hb⟩;exact leave_c2 r22 (xE c6 sh43 rfl (by decide)) (hk _ _ _ ⟨x6, _, rfl, funAt_z _ _⟩)
     · injection hv with hv
       subst hv;have ht : tellS (runS (s.length + 1) 1 s St.z) = (Fct.z, (no : Int), e) := by rw [hr]; rfl
       rw [ht] at hk;have hbad := runS_bad _ _ _ _ _ _ hr;have ne : ineB e 0 = true := by rw [pK, decide_eq_false (by unfold Bad at hbad; omega)]; rfl
       simp only [↓y0, ↓y1, ↓zD, ↓zE, ↓ne, ↓zY, ↓uK, ↓z1];refine xQ c15 sh43 rfl rfl zone fun h6 c6 k6 => ?_;have x6 : Ext h n h6 n5 := ⟨x05.1, fun b hb => by rw [k6 b (by omega)]; exact x05.2 b hb⟩;exact leave_c2 r22 (xE c6 sh43 rfl (by decide)) (hk _ _ _ ⟨x6, _, rfl, funAt_z _ _⟩)
   · obtain ⟨_, q⟩ := q;rcases q with ⟨_, _, _, _, q, _⟩ | ⟨_, _, _, _, q⟩ | ⟨_, _, _, q⟩ <;> cases q
set_option maxRecDepth 100000
def pB (l : List (List UInt8)) (x : List UInt8) (i : Nat) : Int := match l with
 | [] => -1
 | y :: r => if x == y then (i : Int) else pB r x (i + 1)
theorem idxFrom_neg (l : List (List UInt8)) (x : List UInt8) : ∀ i, decide (0 ≤ pB l x i) = l.any (x == ·) := by
 induction l with
 | nil => intro i; rfl
 | cons y r ih => intro i; unfold pB; cases h : (x == y) <;> simp [h, ih, List.any_cons]
theorem idxFrom_m1 (l : List (List UInt8)) (x : List UInt8) : ∀ i, pB l x i < 0 → pB l x i = -1 := by
 induction l with
 | nil => intro i _; rfl
 | cons y r ih => intro i h; unfold pB at h ⊢; cases hx : (x == y) <;> simp [hx] at h ⊢; exact ih _ h; omega
theorem index_loop (ls : List (List UInt8)) (x : List UInt8) (sv : Value) (h : zG) (n : Nat) (d : List Deferred) (u : Option zX) (ka : KX) (hr : Row n h sv 9 1 ls.length (ls.map str)) (hlen : ls.length < 100000) :
 ∀ (m i : Nat), m + i = ls.length → ∀ t, zA t 0 = sv → zA t 1 = str x → zA t 7 = .int .i64 (ls.length : Nat) → zA t 8 = .int .i64 (i : Nat) →
 (pB (ls.drop i) x i < 0 → ∀ t', ka (.exit 0) t' ⟨d, u, h, n⟩ = true) → (0 ≤ pB (ls.drop i) x i → ∀ t', zA t' 4 = .int .i64 (pB (ls.drop i) x i) → ka .ret t' ⟨d, u, h, n⟩ = true) →
 lpS P 8 1000002 ⟨178, none, false⟩ t ⟨d, u, h, n⟩ ka = true := by
 intro m
 induction m with
 | zero =>
  intro i hi t h0 h1 h7 h8 hE hR;refine yO zM mixed (hint := hint178) l178 lp178_1000002 ?_;rw [B178_1000002_eq];unfold B178_1000002;rw [h0, h1, h7, h8]
  repeat' (first
   | omega
   | with_reducible first | refine sD (fun _ => ?_) (fun _ => ?_) | refine sE (fun _ => ?_) (fun _ => ?_) | refine vY (fun _ => ?_) (fun _ => ?_) | refine vZ (fun _ => ?_) (fun _ => ?_) | refine vS (fun _ => ?_) (fun _ => ?_) | refine vT (fun _ => ?_) (fun _ => ?_) | refine vU (fun _ => ?_) (fun _ => ?_) | refine vV (fun _ => ?_) (fun _ => ?_) | refine vW (fun _ => ?_) (fun _ => ?_) | refine vX (fun _ => ?_) (fun _ => ?_)
   | simp only [↓zE, ↓zJ, ↓zD, ↓zC, ↓xG, ↓xB, ↓zI, ↓yZ, ↓xW, ↓uK, ↓uS, ↓tJ, ↓xF, ↓xP, ↓pJ, ↓qU, ↓wH, ↓xM, ↓xN, ↓yU, ↓xR, ↓xX, ↓xS, ↓zP, ↓yH, ↓zQ, ↓yI, Bool.not_true, Bool.not_false, yV, yB])
  refine hE ?_ _;rw [List.drop_eq_nil_of_le (by omega)]; show (-1 : Int) < 0; decide
 | succ m ih =>
  intro i hi t h0 h1 h7 h8 hE hR;have hlt : i < ls.length := by omega
  have hd : ls.drop i = ls[i] :: ls.drop (i + 1) := List.drop_eq_getElem_cons hlt;obtain ⟨p, hp, hq⟩ := xU (P := P) (k := .i64) hr ix23 (tl := 9) sh9 (i := i) (x := str ls[i]) (by rw [List.getElem?_map, List.getElem?_eq_getElem hlt]; rfl);generalize ls[i] = y at hd hq
  refine yO zM mixed (hint := hint178) l178 lp178_1000002 ?_;rw [B178_1000002_eq];unfold B178_1000002;rw [h0, h1, h7, h8];rw [hd] at hE hR;unfold pB at hE hR;cases hxy : (x == y) <;> rw [hxy] at hE hR
  · repeat' (first
     | rw [vG, hxy]
     | exact ih (i + 1) (by omega) _ rfl rfl rfl rfl hE hR
     | omega
     | with_reducible refine uH (by omega) ?_
     | with_reducible first | refine sD (fun _ => ?_) (fun _ => ?_) | refine sE (fun _ => ?_) (fun _ => ?_) | refine vY (fun _ => ?_) (fun _ => ?_) | refine vZ (fun _ => ?_) (fun _ => ?_) | refine vS (fun _ => ?_) (fun _ => ?_) | refine vT (fun _ => ?_) (fun _ => ?_) | refine vU (fun _ => ?_) (fun _ => ?_) | refine vV (fun _ => ?_) (fun _ => ?_) | refine vW (fun _ => ?_) (fun _ => ?_) | refine vX (fun _ => ?_) (fun _ => ?_)
     | simp only [↓zE, ↓zJ, ↓zD, ↓zC, ↓xG, ↓xB, ↓zI, ↓yZ, ↓xW, ↓uK, ↓uS, ↓tJ, ↓xF, ↓xP, ↓pJ, ↓qU, ↓wH, ↓xM, ↓xN, ↓yU, ↓xR, ↓xX, ↓xS, ↓zP, ↓yH, ↓zQ, ↓yI, Bool.not_true, Bool.not_false, yV, yB,  ↓hp, ↓hq, fg0, fg1, fg7, fg8])
  · repeat' (first
     | rw [vG, hxy]
     | exact hR (by simp) _ rfl
     | omega
     | with_reducible first | refine sD (fun _ => ?_) (fun _ => ?_) | refine sE (fun _ => ?_) (fun _ => ?_) | refine vY (fun _ => ?_) (fun _ => ?_) | refine vZ (fun _ => ?_) (fun _ => ?_) | refine vS (fun _ => ?_) (fun _ => ?_) | refine vT (fun _ => ?_) (fun _ => ?_) | refine vU (fun _ => ?_) (fun _ => ?_) | refine vV (fun _ => ?_) (fun _ => ?_) | refine vW (fun _ => ?_) (fun _ => ?_) | refine vX (fun _ => ?_) (fun _ => ?_)
     | simp only [↓zE, ↓zJ, ↓zD, ↓zC, ↓xG, ↓xB, ↓zI, ↓yZ, ↓xW, ↓uK, ↓uS, ↓tJ, ↓xF, ↓xP, ↓pJ, ↓qU, ↓wH, ↓xM, ↓xN, ↓yU, ↓xR, ↓xX, ↓xS, ↓zP, ↓yH, ↓zQ, ↓yI, Bool.not_true, Bool.not_false, yV, yB,  ↓hp, ↓hq, fg0, fg1, fg7, fg8])
theorem index_pure (ls : List (List UInt8)) (x : List UInt8) (sv : Value) (h : zG) (n : Nat) (hr : Row n h sv 9 1 ls.length (ls.map str)) (hlen : ls.length < 100000) :
 Pure P 8 178 [sv, str x] h n (.int .i64 (pB ls x 0)) := by
 refine yQ zM mixed (hint := hint178) l178 fun u k hk => ?_;rw [F178_eq];unfold F178;have hl := xI (P := P) us23 hr [] h
 repeat' (first
  | refine index_loop ls x sv h n [] u _ hr hlen _ 0 (Nat.add_zero _) _ rfl rfl rfl rfl ?_ ?_
  | with_reducible first | refine sD (fun _ => ?_) (fun _ => ?_) | refine sE (fun _ => ?_) (fun _ => ?_) | refine vY (fun _ => ?_) (fun _ => ?_) | refine vZ (fun _ => ?_) (fun _ => ?_) | refine vS (fun _ => ?_) (fun _ => ?_) | refine vT (fun _ => ?_) (fun _ => ?_) | refine vU (fun _ => ?_) (fun _ => ?_) | refine vV (fun _ => ?_) (fun _ => ?_) | refine vW (fun _ => ?_) (fun _ => ?_) | refine vX (fun _ => ?_) (fun _ => ?_)
  | simp only [↓zE, ↓zJ, ↓zD, ↓zC, ↓xG, ↓xB, ↓zI, ↓yZ, ↓xW, ↓uK, ↓uS, ↓tJ, ↓xF, ↓xP, ↓pJ, ↓qU, ↓wH, ↓xM, ↓xN, ↓yU, ↓xR, ↓xX, ↓xS, ↓zP, ↓yH, ↓zQ, ↓yI, Bool.not_true, Bool.not_false, yV, yB,  ↓hl])
 · intro hneg t'
   repeat' (first
    | refine yP r178 (v := .int _ _) rfl (hk _ _ _ ⟨congrArg (Value.int .i64) ?_, rfl, rfl⟩)
    | with_reducible first | refine sD (fun _ => ?_) (fun _ => ?_) | refine sE (fun _ => ?_) (fun _ => ?_) | refine vY (fun _ => ?_) (fun _ => ?_) | refine vZ (fun _ => ?_) (fun _ => ?_) | refine vS (fun _ => ?_) (fun _ => ?_) | refine vT (fun _ => ?_) (fun _ => ?_) | refine vU (fun _ => ?_) (fun _ => ?_) | refine vV (fun _ => ?_) (fun _ => ?_) | refine vW (fun _ => ?_) (fun _ => ?_) | refine vX (fun _ => ?_) (fun _ => ?_)
    | simp only [↓zE, ↓zJ, ↓zD, ↓zC, ↓xG, ↓xB, ↓zI, ↓yZ, ↓xW, ↓uK, ↓uS, ↓tJ, ↓xF, ↓xP, ↓pJ, ↓qU, ↓wH, ↓xM, ↓xN, ↓yU, ↓xR, ↓xX, ↓xS, ↓zP, ↓yH, ↓zQ, ↓yI, Bool.not_true, Bool.not_false, yV, yB])
   exact (idxFrom_m1 ls x 0 hneg).symm
 · intro hpos t' h4
   repeat' (first
    | exact yP r178 h4 (hk _ _ _ ⟨rfl, rfl, rfl⟩)
    | with_reducible first | refine sD (fun _ => ?_) (fun _ => ?_) | refine sE (fun _ => ?_) (fun _ => ?_) | refine vY (fun _ => ?_) (fun _ => ?_) | refine vZ (fun _ => ?_) (fun _ => ?_) | refine vS (fun _ => ?_) (fun _ => ?_) | refine vT (fun _ => ?_) (fun _ => ?_) | refine vU (fun _ => ?_) (fun _ => ?_) | refine vV (fun _ => ?_) (fun _ => ?_) | refine vW (fun _ => ?_) (fun _ => ?_) | refine vX (fun _ => ?_) (fun _ => ?_)
    | simp only [↓zE, ↓zJ, ↓zD, ↓zC, ↓xG, ↓xB, ↓zI, ↓yZ, ↓xW, ↓uK, ↓uS, ↓tJ, ↓xF, ↓xP, ↓pJ, ↓qU, ↓wH, ↓xM, ↓xN, ↓yU, ↓xR, ↓xX, ↓xS, ↓zP, ↓yH, ↓zQ, ↓yI, Bool.not_true, Bool.not_false, yV, yB])
theorem contains_pure (ls : List (List UInt8)) (x : List UInt8) (sv : Value) (h : zG) (n : Nat) (hr : Row n h sv 9 1 ls.length (ls.map str)) (hlen : ls.length < 100000) :
 Pure P 8 152 [sv, str x] h n (.bool (ls.any (x == ·))) := by
 refine yQ zM mixed (hint := hq0) l152 fun u k hk => ?_;rw [F152_eq];unfold F152;rw [← idxFrom_neg ls x 0] at hk
 repeat' (first
  | with_reducible refine tZ (index_pure ls x sv h n hr hlen) ?_
  | refine yP r152 (v := .bool _) rfl (hk _ _ _ ⟨congrArg Value.bool ?_, rfl, rfl⟩)
  | with_reducible first | refine sD (fun _ => ?_) (fun _ => ?_) | refine sE (fun _ => ?_) (fun _ => ?_) | refine vY (fun _ => ?_) (fun _ => ?_) | refine vZ (fun _ => ?_) (fun _ => ?_) | refine vS (fun _ => ?_) (fun _ => ?_) | refine vT (fun _ => ?_) (fun _ => ?_) | refine vU (fun _ => ?_) (fun _ => ?_) | refine vV (fun _ => ?_) (fun _ => ?_) | refine vW (fun _ => ?_) (fun _ => ?_) | refine vX (fun _ => ?_) (fun _ => ?_)
  | simp only [↓zE, ↓zJ, ↓zD, ↓zC, ↓xG, ↓xB, ↓zI, ↓yZ, ↓xW, ↓uK, ↓uS, ↓tJ, ↓xF, ↓xP, ↓pJ, ↓qU, ↓wH, ↓xM, ↓xN, ↓yU, ↓xR, ↓xX, ↓xS, ↓zP, ↓yH, ↓zQ, ↓yI, Bool.not_true, Bool.not_false, yV, yB])
 · exact (decide_eq_true (by assumption)).symm
 · exact (decide_eq_false (by omega)).symm
theorem word_pure (x : Tx) (h : zG) (n : Nat) : Pure P 8 114 [str x] h n (.bool (wordB x)) := by
 refine Rets.pureE (yQ zM mixed (hint := hq0) l114 fun u k hk => ?_) (.inl rfl);rw [F114_eq];unfold F114;have z3 : yW P 23 4 [(0, .string (ByteArray.mk #[99, 111, 110, 115, 116])), (1, .string (ByteArray.mk #[99, 111, 112, 121])), (2, .string (ByteArray.mk #[108, 111, 97, 100])), (3, .string (ByteArray.mk #[99, 97, 108, 108]))] = some (uE ([pW, tCopy, tLoad, tCall].map str) 0) := by kernel_rfl
 refine qV (e := 9) (sz := 1) z3 rfl (by unfold inf; omega) fun h1 c1 x1 => ?_;refine yK (contains_pure [pW, tCopy, tLoad, tCall] x _ h1 (n + 1) c1 (by decide)) ?_;exact yP r114 rfl (hk _ _ _ ⟨rfl, x1⟩)
theorem number_loop (ns : List Int) (sv : Value) (h : zG) (n : Nat) (u : Option zX) (ka : KX) (hr : Row n h sv 3 1 ns.length (ns.map I64)) (hlen : ns.length < 100000) : ∀ (m i : Nat), m + i = ns.length → ∀ t, zA t 5 = sv → zA t 6 = I64 (ns.length : Nat) → zA t 7 = I64 (i : Nat) →
 ((ns.drop i).all vL = true → ∀ t', ka (.exit 0) t' ⟨[], u, h, n⟩ = true) → ((ns.drop i).all vL = false → ∀ t', zA t' 2 = .bool false → ka .ret t' ⟨[], u, h, n⟩ = true) →
 lpS P 8 1000002 ⟨59, none, false⟩ t ⟨[], u, h, n⟩ ka = true := by
 intro m
 induction m with
 | zero =>
  intro i hi t t5 t6 t7 hE hR;refine yO zM mixed (hint := hint59) l59 lp59_1000002 ?_;rw [B59_1000002_eq];unfold B59_1000002;rw [t5, t6, t7];have e3 : wO (i : Nat) (ns.length : Nat) = false := by rw [zV]; exact decide_eq_false (by omega)
  simp only [↓zC, ↓zE];refine zR ?_;simp only [↓e3, ↓zY, ↓uS];refine hE ?_ _;rw [List.drop_eq_nil_of_le (by omega)]; rfl
 | succ m ih =>
  intro i hi t t5 t6 t7 hE hR;have hlt : i < ns.length := by omega
  have hd : ns.drop i = ns[i] :: ns.drop (i + 1) := List.drop_eq_getElem_cons hlt;obtain ⟨q, q1, q2⟩ := xU (P := P) (k := .i64) hr ix40 (tl := 3) sh3 (i := i) (x := I64 ns[i]) (by rw [List.getElem?_map, List.getElem?_eq_getElem hlt]; rfl);generalize ns[i] = y at hd q2
  have ea : (y :: ns.drop (i + 1)).all vL = (vL y && (ns.drop (i + 1)).all vL) := rfl;rw [hd, ea] at hE hR;refine yO zM mixed (hint := hint59) l59 lp59_1000002 ?_;rw [B59_1000002_eq];unfold B59_1000002;rw [t5, t6, t7];have e3 : wO (i : Nat) (ns.length : Nat) = true := by rw [zV]; exact decide_eq_true (by omega)
  simp only [↓zC, ↓zE];refine zR ?_;simp only [↓e3, ↓zY, ↓uK, ↓xS, ↓q1, ↓q2, ↓zD, ↓zE];by_cases h0 : y < 0
  · have e4 : wO y 0 = true := by rw [zV]; exact decide_eq_true h0
    have hs : vL y = false := decide_eq_false (by omega);rw [hs] at hR;simp only [↓e4, ↓pJ, ↓xW, ↓xF, ↓zJ, ↓uK];exact hR rfl _ rfl
  · have e4 : wO y 0 = false := by rw [zV]; exact decide_eq_false h0
    simp only [↓e4, ↓qU, ↓yZ, ↓xP, cmpI];by_cases h1 : 99999 < y
    · have e5 : igtB y 99999 = true := by rw [igtB_ap]; exact decide_eq_true h1
      have hs : vL y = false := decide_eq_false (by omega);rw [hs] at hR;simp only [↓e5, ↓zJ, ↓uK];exact hR rfl _ rfl
    · have e5 : igtB y 99999 = false := by rw [igtB_ap]; exact decide_eq_false h1
      have hs : vL y = true := decide_eq_true (by omega);rw [hs] at hE hR;simp only [↓e5, ↓zJ, ↓uS, ↓fg5, ↓fg6, ↓fg7, ↓zC, ↓zE];refine zR ?_;refine uH (by omega) ?_;exact ih (i + 1) (by omega) _ rfl rfl rfl hE hR
theorem rI (ns : List Int) (sv : Value) (h : zG) (n : Nat) (hr : Row n h sv 3 1 ns.length (ns.map I64)) (hlen : ns.length < 100000) : Pure P 8 59 [sv] h n (.bool (ns.all vL)) := by
 refine yQ zM mixed (hint := hint59) l59 fun u k hk => ?_;rw [F59_eq];unfold F59;have e2 := xI (P := P) us40 hr [] h;simp only [↓e2, ↓zD, ↓zE];refine number_loop ns sv h n u _ hr hlen ns.length 0 (Nat.add_zero _) _ rfl rfl rfl ?_ ?_
 · intro ha t';rw [List.drop_zero] at ha;rw [ha] at hk;simp only [↓zP, ↓zQ];refine zR ?_;exact yP r59 rfl (hk _ _ _ ⟨rfl, rfl, rfl⟩)
 · intro ha t' t2;rw [List.drop_zero] at ha;rw [ha] at hk;simp only [↓yH, ↓yI];exact yP r59 t2 (hk _ _ _ ⟨rfl, rfl, rfl⟩)
theorem texts_loop {m : Int} (ns : List Int) (hns : ∀ x ∈ ns, -9223372036854775808 ≤ x ∧ x ≤ 9223372036854775807) (sv : Value) (h0 : zG) (n0 : Nat) (hn8 : 8 ≤ n0) (hlen : ns.length < 50000) (u : Option zX) (ka : KX) : ∀ (m' i : Nat), m' + i = ns.length → ∀ (t : Fr) (h : zG) (n : Nat) (ov : Value), Env m h → Ext h0 n0 h n → Row n0 h0 sv 3 1 ns.length (ns.map I64) →
 Own n0 n h ov 9 1 i ((ns.take i).map fun x => str (Lib.itoa x)) → zA t 3 = ov → zA t 6 = sv → zA t 7 = I64 (ns.length : Nat) → zA t 8 = I64 (i : Nat) →
 (∀ t' h' n' ov', zA t' 3 = ov' → Ext h0 n0 h' n' → Own n0 n' h' ov' 9 1 ns.length (ns.map fun x => str (Lib.itoa x)) → ka (.exit 0) t' ⟨[], u, h', n'⟩ = true) →
 lpS P 8 1000003 ⟨55, none, false⟩ t ⟨[], u, h, n⟩ ka = true := by
 intro m'
 induction m' with
 | zero =>
  intro i hi t h n ov hE x hr ho t3 t6 t7 t8 hk;refine yO zM mixed (hint := hint55) l55 lp55_1000003 ?_;rw [B55_1000003_eq];unfold B55_1000003;rw [t3, t6, t7, t8];have e3 : wO (i : Nat) (ns.length : Nat) = false := by rw [zV]; exact decide_eq_false (by omega)
  simp only [↓zC, ↓zE];refine zR ?_;simp only [↓e3, ↓zY, ↓uS];have hi' : i = ns.length := by omega
  subst hi';rw [List.take_length] at ho;exact hk _ h n ov rfl x ho
 | succ m' ih =>
  intro i hi t h n ov hE x hr ho t3 t6 t7 t8 hk;have hlt : i < ns.length := by omega
  have hr' := hr.ext x;obtain ⟨q, q1, q2⟩ := xU (P := P) (k := .i64) hr' ix40 (tl := 3) sh3 (i := i) (x := I64 ns[i]) (by rw [List.getElem?_map, List.getElem?_eq_getElem hlt]; rfl);refine yO zM mixed (hint := hint55) l55 lp55_1000003 ?_;rw [B55_1000003_eq];unfold B55_1000003;rw [t3, t6, t7, t8];have e3 : wO (i : Nat) (ns.length : Nat) = true := by rw [zV]; exact decide_eq_true (by omega)
  simp only [↓zC, ↓zE];refine zR ?_;simp only [↓e3, ↓zY, ↓uK, ↓xS, ↓q1, ↓q2, ↓zD, ↓zE];have hb := hns ns[i] (List.getElem_mem hlt);refine uO (itoa_pure n hE.tabs ns[i] hb.1 hb.2) ?_;refine vK on23 (sZ _) fun h1 c1 x1 => ?_;have o1 := ho.touch (x1.touch []) (fun _ _ h => by cases h);have hxn := x.1;refine pU ap23 o1 (by omega) c1 rfl (by simpa using sZ _) (by omega) fun v2 h2 n2 o2 n2le k2 => ?_;have t2 := touch_blk (lo := 0) n2le k2
  have xx : Ext h0 n0 h2 n2 := by
   refine ⟨by omega, fun b hb => ?_⟩;rw [k2 b (by omega) (fun e => by have := (ho.ge b e).1; omega), x1.2 b (by omega), x.2 b hb]
  have hE2 : Env m h2 := (hE.touch (x1.touch []) (by omega) (by simp)).touch t2 (by omega) (fun y hy => by have := (ho.ge y (by simpa using hy)).1; omega);simp only [↓fg3, ↓fg6, ↓fg7, ↓fg8, ↓zC, ↓zE];refine zR ?_;refine uH (by omega) ?_;refine ih (i + 1) (by omega) _ h2 n2 v2 hE2 xx hr ?_ rfl rfl rfl rfl hk
  have e9 : (ns.take (i + 1)).map (fun x => str (Lib.itoa x)) = (ns.take i).map (fun x => str (Lib.itoa x)) ++ [str (Lib.itoa ns[i])] := by
   have e8 : ns.take (i + 1) = ns.take i ++ [ns[i]] := by
    rw [List.take_add_one, List.getElem?_eq_getElem hlt]; rfl
   rw [e8, List.map_append]; rfl
  rw [e9];exact o2
theorem texts_rets {m : Int} {h : zG} {n : Nat} (hE : Env m h) (hn : 8 ≤ n) (ns : List Int) (hns : ∀ x ∈ ns, -9223372036854775808 ≤ x ∧ x ≤ 9223372036854775807) (sv : Value) (hr : Row n h sv 3 1 ns.length (ns.map I64)) (hlen : ns.length < 50000) :
 Rets P 8 55 [sv] h n fun v h' n' => Ext h n h' n' ∧ Own n n' h' v 9 1 ns.length (ns.map fun x => str (Lib.itoa x)) := by
 refine yQ zM mixed (hint := hint55) l55 fun u k hk => ?_;rw [F55_eq];unfold F55;have e2 := xI (P := P) us40 hr [] h;simp only [↓e2, ↓zD, ↓zE];refine texts_loop (m := m) ns hns sv h n hn hlen u _ ns.length 0 (Nat.add_zero _) _ h n (.slice none 0 0) hE (Ext.refl _ _) hr (.inl ⟨rfl, rfl, by simp⟩) rfl rfl rfl rfl ?_;intro t' h' n' ov' t3 x o;simp only [↓zP, ↓zQ, ↓zC, t3];refine zR ?_;exact yP r55 rfl (hk _ _ _ ⟨x, o⟩)
theorem rA {i : Ins} {sv : Value} (hs : sv.oneCell' = true) : ∀ x ∈ uY i sv, x.oneCell' = true := by
 intro x hx;simp only [uY, List.mem_cons, List.not_mem_nil, or_false] at hx;rcases hx with rfl | rfl | rfl | rfl | rfl | rfl | rfl | rfl | rfl <;> first | rfl | exact hs
theorem zero_pure (i : Ins) (sv : Value) (h : zG) (n : Nat) (hr : Row n h sv 3 1 i.args.length (i.args.map I64)) : Pure P 8 112 [.agg ⟨uY i sv⟩] h n (.bool (zeroI i)) := by
 refine Rets.pureE (yQ zM mixed (hint := hq0) l112 fun u k hk => ?_) (.inl rfl);rw [F112_eq];unfold F112;refine tR (rA hr.one) fun h1 c1 x1 => ?_;have hr1 := hr.ext x1;have c1' : Cel h1 n 0 (uY i sv) := c1;have f0 : zF P 3 h1 (ptr n 0) = some (I64 i.kind) := zH c1' sh3 rfl;have f1 : zF P 3 h1 (.pointer (some ⟨n, 1, none⟩)) = some (I64 i.d) := zH c1' sh3 rfl;have f2 : zF P 3 h1 (.pointer (some ⟨n, 2, none⟩)) = some (I64 i.a) := zH c1' sh3 rfl;have f3 : zF P 3 h1 (.pointer (some ⟨n, 3, none⟩)) = some (I64 i.b) := zH c1' sh3 rfl;have f4 : zF P 3 h1 (.pointer (some ⟨n, 4, none⟩)) = some (I64 i.n) := zH c1' sh3 rfl;have f5 : zF P 9 h1 (.pointer (some ⟨n, 5, none⟩)) = some (str i.name) := zH c1' sh9 rfl;have f6 : zF P 40 h1 (.pointer (some ⟨n, 6, none⟩)) = some sv := zH c1' sh40 rfl;have f7 : zF P 3 h1 (.pointer (some ⟨n, 7, none⟩)) = some (I64 i.t) := zH c1' sh3 rfl;have f8 : zF P 3 h1 (.pointer (some ⟨n, 8, none⟩)) = some (I64 i.f) := zH c1' sh3 rfl;have fl := xI (P := P) us40 hr1 [] h1
 have ec : ∀ (x : Tx) K, yD xZ P .eql 9 true (str x) (.string (ByteArray.mk #[])) K = K (x == []) := fun x K => vG _ _ _ _ [] K;have ei : ∀ (a : Int) K, yD xZ P .eql 3 true (.int .i64 a) (.int .i64 0) K = K (decide (a = 0)) := fun a K => by rw [cmpI, wS]
 have e0 : xZ i.kind 0 = decide (i.kind = 0) := wS _ _;have fin : ∀ t, ∀ b, b = zeroI i → zA t 2 = .bool b → zO P (loS P 8) 112 k .ret t ⟨[], u, h1, n + 1⟩ = true := fun t b hb ht => yP r112 ht (hk _ _ _ ⟨by rw [hb], x1⟩)
 have hz : ∀ b : Bool, (b = true ↔ (i.kind = 0 ∧ i.d = 0 ∧ i.a = 0 ∧ i.b = 0 ∧ i.n = 0 ∧ i.name = [] ∧ i.args.length = 0 ∧ i.t = 0 ∧ i.f = 0)) → b = zeroI i := fun b hb => by
  unfold zeroI
  cases b with
  | true => exact (decide_eq_true (hb.1 rfl)).symm
  | false => exact (decide_eq_false (fun h => Bool.false_ne_true (hb.2 h))).symm
 simp only [↓tO, ↓zD, ↓f0, ↓zE, ↓e0, ↓zY];by_cases g0 : i.kind = 0
 case neg =>
  simp only [↓decide_eq_false g0, ↓xW, ↓xP, ↓zJ];exact fin _ false (hz _ (by simp [g0])) rfl
 simp only [↓decide_eq_true g0, ↓yZ, ↓xF, ↓fa50_1, ↓zD, ↓f1, ↓zE, ↓ei];by_cases g1 : i.d = 0
 case neg =>
  simp only [↓decide_eq_false g1, ↓xW, ↓xP, ↓zJ];exact fin _ false (hz _ (by simp [g1])) rfl
 simp only [↓decide_eq_true g1, ↓zJ, ↓yZ, ↓xF, ↓rS, ↓zD, ↓f2, ↓zE, ↓ei];by_cases g2 : i.a = 0
 case neg =>
  simp only [↓decide_eq_false g2, ↓xW, ↓xP, ↓zJ];exact fin _ false (hz _ (by simp [g2])) rfl
 simp only [↓decide_eq_true g2, ↓zJ, ↓yZ, ↓xF, ↓fa50_3, ↓zD, ↓f3, ↓zE, ↓ei];by_cases g3 : i.b = 0
 case neg =>
  simp only [↓decide_eq_false g3, ↓xW, ↓xP, ↓zJ];exact fin _ false (hz _ (by simp [g3])) rfl
 simp only [↓decide_eq_true g3, ↓zJ, ↓yZ, ↓xF, ↓fa50_4, ↓zD, ↓f4, ↓zE, ↓ei];by_cases g4 : i.n = 0
 case neg =>
  simp only [↓decide_eq_false g4, ↓xW, ↓xP, ↓zJ];exact fin _ false (hz _ (by simp [g4])) rfl
 simp only [↓decide_eq_true g4, ↓zJ, ↓yZ, ↓xF, ↓qX, ↓zD, ↓f5, ↓ec]
 cases g5 : (i.name == []) with
 | false =>
  have g5' : i.name ≠ [] := fun e => by rw [e] at g5; simp at g5
  simp only [↓xW, ↓xP, ↓zJ];exact fin _ false (hz _ (by simp [g5'])) rfl
 | true =>
 have g5' : i.name = [] := by simpa using g5
 simp only [↓zJ, ↓yZ, ↓xF, ↓sY, ↓zD, ↓f6, ↓fl, ↓zE, ↓ei];by_cases g6 : ((i.args.length : Nat) : Int) = 0
 case neg =>
  simp only [↓decide_eq_false g6, ↓xW, ↓xP, ↓zJ];exact fin _ false (hz _ ⟨fun h => (by cases h), fun h => absurd h.2.2.2.2.2.2.1 (by omega)⟩) rfl
 simp only [↓decide_eq_true g6, ↓zJ, ↓yZ, ↓xF, ↓fa50_7, ↓zD, ↓f7, ↓zE, ↓ei];by_cases g7 : i.t = 0
 case neg =>
  simp only [↓decide_eq_false g7, ↓xW, ↓xP, ↓zJ];exact fin _ false (hz _ (by simp [g7])) rfl
 simp only [↓decide_eq_true g7, ↓zJ, ↓yZ, ↓xF, ↓fa50_8, ↓zD, ↓f8, ↓zE, ↓ei];exact fin _ (decide (i.f = 0)) (hz _ ⟨fun h => ⟨g0, g1, g2, g3, g4, g5', by omega, g7, of_decide_eq_true h⟩, fun h => decide_eq_true h.2.2.2.2.2.2.2.2⟩) rfl
def RD (n : Nat) (h : zG) (u : Option zX) (i : Ins) (sv : Value) (t : Fr) (w : W) : Prop :=
 zA t 1 = ptr n 0 ∧ zA t 2 = ptr (n + 1) 0 ∧ ∃ h' sv', w = ⟨[], u, h', n + 1 + 1⟩ ∧ Cel h' n 0 (uY (sQ i) sv') ∧ (∃ vs, vs.length = 9 ∧ Cel h' (n + 1) (50 + 1) vs) ∧ Ext h n h' (n + 1 + 1) ∧ ((sv' = sv ∧ (sQ i).args = i.args) ∨ (sv' = .slice none 0 0 ∧ (sQ i).args = []))
theorem rest_rets (i : Ins) (sv : Value) (h : zG) (n : Nat) (hs : sv.oneCell' = true) : Rets P 8 113 [.agg ⟨uY i sv⟩] h n fun v h' n' => Ext h n h' n' ∧ ∃ sv', v = .agg ⟨uY (sQ i) sv'⟩ ∧ ((sv' = sv ∧ (sQ i).args = i.args) ∨ (sv' = .slice none 0 0 ∧ (sQ i).args = [])) := by
 refine yQ zM mixed (hint := hint113) l113 fun u k hk => ?_;rw [F113_eq];unfold F113;refine tR (rA hs) fun h1 c1 x1 => ?_;refine wR ze50 fun h2 c2 x2 => ?_;have c1' : Cel h2 n 0 (uY i sv) := Cel.touch c1 (x2.touch []) (by omega) (by simp);have f0 : zF P 3 h2 (ptr n 0) = some (I64 i.kind) := zH c1' sh3 rfl;simp only [↓tO, ↓zD, ↓f0, ↓zE];refine xH c1' sh3 (by simp [uY]) rfl fun h3 c3 k3 => ?_;have c3' : Cel h3 n 0 (uY { i with kind := 0 } sv) := c3;have x3 : Ext h n h3 (n + 1 + 1) := ⟨by omega, fun b hb => by rw [k3 b (by omega), x2.2 b (by omega), x1.2 b hb]⟩;have r3 : ∃ vs, vs.length = 9 ∧ Cel h3 (n + 1) (50 + 1) vs := ⟨_, rfl, Cel.keep c2 (k3 _ (by omega))⟩
 have sto : ∀ {h' : zG} {j : Ins} {sw : Value} {off : Nat} {v : Value} {ty : TypeId} {K : KH} (j' : Ins) (sw' : Value), Cel h' n 0 (uY j sw) → (∃ vs, vs.length = 9 ∧ Cel h' (n + 1) (50 + 1) vs) → Ext h n h' (n + 1 + 1) → yF P ty = .scal → off < 9 → v.oneCell' = true → (uY j sw).set off v = uY j' sw' →
  (∀ h'', Cel h'' n 0 (uY j' sw') → (∃ vs, vs.length = 9 ∧ Cel h'' (n + 1) (50 + 1) vs) → Ext h n h'' (n + 1 + 1) → K h'' (n + 1 + 1) undef = true) → zW P ty (.pointer (some ⟨n, off, none⟩)) v h' (n + 1 + 1) K = true := by
  intro h' j sw off v ty K j' sw' c r x hs ho hv he hK;refine xH c hs (by show off < 9; exact ho) hv fun h'' c'' k'' => ?_;obtain ⟨vs, r1, r2⟩ := r;exact hK h'' (by rw [← he]; exact c'') ⟨vs, r1, r2.keep (k'' _ (by omega))⟩ ⟨x.1, fun b hb => by rw [k'' b (by omega)]; exact x.2 b hb⟩
 refine wN (RD n h u i sv) (fun t w q => ?_) (fun kk hkk => ?_)
 · obtain ⟨q1, q2, h', sv', rfl, c, ⟨vs, r1, r2⟩, x, hsv⟩ := q;simp only [q1, q2, ↓zC];refine zR ?_;refine opt_of (xE c sh50 rfl (by decide)) ?_;have hs' : sv'.oneCell' = true := by rcases hsv with ⟨rfl, _⟩ | ⟨rfl, _⟩; exact hs; rfl
   refine xQ r2 sh50 rfl r1 (rA hs') fun h4 c4 k4 => ?_;refine leaveC r113 rfl (xE c4 sh50 rfl (by decide)) (hk _ _ _ ⟨⟨x.1, fun b hb => by rw [k4 b (by omega)]; exact x.2 b hb⟩, sv', rfl, hsv⟩)
 have join : ∀ {kk : KN}, (∀ t w, RD n h u i sv t w → kk t w = true) → ∀ t w, RD n h u i sv t w → ∀ T : Fr, zA T 1 = ptr n 0 → zA T 2 = ptr (n + 1) 0 → kk T w = true := fun hkk t w q T h1 h2 => by
  obtain ⟨q1, q2, q3⟩ := q;exact hkk _ _ ⟨h1, h2, q3⟩
 have ib : ∀ c : Int, xZ i.kind c = decide (i.kind = c) := fun c => wS _ _;try simp only [↓ib, ↓zY]
 refine wE (RD n h u i sv) (fun t w q => ?_) (fun hc kk' hkk' => ?_) (fun hc kk hkk => ?_)
 · obtain ⟨q1, q2, h', sv', rfl, q3⟩ := q;simp only [q1, q2, ↓zC];refine zR ?_;exact hkk _ _ ⟨rfl, rfl, h', sv', rfl, q3⟩
 · have k1 : i.kind = 1 := of_decide_eq_true hc;try simp only [↓fa50_1, ↓zD]
   refine sto { i with kind := 0, d := 0 } sv c3' r3 x3 sh3 (by decide) rfl rfl fun g0 cc0 rr0 xx0 => ?_;try simp only [↓fa50_4, ↓zD]
   refine sto { i with kind := 0, d := 0, n := 0 } sv cc0 rr0 xx0 sh3 (by decide) rfl rfl fun g1 cc1 rr1 xx1 => ?_;have hR : sQ i = { i with kind := 0, d := 0, n := 0 } := by unfold sQ; rw [if_pos k1]
   exact hkk' _ _ ⟨rfl, rfl, g1, sv, rfl, by rw [hR]; exact cc1, rr1, xx1, .inl ⟨rfl, by rw [hR]⟩⟩
 have hn0 : ¬ (i.kind = 1) := of_decide_eq_false hc;try simp only [↓ib, ↓zY]
 refine wE (fun t w => zA t 1 = ptr n 0 ∧ zA t 2 = ptr (n + 1) 0 ∧ zA t 7 = I64 i.kind ∧ zA t 12 = .bool (decide (i.kind = 2 ∨ i.kind = 4)) ∧ w = ⟨[], u, h3, n + 1 + 1⟩) (fun t w q => ?_) (fun hc kk hkk => ?_) (fun hc kk hkk => ?_)
 rotate_left
 · have k1 : i.kind = 2 := of_decide_eq_true hc;exact hkk _ _ ⟨rfl, rfl, rfl, by show Value.bool (decide (i.kind = 2)) = _; rw [hc, decide_eq_true (Or.inl k1)], rfl⟩
 · have k1 : ¬ i.kind = 2 := of_decide_eq_false hc;try simp only [↓ib, ↓zY]
   refine hkk _ _ ⟨rfl, rfl, rfl, ?_, rfl⟩;show Value.bool (decide (i.kind = 4)) = _;by_cases k2 : i.kind = 4
   · rw [decide_eq_true k2, decide_eq_true (Or.inr k2)]
   · rw [decide_eq_false k2, decide_eq_false (fun h => h.elim k1 k2)]
 obtain ⟨q1, q2, q7, q12, rfl⟩ := q;simp only [q1, q2, q7, q12, ↓zC, ↓zE, ↓zJ];refine zR ?_;refine wE (RD n h u i sv) (fun t w q => ?_) (fun hc kk' hkk' => ?_) (fun hc kk hkk => ?_)
 · obtain ⟨q1, q2, h', sv', rfl, q3⟩ := q;simp only [q1, q2, ↓zC];refine zR ?_;exact hkk _ _ ⟨rfl, rfl, h', sv', rfl, q3⟩
 · have k1 : i.kind = 2 ∨ i.kind = 4 := of_decide_eq_true hc;try simp only [↓fa50_1, ↓zD]
   refine sto { i with kind := 0, d := 0 } sv c3' r3 x3 sh3 (by decide) rfl rfl fun g0 cc0 rr0 xx0 => ?_;try simp only [↓rS, ↓zD]
   refine sto { i with kind := 0, d := 0, a := 0 } sv cc0 rr0 xx0 sh3 (by decide) rfl rfl fun g1 cc1 rr1 xx1 => ?_;have hR : sQ i = { i with kind := 0, d := 0, a := 0 } := by unfold sQ; rw [if_neg hn0]; rw [if_pos k1]
   exact hkk' _ _ ⟨rfl, rfl, g1, sv, rfl, by rw [hR]; exact cc1, rr1, xx1, .inl ⟨rfl, by rw [hR]⟩⟩
 have hn1 : ¬ (i.kind = 2 ∨ i.kind = 4) := of_decide_eq_false hc;try simp only [↓ib, ↓zY]
 refine wE (fun t w => zA t 1 = ptr n 0 ∧ zA t 2 = ptr (n + 1) 0 ∧ zA t 7 = I64 i.kind ∧ zA t 17 = .bool (decide (i.kind = 3 ∨ i.kind = 6)) ∧ w = ⟨[], u, h3, n + 1 + 1⟩) (fun t w q => ?_) (fun hc kk hkk => ?_) (fun hc kk hkk => ?_)
 rotate_left
 · have k1 : i.kind = 3 := of_decide_eq_true hc;exact hkk _ _ ⟨rfl, rfl, rfl, by show Value.bool (decide (i.kind = 3)) = _; rw [hc, decide_eq_true (Or.inl k1)], rfl⟩
 · have k1 : ¬ i.kind = 3 := of_decide_eq_false hc;try simp only [↓ib, ↓zY]
   refine hkk _ _ ⟨rfl, rfl, rfl, ?_, rfl⟩;show Value.bool (decide (i.kind = 6)) = _;by_cases k2 : i.kind = 6
   · rw [decide_eq_true k2, decide_eq_true (Or.inr k2)]
   · rw [decide_eq_false k2, decide_eq_false (fun h => h.elim k1 k2)]
 obtain ⟨q1, q2, q7, q17, rfl⟩ := q;simp only [q1, q2, q7, q17, ↓zC, ↓zE, ↓zJ];refine zR ?_;refine wE (RD n h u i sv) (fun t w q => ?_) (fun hc kk' hkk' => ?_) (fun hc kk hkk => ?_)
 · obtain ⟨q1, q2, h', sv', rfl, q3⟩ := q;simp only [q1, q2, ↓zC];refine zR ?_;exact hkk _ _ ⟨rfl, rfl, h', sv', rfl, q3⟩
 · have k1 : i.kind = 3 ∨ i.kind = 6 := of_decide_eq_true hc;try simp only [↓fa50_1, ↓zD]
   refine sto { i with kind := 0, d := 0 } sv c3' r3 x3 sh3 (by decide) rfl rfl fun g0 cc0 rr0 xx0 => ?_;try simp only [↓qX, ↓zD]
   refine sto { i with kind := 0, d := 0, name := [] } sv cc0 rr0 xx0 sh9 (by decide) rfl rfl fun g1 cc1 rr1 xx1 => ?_;try simp only [↓sY, ↓zD]
   refine sto { i with kind := 0, d := 0, name := [], args := [] } (.slice none 0 0) cc1 rr1 xx1 sh40 (by decide) rfl rfl fun g2 cc2 rr2 xx2 => ?_;have hR : sQ i = { i with kind := 0, d := 0, name := [], args := [] } := by unfold sQ; rw [if_neg hn0]; rw [if_neg hn1]; rw [if_pos k1]
   exact hkk' _ _ ⟨rfl, rfl, g2, (.slice none 0 0), rfl, by rw [hR]; exact cc2, rr2, xx2, .inr ⟨rfl, by rw [hR]⟩⟩
 have hn2 : ¬ (i.kind = 3 ∨ i.kind = 6) := of_decide_eq_false hc;try simp only [↓ib, ↓zY]
 refine wE (RD n h u i sv) (fun t w q => ?_) (fun hc kk' hkk' => ?_) (fun hc kk hkk => ?_)
 · obtain ⟨q1, q2, h', sv', rfl, q3⟩ := q;simp only [q1, q2, ↓zC];refine zR ?_;exact hkk _ _ ⟨rfl, rfl, h', sv', rfl, q3⟩
 · have k1 : i.kind = 5 := of_decide_eq_true hc;try simp only [↓rS, ↓zD]
   refine sto { i with kind := 0, a := 0 } sv c3' r3 x3 sh3 (by decide) rfl rfl fun g0 cc0 rr0 xx0 => ?_;try simp only [↓fa50_3, ↓zD]
   refine sto { i with kind := 0, a := 0, b := 0 } sv cc0 rr0 xx0 sh3 (by decide) rfl rfl fun g1 cc1 rr1 xx1 => ?_;have hR : sQ i = { i with kind := 0, a := 0, b := 0 } := by unfold sQ; rw [if_neg hn0]; rw [if_neg hn1]; rw [if_neg hn2]; rw [if_pos k1]
   exact hkk' _ _ ⟨rfl, rfl, g1, sv, rfl, by rw [hR]; exact cc1, rr1, xx1, .inl ⟨rfl, by rw [hR]⟩⟩
 have hn3 : ¬ (i.kind = 5) := of_decide_eq_false hc;try simp only [↓ib, ↓zY]
 refine wE (RD n h u i sv) (fun t w q => ?_) (fun hc kk' hkk' => ?_) (fun hc kk hkk => ?_)
 · obtain ⟨q1, q2, h', sv', rfl, q3⟩ := q;simp only [q1, q2, ↓zC];refine zR ?_;exact hkk _ _ ⟨rfl, rfl, h', sv', rfl, q3⟩
 · have k1 : i.kind = 7 := of_decide_eq_true hc;try simp only [↓rS, ↓zD]
   refine sto { i with kind := 0, a := 0 } sv c3' r3 x3 sh3 (by decide) rfl rfl fun g0 cc0 rr0 xx0 => ?_;try simp only [↓fa50_7, ↓zD]
   refine sto { i with kind := 0, a := 0, t := 0 } sv cc0 rr0 xx0 sh3 (by decide) rfl rfl fun g1 cc1 rr1 xx1 => ?_;try simp only [↓fa50_8, ↓zD]
   refine sto { i with kind := 0, a := 0, t := 0, f := 0 } sv cc1 rr1 xx1 sh3 (by decide) rfl rfl fun g2 cc2 rr2 xx2 => ?_;have hR : sQ i = { i with kind := 0, a := 0, t := 0, f := 0 } := by unfold sQ; rw [if_neg hn0]; rw [if_neg hn1]; rw [if_neg hn2]; rw [if_neg hn3]; rw [if_pos k1]
   exact hkk' _ _ ⟨rfl, rfl, g2, sv, rfl, by rw [hR]; exact cc2, rr2, xx2, .inl ⟨rfl, by rw [hR]⟩⟩
 have hn4 : ¬ (i.kind = 7) := of_decide_eq_false hc;try simp only [↓ib, ↓zY]
 refine wE (RD n h u i sv) (fun t w q => ?_) (fun hc kk' hkk' => ?_) (fun hc kk hkk => ?_)
 · obtain ⟨q1, q2, h', sv', rfl, q3⟩ := q;simp only [q1, q2, ↓zC];refine zR ?_;exact hkk _ _ ⟨rfl, rfl, h', sv', rfl, q3⟩
 · have k1 : i.kind = 8 := of_decide_eq_true hc;try simp only [↓fa50_7, ↓zD]
   refine sto { i with kind := 0, t := 0 } sv c3' r3 x3 sh3 (by decide) rfl rfl fun g0 cc0 rr0 xx0 => ?_;have hR : sQ i = { i with kind := 0, t := 0 } := by unfold sQ; rw [if_neg hn0]; rw [if_neg hn1]; rw [if_neg hn2]; rw [if_neg hn3]; rw [if_neg hn4]; rw [if_pos k1]
   exact hkk' _ _ ⟨rfl, rfl, g0, sv, rfl, by rw [hR]; exact cc0, rr0, xx0, .inl ⟨rfl, by rw [hR]⟩⟩
 have hn5 : ¬ (i.kind = 8) := of_decide_eq_false hc;try simp only [↓ib, ↓zY]
 refine wE (RD n h u i sv) (fun t w q => ?_) (fun hc kk' hkk' => ?_) (fun hc kk hkk => ?_)
 · obtain ⟨q1, q2, h', sv', rfl, q3⟩ := q;simp only [q1, q2, ↓zC];refine zR ?_;exact hkk _ _ ⟨rfl, rfl, h', sv', rfl, q3⟩
 · have k1 : i.kind = 9 := of_decide_eq_true hc;try simp only [↓rS, ↓zD]
   refine sto { i with kind := 0, a := 0 } sv c3' r3 x3 sh3 (by decide) rfl rfl fun g0 cc0 rr0 xx0 => ?_;have hR : sQ i = { i with kind := 0, a := 0 } := by unfold sQ; rw [if_neg hn0]; rw [if_neg hn1]; rw [if_neg hn2]; rw [if_neg hn3]; rw [if_neg hn4]; rw [if_neg hn5]; rw [if_pos k1]
   exact hkk' _ _ ⟨rfl, rfl, g0, sv, rfl, by rw [hR]; exact cc0, rr0, xx0, .inl ⟨rfl, by rw [hR]⟩⟩
 have hn6 : ¬ (i.kind = 9) := of_decide_eq_false hc;have hR : sQ i = { i with kind := 0 } := by unfold sQ; rw [if_neg hn0]; rw [if_neg hn1]; rw [if_neg hn2]; rw [if_neg hn3]; rw [if_neg hn4]; rw [if_neg hn5]; rw [if_neg hn6]
 exact hkk _ _ ⟨rfl, rfl, h3, sv, rfl, by rw [hR]; exact c3', r3, x3, .inl ⟨rfl, by rw [hR]⟩⟩
theorem max_two (a : Int) (h : zG) : yG P .max [3, 3] [.int .i64 0, .int .i64 a] h = some (I64 (max 0 a)) := by
 show some (Value.int .i64 (cond (wO 0 a) a 0)) = some (I64 (max 0 a));rw [zV];by_cases g : 0 < a
 · rw [decide_eq_true g, show max 0 a = a by omega]; rfl
 · rw [decide_eq_false g, show max 0 a = 0 by omega]; rfl
theorem plainIns_pure (i : Ins) (sv : Value) (h : zG) (n : Nat) (hr : Row n h sv 3 1 i.args.length (i.args.map I64)) (hd : -9223372036854775808 ≤ i.d ∧ i.d ≤ 9223372036854775807) (hal : i.args.length < 100000) : Pure P 8 60 [.agg ⟨uY i sv⟩] h n (.bool (vA i)) := by
  refine Rets.pureE (yQ zM mixed (hint := hint60) l60 fun u k hk => ?_) (.inl rfl);rw [F60_eq];unfold F60;refine tR (rA hr.one) fun h1 c1 x1 => ?_;have LD : ∀ {h' : zG} {n' : Nat}, Ext h1 (n + 1) h' n' → Cel h' n 0 (uY i sv) := fun x => Cel.touch c1 (x.touch []) (by omega) (by simp);have LR : ∀ {h' : zG} {n' : Nat}, Ext h1 (n + 1) h' n' → Row n' h' sv 3 1 i.args.length (i.args.map I64) := fun x => (hr.ext x1).ext x;have x0 : Ext h1 (n + 1) h1 (n + 1) := Ext.refl _ _;have fin : ∀ {h' : zG} {n' : Nat} (x : Ext h1 (n + 1) h' n') (t : Fr) (b : Bool), b = vA i → zA t 2 = .bool b → zO P (loS P 8) 60 k .ret t ⟨[], u, h', n'⟩ = true := fun x t b hb ht => yP r60 ht (hk _ _ _ ⟨by rw [hb], x1.trans x⟩);have f0 : zF P 3 h1 (ptr n 0) = some (I64 i.kind) := zH (LD x0) sh3 rfl;simp only [↓tO, ↓zD, ↓f0, ↓zE];by_cases g1 : i.kind < 1
  · have e1 : wO i.kind 1 = true := by rw [zV]; exact decide_eq_true g1
    simp only [↓e1, ↓zY, ↓pJ, ↓xW, ↓xF, ↓zJ, ↓uK];exact fin x0 _ false (by unfold vA; rw [decide_eq_false (show ¬ 1 ≤ i.kind by omega)]; simp) rfl
  have e1 : wO i.kind 1 = false := by rw [zV]; exact decide_eq_false g1
  have cg : ∀ (a b : Int) K, yD igtB P .gtr 3 true (.int .i64 a) (.int .i64 b) K = K (decide (b < a)) := fun a b K => by rw [cmpI, igtB_ap]
  have cl : ∀ (a b : Int) K, yD wO P .lss 3 true (.int .i64 a) (.int .i64 b) K = K (decide (a < b)) := fun a b K => by rw [cmpI, zV]
  simp only [↓e1, ↓zY, ↓qU, ↓yZ, ↓xP, ↓tO, ↓zD, ↓f0, ↓zE, ↓cg];by_cases g2 : 9 < i.kind
  · simp only [↓decide_eq_true g2, ↓zY, ↓pJ, ↓xW, ↓xF, ↓zJ, ↓uK];exact fin x0 _ false (by unfold vA; rw [decide_eq_false (show ¬ i.kind ≤ 9 by omega)]; simp) rfl
  have fA : zF P 50 h1 (ptr n 0) = some (.agg ⟨uY i sv⟩) := xE (LD x0) sh50 rfl (by decide);simp only [↓decide_eq_false g2, ↓zJ, ↓qU, ↓yZ, ↓xP, ↓fA, ↓zD];refine uJ (rest_rets i sv h1 (n + 1) hr.one) fun v h2 n2 ⟨x2, sv', e2, hsv⟩ => ?_;subst e2
  have hr2 : Row n2 h2 sv' 3 1 (sQ i).args.length ((sQ i).args.map I64) := by
    rcases hsv with ⟨rfl, ha⟩ | ⟨rfl, ha⟩
    · rw [ha]; exact LR x2
    · rw [ha]; exact .inl ⟨rfl, rfl, rfl⟩
  refine yK (zero_pure (sQ i) sv' h2 n2 hr2) ?_;try simp only [↓xX, ↓zD, ↓zJ]
  cases g3 : zeroI (sQ i) with
  | false =>
    simp only [↓Bool.not_false, ↓zY, ↓pJ, ↓xW, ↓xF, ↓zJ, ↓uK];exact fin x2 _ false (by unfold vA; rw [g3]; simp) rfl
  | true =>
  have f2 : zF P 3 h2 (.pointer (some ⟨n, 2, none⟩)) = some (I64 i.a) := zH (LD x2) sh3 rfl;have f3 : zF P 3 h2 (.pointer (some ⟨n, 3, none⟩)) = some (I64 i.b) := zH (LD x2) sh3 rfl;have f7 : zF P 3 h2 (.pointer (some ⟨n, 7, none⟩)) = some (I64 i.t) := zH (LD x2) sh3 rfl;have f8 : zF P 3 h2 (.pointer (some ⟨n, 8, none⟩)) = some (I64 i.f) := zH (LD x2) sh3 rfl;simp only [↓Bool.not_true, ↓qU, ↓yZ, ↓xP, ↓rS, ↓fa50_3, ↓fa50_7, ↓fa50_8, ↓zD, ↓f2, ↓f3, ↓f7, ↓f8, ↓zE];have z3 : yW P 40 4 [(0, .int .i64 i.a), (1, .int .i64 i.b), (2, .int .i64 i.t), (3, .int .i64 i.f)] = some (uE ([i.a, i.b, i.t, i.f].map I64) 0) := by kernel_rfl
  refine qV (e := 3) (sz := 1) z3 rfl (by unfold inf; omega) fun h3 c3 x3' => ?_;have x3 := x2.trans x3';refine yK (rI [i.a, i.b, i.t, i.f] _ h3 (n2 + 1) c3 (by simp)) ?_;try simp only [↓xX, ↓zD, ↓zJ]
  cases g4 : [i.a, i.b, i.t, i.f].all vL with
  | false =>
    simp only [↓Bool.not_false, ↓zY, ↓pJ, ↓xW, ↓xF, ↓zJ, ↓uK];exact fin x3 _ false (by unfold vA; rw [g4]; simp) rfl
  | true =>
  have f6 : zF P 40 h3 (.pointer (some ⟨n, 6, none⟩)) = some sv := zH (LD x3) sh40 rfl;have fl := xI (P := P) us40 (LR x3) [] h3;simp only [↓Bool.not_true, ↓qU, ↓yZ, ↓xP, ↓sY, ↓zD, ↓f6];refine yK (rI i.args sv h3 (n2 + 1) (LR x3) hal) ?_;try simp only [↓xX, ↓zD, ↓zJ]
  cases g5 : i.args.all vL with
  | false =>
    simp only [↓Bool.not_false, ↓zY, ↓pJ, ↓xW, ↓xF, ↓zJ, ↓uK];exact fin x3 _ false (by unfold vA; rw [g5]; simp) rfl
  | true =>
  simp only [↓Bool.not_true, ↓qU, ↓yZ, ↓xP, ↓sY, ↓zD, ↓f6, ↓fl, ↓zE, ↓cg];by_cases g6 : (16 : Int) < (i.args.length : Nat)
  · simp only [↓decide_eq_true g6, ↓zJ, ↓uK];exact fin x3 _ false (by unfold vA; rw [decide_eq_false (show ¬ i.args.length ≤ 16 by omega)]; simp) rfl
  have hp : vA i = (if i.kind = 3 then named i.name && !wordB i.name && decide (1 ≤ i.args.length) && decide (i.args.length ≤ 2) && vL i.d
   else if i.kind = 6 then named i.name && (decide (i.d = -1) || vL i.d) else vL i.d) := by
    unfold vA;rw [g3, g4, g5, decide_eq_true (show 1 ≤ i.kind by omega), decide_eq_true (show i.kind ≤ 9 by omega), decide_eq_true (show i.args.length ≤ 16 by omega)];simp
  have f1 : zF P 3 h3 (.pointer (some ⟨n, 1, none⟩)) = some (I64 i.d) := zH (LD x3) sh3 rfl;have f0' : zF P 3 h3 (ptr n 0) = some (I64 i.kind) := zH (LD x3) sh3 rfl;have f5 : zF P 9 h3 (.pointer (some ⟨n, 5, none⟩)) = some (str i.name) := zH (LD x3) sh9 rfl;simp only [↓decide_eq_false g6, ↓zJ, ↓uS, ↓tO, ↓fa50_1, ↓zD, ↓f1, ↓f0', ↓zE];refine wN (fun t w => zA t 3 = I64 i.d ∧ w = ⟨[], u, h3, n2 + 1⟩ ∧ vA i = vL i.d) (fun t w q => ?_) (fun kk hkk => ?_)
  · obtain ⟨q3, rfl, hq⟩ := q;simp only [q3, ↓zE];refine zR ?_;refine vK on40 (v := I64 i.d) rfl fun h4 c4 x4 => ?_;refine yK (rI [i.d] _ h4 _ c4 (by simp)) ?_;exact fin (x3.trans x4) _ _ (by rw [hq]; simp) rfl
  have ib : ∀ c : Int, xZ i.kind c = decide (i.kind = c) := fun c => wS _ _;simp only [↓ib, ↓zY];refine wE (fun t w => zA t 3 = I64 i.d ∧ w = ⟨[], u, h3, n2 + 1⟩ ∧ vA i = vL i.d) (fun t w q => ?_) (fun hc kk' hkk' => ?_) (fun hc kk hkk => ?_)
  · obtain ⟨q3, rfl, hq⟩ := q;simp only [q3, ↓zE];refine zR ?_;exact hkk _ _ ⟨rfl, rfl, hq⟩
  · have k3 : i.kind = 3 := of_decide_eq_true hc;rw [if_pos k3] at hp;simp only [↓qX, ↓sY, ↓zD, ↓f5, ↓f6];refine yK (qJ i.name h3 (n2 + 1)) ?_;try simp only [↓xX, ↓zD, ↓zJ]
    cases n3 : named i.name with
    | false =>
      simp only [↓Bool.not_false, ↓pJ, ↓xW, ↓xF, ↓zJ, ↓uK];exact fin x3 _ false (by rw [hp, n3]; simp) rfl
    | true =>
    simp only [↓Bool.not_true, ↓qU, ↓yZ, ↓xP, ↓qX, ↓zD, ↓f5];refine yK (word_pure i.name h3 (n2 + 1)) ?_
    cases n4 : wordB i.name with
    | true =>
      simp only [↓zJ, ↓pJ, ↓xW, ↓xF, ↓uK];exact fin x3 _ false (by rw [hp, n4]; simp) rfl
    | false =>
    simp only [↓zJ, ↓qU, ↓yZ, ↓xP, ↓sY, ↓zD, ↓f6, ↓fl, ↓zE, ↓cl];by_cases n5 : ((i.args.length : Nat) : Int) < 1
    · simp only [↓decide_eq_true n5, ↓zJ, ↓pJ, ↓xW, ↓xF, ↓uK];exact fin x3 _ false (by rw [hp, decide_eq_false (show ¬ 1 ≤ i.args.length by omega)]; simp) rfl
    simp only [↓decide_eq_false n5, ↓zJ, ↓qU, ↓yZ, ↓xP, ↓sY, ↓zD, ↓f6, ↓fl, ↓zE, ↓cg];by_cases n6 : (2 : Int) < ((i.args.length : Nat) : Int)
    · simp only [↓decide_eq_true n6, ↓zJ, ↓uK];exact fin x3 _ false (by rw [hp, decide_eq_false (show ¬ i.args.length ≤ 2 by omega)]; simp) rfl
    simp only [↓decide_eq_false n6, ↓zJ, ↓uS];exact hkk' _ _ ⟨rfl, rfl, by rw [hp, n3, n4, decide_eq_true (show 1 ≤ i.args.length by omega), decide_eq_true (show i.args.length ≤ 2 by omega)]; simp⟩
  · have k3 : ¬ i.kind = 3 := of_decide_eq_false hc;rw [if_neg k3] at hp;try simp only [↓ib, ↓zY]
    by_cases k6 : i.kind = 6
    · rw [if_pos k6] at hp;simp only [↓decide_eq_true k6, ↓uK, ↓qX, ↓zD, ↓f5];refine yK (qJ i.name h3 (n2 + 1)) ?_;try simp only [↓xX, ↓zD, ↓zJ]
      cases n3 : named i.name with
      | false =>
        simp only [↓Bool.not_false, ↓uK];exact fin x3 _ false (by rw [hp, n3]; simp) rfl
      | true =>
      rw [n3] at hp;simp only [↓Bool.not_true, ↓uS];have ib1 : xZ i.d (-1) = decide (i.d = -1) := wS _ _;have go : ∀ d' : Int, (d' = i.d ∨ (d' = -1 ∧ vL i.d = false ∧ i.d ≠ -1) ∨ i.d = -1) → ∀ (T : Bool → Value → Value → Value → Value → Bool → Fr), (∀ a b c d e f, zA (T a b c d e f) 2 = .bool f) → True := fun _ _ _ _ => trivial;by_cases m1 : i.d = 9223372036854775807
      · have ew : IntKind.i64.wrap (i.d + 1) = -9223372036854775808 := by rw [m1]; decide
        rw [fi_eq, iadd_eq, tP, ew];simp only [↓max_two, ↓zD, ↓zE];refine fi_sub (by omega) ?_;simp only [↓fa50_1, ↓zD, ↓f1, ↓zE, ↓ib1, ↓zY];have m2 : ¬ i.d = -1 := by omega
        simp only [↓decide_eq_false m2, ↓qU, ↓yZ, ↓xP];refine vK on40 (v := I64 _) rfl fun h4 c4 x4 => ?_;refine yK (rI [max 0 (-9223372036854775808) - 1] _ h4 _ c4 (by simp)) ?_;simp only [↓zJ];refine fin (x3.trans x4) _ _ ?_ rfl;rw [hp, m1];decide
      · refine uH (by omega) ?_;simp only [↓max_two, ↓zD, ↓zE];refine fi_sub (by omega) ?_;simp only [↓fa50_1, ↓zD, ↓f1, ↓zE, ↓ib1, ↓zY];by_cases m2 : i.d = -1
        · simp only [↓decide_eq_true m2, ↓pJ, ↓xW, ↓xF, ↓zJ];exact fin x3 _ true (by rw [hp, decide_eq_true m2]; rfl) rfl
        · simp only [↓decide_eq_false m2, ↓qU, ↓yZ, ↓xP];refine vK on40 (v := I64 _) rfl fun h4 c4 x4 => ?_;refine yK (rI [max 0 (i.d + 1) - 1] _ h4 _ c4 (by simp)) ?_;simp only [↓zJ];refine fin (x3.trans x4) _ _ ?_ rfl;rw [hp, decide_eq_false m2];simp only [List.all_cons, List.all_nil, Bool.and_true, Bool.true_and, Bool.false_or];unfold vL;by_cases m3 : 0 ≤ i.d
          · have : max 0 (i.d + 1) - 1 = i.d := by omega
            rw [this]
          · rw [decide_eq_false (by omega), decide_eq_false (by omega)]
    · rw [if_neg k6] at hp;simp only [↓decide_eq_false k6, ↓uS];exact hkk _ _ ⟨rfl, rfl, hp⟩
theorem vN (ns : List Tx) (cv sv : Value) (h : zG) (n : Nat) (u : Option zX) (ka : KX) (hr : Row n h sv 9 1 ns.length (ns.map str)) (hlen : ns.length < 1000000) : ∀ (m i : Nat), m + i = ns.length → ∀ acc t, zA t 1 = cv → zA t 3 = .bool acc → zA t 42 = sv → zA t 43 = I64 (ns.length : Nat) → zA t 44 = I64 (i : Nat) →
 (∀ t', zA t' 1 = cv → zA t' 3 = .bool (acc && (ns.drop i).all named) → ka (.exit 0) t' ⟨[], u, h, n⟩ = true) →
 lpS P 8 1000003 ⟨20, none, false⟩ t ⟨[], u, h, n⟩ ka = true := by
 intro m
 induction m with
 | zero =>
  intro i hi acc t t1 t3 t42 t43 t44 hE;refine yO zM mixed (hint := hint20) l20 lp20_1000003 ?_;rw [B20_1000003_eq];unfold B20_1000003;rw [t1, t3, t42, t43, t44];have e3 : wO (i : Nat) (ns.length : Nat) = false := by rw [zV]; exact decide_eq_false (by omega)
  simp only [↓zC, ↓zJ, ↓zE];refine zR ?_;simp only [↓e3, ↓zY, ↓uS];refine hE _ rfl ?_;rw [List.drop_eq_nil_of_le (by omega), List.all_nil, Bool.and_true];rfl
 | succ m ih =>
  intro i hi acc t t1 t3 t42 t43 t44 hE;have hlt : i < ns.length := by omega
  have hd : ns.drop i = ns[i] :: ns.drop (i + 1) := List.drop_eq_getElem_cons hlt;obtain ⟨q, q1, q2⟩ := xU (P := P) (k := .i64) hr ix23 (tl := 9) sh9 (i := i) (x := str ns[i]) (by rw [List.getElem?_map, List.getElem?_eq_getElem hlt]; rfl);generalize ns[i] = y at hd q2
  have ea : (acc && (y :: ns.drop (i + 1)).all named) = ((acc && named y) && (ns.drop (i + 1)).all named) := by rw [List.all_cons, Bool.and_assoc]
  rw [hd, ea] at hE;refine yO zM mixed (hint := hint20) l20 lp20_1000003 ?_;rw [B20_1000003_eq];unfold B20_1000003;rw [t1, t3, t42, t43, t44];have e3 : wO (i : Nat) (ns.length : Nat) = true := by rw [zV]; exact decide_eq_true (by omega)
  simp only [↓zC, ↓zJ, ↓zE];refine zR ?_;simp only [↓e3, ↓zY, ↓uK];refine wN (fun t w => zA t 1 = cv ∧ zA t 3 = .bool (acc && named y) ∧ zA t 42 = sv ∧ zA t 43 = I64 (ns.length : Nat) ∧ zA t 44 = I64 (i : Nat) ∧ w = ⟨[], u, h, n⟩) (fun t w q => ?_) (fun kk hkk => ?_)
  · obtain ⟨p1, p3, p42, p43, p44, rfl⟩ := q;simp only [p1, p3, p42, p43, p44, ↓zC, ↓zJ, ↓zE];refine zR ?_;refine uH (by omega) ?_;exact ih (i + 1) (by omega) _ _ rfl rfl rfl rfl rfl hE
  · simp only [↓q1, ↓q2, ↓zD]
    cases acc with
    | false =>
     simp only [↓xW, ↓xP, ↓zJ];exact hkk _ _ ⟨rfl, rfl, rfl, rfl, rfl, rfl⟩
    | true =>
     simp only [↓yZ];refine yK (qJ y h n) ?_;simp only [↓xF, ↓zJ];exact hkk _ _ ⟨rfl, rfl, rfl, rfl, rfl, rfl⟩
def InsFit (i : Ins) : Prop := (-9223372036854775808 ≤ i.d ∧ i.d ≤ 9223372036854775807) ∧ i.args.length < 100000
theorem insFlat_at {l : List Ins} : ∀ {av : List Value} (h : av.length = l.length) {j : Nat} {i : Ins} {a : Value} (hi : l[j]? = some i) (ha : av[j]? = some a), ((vM l av).drop (j * 9)).take 9 = uY i a := by
 induction l with
 | nil => intro av h j i a hi; simp at hi
 | cons x r ih =>
  intro av h j i a hi ha
  cases av with
  | nil => simp at h
  | cons y s =>
   have e : vM (x :: r) (y :: s) = uY x y ++ vM r s := by unfold vM; rw [List.zip_cons_cons, List.flatMap_cons]
   have el : (uY x y).length = 9 := rfl;rw [e]
   cases j with
   | zero =>
    simp only [List.getElem?_cons_zero, Option.some.injEq] at hi ha;subst hi; subst ha;rw [Nat.zero_mul, List.drop_zero, ← el, List.take_left]
   | succ j =>
    simp only [List.getElem?_cons_succ] at hi ha;have : (j + 1) * 9 = (uY x y).length + j * 9 := by rw [el]; omega
    rw [this, List.drop_append, List.drop_eq_nil_of_le (by omega), List.nil_append, Nat.add_sub_cancel_left];exact ih (by simpa using h) hi ha
theorem plainBlk_loop (l : List Ins) (bv v : Value) (bl bi : Int) (hfit : ∀ i ∈ l, InsFit i) (hlen : l.length < 1000000) (u : Option zX) (ka : KX) : ∀ (m i : Nat), m + i = l.length → ∀ acc t (h : zG) (n : Nat), BlkRO [] n h v l → zA t 3 = .bool acc → zA t 55 = bv → zA t 56 = I64 bl → zA t 57 = I64 bi → zA t 67 = v → zA t 68 = I64 (l.length : Nat) → zA t 69 = I64 (i : Nat) →
 (∀ t' h' n', Ext h n h' n' → zA t' 3 = .bool (acc && (l.drop i).all vA) → zA t' 55 = bv → zA t' 56 = I64 bl → zA t' 57 = I64 bi → ka (.exit 4) t' ⟨[], u, h', n'⟩ = true) →
 ((acc && (l.drop i).all vA) = false → ∀ t' h' n', Ext h n h' n' → zA t' 2 = .bool false → ka .ret t' ⟨[], u, h', n'⟩ = true) →
 lpS P 8 1000012 ⟨20, none, false⟩ t ⟨[], u, h, n⟩ ka = true := by
 intro m
 induction m with
 | zero =>
  intro i hi acc t h n hb t3 t55 t56 t57 t67 t68 t69 hE hR;refine yO zM mixed (hint := hint20) l20 lp20_1000012 ?_;rw [B20_1000012_eq];unfold B20_1000012;rw [t3, t55, t56, t57, t67, t68, t69];have e3 : wO (i : Nat) (l.length : Nat) = false := by rw [zV]; exact decide_eq_false (by omega)
  simp only [↓zC, ↓zJ, ↓zE];refine zR ?_;simp only [↓e3, ↓zY, ↓uS];refine hE _ h n (Ext.refl _ _) ?_ rfl rfl rfl;rw [List.drop_eq_nil_of_le (by omega), List.all_nil, Bool.and_true];rfl
 | succ m ih =>
  intro i hi acc t h n hb t3 t55 t56 t57 t67 t68 t69 hE hR;have hlt : i < l.length := by omega
  have hd : l.drop i = l[i] :: l.drop (i + 1) := List.drop_eq_getElem_cons hlt;obtain ⟨av, ⟨ha1, ha2⟩, hr⟩ := id hb;have hlt2 : i < av.length := by omega
  have hg : l[i]? = some l[i] := List.getElem?_eq_getElem hlt;have hga : av[i]? = some av[i] := List.getElem?_eq_getElem hlt2;have hfl := insFlat_at ha1 hg hga;have hra := (ha2 i _ _ hg hga).1;obtain ⟨q, q1, q2⟩ := rK (P := P) (k := .i64) hr.1 ix51 (tl := 50) sh50 (by decide) hlt;rw [hfl] at q2;have hfi := hfit _ (List.getElem_mem hlt);generalize l[i] = y at hd q2 hra hfi
  generalize av[i] = sv at q2 hra
  have ea : (acc && (y :: l.drop (i + 1)).all vA) = ((acc && vA y) && (l.drop (i + 1)).all vA) := by rw [List.all_cons, Bool.and_assoc]
  rw [hd, ea] at hE hR;refine yO zM mixed (hint := hint20) l20 lp20_1000012 ?_;rw [B20_1000012_eq];unfold B20_1000012;rw [t3, t55, t56, t57, t67, t68, t69];have e3 : wO (i : Nat) (l.length : Nat) = true := by rw [zV]; exact decide_eq_true (by omega)
  simp only [↓zC, ↓zJ, ↓zE];refine zR ?_;simp only [↓e3, ↓zY, ↓uK];refine wN (fun t w => zA t 3 = .bool true ∧ (acc && vA y) = true ∧ zA t 55 = bv ∧ zA t 56 = I64 bl ∧ zA t 57 = I64 bi ∧ zA t 67 = v ∧ zA t 68 = I64 (l.length : Nat) ∧ zA t 69 = I64 (i : Nat) ∧ ∃ h' n', w = ⟨[], u, h', n'⟩ ∧ Ext h n h' n') (fun t w q => ?_) (fun kk hkk => ?_)
  · obtain ⟨p3, pp, p55, p56, p57, p67, p68, p69, h', n', rfl, x⟩ := q;rw [pp] at hE hR;simp only [p3, p55, p56, p57, p67, p68, p69, ↓zC, ↓zJ, ↓zE];refine zR ?_;refine uH (by omega) ?_;exact ih (i + 1) (by omega) true _ h' n' (hb.ext x) rfl rfl rfl rfl rfl rfl rfl (fun t' h2 n2 x2 => hE t' h2 n2 (x.trans x2)) (fun hf t' h2 n2 x2 => hR hf t' h2 n2 (x.trans x2))
  · simp only [↓q1, ↓q2, ↓zD];refine wR ze50 fun h1 c1 x1 => ?_;refine xQ c1 sh50 rfl rfl (rA hra.one) fun h2 c2 k2 => ?_;have x2 : Ext h n h2 (n + 1) := ⟨by omega, fun b hb => (k2 b (by omega)).trans (x1.2 b hb)⟩
    cases acc with
    | false =>
     simp only [↓xW, ↓xP, ↓zJ, ↓xX, ↓Bool.not_false, ↓zD, ↓uK];exact hR rfl _ h2 _ x2 rfl
    | true =>
     have fA : zF P 50 h2 (.pointer (some ⟨n, 0, none⟩)) = some (.agg ⟨uY y sv⟩) := xE c2 sh50 rfl (by decide);simp only [↓yZ, ↓fA, ↓zD];refine yK (plainIns_pure y sv h2 (n + 1) (hra.ext x2) hfi.1 hfi.2) ?_
     cases hp : vA y with
     | false =>
      rw [hp] at hR;simp only [↓xF, ↓zJ, ↓xX, ↓Bool.not_false, ↓zD, ↓uK];exact hR rfl _ h2 _ x2 rfl
     | true =>
      simp only [↓xF, ↓zJ, ↓xX, ↓Bool.not_true, ↓zD, ↓uS];exact hkk _ _ ⟨rfl, by rw [hp]; rfl, rfl, rfl, rfl, rfl, rfl, rfl, h2, _, rfl, x2⟩
def plainB (b : List Ins) : Bool := decide (b.length ≤ 400) && b.all vA
def BlksRow (n : Nat) (h : zG) (bv : Value) (bs : List (List Ins)) (svs : List Value) : Prop :=
 Row n h bv 51 1 bs.length svs ∧ svs.length = bs.length ∧ ∀ (k : Nat) (l : List Ins) (v : Value), bs[k]? = some l → svs[k]? = some v → BlkRO [] n h v l
theorem BlksRow.ext {n n' : Nat} {h h' : zG} {bv : Value} {bs : List (List Ins)} {svs : List Value} (r : BlksRow n h bv bs svs) (x : Ext h n h' n') : BlksRow n' h' bv bs svs :=
 ⟨r.1.ext x, r.2.1, fun k l v h1 h2 => (r.2.2 k l v h1 h2).ext x⟩
theorem uG (bs : List (List Ins)) (bv : Value) (svs : List Value) (hfit : ∀ b ∈ bs, b.length < 1000000 ∧ ∀ i ∈ b, InsFit i) (hlen : bs.length < 1000000) (u : Option zX) (ka : KX) : ∀ (m i : Nat), m + i = bs.length → ∀ acc t (h : zG) (n : Nat), BlksRow n h bv bs svs → zA t 3 = .bool acc → zA t 55 = bv → zA t 56 = I64 (bs.length : Nat) → zA t 57 = I64 (i : Nat) →
 (∀ t' h' n', Ext h n h' n' → zA t' 3 = .bool (acc && (bs.drop i).all plainB) → ka (.exit 2) t' ⟨[], u, h', n'⟩ = true) →
 ((acc && (bs.drop i).all plainB) = false → ∀ t' h' n', Ext h n h' n' → zA t' 2 = .bool false → ka .ret t' ⟨[], u, h', n'⟩ = true) →
 lpS P 8 1000008 ⟨20, none, false⟩ t ⟨[], u, h, n⟩ ka = true := by
 intro m
 induction m with
 | zero =>
  intro i hi acc t h n hb t3 t55 t56 t57 hE hR;refine yO zM mixed (hint := hint20) l20 lp20_1000008 ?_;rw [B20_1000008_eq];unfold B20_1000008;rw [t3, t55, t56, t57];have e3 : wO (i : Nat) (bs.length : Nat) = false := by rw [zV]; exact decide_eq_false (by omega)
  simp only [↓zC, ↓zJ, ↓zE];refine zR ?_;simp only [↓e3, ↓zY, ↓uS];refine hE _ h n (Ext.refl _ _) ?_;rw [List.drop_eq_nil_of_le (by omega), List.all_nil, Bool.and_true];rfl
 | succ m ih =>
  intro i hi acc t h n hb t3 t55 t56 t57 hE hR;have hlt : i < bs.length := by omega
  have hd : bs.drop i = bs[i] :: bs.drop (i + 1) := List.drop_eq_getElem_cons hlt;have hsl := hb.2.1;have hlt2 : i < svs.length := by omega
  have hg : bs[i]? = some bs[i] := List.getElem?_eq_getElem hlt;have hgs : svs[i]? = some svs[i] := List.getElem?_eq_getElem hlt2;have hk := hb.2.2 i _ _ hg hgs;have hfi := hfit _ (List.getElem_mem hlt);obtain ⟨q, q1, q2⟩ := xU (P := P) (k := .i64) hb.1 ix41 (tl := 51) sh51 hgs;generalize bs[i] = y at hd hk hfi
  generalize svs[i] = v at q2 hk hgs
  have ea : (acc && (y :: bs.drop (i + 1)).all plainB) = ((acc && plainB y) && (bs.drop (i + 1)).all plainB) := by rw [List.all_cons, Bool.and_assoc]
  rw [hd, ea] at hE hR;obtain ⟨av, _, hr⟩ := id hk;have fl := xI (P := P) us51 hr.1 [] h;refine yO zM mixed (hint := hint20) l20 lp20_1000008 ?_;rw [B20_1000008_eq];unfold B20_1000008;rw [t3, t55, t56, t57];have e3 : wO (i : Nat) (bs.length : Nat) = true := by rw [zV]; exact decide_eq_true (by omega)
  have cle : ∀ (a b : Int) K, yD rU P .leq 3 true (.int .i64 a) (.int .i64 b) K = K (decide (a ≤ b)) := fun a b K => by rw [cmpI, vF]
  simp only [↓zC, ↓zJ, ↓zE];refine zR ?_;simp only [↓e3, ↓zY, ↓uK];refine wN (fun t w => ∃ h' n', w = ⟨[], u, h', n'⟩ ∧ Ext h n h' n' ∧ zA t 3 = .bool (acc && plainB y) ∧ zA t 55 = bv ∧ zA t 56 = I64 (bs.length : Nat) ∧ zA t 57 = I64 (i : Nat)) (fun t w q => ?_) (fun kk hkk => ?_)
  · obtain ⟨h', n', rfl, x, p3, p55, p56, p57⟩ := q;simp only [p3, p55, p56, p57, ↓zC, ↓zJ, ↓zE];refine zR ?_;refine uH (by omega) ?_;exact ih (i + 1) (by omega) _ _ h' n' (hb.ext x) rfl rfl rfl rfl (fun t' h2 n2 x2 => hE t' h2 n2 (x.trans x2)) (fun hf t' h2 n2 x2 => hR hf t' h2 n2 (x.trans x2))
  · simp only [↓q1, ↓q2, ↓zD]
    have tail : ∀ (T : Fr) (K : KX), zA T 3 = .bool (acc && decide (y.length ≤ 400)) → zA T 55 = bv → zA T 56 = I64 (bs.length : Nat) → zA T 57 = I64 (i : Nat) → zA T 67 = v → zA T 68 = I64 (y.length : Nat) → zA T 69 = I64 0 →
     (∀ t' h' n', Ext h n h' n' → zA t' 3 = .bool (acc && plainB y) → zA t' 55 = bv → zA t' 56 = I64 (bs.length : Nat) → zA t' 57 = I64 (i : Nat) → K (.exit 4) t' ⟨[], u, h', n'⟩ = true) →
     ((acc && plainB y) = false → ∀ t' h' n', Ext h n h' n' → zA t' 2 = .bool false → K .ret t' ⟨[], u, h', n'⟩ = true) →
     lpS P 8 1000012 ⟨20, none, false⟩ T ⟨[], u, h, n⟩ K = true := fun T K p3 p55 p56 p57 p67 p68 p69 gE gR => by
     have e2 : (acc && plainB y) = ((acc && decide (y.length ≤ 400)) && y.all vA) := by unfold plainB; rw [Bool.and_assoc]
     rw [e2] at gE gR;exact plainBlk_loop y bv v _ _ hfi.2 hfi.1 u K y.length 0 (Nat.add_zero _) _ T h n hk p3 p55 p56 p57 p67 p68 p69 gE gR
    cases acc with
    | false =>
     simp only [↓xW, ↓xP, ↓zJ, ↓fl, ↓zD, ↓zE];refine tail _ _ rfl rfl rfl rfl rfl rfl rfl (fun t' h' n' x p3 p55 p56 p57 => ?_) (fun hf t' h' n' x p2 => ?_)
     · simp only [↓zP, ↓zQ];simp only [p3, p55, p56, p57, ↓zC, ↓zJ, ↓zE];refine zR ?_;exact hkk _ _ ⟨h', n', rfl, x, rfl, rfl, rfl, rfl⟩
     · exact hR (by rw [hf]; rfl) t' h' n' x p2
    | true =>
     simp only [↓yZ, ↓fl, ↓zD, ↓zE, ↓cle, ↓xF, ↓zJ];refine tail _ _ ?_ rfl rfl rfl rfl rfl rfl (fun t' h' n' x p3 p55 p56 p57 => ?_) (fun hf t' h' n' x p2 => ?_)
     · show Value.bool _ = _;rw [Bool.true_and];exact congrArg Value.bool (by congr 1; exact propext (by omega))
     · simp only [↓zP, ↓zQ];simp only [p3, p55, p56, p57, ↓zC, ↓zJ, ↓zE];refine zR ?_;exact hkk _ _ ⟨h', n', rfl, x, rfl, rfl, rfl, rfl⟩
     · exact hR (by rw [hf]; rfl) t' h' n' x p2
def FctFit (f : Fct) : Prop := f.vregs.length < 1000000 ∧ f.params.length < 100000 ∧ f.blocks.length < 1000000 ∧ ∀ b ∈ f.blocks, b.length < 1000000 ∧ ∀ i ∈ b, InsFit i
theorem plainF_eq (f : Fct) : sR f = (named f.name && named f.result && decide (f.vregs.length ≤ 500) && decide (f.params.length ≤ 16) && decide (f.blocks.length ≤ 200) && f.params.all vL && f.vregs.all named && f.blocks.all plainB) := rfl
theorem plain_pure (f : Fct) (fv : Value) (h : zG) (n : Nat) (hf : FunAt n h fv f) (hfit : FctFit f) : Pure P 8 20 [fv] h n (.bool (sR f)) := by
 obtain ⟨vv, pv, bv, svs, rfl, r1, r2, r3, r4, r5⟩ := hf;obtain ⟨z1, z2, z3, z4⟩ := hfit;refine Rets.pureE (yQ zM mixed (hint := hint20) l20 fun u k hk => ?_) (.inl rfl);rw [F20_eq];unfold F20;refine tR (fun x hx => ?_) fun h1 c1 x1 => ?_
 · have hx : x ∈ [str f.name, vv, pv, str f.result, bv] := hx;simp only [List.mem_cons, List.not_mem_nil, or_false] at hx;rcases hx with rfl | rfl | rfl | rfl | rfl
   · rfl
   · exact r1.1.one
   · exact r2.1.one
   · rfl
   · exact r3.1.one
 have c1' : Cel h1 n 0 [str f.name, vv, pv, str f.result, bv] := c1;have R1 := r1.1.ext x1;have R2 := r2.1.ext x1;have R3 : BlksRow (n + 1) h1 bv f.blocks svs := ⟨r3.1.ext x1, r4, fun k l v a b => (r5 k l v a b).ext x1⟩;have f0 : zF P 9 h1 (ptr n 0) = some (str f.name) := zH c1' sh9 rfl;have f3 : zF P 9 h1 (.pointer (some ⟨n, 3, none⟩)) = some (str f.result) := zH c1' sh9 rfl;have f1 : zF P 23 h1 (.pointer (some ⟨n, 1, none⟩)) = some vv := zH c1' sh23 rfl;have f2 : zF P 40 h1 (.pointer (some ⟨n, 2, none⟩)) = some pv := zH c1' sh40 rfl;have f4 : zF P 41 h1 (.pointer (some ⟨n, 4, none⟩)) = some bv := zH c1' sh41 rfl;have l1 := xI (P := P) us23 R1 [] h1;have l2 := xI (P := P) us40 R2 [] h1;have l4 := xI (P := P) us41 R3.1 [] h1;have cle : ∀ (a b : Int) K, yD rU P .leq 3 true (.int .i64 a) (.int .i64 b) K = K (decide (a ≤ b)) := fun a b K => by rw [cmpI, vF]
 have d3 : decide (((f.vregs.length : Nat) : Int) ≤ 500) = decide (f.vregs.length ≤ 500) := decide_eq_decide.2 (by omega);have d4 : decide (((f.params.length : Nat) : Int) ≤ 16) = decide (f.params.length ≤ 16) := decide_eq_decide.2 (by omega);have d5 : decide (((f.blocks.length : Nat) : Int) ≤ 200) = decide (f.blocks.length ≤ 200) := decide_eq_decide.2 (by omega);have hpl := plainF_eq f;simp only [↓fa43_0, ↓zD, ↓f0];refine yK (qJ f.name h1 (n + 1)) ?_
 cases g1 : named f.name with
 | false =>
  rw [g1] at hpl;simp only [↓xW, ↓xP, ↓zJ, ↓sX, ↓zD, ↓f1, ↓l1, ↓zE];refine vN f.vregs (ptr n 0) vv h1 (n + 1) u _ R1 z1 _ 0 (Nat.add_zero _) false _ rfl rfl rfl rfl rfl ?_;intro t' p1 p3;simp only [↓zP, ↓zQ, p1, p3, ↓zC, ↓zJ];refine zR ?_;simp only [↓tA, ↓zD, ↓f4, ↓l4, ↓zE];refine uG f.blocks bv svs z4 z3 u _ _ 0 (Nat.add_zero _) _ _ h1 (n + 1) R3 rfl rfl rfl rfl (fun t2 h2 n2 x2 q3 => ?_) (fun hf t2 h2 n2 x2 q2 => ?_)
  · simp only [↓zP, ↓zQ, q3, ↓zJ];refine zR ?_;refine yP r20 rfl (hk _ _ _ ⟨congrArg Value.bool ?_, x1.trans x2⟩);rw [hpl];simp [*, List.drop_zero]
  · simp only [↓yH, ↓yI];refine yP r20 q2 (hk _ _ _ ⟨congrArg Value.bool ?_, x1.trans x2⟩);rw [hpl];simp [*]
 | true =>
 rw [g1] at hpl;simp only [↓yZ, ↓fa43_3, ↓zD, ↓f3];refine yK (qJ f.result h1 (n + 1)) ?_;simp only [↓xF, ↓zJ]
 cases g2 : named f.result with
 | false =>
  rw [g2] at hpl;simp only [↓xW, ↓xP, ↓zJ, ↓sX, ↓zD, ↓f1, ↓l1, ↓zE];refine vN f.vregs (ptr n 0) vv h1 (n + 1) u _ R1 z1 _ 0 (Nat.add_zero _) false _ rfl rfl rfl rfl rfl ?_;intro t' p1 p3;simp only [↓zP, ↓zQ, p1, p3, ↓zC, ↓zJ];refine zR ?_;simp only [↓tA, ↓zD, ↓f4, ↓l4, ↓zE];refine uG f.blocks bv svs z4 z3 u _ _ 0 (Nat.add_zero _) _ _ h1 (n + 1) R3 rfl rfl rfl rfl (fun t2 h2 n2 x2 q3 => ?_) (fun hf t2 h2 n2 x2 q2 => ?_)
  · simp only [↓zP, ↓zQ, q3, ↓zJ];refine zR ?_;refine yP r20 rfl (hk _ _ _ ⟨congrArg Value.bool ?_, x1.trans x2⟩);rw [hpl];simp [*, List.drop_zero]
  · simp only [↓yH, ↓yI];refine yP r20 q2 (hk _ _ _ ⟨congrArg Value.bool ?_, x1.trans x2⟩);rw [hpl];simp [*]
 | true =>
 rw [g2] at hpl;simp only [↓yZ, ↓sX, ↓zD, ↓f1, ↓l1, ↓zE, ↓cle, ↓d3, ↓xF, ↓zJ]
 cases g3 : decide (f.vregs.length ≤ 500) with
 | false =>
  rw [g3] at hpl;simp only [↓xW, ↓xP, ↓zJ, ↓sX, ↓zD, ↓f1, ↓l1, ↓zE];refine vN f.vregs (ptr n 0) vv h1 (n + 1) u _ R1 z1 _ 0 (Nat.add_zero _) false _ rfl rfl rfl rfl rfl ?_;intro t' p1 p3;simp only [↓zP, ↓zQ, p1, p3, ↓zC, ↓zJ];refine zR ?_;simp only [↓tA, ↓zD, ↓f4, ↓l4, ↓zE];refine uG f.blocks bv svs z4 z3 u _ _ 0 (Nat.add_zero _) _ _ h1 (n + 1) R3 rfl rfl rfl rfl (fun t2 h2 n2 x2 q3 => ?_) (fun hf t2 h2 n2 x2 q2 => ?_)
  · simp only [↓zP, ↓zQ, q3, ↓zJ];refine zR ?_;refine yP r20 rfl (hk _ _ _ ⟨congrArg Value.bool ?_, x1.trans x2⟩);rw [hpl];simp [*, List.drop_zero]
  · simp only [↓yH, ↓yI];refine yP r20 q2 (hk _ _ _ ⟨congrArg Value.bool ?_, x1.trans x2⟩);rw [hpl];simp [*]
 | true =>
 rw [g3] at hpl;simp only [↓yZ, ↓fa43_2, ↓zD, ↓f2, ↓l2, ↓zE, ↓cle, ↓d4, ↓xF, ↓zJ]
 cases g4 : decide (f.params.length ≤ 16) with
 | false =>
  rw [g4] at hpl;simp only [↓xW, ↓xP, ↓zJ, ↓sX, ↓zD, ↓f1, ↓l1, ↓zE];refine vN f.vregs (ptr n 0) vv h1 (n + 1) u _ R1 z1 _ 0 (Nat.add_zero _) false _ rfl rfl rfl rfl rfl ?_;intro t' p1 p3;simp only [↓zP, ↓zQ, p1, p3, ↓zC, ↓zJ];refine zR ?_;simp only [↓tA, ↓zD, ↓f4, ↓l4, ↓zE];refine uG f.blocks bv svs z4 z3 u _ _ 0 (Nat.add_zero _) _ _ h1 (n + 1) R3 rfl rfl rfl rfl (fun t2 h2 n2 x2 q3 => ?_) (fun hf t2 h2 n2 x2 q2 => ?_)
  · simp only [↓zP, ↓zQ, q3, ↓zJ];refine zR ?_;refine yP r20 rfl (hk _ _ _ ⟨congrArg Value.bool ?_, x1.trans x2⟩);rw [hpl];simp [*, List.drop_zero]
  · simp only [↓yH, ↓yI];refine yP r20 q2 (hk _ _ _ ⟨congrArg Value.bool ?_, x1.trans x2⟩);rw [hpl];simp [*]
 | true =>
 rw [g4] at hpl;simp only [↓yZ, ↓tA, ↓zD, ↓f4, ↓l4, ↓zE, ↓cle, ↓d5, ↓xF, ↓zJ]
 cases g5 : decide (f.blocks.length ≤ 200) with
 | false =>
  rw [g5] at hpl;simp only [↓xW, ↓xP, ↓zJ, ↓sX, ↓zD, ↓f1, ↓l1, ↓zE];refine vN f.vregs (ptr n 0) vv h1 (n + 1) u _ R1 z1 _ 0 (Nat.add_zero _) false _ rfl rfl rfl rfl rfl ?_;intro t' p1 p3;simp only [↓zP, ↓zQ, p1, p3, ↓zC, ↓zJ];refine zR ?_;simp only [↓tA, ↓zD, ↓f4, ↓l4, ↓zE];refine uG f.blocks bv svs z4 z3 u _ _ 0 (Nat.add_zero _) _ _ h1 (n + 1) R3 rfl rfl rfl rfl (fun t2 h2 n2 x2 q3 => ?_) (fun hf t2 h2 n2 x2 q2 => ?_)
  · simp only [↓zP, ↓zQ, q3, ↓zJ];refine zR ?_;refine yP r20 rfl (hk _ _ _ ⟨congrArg Value.bool ?_, x1.trans x2⟩);rw [hpl];simp [*, List.drop_zero]
  · simp only [↓yH, ↓yI];refine yP r20 q2 (hk _ _ _ ⟨congrArg Value.bool ?_, x1.trans x2⟩);rw [hpl];simp [*]
 | true =>
 rw [g5] at hpl;simp only [↓yZ, ↓fa43_2, ↓zD, ↓f2];refine yK (rI f.params pv h1 (n + 1) R2 z2) ?_;simp only [↓xF, ↓zJ]
 cases g6 : f.params.all vL with
 | false =>
  rw [g6] at hpl;simp only [↓xW, ↓xP, ↓zJ, ↓sX, ↓zD, ↓f1, ↓l1, ↓zE];refine vN f.vregs (ptr n 0) vv h1 (n + 1) u _ R1 z1 _ 0 (Nat.add_zero _) false _ rfl rfl rfl rfl rfl ?_;intro t' p1 p3;simp only [↓zP, ↓zQ, p1, p3, ↓zC, ↓zJ];refine zR ?_;simp only [↓tA, ↓zD, ↓f4, ↓l4, ↓zE];refine uG f.blocks bv svs z4 z3 u _ _ 0 (Nat.add_zero _) _ _ h1 (n + 1) R3 rfl rfl rfl rfl (fun t2 h2 n2 x2 q3 => ?_) (fun hf t2 h2 n2 x2 q2 => ?_)
  · simp only [↓zP, ↓zQ, q3, ↓zJ];refine zR ?_;refine yP r20 rfl (hk _ _ _ ⟨congrArg Value.bool ?_, x1.trans x2⟩);rw [hpl];simp [*, List.drop_zero]
  · simp only [↓yH, ↓yI];refine yP r20 q2 (hk _ _ _ ⟨congrArg Value.bool ?_, x1.trans x2⟩);rw [hpl];simp [*]
 | true =>
 rw [g6] at hpl;simp only [↓sX, ↓zD, ↓f1, ↓l1, ↓zE];refine vN f.vregs (ptr n 0) vv h1 (n + 1) u _ R1 z1 _ 0 (Nat.add_zero _) true _ rfl rfl rfl rfl rfl ?_;intro t' p1 p3;simp only [↓zP, ↓zQ, p1, p3, ↓zC, ↓zJ];refine zR ?_;simp only [↓tA, ↓zD, ↓f4, ↓l4, ↓zE];refine uG f.blocks bv svs z4 z3 u _ _ 0 (Nat.add_zero _) _ _ h1 (n + 1) R3 rfl rfl rfl rfl (fun t2 h2 n2 x2 q3 => ?_) (fun hf t2 h2 n2 x2 q2 => ?_)
 · simp only [↓zP, ↓zQ, q3, ↓zJ];refine zR ?_;refine yP r20 rfl (hk _ _ _ ⟨congrArg Value.bool ?_, x1.trans x2⟩);rw [hpl];simp [*, List.drop_zero]
 · simp only [↓yH, ↓yI];refine yP r20 q2 (hk _ _ _ ⟨congrArg Value.bool ?_, x1.trans x2⟩);rw [hpl];simp [*] at hf ⊢; try exact hf
theorem vO {m : Int} {h : zG} {n : Nat} {x : Int} {Kp : KC} {K : Value → zG → Nat → Bool} (hE : Env m h) (hx : Go64 x) (hK : K (str (Lib.itoa x)) h n = true) :
 vC (loS P 8) (.func (.func 81) #[] #[]) [.int .i64 x] h n Kp K = true :=
 show yY (loS P 8) 81 [.int .i64 x] h n Kp K = true from uO (itoa_pure n hE.tabs x hx.1 hx.2) hK
theorem rB {a b : Tx} {h : zG} {n : Nat} {K : KH}
 (hK : ∀ h', Row (n + 1) h' (.slice (some ⟨n, 0, none⟩) 2 2) 9 1 2 [str a, str b] → Ext h n h' (n + 1) → K h' (n + 1) (.slice (some ⟨n, 0, none⟩) 2 2) = true) :
 zN P 23 2 [(0, str a), (1, str b)] h n K = true := by
 have z : yW P 23 2 [(0, str a), (1, str b)] = some (uE [str a, str b] 0) := rfl;exact qV (e := 9) (sz := 1) z rfl (by unfold inf; omega) hK
theorem tT {sT xT e sz n len b off m : Nat} {h : zG} {x : Value} {vs new : List Value} {K : KH} (hT : apTB P sT xT e sz = true) (hv : Row n h (.slice (some ⟨b, off, none⟩) len len) e sz len vs) (hlt : len < inf) (hvs : ∀ y ∈ vs, y.oneCell' = true) (hm : 0 < m)
 (hr : Row n h x e sz m new) (hnew : new.length = m * sz) (h1 : ∀ y ∈ new, y.oneCell' = true) (hlim : len + m < 1000000) (hK : ∀ v' h', Own n (n + 1) h' v' e sz (len + m) (vs ++ new) → Ext h n h' (n + 1) → K h' (n + 1) v' = true) :
 xV P [sT, xT] [.slice (some ⟨b, off, none⟩) len len, x] h n K = true := by
 obtain ⟨xd, ei, z, t1, t2, t3, t4, t5, t6, t7, t8, t9⟩ := apTB_of hT;have hap : uQ P h e ei.size xd x = some (m, new) := by rw [t6]; exact appended_of t3 hr
 have hro := (row_of hv).1
 have hvl : vs.length = len * sz := by
  rcases hv with ⟨hv, _⟩ | ⟨_, _, _, _, _, _, _, _, hl, _⟩
  · cases hv
  · exact hl
 unfold xV xappend;dsimp only;rw [t1, t2];dsimp only;rw [t4, t5];dsimp only;rw [hap];dsimp only
 have c1 : (Nat.beq ei.size 0 || !Nat.beq (cellsOf z).length ei.size || !Nat.blt (Nat.add len m) 1000000 || !Nat.blt ei.bytes 100000) = false := by
  have a1 : Nat.beq ei.size 0 = false := by
   cases e9 : Nat.beq ei.size 0 with
   | false => rfl
   | true => have := zZ e9; omega
  have a2 : Nat.beq (cellsOf z).length ei.size = true := by rw [t7, t6]; exact Nat.beq_refl _
  rw [a1, a2, rY (show Nat.add len m < 1000000 from hlim), rY t9]; rfl
 rw [c1];show cond (Nat.beq m 0 && !Nat.beq len 0 && (Nat.beq len inf || Nat.ble len len)) _ _ = true
 have hm0 : Nat.beq m 0 = false := by
  cases e9 : Nat.beq m 0 with
  | false => rfl
  | true => have := zZ e9; omega
 rw [hm0];show cond (Nat.beq len inf) _ _ = true
 have hi0 : Nat.beq len inf = false := by
  cases e9 : Nat.beq len inf with
  | false => rfl
  | true => have := zZ e9; omega
 rw [hi0];dsimp only [cond_false];unfold growEx
 have b1 : Nat.ble (Nat.add len m) len = false := by
  cases e9 : Nat.ble (Nat.add len m) len with
  | false => rfl
  | true =>
   have h9 : Nat.add len m ≤ len := uW e9;have h10 : len + m ≤ len := h9;omega
 rw [b1, t6, hro];show uF .lF 0 (vs ++ new) _ = true;refine sA (fun y hy => (List.mem_append.1 hy).elim (hvs y) (h1 y)) ?_;rw [yM]
 have hne : Nat.mul (Nat.add len m) sz = (vs ++ new).length := by
  rw [List.length_append, hvl, hnew]; exact Nat.add_mul len m sz
 rw [hne];refine hK _ _ (.inr ⟨n, Nat.le_refl n, Nat.lt_succ_self n, rfl, ?_, ?_, by omega, fun i => ?_⟩) ⟨Nat.le_succ n, fun b hb => ?_⟩
 · rw [zK, if_pos rfl]; rfl
 · rw [List.length_append, hvl, hnew, Nat.add_mul]
 · unfold xO;rw [zK, if_pos rfl];exact uV (vs ++ new) (zc e sz) 1 i
 · rw [zK, if_neg (by omega)]
theorem lks4 {wa wb wc wd : W} {f : W → Bool} {ls : List Lk} (hc : f wc = true) (hd : f wd = true) (h : lks [wa, wb, wc, wd] ls = true) : lks [wa, wb, wc, wd] (⟨true, f, 0, 1⟩ :: ls) = true := by
 show gt (gt true (gt true (gt (gt (f wc) true) (gt (gt (f wd) true) true)))) (lks [wa, wb, wc, wd] ls) = true;rw [hc, hd, h]; rfl
theorem lks42 {wa wb wc wd : W} {f : W → Bool} {ls : List Lk} (hb : f wb = true) (hc : f wc = true) (hd : f wd = true) (h : lks [wa, wb, wc, wd] ls = true) : lks [wa, wb, wc, wd] (⟨true, f, 0, 2⟩ :: ls) = true := by
 show gt (gt true (gt (gt (f wb) true) (gt (gt (f wc) true) (gt (gt (f wd) true) true)))) (lks [wa, wb, wc, wd] ls) = true;rw [hb, hc, hd, h]; rfl
theorem lks31 {wb wc wd : W} {f : W → Bool} {ls : List Lk} (hc : f wc = true) (hd : f wd = true) (h : lks [wb, wc, wd] ls = true) : lks [wb, wc, wd] (⟨true, f, 0, 1⟩ :: ls) = true := by
 show gt (gt true (gt (gt (f wc) true) (gt (gt (f wd) true) true))) (lks [wb, wc, wd] ls) = true;rw [hc, hd, h]; rfl
theorem lkp {b off n : Nat} (h : b < n) : blkLt n (.pointer (some ⟨b, off, none⟩)) = true := rY h
theorem lk_at {q : zG → Option Value} {b off n : Nat} {v : Value} {h : zG} {d : List Deferred} {u : Option zX} (hp : b < n) (hq : q h = some v) (hs : sameB v v = true) : lkQ q (.pointer (some ⟨b, off, none⟩)) v ⟨d, u, h, n⟩ = true :=
 lk_ok (lkp hp) hq hs
theorem same_row {n len : Nat} {h : zG} {v : Value} {e sz : Nat} {vs : List Value} (r : Row n h v e sz len vs) : sameB v v = true := by
 rcases r with ⟨rfl, _⟩ | ⟨b, off, cap, _, _, _, _, rfl, _⟩
 · rfl
 · exact oC _ _ _ _
theorem build_three {a b c : Tx} {h : zG} {n : Nat} {K : KH}
 (hK : ∀ h', Row (n + 1) h' (.slice (some ⟨n, 0, none⟩) 3 3) 9 1 3 [str a, str b, str c] → Ext h n h' (n + 1) → K h' (n + 1) (.slice (some ⟨n, 0, none⟩) 3 3) = true) :
 zN P 23 3 [(0, str a), (1, str b), (2, str c)] h n K = true := by
 have z : yW P 23 3 [(0, str a), (1, str b), (2, str c)] = some (uE [str a, str b, str c] 0) := rfl;exact qV (e := 9) (sz := 1) z rfl (by unfold inf; omega) hK
theorem build_four {a b c d : Tx} {h : zG} {n : Nat} {K : KH}
 (hK : ∀ h', Row (n + 1) h' (.slice (some ⟨n, 0, none⟩) 4 4) 9 1 4 [str a, str b, str c, str d] → Ext h n h' (n + 1) → K h' (n + 1) (.slice (some ⟨n, 0, none⟩) 4 4) = true) :
 zN P 23 4 [(0, str a), (1, str b), (2, str c), (3, str d)] h n K = true := by
 have z : yW P 23 4 [(0, str a), (1, str b), (2, str c), (3, str d)] = some (uE [str a, str b, str c, str d] 0) := rfl;exact qV (e := 9) (sz := 1) z rfl (by unfold inf; omega) hK
theorem show_rets {m : Int} {h : zG} {n : Nat} (hE : Env m h) (hn : 8 ≤ n) (i : Ins) (sv : Value) (hi : InsAll i) (hr : Row n h sv 3 1 i.args.length (i.args.map I64)) :
 Rets P 8 56 [.agg ⟨uY i sv⟩] h n fun v h' n' => Ext h n h' n' ∧ Row n' h' v 9 1 (showI i).length ((showI i).map str) := by
 obtain ⟨gd, ga, gb, gn, gt', gf, gargs, gl⟩ := hi;refine yQ zM mixed (hint := hint56) l56 fun u k hk => ?_;rw [F56_eq];unfold F56;refine tR (rA hr.one) fun h1 c1 x1 => ?_;have hE1 : Env m h1 := hE.touch (x1.touch []) hn (by simp);have c1' : Cel h1 n 0 (uY i sv) := c1;have f1 : zF P 3 h1 (.pointer (some ⟨n, 1, none⟩)) = some (I64 i.d) := zH c1' sh3 rfl;simp only [↓fa50_1, ↓zD, ↓f1, ↓zE];refine vO hE1 gd ?_;refine rB (a := Lib.itoa i.d) (b := tEq) fun h2 c2 x2' => ?_;have x2 := x1.trans x2';have hE2 : Env m h2 := hE1.touch (x2'.touch []) (by omega) (by simp);have LD : ∀ {h' : zG} {n' : Nat}, Ext h2 (n + 1 + 1) h' n' → Cel h' n 0 (uY i sv) := fun x => (c1'.touch (x2'.touch []) (by omega) (by simp)).touch (x.touch []) (by omega) (by simp);have xr : Ext h2 (n + 1 + 1) h2 (n + 1 + 1) := Ext.refl _ _;have q0 : zF P 3 h2 (ptr n 0) = some (I64 i.kind) := zH (LD xr) sh3 rfl;have q1 : zF P 3 h2 (.pointer (some ⟨n, 1, none⟩)) = some (I64 i.d) := zH (LD xr) sh3 rfl;have q2 : zF P 3 h2 (.pointer (some ⟨n, 2, none⟩)) = some (I64 i.a) := zH (LD xr) sh3 rfl
 have q3 : zF P 3 h2 (.pointer (some ⟨n, 3, none⟩)) = some (I64 i.b) := zH (LD xr) sh3 rfl;have q4 : zF P 3 h2 (.pointer (some ⟨n, 4, none⟩)) = some (I64 i.n) := zH (LD xr) sh3 rfl;have q5 : zF P 9 h2 (.pointer (some ⟨n, 5, none⟩)) = some (str i.name) := zH (LD xr) sh9 rfl;have q6' : zF P 40 h2 (.pointer (some ⟨n, 6, none⟩)) = some sv := zH (LD xr) sh40 rfl;have q7 : zF P 3 h2 (.pointer (some ⟨n, 7, none⟩)) = some (I64 i.t) := zH (LD xr) sh3 rfl;have q8 : zF P 3 h2 (.pointer (some ⟨n, 8, none⟩)) = some (I64 i.f) := zH (LD xr) sh3 rfl;have ib : ∀ c : Int, xZ i.kind c = decide (i.kind = c) := fun c => wS _ _;have ibd : ∀ c : Int, xZ i.d c = decide (i.d = c) := fun c => wS _ _
 have s2 : ∀ a b : Tx, ∀ y ∈ [str a, str b], y.oneCell' = true := fun a b y hy => by
  simp only [List.mem_cons, List.not_mem_nil, or_false] at hy;rcases hy with rfl | rfl <;> rfl
 have nn : n < n + 1 + 1 := by omega
 obtain ⟨S, sh⟩ : ∃ S, S = showI i := ⟨_, rfl⟩;rw [← sh] at hk;unfold showI at sh;simp only [↓tO, ↓zD, ↓q0, ↓zE]
 have tail : ∀ {D : List Tx} {h4 : zG} {n4 : Nat} {v4 : Value} {fA : Value → zG → Nat → Bool} {Kp : KC}, S = D ++ i.args.map Lib.itoa → D.length ≤ 4 → Own (n + 1 + 1) n4 h4 v4 9 1 D.length (D.map str) → Ext h2 (n + 1 + 1) h4 n4 →
  (∀ v5 h5 n5, Ext h4 n4 h5 n5 → Own n4 n5 h5 v5 9 1 i.args.length (i.args.map fun x => str (Lib.itoa x)) → fA v5 h5 n5 = true) → yY (loS P 8) 55 [sv] h4 n4 Kp fA = true := by
  intro D h4 n4 v4 fA Kp hS hD o4 x4 hf;have hE4 : Env m h4 := hE2.touch (x4.touch []) (by omega) (by simp);exact uJ (texts_rets hE4 (by have := x4.1; omega) i.args gargs sv ((hr.ext x2).ext x4) gl) fun v5 h5 n5 ⟨x5, o5⟩ => hf v5 h5 n5 x5 o5
 have tail2 : ∀ {D : List Tx} {h4 h5 : zG} {n4 n5 : Nat} {v4 v5 : Value} {K : KH}, S = D ++ i.args.map Lib.itoa → D.length ≤ 4 → Own (n + 1 + 1) n4 h4 v4 9 1 D.length (D.map str) → Ext h2 (n + 1 + 1) h4 n4 → Ext h4 n4 h5 n5 →
  Own n4 n5 h5 v5 9 1 i.args.length (i.args.map fun x => str (Lib.itoa x)) → (∀ v6 h6 n6, Ext h n h6 n6 → Row n6 h6 v6 9 1 S.length (S.map str) → n5 ≤ n6 → K h6 n6 v6 = true) → xV P [23, 23] [v4, v5] h5 n5 K = true := by
  intro D h4 h5 n4 n5 v4 v5 K hS hD o4 x4 x5 o5 hK;refine pU ap23 (o4.touch (x5.touch []) (fun _ _ h => by cases h)) (by have := x4.1; have := x5.1; omega) (o5.row (Nat.le_refl _)) (by simp) (fun y hy => ?_) (by omega) fun v6 h6 n6 o6 n6le k6 => ?_
  · obtain ⟨z, _, rfl⟩ := List.mem_map.1 hy;rfl
  have x6 : Ext h n h6 n6 := ⟨by have := x2.1; have := x4.1; have := x5.1; omega, fun b hb => by
   have := x2.1; have := x4.1; have := x5.1;rw [k6 b (by omega) (fun e => by have := (o4.ge b e).1; omega)];exact ((x2.trans x4).trans x5).2 b hb⟩
  refine hK v6 h6 n6 x6 ?_ n6le;have e9 : S.map str = D.map str ++ i.args.map fun x => str (Lib.itoa x) := by rw [hS, List.map_append, List.map_map]; rfl
  have e8 : S.length = D.length + i.args.length := by rw [hS]; simp
  rw [e9, e8];exact o6.row (Nat.le_refl _)
 refine wN (fun t w => zA t 1 = ptr n 0 ∧ zA t 3 = .func (.func 81) #[] #[] ∧ w = ⟨[], u, h2, n + 1 + 1⟩ ∧ S = [tRet, Lib.itoa i.a]) (fun t w q => ?_) (fun kk hkk => ?_)
 · obtain ⟨p1, p3, rfl, p4⟩ := q;simp only [p1, p3, ↓zC];refine zR ?_;simp only [↓rS, ↓zD, ↓q2, ↓zE];refine vO hE2 ga ?_;refine rB (a := tRet) (b := Lib.itoa i.a) fun h3 c3 x3 => ?_;exact yP r56 rfl (hk _ _ _ ⟨x2.trans x3, by rw [p4]; exact c3⟩)
 try simp only [↓ib, ↓zY]
 refine wE (fun t w => zA t 1 = ptr n 0 ∧ zA t 3 = .func (.func 81) #[] #[] ∧ w = ⟨[], u, h2, n + 1 + 1⟩ ∧ S = [tRet, Lib.itoa i.a]) (fun t w q => ?_) (fun hc kk' hkk' => ?_) (fun hc kk hkk => ?_)
 · obtain ⟨p1, p3, rfl, p4⟩ := q;simp only [p1, p3, ↓zC];refine zR ?_;exact hkk _ _ ⟨rfl, rfl, rfl, p4⟩
 · rw [if_pos (of_decide_eq_true hc)] at sh;simp only [↓fa50_4, ↓zD, ↓q4, ↓zE];refine vO hE2 gn ?_;refine rB (a := pW) (b := Lib.itoa i.n) fun h3 c3 x3 => ?_;refine tT ap23 (c2.ext x3) (by decide) (s2 _ _) (by omega) c3 rfl (s2 _ _) (by omega) fun v4 h4 o4 x4 => ?_;exact yP r56 rfl (hk _ _ _ ⟨(x2.trans x3).trans x4, by rw [sh]; exact o4.row (Nat.le_refl _)⟩)
 rw [if_neg (of_decide_eq_false hc)] at sh;try simp only [↓ib, ↓zY]
 refine wE (fun t w => zA t 1 = ptr n 0 ∧ zA t 3 = .func (.func 81) #[] #[] ∧ w = ⟨[], u, h2, n + 1 + 1⟩ ∧ S = [tRet, Lib.itoa i.a]) (fun t w q => ?_) (fun hc kk' hkk' => ?_) (fun hc kk hkk => ?_)
 · obtain ⟨p1, p3, rfl, p4⟩ := q;simp only [p1, p3, ↓zC];refine zR ?_;exact hkk _ _ ⟨rfl, rfl, rfl, p4⟩
 · rw [if_pos (of_decide_eq_true hc)] at sh;simp only [↓rS, ↓zD, ↓q2, ↓zE];refine vO hE2 ga ?_;refine rB (a := tCopy) (b := Lib.itoa i.a) fun h3 c3 x3 => ?_;refine tT ap23 (c2.ext x3) (by decide) (s2 _ _) (by omega) c3 rfl (s2 _ _) (by omega) fun v4 h4 o4 x4 => ?_;exact yP r56 rfl (hk _ _ _ ⟨(x2.trans x3).trans x4, by rw [sh]; exact o4.row (Nat.le_refl _)⟩)
 rw [if_neg (of_decide_eq_false hc)] at sh;try simp only [↓ib, ↓zY]
 refine wE (fun t w => zA t 1 = ptr n 0 ∧ zA t 3 = .func (.func 81) #[] #[] ∧ w = ⟨[], u, h2, n + 1 + 1⟩ ∧ S = [tRet, Lib.itoa i.a]) (fun t w q => ?_) (fun hc kk' hkk' => ?_) (fun hc kk hkk => ?_)
 · obtain ⟨p1, p3, rfl, p4⟩ := q;simp only [p1, p3, ↓zC];refine zR ?_;exact hkk _ _ ⟨rfl, rfl, rfl, p4⟩
 · rw [if_pos (of_decide_eq_true hc)] at sh;simp only [↓qX, ↓zD, ↓q5];refine vK on23 (sZ _) fun h3 c3 x3 => ?_;refine tT ap23 (c2.ext x3) (by decide) (s2 _ _) (by omega) c3 rfl (by simpa using sZ _) (by omega) fun v4 h4 o4 x4 => ?_;have x34 := x3.trans x4;have q6 : zF P 40 h4 (.pointer (some ⟨n, 6, none⟩)) = some sv := zH (LD x34) sh40 rfl;have o4' : Own (n + 1 + 1) (n + 1 + 1 + 1 + 1) h4 v4 9 1 [Lib.itoa i.d, tEq, i.name].length ([Lib.itoa i.d, tEq, i.name].map str) := o4.low (by omega);rw [vJ (by omega), tJ];simp only [↓sY, ↓zD, ↓q6];refine tail sh (by simp) o4' x34 fun v5 h5 n5 x5 o5 => ?_;rw [vJ x5.1, tJ];refine tail2 sh (by simp) o4' x34 x5 o5 fun v6 h6 n6 x6 r6 n6le => ?_;rw [vJ n6le, tJ, lks4 (lk_at (by omega) q6 (same_row (hr.ext x2))) (lk_at (by omega) q6' (same_row (hr.ext x2))) rfl, tJ];exact yP r56 rfl (hk _ _ _ ⟨x6, r6⟩)
 rw [if_neg (of_decide_eq_false hc)] at sh;try simp only [↓ib, ↓zY]
 refine wE (fun t w => zA t 1 = ptr n 0 ∧ zA t 3 = .func (.func 81) #[] #[] ∧ w = ⟨[], u, h2, n + 1 + 1⟩ ∧ S = [tRet, Lib.itoa i.a]) (fun t w q => ?_) (fun hc kk' hkk' => ?_) (fun hc kk hkk => ?_)
 · obtain ⟨p1, p3, rfl, p4⟩ := q;simp only [p1, p3, ↓zC];refine zR ?_;exact hkk _ _ ⟨rfl, rfl, rfl, p4⟩
 · rw [if_pos (of_decide_eq_true hc)] at sh;simp only [↓rS, ↓zD, ↓q2, ↓zE];refine vO hE2 ga ?_;refine rB (a := tLoad) (b := Lib.itoa i.a) fun h3 c3 x3 => ?_;refine tT ap23 (c2.ext x3) (by decide) (s2 _ _) (by omega) c3 rfl (s2 _ _) (by omega) fun v4 h4 o4 x4 => ?_;exact yP r56 rfl (hk _ _ _ ⟨(x2.trans x3).trans x4, by rw [sh]; exact o4.row (Nat.le_refl _)⟩)
 rw [if_neg (of_decide_eq_false hc)] at sh;try simp only [↓ib, ↓zY]
 refine wE (fun t w => zA t 1 = ptr n 0 ∧ zA t 3 = .func (.func 81) #[] #[] ∧ w = ⟨[], u, h2, n + 1 + 1⟩ ∧ S = [tRet, Lib.itoa i.a]) (fun t w q => ?_) (fun hc kk' hkk' => ?_) (fun hc kk hkk => ?_)
 · obtain ⟨p1, p3, rfl, p4⟩ := q;simp only [p1, p3, ↓zC];refine zR ?_;exact hkk _ _ ⟨rfl, rfl, rfl, p4⟩
 · rw [if_pos (of_decide_eq_true hc)] at sh;simp only [↓rS, ↓zD, ↓q2, ↓zE];refine vO hE2 ga ?_;rw [vJ (Nat.le_refl _), tJ];simp only [↓fa50_3, ↓zD, ↓q3, ↓zE];refine vO hE2 gb ?_;rw [vJ (Nat.le_refl _), tJ];refine build_three (a := tStore) (b := Lib.itoa i.a) (c := Lib.itoa i.b) fun h3 c3 x3 => ?_;rw [lks31 (lk_at nn q3 (qE _)) (lk_at nn q3 (qE _)) rfl, tJ];exact yP r56 rfl (hk _ _ _ ⟨x2.trans x3, by rw [sh]; exact c3⟩)
 rw [if_neg (of_decide_eq_false hc)] at sh;try simp only [↓ib, ↓zY]
 refine wE (fun t w => zA t 1 = ptr n 0 ∧ zA t 3 = .func (.func 81) #[] #[] ∧ w = ⟨[], u, h2, n + 1 + 1⟩ ∧ S = [tRet, Lib.itoa i.a]) (fun t w q => ?_) (fun hc kk' hkk' => ?_) (fun hc kk hkk => ?_)
 · obtain ⟨p1, p3, rfl, p4⟩ := q;simp only [p1, p3, ↓zC];refine zR ?_;exact hkk _ _ ⟨rfl, rfl, rfl, p4⟩
 · rw [if_pos (of_decide_eq_true hc)] at sh;simp only [↓fa50_1, ↓zD, ↓q1, ↓zE, ↓ibd, ↓zY];refine wE (fun t w => zA t 1 = ptr n 0 ∧ w = ⟨[], u, h2, n + 1 + 1⟩ ∧ ((zA t 4 = .slice none 0 0 ∧ i.d = -1) ∨ (zA t 4 = .slice (some ⟨n + 1, 0, none⟩) 2 2 ∧ i.d ≠ -1))) (fun t w q => ?_) (fun hd kk hkk => ?_) (fun hd kk hkk => ?_)
   · obtain ⟨p1, rfl, p4⟩ := q;simp only [p1, ↓zC];refine zR ?_;simp only [↓qX, ↓zD, ↓q5];refine rB (a := tCall) (b := i.name) fun h3 c3 x3 => ?_
     have go : ∀ {K : KH}, (∀ (D : List Tx) v4 h4 n4, S = D ++ i.args.map Lib.itoa → D.length ≤ 4 → Own (n + 1 + 1) n4 h4 v4 9 1 D.length (D.map str) → Ext h2 (n + 1 + 1) h4 n4 → n + 1 + 1 + 1 ≤ n4 → K h4 n4 v4 = true) →
      xV P [23, 23] [zA t 4, .slice (some ⟨n + 1 + 1, 0, none⟩) 2 2] h3 (n + 1 + 1 + 1) K = true := by
      intro K hK;rcases p4 with ⟨p4, hd⟩ | ⟨p4, hd⟩
      · rw [if_pos hd] at sh;rw [p4];refine pU ap23 (lo := n + 1 + 1) (v := .slice none 0 0) (len := 0) (vs := []) (.inl ⟨rfl, rfl, rfl⟩) (by omega) c3 rfl (s2 _ _) (by omega) fun v4 h4 n4 o4 n4le k4 => ?_;refine hK [tCall, i.name] v4 h4 n4 sh (by simp) ?_ ⟨by omega, fun b hb => ?_⟩ n4le
        · simpa using o4
        · rw [k4 b (by omega) (fun e => by cases e), x3.2 b hb]
      · rw [if_neg hd] at sh;rw [p4];refine tT ap23 (c2.ext x3) (by decide) (s2 _ _) (by omega) c3 rfl (s2 _ _) (by omega) fun v4 h4 o4 x4 => ?_;exact hK [Lib.itoa i.d, tEq, tCall, i.name] v4 h4 _ sh (by simp) (o4.low (by omega)) (x3.trans x4) (by omega)
     refine go fun D v4 h4 n4 hS hD o4 x34 n4le => ?_;have q6 : zF P 40 h4 (.pointer (some ⟨n, 6, none⟩)) = some sv := zH (LD x34) sh40 rfl;rw [vJ n4le, tJ];simp only [↓sY, ↓zD, ↓q6];refine tail hS hD o4 x34 fun v5 h5 n5 x5 o5 => ?_;rw [vJ x5.1, tJ];refine tail2 hS hD o4 x34 x5 o5 fun v6 h6 n6 x6 r6 n6le => ?_;rw [vJ n6le, tJ, lks4 (lk_at (by omega) q6 (same_row (hr.ext x2))) (lk_at (by omega) q6' (same_row (hr.ext x2))) rfl, tJ];exact yP r56 rfl (hk _ _ _ ⟨x6, r6⟩)
   · exact hkk _ _ ⟨rfl, rfl, .inl ⟨rfl, of_decide_eq_true hd⟩⟩
   · exact hkk _ _ ⟨rfl, rfl, .inr ⟨rfl, of_decide_eq_false hd⟩⟩
 rw [if_neg (of_decide_eq_false hc)] at sh;try simp only [↓ib, ↓zY]
 by_cases k7 : i.kind = 7
 · rw [if_pos k7] at sh;simp only [↓decide_eq_true k7, ↓uK, ↓rS, ↓zD, ↓q2, ↓zE];refine vO hE2 ga ?_;rw [vJ (Nat.le_refl _), tJ];simp only [↓fa50_7, ↓zD, ↓q7, ↓zE];refine vO hE2 gt' ?_;rw [vJ (Nat.le_refl _), tJ];simp only [↓fa50_8, ↓zD, ↓q8, ↓zE];refine vO hE2 gf ?_;rw [vJ (Nat.le_refl _), tJ];refine build_four (a := tBr) (b := Lib.itoa i.a) (c := Lib.itoa i.t) (d := Lib.itoa i.f) fun h3 c3 x3 => ?_;rw [lks42 (lk_at nn q8 (qE _)) (lk_at nn q8 (qE _)) (lk_at nn q8 (qE _)) (lks4 (lk_at nn q7 (qE _)) (lk_at nn q7 (qE _)) rfl), tJ];exact yP r56 rfl (hk _ _ _ ⟨x2.trans x3, by rw [sh]; exact c3⟩)
 rw [if_neg k7] at sh;simp only [↓decide_eq_false k7, ↓uS];try simp only [↓ib, ↓zY]
 by_cases k8 : i.kind = 8
 · rw [if_pos k8] at sh;simp only [↓decide_eq_true k8, ↓uK, ↓fa50_7, ↓zD, ↓q7, ↓zE];refine vO hE2 gt' ?_;refine rB (a := tJump) (b := Lib.itoa i.t) fun h3 c3 x3 => ?_;exact yP r56 rfl (hk _ _ _ ⟨x2.trans x3, by rw [sh]; exact c3⟩)
 rw [if_neg k8] at sh;simp only [↓decide_eq_false k8, ↓uS];exact hkk _ _ ⟨rfl, rfl, rfl, sh⟩
def Under (b : Nat) (h : zG) (n : Nat) (h' : zG) (n' : Nat) : Prop := n ≤ n' ∧ ∀ x, x < b → zT h' x = zT h x
theorem Under.refl (b : Nat) (h : zG) (n : Nat) : Under b h n h n := ⟨Nat.le_refl _, fun _ _ => rfl⟩
theorem Under.trans {b n n1 n2 : Nat} {h h1 h2 : zG} (a : Under b h n h1 n1) (c : Under b h1 n1 h2 n2) : Under b h n h2 n2 := ⟨Nat.le_trans a.1 c.1, fun x hx => (c.2 x hx).trans (a.2 x hx)⟩
theorem Under.ext {b n n' : Nat} {h h' : zG} (a : Under b h n h' n') : Ext h b h' b := ⟨Nat.le_refl _, a.2⟩
theorem Under.of_ext {b n n' : Nat} {h h' : zG} (a : Ext h n h' n') (hb : b ≤ n) : Under b h n h' n' := ⟨a.1, fun x hx => a.2 x (by omega)⟩
theorem Env.under {m : Int} {b n n' : Nat} {h h' : zG} (e : Env m h) (a : Under b h n h' n') (hb : 8 ≤ b) : Env m h' := e.touch (a.ext.touch []) hb (by simp)
def BldT (b n : Nat) (h : zG) (l : Tx) : Prop := b < n ∧ ∃ p sv, Cel h b (97 + 1) [p, sv] ∧ (p = .pointer none ∨ p = ptr b 0) ∧ Own (b + 1) n h sv 5 1 l.length (bytesV l)
theorem BldT.ext {b n n' : Nat} {h h' : zG} {l : Tx} (w : BldT b n h l) (x : Ext h n h' n') : BldT b n' h' l := by
 obtain ⟨hb, p, sv, c, hp, o⟩ := w;exact ⟨Nat.lt_of_lt_of_le hb x.1, p, sv, c.touch (x.touch []) hb (by simp), hp, o.touch (x.touch []) (fun _ _ h => by cases h)⟩
theorem cel_set {h : zG} {b z : Nat} {vs : List Value} {v : Value} (hc : Cel h b z vs) (h0 : 0 < vs.length) : Cel (h.set .dead (stC (zT h b) 0 [v]) b) b z (vs.set 0 v) := by
 obtain ⟨hi, hx⟩ := hc;refine ⟨?_, fun i => ?_⟩
 · rw [zK, if_pos rfl, pT, hi, List.length_set]
 · unfold xO;rw [zK, if_pos rfl, pS _ 0 [v] hi (by simp only [List.length_cons, List.length_nil]; omega)];by_cases hi0 : i = 0
   · subst hi0;rw [if_pos (by simp)];rw [List.getElem?_set_self h0]; rfl
   · rw [if_neg (by simp; omega), List.getElem?_set_ne (by omega)];exact hx i
theorem write_rets {b n : Nat} {h : zG} {l s : Tx} (w : BldT b n h l) (hlen : l.length + s.length < 1000000) :
 Rets P 8 53 [ptr b 0, str s] h n fun v h' n' => Under b h n h' n' ∧ BldT b n' h' (l ++ s) := by
 obtain ⟨hb, p, sv, c, hp, o⟩ := w;have hne : xK sv ≠ some b := fun e => by have := (o.ge b e).1; omega
 refine yQ zM mixed (hint := hq0) l53 fun u k hk => ?_;rw [F53_eq];unfold F53
 have rest : ∀ {h1 : zG} {K : KH}, Cel h1 b (97 + 1) [ptr b 0, sv] → (∀ x, x ≠ b → zT h1 x = zT h x) →
  (∀ v2 h2 n2, Own (b + 1) n2 h2 v2 5 1 (l ++ s).length (bytesV (l ++ s)) → Cel h2 b (97 + 1) [ptr b 0, sv] → Under b h n h2 n2 → K h2 n2 v2 = true) →
  xV P [95, 9] [sv, str s] h1 n K = true := by
  intro h1 K c1 k1 hK;have o1 : Own (b + 1) n h1 sv 5 1 l.length (bytesV l) := o.touch (zS k1 (S := [b]) (by simp)) (fun x hx hm => by simp at hm; subst hm; exact hne hx);refine append_text (by kernel_rfl) o1 (by omega) hlen fun v2 h2 n2 o2 n2le k2 => ?_;refine hK v2 h2 n2 ?_ (c1.keep (k2 b hb (fun e => hne e))) ⟨n2le, fun x hx => ?_⟩
  · rw [List.length_append];have e : bytesV (l ++ s) = bytesV l ++ s.map fun b => Value.int .u8 (b.toNat : Nat) := by simp [bytesV]
    rw [e]; exact o2
  · rw [k2 x (by omega) (fun e => by have := (o.ge x e).1; omega), k1 x (by omega)]
 have go : ∀ {h1 : zG}, Cel h1 b (97 + 1) [ptr b 0, sv] → (∀ x, x ≠ b → zT h1 x = zT h x) → ∀ T : Value,
  opt (qQ (ptr b 0)) (fun v7 => opt (zB P 97 1 v7) fun v8 => opt (zF P 95 h1 v8) fun v9 => xV P [95, 9] [v9, str s] h1 n fun h10 n11 v12 =>
   opt (qQ (ptr b 0)) fun v13 => opt (zB P 97 1 v13) fun v14 => zW P 95 v14 v12 h10 n11 fun h15 n16 v17 => opt (yG P .len [9] [str s] h15) fun v18 => rtI .i64 v18 fun a19 =>
    zO P (loS P 8) 53 k .ret ((gf19 (ptr b 0) (str s) undef undef (.int .i64 a19) .nilIface (ptr b 0) T (ptr b 0) (ptr b 0) v7 v8 v9 (str s) v12 v13 v14 (str s) (.int .i64 a19))) (W.mk [] u h15 n16)) = true := by
  intro h1 c1 k1 T;have e9 : zF P 95 h1 (.pointer (some ⟨b, 1, none⟩)) = some sv := zH c1 (by kernel_rfl) rfl;have f1 : zB P 97 1 (ptr b 0) = some (.pointer (some ⟨b, 1, none⟩)) := by rw [yE (o := 1) (by kernel_rfl), Nat.zero_add]
  simp only [↓yS, ↓zD, ↓f1, ↓e9];refine rest c1 k1 fun v2 h2 n2 o2 c2 x2 => ?_;try simp only [↓yS, ↓zD, ↓f1]
  refine xH c2 (by kernel_rfl) (by simp) o2.one fun h3 c3 k3 => ?_;have e5 := len_strL (P := P) us9 s [] h3;simp only [↓e5, ↓zD, ↓zE];refine leave2 r53 rfl rfl (hk _ _ _ ⟨⟨x2.1, fun x hx => by rw [k3 x (by omega)]; exact x2.2 x hx⟩, Nat.lt_of_lt_of_le hb x2.1, ptr b 0, v2, c3, .inr rfl, ?_⟩);exact o2.touch (zS k3 (S := [b]) (by simp)) (fun x hx hm => by simp at hm; subst hm; have := (o2.ge _ hx).1; omega)
 rcases hp with rfl | rfl
 · refine uJ (check_fresh (sv := sv) ⟨c.1, c.2 0, c.2 1⟩) fun v h1 n1 ⟨q1, q2, q3⟩ => ?_;subst q1 q2 q3;exact go (cel_set c (by simp)) (fun x hx => by rw [zK, if_neg (fun e => hx e.symm)]) (.tuple #[])
 · refine uJ (check_used (sv := sv) ⟨c.1, c.2 0, c.2 1⟩) fun v h1 n1 ⟨q1, q2, q3⟩ => ?_;subst q1 q2 q3;exact go c (fun x hx => rfl) (.tuple #[])
theorem line_rets {b n : Nat} {h : zG} {l hd : Tx} {ws : List Tx} {sv : Value} (w : BldT b n h l) (r : Row n h sv 9 1 ws.length (ws.map str)) (hn : ws.length < 100000) (hlen : l.length + (hd ++ Lib.join ws [32] ++ [10]).length < 1000000) :
 Rets P 8 52 [str hd, sv, ptr b 0] h n fun v h' n' => Under b h n h' n' ∧ BldT b n' h' (l ++ (hd ++ Lib.join ws [32] ++ [10])) := by
 refine yQ zM mixed (hint := hq0) l52 fun u k hk => ?_;rw [F52_eq];unfold F52;simp only [List.length_append, List.length_cons, List.length_nil] at hlen;refine uO (join_pure ws [32] r (by omega) (by omega)) ?_;refine sP (by omega) ?_;refine sP (a := hd ++ Lib.join ws [32]) (b := [10]) (by simp; omega) ?_;refine uJ (write_rets w (by simp; omega)) fun v h1 n1 q => ?_;exact qT r52 (hk _ _ _ q)
abbrev lineFn (b : Nat) : Value := .func (.func 52) (Array.mk []) (Array.mk [ptr b 0])
theorem tU {b n : Nat} {h : zG} {l hd : Tx} {ws : List Tx} {sv : Value} {Kp : KC} {K : Value → zG → Nat → Bool} (w : BldT b n h l) (r : Row n h sv 9 1 ws.length (ws.map str)) (hn : ws.length < 100000) (hlen : l.length + (hd ++ Lib.join ws [32] ++ [10]).length < 1000000)
 (hK : ∀ v h' n', Under b h n h' n' → BldT b n' h' (l ++ (hd ++ Lib.join ws [32] ++ [10])) → K v h' n' = true) : vC (loS P 8) (lineFn b) [str hd, sv] h n Kp K = true :=
 show yY (loS P 8) 52 [str hd, sv, ptr b 0] h n Kp K = true from uJ (line_rets w r hn hlen) fun v h' n' q => hK v h' n' q.1 q.2
theorem textL_one (l : Tx) : wD [l] = l ++ [10] := by simp [wD]
theorem printBlk_loop {m : Int} {b : Nat} (hg : 8 ≤ b) (l : List Ins) (v bv : Value) (bl bi : Int) (hl : l.length < 1000000) (hall : ∀ i ∈ l, InsAll i) (u : Option zX) (ka : KX) : ∀ (m' i : Nat), m' + i = l.length → ∀ (t : Fr) (h : zG) (n : Nat) (txt : Tx), Env m h → BlkRO [] b h v l → BldT b n h txt →
 txt.length + (wD ((l.drop i).map vH)).length < 1000000 → zA t 3 = ptr b 0 → zA t 4 = lineFn b → zA t 37 = bv → zA t 38 = I64 bl → zA t 39 = I64 bi → zA t 46 = v → zA t 47 = I64 (l.length : Nat) → zA t 48 = I64 (i : Nat) →
 (∀ t' h' n', Under b h n h' n' → BldT b n' h' (txt ++ wD ((l.drop i).map vH)) → zA t' 3 = ptr b 0 → zA t' 4 = lineFn b → zA t' 37 = bv → zA t' 38 = I64 bl → zA t' 39 = I64 bi → ka (.exit 2) t' ⟨[], u, h', n'⟩ = true) →
 lpS P 8 1000014 ⟨19, none, false⟩ t ⟨[], u, h, n⟩ ka = true := by
 intro m'
 induction m' with
 | zero =>
  intro i hi t h n txt hE hb w hlen t3 t4 t37 t38 t39 t46 t47 t48 hk;refine yO zM mixed (hint := hint19) l19 lp19_1000014 ?_;rw [B19_1000014_eq];unfold B19_1000014;rw [t3, t4, t37, t38, t39, t46, t47, t48];have e3 : wO (i : Nat) (l.length : Nat) = false := by rw [zV]; exact decide_eq_false (by omega)
  simp only [↓zC, ↓zE];refine zR ?_;simp only [↓e3, ↓zY, ↓uS];refine hk _ h n (Under.refl _ _ _) ?_ rfl rfl rfl rfl rfl;rw [List.drop_eq_nil_of_le (by omega)];simpa [wD] using w
 | succ m' ih =>
  intro i hi t h n txt hE hb w hlen t3 t4 t37 t38 t39 t46 t47 t48 hk;have hlt : i < l.length := by omega
  have hd : l.drop i = l[i] :: l.drop (i + 1) := List.drop_eq_getElem_cons hlt;obtain ⟨av, ⟨ha1, ha2⟩, hr⟩ := id hb;have hlt2 : i < av.length := by omega
  have hgt : l[i]? = some l[i] := List.getElem?_eq_getElem hlt;have hga : av[i]? = some av[i] := List.getElem?_eq_getElem hlt2;have hfl := insFlat_at ha1 hgt hga;have hra := (ha2 i _ _ hgt hga).1;obtain ⟨q, q1, q2⟩ := rK (P := P) (k := .i64) hr.1 ix51 (tl := 50) sh50 (by decide) hlt;rw [hfl] at q2;have hfi := hall _ (List.getElem_mem hlt);generalize l[i] = y at hd q2 hra hfi
  generalize av[i] = sv at q2 hra
  rw [hd, List.map_cons, wU] at hlen hk;simp only [List.length_append, List.length_cons] at hlen;refine yO zM mixed (hint := hint19) l19 lp19_1000014 ?_;rw [B19_1000014_eq];unfold B19_1000014;rw [t3, t4, t37, t38, t39, t46, t47, t48];have e3 : wO (i : Nat) (l.length : Nat) = true := by rw [zV]; exact decide_eq_true (by omega)
  simp only [↓zC, ↓zE];refine zR ?_;simp only [↓e3, ↓zY, ↓uK];refine wN (fun t w => zA t 3 = ptr b 0 ∧ zA t 4 = lineFn b ∧ zA t 37 = bv ∧ zA t 38 = I64 bl ∧ zA t 39 = I64 bi ∧ zA t 46 = v ∧ zA t 47 = I64 (l.length : Nat) ∧ zA t 48 = I64 (i : Nat) ∧ ∃ h' n', w = ⟨[], u, h', n'⟩ ∧ Under b h n h' n' ∧ BldT b n' h' (txt ++ (vH y ++ [10]))) (fun t w q => ?_) (fun kk hkk => ?_)
  · obtain ⟨p3, p4, p37, p38, p39, p46, p47, p48, h', n', rfl, x, w'⟩ := q;simp only [p3, p4, p37, p38, p39, p46, p47, p48, ↓zC, ↓zE];refine zR ?_;refine uH (by omega) ?_;refine ih (i + 1) (by omega) _ h' n' _ (hE.under x hg) (hb.ext x.ext) w' (by simp only [List.length_append, List.length_cons, List.length_nil]; omega) rfl rfl rfl rfl rfl rfl rfl rfl fun t2 h2 n2 x2 w2 => ?_;refine hk t2 h2 n2 (x.trans x2) ?_;rw [List.append_assoc, List.append_assoc] at w2;exact w2
  · simp only [↓q1, ↓q2, ↓zD];have hbn := w.1;refine wR ze50 fun h1 c1 x1 => ?_;refine xQ c1 sh50 rfl rfl (rA hra.one) fun h2 c2 k2 => ?_;have x2 : Ext h n h2 (n + 1) := ⟨by omega, fun b hb => (k2 b (by omega)).trans (x1.2 b hb)⟩;have fA : zF P 50 h2 (.pointer (some ⟨n, 0, none⟩)) = some (.agg ⟨uY y sv⟩) := xE c2 sh50 rfl (by decide);simp only [↓fA, ↓zD];have xb : Ext h b h2 (n + 1) := ⟨by omega, fun z hz => x2.2 z (by omega)⟩;refine uJ (show_rets (hE.under (Under.of_ext x2 (by omega)) hg) (by omega) y sv hfi (hra.ext xb)) fun v3 h3 n3 ⟨x3, r3⟩ => ?_
    have hll : (showI y).length < 100000 := by
     have := hfi.2.2.2.2.2.2.2;unfold showI;repeat' split
     all_goals simp
     all_goals omega
    refine tU (w.ext (x2.trans x3)) r3 hll (by unfold vH at hlen; simp only [List.length_append, List.length_cons, List.length_nil] at hlen ⊢; omega) fun v4 h4 n4 x4 w4 => ?_;exact hkk _ _ ⟨rfl, rfl, rfl, rfl, rfl, rfl, rfl, rfl, h4, n4, rfl, (Under.of_ext (x2.trans x3) (by omega)).trans x4, w4⟩
theorem printBlks_loop {m : Int} {b : Nat} (hg : 8 ≤ b) (bs : List (List Ins)) (bv : Value) (svs : List Value) (hl : bs.length < 1000000) (hall : ∀ l ∈ bs, l.length < 1000000 ∧ ∀ i ∈ l, InsAll i) (u : Option zX) (ka : KX) : ∀ (m' i : Nat), m' + i = bs.length → ∀ (t : Fr) (h : zG) (n : Nat) (txt : Tx), Env m h → BlksRow b h bv bs svs → BldT b n h txt →
 txt.length + (wD ((bs.drop i).flatMap xA)).length < 1000000 → zA t 3 = ptr b 0 → zA t 4 = lineFn b → zA t 37 = bv → zA t 38 = I64 (bs.length : Nat) → zA t 39 = I64 (i : Nat) →
 (∀ t' h' n', Under b h n h' n' → BldT b n' h' (txt ++ wD ((bs.drop i).flatMap xA)) → zA t' 3 = ptr b 0 → zA t' 4 = lineFn b → ka (.exit 0) t' ⟨[], u, h', n'⟩ = true) →
 lpS P 8 1000010 ⟨19, none, false⟩ t ⟨[], u, h, n⟩ ka = true := by
 intro m'
 induction m' with
 | zero =>
  intro i hi t h n txt hE hb w hlen t3 t4 t37 t38 t39 hk;refine yO zM mixed (hint := hint19) l19 lp19_1000010 ?_;rw [B19_1000010_eq];unfold B19_1000010;rw [t3, t4, t37, t38, t39];have e3 : wO (i : Nat) (bs.length : Nat) = false := by rw [zV]; exact decide_eq_false (by omega)
  simp only [↓zC, ↓zE];refine zR ?_;simp only [↓e3, ↓zY, ↓uS];refine hk _ h n (Under.refl _ _ _) ?_ rfl rfl;rw [List.drop_eq_nil_of_le (by omega)];simpa [wD] using w
 | succ m' ih =>
  intro i hi t h n txt hE hb w hlen t3 t4 t37 t38 t39 hk;have hlt : i < bs.length := by omega
  have hd : bs.drop i = bs[i] :: bs.drop (i + 1) := List.drop_eq_getElem_cons hlt;have hsl := hb.2.1;have hlt2 : i < svs.length := by omega
  have hgt : bs[i]? = some bs[i] := List.getElem?_eq_getElem hlt;have hgs : svs[i]? = some svs[i] := List.getElem?_eq_getElem hlt2;have hk2 := hb.2.2 i _ _ hgt hgs;have hfi := hall _ (List.getElem_mem hlt);obtain ⟨q, q1, q2⟩ := xU (P := P) (k := .i64) hb.1 ix41 (tl := 51) sh51 hgs;generalize bs[i] = y at hd hk2 hfi
  generalize svs[i] = v at q2 hk2 hgs
  have el : wD ((y :: bs.drop (i + 1)).flatMap xA) = (wX ++ [10]) ++ wD (y.map vH) ++ wD ((bs.drop (i + 1)).flatMap xA) := by
   have e : wD (xA y) = (wX ++ [10]) ++ wD (y.map vH) := by
    unfold xA;rw [wU]; simp
   rw [List.flatMap_cons, uP, e]
  rw [hd, el] at hlen hk;simp only [List.length_append, List.length_cons, List.length_nil] at hlen;refine yO zM mixed (hint := hint19) l19 lp19_1000010 ?_;rw [B19_1000010_eq];unfold B19_1000010;rw [t3, t4, t37, t38, t39];have e3 : wO (i : Nat) (bs.length : Nat) = true := by rw [zV]; exact decide_eq_true (by omega)
  simp only [↓zC, ↓zE];refine zR ?_;simp only [↓e3, ↓zY, ↓uK];refine wN (fun t w => zA t 3 = ptr b 0 ∧ zA t 4 = lineFn b ∧ zA t 37 = bv ∧ zA t 38 = I64 (bs.length : Nat) ∧ zA t 39 = I64 (i : Nat) ∧ ∃ h' n', w = ⟨[], u, h', n'⟩ ∧ Under b h n h' n' ∧ BldT b n' h' (txt ++ ((wX ++ [10]) ++ wD (y.map vH)))) (fun t w q => ?_) (fun kk hkk => ?_)
  · obtain ⟨p3, p4, p37, p38, p39, h', n', rfl, x, w'⟩ := q;simp only [p3, p4, p37, p38, p39, ↓zC, ↓zE];refine zR ?_;refine uH (by omega) ?_;refine ih (i + 1) (by omega) _ h' n' _ (hE.under x hg) (hb.ext x.ext) w' (by simp only [List.length_append, List.length_cons, List.length_nil]; omega) rfl rfl rfl rfl rfl fun t2 h2 n2 x2 w2 => ?_;refine hk t2 h2 n2 (x.trans x2) ?_;rw [List.append_assoc] at w2;exact w2
  · simp only [↓q1, ↓q2, ↓zD];have hbn := w.1;refine vK on23 (sZ wX) fun h1 c1 x1 => ?_;refine tU (hd := []) (ws := [wX]) (w.ext x1) c1 (by decide) (by rw [Lib.join_one]; simp; omega) fun v2 h2 n2 x2 w2 => ?_;rw [Lib.join_one] at w2;have x12 := (Under.of_ext x1 (by omega : b ≤ n)).trans x2;have hk3 := hk2.ext x12.ext;obtain ⟨av, _, hr⟩ := id hk3;have fl := xI (P := P) us51 hr.1 [] h2;simp only [↓fl, ↓zD, ↓zE];refine printBlk_loop hg y v bv _ _ hfi.1 hfi.2 u _ y.length 0 (Nat.add_zero _) _ h2 n2 _ (hE.under x12 hg) hk3 w2 (by rw [List.drop_zero]; simp; omega) rfl rfl rfl rfl rfl rfl rfl rfl fun t3 h3 n3 x3 w3 p3 p4 p37 p38 p39 => ?_;rw [List.drop_zero, List.append_assoc] at w3;simp only [↓zP, ↓zQ];simp only [p3, p4, p37, p38, p39, ↓zC, ↓zE];refine zR ?_;exact hkk _ _ ⟨rfl, rfl, rfl, rfl, rfl, h3, n3, rfl, x12.trans x3, w3⟩
theorem append_one {sT xT e n b m : Nat} {h : zG} {x a : Value} {new : List Value} {K : KH} (hT : apTB P sT xT e 1 = true) (hv : Row n h (.slice (some ⟨b, 0, none⟩) 1 1) e 1 1 [a]) (ha : a.oneCell' = true)
 (hr : Row n h x e 1 m new) (hnew : new.length = m) (h1 : ∀ y ∈ new, y.oneCell' = true) (hlim : 1 + m < 1000000) (hK : ∀ v' h' n', Row n' h' v' e 1 (1 + m) (a :: new) → Ext h n h' n' → K h' n' v' = true) :
 xV P [sT, xT] [.slice (some ⟨b, 0, none⟩) 1 1, x] h n K = true := by
 by_cases hm : 0 < m
 · refine tT hT hv (by decide) (by simpa using ha) hm hr (by omega) h1 hlim fun v' h' o x' => ?_;exact hK v' h' _ (o.row (Nat.le_refl _)) x'
 · have hm0 : m = 0 := by omega
   subst hm0;have hn0 : new = [] := List.length_eq_zero_iff.1 hnew;subst hn0;obtain ⟨xd, ei, z, t1, t2, t3, t4, t5, t6, t7, t8, t9⟩ := apTB_of hT;have hap : uQ P h e ei.size xd x = some (0, []) := by rw [t6]; exact appended_of t3 hr
   unfold xV xappend;dsimp only;rw [t1, t2];dsimp only;rw [t4, t5];dsimp only;rw [hap];dsimp only
   have c1 : (Nat.beq ei.size 0 || !Nat.beq (cellsOf z).length ei.size || !Nat.blt (Nat.add 1 0) 1000000 || !Nat.blt ei.bytes 100000) = false := by
    have a2 : Nat.beq (cellsOf z).length ei.size = true := by rw [t7, t6]; exact Nat.beq_refl _
    rw [a2, t6, rY t9]; rfl
   rw [c1];exact hK _ _ _ hv (Ext.refl _ _)
theorem ze_builder : wK P 97 = some (.agg ⟨[.pointer none, .slice none 0 0]⟩) := by kernel_rfl
def FctAll (f : Fct) : Prop := FctFit f ∧ (∀ b ∈ f.blocks, ∀ i ∈ b, InsAll i) ∧ f.vregs.length < 90000 ∧ (∀ x ∈ f.params, Go64 x) ∧ f.params.length < 50000
theorem print_pure {m : Int} {h : zG} {n : Nat} (hE : Env m h) (hn : 8 ≤ n) (f : Fct) (fv : Value) (hf : FunAt n h fv f) (hfit : FctAll f) (hlen : (wD (uT f)).length < 1000000) :
 Pure P 8 19 [fv] h n (str (rZ f)) := by
 obtain ⟨hfit, hins, hv9, hp9, hp8⟩ := hfit;have hf0 := hf;obtain ⟨vv, pv, bv, svs, rfl, r1, r2, r3, r4, r5⟩ := hf;obtain ⟨z1, z2, z3, z4⟩ := hfit;refine Rets.pureE (yQ zM mixed (hint := hint19) l19 fun u k hk => ?_) (.inl rfl);rw [F19_eq];unfold F19;refine tR (fun x hx => ?_) fun h1 c1 x1 => ?_
 · have hx : x ∈ [str f.name, vv, pv, str f.result, bv] := hx;simp only [List.mem_cons, List.not_mem_nil, or_false] at hx;rcases hx with rfl | rfl | rfl | rfl | rfl
   · rfl
   · exact r1.1.one
   · exact r2.1.one
   · rfl
   · exact r3.1.one
 have c1 : Cel h1 n 0 [str f.name, vv, pv, str f.result, bv] := c1;have fA : zF P 43 h1 (ptr n 0) = some (.agg ⟨[str f.name, vv, pv, str f.result, bv]⟩) := xE c1 sh43 rfl (by decide);simp only [↓fA, ↓zD];refine yK (plain_pure f _ h1 (n + 1) (hf0.ext x1) ⟨z1, z2, z3, z4⟩) ?_;simp only [↓xX, ↓zD, ↓zJ]
 cases hp : sR f with
 | false =>
  have e0 : rZ f = [] := by unfold rZ; rw [hp]; rfl
  rw [e0] at hk;simp only [↓Bool.not_false, ↓uK];exact yP r19 rfl (hk _ _ _ ⟨rfl, x1⟩)
 | true =>
 have e0 : rZ f = wD (uT f) := by unfold rZ; rw [hp]; rfl
 rw [e0] at hk;simp only [↓Bool.not_true, ↓uS];refine wR ze_builder fun h2 c2 x2 => ?_;have w2 : BldT (n + 1) (n + 1 + 1) h2 [] := ⟨by omega, .pointer none, .slice none 0 0, c2, .inl rfl, .inl ⟨rfl, rfl, rfl⟩⟩;have hg : 8 ≤ n + 1 := by omega
 have hE2 : Env m h2 := (hE.touch (x1.touch []) hn (by simp)).touch (x2.touch []) hg (by simp);have C : ∀ {h' : zG} {n' : Nat}, Under (n + 1) h2 (n + 1 + 1) h' n' → Cel h' n 0 [str f.name, vv, pv, str f.result, bv] := fun x => (c1.touch (x2.touch []) (by omega) (by simp)).keep (x.2 n (by omega));have X : ∀ {h' : zG} {n' : Nat}, Under (n + 1) h2 (n + 1 + 1) h' n' → Ext h n h' (n + 1) := fun x => ⟨by omega, fun y hy => by rw [x.2 y (by omega), x2.2 y (by omega), x1.2 y hy]⟩;have X' : ∀ {h' : zG} {n' : Nat}, Under (n + 1) h2 (n + 1 + 1) h' n' → Ext h n h' n' := fun x => ⟨by have := x.1; omega, (X x).2⟩;simp only [↓xG]
 have eT : wD (uT f) = (Lib.join [tFunc, f.name] [32] ++ [10]) ++ (Lib.join (tRegs :: f.vregs) [32] ++ [10]) ++ (Lib.join (tParams :: f.params.map Lib.itoa) [32] ++ [10]) ++ (Lib.join [tResult, f.result] [32] ++ [10]) ++ wD (tN f) ++ (tEnd ++ [10]) := by
  unfold uT wG;rw [uP, uP, textL_one, wU, wU, wU, textL_one];simp
 rw [eT] at hlen hk;simp only [List.length_append, List.length_cons, List.length_nil] at hlen;have s0 : Under (n + 1) h2 (n + 1 + 1) h2 (n + 1 + 1) := Under.refl _ _ _;have g0 : zF P 9 h2 (ptr n 0) = some (str f.name) := zH (C s0) sh9 rfl;simp only [↓fa43_0, ↓zD, ↓g0];refine rB (a := tFunc) (b := f.name) fun h3 c3 x3 => ?_;refine tU (hd := []) (ws := [tFunc, f.name]) (w2.ext x3) c3 (by simp) (by simp only [List.nil_append, List.length_append, List.length_cons, List.length_nil]; omega) fun v4 h4 n4 x4 w4 => ?_;have s4 := (Under.of_ext x3 (by omega : n + 1 ≤ n + 1 + 1)).trans x4;have n4b := w4.1;refine vK on23 (sZ tRegs) fun h5 c5 x5 => ?_;have s5 := s4.trans (Under.of_ext x5 (by omega : n + 1 ≤ n4));have g1 : zF P 23 h5 (.pointer (some ⟨n, 1, none⟩)) = some vv := zH (C s5) sh23 rfl;simp only [↓sX, ↓zD, ↓g1];refine append_one ap23 c5 (sZ _) (r1.1.ext (X' s5)) (by simp) (fun y hy => by obtain ⟨z, _, rfl⟩ := List.mem_map.1 hy; rfl) (by omega) fun v6 h6 n6 r6 x6 => ?_;have r6 : Row n6 h6 v6 9 1 (tRegs :: f.vregs).length ((tRegs :: f.vregs).map str) := by rw [List.length_cons, Nat.add_comm]; exact r6
 refine tU (hd := []) (w4.ext (x5.trans x6)) r6 (by rw [List.length_cons]; omega) (by simp only [List.nil_append, List.length_append, List.length_cons, List.length_nil]; omega) fun v7 h7 n7 x7 w7 => ?_;have s7 := s5.trans ((Under.of_ext x6 (by have := x5.1; omega)).trans x7);have n7b := w7.1;refine vK on23 (sZ tParams) fun h8 c8 x8 => ?_;have s8 := s7.trans (Under.of_ext x8 (by omega : n + 1 ≤ n7));have g2 : zF P 40 h8 (.pointer (some ⟨n, 2, none⟩)) = some pv := zH (C s8) sh40 rfl;simp only [↓fa43_2, ↓zD, ↓g2];refine uJ (texts_rets (hE2.under s8 hg) (by omega) f.params hp9 pv (r2.1.ext (X' s8)) hp8) fun v9 h9 n9 ⟨x9, o9⟩ => ?_;refine append_one ap23 (c8.ext x9) (sZ _) (o9.row (Nat.le_refl _)) (by simp) (fun y hy => by obtain ⟨z, _, rfl⟩ := List.mem_map.1 hy; rfl) (by omega) fun v10 h10 n10 r10 x10 => ?_
 have r10 : Row n10 h10 v10 9 1 (tParams :: f.params.map Lib.itoa).length ((tParams :: f.params.map Lib.itoa).map str) := by
  rw [List.length_cons, Nat.add_comm, List.length_map, List.map_cons, List.map_map]; exact r10
 have x89 := x8.trans (x9.trans x10);refine tU (hd := []) (w7.ext x89) r10 (by rw [List.length_cons, List.length_map]; omega) (by simp only [List.nil_append, List.length_append, List.length_cons, List.length_nil]; omega) fun v11 h11 n11 x11 w11 => ?_;have s11 := s7.trans ((Under.of_ext x89 (by omega : n + 1 ≤ n7)).trans x11);have n11b := w11.1;have g3 : zF P 9 h11 (.pointer (some ⟨n, 3, none⟩)) = some (str f.result) := zH (C s11) sh9 rfl;simp only [↓fa43_3, ↓zD, ↓g3];refine rB (a := tResult) (b := f.result) fun h12 c12 x12 => ?_;refine tU (hd := []) (ws := [tResult, f.result]) (w11.ext x12) c12 (by simp) (by simp only [List.nil_append, List.length_append, List.length_cons, List.length_nil]; omega) fun v13 h13 n13 x13 w13 => ?_;have s13 := s11.trans ((Under.of_ext x12 (by omega : n + 1 ≤ n11)).trans x13);have n13b := w13.1;have g4 : zF P 41 h13 (.pointer (some ⟨n, 4, none⟩)) = some bv := zH (C s13) sh41 rfl;have R3 : BlksRow (n + 1) h13 bv f.blocks svs := ⟨r3.1.ext (X s13), r4, fun k l v h1 h2 => (r5 k l v h1 h2).ext (X s13)⟩;have l4 := xI (P := P) us41 R3.1 [] h13;simp only [↓tA, ↓zD, ↓g4, ↓l4, ↓zE]
 refine printBlks_loop hg f.blocks bv svs z3 (fun l hl => ⟨(z4 l hl).1, hins l hl⟩) u _ f.blocks.length 0 (Nat.add_zero _) _ h13 n13 _ (hE2.under s13 hg) R3 w13 (by rw [List.drop_zero]; simp only [List.nil_append, List.length_append, List.length_cons, List.length_nil]; unfold tN at hlen; omega) rfl rfl rfl rfl rfl fun t14 h14 n14 x14 w14 p3 p4 => ?_;rw [List.drop_zero] at w14;simp only [↓zP, ↓zQ];simp only [p3, p4, ↓zC];refine zR ?_;have s14 := s13.trans x14;have n14b := w14.1;refine vK on23 (sZ tEnd) fun h15 c15 x15 => ?_;refine tU (hd := []) (ws := [tEnd]) (w14.ext x15) c15 (by decide) (by rw [Lib.join_one]; simp only [List.nil_append, List.length_append, List.length_cons, List.length_nil]; unfold tN at hlen; omega) fun v16 h16 n16 x16 w16 => ?_;rw [Lib.join_one] at w16;have s16 := s14.trans ((Under.of_ext x15 (by omega : n + 1 ≤ n14)).trans x16);obtain ⟨b16, p, sv, cB, hpp, oB⟩ := w16;have hne : xK sv ≠ some (n + 1) := fun e => by have := (oB.ge _ e).1; omega
 refine uJ (string_rets (p := p) (sv := sv) ⟨cB.1, cB.2 0, cB.2 1⟩ oB hne (by simp only [List.nil_append, List.length_append, List.length_cons, List.length_nil]; unfold tN at hlen; omega)) fun v17 h17 n17 ⟨q1, q2, q3⟩ => ?_;subst q1 q2;refine yP r19 rfl (hk _ _ _ ⟨?_, ?_⟩)
 · simp only [List.nil_append, List.append_assoc, tN];rfl
 · refine ⟨(X' s16).1, fun y hy => ?_⟩;rw [q3 y (fun e => by have := (oB.ge _ e).1; omega)];exact (X' s16).2 y hy
theorem sameInts_loop (xs ys : List Int) (hl : xs.length = ys.length) (av bv : Value) (h : zG) (n : Nat) (ra : Row n h av 3 1 xs.length (xs.map I64)) (rb : Row n h bv 3 1 ys.length (ys.map I64)) (hlen : xs.length < 1000000) (u : Option zX) (ka : KX) :
 ∀ (m i : Nat), m + i = xs.length → ∀ t, zA t 0 = av → zA t 1 = bv → zA t 5 = I64 (i : Nat) →
 (xs.drop i = ys.drop i → ∀ t', ka (.exit 0) t' ⟨[], u, h, n⟩ = true) → (xs.drop i ≠ ys.drop i → ∀ t', zA t' 4 = .bool false → ka .ret t' ⟨[], u, h, n⟩ = true) →
 lpS P 8 1000004 ⟨70, none, false⟩ t ⟨[], u, h, n⟩ ka = true := by
 have fl := xI (P := P) us40 ra [] h;intro m
 induction m with
 | zero =>
  intro i hi t t0 t1 t5 hE hR;refine yO zM mixed (hint := hint70) l70 lp70_1000004 ?_;rw [B70_1000004_eq];unfold B70_1000004;rw [t0, t1, t5];have e3 : wO (i : Nat) (xs.length : Nat) = false := by rw [zV]; exact decide_eq_false (by omega)
  simp only [↓zC, ↓zE];refine zR ?_;simp only [↓fl, ↓zD, ↓zE, ↓e3, ↓zY, ↓uS];refine hE ?_ _;rw [List.drop_eq_nil_of_le (by omega), List.drop_eq_nil_of_le (by omega)]
 | succ m ih =>
  intro i hi t t0 t1 t5 hE hR;have hlt : i < xs.length := by omega
  have hlb : i < ys.length := by omega
  have hda : xs.drop i = xs[i] :: xs.drop (i + 1) := List.drop_eq_getElem_cons hlt;have hdb : ys.drop i = ys[i] :: ys.drop (i + 1) := List.drop_eq_getElem_cons hlb;obtain ⟨q, q1, q2⟩ := xU (P := P) (k := .i64) ra ix40 (tl := 3) sh3 (i := i) (x := I64 xs[i]) (by rw [List.getElem?_map, List.getElem?_eq_getElem hlt]; rfl);obtain ⟨p, p1, p2⟩ := xU (P := P) (k := .i64) rb ix40 (tl := 3) sh3 (i := i) (x := I64 ys[i]) (by rw [List.getElem?_map, List.getElem?_eq_getElem hlb]; rfl);generalize xs[i] = x at hda q2
  generalize ys[i] = y at hdb p2
  rw [hda, hdb] at hE hR;refine yO zM mixed (hint := hint70) l70 lp70_1000004 ?_;rw [B70_1000004_eq];unfold B70_1000004;rw [t0, t1, t5];have e3 : wO (i : Nat) (xs.length : Nat) = true := by rw [zV]; exact decide_eq_true (by omega)
  simp only [↓zC, ↓zE];refine zR ?_;simp only [↓fl, ↓zD, ↓zE, ↓e3, ↓zY, ↓uK];refine wN (fun t w => zA t 0 = av ∧ zA t 1 = bv ∧ zA t 5 = I64 (i : Nat) ∧ w = ⟨[], u, h, n⟩ ∧ x = y) (fun t w q => ?_) (fun kk hkk => ?_)
  · obtain ⟨p0, p1, p5, rfl, hxy⟩ := q;simp only [p0, p1, p5, ↓zC, ↓zE];refine zR ?_;refine uH (by omega) ?_;subst hxy;exact ih (i + 1) (by omega) _ rfl rfl rfl (fun e => hE (by rw [e])) (fun e => hR (fun e' => e (List.cons.inj e').2))
  · simp only [↓q1, ↓q2, ↓p1, ↓p2, ↓zD, ↓zE, ↓xR, ↓tJ];by_cases hxy : x = y
    · have e4 : ineB x y = false := by rw [pK, decide_eq_true hxy]; rfl
      simp only [↓e4, ↓zY, ↓uS];exact hkk _ _ ⟨rfl, rfl, rfl, rfl, hxy⟩
    · have e4 : ineB x y = true := by rw [pK, decide_eq_false hxy]; rfl
      simp only [↓e4, ↓zY, ↓uK];exact hR (fun e => hxy (List.cons.inj e).1) _ rfl
theorem sameInts_pure (xs ys : List Int) (av bv : Value) (h : zG) (n : Nat) (ra : Row n h av 3 1 xs.length (xs.map I64)) (rb : Row n h bv 3 1 ys.length (ys.map I64)) (hlen : xs.length < 1000000) :
 Pure P 8 70 [av, bv] h n (.bool (decide (xs = ys))) := by
 refine yQ zM mixed (hint := hint70) l70 fun u k hk => ?_;rw [F70_eq];unfold F70;have e1 := xI (P := P) us40 ra [] h;have e2 := xI (P := P) us40 rb [] h;simp only [↓e1, ↓e2, ↓zD, ↓zE];by_cases hl : xs.length = ys.length
 · have e4 : ineB (xs.length : Nat) (ys.length : Nat) = false := by rw [pK, decide_eq_true (by omega)]; rfl
   simp only [↓e4, ↓zY, ↓uS];refine sameInts_loop xs ys hl av bv h n ra rb hlen u _ xs.length 0 (Nat.add_zero _) _ rfl rfl rfl (fun e t' => ?_) (fun e t' t4 => ?_)
   · rw [List.drop_zero, List.drop_zero] at e;simp only [↓zP, ↓zQ];refine zR ?_;exact yP r70 (v := .bool true) rfl (hk _ _ _ ⟨by rw [decide_eq_true e], rfl, rfl⟩)
   · rw [List.drop_zero, List.drop_zero] at e;simp only [↓yH, ↓yI];exact yP r70 t4 (hk _ _ _ ⟨by rw [decide_eq_false e], rfl, rfl⟩)
 · have e4 : ineB (xs.length : Nat) (ys.length : Nat) = true := by rw [pK, decide_eq_false (by omega)]; rfl
   simp only [↓e4, ↓zY, ↓uK];exact yP r70 (v := .bool false) rfl (hk _ _ _ ⟨by rw [decide_eq_false (fun e => hl (by rw [e]))], rfl, rfl⟩)
def sameI (i j : Ins) : Bool := decide (i.kind = j.kind ∧ i.d = j.d ∧ i.a = j.a ∧ i.b = j.b ∧ i.n = j.n ∧ i.name = j.name ∧ i.t = j.t ∧ i.f = j.f ∧ i.args = j.args)
theorem sameI_eq {i j : Ins} : sameI i j = true ↔ i = j := by
 unfold sameI;rw [decide_eq_true_eq];cases i; cases j
 constructor
 · rintro ⟨h1, h2, h3, h4, h5, h6, h7, h8, h9⟩
   dsimp only at h1 h2 h3 h4 h5 h6 h7 h8 h9;subst h1 h2 h3 h4 h5 h6 h7 h8 h9; rfl
 · intro h; injection h with h1 h2 h3 h4 h5 h6 h7 h8 h9
   exact ⟨h1, h2, h3, h4, h5, h6, h8, h9, h7⟩
theorem sameIns_pure (i j : Ins) (sv sw : Value) (h : zG) (n : Nat) (rs : Row n h sv 3 1 i.args.length (i.args.map I64)) (rw' : Row n h sw 3 1 j.args.length (j.args.map I64)) (hlen : i.args.length < 1000000) :
 Pure P 8 105 [.agg ⟨uY i sv⟩, .agg ⟨uY j sw⟩] h n (.bool (sameI i j)) := by
 refine Rets.pureE (yQ zM mixed (hint := hq0) l105 fun u k hk => ?_) (.inl rfl);rw [F105_eq];unfold F105;refine tR (rA rs.one) fun h1 c1 x1 => ?_;refine tR (rA rw'.one) fun h2 c2 x2 => ?_;have c1' : Cel h2 n 0 (uY i sv) := Cel.touch c1 (x2.touch []) (by omega) (by simp);have c2' : Cel h2 (n + 1) 0 (uY j sw) := c2;have X := x1.trans x2;have p0 : zF P 3 h2 (.pointer (some ⟨n, 0, none⟩)) = some (I64 i.kind) := zH c1' sh3 rfl;have q0 : zF P 3 h2 (.pointer (some ⟨n + 1, 0, none⟩)) = some (I64 j.kind) := zH c2' sh3 rfl;have p1 : zF P 3 h2 (.pointer (some ⟨n, 1, none⟩)) = some (I64 i.d) := zH c1' sh3 rfl;have q1 : zF P 3 h2 (.pointer (some ⟨n + 1, 1, none⟩)) = some (I64 j.d) := zH c2' sh3 rfl;have p2 : zF P 3 h2 (.pointer (some ⟨n, 2, none⟩)) = some (I64 i.a) := zH c1' sh3 rfl;have q2 : zF P 3 h2 (.pointer (some ⟨n + 1, 2, none⟩)) = some (I64 j.a) := zH c2' sh3 rfl;have p3 : zF P 3 h2 (.pointer (some ⟨n, 3, none⟩)) = some (I64 i.b) := zH c1' sh3 rfl;have q3 : zF P 3 h2 (.pointer (some ⟨n + 1, 3, none⟩)) = some (I64 j.b) := zH c2' sh3 rfl
 have p4 : zF P 3 h2 (.pointer (some ⟨n, 4, none⟩)) = some (I64 i.n) := zH c1' sh3 rfl;have q4 : zF P 3 h2 (.pointer (some ⟨n + 1, 4, none⟩)) = some (I64 j.n) := zH c2' sh3 rfl;have p5 : zF P 9 h2 (.pointer (some ⟨n, 5, none⟩)) = some (str i.name) := zH c1' sh9 rfl;have q5 : zF P 9 h2 (.pointer (some ⟨n + 1, 5, none⟩)) = some (str j.name) := zH c2' sh9 rfl;have p7 : zF P 3 h2 (.pointer (some ⟨n, 7, none⟩)) = some (I64 i.t) := zH c1' sh3 rfl;have q7 : zF P 3 h2 (.pointer (some ⟨n + 1, 7, none⟩)) = some (I64 j.t) := zH c2' sh3 rfl;have p8 : zF P 3 h2 (.pointer (some ⟨n, 8, none⟩)) = some (I64 i.f) := zH c1' sh3 rfl;have q8 : zF P 3 h2 (.pointer (some ⟨n + 1, 8, none⟩)) = some (I64 j.f) := zH c2' sh3 rfl;have p6 : zF P 40 h2 (.pointer (some ⟨n, 6, none⟩)) = some sv := zH c1' sh40 rfl;have q6 : zF P 40 h2 (.pointer (some ⟨n + 1, 6, none⟩)) = some sw := zH c2' sh40 rfl;have fin : ∀ (t : Fr) (b : Bool), b = sameI i j → zA t 4 = .bool b → zO P (loS P 8) 105 k .ret t ⟨[], u, h2, n + 1 + 1⟩ = true := fun t b hb ht => yP r105 ht (hk _ _ _ ⟨by rw [hb], X⟩)
 have ei : ∀ (a b : Int) K, yD xZ P .eql 3 false (.int .i64 a) (.int .i64 b) K = K (decide (a = b)) := fun a b K => by rw [cmpI, wS]
 have ec : ∀ (a b : Tx) K, yD xZ P .eql 9 false (str a) (str b) K = K (decide (a = b)) := fun a b K => by
  rw [vG];congr 1
  by_cases e : a = b
  · rw [decide_eq_true e, e]; simp
  · rw [decide_eq_false e]; simpa using e
 have e0 : xZ i.kind j.kind = decide (i.kind = j.kind) := wS _ _;simp only [↓zY, ↓tO, ↓zD, ↓p0, ↓q0, ↓zE, ↓e0];by_cases g0 : i.kind = j.kind
 case neg =>
  simp only [↓decide_eq_false g0, ↓xW, ↓zI, ↓xF, ↓xP, ↓zJ, ↓yZ];exact fin _ false (by unfold sameI; exact (decide_eq_false (by simp [g0])).symm) rfl
 simp only [↓decide_eq_true g0, ↓zI, ↓xF, ↓zJ, ↓yZ, ↓fa50_1, ↓zD, ↓p1, ↓q1, ↓zE, ↓ei];by_cases g1 : i.d = j.d
 case neg =>
  simp only [↓decide_eq_false g1, ↓xW, ↓zI, ↓xF, ↓xP, ↓zJ, ↓yZ];exact fin _ false (by unfold sameI; exact (decide_eq_false (by simp [g1])).symm) rfl
 simp only [↓decide_eq_true g1, ↓zI, ↓xF, ↓zJ, ↓yZ, ↓rS, ↓zD, ↓p2, ↓q2, ↓zE, ↓ei];by_cases g2 : i.a = j.a
 case neg =>
  simp only [↓decide_eq_false g2, ↓xW, ↓zI, ↓xF, ↓xP, ↓zJ, ↓yZ];exact fin _ false (by unfold sameI; exact (decide_eq_false (by simp [g2])).symm) rfl
 simp only [↓decide_eq_true g2, ↓zI, ↓xF, ↓zJ, ↓yZ, ↓fa50_3, ↓zD, ↓p3, ↓q3, ↓zE, ↓ei];by_cases g3 : i.b = j.b
 case neg =>
  simp only [↓decide_eq_false g3, ↓xW, ↓zI, ↓xF, ↓xP, ↓zJ, ↓yZ];exact fin _ false (by unfold sameI; exact (decide_eq_false (by simp [g3])).symm) rfl
 simp only [↓decide_eq_true g3, ↓zI, ↓xF, ↓zJ, ↓yZ, ↓fa50_4, ↓zD, ↓p4, ↓q4, ↓zE, ↓ei];by_cases g4 : i.n = j.n
 case neg =>
  simp only [↓decide_eq_false g4, ↓xW, ↓zI, ↓xF, ↓xP, ↓zJ, ↓yZ];exact fin _ false (by unfold sameI; exact (decide_eq_false (by simp [g4])).symm) rfl
 simp only [↓decide_eq_true g4, ↓zI, ↓xF, ↓zJ, ↓yZ, ↓qX, ↓zD, ↓p5, ↓q5, ↓zE, ↓ec];by_cases g5 : i.name = j.name
 case neg =>
  simp only [↓decide_eq_false g5, ↓xW, ↓zI, ↓xF, ↓xP, ↓zJ, ↓yZ];exact fin _ false (by unfold sameI; exact (decide_eq_false (by simp [g5])).symm) rfl
 simp only [↓decide_eq_true g5, ↓zI, ↓xF, ↓zJ, ↓yZ, ↓fa50_7, ↓zD, ↓p7, ↓q7, ↓zE, ↓ei];by_cases g7 : i.t = j.t
 case neg =>
  simp only [↓decide_eq_false g7, ↓xW, ↓zI, ↓xF, ↓xP, ↓zJ, ↓yZ];exact fin _ false (by unfold sameI; exact (decide_eq_false (by simp [g7])).symm) rfl
 simp only [↓decide_eq_true g7, ↓zI, ↓xF, ↓zJ, ↓yZ, ↓fa50_8, ↓zD, ↓p8, ↓q8, ↓zE, ↓ei];by_cases g8 : i.f = j.f
 case neg =>
  simp only [↓decide_eq_false g8, ↓xW, ↓zI, ↓xF, ↓xP, ↓zJ, ↓yZ];exact fin _ false (by unfold sameI; exact (decide_eq_false (by simp [g8])).symm) rfl
 simp only [↓decide_eq_true g8, ↓zI, ↓xF, ↓zJ, ↓yZ, ↓sY, ↓zD, ↓p6, ↓q6];refine yK (sameInts_pure i.args j.args sv sw h2 _ (rs.ext X) (rw'.ext X) hlen) ?_;try simp only [↓zI, ↓xF, ↓zJ]
 exact fin _ (decide (i.args = j.args)) (by unfold sameI; simp [*]) rfl
end Go.Proofs.YtapnnpoljobanaaGreatDoor
