/- An executor of the model that the kernel can run, and that what it tells is so (part 3 of 3). Conditions: those that each theorem states. -/
import Derived.Test.YtmbpiaaaeglhbaaGreatEx2
import Derived.Orders

/- A region that draws its order: an effect; any operation. Conditions: the program's text is as 'progOK' asks. -/
namespace Go.Ex

section
variable {P : Program} {ng : Nat} {all : Array Oper} {M : Nat → Nat} {D E : List DOp} {C : Cfg}
variable {pre suf : List Rec} {ts : Fr} {ws : W} {lst : Nat → Prop} {ρ : Inj} {H : Heap} {a : Act} {wd : World} {cs : List Frame}

theorem maker_grows {cx : Cx} {r : Rec} (h : RecOK P ng all cx r) (k : r.x.kd = 2) (s : r.sk = false) : r.w.n < r.w2.n := by
  cases h with
  | skip => cases s
  | look hw hkk => dsimp only at k; omega
  | made => exact Nat.lt_succ_self _
  | act hw hkk => exact absurd k hkk.2.2

/-- Where an operation stands ahead of which there is no effect that has not been. -/
theorem Inv.at_act (I : Inv P ng all M D E C pre suf ts ws lst ρ H a wd cs) (K : RecPlan all M D) {A S : List Rec} {t : Fr} {w : W} (hs : suf = A ++ S) (hA : RecsOK P ng all C.cx A ts ws t w) (hno : ∀ q ∈ A, q.x.kd ≠ 3) :
    In0 P ng (ρ.cut w.n) C.base C.w00 C.b a wd cs C.cx w := by
  have hwn : ws.n ≤ w.n := (recs_n hA).1
  obtain ⟨s1, s2, s3⟩ := I.seg K hs hA hno
  have hle := cut_le (ρ := ρ) hwn
  exact ⟨I.in0.fn, I.in0.kind, I.in0.rd.mono hle, I.in0.rdf, (I.hp _ hwn).congr fun b B e => let ⟨h1, h2⟩ := cut_some e; s3 b B h1 h2, by rw [s1]; exact I.in0.dr.mono hle, by rw [s2]; exact I.in0.ur.mono hle, I.in0.fnd⟩

theorem Inv.no_act (I : Inv P ng all M D E C pre suf ts ws lst ρ H a wd cs) (K : RecPlan all M D) {A : List Rec} {S : List Rec} {x : DOp} {rest : List DOp} (hs : suf = A ++ S) (hD : D = (pre ++ A).map (·.x) ++ x :: rest) (hk : x.kd = 3) (hm : ∀ b, bitB (M x.i) b = true → lst b) :
    (∀ q ∈ A, q.x.kd ≠ 3) ∧ ∀ q ∈ A, lst q.x.i := by
  have hno : ∀ q ∈ A, q.x.kd ≠ 3 := by
    intro q hq h3
    have hql : ¬ lst q.x.i := I.sl q (by rw [hs]; simp [hq]) h3
    obtain ⟨A1, A2, hA2⟩ := List.append_of_mem hq
    have hDq : D = (pre ++ A1).map (·.x) ++ q.x :: (A2.map (·.x) ++ x :: rest) := by rw [hD, hA2]; simp
    obtain ⟨l1, l2⟩ := K.later hDq
    rcases K.act q.x (by rw [hDq]; simp) x (by rw [hD]; simp) h3 hk with h | h | h
    · exact l2 h
    · exact hql (hm _ h)
    · rw [l1] at h; cases h
  refine ⟨hno, fun q hq => hm _ ?_⟩
  refine K.next (pre.map (·.x)) (A.map (·.x)) x rest (by rw [hD]; simp) hk (fun y hy => ?_) q.x (List.mem_map.2 ⟨q, hq, rfl⟩)
  obtain ⟨q', hq', rfl⟩ := List.mem_map.1 hy
  exact hno q' hq'

/-- An effect has been. -/
theorem Inv.acted (I : Inv P ng all M D E C pre suf ts ws lst ρ H a wd cs) (K : RecPlan all M D) (hc : ∀ o ∈ all.toList, operOK ng (ntm P C.cx.fn) o = true)
    {A B : List Rec} {r : Rec} (hs : suf = A ++ r :: B) (hA : RecsOK P ng all C.cx A ts ws r.t r.w) (hk : r.x.kd = 3)
    (hx : ¬ lst r.x.i) (hm : ∀ b, bitB (M r.x.i) b = true → lst b) {ρ' : Inj} {a' : Act} {wd' : World} {cs' : List Frame} {v' : Value}
    (in0 : In0 P ng ρ' C.base C.w00 C.b a' wd' cs' C.cx r.w2) (ha : a'.tmps = a.tmps) (g : Grow (ρ.cut r.w.n) r.w.h r.w.n wd ρ' r.w2.h r.w2.n wd') (hcs : CsTo C.cx.df cs cs') (hv : RV ρ' r.v v') :
    ∃ ρ1 H1, Inv P ng all M D E C (pre ++ A ++ [r]) B (putF r.t r.x.o.dst r.v) r.w2 (fun i => lst i ∨ i = r.x.i) ρ1 H1 (a'.put r.x.o.dst v') wd' cs' := by
  have hwn : ws.n ≤ r.w.n := (recs_n hA).1
  have hW0 : C.W0.n ≤ ws.n := (recs_n I.r1).1
  have hDr : D = (pre ++ A).map (·.x) ++ r.x :: (B.map (·.x) ++ E) := by rw [I.dd, hs]; simp
  have hrm : r ∈ pre ++ suf := by rw [hs]; simp
  have hrD := I.mem hrm
  obtain ⟨hno, hAl⟩ := I.no_act K hs hDr hk hm
  obtain ⟨s1, s2, s3⟩ := I.seg K hs hA hno
  have hkA : ∀ q ∈ A, q.x.kd ≠ 3 ∧ q.x.kd = kindOf q.x.o.op := fun q hq => ⟨hno q hq, K.kd _ (I.mem (by rw [hs]; simp [hq]))⟩
  obtain ⟨_, _, s4, _⟩ := seg_ok hA hkA
  have hr2 := I.r2
  rw [hs] at hr2
  obtain ⟨t1, w1, x1, x2⟩ := recs_split hr2
  have ew : r.w = w1 := recs_end hA x1
  subst ew
  have hB : RecsOK P ng all C.cx B (putF r.t r.x.o.dst r.v) r.w2 C.t1 C.w1 ∧ RecOK P ng all C.cx r ∧ r.t = t1 := by
    cases x2 with
    | cons h1 h2 => exact ⟨h2, h1, rfl⟩
  obtain ⟨hB, hrok, et⟩ := hB
  have hn := rec_n hrok
  have inB : ∀ b Bk, r.w.n ≤ b → ρ b = some Bk → ∃ q ∈ B, q.x.kd = 2 ∧ q.sk = false ∧ lst q.x.i ∧ q.w.n = b := by
    intro b Bk hb e
    obtain ⟨q, q1, q2, q3, q4, q5⟩ := I.ex b Bk (by omega) e
    rw [hs] at q1
    rcases List.mem_append.1 q1 with h | h
    · obtain ⟨y1, y2, y3⟩ := (recs_n hA).2 q h
      have := maker_grows y1 q2 q3
      omega
    · rcases List.mem_cons.1 h with h | h
      · rw [h, hk] at q2; cases q2
      · exact ⟨q, h, q2, q3, q4, q5⟩
  obtain ⟨H1, e1, e2⟩ := glue r.w2.h H r.w2.n (C.w1.n + 1)
  have none' : ∀ b, r.w.n ≤ b → b < r.w2.n → ρ b = none := by
    intro b h1 h2
    cases e : ρ b with
    | none => rfl
    | some Bk =>
      obtain ⟨q, q1, q2, q3, q4, q5⟩ := inB b Bk h1 e
      have := ((recs_n hB).2 q q1).2.1
      omega
  have r1 : ∀ b, b < r.w2.n → (fun b => if b < r.w2.n then ρ' b else ρ b : Inj) b = ρ' b := fun b h => if_pos h
  have r2 : ∀ b, r.w2.n ≤ b → (fun b => if b < r.w2.n then ρ' b else ρ b : Inj) b = ρ b := fun b h => if_neg (by omega)
  obtain ⟨ρ1, r1, r2⟩ : ∃ ρ1 : Inj, (∀ b, b < r.w2.n → ρ1 b = ρ' b) ∧ ∀ b, r.w2.n ≤ b → ρ1 b = ρ b := ⟨_, r1, r2⟩
  have c1 : ρ1.cut r.w2.n = ρ' := by
    funext b
    rcases Nat.lt_or_ge b r.w2.n with h | h
    · rw [cut_lt h, r1 b h]
    · rw [cut_ge h, in0.hp.dom b h]
  obtain ⟨hle, hp⟩ := early (fun m hm => I.hp m (by omega)) hn none' (fun b Bk hb e => s3 b Bk hb e) in0.hp g r1 r2 e1 (fun b Bk hb e => by
    obtain ⟨q, q1, q2, q3, q4, q5⟩ := inB b Bk (by omega) e
    have := ((recs_n hB).2 q q1).2.2
    have := rec_n ((recs_n hB).2 q q1).1
    exact e2 b hb (by omega))
  have gr := Grow.early (n0 := C.W0.n) (by omega) (fun m hm => I.gr m (by omega)) hn (fun b hb => by rw [s4 b (by omega), I.hh b (by omega)]) g r1 r2 e1
  have hdst : ∀ q ∈ pre ++ suf, lst q.x.i → ∀ d, q.x.o.dst = some d → r.x.o.dst ≠ some d := by
    intro q hq hl d e e2
    rcases K.pair q.x (I.mem hq) r.x hrD d e (.inr e2) with h | ⟨h, _⟩
    · rw [h] at hl; exact hx hl
    · exact h e2
  have hlt : ∀ d, r.x.o.dst = some d → d < a'.tmps.size := by
    intro d e
    have hmem : r.x.o ∈ all.toList := by
      have ho := K.at' r.x hrD
      rw [← Array.getElem?_toList] at ho; exact List.mem_iff_getElem?.2 ⟨_, ho⟩
    have := (Bool.and_eq_true_iff.1 (hc r.x.o hmem)).2
    rw [e] at this
    have h1 : d < ntm P C.cx.fn := blt_lt this
    rw [ha, I.sz]
    exact Nat.lt_of_lt_of_le h1 I.tm0.le
  have hall : pre ++ A ++ [r] ++ B = pre ++ suf := by rw [hs]; simp
  refine ⟨ρ1, H1, ?_, ?_, hB, .inr ⟨_, r, rfl, hk⟩, ?_, ?_, ?_, ?_, ?_, hp, gr, I.cst.trans hcs, e1, ?_, ?_, ?_, ?_, I.tm0.mono (cut_mono hle _), (put_size.trans (by rw [ha])).trans I.sz⟩
  · rw [hall]; exact I.dd
  · refine recs_app (recs_app I.r1 hA) (.cons hrok (.nil _ _))
  · intro q hq
    rcases List.mem_append.1 hq with hq | hq
    · rcases List.mem_append.1 hq with hq | hq
      · exact .inl (I.pl q hq)
      · exact .inl (hAl q hq)
    · simp at hq; subst hq; exact .inr rfl
  · intro q hq h3 hl
    rcases hl with hl | hl
    · exact I.sl q (by rw [hs]; simp [hq]) h3 hl
    · obtain ⟨B1, B2, hB2⟩ := List.append_of_mem hq
      exact (K.later (x := r.x) (y := q.x) (A := (pre ++ A).map (·.x)) (B := B1.map (·.x)) (C := B2.map (·.x) ++ E) (by rw [hDr, hB2]; simp)).2 hl.symm
  · intro i hi
    rw [hall]
    rcases hi with hi | rfl
    · exact I.only i hi
    · exact ⟨r, hrm, rfl⟩
  · intro i hi j hj
    rcases hi with hi | rfl
    · exact .inl (I.closed i hi j hj)
    · exact .inl (hm j hj)
  · rw [c1]; exact in0.act (put_defers a' _ _)
  · intro q hq q2 q3 q4
    obtain ⟨y1, y2, y3⟩ := (recs_n hB).2 q hq
    have := maker_grows y1 q2 q3
    rw [e2 _ y2 (by omega)]
    refine I.mkd q (by rw [hs]; simp [hq]) q2 q3 (q4.resolve_right fun e => ?_)
    obtain ⟨B1, B2, hB2⟩ := List.append_of_mem hq
    exact (K.later (x := r.x) (y := q.x) (A := (pre ++ A).map (·.x)) (B := B1.map (·.x)) (C := B2.map (·.x) ++ E) (by rw [hDr, hB2]; simp)).2 e.symm
  · intro b Bk hb e
    rw [r2 b hb] at e
    obtain ⟨q, q1, q2, q3, q4, q5⟩ := inB b Bk (by omega) e
    exact ⟨q, q1, q2, q3, .inl q4, q5⟩
  · intro q hq hl d hd
    rw [hall] at hq
    by_cases hql : lst q.x.i
    · obtain ⟨v2, y1, y2⟩ := I.val q hq hql d hd
      exact ⟨v2, by rw [put_at (hdst q hq hql d hd), ha]; exact y1, y2.mono (cut_mono hle _)⟩
    · have hqr : q = r := I.uniq K hq hrm (hl.resolve_left hql)
      subst hqr
      exact ⟨v', by rw [hd]; exact put_self_at (hlt d hd), by rw [c1]; exact hv⟩
  · intro d hd
    rw [hall] at hd
    rw [put_at (hd r hrm (.inr rfl)), ha]
    exact I.un d fun q hq hl => hd q hq (.inl hl)

theorem rec_cases {cx : Cx} {r : Rec} (h : RecOK P ng all cx r) :
    (r.sk = true ∧ wanted all r.t r.x.o.guard = false ∧ r.v = undef ∧ r.w2 = r.w) ∨
    (r.sk = false ∧ wanted all r.t r.x.o.guard = true ∧ (r.x.kd = 0 ∨ r.x.kd = 1) ∧ quiet r.x.o.op P r.t r.w.h = some r.v ∧ r.w2 = r.w) ∨
    (r.sk = false ∧ wanted all r.t r.x.o.guard = true ∧ r.x.kd = 2 ∧ ∃ v ob, NewVal P ng r.x.o r.t v ob ∧ r.v = v r.w.n ∧ r.w2 = W.mk r.w.d r.w.u (r.w.h.set .dead ob r.w.n) (r.w.n + 1)) ∨
    (r.sk = false ∧ wanted all r.t r.x.o.guard = true ∧ (r.x.kd ≠ 0 ∧ r.x.kd ≠ 1 ∧ r.x.kd ≠ 2) ∧ OpTo P ng r.x.o cx r.t r.w (.ret r.v) r.w2) := by
  cases h with
  | skip hw => exact .inl ⟨rfl, hw, rfl, rfl⟩
  | look hw hk hq => exact .inr (.inl ⟨rfl, hw, hk, hq, rfl⟩)
  | made hw hk hn => exact .inr (.inr (.inl ⟨rfl, hw, hk, _, _, hn, rfl, rfl⟩))
  | act hw hk ho hn => exact .inr (.inr (.inr ⟨rfl, hw, hk, ho⟩))

/-- Any operation. -/
theorem Inv.step (hP : progOK ng P = true) (I : Inv P ng all M D E C pre suf ts ws lst ρ H a wd cs) (K : RecPlan all M D) (hc : ∀ o ∈ all.toList, operOK ng (ntm P C.cx.fn) o = true)
    (hL : looksOK P (hsOf (pre ++ suf) [C.W0]).length (hsOf (pre ++ suf) [C.W0]) (lsOf (pre ++ suf) []) = true)
    {r : Rec} (hr : r ∈ pre ++ suf) (hx : ¬ lst r.x.i) (hm : ∀ b, bitB (M r.x.i) b = true → lst b) (is : List Nat) (kk : List Item) :
    ∃ pre' suf' ts' ws' ρ1 H1 a1 wd1 cs1, Inv P ng all M D E C pre' suf' ts' ws' (fun i => lst i ∨ i = r.x.i) ρ1 H1 a1 wd1 cs1 ∧ pre' ++ suf' = pre ++ suf ∧
      Steps P (lone (C.b.atR a (.inRegion all (r.x.i :: is) :: kk)) cs wd) (lone (C.b.atR a1 (.inRegion all is :: kk)) cs1 wd1) := by
  have hrs : r ∈ suf := (List.mem_append.1 hr).resolve_left fun h => hx (I.pl r h)
  obtain ⟨A, B, hs⟩ := List.append_of_mem hrs
  have hrD := I.mem hr
  have hat := K.at' _ hrD
  have hDr : D = (pre ++ A).map (·.x) ++ r.x :: (B.map (·.x) ++ E) := by rw [I.dd, hs]; simp
  have hr2 := I.r2
  rw [hs] at hr2
  obtain ⟨t1, w1, hA, x2⟩ := recs_split hr2
  have hB : RecOK P ng all C.cx r ∧ r.t = t1 ∧ r.w = w1 := by
    cases x2 with
    | cons h1 h2 => exact ⟨h1, rfl, rfl⟩
  obtain ⟨hrok, et, ew⟩ := hB
  subst et ew
  obtain ⟨hO, hW⟩ := I.looks K hc hs hDr hA hx hm
  have hnd : r.x.kd ≠ 3 → ∀ c, r.x.o.op ≠ .defer c := fun h3 c e => h3 (by rw [K.kd _ hrD, e]; rfl)
  have h9 : r.x.kd ≤ 3 := by rw [K.kd _ hrD]; unfold kindOf; split <;> (try split) <;> omega
  rcases rec_cases hrok with ⟨hsk, hw, hv, hw2⟩ | ⟨hsk, hw, hk, hq, hw2⟩ | ⟨hsk, hw, hk, v, ob, hn, hv, hw2⟩ | ⟨hsk, hw, hk, ho⟩
  · have hstep : Steps P (lone (C.b.atR a (.inRegion all (r.x.i :: is) :: kk)) cs wd) (lone (C.b.atR (a.put r.x.o.dst undef) (.inRegion all is :: kk)) cs wd) := .one (skip_put hat (hW.trans hw))
    by_cases h3 : r.x.kd = 3
    · have hno := (I.no_act K hs hDr h3 hm).1
      have hi := I.at_act K hs hA hno
      obtain ⟨ρ1, H1, hI⟩ := I.acted K hc hs hA h3 hx hm (v' := undef) (by rw [hw2]; exact hi) rfl (by rw [hw2]; exact Grow.refl _ _ _ _ hi.hp.dom) (CsTo.refl _ _) (by rw [hv]; exact RV.undef _)
      exact ⟨_, _, _, _, ρ1, H1, _, _, _, hI, by rw [hs]; simp, hstep⟩
    · have hI := I.calm K hc hrs h3 (.inr hsk) hx hm (v' := undef) (by rw [hv]; exact RV.undef _)
      exact ⟨_, _, _, _, ρ, H, _, _, _, hI, rfl, hstep⟩
  · obtain ⟨v', y1, y2⟩ := I.look hP K hL hs hA hsk hk hq hx hm hO
    have hI := I.calm K hc hrs (by omega) (.inl (by omega)) hx hm (v' := v') (by rw [hw2]; exact y2)
    exact ⟨_, _, _, _, ρ, H, _, _, _, hI, rfl, .one (step_res (hnd (by omega)) hat (hW.trans hw) (.inl y1))⟩
  · obtain ⟨v', wd', ρ1, H1, y1, hI⟩ := I.made K hc hs hA hk hsk hn hv hw2 hx hm hO
    exact ⟨_, _, _, _, ρ1, H1, _, _, _, hI, rfl, .one (step_res (hnd (by omega)) hat (hW.trans hw) (.inl y1))⟩
  · have h3 : r.x.kd = 3 := by omega
    have hno := (I.no_act K hs hDr h3 hm).1
    have hi := I.at_act K hs hA hno
    obtain ⟨ρ', a', wd', cs', i1, i2, i3, i4, v', i5, i6⟩ := ho _ _ _ _ _ _ _ hi hO all r.x.i is kk hat (hW.trans hw)
    obtain ⟨ρ1, H1, hI⟩ := I.acted K hc hs hA h3 hx hm i1 i2 i3 i4 i5
    exact ⟨_, _, _, _, ρ1, H1, _, _, _, hI, by rw [hs]; simp, i6⟩

end
end Go.Ex

/- Regions that draw their order. Conditions: the program's text is as 'progOK' asks; its orders are mixed. -/
namespace Go.Ex

/-! ### the plan -/

theorem map_split {α β : Type} {f : α → β} {l : List α} {A : List β} {x : β} {B : List β} (h : l.map f = A ++ x :: B) : ∃ A' x' B', l = A' ++ x' :: B' ∧ A = A'.map f ∧ x = f x' ∧ B = B'.map f := by
  obtain ⟨A', r, e1, e2, e3⟩ := List.map_eq_append_iff.1 h
  obtain ⟨x', B', e4, e5, e6⟩ := List.map_eq_cons_iff.1 e3
  exact ⟨A', x', B', by rw [e1, e4], e2.symm, e5.symm, e6.symm⟩

theorem sees_bit {all : Array Oper} {M : Nat → Nat} {x : XOp} (h : XOK all M x) {d : Nat} (hd : Sees all x.o d) : bitB x.lk d = true := by
  rcases hd with hd | ⟨g, b, h1, h2⟩
  · exact h.lk d hd
  · exact h.glk g b d h1 h2

theorem count_map {S : List XOp} {f : XOp → DOp} (hf : ∀ x, (f x).i = x.i ∧ (f x).kd = x.kd) (p : Nat → Bool) : ((S.filter fun x => Nat.beq x.kd 3).filter fun c => p c.i).length = (S.map f).countP fun c => Nat.beq c.kd 3 && p c.i := by
  rw [List.filter_filter, ← List.countP_eq_length_filter, List.countP_map]
  congr 1
  funext c
  simp only [Function.comp, (hf c).1, (hf c).2]
  exact Bool.and_comm _ _

theorem PlanOK.recPlan {ops : Array Oper} {M : Nat → Nat} {xl S : List XOp} (h : PlanOK ops M xl S) : RecPlan ops M (S.map (dopOf xl (S.filter fun x => Nat.beq x.kd 3))) := by
  have hf : ∀ x, (dopOf xl (S.filter fun x => Nat.beq x.kd 3) x).i = x.i ∧ (dopOf xl (S.filter fun x => Nat.beq x.kd 3) x).kd = x.kd := fun x => ⟨rfl, rfl⟩
  have hm : ∀ x ∈ xl, x.m = M x.i := fun x hx => (h.ok x hx).m
  refine ⟨?_, ?_, ?_, ?_, ?_, ?_, ?_, ?_, ?_⟩
  · intro x hx
    obtain ⟨y, hy, rfl⟩ := List.mem_map.1 hx
    exact h.at' y (h.sub y hy)
  · intro x hx
    obtain ⟨y, hy, rfl⟩ := List.mem_map.1 hx
    exact (h.ok y (h.sub y hy)).kd
  · intro x hx b hb
    obtain ⟨y, hy, rfl⟩ := List.mem_map.1 hx
    exact (h.ok y (h.sub y hy)).bits b (by rw [hm y (h.sub y hy)]; exact hb)
  · intro A x B e
    obtain ⟨A', x', B', e1, rfl, rfl, rfl⟩ := map_split e
    have hs := h.sig
    rw [e1] at hs
    obtain ⟨o1, o2⟩ := sig_ord hs
    refine ⟨fun b hb => ?_, fun y hy => ?_⟩
    · obtain ⟨y, hy, e2⟩ := o1 b (by rw [hm x' (h.sub x' (by rw [e1]; simp))]; exact hb)
      exact ⟨_, List.mem_map.2 ⟨y, hy, rfl⟩, e2⟩
    · obtain ⟨y', hy', rfl⟩ := List.mem_map.1 hy
      exact o2 y' hy'
  · intro A T x B e hk hT y hy
    obtain ⟨A', r, e1, e2, e3⟩ := List.map_eq_append_iff.1 e
    obtain ⟨T', x', B', e4, rfl, rfl, rfl⟩ := map_split e3
    have hs := h.sig
    rw [e1, e4] at hs
    obtain ⟨y', hy', rfl⟩ := List.mem_map.1 hy
    have := sig_next hs hk (fun z hz => hT _ (List.mem_map.2 ⟨z, hz, rfl⟩)) y' hy'
    rw [hm x' (h.sub x' (by rw [e1, e4]; simp))] at this
    exact this
  · intro x hx y hy d hd hs
    obtain ⟨x', hx', rfl⟩ := List.mem_map.1 hx
    obtain ⟨y', hy', rfl⟩ := List.mem_map.1 hy
    have := h.pair x' (h.sub x' hx') y' (h.sub y' hy') d hd (hs.imp (fun q => sees_bit (h.ok y' (h.sub y' hy')) q) id)
    rw [hm x' (h.sub x' hx'), hm y' (h.sub y' hy')] at this
    exact this
  · intro x hx y hy kx ky
    obtain ⟨x', hx', rfl⟩ := List.mem_map.1 hx
    obtain ⟨y', hy', rfl⟩ := List.mem_map.1 hy
    have := h.act x' (h.sub x' hx') y' (h.sub y' hy') kx ky
    rw [hm x' (h.sub x' hx'), hm y' (h.sub y' hy')] at this
    exact this
  · intro x hx
    obtain ⟨x', hx', rfl⟩ := List.mem_map.1 hx
    rw [← count_map hf (fun i => bitB (M (dopOf xl (S.filter fun x => Nat.beq x.kd 3) x').i) i)]
    show ((S.filter fun x => Nat.beq x.kd 3).filter fun c => bitB x'.m c.i).length = _
    rw [hm x' (h.sub x' hx')]
    rfl
  · intro x hx
    obtain ⟨x', hx', rfl⟩ := List.mem_map.1 hx
    have e := count_map hf (S := S) (fun i => !bitB (M i) x'.i && !Nat.beq i x'.i)
    show ((S.filter fun x => Nat.beq x.kd 3).filter fun c => !bitB c.m x'.i && !Nat.beq c.i x'.i).length = _
    refine Eq.trans (congrArg List.length (List.filter_congr fun c hc => ?_)) e
    rw [hm c (h.sub c (List.mem_filter.1 hc).1)]

theorem PlanOK.solo {ops : Array Oper} {M : Nat → Nat} {xl S : List XOp} (h : PlanOK ops M xl S) {x : DOp} (hx : x ∈ S.map (dopOf xl (S.filter fun x => Nat.beq x.kd 3))) (hs : x.solo = true) {i : Nat} (hi : i < ops.size) :
    x.i = i ∨ bitB (M x.i) i = true ∨ bitB (M i) x.i = true := by
  obtain ⟨x', hx', rfl⟩ := List.mem_map.1 hx
  obtain ⟨y, hy, rfl⟩ := h.cov i hi
  have hs : (xl.all fun y => Nat.beq x'.i y.i || bitB x'.m y.i || bitB y.m x'.i) = true := hs
  have := List.all_eq_true.1 hs y hy
  rw [(h.ok x' (h.sub x' hx')).m, (h.ok y hy).m] at this
  simp only [Bool.or_eq_true] at this
  rcases this with (e | e) | e
  · exact .inl (beq_eq e)
  · exact .inr (.inl e)
  · exact .inr (.inr e)

theorem nodup_len : ∀ {l m : List Nat}, l.Nodup → (∀ x ∈ l, x ∈ m) → l.length ≤ m.length := by
  intro l
  induction l with
  | nil => intro m _ _; exact Nat.zero_le _
  | cons x l ih =>
    intro m hn hs
    obtain ⟨h1, h2⟩ := List.nodup_cons.1 hn
    have hx := hs x (by simp)
    have := ih (m := m.erase x) h2 fun y hy => (List.mem_erase_of_ne (fun e => h1 (by rw [← e]; exact hy))).2 (hs y (by simp [hy]))
    rw [List.length_erase_of_mem hx] at this
    have : 0 < m.length := List.length_pos_of_mem hx
    simp only [List.length_cons]; omega

/-- Every operation is in the one order. -/
theorem PlanOK.all {ops : Array Oper} {M : Nat → Nat} {xl S : List XOp} (h : PlanOK ops M xl S) {i : Nat} (hi : i < ops.size) : ∃ x ∈ S.map (dopOf xl (S.filter fun x => Nat.beq x.kd 3)), x.i = i := by
  have K := h.recPlan
  generalize hD : S.map (dopOf xl (S.filter fun x => Nat.beq x.kd 3)) = D at K
  have hlen : D.length = ops.size := by rw [← hD, List.length_map]; exact h.len
  have hnd : (D.map (·.i)).Nodup := by
    unfold List.Nodup
    rw [List.pairwise_map]
    have key : ∀ (X Y : List DOp), D = X ++ Y → Y.Pairwise fun a b => a.i ≠ b.i := by
      intro X Y
      induction Y generalizing X with
      | nil => intro _; exact .nil
      | cons y Y ih =>
        intro e
        refine .cons (fun z hz => ?_) (ih (X ++ [y]) (by rw [e]; simp))
        obtain ⟨Y1, Y2, rfl⟩ := List.append_of_mem hz
        exact (K.later e).2
    exact key [] D rfl
  refine Classical.byContradiction fun hno => ?_
  have hsub : ∀ x ∈ i :: D.map (·.i), x ∈ List.range ops.size := by
    intro x hx
    rcases List.mem_cons.1 hx with rfl | hx
    · exact List.mem_range.2 hi
    · obtain ⟨y, hy, rfl⟩ := List.mem_map.1 hx
      have := K.at' y hy
      rcases Nat.lt_or_ge y.i ops.size with h1 | h1
      · exact List.mem_range.2 h1
      · rw [Array.getElem?_eq_none h1] at this; cases this
  have := nodup_len (List.nodup_cons.2 ⟨fun hx => hno (let ⟨y, hy, e⟩ := List.mem_map.1 hx; ⟨y, hy, e⟩), hnd⟩) hsub
  simp at this
  omega

/-! ### a schedule -/

theorem ready_mem {ops : Array Oper} {listed : Array Bool} {i : Nat} (h : i ∈ Region.ready .any ops listed) :
    i < ops.size ∧ listed.getD i true = false ∧ ∃ o, ops[i]? = some o ∧ ∀ e ∈ o.after.toList, always e = true → listed.getD e.on false = true := by
  unfold Region.ready at h
  obtain ⟨h1, h2⟩ := List.mem_filter.1 h
  obtain ⟨h3, h4⟩ := Bool.and_eq_true_iff.1 h2
  refine ⟨List.mem_range.1 h1, by simpa using h3, ?_⟩
  cases ho : ops[i]? with
  | none => rw [ho] at h4; cases h4
  | some o =>
    rw [ho] at h4
    refine ⟨o, rfl, fun e he ha => ?_⟩
    have h5 : (o.after.all fun e => !Region.binds .any e || listed.getD e.on false) = true := h4
    rw [Array.all_eq_true_iff_forall_mem] at h5
    have := h5 e (Array.mem_toList_iff.1 he)
    unfold always at ha
    rw [ha] at this
    simpa using this

theorem ready_mk {ops : Array Oper} {listed : Array Bool} {i : Nat} {o : Oper} (hi : ops[i]? = some o) (h : listed.getD i true = false) (he : ∀ e ∈ o.after.toList, always e = true → listed.getD e.on false = true) : i ∈ Region.ready .any ops listed := by
  have hlt : i < ops.size := by
    rcases Nat.lt_or_ge i ops.size with h1 | h1
    · exact h1
    · rw [Array.getElem?_eq_none h1] at hi; cases hi
  unfold Region.ready
  refine List.mem_filter.2 ⟨List.mem_range.2 hlt, ?_⟩
  rw [h, hi]
  show (o.after.all fun e => !Region.binds .any e || listed.getD e.on false) = true
  rw [Array.all_eq_true_iff_forall_mem]
  intro e hm
  cases ha : Region.binds .any e with
  | false => rfl
  | true => simpa using he e (Array.mem_toList_iff.2 hm) ha

/-- Nothing is ready: all has been. -/
theorem ready_nil {ops : Array Oper} {listed : Array Bool} (hs : listed.size = ops.size) (hedge : ∀ i o, ops[i]? = some o → ∀ e ∈ o.after.toList, always e = true → e.on < i) (h : Region.ready .any ops listed = []) :
    ∀ n i, i < n → i < ops.size → listed.getD i false = true := by
  intro n
  induction n with
  | zero => intro i hi; omega
  | succ n ih =>
    intro i hi hlt
    rcases Nat.lt_or_ge i n with h1 | h1
    · exact ih i h1 hlt
    · have : i = n := by omega
      subst this
      have hlt' : i < listed.size := by omega
      have g1 : listed.getD i true = listed[i] := by simp [hlt']
      have g2 : listed.getD i false = listed[i] := by simp [hlt']
      cases e : listed.getD i true with
      | true => rw [g2, ← g1]; exact e
      | false =>
        have hm := ready_mk (ops := ops) (Array.getElem?_eq_getElem hlt) e fun ed hed ha => by
          have := hedge i _ (Array.getElem?_eq_getElem hlt) ed hed ha
          exact ih ed.on this (by omega)
        rw [h] at hm
        simp at hm

def unlisted (n : Nat) (listed : Array Bool) : Nat := (List.range n).countP fun i => !listed.getD i true

section
variable {P : Program} {ng : Nat} {all : Array Oper} {M : Nat → Nat} {D E : List DOp} {C : Cfg}

theorem Inv.lst_congr {pre suf : List Rec} {ts : Fr} {ws : W} {lst lst' : Nat → Prop} {ρ : Inj} {H : Heap} {a : Act} {wd : World} {cs : List Frame} (I : Inv P ng all M D E C pre suf ts ws lst ρ H a wd cs) (h : ∀ i, lst i ↔ lst' i) :
    Inv P ng all M D E C pre suf ts ws lst' ρ H a wd cs := by
  have : lst = lst' := funext fun i => propext (h i)
  rw [← this]; exact I

theorem draw_go {Goal : Machine → List Item → Prop} (hG : ∀ m m1 kk, Steps P m m1 → Goal m1 kk → Goal m kk) (hP : progOK ng P = true) (K : RecPlan all M D) (hc : ∀ o ∈ all.toList, operOK ng (ntm P C.cx.fn) o = true)
    (hedge : ∀ i o, all[i]? = some o → ∀ e ∈ o.after.toList, always e = true → e.on < i)
    (hbits : ∀ i o, all[i]? = some o → ∀ b, bitB (M i) b = true → ∃ e ∈ o.after.toList, always e = true ∧ (b = e.on ∨ bitB (M e.on) b = true))
    {R : List Rec} (hL : looksOK P (hsOf R [C.W0]).length (hsOf R [C.W0]) (lsOf R []) = true)
    (hnext : ∀ pre suf ts ws lst ρ H a wd cs, pre ++ suf = R → Inv P ng all M D E C pre suf ts ws lst ρ H a wd cs → ∀ i, i < all.size → ¬ lst i → (∀ b, bitB (M i) b = true → lst b) →
      (∃ r ∈ R, r.x.i = i) ∨ ∀ is kk, Goal (lone (C.b.atR a (.inRegion all (i :: is) :: kk)) cs wd) kk)
    (hend : ∀ pre suf ts ws lst ρ H a wd cs, pre ++ suf = R → Inv P ng all M D E C pre suf ts ws lst ρ H a wd cs → (∀ i, i < all.size → lst i) → ∀ kk, Goal (lone (C.b.atR a (.inRegion all [] :: kk)) cs wd) kk) :
    ∀ (fuel t : Nat) (listed : Array Bool) (pre suf : List Rec) (ts : Fr) (ws : W) (ρ : Inj) (H : Heap) (a : Act) (wd : World) (cs : List Frame), pre ++ suf = R → listed.size = all.size →
      Inv P ng all M D E C pre suf ts ws (fun i => listed.getD i false = true) ρ H a wd cs → unlisted all.size listed ≤ fuel →
      ∀ kk, Goal (lone (C.b.atR a (.inRegion all (Region.linearise.go .any all fuel t listed []) :: kk)) cs wd) kk := by
  have swap : ∀ {listed : Array Bool} {i : Nat}, i < listed.size → listed.getD i true = listed.getD i false := by
    intro listed i h
    simp [h]
  have finish : ∀ {listed : Array Bool} {pre suf : List Rec} {ts : Fr} {ws : W} {ρ : Inj} {H : Heap} {a : Act} {wd : World} {cs : List Frame}, pre ++ suf = R → listed.size = all.size →
      Inv P ng all M D E C pre suf ts ws (fun i => listed.getD i false = true) ρ H a wd cs → (∀ i, i < all.size → listed.getD i false = true) → ∀ kk, Goal (lone (C.b.atR a (.inRegion all [] :: kk)) cs wd) kk :=
    fun hR hs I hl kk => hend _ _ _ _ _ _ _ _ _ _ hR I hl kk
  intro fuel
  induction fuel with
  | zero =>
    intro t listed pre suf ts ws ρ H a wd cs hR hs I hu kk
    refine finish hR hs I (fun i hi => ?_) kk
    have h0 : unlisted all.size listed = 0 := by omega
    have := List.countP_eq_zero.1 h0 i (List.mem_range.2 hi)
    rw [← swap (by omega)]
    simpa using this
  | succ fuel ih =>
    intro t listed pre suf ts ws ρ H a wd cs hR hs I hu kk
    simp only [Region.linearise.go]
    change Goal (lone (C.b.atR a (.inRegion all (match (Region.ready .any all listed)[t % (Region.ready .any all listed).length]? with
      | some i => Region.linearise.go .any all fuel (t / (Region.ready .any all listed).length) (listed.setIfInBounds i true) [i]
      | none => [].reverse) :: kk)) cs wd) kk
    cases hi : (Region.ready .any all listed)[t % (Region.ready .any all listed).length]? with
    | none =>
      have hnil : Region.ready .any all listed = [] := by
        cases hr : Region.ready .any all listed with
        | nil => rfl
        | cons x xs =>
          rw [hr] at hi
          have hlt : t % (x :: xs).length < (x :: xs).length := Nat.mod_lt _ (by simp)
          simp at hi
          simp at hlt
          omega
      exact finish hR hs I (fun i h => ready_nil hs hedge hnil (i + 1) i (by omega) h) kk
    | some i =>
      simp only []
      rw [linearise_go_acc, List.reverse_singleton, List.singleton_append]
      obtain ⟨r1, r2, o, r3, r4⟩ := ready_mem (List.mem_of_getElem? hi)
      have hnl : ¬ listed.getD i false = true := by
        rw [← swap (by omega), r2]; exact Bool.false_ne_true
      have hm : ∀ b, bitB (M i) b = true → listed.getD b false = true := by
        intro b hb
        obtain ⟨e, e1, e2, e3⟩ := hbits i o r3 b hb
        have h1 := r4 e e1 e2
        rcases e3 with rfl | e3
        · exact h1
        · exact I.closed _ h1 _ e3
      rcases hnext _ _ _ _ _ _ _ _ _ _ hR I i r1 hnl hm with ⟨r, hr, rfl⟩ | hg
      · obtain ⟨pre', suf', ts', ws', ρ1, H1, a1, wd1, cs1, I1, hR1, hst⟩ := I.step hP K hc (by rw [hR]; exact hL) (by rw [hR]; exact hr) hnl hm
          (Region.linearise.go .any all fuel (t / (Region.ready .any all listed).length) (listed.setIfInBounds r.x.i true) []) kk
        have hs1 : (listed.setIfInBounds r.x.i true).size = all.size := by simpa using hs
        have hget : ∀ j d, (listed.setIfInBounds r.x.i true).getD j d = if r.x.i = j then true else listed.getD j d := by
          intro j d
          by_cases hj : j < listed.size
          · have hj' : j < (listed.setIfInBounds r.x.i true).size := by simpa using hj
            simp [hj, Array.getElem_setIfInBounds]
          · have hne : r.x.i ≠ j := by omega
            simp [hj, hne]
        refine hG _ _ _ hst (ih _ _ pre' suf' ts' ws' ρ1 H1 a1 wd1 cs1 (hR1.trans hR) hs1 (I1.lst_congr fun j => ?_) ?_ kk)
        · rw [hget]
          by_cases hj : r.x.i = j
          · simp [hj]
          · rw [if_neg hj]
            exact ⟨fun h => h.resolve_right fun e => hj e.symm, .inl⟩
        · have : unlisted all.size (listed.setIfInBounds r.x.i true) < unlisted all.size listed :=
            countP_lt (fun j _ h => by
              rw [hget] at h
              by_cases hj : r.x.i = j
              · rw [if_pos hj] at h; cases h
              · rw [if_neg hj] at h; exact h) (List.mem_range.2 r1) (by rw [hget, if_pos rfl]; rfl) (by rw [r2]; rfl)
          omega
      · exact hg _ kk

end
end Go.Ex

/- Regions that draw their order come to what the executor tells. Conditions: the program's text is as 'progOK' asks; its orders are mixed. -/
namespace Go.Ex

section
variable {P : Program} {ng : Nat} {all : Array Oper} {M : Nat → Nat} {D E : List DOp} {C : Cfg}
variable {pre suf : List Rec} {ts : Fr} {ws : W} {lst : Nat → Prop} {ρ : Inj} {H : Heap} {a : Act} {wd : World} {cs : List Frame}

/-- All that the executor did has been. -/
theorem Inv.all_done (I : Inv P ng all M D E C pre suf ts ws lst ρ H a wd cs) (K : RecPlan all M D) (hl : ∀ r ∈ pre ++ suf, lst r.x.i) :
    In P ng (ρ.cut C.w1.n) C.base C.w00 C.b a wd cs C.cx C.t1 C.w1 ∧ Grow C.ρ0 C.W0.h C.W0.n C.wd0 (ρ.cut C.w1.n) C.w1.h C.w1.n wd := by
  have hno : ∀ q ∈ suf, q.x.kd ≠ 3 := fun q hq h3 => I.sl q hq h3 (hl q (List.mem_append_right _ hq))
  have hs : suf = suf ++ [] := by simp
  have h0 := I.at_act K hs I.r2 hno
  have hall := recs_app I.r1 I.r2
  have hW0 : C.W0.n ≤ ws.n := (recs_n I.r1).1
  have hkA : ∀ q ∈ suf, q.x.kd ≠ 3 ∧ q.x.kd = kindOf q.x.o.op := fun q hq => ⟨hno q hq, K.kd _ (I.mem (List.mem_append_right _ hq))⟩
  obtain ⟨_, _, s4, _⟩ := seg_ok I.r2 hkA
  refine ⟨h0.toIn ⟨by rw [I.sz]; exact I.tm0.sz, fun d v hv => ?_⟩, (I.gr _ (recs_n I.r2).1).congr fun b hb => by rw [s4 b (by omega), I.hh b (by omega)]⟩
  by_cases hw : ∃ y ∈ pre ++ suf, y.x.o.dst = some d
  · obtain ⟨y, hy, hyd⟩ := hw
    obtain ⟨A1, A2, hsp⟩ := List.append_of_mem hy
    have hDy : D = A1.map (·.x) ++ y.x :: (A2.map (·.x) ++ E) := by rw [I.dd, hsp]; simp
    obtain ⟨v', q1, q2⟩ := I.val y hy (hl y hy) d hyd
    rw [hv] at q1; injection q1 with q1; subst q1
    have hb := ((recs_n hall).2 y hy).2.2
    rw [hsp] at hall
    have h2 : fget C.t1 d = y.v := recs_write hall hyd fun z hz e => by
      obtain ⟨B1, B2, hz2⟩ := List.append_of_mem hz
      have hDz : D = A1.map (·.x) ++ y.x :: (B1.map (·.x) ++ z.x :: (B2.map (·.x) ++ E)) := by rw [hDy, hz2]; simp
      obtain ⟨_, l4⟩ := K.later hDz
      rcases K.pair y.x (by rw [hDz]; simp) z.x (by rw [hDz]; simp) d hyd (.inr e) with h | ⟨h, _⟩
      · exact l4 h
      · exact h e
    rw [h2]
    exact q2.mono (cut_le hb)
  · have hno' : ∀ r ∈ pre ++ suf, r.x.o.dst ≠ some d := fun r hr e => hw ⟨r, hr, e⟩
    rw [recs_slot hall hno']
    rw [I.un d fun r hr _ => hno' r hr] at hv
    exact (I.tm0.tm d v hv).mono (cut_le (recs_n hall).1)

theorem HeapR.later {base : Nat} {w0 : World} {h : Heap} {n m : Nat} (r : HeapR P ng ρ base w0 h n wd) (hm : n ≤ m) : HeapR P ng ρ base w0 h m wd :=
  ⟨fun b hb => r.dom b (by omega), r.obj, r.inj, r.below, r.size, r.glob, by have := r.ngn; omega⟩

theorem cut_dom {n m : Nat} (h : ∀ b, n ≤ b → ρ b = none) (hm : n ≤ m) : ρ.cut m = ρ := by
  funext b
  rcases Nat.lt_or_ge b m with h1 | h1
  · exact cut_lt h1
  · rw [cut_ge h1, h b (by omega)]

theorem drew_ok (hP : progOK ng P = true) (hmix : P.follows .mixedOrders = true) {ops : Array Oper} {L : List DOp} (hpl : plan ops = some L) {cx : Cx} {t : Fr} {w : W} {k : KX} (hD : Drew P ng ops cx L t w [w] [] k) (id : Nat) :
    ∃ x t' w', k x t' w' = true ∧ CodeTo P ng (.region id ops true) cx t w x t' w' := by
  obtain ⟨M, xl, S, hp, hL⟩ := plan_ok hpl
  have K : RecPlan ops M L := by rw [hL]; exact hp.recPlan
  have hsolo : ∀ x ∈ L, x.solo = true → ∀ i, i < ops.size → x.i = i ∨ bitB (M x.i) i = true ∨ bitB (M i) x.i = true := by
    intro x hx hs i hi
    rw [hL] at hx
    exact hp.solo hx hs hi
  have hcov : ∀ i, i < ops.size → ∃ x ∈ L, x.i = i := by
    intro i hi
    rw [hL]; exact hp.all hi
  have hxl : ∀ i o, ops[i]? = some o → ∃ x, x.i = i ∧ x.o = o ∧ XOK ops M x := by
    intro i o ho
    have hlt : i < ops.size := by
      rcases Nat.lt_or_ge i ops.size with h1 | h1
      · exact h1
      · rw [Array.getElem?_eq_none h1] at ho; cases ho
    obtain ⟨x, h1, h2⟩ := hp.cov i hlt
    have h3 := hp.at' x h1
    rw [h2, ho] at h3
    exact ⟨x, h2, by injection h3 with h3; exact h3.symm, hp.ok x h1⟩
  have hedge : ∀ i o, ops[i]? = some o → ∀ e ∈ o.after.toList, always e = true → e.on < i := by
    intro i o ho e he ha
    obtain ⟨x, h1, h2, h3⟩ := hxl i o ho
    rw [← h1]; exact h3.on e (by rw [h2]; exact he) ha
  have hbits : ∀ i o, ops[i]? = some o → ∀ b, bitB (M i) b = true → ∃ e ∈ o.after.toList, always e = true ∧ (b = e.on ∨ bitB (M e.on) b = true) := by
    intro i o ho b hb
    obtain ⟨x, h1, h2, h3⟩ := hxl i o ho
    have := h3.bits b (by rw [h3.m, h1]; exact hb)
    rw [h2] at this; exact this
  -- how it begins
  have start : ∀ {R : List Rec} {E : List DOp} {t1 : Fr} {w1 : W}, R.map (·.x) ++ E = L → RecsOK P ng ops cx R t w t1 w1 → ∀ {ρ : Inj} {base : Nat} {w0 : World} {b : Frame} {a : Act} {wd : World} {cs : List Frame}, In P ng ρ base w0 b a wd cs cx t w →
      Inv P ng ops M L E ⟨t, w, a, wd, cs, ρ, base, w0, b, cx, t1, w1⟩ [] R t w (fun i => (Array.replicate ops.size false).getD i false = true) ρ w.h a { wd with drawn := wd.drawn + 1 } cs := by
    intro R E t1 w1 hR hrecs ρ base w0 b a wd cs hI
    have hf : ∀ i, ¬ (Array.replicate ops.size false).getD i false = true := by
      intro i
      by_cases h : i < ops.size <;> simp [h]
    refine ⟨hR.symm, .nil t w, hrecs, .inl rfl, fun r hr => by simp at hr, fun r _ _ h => hf _ h, fun i h => absurd h (hf i), fun i h => absurd h (hf i), ?_, ?_, ?_, CsTo.refl _ _, fun _ _ => rfl, fun r _ _ _ h => absurd h (hf _), ?_, fun r _ h => absurd h (hf _), fun _ _ => rfl, ?_, rfl⟩
    · dsimp only
      rw [cut_dom hI.hp.dom (Nat.le_refl _)]
      exact ⟨hI.fn, hI.kind, hI.rd, hI.rdf, hI.hp.drawn _, hI.dr, hI.ur, hI.fnd⟩
    · intro m hm
      rw [cut_dom hI.hp.dom hm]
      exact (hI.hp.later hm).drawn _
    · intro m hm
      rw [cut_dom hI.hp.dom hm]
      exact ⟨hm, fun _ _ => rfl, fun b B hb e => (by rw [hI.hp.dom b hb] at e; cases e), fun _ _ _ => rfl, Nat.le_refl _, fun _ _ e => e, rfl⟩
    · intro b B hb e
      rw [hI.hp.dom b hb] at e; cases e
    · dsimp only
      rw [cut_dom hI.hp.dom (Nat.le_refl _)]
      exact hI.tm
  have unl : unlisted ops.size (Array.replicate ops.size false) ≤ ops.size := by
    unfold unlisted
    exact Nat.le_trans List.countP_le_length (by simp)
  rcases hD with ⟨R, t', w', h1, h2, h3, h4⟩ | ⟨R, d, rest, c, t1, w1, w2, h1, h2, h3, h4, h5, h6, h7⟩
  · refine ⟨.normal, t', w', h3, fun hc b kk ρ base w0 a wd cs hI => ?_⟩
    have hc' : ∀ o ∈ ops.toList, operOK ng (ntm P cx.fn) o = true := List.all_eq_true.1 hc
    have I0 := start (E := []) (by simpa using h1) h2 hI
    have go := draw_go (C := ⟨t, w, a, wd, cs, ρ, base, w0, b, cx, t', w'⟩) (E := []) (R := R)
      (Goal := fun m kk => ∃ ρ' a' wd' cs', In P ng ρ' base w0 b a' wd' cs' cx t' w' ∧ Grow ρ w.h w.n wd ρ' w'.h w'.n wd' ∧ CsTo cx.df cs cs' ∧ Arr P m b kk cs' ρ' a' wd' .normal)
      (fun m m1 kk hst ⟨ρ', a', wd', cs', g1, g2, g3, g4⟩ => ⟨ρ', a', wd', cs', g1, g2, g3, g4.of_steps hst⟩) hP K hc' hedge hbits h4 ?_ ?_
      ops.size (wd.tape wd.drawn (.order b.fn id)) _ [] R t w ρ w.h a _ cs rfl (by simp) I0 unl kk
    · have hst : step P (lone (b.atR a (.code (.region id ops true) :: kk)) cs wd) = .next (lone (b.atR a (.inRegion ops (Region.schedule (P.follows .mixedOrders) ops (wd.tape wd.drawn (.order b.fn id))) :: kk)) cs { wd with drawn := wd.drawn + 1 }) := stepR_region_draw
      have hsch : ∀ tt, Region.schedule (P.follows .mixedOrders) ops tt = Region.linearise.go .any ops ops.size tt (Array.replicate ops.size false) [] := by
        intro tt; simp only [Region.schedule, hmix, Bool.true_or, if_true]; rfl
      rw [hsch] at hst
      obtain ⟨ρ', a', wd', cs', g1, g2, g3, g4⟩ := go
      exact ⟨ρ', a', wd', cs', g1, g2, g3, g4.of_steps (.one hst)⟩
    · intro pre suf ts ws lst ρ1 H a1 wd1 cs1 hR I i hi _ _
      obtain ⟨x, hx1, hx2⟩ := hcov i hi
      rw [← h1] at hx1
      obtain ⟨r, hr, rfl⟩ := List.mem_map.1 hx1
      exact .inl ⟨r, hr, hx2⟩
    · intro pre suf ts ws lst ρ1 H a1 wd1 cs1 hR I hall kk
      obtain ⟨g1, g2⟩ := I.all_done K fun r hr => hall _ (by
        have := K.at' _ (I.mem hr)
        rcases Nat.lt_or_ge r.x.i ops.size with h1 | h1
        · exact h1
        · rw [Array.getElem?_eq_none h1] at this; cases this)
      exact ⟨_, a1, wd1, cs1, g1, g2, I.cst, .one stepR_region_end⟩
  · refine ⟨.panic c, t1, w2, h7, fun hc b kk ρ base w0 a wd cs hI => ?_⟩
    have hc' : ∀ o ∈ ops.toList, operOK ng (ntm P cx.fn) o = true := List.all_eq_true.1 hc
    have I0 := start (E := d :: rest) h1.symm h2 hI
    have hdL : d ∈ L := by rw [h1]; simp
    have hdi : d.i < ops.size := by
      have := K.at' _ hdL
      rcases Nat.lt_or_ge d.i ops.size with h1 | h1
      · exact h1
      · rw [Array.getElem?_eq_none h1] at this; cases this
    have hdR : ∀ r ∈ R, r.x.i ≠ d.i ∧ bitB (M r.x.i) d.i = false := by
      intro r hr
      obtain ⟨A, B, hAB⟩ := List.append_of_mem hr
      obtain ⟨l1, l2⟩ := K.later (x := r.x) (y := d) (A := A.map (·.x)) (B := B.map (·.x)) (C := rest) (by rw [h1, hAB]; simp)
      exact ⟨l2, l1⟩
    have go := draw_go (C := ⟨t, w, a, wd, cs, ρ, base, w0, b, cx, t1, w1⟩) (E := d :: rest) (R := R)
      (Goal := fun m kk => ∃ ρ' a' wd' cs', In P ng ρ' base w0 b a' wd' cs' cx t1 w2 ∧ Grow ρ w.h w.n wd ρ' w2.h w2.n wd' ∧ CsTo cx.df cs cs' ∧ Arr P m b kk cs' ρ' a' wd' (.panic c))
      (fun m m1 kk hst ⟨ρ', a', wd', cs', g1, g2, g3, g4⟩ => ⟨ρ', a', wd', cs', g1, g2, g3, g4.of_steps hst⟩) hP K hc' hedge hbits h6 ?_ ?_
      ops.size (wd.tape wd.drawn (.order b.fn id)) _ [] R t w ρ w.h a _ cs rfl (by simp) I0 unl kk
    · have hst : step P (lone (b.atR a (.code (.region id ops true) :: kk)) cs wd) = .next (lone (b.atR a (.inRegion ops (Region.schedule (P.follows .mixedOrders) ops (wd.tape wd.drawn (.order b.fn id))) :: kk)) cs { wd with drawn := wd.drawn + 1 }) := stepR_region_draw
      have hsch : ∀ tt, Region.schedule (P.follows .mixedOrders) ops tt = Region.linearise.go .any ops ops.size tt (Array.replicate ops.size false) [] := by
        intro tt; simp only [Region.schedule, hmix, Bool.true_or, if_true]; rfl
      rw [hsch] at hst
      obtain ⟨ρ', a', wd', cs', g1, g2, g3, g4⟩ := go
      exact ⟨ρ', a', wd', cs', g1, g2, g3, g4.of_steps (.one hst)⟩
    · intro pre suf ts ws lst ρ1 H a1 wd1 cs1 hR I i hi hnl hm
      have hdn : ¬ lst d.i := fun h => by
        obtain ⟨r, hr, e⟩ := I.only _ h
        rw [hR] at hr
        exact (hdR r hr).1 e
      rcases hsolo d hdL h5 i hi with e | e | e
      · right
        subst e
        intro is kk
        have hlR : ∀ r ∈ pre ++ suf, lst r.x.i := by
          intro r hr
          have hri : r.x.i < ops.size := by
            have := K.at' _ (I.mem hr)
            rcases Nat.lt_or_ge r.x.i ops.size with h1 | h1
            · exact h1
            · rw [Array.getElem?_eq_none h1] at this; cases this
          rw [hR] at hr
          obtain ⟨n1, n2⟩ := hdR r hr
          rcases hsolo d hdL h5 _ hri with e | e | e
          · exact absurd e.symm n1
          · exact hm _ e
          · rw [n2] at e; cases e
        obtain ⟨g1, g2⟩ := I.all_done K hlR
        obtain ⟨hO, hW⟩ := I.looks K hc' (A := suf) (S := []) (by simp) I.dd I.r2 hdn hm
        obtain ⟨ρ', a', wd', cs', i1, i2, i3, i4, c', i5, i6⟩ := h4 _ _ _ _ _ _ _ g1.in0 hO ops d.i is kk (K.at' _ hdL) (hW.trans h3)
        exact ⟨ρ', a', wd', cs', i1.toIn (by rw [i2]; exact g1.tm.mono (i3.le g1.hp.dom)), g2.trans i3, I.cst.trans i4, _, c', i5, i6⟩
      · left
        obtain ⟨y, hy, e2⟩ := (K.ahead (R.map (·.x)) d rest h1).1 _ e
        obtain ⟨r, hr, rfl⟩ := List.mem_map.1 hy
        exact ⟨r, hr, e2⟩
      · exact absurd (hm _ e) hdn
    · intro pre suf ts ws lst ρ1 H a1 wd1 cs1 hR I hall kk
      exfalso
      obtain ⟨r, hr, e⟩ := I.only _ (hall d.i hdi)
      rw [hR] at hr
      exact (hdR r hr).1 e

theorem plan_kd {ops : Array Oper} {L : List DOp} (h : plan ops = some L) : ∀ d ∈ L, d.kd = kindOf d.o.op := by
  obtain ⟨M, xl, S, hp, hL⟩ := plan_ok h
  rw [hL]; exact hp.recPlan.kd

theorem draw_ok (hP : progOK ng P = true) (hmix : P.follows .mixedOrders = true) : DrawOK P ng := by
  intro lo hS id ops cx t w k hx
  have hx' : (match plan ops with
    | some l => xdraw P lo cx ops l t w [w] [] k
    | none => false) = true := hx
  cases hpl : plan ops with
  | none => rw [hpl] at hx'; cases hx'
  | some L =>
    rw [hpl] at hx'
    exact drew_ok hP hmix hpl (xdraw_ok hP hS L t w [w] [] k (plan_kd hpl) hx') id

/-- What the executor tells of a call is so. -/
theorem sound (hP : progOK ng P = true) (hmix : P.follows .mixedOrders = true) (fuel : Nat) : Sound P ng (run P fuel) := sound_run (draw_ok hP hmix) hP fuel

end
end Go.Ex

/- Calls whose outcome is known beforehand; a law's call. Conditions: the program's text is as 'progOK' asks; its orders are mixed. -/
namespace Go.Ex

abbrev Hook := FuncId → List Value → Heap → Option Value

noncomputable def Lo.hook (hk : Hook) (lo : Lo) : Lo :=
  { lo with call := fun f args df u h n k => Bool.rec (Option.rec (lo.call f args df u h n k) (fun v => k (.ret v) u h n) (hk f args h)) (lo.call f args df u h n k) df }

noncomputable def runH (P : Program) (hk : Hook) (fuel : Nat) : Lo := Nat.rec Lo.bot (fun _ lo => Lo.hook hk (Lo.next P lo)) fuel

/-- What is known beforehand is so. -/
def HookOK (P : Program) (ng : Nat) (hk : Hook) : Prop := ∀ f args h v, hk f args h = some v → ∀ u n, CallTo P ng f args false u h n (.ret v) u h n

/-- Tables: package-level variables, their cells. -/
noncomputable def heap0 : List (Nat × List Value) → Heap
  | [] => .leaf
  | (g, vs) :: r => (heap0 r).set .dead (.cells (Tr.ofListFrom undef .leaf 0 vs) vs.length 0 2) g

noncomputable def cellsB (c : Tr Value) : Nat → List Value → Bool
  | _, [] => true
  | i, v :: r => scalB (Tr.get undef c i) v && cellsB c (Nat.succ i) r

noncomputable def tabB (vs : List Value) (o : AObj) : Bool :=
  match o with
  | .cells c n _ kd => Nat.beq kd 2 && (Nat.beq n vs.length && cellsB c 0 vs)
  | _ => false

noncomputable def tabsB : List (Nat × List Value) → Heap → Bool
  | [], _ => true
  | (g, vs) :: r, h => tabB vs (hget h g) && tabsB r h

def isInt : Value → Bool
  | .int _ _ => true
  | _ => false

noncomputable def tabsOK (ng : Nat) (tabs : List (Nat × List Value)) : Bool := tabs.all fun p => Nat.blt p.1 ng && p.2.all isInt

theorem cellsB_at {c : Tr Value} : ∀ {vs : List Value} {i j : Nat} {v : Value}, cellsB c i vs = true → vs[j]? = some v → Tr.get undef c (i + j) = v := by
  intro vs
  induction vs with
  | nil => intro i j v _ h; simp at h
  | cons x vs ih =>
    intro i j v h hj
    have h' : (scalB (Tr.get undef c i) x && cellsB c (Nat.succ i) vs) = true := h
    obtain ⟨h1, h2⟩ := Bool.and_eq_true_iff.1 h'
    cases j with
    | zero => simp at hj; subst hj; exact scalB_eq h1
    | succ j =>
      have := ih h2 (j := j) (v := v) (by simpa using hj)
      rw [← this]; congr 1; omega

theorem heap0_get {tabs : List (Nat × List Value)} {b : Nat} (h : hget (heap0 tabs) b ≠ .dead) : ∃ vs, (b, vs) ∈ tabs ∧ hget (heap0 tabs) b = .cells (Tr.ofListFrom undef .leaf 0 vs) vs.length 0 2 := by
  induction tabs with
  | nil => exact absurd (Tr.get_leaf _ _) h
  | cons p r ih =>
    obtain ⟨g, vs⟩ := p
    have e : hget (heap0 ((g, vs) :: r)) b = if g = b then .cells (Tr.ofListFrom undef .leaf 0 vs) vs.length 0 2 else hget (heap0 r) b := hget_set _ _ _ _
    by_cases hb : g = b
    · subst hb
      exact ⟨vs, by simp, by rw [e, if_pos rfl]⟩
    · rw [e, if_neg hb] at h
      obtain ⟨vs', h1, h2⟩ := ih h
      exact ⟨vs', by simp [h1], by rw [e, if_neg hb, h2]⟩

theorem tabsB_mem {h : Heap} : ∀ {tabs : List (Nat × List Value)}, tabsB tabs h = true → ∀ p ∈ tabs, tabB p.2 (hget h p.1) = true := by
  intro tabs
  induction tabs with
  | nil => intro _ p hp; simp at hp
  | cons q r ih =>
    intro hB p hp
    have h' : (tabB q.2 (hget h q.1) && tabsB r h) = true := hB
    obtain ⟨h1, h2⟩ := Bool.and_eq_true_iff.1 h'
    rcases List.mem_cons.1 hp with rfl | hp
    · exact h1
    · exact ih h2 p hp

section
variable {P : Program} {ng : Nat}

/-- A table, read in a world of its own. -/
theorem tab_obj {ρ ρ' : Inj} {base base' : Nat} {B : Bl} {vs : List Value} {o : AObj} {o' : Obj} (hi : vs.all isInt = true) (ht : tabB vs o = true) (h : ObjR P ng ρ base B o o') :
    ObjR P ng ρ' base' B (.cells (Tr.ofListFrom undef .leaf 0 vs) vs.length 0 2) o' := by
  cases h with
  | cells hn hs hk hz hv hb hf =>
    rename_i c n z kd c' el lo hi'
    have ht' : (Nat.beq kd 2 && (Nat.beq n vs.length && cellsB c 0 vs)) = true := ht
    obtain ⟨t1, t2⟩ := Bool.and_eq_true_iff.1 ht'
    obtain ⟨t2, t3⟩ := Bool.and_eq_true_iff.1 t2
    obtain rfl := beq_eq t1
    obtain rfl := beq_eq t2
    refine .cells hn hs (fun _ => hk (by omega)) ⟨fun h => by omega, fun h => by omega⟩ (fun i v' hi2 e => ?_) (fun h => absurd rfl h) (fun h => absurd rfl h)
    rw [Tr.get_ofListFrom, if_pos (by omega)]
    have e1 : vs[i]? = some (vs.getD (i - 0) undef) := by simp [List.getElem?_eq_getElem hi2]
    have e2 := cellsB_at t3 e1
    rw [Nat.zero_add] at e2
    have r := hv i v' hi2 e
    rw [e2] at r
    have hint := List.all_eq_true.1 hi _ (List.mem_iff_getElem?.2 ⟨i, e1⟩)
    generalize vs.getD (i - 0) undef = x at r hint
    cases x <;> first | (cases hint; done) | skip
    rw [r.of_int]; exact .int _ _
  | map => cases ht
  | loop => cases ht
  | siter0 => cases ht
  | siter => cases ht
  | ready => cases ht
  | taken => cases ht

theorem HeapR.fresh {ρ : Inj} {base : Nat} {w0 : World} {h : Heap} {n : Nat} {wd : World} (r : HeapR P ng ρ base w0 h n wd) {tabs : List (Nat × List Value)} (hok : tabsOK ng tabs = true) (ht : tabsB tabs h = true) :
    HeapR P ng (ρ.cut ng) wd.heap.size wd (heap0 tabs) ng wd := by
  have hall := List.all_eq_true.1 hok
  refine ⟨fun b hb => cut_ge hb, ?_, ?_, Go.RowKit.Below.refl _ _, Nat.le_refl _, ?_, Nat.le_refl _⟩
  · intro b B e hl
    obtain ⟨_, e⟩ := cut_some e
    obtain ⟨vs, h1, h2⟩ := heap0_get hl
    have hb := tabsB_mem ht _ h1
    have hne : hget h b ≠ .dead := fun hd => by
      dsimp only at hb
      rw [hd] at hb; cases hb
    obtain ⟨o, q1, q2⟩ := r.obj b B e hne
    have hi := (Bool.and_eq_true_iff.1 (hall _ h1)).2
    exact ⟨o, q1, by rw [h2]; exact tab_obj hi hb q2⟩
  · intro a b A B ea eb la lb hab
    obtain ⟨_, ea⟩ := cut_some ea
    obtain ⟨_, eb⟩ := cut_some eb
    obtain ⟨va, h1, _⟩ := heap0_get la
    obtain ⟨vb, h2, _⟩ := heap0_get lb
    have ha := tabsB_mem ht _ h1
    have hb := tabsB_mem ht _ h2
    exact r.inj a b A B ea eb (fun hd => by dsimp only at ha; rw [hd] at ha; cases ha) (fun hd => by dsimp only at hb; rw [hd] at hb; cases hb) hab
  · intro g hg
    obtain ⟨B, e1, e2⟩ := r.glob g hg
    exact ⟨B, by rw [cut_lt hg]; exact e1, e2⟩

/-- Nothing that was there has turned. -/
theorem HeapR.stay {ρ : Inj} {base : Nat} {w0 : World} {h : Heap} {n : Nat} {wd wd' : World} (r : HeapR P ng ρ base w0 h n wd) (hb : Go.RowKit.Below wd.heap.size wd wd') : HeapR P ng ρ base w0 h n wd' ∧ Grow ρ h n wd ρ h n wd' := by
  have hlt : ∀ {c : Nat} {o : Obj}, wd.heap[c]? = some o → c < wd.heap.size := by
    intro c o e
    rcases Nat.lt_or_ge c wd.heap.size with h3 | h3
    · exact h3
    · rw [Array.getElem?_eq_none h3] at e; cases e
  refine ⟨⟨r.dom, fun b B e hl => ?_, r.inj, r.below.trans ⟨hb.os, hb.tape, hb.output, hb.size, fun k hk => hb.block k (by have := r.size; omega)⟩, by have := hb.size; have := r.size; omega, r.glob, r.ngn⟩, ⟨Nat.le_refl _, fun _ _ => rfl, fun b B h1 e => (by rw [r.dom b h1] at e; cases e), fun c hc _ => hb.block c hc, hb.size, fun _ _ e => e, hb.tape⟩⟩
  obtain ⟨o, q1, q2⟩ := r.obj b B e hl
  exact ⟨o, by rw [hb.block _ (hlt q1)]; exact q1, q2⟩

/-- The end that is wanted. -/
noncomputable def finV (v : Value) : KO := fun o _ _ _ => Out.rec (fun x => scalB x v) (fun _ => false) o

theorem finV_ret {v : Value} {o : Out} {u : Option Chain} {h : Heap} {n : Nat} (hf : finV v o u h n = true) : o = .ret v := by
  cases o with
  | ret x => rw [scalB_eq (v := x) (v' := v) hf]
  | panic c => cases hf

theorem plains {args : List Value} (h : args.all plainB = true) (ρ : Inj) : RVs ρ args args :=
  ⟨rfl, fun i v v' e e' => by
    rw [e] at e'; injection e' with e'; subst e'
    exact RV.plain (List.all_eq_true.1 h v (List.mem_iff_getElem?.2 ⟨i, e⟩)) ρ⟩

/-- A call that was run once is known beforehand: a scalar, and nothing that was there turns. -/
theorem hook_of_run {lo : Lo} (hS : Sound P ng lo) {f : FuncId} {args : List Value} {v : Value} {tabs : List (Nat × List Value)} (hok : tabsOK ng tabs = true) (hint : args.all isInt = true) (hv : isInt v = true ∨ ∃ b, v = .bool b)
    (hx : lo.call f args false none (heap0 tabs) ng (finV v) = true) {h : Heap} (ht : tabsB tabs h = true) (u : Option Chain) (n : Nat) : CallTo P ng f args false u h n (.ret v) u h n := by
  obtain ⟨o, u', h', n', hk, hfn, hc⟩ := hS.call _ _ _ _ _ _ _ hx
  obtain rfl := finV_ret hk
  refine ⟨hfn, fun ρ base w0 wd args' cs hH ha hu => ?_⟩
  have hpl : args' = args := by
    apply List.ext_getElem?
    intro i
    cases e : args[i]? with
    | none =>
      have := List.getElem?_eq_none_iff.1 e
      exact List.getElem?_eq_none (by rw [← ha.1]; exact this)
    | some x =>
      obtain ⟨x', e1, e2⟩ := ha.at e
      have := List.all_eq_true.1 hint x (List.mem_iff_getElem?.2 ⟨i, e⟩)
      cases x <;> first | (cases this; done) | skip
      rw [e1, e2.of_int]
  subst hpl
  have hpa : args'.all plainB = true := by
    rw [List.all_eq_true] at hint ⊢
    intro x hx
    have := hint x hx
    cases x <;> first | (cases this; done) | rfl
  obtain ⟨ρ', wd', fr, cs', s1, s2, s3, s4, s5, s6, s7⟩ := hc (ρ.cut ng) wd.heap.size wd wd args' cs (hH.fresh hok ht) (plains hpa _) (fun e => by cases e)
  have hcs : cs' = cs := by
    rcases s4 with e | ⟨e, _⟩
    · exact e
    · cases e
  subst hcs
  obtain ⟨k1, k2⟩ := hH.stay s2.below
  refine ⟨ρ, wd', fr, cs', s1, k1, k2, CsTo.refl _ _, (fun e => Bool.noConfusion e), s6, ?_⟩
  obtain ⟨v', y1, y2, y3, y4, y5⟩ := s7
  refine ⟨v', y1, y2, y3, y4, ?_⟩
  rcases hv with hv | ⟨b, rfl⟩
  · cases v <;> first | (cases hv; done) | skip
    rw [y5.of_int]; exact .int _ _
  · rw [y5.of_bool]; exact .bool _

theorem hook_sound {hk : Hook} (hh : HookOK P ng hk) {lo : Lo} (hS : Sound P ng lo) : Sound P ng (Lo.hook hk lo) where
  code := hS.code
  round := hS.round
  leave := hS.leave
  call f args df u h n k hx := by
    cases df with
    | true => exact hS.call f args true u h n k hx
    | false =>
      have hx' : (Option.rec (lo.call f args false u h n k) (fun v => k (.ret v) u h n) (hk f args h) : Bool) = true := hx
      cases e : hk f args h with
      | none => rw [e] at hx'; exact hS.call f args false u h n k hx'
      | some v =>
        rw [e] at hx'
        exact ⟨.ret v, u, h, n, hx', hh f args h v e u n⟩

theorem soundH (hP : progOK ng P = true) (hmix : P.follows .mixedOrders = true) {hk : Hook} (hh : HookOK P ng hk) : ∀ fuel, Sound P ng (runH P hk fuel) := by
  intro fuel
  induction fuel with
  | zero => exact sound_bot
  | succ n ih => exact hook_sound hh (sound_next (draw_ok hP hmix) hP ih)

/-- The world in which a law's call begins. -/
def TabsIn (w : World) (tabs : List (Nat × List Value)) : Prop := ∀ p ∈ tabs, ∃ el fr, w.heap[p.1]? = some (.cells ⟨p.2⟩ el fr)

theorem init_heap {w : World} {tabs : List (Nat × List Value)} (hok : tabsOK ng tabs = true) (hw : TabsIn w tabs) :
    ∃ ρ, HeapR P ng ρ w.heap.size w (heap0 tabs) ng w := by
  have hall := List.all_eq_true.1 hok
  let size : Nat → Nat := fun b => match w.heap[b]? with | some (.cells cs _ _) => cs.size | _ => 0
  refine ⟨fun b => if b < ng then some ⟨b, size b, 0⟩ else none, fun b hb => if_neg (by omega), ?_, ?_, Go.RowKit.Below.refl _ _, Nat.le_refl _, ?_, Nat.le_refl _⟩
  · intro b B e hl
    obtain ⟨vs, h1, h2⟩ := heap0_get hl
    obtain ⟨el, fr, h3⟩ := hw _ h1
    have hb : b < ng := blt_lt (Bool.and_eq_true_iff.1 (hall _ h1)).1
    rw [if_pos hb] at e
    injection e with e; subst e
    refine ⟨_, h3, ?_⟩
    have hs : size b = vs.length := by
      show (match w.heap[b]? with | some (.cells cs _ _) => cs.size | _ => 0) = _
      rw [h3]; rfl
    rw [h2]
    obtain ⟨lo, hi⟩ := fr
    refine .cells (by rw [hs]; exact Nat.le_refl _) (by rw [hs]; rfl) (fun _ => hs.symm) ⟨fun h => by omega, fun h => by omega⟩ (fun i v' hi2 e => ?_) (fun h => absurd rfl h) (fun h => absurd rfl h)
    rw [Tr.get_ofListFrom, if_pos (by omega)]
    have e1 : vs[i]? = some (vs.getD (i - 0) undef) := by simp [List.getElem?_eq_getElem hi2]
    have e2 : vs[i]? = some v' := by simpa using e
    rw [e1] at e2; injection e2 with e2; subst e2
    have hint := List.all_eq_true.1 (Bool.and_eq_true_iff.1 (hall _ h1)).2 _ (List.mem_iff_getElem?.2 ⟨i, e1⟩)
    generalize vs.getD (i - 0) undef = x at hint
    cases x <;> first | (cases hint; done) | skip
    exact .int _ _
  · intro a b A B ea eb _ _ hab
    by_cases ha : a < ng
    · rw [if_pos ha] at ea
      by_cases hb : b < ng
      · rw [if_pos hb] at eb
        injection ea with ea; injection eb with eb
        rw [← ea, ← eb] at hab
        exact hab
      · rw [if_neg hb] at eb; cases eb
    · rw [if_neg ha] at ea; cases ea
  · intro g hg
    exact ⟨_, if_pos hg, rfl⟩

/-- A law's call: it tells true, and nothing that was there has turned. -/
theorem law_calls {lo : Lo} (hS : Sound P ng lo) {f : FuncId} {args : List Value} {tabs : List (Nat × List Value)} (hok : tabsOK ng tabs = true) (hpa : args.all plainB = true)
    (hx : lo.call f args false none (heap0 tabs) ng (finV (.bool true)) = true) (w : World) (hw : TabsIn w tabs) :
    Calls P f ⟨args⟩ w fun e w' => e = .returned (.bool true) ∧ Go.RowKit.Below w.heap.size w w' := by
  obtain ⟨o, u', h', n', hk, hc⟩ := calls_of hS hx
  obtain rfl := finV_ret hk
  obtain ⟨ρ, hH⟩ := init_heap (P := P) hok hw
  refine (hc ρ w.heap.size w w args hH (plains hpa ρ)).mono fun e w' ⟨ρ', h1, h2, h3⟩ => ?_
  cases e with
  | returned v' =>
    have h3 : RV ρ' (.bool true) v' := h3
    rw [h3.of_bool]
    exact ⟨rfl, h1.below⟩
  | _ => cases h3

end
end Go.Ex
