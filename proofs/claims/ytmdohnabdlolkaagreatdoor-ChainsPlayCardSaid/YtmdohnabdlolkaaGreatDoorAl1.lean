/- Lemmas and contracts for the claim, part 1: what each function of the road does, proved once. No condition beyond the hypotheses that stand. -/
import Derived.Test.YtmdohnabdlolkaaGreatDoorProg
import Derived.Orders
import Derived.OrdersHeld
import Derived.Below
import Derived.KernelRfl
import Derived.Tactics
import Derived.WalkKit
import Derived.Maps.AppendAt
namespace Go.Al
open Go Go.RowKit
set_option linter.unusedVariables false
/-- A frame: what each slot holds. -/
abbrev Fr := Nat → Value
def upd (τ : Fr) (d : Nat) (v : Value) : Fr := fun s => bif Nat.beq s d then v else τ s
def updo (τ : Fr) (d : Option Nat) (v : Value) : Fr := match d with | some d => upd τ d v | none => τ
/-- The frame at a function's entry. -/
def frOf (l : List Value) : Fr := fun s => l.getD s undef
def ev (τ : Fr) : Operand → Value
  | .tmp t => τ t
  | .const v => v
  | .global g => .pointer (some ⟨g, 0, none⟩)
  | .func f => .func (.func f) #[] #[]
def FrIs (n : Nat) (ds : List Deferred) (a : Act) (τ : Fr) : Prop :=
  a.tmps.size = n ∧ a.defers = ds ∧ ∀ s, a.tmps.getD s undef = τ s
def dstOk (n : Nat) : Option Nat → Bool
  | some d => Nat.blt d n
  | none => true
theorem FrIs.ev {n : Nat} {ds : List Deferred} {a : Act} {τ : Fr} (h : FrIs n ds a τ) : a.eval = Al.ev τ := by
  funext x
  cases x <;> simp [Act.eval, Al.ev, h.2.2]
theorem FrIs.put {n : Nat} {ds : List Deferred} {a : Act} {τ : Fr} (h : FrIs n ds a τ) {d : Option Nat} (hd : dstOk n d = true) (v : Value) : FrIs n ds (a.put d v) (updo τ d v) := by
  cases d with
  | none => exact h
  | some d =>
    have hd' : d < n := by
      simp [dstOk, Nat.blt] at hd; omega
    refine ⟨by simp [Act.put, h.1], h.2.1, fun s => ?_⟩
    have hs := h.2.2 s
    simp only [Act.put, updo, upd]
    by_cases e : s = d
    · subst e
      simp [Array.getD, h.1, hd']
    · have e2 : Nat.beq s d = false := by
        cases hb : Nat.beq s d
        · rfl
        · exact absurd (Nat.eq_of_beq_eq_true hb) e
      rw [e2]
      simp only [cond_false]
      rw [← hs]
      simp only [Array.getD_eq_getD_getElem?, Array.getElem?_setIfInBounds_ne (Ne.symm e)]
theorem FrIs.any {n : Nat} {ds : List Deferred} {a : Act} (h1 : a.tmps.size = n) (h2 : a.defers = ds) : FrIs n ds a (fun s => a.tmps.getD s undef) := ⟨h1, h2, fun _ => rfl⟩
abbrev Post := Exit → Fr → World → Prop
def lift (n : Nat) (ds : List Deferred) (Q : Post) : Exit → Act → World → Prop := fun e a w => ∃ τ, FrIs n ds a τ ∧ Q e τ w
def WP (P : Program) (n : Nat) (ds : List Deferred) (c : Code) (Q : Post) (τ : Fr) (w : World) : Prop :=
  ∀ a, FrIs n ds a τ → c.wp P (lift n ds Q) a w
def thenQ (N : Fr → World → Prop) (Q : Post) : Post
  | .normal, τ, w => N τ w
  | e, τ, w => Q e τ w
def inBlk (id : Nat) (Q : Post) : Post
  | .exit id', τ, w => bif Nat.beq id' id then Q .normal τ w else Q (.exit id') τ w
  | e, τ, w => Q e τ w
section
variable {P : Program} {n : Nat} {ds : List Deferred} {Q : Post} {τ : Fr} {w : World}
theorem WP.mono {c : Code} {Q' : Post} (h : WP P n ds c Q τ w) (hq : ∀ e τ w, Q e τ w → Q' e τ w) : WP P n ds c Q' τ w :=
  fun a ha => Code.wp_mono (fun e _ w ⟨τ, hf, q⟩ => ⟨τ, hf, hq e τ w q⟩) (h a ha)
theorem WP.skip (h : Q .normal τ w) : WP P n ds .skip Q τ w := fun _ ha => wp_skip ⟨τ, ha, h⟩
theorem WP.ret (h : Q .ret τ w) : WP P n ds .ret Q τ w := fun _ ha => wp_ret ⟨τ, ha, h⟩
theorem WP.exit {id : Nat} (h : Q (.exit id) τ w) : WP P n ds (.exit id) Q τ w := fun _ ha => wp_exit ⟨τ, ha, h⟩
theorem WP.seq {x y : Code} (h : WP P n ds x (thenQ (WP P n ds y Q) Q) τ w) : WP P n ds (.seq x y) Q τ w := by
  intro a ha
  refine wp_seq (Code.wp_mono ?_ (h a ha))
  rintro e a' w' ⟨τ', hf, hq⟩
  cases e with
  | normal => exact hq a' hf
  | exit id => exact ⟨τ', hf, hq⟩
  | goto l => exact ⟨τ', hf, hq⟩
  | ret => exact ⟨τ', hf, hq⟩
  | panic ch => exact ⟨τ', hf, hq⟩
  | outgrown => exact ⟨τ', hf, hq⟩
theorem WP.cond {c : Operand} {x y : Code} {b : Bool} (hc : ev τ c = .bool b) (ht : b = true → WP P n ds x Q τ w) (hf : b = false → WP P n ds y Q τ w) :
    WP P n ds (.cond c x y) Q τ w := by
  intro a ha
  have hc' : a.eval c = .bool b := by rw [ha.ev]; exact hc
  cases b with
  | true => exact wp_cond_true hc' (ht rfl a ha)
  | false => exact wp_cond_false hc' (hf rfl a ha)
theorem WP.cond_t {c : Operand} {x y : Code} (hc : ev τ c = .bool true) (ht : WP P n ds x Q τ w) : WP P n ds (.cond c x y) Q τ w :=
  WP.cond hc (fun _ => ht) (fun h => by cases h)
theorem WP.cond_f {c : Operand} {x y : Code} (hc : ev τ c = .bool false) (hf : WP P n ds y Q τ w) : WP P n ds (.cond c x y) Q τ w :=
  WP.cond hc (fun h => by cases h) (fun _ => hf)
theorem WP.block {id : Nat} {c : Code} (h : WP P n ds c (inBlk id Q) τ w) : WP P n ds (.block id c) Q τ w := by
  intro a ha
  refine wp_block (Code.wp_mono ?_ (h a ha))
  rintro e a' w' ⟨τ', hf, hq⟩
  cases e with
  | exit id' =>
    simp only [Exit.inBlock]
    by_cases e : id' = id
    · subst e
      rw [if_pos rfl]
      refine ⟨τ', hf, ?_⟩
      simpa [inBlk, Nat.beq_refl] using hq
    · rw [if_neg e]
      refine ⟨τ', hf, ?_⟩
      have e2 : Nat.beq id' id = false := by
        cases hb : Nat.beq id' id
        · rfl
        · exact absurd (Nat.eq_of_beq_eq_true hb) e
      simpa [inBlk, e2] using hq
  | normal => exact ⟨τ', hf, hq⟩
  | goto l => exact ⟨τ', hf, hq⟩
  | ret => exact ⟨τ', hf, hq⟩
  | panic ch => exact ⟨τ', hf, hq⟩
  | outgrown => exact ⟨τ', hf, hq⟩
/-- A loop, by what holds at each round's head when k rounds at most are still to come. -/
theorem WP.loop {c : Code} (I : Nat → Fr → World → Prop) (k : Nat) (h0 : I k τ w)
    (round : ∀ k τ w, I k τ w → WP P n ds c (thenQ (fun τ' w' => ∃ j, j < k ∧ I j τ' w') Q) τ w) : WP P n ds (.loop c) Q τ w := by
  intro a ha b kk cs
  have key : ∀ k, ∀ τ a w, FrIs n ds a τ → I k τ w →
      ∃ e a' w', lift n ds Q e a' w' ∧ Arrives P (lone (b.at a (.code c :: .inLoop c :: kk)) cs w) b kk cs e a' w' := by
    intro k
    induction k using Nat.strongRecOn with
    | _ k ih =>
      intro τ a w ha hI
      obtain ⟨e, a₁, w₁, ⟨τ₁, hf, hq⟩, harr⟩ := round k τ w hI a ha b (.inLoop c :: kk) cs
      cases e with
      | normal =>
        obtain ⟨j, hj, hIj⟩ := hq
        obtain ⟨e₂, a₂, w₂, hq₂, harr₂⟩ := ih j hj τ₁ a₁ w₁ hf hIj
        exact ⟨e₂, a₂, w₂, hq₂, .of_steps (Steps.trans harr (.one step_inLoop)) harr₂⟩
      | exit id => exact ⟨_, a₁, w₁, ⟨τ₁, hf, hq⟩, .pass (x := .inLoop c) rfl (fun _ _ => .inl (by simp)) harr⟩
      | goto l => exact ⟨_, a₁, w₁, ⟨τ₁, hf, hq⟩, .pass (x := .inLoop c) rfl (fun _ _ => .inl (by simp)) harr⟩
      | ret => exact ⟨_, a₁, w₁, ⟨τ₁, hf, hq⟩, .pass (x := .inLoop c) rfl (fun _ _ => .inl (by simp)) harr⟩
      | panic ch => exact ⟨_, a₁, w₁, ⟨τ₁, hf, hq⟩, .pass (x := .inLoop c) rfl (fun _ _ => .inl (by simp)) harr⟩
      | outgrown => exact ⟨_, a₁, w₁, ⟨τ₁, hf, hq⟩, .pass (x := .inLoop c) rfl (fun _ _ => .inl (by simp)) harr⟩
  obtain ⟨e, a', w', hq, harr⟩ := key k τ a w ha h0
  exact ⟨e, a', w', hq, .of_steps (.one step_loop) harr⟩
end
/-- Whether an operation is carried out, by the frame. -/
def wantedF (ops : Array Oper) (o : Oper) (τ : Fr) : Bool :=
  Region.wanted o (fun j => match (ops[j]?).bind (·.dst) with
    | some d => (match τ d with | .bool b => some b | _ => none)
    | none => none)
theorem FrIs.wanted {n : Nat} {ds : List Deferred} {a : Act} {τ : Fr} (h : FrIs n ds a τ) (ops : Array Oper) (o : Oper) : Region.wanted o (yielded ops a.tmps) = wantedF ops o τ := by
  unfold wantedF
  congr 1
  funext j
  unfold yielded
  cases hd : (ops[j]?).bind (·.dst) with
  | none => simp
  | some d =>
    have := h.2.2 d
    simp only [Option.bind_some]
    by_cases hlt : d < a.tmps.size
    · rw [← this]; simp [Array.getD, hlt]; cases a.tmps[d] <;> rfl
    · have e1 : a.tmps[d]? = none := Array.getElem?_eq_none (Nat.le_of_not_lt hlt)
      have e2 : a.tmps.getD d undef = undef := by simp [Array.getD, hlt]
      rw [e1, ← this, e2]; rfl
/-- One operation: what it leaves; E: a panic. -/
def OpK (P : Program) (E : List PanicEntry → World → Prop) (ρ : Operand → Value) (o : Oper) (w : World) (K : Value → World → Prop) : Prop :=
  match (execOp ρ o).run P w with
  | .ok (.value v) w' => K v w'
  | .ok .skip w' => K undef w'
  | .ok (.enter f args) w' => Calls P f args w' fun e w'' =>
      match e with
      | .returned v => K v w''
      | .panicked ch => E ch w''
      | .outgrown => False
  | .halt (.panic v) w' => E [{ v, recovered := false }] w'
  | _ => False
theorem OpK.wp {P : Program} {E : List PanicEntry → World → Prop} {o : Oper} {a : Act} {w : World} {K : Value → World → Prop} {next : Act → World → Prop} {Q : Exit → Act → World → Prop}
    (h : OpK P E a.eval o w K) (hn : ∀ v w', K v w' → next (a.put o.dst v) w') (hE : ∀ ch w', E ch w' → Q (.panic ch) a w') : o.wp P a w next Q := by
  unfold OpK at h
  unfold Oper.wp
  generalize (execOp a.eval o).run P w = r at *
  cases r with
  | ok x w' =>
    cases x <;> simp only [Oper.upon] at h ⊢
    case value v => exact hn _ _ h
    case skip => exact hn _ _ h
    case enter f args =>
      refine h.mono fun e w'' he => ?_
      cases e with
      | returned v => exact hn _ _ he
      | panicked ch => exact hE _ _ he
      | outgrown => exact he.elim
  | halt x w' =>
    cases x <;> simp only [Oper.upon] at h ⊢
    case panic v => exact hE _ _ h
/-- A region's operations in text order. -/
def RL (P : Program) (E : List PanicEntry → World → Prop) (n : Nat) (ops : Array Oper) : List Oper → (Fr → World → Prop) → Fr → World → Prop
  | [], K, τ, w => K τ w
  | o :: rest, K, τ, w => dstOk n o.dst = true ∧
      ((wantedF ops o τ = true ∧ OpK P E (ev τ) o w fun v w' => RL P E n ops rest K (updo τ o.dst v) w') ∨
       (wantedF ops o τ = false ∧ RL P E n ops rest K (updo τ o.dst undef) w))
section
variable {P : Program} {E : List PanicEntry → World → Prop} {n : Nat} {ds : List Deferred} {ops : Array Oper} {K : Fr → World → Prop} {Q : Post}
theorem RL.sound (hE : ∀ ch τ w, E ch w → Q (.panic ch) τ w) (hK : ∀ τ w, K τ w → Q .normal τ w) : ∀ (l : List Oper) (τ : Fr) (a : Act) (w : World), RL P E n ops l K τ w → FrIs n ds a τ →
    wpList P ops (lift n ds Q) l a w := by
  intro l
  induction l with
  | nil => exact fun τ a w h ha => ⟨τ, ha, hK _ _ h⟩
  | cons o rest ih =>
    intro τ a w h ha
    obtain ⟨hd, h⟩ := h
    unfold wpList
    rw [ha.wanted]
    rcases h with ⟨hw, h⟩ | ⟨hw, h⟩
    · rw [if_pos hw]
      refine .inl (OpK.wp (by rw [ha.ev]; exact h) (fun v w' hr => ih _ _ _ hr (ha.put hd v)) (fun ch w' he => ⟨τ, ha, hE ch τ w' he⟩))
    · rw [if_neg (by rw [hw]; simp)]
      exact ih _ _ _ h (ha.put hd _)
theorem WP.region {τ : Fr} {w : World} {id : Nat} (hE : ∀ ch τ w, E ch w → Q (.panic ch) τ w) (h : RL P E n ops ops.toList (fun τ w => Q .normal τ w) τ w) : WP P n ds (.region id ops false) Q τ w :=
  fun _ ha => wp_region_list (RL.sound hE (fun _ _ h => h) _ _ _ _ h ha)
end
/-- Operation j waits for i, straight or through others. -/
def reach (ops : Array Oper) (i : Nat) : Nat → Nat → Bool
  | 0, _ => false
  | fuel + 1, j => match ops[j]? with
    | some oj => (oj.after.any fun e => Region.binds .any e && e.on == i) || (oj.after.any fun e => Region.binds .any e && reach ops i fuel e.on)
    | none => false
/-- Operation j waits for each of these. -/
def lateB (ops : Array Oper) (fl : List Nat) (j : Nat) : Bool := fl.all fun f => reach ops f ops.size j
/-- With each operation those that it waits for are listed. -/
def Closed (ops : Array Oper) (listed : Array Bool) : Prop := ∀ k ok, ops[k]? = some ok → listed.getD k false = true → ∀ e ∈ ok.after, Region.binds .any e = true → listed.getD e.on false = true
theorem reach_up {ops : Array Oper} {listed : Array Bool} (hc : Closed ops listed) {i : Nat} : ∀ (fuel j : Nat) (oj : Oper), ops[j]? = some oj → (∀ e ∈ oj.after, Region.binds .any e = true → listed.getD e.on false = true) → reach ops i fuel j = true → listed.getD i false = true := by
  intro fuel
  induction fuel with
  | zero => intro j oj _ _ h; simp [reach] at h
  | succ fuel ih =>
    intro j oj hj hd h
    unfold reach at h
    rw [hj] at h
    simp only [Bool.or_eq_true] at h
    rcases h with h | h
    · obtain ⟨k, hk, h2⟩ := Array.any_eq_true.1 h
      simp only [Bool.and_eq_true, beq_iff_eq] at h2
      have := hd _ (Array.getElem_mem hk) h2.1
      rwa [h2.2] at this
    · obtain ⟨k, hk, h2⟩ := Array.any_eq_true.1 h
      simp only [Bool.and_eq_true] at h2
      have h3 := hd _ (Array.getElem_mem hk) h2.1
      cases ho : ops[(oj.after[k]).on]? with
      | none =>
        cases fuel with
        | zero => simp [reach] at h2
        | succ f => unfold reach at h2; rw [ho] at h2; simp at h2
      | some o => exact ih _ o ho (fun e he hb => hc _ o ho h3 e he hb) h2.2
theorem Closed.start (ops : Array Oper) (n : Nat) : Closed ops (Array.replicate n false) := by
  intro k ok _ h
  simp only [Array.getD_eq_getD_getElem?, Array.getElem?_replicate] at h
  split at h <;> simp at h
/-- Whatever order is picked from here on; S holds behind each operation that does not wait for all of `fl`. -/
def AnyS (P : Program) (ops : Array Oper) (Q : Exit → Act → World → Prop) (S : World → Prop) (fl : List Nat) : Nat → Array Bool → Act → World → Prop
  | 0, listed, a, w => Region.ready .any ops listed = [] ∧ Q .normal a w
  | fuel + 1, listed, a, w => (Region.ready .any ops listed = [] → Q .normal a w) ∧
      ∀ i ∈ Region.ready .any ops listed, wpOp P ops Q i (fun a' w' => (S w → lateB ops fl i = true ∨ S w') ∧ AnyS P ops Q S fl fuel (listed.setIfInBounds i true) a' w') a w
section
variable {P : Program} {ops : Array Oper} {Q : Exit → Act → World → Prop} {S : World → Prop} {fl : List Nat}
theorem AnyS.any : ∀ (fuel : Nat) (listed : Array Bool) (a : Act) (w : World), AnyS P ops Q S fl fuel listed a w → wpAny P .any ops Q fuel listed a w
  | 0, _, _, _, h => h
  | fuel + 1, _, _, _, h => ⟨h.1, fun i hi => wpOp_mono (fun a' w' h' => AnyS.any fuel _ a' w' h'.2) (h.2 i hi)⟩
theorem Closed.set {listed : Array Bool} (h : Closed ops listed) {j : Nat} (hj : j ∈ Region.ready .any ops listed) : Closed ops (listed.setIfInBounds j true) := by
  obtain ⟨_, oj, hoj, hall⟩ := mem_ready.1 hj
  intro k ok hk hl e he hb
  by_cases e2 : k = j
  · subst e2
    rw [hoj] at hk; cases hk
    exact getD_set_true (hall e he hb)
  · rw [getD_set_ne false (Ne.symm e2)] at hl
    exact getD_set_true (h k ok hk hl e he hb)
theorem late_not {j i : Nat} {listed : Array Bool} (hc : Closed ops listed) (hj : j ∈ Region.ready .any ops listed) (hi : i ∈ fl) (h : listed.getD i true = false) : lateB ops fl j = false := by
  cases hl : lateB ops fl j with
  | false => rfl
  | true =>
    exfalso
    unfold lateB at hl
    have h1 := List.all_eq_true.1 hl i hi
    obtain ⟨_, oj, hoj, hall⟩ := mem_ready.1 hj
    have h2 := reach_up hc _ j oj hoj hall h1
    rcases Nat.lt_or_ge i listed.size with h' | h'
    · simp [h'] at h h2; rw [h] at h2; cases h2
    · simp [Array.getElem?_eq_none h'] at h
/-- What a float yields it may yield first. -/
theorem AnyS.first {i : Nat} {oi : Oper} {v : Value} (hi : ops[i]? = some oi) (hfl : i ∈ fl) (hsel : ∀ (j : Nat) (o : Oper) cs b, ops[j]? = some o → o.op ≠ .select cs b)
    (hQ : ∀ c a w, Q (.panic c) (a.put oi.dst v) w → Q (.panic c) a w) :
    ∀ (fuel : Nat) (listed : Array Bool) (a : Act) (w : World),
      (∀ j oj, ops[j]? = some oj → j ≠ i → listed.getD j true = false → (∀ e ∈ oj.after, Region.binds .any e = true → e.on ≠ i) → oi.apart ops oj = true) →
      Closed ops listed → i ∈ Region.ready .any ops listed → YieldsIf P ops S oi v a → S w →
      AnyS P ops Q S fl fuel (listed.setIfInBounds i true) (a.put oi.dst v) w → AnyS P ops Q S fl (fuel + 1) listed a w := by
  intro fuel
  induction fuel with
  | zero =>
    intro listed a w _ _ hr hy hS H
    refine ⟨fun h => (by rw [h] at hr; cases hr), fun j hj => ?_⟩
    by_cases hji : j = i
    · subst hji; exact hy.wpOp hi hS ⟨fun _ => .inr hS, H⟩
    · have := ready_mono hj hji
      rw [H.1] at this
      cases this
  | succ fuel ih =>
    intro listed a w hfree hcl hr hy hS H
    refine ⟨fun h => (by rw [h] at hr; cases hr), fun j hj => ?_⟩
    by_cases hji : j = i
    · subst hji; exact hy.wpOp hi hS ⟨fun _ => .inr hS, H⟩
    · have h1 := H.2 j (ready_mono hj hji)
      obtain ⟨hjun, oj, hoj, hall⟩ := mem_ready.1 hj
      have hiun : listed.getD i true = false := (mem_ready.1 hr).1
      have hnot : ∀ e ∈ oj.after, Region.binds .any e = true → e.on ≠ i := fun e he hb heq => by
        have h1 := hall e he hb
        rw [heq] at h1
        rcases Nat.lt_or_ge i listed.size with h' | h'
        · simp [h'] at hiun h1; rw [hiun] at h1; cases h1
        · simp [Array.getElem?_eq_none h'] at h1
      have h2 := wpOp_putIf hoj (hfree j oj hoj hji hjun hnot) (fun cs b => hsel i oi cs b hi) (fun cs b => hsel j oj cs b hoj) hQ hy h1
      have hfree' : ∀ k ok, ops[k]? = some ok → k ≠ i → (listed.setIfInBounds j true).getD k true = false →
          (∀ e ∈ ok.after, Region.binds .any e = true → e.on ≠ i) → oi.apart ops ok = true := fun k ok hk hki hun hno => by
        refine hfree k ok hk hki ?_ hno
        by_cases hjk : j = k
        · subst hjk; exact hjun
        · rw [getD_set_ne true hjk] at hun; exact hun
      refine wpOp_mono (fun a' w' h3 => ?_) h2
      obtain ⟨h3y, h3s, h3k⟩ := h3
      have hS' : S w' := by
        rcases h3s hS with h3s | h3s
        · rw [late_not hcl hj hfl hiun] at h3s; cases h3s
        · exact h3s
      refine ⟨fun _ => .inr hS', ih (listed.setIfInBounds j true) a' w' hfree' (hcl.set hj) (ready_mono hr (Ne.symm hji)) h3y hS' ?_⟩
      rw [Array.setIfInBounds_comm _ _ hji]
      exact h3k
/-- Likewise one that reads no memory. -/
theorem AnyS.firstP {i : Nat} {oi : Oper} {v : Value} (hi : ops[i]? = some oi) (hsel : ∀ (j : Nat) (o : Oper) cs b, ops[j]? = some o → o.op ≠ .select cs b)
    (hQ : ∀ c a w, Q (.panic c) (a.put oi.dst v) w → Q (.panic c) a w) :
    ∀ (fuel : Nat) (listed : Array Bool) (a : Act) (w : World),
      (∀ j oj, ops[j]? = some oj → j ≠ i → listed.getD j true = false → (∀ e ∈ oj.after, Region.binds .any e = true → e.on ≠ i) → oi.apart ops oj = true) →
      Closed ops listed → i ∈ Region.ready .any ops listed → YieldsIf P ops (fun _ => True) oi v a →
      AnyS P ops Q S fl fuel (listed.setIfInBounds i true) (a.put oi.dst v) w → AnyS P ops Q S fl (fuel + 1) listed a w := by
  intro fuel
  induction fuel with
  | zero =>
    intro listed a w _ _ hr hy H
    refine ⟨fun h => (by rw [h] at hr; cases hr), fun j hj => ?_⟩
    by_cases hji : j = i
    · subst hji; exact hy.wpOp hi trivial ⟨fun h => .inr h, H⟩
    · have := ready_mono hj hji
      rw [H.1] at this
      cases this
  | succ fuel ih =>
    intro listed a w hfree hcl hr hy H
    refine ⟨fun h => (by rw [h] at hr; cases hr), fun j hj => ?_⟩
    by_cases hji : j = i
    · subst hji; exact hy.wpOp hi trivial ⟨fun h => .inr h, H⟩
    · have h1 := H.2 j (ready_mono hj hji)
      obtain ⟨hjun, oj, hoj, hall⟩ := mem_ready.1 hj
      have hiun : listed.getD i true = false := (mem_ready.1 hr).1
      have hnot : ∀ e ∈ oj.after, Region.binds .any e = true → e.on ≠ i := fun e he hb heq => by
        have h1 := hall e he hb
        rw [heq] at h1
        rcases Nat.lt_or_ge i listed.size with h' | h'
        · simp [h'] at hiun h1; rw [hiun] at h1; cases h1
        · simp [Array.getElem?_eq_none h'] at h1
      have h2 := wpOp_putIf hoj (hfree j oj hoj hji hjun hnot) (fun cs b => hsel i oi cs b hi) (fun cs b => hsel j oj cs b hoj) hQ hy h1
      have hfree' : ∀ k ok, ops[k]? = some ok → k ≠ i → (listed.setIfInBounds j true).getD k true = false →
          (∀ e ∈ ok.after, Region.binds .any e = true → e.on ≠ i) → oi.apart ops ok = true := fun k ok hk hki hun hno => by
        refine hfree k ok hk hki ?_ hno
        by_cases hjk : j = k
        · subst hjk; exact hjun
        · rw [getD_set_ne true hjk] at hun; exact hun
      refine wpOp_mono (fun a' w' h3 => ?_) h2
      obtain ⟨h3y, h3s, h3k⟩ := h3
      refine ⟨h3s, ih (listed.setIfInBounds j true) a' w' hfree' (hcl.set hj) (ready_mono hr (Ne.symm hji)) h3y ?_⟩
      rw [Array.setIfInBounds_comm _ _ hji]
      exact h3k
end
/-- Does this order serve: each float can come up and is apart from what could come before it; else one operation alone can come up. -/
def planOk (ops : Array Oper) : List (Nat × Bool) → Array Bool → Bool
  | [], listed => (Region.ready .any ops listed).isEmpty
  | (i, true) :: rest, listed => (Region.ready .any ops listed).contains i && Region.free .any ops listed i && planOk ops rest (listed.setIfInBounds i true)
  | (i, false) :: rest, listed => (Region.ready .any ops listed == [i]) && planOk ops rest (listed.setIfInBounds i true)
def floats (plan : List (Nat × Bool)) : List Nat := plan.filterMap fun p => bif p.2 then some p.1 else none
/-- A region by a plan. -/
def RP (P : Program) (E : List PanicEntry → World → Prop) (n : Nat) (ops : Array Oper) (S : World → Prop) (fl : List Nat) : List (Nat × Bool) → (Fr → World → Prop) → Fr → World → Prop
  | [], K, τ, w => K τ w
  | (i, true) :: rest, K, τ, w => ∃ o v, ops[i]? = some o ∧ dstOk n o.dst = true ∧
      ((wantedF ops o τ = true ∧ ∀ w', (i ∈ fl → S w') → (execOp (ev τ) o).run P w' = .ok (.value v) w') ∨ (wantedF ops o τ = false ∧ v = undef)) ∧
      RP P E n ops S fl rest K (updo τ o.dst v) w
  | (i, false) :: rest, K, τ, w => ∃ o, ops[i]? = some o ∧ dstOk n o.dst = true ∧ wantedF ops o τ = true ∧
      OpK P E (ev τ) o w fun v w' => (lateB ops fl i = true ∨ S w') ∧ RP P E n ops S fl rest K (updo τ o.dst v) w'
section
variable {P : Program} {E : List PanicEntry → World → Prop} {n : Nat} {ds : List Deferred} {ops : Array Oper} {K : Fr → World → Prop} {Q : Post} {S : World → Prop}
/-- What a region's activation is asked to come to. -/
def regQ (E : List PanicEntry → World → Prop) (n : Nat) (ds : List Deferred) (K : Fr → World → Prop) : Exit → Act → World → Prop
  | .normal, a, w => ∃ τ, FrIs n ds a τ ∧ K τ w
  | .panic ch, a, w => (a.tmps.size = n ∧ a.defers = ds) ∧ E ch w
  | _, _, _ => False
theorem put_size (a : Act) (d : Option Nat) (v : Value) : (a.put d v).tmps.size = a.tmps.size ∧ (a.put d v).defers = a.defers := by
  cases d <;> simp [Act.put]
theorem planOk_up {q : Nat} : ∀ (plan : List (Nat × Bool)) (listed : Array Bool), planOk ops plan listed = true → (q, true) ∈ plan → listed.getD q false = true → False := by
  intro plan
  induction plan with
  | nil => intro _ _ h _; cases h
  | cons p rest ih =>
    obtain ⟨i, f⟩ := p
    intro listed hc hq hup
    have step : planOk ops rest (listed.setIfInBounds i true) = true → (q, true) ∈ rest → False := fun h1 h2 => ih _ h1 h2 (getD_set_true hup)
    cases f with
    | true =>
      simp only [planOk, Bool.and_eq_true] at hc
      rcases List.mem_cons.1 hq with h | h
      · cases h
        have hr : q ∈ Region.ready .any ops listed := by simpa using hc.1.1
        have h0 := (mem_ready.1 hr).1
        rcases Nat.lt_or_ge q listed.size with h' | h'
        · simp [h'] at h0 hup; rw [h0] at hup; cases hup
        · simp [Array.getElem?_eq_none h'] at hup
      · exact step hc.2 h
    | false =>
      simp only [planOk, Bool.and_eq_true] at hc
      rcases List.mem_cons.1 hq with h | h
      · cases h
      · exact step hc.2 h
theorem RP.sound (hsel : Region.noSelect ops = true) {fl : List Nat} : ∀ (plan : List (Nat × Bool)) (listed : Array Bool) (τ : Fr) (a : Act) (w : World),
    Closed ops listed → planOk ops plan listed = true → (S w ∨ ∀ p ∈ plan, p.2 = true → p.1 ∉ fl) → RP P E n ops S fl plan K τ w → FrIs n ds a τ →
    AnyS P ops (regQ E n ds K) S fl plan.length listed a w := by
  intro plan
  induction plan with
  | nil =>
    intro listed τ a w _ hc _ h ha
    exact ⟨by simpa [planOk] using hc, τ, ha, h⟩
  | cons p rest ih =>
    obtain ⟨i, f⟩ := p
    cases f with
    | true =>
      intro listed τ a w hcl hc hS h ha
      obtain ⟨o, v, ho, hd, hy, h⟩ := h
      simp only [planOk, Bool.and_eq_true] at hc
      have hQ : ∀ c a w, regQ E n ds K (.panic c) (a.put o.dst v) w → regQ E n ds K (.panic c) a w := by
        rintro c a w ⟨⟨h1, h2⟩, h3⟩
        obtain ⟨p1, p2⟩ := put_size a o.dst v
        exact ⟨⟨p1 ▸ h1, p2 ▸ h2⟩, h3⟩
      have hSr : S w ∨ ∀ p ∈ rest, p.2 = true → p.1 ∉ fl := hS.imp id (fun h p hp => h p (by simp [hp]))
      by_cases hfl : i ∈ fl
      · have hS' : S w := hS.resolve_right (fun h => h (i, true) (by simp) rfl hfl)
        have hy' : YieldsIf P ops S o v a := by
          rcases hy with ⟨hw, hv⟩ | ⟨hw, hv⟩
          · exact .inl ⟨by rw [ha.wanted]; exact hw, fun w' hs => by rw [ha.ev]; exact hv w' (fun _ => hs)⟩
          · exact .inr ⟨by rw [ha.wanted]; exact hw, hv⟩
        exact AnyS.first ho hfl (Region.noSelect_spec hsel) hQ rest.length listed a w (Region.free_spec ho hc.1.2) hcl (by simpa using hc.1.1) hy' hS'
          (ih _ _ _ _ (hcl.set (by simpa using hc.1.1)) hc.2 hSr h (ha.put hd v))
      · have hy' : YieldsIf P ops (fun _ => True) o v a := by
          rcases hy with ⟨hw, hv⟩ | ⟨hw, hv⟩
          · exact .inl ⟨by rw [ha.wanted]; exact hw, fun w' _ => by rw [ha.ev]; exact hv w' (fun h => absurd h hfl)⟩
          · exact .inr ⟨by rw [ha.wanted]; exact hw, hv⟩
        exact AnyS.firstP ho (Region.noSelect_spec hsel) hQ rest.length listed a w (Region.free_spec ho hc.1.2) hcl (by simpa using hc.1.1) hy'
          (ih _ _ _ _ (hcl.set (by simpa using hc.1.1)) hc.2 hSr h (ha.put hd v))
    | false =>
      intro listed τ a w hcl hc hS h ha
      obtain ⟨o, ho, hd, hw, h⟩ := h
      simp only [planOk, Bool.and_eq_true, beq_iff_eq] at hc
      refine ⟨fun h0 => by rw [hc.1] at h0; simp at h0, fun j hj => ?_⟩
      rw [hc.1] at hj
      obtain rfl : j = i := by simpa using hj
      unfold wpOp
      simp only [ho]
      rw [ha.wanted, if_pos hw]
      refine .inl (OpK.wp (K := fun v w' => (lateB ops fl j = true ∨ S w') ∧ RP P E n ops S fl rest K (updo τ o.dst v) w') (by rw [ha.ev]; exact h) (fun v w' hr => ⟨fun _ => hr.1, ?_⟩) (fun ch w' he => ⟨⟨ha.1, ha.2.1⟩, he⟩))
      refine ih _ _ _ _ (hcl.set (by rw [hc.1]; simp)) hc.2 ?_ hr.2 (ha.put hd v)
      rcases hr.1 with hl | hs
      · refine .inr fun p hp hpt hjf => ?_
        obtain ⟨q, b⟩ := p
        simp only at hpt
        subst hpt
        have hready : j ∈ Region.ready .any ops listed := by rw [hc.1]; simp
        unfold lateB at hl
        have h1 := List.all_eq_true.1 hl q hjf
        obtain ⟨_, oj, hoj, hall⟩ := mem_ready.1 hready
        have hup := reach_up hcl _ j oj hoj hall h1
        exact planOk_up rest _ hc.2 hp (getD_set_true hup)
      · exact .inl hs
/-- A region that draws its order, by a plan. -/
theorem WP.draw {τ : Fr} {w : World} {id : Nat} (plan : List (Nat × Bool)) {fl : List Nat} (hm : P.follows .mixedOrders = true) (hsel : Region.noSelect ops = true)
    (hc : planOk ops plan (Array.replicate ops.size false) = true) (hlen : plan.length = ops.size)
    (hE : ∀ ch τ w, E ch w → Q (.panic ch) τ w) (hS : S { w with drawn := w.drawn + 1 })
    (h : RP P E n ops S fl plan (fun τ w => Q .normal τ w) τ { w with drawn := w.drawn + 1 }) : WP P n ds (.region id ops true) Q τ w := by
  intro a ha
  have h1 := RP.sound (ds := ds) hsel plan _ τ a _ (Closed.start _ _) hc (.inl hS) h ha
  rw [hlen] at h1
  refine Code.wp_mono ?_ (wp_region_any hm (AnyS.any _ _ _ _ h1))
  rintro e a' w' hq
  cases e with
  | normal => exact hq
  | panic ch => exact ⟨_, FrIs.any hq.1.1 hq.1.2, hE _ _ _ hq.2⟩
  | _ => exact hq.elim
end
/-- What a body is asked to come to. -/
def postQ (P : Program) (fn : Func) (R : Ending → World → Prop) : Post
  | .normal, τ, w | .ret, τ, w => ∃ v, (∀ n ds a, FrIs n ds a τ → (results fn a.tmps).run P w = .ok v w) ∧ R (.returned v) w
  | .panic ch, _, w => R (.panicked ch) w
  | _, _, _ => False
theorem frOf_is (l : List Value) (k : Nat) (ds : List Deferred) : FrIs (l.length + k) ds { tmps := l.toArray ++ Array.replicate k undef, defers := ds } (frOf l) := by
  refine ⟨by simp, rfl, fun s => ?_⟩
  unfold frOf
  simp only [Array.getD_eq_getD_getElem?, Array.getElem?_append, List.getD_eq_getElem?_getD, List.size_toArray, List.getElem?_toArray]
  by_cases h : s < l.length
  · simp [h]
  · rw [if_neg h, List.getElem?_eq_none (by omega)]
    by_cases h2 : s - l.length < k
    · simp [h2]
    · simp [h2]
theorem calls_enter {P : Program} {f : FuncId} {fn : Func} {c : Code} {l : List Value} {w : World} {R : Ending → World → Prop} {n : Nat} (hf : P.funcs[f]? = some fn) (hb : fn.body = some c)
    (hn : fn.ntmps = n) (hl : Nat.ble l.length n = true) (h : WP P n [] c (postQ P fn R) (frOf l) w) : Calls P f l.toArray w R := by
  refine calls_of_wp hf hb ?_
  have hle : l.length ≤ n := Nat.le_of_ble_eq_true hl
  have h1 := frOf_is l (n - l.length) []
  rw [Nat.add_sub_of_le hle] at h1
  rw [hn, List.size_toArray]
  refine Code.wp_mono ?_ (h _ h1)
  rintro e a' w' ⟨τ', hf', hq⟩
  cases e with
  | normal => obtain ⟨v, hv, hR⟩ := hq; exact ⟨hf'.2.1, v, hv _ _ _ hf', hR⟩
  | ret => obtain ⟨v, hv, hR⟩ := hq; exact ⟨hf'.2.1, v, hv _ _ _ hf', hR⟩
  | panic ch => exact ⟨hf'.2.1, hq⟩
  | _ => exact hq.elim
section
variable {P : Program} {fn : Func} {R : Ending → World → Prop} {τ : Fr} {w : World}
theorem post_ret1 {t : Nat} (h : fn.results = #[.tmp t]) {v : Value} (hv : τ t = v) (hR : R (.returned v) w) : postQ P fn R .ret τ w :=
  ⟨_, fun n ds a ha => by rw [results_tmp h, ha.2.2 t, hv], hR⟩
end
end Go.Al
namespace Go.Al
open Go Go.RowKit
set_option linter.unusedVariables false
set_option linter.unusedSimpArgs false
abbrev v8 (x : UInt8) : Value := .int .u8 (x.toNat : Int)
abbrev v32 (x : UInt32) : Value := .int .u32 (x.toNat : Int)
abbrev vI (n : Int) : Value := .int .i64 n
abbrev vU (n : Int) : Value := .int .u64 n
/-- The operation yields v in w, and leaves w. -/
def Val (P : Program) (ρ : Operand → Value) (w : World) (op : Op) (ty : TypeId) (v : Value) : Prop :=
  ∀ (o : Oper), o.op = op → o.type = ty → (execOp ρ o).run P w = .ok (.value v) w
/-- The operation yields v in w and comes to w'. -/
def Eff (P : Program) (ρ : Operand → Value) (w : World) (op : Op) (ty : TypeId) (v : Value) (w' : World) : Prop :=
  ∀ (o : Oper), o.op = op → o.type = ty → (execOp ρ o).run P w = .ok (.value v) w'
variable {P : Program} {ρ : Operand → Value} {w w' : World} {ty : TypeId}
theorem run_under {t : TypeId} {d : TypeDesc} (h : P.underlying t = some d) (w : World) : (underlying t).run P w = .ok d w := by
  simp [underlying, program, bind, Sem.bind, Sem.run, h, pure]
theorem run_info {t : TypeId} {i : TypeInfo} (h : P.info? t = some i) (w : World) : (typeInfo t).run P w = .ok i w := by
  simp [typeInfo, program, bind, Sem.bind, Sem.run, h, pure]
theorem run_bind' {α β : Type} {s : Sem α} {f : α → Sem β} {w w' : World} {a : α} (h : s.run P w = .ok a w') : (s >>= f).run P w = (f a).run P w' := by
  simp [Sem.run_bind, h, Result.andThen]
theorem val_move {x : Operand} {v : Value} (h : ρ x = v) : Val P ρ w (.move x) ty v := by
  intro o ho ht; simp [execOp, ho, h, pure]
theorem val_assign {x : Operand} {v : Value} (h : ρ x = v) : Val P ρ w (.assign x) ty v := by
  intro o ho ht; simp [execOp, ho, h, pure]
theorem val_pick_t {c x y : Operand} {v : Value} (hc : ρ c = .bool true) (h : ρ x = v) : Val P ρ w (.pick c x y) ty v := by
  intro o ho ht; simp [execOp, ho, hc, h, asBool, go_sem]
theorem val_pick_f {c x y : Operand} {v : Value} (hc : ρ c = .bool false) (h : ρ y = v) : Val P ρ w (.pick c x y) ty v := by
  intro o ho ht; simp [execOp, ho, hc, h, asBool, go_sem]
section ints
variable {k : IntKind} {x y : Operand} {t t' : TypeId} {p q : Int}
theorem val_add (hx : ρ x = .int k p) (hy : ρ y = .int k q) : Val P ρ w (.binOp .add t x y t') ty (.int k (k.wrap (p + q))) := by
  intro o ho ht; simp [execOp, ho, hx, hy, eqGuard, binOp, Op.intArith, go_sem]
theorem val_sub (hx : ρ x = .int k p) (hy : ρ y = .int k q) : Val P ρ w (.binOp .sub t x y t') ty (.int k (k.wrap (p - q))) := by
  intro o ho ht; simp [execOp, ho, hx, hy, eqGuard, binOp, Op.intArith, go_sem]
theorem val_mul (hx : ρ x = .int k p) (hy : ρ y = .int k q) : Val P ρ w (.binOp .mul t x y t') ty (.int k (k.wrap (p * q))) := by
  intro o ho ht; simp [execOp, ho, hx, hy, eqGuard, binOp, Op.intArith, go_sem]
theorem val_quo (hx : ρ x = .int k p) (hy : ρ y = .int k q) (hq : q ≠ 0) : Val P ρ w (.binOp .quo t x y t') ty (.int k (k.wrap (p.tdiv q))) := by
  intro o ho ht; simp [execOp, ho, hx, hy, eqGuard, binOp, Op.intDiv, go_sem, hq]
theorem val_rem (hx : ρ x = .int k p) (hy : ρ y = .int k q) (hq : q ≠ 0) : Val P ρ w (.binOp .rem t x y t') ty (.int k (p.tmod q)) := by
  intro o ho ht; simp [execOp, ho, hx, hy, eqGuard, binOp, Op.intDiv, go_sem, hq]
theorem val_lt (hx : ρ x = .int k p) (hy : ρ y = .int k q) : Val P ρ w (.binOp .lss t x y t') ty (.bool (decide (p < q))) := by
  intro o ho ht; simp [execOp, ho, hx, hy, eqGuard, binOp, Op.intCmp, go_sem]
theorem val_le (hx : ρ x = .int k p) (hy : ρ y = .int k q) : Val P ρ w (.binOp .leq t x y t') ty (.bool (decide (p ≤ q))) := by
  intro o ho ht; simp [execOp, ho, hx, hy, eqGuard, binOp, Op.intCmp, go_sem]
theorem val_gt (hx : ρ x = .int k p) (hy : ρ y = .int k q) : Val P ρ w (.binOp .gtr t x y t') ty (.bool (decide (q < p))) := by
  intro o ho ht; simp [execOp, ho, hx, hy, eqGuard, binOp, Op.intCmp, go_sem]
theorem val_ge (hx : ρ x = .int k p) (hy : ρ y = .int k q) : Val P ρ w (.binOp .geq t x y t') ty (.bool (decide (q ≤ p))) := by
  intro o ho ht; simp [execOp, ho, hx, hy, eqGuard, binOp, Op.intCmp, go_sem]
theorem val_eq (hx : ρ x = .int k p) (hy : ρ y = .int k q) : Val P ρ w (.binOp .eql t x y t') ty (.bool (decide (p = q))) := by
  intro o ho ht; simp [execOp, ho, hx, hy, eqGuard, binOp, Op.intCmp, go_sem]; rfl
theorem val_ne (hx : ρ x = .int k p) (hy : ρ y = .int k q) : Val P ρ w (.binOp .neq t x y t') ty (.bool (decide (p ≠ q))) := by
  intro o ho ht; simp [execOp, ho, hx, hy, eqGuard, binOp, Op.intCmp, go_sem, bne]; rfl
theorem val_shl {yk : IntKind} (hx : ρ x = .int k p) (hy : ρ y = .int yk q) (hq : 0 ≤ q) : Val P ρ w (.binOp .shl t x y t') ty (.int k (k.wrap (p * 2 ^ min q.toNat k.bits))) := by
  intro o ho ht; simp [execOp, ho, hx, hy, eqGuard, binOp, Op.shift, go_sem, Int.not_lt.2 hq]
theorem val_shr {yk : IntKind} (hx : ρ x = .int k p) (hy : ρ y = .int yk q) (hq : 0 ≤ q) : Val P ρ w (.binOp .shr t x y t') ty (.int k (p.fdiv (2 ^ min q.toNat k.bits))) := by
  intro o ho ht; simp [execOp, ho, hx, hy, eqGuard, binOp, Op.shift, go_sem, Int.not_lt.2 hq]
theorem val_and (hx : ρ x = .int k p) (hy : ρ y = .int k q) : Val P ρ w (.binOp .and t x y t') ty (.int k (k.wrap (BitVec.ofInt k.bits p &&& BitVec.ofInt k.bits q).toNat)) := by
  intro o ho ht; simp [execOp, ho, hx, hy, eqGuard, binOp, Op.intBits, go_sem]
theorem val_or (hx : ρ x = .int k p) (hy : ρ y = .int k q) : Val P ρ w (.binOp .or t x y t') ty (.int k (k.wrap (BitVec.ofInt k.bits p ||| BitVec.ofInt k.bits q).toNat)) := by
  intro o ho ht; simp [execOp, ho, hx, hy, eqGuard, binOp, Op.intBits, go_sem]
theorem val_xor (hx : ρ x = .int k p) (hy : ρ y = .int k q) : Val P ρ w (.binOp .xor t x y t') ty (.int k (k.wrap (BitVec.ofInt k.bits p ^^^ BitVec.ofInt k.bits q).toNat)) := by
  intro o ho ht; simp [execOp, ho, hx, hy, eqGuard, binOp, Op.intBits, go_sem]
end ints
section fits
variable {x y : Operand} {t t' : TypeId} {p q : Int}
theorem wrapI {n : Int} (h1 : -9223372036854775808 ≤ n) (h2 : n ≤ 9223372036854775807) : IntKind.i64.wrap n = n := by
  simp [IntKind.wrap, IntKind.bits, IntKind.signed]; omega
theorem wrapU {n : Int} (h1 : 0 ≤ n) (h2 : n ≤ 18446744073709551615) : IntKind.u64.wrap n = n := by
  simp [IntKind.wrap, IntKind.bits, IntKind.signed]; omega
theorem wrap32 {n : Int} (h1 : 0 ≤ n) (h2 : n ≤ 4294967295) : IntKind.u32.wrap n = n := by
  simp [IntKind.wrap, IntKind.bits, IntKind.signed]; omega
theorem val_addI (hx : ρ x = vI p) (hy : ρ y = vI q) (h : -9223372036854775808 ≤ p + q ∧ p + q ≤ 9223372036854775807) : Val P ρ w (.binOp .add t x y t') ty (vI (p + q)) := by
  have := val_add (P := P) (w := w) (ty := ty) (t := t) (t' := t') hx hy; rwa [wrapI h.1 h.2] at this
theorem val_subI (hx : ρ x = vI p) (hy : ρ y = vI q) (h : -9223372036854775808 ≤ p - q ∧ p - q ≤ 9223372036854775807) : Val P ρ w (.binOp .sub t x y t') ty (vI (p - q)) := by
  have := val_sub (P := P) (w := w) (ty := ty) (t := t) (t' := t') hx hy; rwa [wrapI h.1 h.2] at this
theorem val_mulI (hx : ρ x = vI p) (hy : ρ y = vI q) (h : -9223372036854775808 ≤ p * q ∧ p * q ≤ 9223372036854775807) : Val P ρ w (.binOp .mul t x y t') ty (vI (p * q)) := by
  have := val_mul (P := P) (w := w) (ty := ty) (t := t) (t' := t') hx hy; rwa [wrapI h.1 h.2] at this
theorem val_quoI (hx : ρ x = vI p) (hy : ρ y = vI q) (h : 0 ≤ p ∧ p ≤ 9223372036854775807 ∧ 0 < q) : Val P ρ w (.binOp .quo t x y t') ty (vI (p / q)) := by
  have := val_quo (P := P) (w := w) (ty := ty) (t := t) (t' := t') hx hy (by omega)
  rw [Int.tdiv_eq_ediv_of_nonneg h.1, wrapI (Int.le_trans (by omega) (Int.ediv_nonneg h.1 (by omega))) (Int.le_trans (Int.ediv_le_self _ h.1) h.2.1)] at this
  exact this
theorem val_remI (hx : ρ x = vI p) (hy : ρ y = vI q) (h : 0 ≤ p ∧ 0 < q) : Val P ρ w (.binOp .rem t x y t') ty (vI (p % q)) := by
  have := val_rem (P := P) (w := w) (ty := ty) (t := t) (t' := t') hx hy (by omega)
  rwa [Int.tmod_eq_emod_of_nonneg h.1] at this
theorem val_negI (hx : ρ x = vI p) (h : -9223372036854775807 ≤ p ∧ p ≤ 9223372036854775807) : Val P ρ w (.unOp .neg t x) ty (vI (-p)) := by
  intro o ho ht; simp [execOp, ho, hx, Op.unary, go_sem]
  simp [IntKind.wrap, IntKind.bits, IntKind.signed]; omega
theorem val_addU (hx : ρ x = vU p) (hy : ρ y = vU q) (h : 0 ≤ p + q ∧ p + q ≤ 18446744073709551615) : Val P ρ w (.binOp .add t x y t') ty (vU (p + q)) := by
  have := val_add (P := P) (w := w) (ty := ty) (t := t) (t' := t') hx hy; rwa [wrapU h.1 h.2] at this
theorem val_subU (hx : ρ x = vU p) (hy : ρ y = vU q) (h : 0 ≤ p - q ∧ p - q ≤ 18446744073709551615) : Val P ρ w (.binOp .sub t x y t') ty (vU (p - q)) := by
  have := val_sub (P := P) (w := w) (ty := ty) (t := t) (t' := t') hx hy; rwa [wrapU h.1 h.2] at this
theorem val_mulU (hx : ρ x = vU p) (hy : ρ y = vU q) (h : 0 ≤ p * q ∧ p * q ≤ 18446744073709551615) : Val P ρ w (.binOp .mul t x y t') ty (vU (p * q)) := by
  have := val_mul (P := P) (w := w) (ty := ty) (t := t) (t' := t') hx hy; rwa [wrapU h.1 h.2] at this
theorem val_remU (hx : ρ x = vU p) (hy : ρ y = vU q) (h : 0 ≤ p ∧ 0 < q) : Val P ρ w (.binOp .rem t x y t') ty (vU (p % q)) := by
  have := val_rem (P := P) (w := w) (ty := ty) (t := t) (t' := t') hx hy (by omega)
  rwa [Int.tmod_eq_emod_of_nonneg h.1] at this
/-- '& (2^m - 1)' on 64 bits. -/
theorem mask64 (p : Int) (m : Nat) (hm : m ≤ 63) : ((BitVec.ofInt 64 p &&& BitVec.ofInt 64 (2 ^ m - 1)).toNat : Int) = p % 2 ^ m := by
  have e1 : (BitVec.ofInt 64 (2 ^ m - 1)).toNat = 2 ^ m - 1 := by
    have hlt : (2:Nat) ^ m ≤ 2 ^ 63 := Nat.pow_le_pow_right (by omega) hm
    have hp : 0 < (2:Nat) ^ m := Nat.pow_pos (by omega)
    have : ((2:Int) ^ m - 1) = ((2 ^ m - 1 : Nat) : Int) := by
      rw [Int.ofNat_sub hp]; simp
    rw [this, BitVec.ofInt_natCast, BitVec.toNat_ofNat, Nat.mod_eq_of_lt (by omega)]
  rw [BitVec.toNat_and, e1, Nat.and_two_pow_sub_one_eq_mod, BitVec.toNat_ofInt]
  have hd : ((2:Int) ^ m) ∣ ((2:Int) ^ 64) := by
    refine ⟨2 ^ (64 - m), ?_⟩
    rw [← Int.pow_add]; congr 1; omega
  have hp : (0:Int) ≤ p % (2 ^ 64 : Nat) := Int.emod_nonneg _ (by decide)
  rw [Int.natCast_emod, Int.toNat_of_nonneg hp]
  have e3 : ((2 ^ m : Nat) : Int) = 2 ^ m := by simp
  have e4 : ((2 ^ 64 : Nat) : Int) = 2 ^ 64 := by simp
  rw [e3, e4]
  exact Int.emod_emod_of_dvd p hd
theorem val_maskI (m : Nat) (hm : m ≤ 62) (hx : ρ x = vI p) (hy : ρ y = vI (2 ^ m - 1)) : Val P ρ w (.binOp .and t x y t') ty (vI (p % 2 ^ m)) := by
  have h := val_and (P := P) (w := w) (ty := ty) (t := t) (t' := t') hx hy
  rw [show IntKind.i64.bits = 64 from rfl, mask64 p m (by omega)] at h
  have hp : (0:Int) < 2 ^ m := Int.pow_pos (by omega)
  have h1 := Int.emod_nonneg p (Int.ne_of_gt hp)
  have h2 := Int.emod_lt_of_pos p hp
  have h3 : (2:Int) ^ m ≤ 2 ^ 62 := by exact_mod_cast Nat.pow_le_pow_right (by omega) hm
  rwa [wrapI (by omega) (by omega)] at h
theorem val_maskU (m : Nat) (hm : m ≤ 62) (hx : ρ x = vU p) (hy : ρ y = vU (2 ^ m - 1)) : Val P ρ w (.binOp .and t x y t') ty (vU (p % 2 ^ m)) := by
  have h := val_and (P := P) (w := w) (ty := ty) (t := t) (t' := t') hx hy
  rw [show IntKind.u64.bits = 64 from rfl, mask64 p m (by omega)] at h
  have hp : (0:Int) < 2 ^ m := Int.pow_pos (by omega)
  have h1 := Int.emod_nonneg p (Int.ne_of_gt hp)
  have h2 := Int.emod_lt_of_pos p hp
  have h3 : (2:Int) ^ m ≤ 2 ^ 62 := by exact_mod_cast Nat.pow_le_pow_right (by omega) hm
  rwa [wrapU (by omega) (by omega)] at h
end fits
section u32
variable {x y : Operand} {t t' : TypeId} {a b : UInt32}
theorem ofInt32 (a : UInt32) : BitVec.ofInt 32 (a.toNat : Int) = a.toBitVec := by
  rw [BitVec.ofInt_natCast]; exact BitVec.ofNat_toNat _ _ 
theorem val_add32 (hx : ρ x = v32 a) (hy : ρ y = v32 b) : Val P ρ w (.binOp .add t x y t') ty (v32 (a + b)) := by
  have := val_add (P := P) (w := w) (ty := ty) (t := t) (t' := t') hx hy
  rwa [show IntKind.u32.wrap ((a.toNat : Int) + b.toNat) = ((a + b).toNat : Int) from by simp [IntKind.wrap, IntKind.bits, IntKind.signed, UInt32.toNat_add]] at this
theorem val_mul32 (hx : ρ x = v32 a) (hy : ρ y = v32 b) : Val P ρ w (.binOp .mul t x y t') ty (v32 (a * b)) := by
  have := val_mul (P := P) (w := w) (ty := ty) (t := t) (t' := t') hx hy
  rwa [show IntKind.u32.wrap ((a.toNat : Int) * b.toNat) = ((a * b).toNat : Int) from by simp [IntKind.wrap, IntKind.bits, IntKind.signed, UInt32.toNat_mul]] at this
theorem wrap_toNat32 (a : UInt32) : IntKind.u32.wrap (a.toNat : Int) = (a.toNat : Int) := wrap32 (by omega) (by have := a.toNat_lt; omega)
theorem val_and32 (hx : ρ x = v32 a) (hy : ρ y = v32 b) : Val P ρ w (.binOp .and t x y t') ty (v32 (a &&& b)) := by
  have := val_and (P := P) (w := w) (ty := ty) (t := t) (t' := t') hx hy
  rw [show IntKind.u32.bits = 32 from rfl, ofInt32, ofInt32] at this
  rwa [show ((a.toBitVec &&& b.toBitVec).toNat : Int) = ((a &&& b).toNat : Int) from rfl, wrap_toNat32] at this
theorem val_or32 (hx : ρ x = v32 a) (hy : ρ y = v32 b) : Val P ρ w (.binOp .or t x y t') ty (v32 (a ||| b)) := by
  have := val_or (P := P) (w := w) (ty := ty) (t := t) (t' := t') hx hy
  rw [show IntKind.u32.bits = 32 from rfl, ofInt32, ofInt32] at this
  rwa [show ((a.toBitVec ||| b.toBitVec).toNat : Int) = ((a ||| b).toNat : Int) from rfl, wrap_toNat32] at this
theorem val_xor32 (hx : ρ x = v32 a) (hy : ρ y = v32 b) : Val P ρ w (.binOp .xor t x y t') ty (v32 (a ^^^ b)) := by
  have := val_xor (P := P) (w := w) (ty := ty) (t := t) (t' := t') hx hy
  rw [show IntKind.u32.bits = 32 from rfl, ofInt32, ofInt32] at this
  rwa [show ((a.toBitVec ^^^ b.toBitVec).toNat : Int) = ((a ^^^ b).toNat : Int) from rfl, wrap_toNat32] at this
theorem not32_eq (a : UInt32) : (4294967295 : UInt32) ^^^ a = ~~~a := by
  apply UInt32.eq_of_toBitVec_eq
  have h : BitVec.allOnes 32 ^^^ a.toBitVec = ~~~a.toBitVec := BitVec.not_def.symm
  exact h
theorem val_not32 (hx : ρ x = v32 a) : Val P ρ w (.unOp .xor t x) ty (v32 (~~~a)) := by
  intro o ho ht
  have h : (Op.unary .xor (v32 a)).run P w = .ok (v32 (~~~a)) w := by
    have e : IntKind.u32.wrap (((BitVec.ofInt 32 ((4294967295 : UInt32).toNat : Int)) ^^^ (BitVec.ofInt 32 (a.toNat : Int))).toNat : Int) = ((~~~a).toNat : Int) := by
      rw [ofInt32, ofInt32, show (((4294967295 : UInt32).toBitVec ^^^ a.toBitVec).toNat : Int) = (((4294967295 : UInt32) ^^^ a).toNat : Int) from rfl, wrap_toNat32, not32_eq]
    exact congrArg (fun n => Result.ok (Value.int .u32 n) w) e
  simp only [execOp, ho, hx]
  rw [run_bind' h]; rfl
/-- a shift to the left, by a count that fits. -/
theorem val_shl32 {yk : IntKind} {q : Int} (c : UInt32) (hx : ρ x = v32 a) (hy : ρ y = .int yk q) (hc : q = c.toNat) (hlt : c < 32) : Val P ρ w (.binOp .shl t x y t') ty (v32 (a <<< c)) := by
  have h := val_shl (P := P) (w := w) (ty := ty) (t := t) (t' := t') hx hy (by omega)
  have hlt' : c.toNat < 32 := hlt
  rw [hc, Int.toNat_natCast, show IntKind.u32.bits = 32 from rfl, Nat.min_eq_left (by omega)] at h
  have e : IntKind.u32.wrap ((a.toNat : Int) * 2 ^ c.toNat) = ((a <<< c).toNat : Int) := by
    simp [IntKind.wrap, IntKind.bits, IntKind.signed, UInt32.toNat_shiftLeft, Nat.shiftLeft_eq, Nat.mod_eq_of_lt hlt']
  rwa [e] at h
theorem val_shr32 {yk : IntKind} {q : Int} (c : UInt32) (hx : ρ x = v32 a) (hy : ρ y = .int yk q) (hc : q = c.toNat) (hlt : c < 32) : Val P ρ w (.binOp .shr t x y t') ty (v32 (a >>> c)) := by
  have h := val_shr (P := P) (w := w) (ty := ty) (t := t) (t' := t') hx hy (by omega)
  have hlt' : c.toNat < 32 := hlt
  rw [hc, Int.toNat_natCast, show IntKind.u32.bits = 32 from rfl, Nat.min_eq_left (by omega)] at h
  have e : (a.toNat : Int).fdiv (2 ^ c.toNat) = ((a >>> c).toNat : Int) := by
    rw [Int.fdiv_eq_ediv_of_nonneg _ (by exact Int.le_of_lt (Int.pow_pos (by omega)))]
    simp [UInt32.toNat_shiftRight, Nat.shiftRight_eq_div_pow, Nat.mod_eq_of_lt hlt']
  rwa [e] at h
end u32
section others
variable {x y : Operand} {t t' : TypeId}
theorem val_conv {k k' : IntKind} {p : Int} {src dst : TypeId} {d : TypeDesc} (hs : P.underlying src = some d) (hd : P.underlying dst = some (.int k')) (hx : ρ x = .int k p) : Val P ρ w (.convert src dst x) ty (.int k' (k'.wrap p)) := by
  intro o ho ht
  simp only [execOp, ho, hx]
  have : (convert src dst (.int k p)).run P w = .ok (.int k' (k'.wrap p)) w := by
    unfold convert
    rw [run_bind' (run_under hs w), run_bind' (run_under hd w)]
    simp [Conv.intToInt, go_sem]
  rw [run_bind' this]; rfl
theorem val_extract {i : Nat} {vs : Array Value} {v : Value} (hx : ρ x = .tuple vs) (h : vs[i]? = some v) : Val P ρ w (.extract x i) ty v := by
  intro o ho ht; simp [execOp, ho, hx, Instr.extract, h, go_sem]
theorem val_not {b : Bool} (hx : ρ x = .bool b) : Val P ρ w (.unOp .not t x) ty (.bool (!b)) := by
  intro o ho ht; simp [execOp, ho, hx, Op.unary, go_sem]
theorem val_nilCheck {a : Addr} (hx : ρ x = .pointer (some a)) : Val P ρ w (.nilCheck x) ty (.pointer (some a)) := by
  intro o ho ht; simp [execOp, ho, hx, go_sem]
end others
end Go.Al
namespace Go.Al
open Go Go.RowKit
set_option linter.unusedVariables false
set_option linter.unusedSimpArgs false
/-- Is it a struct or an array; how many cells. -/
def aggB (P : Program) (t : TypeId) : Option (Bool × Nat) :=
  match P.underlying t, P.info? t with
  | some (.struct _), some i => some (true, i.size)
  | some (.array _ _), some i => some (true, i.size)
  | some _, some i => some (false, i.size)
  | _, _ => none
theorem run_isAgg {P : Program} {t : TypeId} {b : Bool} {n : Nat} (h : aggB P t = some (b, n)) (w : World) : (isAgg t).run P w = .ok b w := by
  unfold aggB at h
  unfold isAgg
  cases hu : P.underlying t with
  | none => simp [hu] at h
  | some d =>
    rw [run_bind' (run_under hu w)]
    cases hi : P.info? t with
    | none => rw [hu, hi] at h; cases d <;> simp at h
    | some i => rw [hu, hi] at h; cases d <;> simp at h <;> simp [h.1, pure, Sem.run]
theorem run_sizeOf {P : Program} {t : TypeId} {b : Bool} {n : Nat} (h : aggB P t = some (b, n)) (w : World) : (sizeOf t).run P w = .ok n w := by
  unfold aggB at h
  unfold sizeOf
  cases hi : P.info? t with
  | none => cases hu : P.underlying t with
    | none => simp [hu] at h
    | some d => rw [hu, hi] at h; cases d <;> simp at h
  | some i =>
    rw [run_bind' (run_info hi w)]
    cases hu : P.underlying t with
    | none => simp [hu] at h
    | some d => rw [hu, hi] at h; cases d <;> simp at h <;> simp [h.2, pure, Sem.run]
/-- A row of cells, whatever is frozen of it. -/
def RowF (w : World) (b : Nat) (cs : Array Value) : Prop := ∃ t fr, w.heap[b]? = some (.cells cs t fr)
theorem RowF.cell {w : World} {b : Nat} {cs : Array Value} (h : RowF w b cs) (i : Nat) : w.cell? ⟨b, i, none⟩ = cs[i]? := by
  obtain ⟨t, fr, h⟩ := h
  simp [World.cell?, h]
theorem add_mk (b off n : Nat) : (⟨b, off, none⟩ : Addr).add n = ⟨b, off + n, none⟩ := by
  unfold Addr.add; split
  · rename_i h; simp [h]
  · rfl
theorem run_load {P : Program} {w : World} {b : Nat} {cs : Array Value} (h : RowF w b cs) {i : Nat} {v : Value} (hv : cs[i]? = some v) : (load ⟨b, i, none⟩).run P w = .ok v w := by
  simp [load, Sem.run, h.cell, hv]
theorem run_loadCellsFrom {P : Program} {w : World} {b : Nat} {cs : Array Value} (h : RowF w b cs) (off : Nat) : ∀ (n i : Nat) (acc : Array Value), off + i + n ≤ cs.size →
    (loadCellsFrom ⟨b, off, none⟩ i n acc).run P w = .ok (acc ++ cs.extract (off + i) (off + i + n)) w := by
  intro n
  induction n with
  | zero => intro i acc hn; simp [loadCellsFrom, pure, Sem.run]; omega
  | succ n ih =>
    intro i acc hn
    unfold loadCellsFrom
    rw [add_mk, run_bind' (run_load h (v := cs[off + i]'(by omega)) (by simp)), ih (i + 1) _ (by omega)]
    congr 1
    apply Array.ext
    · simp; omega
    · intro j h1 h2
      simp only [Array.getElem_append, Array.getElem_push, Array.size_push, Array.getElem_extract]
      by_cases hj : j < acc.size
      · simp [hj]; intro h3; omega
      · by_cases hj2 : j = acc.size
        · subst hj2; simp
        · have : ¬ j < acc.size + 1 := by omega
          simp [hj, this]
          congr 1; omega
theorem run_loadCells {P : Program} {w : World} {b : Nat} {cs : Array Value} (h : RowF w b cs) (off n : Nat) (hn : off + n ≤ cs.size) :
    (loadCells ⟨b, off, none⟩ n).run P w = .ok (cs.extract off (off + n)) w := by
  unfold loadCells
  rw [run_loadCellsFrom h off n 0 #[] (by omega)]
  simp
/-- A row, its cells as a list. -/
def RowL (w : World) (b : Nat) (l : List Value) : Prop := RowF w b l.toArray
/-- A row that may be written. -/
def Row (w : World) (b : Nat) (l : List Value) (t : TypeId) : Prop := w.heap[b]? = some (.cells l.toArray t (0, 0))
theorem Row.l {w : World} {b : Nat} {l : List Value} {t : TypeId} (h : Row w b l t) : RowL w b l := ⟨t, (0, 0), h⟩
theorem Row.lt {w : World} {b : Nat} {l : List Value} {t : TypeId} (h : Row w b l t) : b < w.heap.size := (Array.getElem?_eq_some_iff.1 h).1
theorem RowL.lt {w : World} {b : Nat} {l : List Value} (h : RowL w b l) : b < w.heap.size := by
  obtain ⟨t, fr, h⟩ := h; exact (Array.getElem?_eq_some_iff.1 h).1
/-- What a variable of so many cells reads as. -/
def rd (agg : Bool) (l : List Value) (off n : Nat) : Value := bif agg then .agg ((l.drop off).take n).toArray else l.getD off undef
theorem run_loadVar {P : Program} {w : World} {b off n : Nat} {l : List Value} {t : TypeId} {agg : Bool} (h : RowL w b l) (ht : aggB P t = some (agg, n)) (hn : off + n ≤ l.length) (h0 : 0 < n) :
    (loadVar t ⟨b, off, none⟩).run P w = .ok (rd agg l off n) w := by
  unfold loadVar
  rw [run_bind' (run_isAgg ht w)]
  cases agg with
  | true =>
    simp only [if_true]
    rw [run_bind' (run_sizeOf ht w), run_bind' (run_loadCells h off n (by simpa using hn))]
    simp [rd, pure, Sem.run]
  | false =>
    simp only [Bool.false_eq_true, if_false]
    rw [run_load h (v := l[off]'(by omega)) (by simp)]
    simp [rd, show off < l.length from by omega]
/-- A value of one cell. -/
def _root_.Go.Value.one : Value → Bool
  | .agg _ => false
  | .tuple _ => false
  | _ => true
/-- vs laid over l from off on. -/
def spl (l : List Value) (off : Nat) (vs : List Value) : List Value := l.take off ++ vs ++ l.drop (off + vs.length)
@[simp] theorem spl_length {l : List Value} {off : Nat} {vs : List Value} (h : off + vs.length ≤ l.length) : (spl l off vs).length = l.length := by
  simp [spl]; omega
theorem spl_nil (l : List Value) (off : Nat) : spl l off [] = l := by simp [spl]
theorem spl_set (l : List Value) (off : Nat) (v : Value) (vs : List Value) (h : off < l.length) : spl (l.set off v) (off + 1) vs = spl l off (v :: vs) := by
  unfold spl
  have e1 : (l.set off v).take (off + 1) = l.take off ++ [v] := by
    rw [List.take_succ_eq_append_getElem (by simpa using h), List.take_set, List.set_eq_of_length_le (by simp; omega)]
    simp
  have e2 : (l.set off v).drop (off + 1 + vs.length) = l.drop (off + (vs.length + 1)) := by
    rw [List.drop_set_of_lt (by omega)]; congr 1; omega
  rw [e1, e2]
  simp
/-- The world with a row's cells written anew. -/
def setB (w : World) (b : Nat) (l : List Value) (t : TypeId) : World := { w with heap := w.heap.setIfInBounds b (.cells l.toArray t (0, 0)) }
theorem setB_size (w : World) (b : Nat) (l : List Value) (t : TypeId) : (setB w b l t).heap.size = w.heap.size := by simp [setB]
theorem setB_same {w : World} {b : Nat} {l : List Value} {t : TypeId} (h : b < w.heap.size) : Row (setB w b l t) b l t := by
  simp [Row, setB, h]
theorem setB_other {w : World} {b c : Nat} {l : List Value} {t : TypeId} (h : c ≠ b) : (setB w b l t).heap[c]? = w.heap[c]? := by
  simp [setB, Array.getElem?_setIfInBounds_ne (Ne.symm h)]
theorem setB_setB (w : World) (b : Nat) (l l' : List Value) (t : TypeId) : setB (setB w b l t) b l' t = setB w b l' t := by
  unfold setB
  congr 1
  apply Array.ext_getElem?
  intro i
  simp only [Array.getElem?_setIfInBounds, Array.size_setIfInBounds]
  by_cases e : b = i
  · subst e
    by_cases h : b < w.heap.size <;> simp [h]
  · simp [e]
theorem setB_self {w : World} {b : Nat} {l : List Value} {t : TypeId} (h : Row w b l t) : setB w b l t = w := by
  have hlt := h.lt
  have : w.heap.setIfInBounds b (.cells l.toArray t (0, 0)) = w.heap := by
    apply Array.ext_getElem?
    intro i
    simp only [Array.getElem?_setIfInBounds]
    by_cases e : b = i
    · subst e; rw [if_pos rfl, if_pos hlt]; exact h.symm
    · rw [if_neg e]
  unfold setB
  rw [this]
theorem setCell_row {w : World} {b off : Nat} {l : List Value} {t : TypeId} (h : Row w b l t) (v : Value) : w.setCell ⟨b, off, none⟩ v = setB w b (l.set off v) t := by
  unfold World.setCell setB
  congr 1
  have hlt := h.lt
  apply Array.ext_getElem?
  intro i
  simp only [Array.getElem?_modify, Array.getElem?_setIfInBounds]
  by_cases e : b = i
  · subst e
    have := h; unfold Row at this
    rw [Array.getElem?_eq_getElem hlt] at this
    have hb := Option.some.inj this
    simp [hb, hlt]
  · simp [e]
theorem run_store {P : Program} {w : World} {b off : Nat} {l : List Value} {t : TypeId} (h : Row w b l t) (ho : off < l.length) {v : Value} (hv : v.one = true) :
    (store ⟨b, off, none⟩ v).run P w = .ok () (setB w b (l.set off v) t) := by
  have hc : w.cell? ⟨b, off, none⟩ = some l[off] := by rw [h.l.cell]; simp [ho]
  have hf : w.frozen? ⟨b, off, none⟩ = false := by
    have := h; unfold Row at this; simp [World.frozen?, this]
  cases v <;> first | (simp [Value.one] at hv; done) | simp [store, Sem.run, hc, hf, setCell_row h]
theorem run_storeCells {P : Program} {b off : Nat} {t : TypeId} : ∀ (vs : List Value) (i : Nat) (w : World) (l : List Value), Row w b l t → off + i + vs.length ≤ l.length → (∀ v ∈ vs, v.one = true) →
    (storeCells ⟨b, off, none⟩ vs i).run P w = .ok () (setB w b (spl l (off + i) vs) t) := by
  intro vs
  induction vs with
  | nil => intro i w l h _ _; simp [storeCells, pure, Sem.run, spl_nil, setB_self h]
  | cons v vs ih =>
    intro i w l h hn hv
    simp only [List.length_cons] at hn
    unfold storeCells
    rw [add_mk, run_bind' (run_store h (by omega) (hv v (by simp)))]
    rw [ih (i + 1) _ (l.set (off + i) v) (setB_same h.lt) (by simp; omega) (fun u hu => hv u (by simp [hu])), setB_setB]
    rw [show off + (i + 1) = off + i + 1 from rfl, spl_set _ _ _ _ (by omega)]
theorem run_storeVar {P : Program} {w : World} {b off n : Nat} {l : List Value} {t ty : TypeId} {agg : Bool} {v : Value} {vs : List Value} (h : Row w b l ty) (ht : aggB P t = some (agg, n)) (hc : v.cells = vs.toArray)
    (hl : vs.length = n) (hn : off + n ≤ l.length) (hv : ∀ v ∈ vs, v.one = true) : (storeVar t ⟨b, off, none⟩ v).run P w = .ok () (setB w b (spl l off vs) ty) := by
  unfold storeVar
  rw [run_bind' (run_sizeOf ht w), hc]
  simp only [List.size_toArray, hl, ne_eq, not_true_eq_false, if_false, pure_bind]
  have := run_storeCells (P := P) (off := off) vs 0 w l h (by omega) hv
  simpa using this
section
variable {P : Program} {ρ : Operand → Value} {w w' : World} {ty : TypeId}
theorem val_load {x : Operand} {t : TypeId} {agg : Bool} {b off n : Nat} {l : List Value} (hx : ρ x = .pointer (some ⟨b, off, none⟩)) (ht : aggB P t = some (agg, n)) (h : RowL w b l) (hn : off + n ≤ l.length) (h0 : 0 < n) :
    Val P ρ w (.load t x) ty (rd agg l off n) := by
  intro o ho hty
  simp only [execOp, ho, hx, Instr.loadAt, Instr.sureAddr]
  have : ((do loadVar t (← (pure (⟨b, off, none⟩ : Addr) : Sem Addr)) : Sem Value)).run P w = .ok (rd agg l off n) w := by
    simp only [pure_bind]; exact run_loadVar h ht hn h0
  rw [run_bind' this]; rfl
/-- The operation comes to w' and yields nothing. -/
def Skp (P : Program) (ρ : Operand → Value) (w : World) (op : Op) (ty : TypeId) (w' : World) : Prop :=
  ∀ (o : Oper), o.op = op → o.type = ty → (execOp ρ o).run P w = .ok .skip w'
theorem skp_store {x y : Operand} {t te : TypeId} {agg : Bool} {b off n : Nat} {l vs : List Value} {v : Value} (hx : ρ x = .pointer (some ⟨b, off, none⟩)) (hy : ρ y = v) (ht : aggB P t = some (agg, n)) (h : Row w b l te)
    (hc : v.cells = vs.toArray) (hl : vs.length = n) (hn : off + n ≤ l.length) (hv : ∀ v ∈ vs, v.one = true) :
    Skp P ρ w (.store t x y) ty (setB w b (spl l off vs) te) := by
  intro o ho hty
  simp only [execOp, ho, hx, hy, Instr.storeAt, Instr.sureAddr]
  have : ((do storeVar t (← (pure (⟨b, off, none⟩ : Addr) : Sem Addr)) v : Sem Unit)).run P w = .ok () (setB w b (spl l off vs) te) := by
    simp only [pure_bind]; exact run_storeVar h ht hc hl hn hv
  rw [run_bind' this]; rfl
/-- A new block that holds a value. -/
theorem eff_box {x : Operand} {t : TypeId} {v : Value} (hx : ρ x = v) : Eff P ρ w (.box t x) ty (.pointer (some ⟨w.heap.size, 0, none⟩)) (w.alloc (.cells v.cells t)) := by
  intro o ho hty
  simp [execOp, ho, hx, Instr.box, newVar, newRow, go_sem]
theorem eff_alloc {t : TypeId} {i : TypeInfo} {z : Value} (hi : P.info? t = some i) (hz : i.zero = some z) : Eff P ρ w (.alloc t) ty (.pointer (some ⟨w.heap.size, 0, none⟩)) (w.alloc (.cells z.cells t)) := by
  intro o ho hty
  simp [execOp, ho, Instr.alloc, newVar, newRow, zeroValue, go_sem, run_info hi, hz]
end
end Go.Al
namespace Go.Al
open Go Go.RowKit
set_option linter.unusedVariables false
set_option linter.unusedSimpArgs false
/-- A field's offset, if the field has cells. -/
def fieldOff (P : Program) (t : TypeId) (f : Nat) : Option Nat :=
  match P.underlying t with
  | some (.struct fs) => (fs[f]?).bind fun fd => (P.info? fd.type).bind fun i => if i.size = 0 then none else some fd.offset
  | _ => none
/-- A field's type and offset. -/
def fieldTy (P : Program) (t : TypeId) (f : Nat) : Option (TypeId × Nat) :=
  match P.underlying t with
  | some (.struct fs) => (fs[f]?).map fun fd => (fd.type, fd.offset)
  | _ => none
/-- A slice's element: how many cells. -/
def elemSl (P : Program) (t : TypeId) : Option Nat :=
  match P.underlying t with
  | some (.slice e) => (P.info? e).map (·.size)
  | _ => none
/-- An array: how many elements, of how many cells. -/
def elemAr (P : Program) (t : TypeId) : Option (Nat × Nat) :=
  match P.underlying t with
  | some (.array n e) => (P.info? e).map fun i => (n, i.size)
  | _ => none
theorem run_size' {P : Program} {t : TypeId} {i : TypeInfo} (h : P.info? t = some i) (w : World) : (sizeOf t).run P w = .ok i.size w := by
  unfold sizeOf; rw [run_bind' (run_info h w)]; rfl
section
variable {P : Program} {ρ : Operand → Value} {w : World} {ty : TypeId} {x y : Operand}
theorem fin_val {s : Sem Value} {v : Value} (h : s.run P w = .ok v w) : (s >>= fun v => (pure (Next.value v) : Sem Next)).run P w = .ok (.value v) w := by
  rw [run_bind' h]; rfl
theorem val_fieldAddr {t : TypeId} {f b off d : Nat} (hx : ρ x = .pointer (some ⟨b, off, none⟩)) (hf : fieldOff P t f = some d) : Val P ρ w (.fieldAddr t x f) ty (.pointer (some ⟨b, off + d, none⟩)) := by
  intro o ho ht
  simp only [execOp, ho, hx]
  refine fin_val ?_
  unfold fieldOff at hf
  unfold Instr.fieldAt
  split at hf
  · rename_i fs hu
    rw [run_bind' (run_under hu w)]
    simp only
    cases hfd : fs[f]? with
    | none => rw [hfd] at hf; simp at hf
    | some fd =>
      rw [hfd] at hf
      simp only [Option.bind_some] at hf
      cases hi : P.info? fd.type with
      | none => rw [hi] at hf; simp at hf
      | some i =>
        rw [hi] at hf
        simp only [Option.bind_some] at hf
        split at hf
        · simp at hf
        · rename_i h0
          simp only [Option.some.injEq] at hf
          simp only [Instr.sureAddr, pure_bind]
          have : (fieldPlace ⟨b, off, none⟩ fd).run P w = .ok ⟨b, off + d, none⟩ w := by
            unfold fieldPlace
            rw [run_bind' (run_size' hi w), if_neg h0, add_mk, hf]; rfl
          rw [run_bind' this]; rfl
  · simp at hf
theorem val_indexSl {t : TypeId} {k : IntKind} {b off n cap sz : Nat} {i : Int} (hx : ρ x = .slice (some ⟨b, off, none⟩) n cap) (hy : ρ y = .int k i) (ht : elemSl P t = some sz) (h : 0 ≤ i ∧ i < n) :
    Val P ρ w (.indexAddr t x y) ty (.pointer (some ⟨b, off + i.toNat * sz, none⟩)) := by
  intro o ho hty
  simp only [execOp, ho, hx, hy]
  refine fin_val ?_
  unfold elemSl at ht
  split at ht
  · rename_i e hu
    cases hi : P.info? e with
    | none => rw [hi] at ht; simp at ht
    | some inf =>
      rw [hi] at ht
      simp only [Option.map_some, Option.some.injEq] at ht
      unfold Instr.indexAt
      simp only [asIntOf, pure_bind]
      rw [run_bind' (run_under hu w)]
      simp only [pure_bind]
      split
      · rw [run_bind' (run_under hu w), run_bind' (run_size' hi w), ht, add_mk]; rfl
      · rename_i hn; exact absurd h hn
  · simp at ht
theorem val_indexAr {t : TypeId} {k : IntKind} {b off n sz : Nat} {i : Int} (hx : ρ x = .pointer (some ⟨b, off, none⟩)) (hy : ρ y = .int k i) (ht : elemAr P t = some (n, sz)) (h : 0 ≤ i ∧ i < n) :
    Val P ρ w (.indexAddr t x y) ty (.pointer (some ⟨b, off + i.toNat * sz, none⟩)) := by
  intro o ho hty
  simp only [execOp, ho, hx, hy]
  refine fin_val ?_
  unfold elemAr at ht
  split at ht
  · rename_i n' e hu
    cases hi : P.info? e with
    | none => rw [hi] at ht; simp at ht
    | some inf =>
      rw [hi] at ht
      simp only [Option.map_some, Option.some.injEq, Prod.mk.injEq] at ht
      obtain ⟨rfl, rfl⟩ := ht
      unfold Instr.indexAt
      simp only [asIntOf, pure_bind]
      rw [run_bind' (run_under hu w)]
      simp only [pure_bind, Instr.sureAddr]
      split
      · rw [run_bind' (run_under hu w), run_bind' (run_size' hi w), add_mk]; rfl
      · rename_i hn; exact absurd h hn
  · simp at ht
/-- an element of an array value. -/
theorem val_index1 {t : TypeId} {k : IntKind} {n : Nat} {i : Int} {l : List Value} {v : Value} {te : TypeId} (hx : ρ x = .agg l.toArray) (hy : ρ y = .int k i) (ht : P.underlying t = some (.array n te)) (hte : aggB P te = some (false, 1)) (h : 0 ≤ i ∧ i < n)
    (hv : l[i.toNat]? = some v) : Val P ρ w (.index t x y) ty v := by
  intro o ho hty
  simp only [execOp, ho, hx, hy]
  refine fin_val ?_
  unfold Instr.index
  simp only [asIntOf, pure_bind]
  rw [run_bind' (run_under ht w)]
  simp only [h, and_self, if_true]
  rw [run_bind' (run_sizeOf hte w)]
  unfold part
  rw [run_bind' (run_isAgg hte w)]
  simp [hv, pure, Sem.run]
theorem val_indexStr {t : TypeId} {k : IntKind} {s : ByteArray} {i : Int} {c : UInt8} (hx : ρ x = .string s) (hy : ρ y = .int k i) (ht : P.underlying t = some .string) (h0 : 0 ≤ i) (hc : s[i.toNat]? = some c) : Val P ρ w (.index t x y) ty (v8 c) := by
  intro o ho hty
  simp only [execOp, ho, hx, hy]
  refine fin_val ?_
  unfold Instr.index
  simp only [asIntOf, pure_bind]
  rw [run_bind' (run_under ht w)]
  simp [h0, hc, pure, Sem.run]
theorem val_lenSl {t : TypeId} {tys : Array TypeId} {a : Option Addr} {n cap : Nat} {e : TypeId} (htys : tys[0]? = some t) (ht : P.underlying t = some (.slice e)) (hx : ρ x = .slice a n cap) :
    Val P ρ w (.call { callee := .builtin .len, args := #[x], argTypes := tys }) ty (vI n) := by
  intro o ho hty
  simp [execOp, ho, resolve, hx, invoke, builtin, Builtin.len_, htys, go_sem, run_under ht, goInt]
theorem val_capSl {t : TypeId} {tys : Array TypeId} {a : Option Addr} {n cap : Nat} {e : TypeId} (htys : tys[0]? = some t) (ht : P.underlying t = some (.slice e)) (hx : ρ x = .slice a n cap) :
    Val P ρ w (.call { callee := .builtin .cap, args := #[x], argTypes := tys }) ty (vI cap) := by
  intro o ho hty
  simp [execOp, ho, resolve, hx, invoke, builtin, Builtin.cap_, htys, go_sem, run_under ht, goInt]
/-- where a slice of a slice begins. -/
def slo (off l m sz : Nat) : Nat := if m = l then off else off + l * sz
theorem run_bound {v : Value} {k : IntKind} {i : Int} {c : Nat} {code : BoundsCode} (hv : v = .int k i) (h : 0 ≤ i ∧ i ≤ c) : (Instr.sliceBound v c code).run P w = .ok i.toNat w := by
  subst hv
  unfold Instr.sliceBound
  simp [asIntOf, h, pure, Sem.run]
/-- x[l:h:m] of a slice, its bounds given or not. -/
theorem val_slice {t : TypeId} {sz b off n cap l h m : Nat} {lo hi mx : Option Operand} {e : TypeId} (hx : ρ x = .slice (some ⟨b, off, none⟩) n cap) (ht : P.underlying t = some (.slice e)) (hsz : elemSl P t = some sz)
    (hl : match lo with | some y => ∃ k i, ρ y = .int k i ∧ 0 ≤ i ∧ i.toNat = l | none => l = 0) (hh : match hi with | some y => ∃ k i, ρ y = .int k i ∧ 0 ≤ i ∧ i.toNat = h | none => h = n ∧ mx = none)
    (hm : match mx with | some y => ∃ k i, ρ y = .int k i ∧ 0 ≤ i ∧ i.toNat = m | none => m = cap) (h1 : l ≤ h) (h2 : h ≤ m) (h3 : m ≤ cap) :
    Val P ρ w (.slice t x lo hi mx) ty (.slice (some ⟨b, slo off l m sz, none⟩) (h - l) (m - l)) := by
  intro o ho hty
  simp only [execOp, ho, hx]
  refine fin_val ?_
  unfold elemSl at hsz
  rw [ht] at hsz
  simp only at hsz
  cases hi' : P.info? e with
  | none => rw [hi'] at hsz; simp at hsz
  | some inf =>
    rw [hi'] at hsz
    simp only [Option.map_some, Option.some.injEq] at hsz
    unfold Instr.sliceAt
    rw [run_bind' (run_under ht w)]
    simp only
    unfold Instr.slice
    rw [run_bind' (run_under ht w)]
    simp only
    have hb : (Instr.sliceBounds true n cap (lo.map ρ) (hi.map ρ) (mx.map ρ)).run P w = .ok (l, h, m) w := by
      unfold Instr.sliceBounds
      cases mx with
      | none =>
        simp only at hm
        subst hm
        simp only [Option.map_none, pure_bind]
        cases hi with
        | none =>
          simp only at hh
          obtain ⟨rfl, _⟩ := hh
          simp only [Option.map_none, pure_bind]
          cases lo with
          | none => simp only at hl; subst hl; rfl
          | some y =>
            obtain ⟨k, i, hy, h0, hi2⟩ := hl
            simp only [Option.map_some]
            rw [run_bind' (run_bound hy ⟨h0, by omega⟩), hi2]; rfl
        | some z =>
          obtain ⟨k, i, hy, h0, hi2⟩ := hh
          simp only [Option.map_some]
          rw [run_bind' (run_bound hy ⟨h0, by omega⟩), hi2]
          cases lo with
          | none => simp only at hl; subst hl; rfl
          | some y =>
            obtain ⟨k, i, hy, h0, hi3⟩ := hl
            simp only [Option.map_some]
            rw [run_bind' (run_bound hy ⟨h0, by omega⟩), hi3]; rfl
      | some u =>
        obtain ⟨k, i, hy, h0, hi2⟩ := hm
        simp only [Option.map_some]
        rw [run_bind' (run_bound hy ⟨h0, by omega⟩), hi2]
        cases hi with
        | none => exact absurd hh.2 (by simp)
        | some z =>
          obtain ⟨k, i, hy, h0, hi3⟩ := hh
          simp only [Option.map_some]
          rw [run_bind' (run_bound hy ⟨h0, by omega⟩), hi3]
          cases lo with
          | none => simp only at hl; subst hl; rfl
          | some y =>
            obtain ⟨k, i, hy, h0, hi4⟩ := hl
            simp only [Option.map_some]
            rw [run_bind' (run_bound hy ⟨h0, by omega⟩), hi4]; rfl
    rw [run_bind' hb, run_bind' (run_size' hi' w), hsz]
    unfold slo
    by_cases hml : m = l
    · simp [hml, pure, Sem.run]
    · simp [hml, pure, Sem.run, add_mk]
end
end Go.Al
namespace Go.Al
open Go Go.RowKit
set_option linter.unusedVariables false
set_option linter.unusedSimpArgs false
section
variable {P : Program} {E : List PanicEntry → World → Prop} {n : Nat} {ds : List Deferred} {ops : Array Oper} {K : Fr → World → Prop} {Q : Post} {τ : Fr} {w w' : World}
variable {rest : List Oper} {op : Op} {ty : TypeId} {pos : String} {after : Array Edge} {d : Nat} {dd : Option Nat} {v : Value} {g : Option (Nat × Bool)}
/-- Is the operation carried out. -/
def Gd (ops : Array Oper) (τ : Fr) : Option (Nat × Bool) → Bool → Prop
  | none, b => b = true
  | some (j, want), b => ∃ s u, (ops[j]?).bind (·.dst) = some s ∧ ((τ s = .bool u ∧ (u == want) = b) ∨ (τ s = undef ∧ b = false))
theorem Gd.wanted {o : Oper} {b : Bool} (h : Gd ops τ o.guard b) : wantedF ops o τ = b := by
  unfold wantedF Region.wanted
  cases hg : o.guard with
  | none => rw [hg] at h; simp only [Gd] at h; rw [h]
  | some p =>
    obtain ⟨j, want⟩ := p
    rw [hg] at h
    obtain ⟨s, u, hs, h⟩ := h
    simp only [hs]
    rcases h with ⟨hu, h⟩ | ⟨hu, h⟩
    · simp only [hu]
      rw [← h]
      cases u <;> cases want <;> rfl
    · rw [hu, h]
      unfold undef
      rfl
theorem rl_nil (h : K τ w) : RL P E n ops [] K τ w := h
theorem rl_val (hd : Nat.blt d n = true) (hv : Val P (ev τ) w op ty v) (h : RL P E n ops rest K (upd τ d v) w) : RL P E n ops (⟨some d, op, ty, pos, after, none⟩ :: rest) K τ w := by
  refine ⟨hd, .inl ⟨rfl, ?_⟩⟩
  unfold OpK
  rw [hv _ rfl rfl]
  exact h
theorem rl_valg (hg : Gd ops τ g true) (hd : Nat.blt d n = true) (hv : Val P (ev τ) w op ty v) (h : RL P E n ops rest K (upd τ d v) w) : RL P E n ops (⟨some d, op, ty, pos, after, g⟩ :: rest) K τ w := by
  refine ⟨hd, .inl ⟨Gd.wanted (o := ⟨some d, op, ty, pos, after, g⟩) hg, ?_⟩⟩
  unfold OpK
  rw [hv _ rfl rfl]
  exact h
theorem rl_off (hg : Gd ops τ g false) (hd : Nat.blt d n = true) (h : RL P E n ops rest K (upd τ d undef) w) : RL P E n ops (⟨some d, op, ty, pos, after, g⟩ :: rest) K τ w :=
  ⟨hd, .inr ⟨Gd.wanted (o := ⟨some d, op, ty, pos, after, g⟩) hg, h⟩⟩
theorem rl_eff (hd : Nat.blt d n = true) (hv : Eff P (ev τ) w op ty v w') (h : RL P E n ops rest K (upd τ d v) w') : RL P E n ops (⟨some d, op, ty, pos, after, none⟩ :: rest) K τ w := by
  refine ⟨hd, .inl ⟨rfl, ?_⟩⟩
  unfold OpK
  rw [hv _ rfl rfl]
  exact h
theorem rl_skp (hd : dstOk n dd = true) (hv : Skp P (ev τ) w op ty w') (h : RL P E n ops rest K (updo τ dd undef) w') : RL P E n ops (⟨dd, op, ty, pos, after, none⟩ :: rest) K τ w := by
  refine ⟨hd, .inl ⟨rfl, ?_⟩⟩
  unfold OpK
  rw [hv _ rfl rfl]
  exact h
/-- The operation calls function f. -/
def Ent (P : Program) (ρ : Operand → Value) (w : World) (op : Op) (ty : TypeId) (f : FuncId) (args : List Value) : Prop :=
  ∀ (o : Oper), o.op = op → o.type = ty → (execOp ρ o).run P w = .ok (.enter f args.toArray) w
theorem ent_static {f : FuncId} {fn : Func} {xs : List Operand} {tys : Array TypeId} {ρ : Operand → Value} {args : List Value} (hf : P.funcs[f]? = some fn) (hb : fn.body.isNone = false) (hn : (fn.name == "runtime.NumGoroutine") = false)
    (hρ : ρ (.func f) = .func (.func f) #[] #[]) (ha : xs.map ρ = args) : Ent P ρ w (.call { callee := .value (.func f), args := xs.toArray, argTypes := tys }) ty f args := by
  intro o ho hty
  simp only [execOp, ho, resolve, hρ, Deferred.ofValue, pure_bind, invoke]
  unfold callFunc
  subst ha
  have hb2 : fn.body ≠ none := by intro h; rw [h] at hb; simp at hb
  have hn2 : fn.name ≠ "runtime.NumGoroutine" := by intro h; rw [h] at hn; simp at hn
  simp [program, bind, Sem.bind, Sem.run, hf, hn2, hb2, pure]
theorem ent_dyn {f : FuncId} {fn : Func} {x : Operand} {xs : List Operand} {tys : Array TypeId} {ρ : Operand → Value} {args : List Value} {cap : List Value} (hf : P.funcs[f]? = some fn) (hb : fn.body.isNone = false) (hn : (fn.name == "runtime.NumGoroutine") = false)
    {fst : List Value} (hx : ρ x = .func (.func f) fst.toArray cap.toArray) (ha : fst ++ xs.map ρ ++ cap = args) : Ent P ρ w (.call { callee := .value x, args := xs.toArray, argTypes := tys }) ty f args := by
  intro o ho hty
  simp only [execOp, ho, resolve, hx, Deferred.ofValue, pure_bind, invoke]
  unfold callFunc
  subst ha
  have hb2 : fn.body ≠ none := by intro h; rw [h] at hb; simp at hb
  have hn2 : fn.name ≠ "runtime.NumGoroutine" := by intro h; rw [h] at hn; simp at hn
  simp [program, bind, Sem.bind, Sem.run, hf, hn2, hb2, pure]
/-- What a call is asked to come to. -/
def CallQ (E : List PanicEntry → World → Prop) (K : Value → World → Prop) : Ending → World → Prop
  | .returned v, w => K v w
  | .panicked ch, w => E ch w
  | .outgrown, _ => False
theorem rl_call {f : FuncId} {args : List Value} {R : Ending → World → Prop} (hd : Nat.blt d n = true) (he : Ent P (ev τ) w op ty f args) (hc : Calls P f args.toArray w R)
    (h : ∀ e w', R e w' → CallQ E (fun v w' => RL P E n ops rest K (upd τ d v) w') e w') : RL P E n ops (⟨some d, op, ty, pos, after, none⟩ :: rest) K τ w := by
  refine ⟨hd, .inl ⟨rfl, ?_⟩⟩
  unfold OpK
  rw [he _ rfl rfl]
  exact hc.mono fun e w' hr => by
    have := h e w' hr
    cases e <;> exact this
theorem rl_callg {f : FuncId} {args : List Value} {R : Ending → World → Prop} (hg : Gd ops τ g true) (hd : Nat.blt d n = true) (he : Ent P (ev τ) w op ty f args) (hc : Calls P f args.toArray w R)
    (h : ∀ e w', R e w' → CallQ E (fun v w' => RL P E n ops rest K (upd τ d v) w') e w') : RL P E n ops (⟨some d, op, ty, pos, after, g⟩ :: rest) K τ w := by
  refine ⟨hd, .inl ⟨Gd.wanted (o := ⟨some d, op, ty, pos, after, g⟩) hg, ?_⟩⟩
  unfold OpK
  rw [he _ rfl rfl]
  exact hc.mono fun e w' hr => by
    have := h e w' hr
    cases e <;> exact this
variable {S : World → Prop} {fl : List Nat} {plan : List (Nat × Bool)} {i : Nat}
theorem rp_nil (h : K τ w) : RP P E n ops S fl [] K τ w := h
theorem rp_valp (ho : ops[i]? = some ⟨some d, op, ty, pos, after, none⟩) (hd : Nat.blt d n = true) (hv : ∀ w', Val P (ev τ) w' op ty v) (h : RP P E n ops S fl plan K (upd τ d v) w) :
    RP P E n ops S fl ((i, true) :: plan) K τ w :=
  ⟨_, v, ho, hd, .inl ⟨rfl, fun w' _ => hv w' _ rfl rfl⟩, h⟩
theorem rp_val (ho : ops[i]? = some ⟨some d, op, ty, pos, after, none⟩) (hd : Nat.blt d n = true) (hv : ∀ w', S w' → Val P (ev τ) w' op ty v) (h : RP P E n ops S fl plan K (upd τ d v) w) (hi : fl.contains i = true := by rfl) :
    RP P E n ops S fl ((i, true) :: plan) K τ w :=
  ⟨_, v, ho, hd, .inl ⟨rfl, fun w' hs => hv w' (hs (by simpa using hi)) _ rfl rfl⟩, h⟩
theorem rp_valg (hg : Gd ops τ g true) (ho : ops[i]? = some ⟨some d, op, ty, pos, after, g⟩) (hd : Nat.blt d n = true) (hv : ∀ w', S w' → Val P (ev τ) w' op ty v) (h : RP P E n ops S fl plan K (upd τ d v) w) (hi : fl.contains i = true := by rfl) :
    RP P E n ops S fl ((i, true) :: plan) K τ w :=
  ⟨_, v, ho, hd, .inl ⟨Gd.wanted (o := ⟨some d, op, ty, pos, after, g⟩) hg, fun w' hs => hv w' (hs (by simpa using hi)) _ rfl rfl⟩, h⟩
theorem rp_off (hg : Gd ops τ g false) (ho : ops[i]? = some ⟨some d, op, ty, pos, after, g⟩) (hd : Nat.blt d n = true) (h : RP P E n ops S fl plan K (upd τ d undef) w) :
    RP P E n ops S fl ((i, true) :: plan) K τ w :=
  ⟨_, undef, ho, hd, .inr ⟨Gd.wanted (o := ⟨some d, op, ty, pos, after, g⟩) hg, rfl⟩, h⟩
theorem rp_eff (ho : ops[i]? = some ⟨some d, op, ty, pos, after, none⟩) (hd : Nat.blt d n = true) (hv : Eff P (ev τ) w op ty v w') (hS : lateB ops fl i = true ∨ S w') (h : RP P E n ops S fl plan K (upd τ d v) w') :
    RP P E n ops S fl ((i, false) :: plan) K τ w := by
  refine ⟨_, ho, hd, rfl, ?_⟩
  unfold OpK
  rw [hv _ rfl rfl]
  exact ⟨hS, h⟩
theorem rp_skp (ho : ops[i]? = some ⟨dd, op, ty, pos, after, none⟩) (hd : dstOk n dd = true) (hv : Skp P (ev τ) w op ty w') (hS : lateB ops fl i = true ∨ S w') (h : RP P E n ops S fl plan K (updo τ dd undef) w') :
    RP P E n ops S fl ((i, false) :: plan) K τ w := by
  refine ⟨_, ho, hd, rfl, ?_⟩
  unfold OpK
  rw [hv _ rfl rfl]
  exact ⟨hS, h⟩
theorem rp_call {f : FuncId} {args : List Value} {R : Ending → World → Prop} (ho : ops[i]? = some ⟨some d, op, ty, pos, after, none⟩) (hd : Nat.blt d n = true) (he : Ent P (ev τ) w op ty f args) (hc : Calls P f args.toArray w R)
    (h : ∀ e w', R e w' → CallQ E (fun v w' => (lateB ops fl i = true ∨ S w') ∧ RP P E n ops S fl plan K (upd τ d v) w') e w') : RP P E n ops S fl ((i, false) :: plan) K τ w := by
  refine ⟨_, ho, hd, rfl, ?_⟩
  unfold OpK
  rw [he _ rfl rfl]
  exact hc.mono fun e w' hr => by
    have := h e w' hr
    cases e <;> exact this
theorem rp_callg {f : FuncId} {args : List Value} {R : Ending → World → Prop} (hg : Gd ops τ g true) (ho : ops[i]? = some ⟨some d, op, ty, pos, after, g⟩) (hd : Nat.blt d n = true) (he : Ent P (ev τ) w op ty f args) (hc : Calls P f args.toArray w R)
    (h : ∀ e w', R e w' → CallQ E (fun v w' => (lateB ops fl i = true ∨ S w') ∧ RP P E n ops S fl plan K (upd τ d v) w') e w') : RP P E n ops S fl ((i, false) :: plan) K τ w := by
  refine ⟨_, ho, hd, Gd.wanted (o := ⟨some d, op, ty, pos, after, g⟩) hg, ?_⟩
  unfold OpK
  rw [he _ rfl rfl]
  exact hc.mono fun e w' hr => by
    have := h e w' hr
    cases e <;> exact this
theorem wp_sr {id : Nat} {l : List Oper} {y : Code} (hE : ∀ ch τ w, E ch w → Q (.panic ch) τ w) (h : RL P E n l.toArray l (fun τ w => WP P n ds y Q τ w) τ w) : WP P n ds (.seq (.region id l.toArray false) y) Q τ w :=
  WP.seq (WP.region (Q := thenQ (WP P n ds y Q) Q) (E := E) hE h)
theorem wp_r {id : Nat} {l : List Oper} (hE : ∀ ch τ w, E ch w → Q (.panic ch) τ w) (h : RL P E n l.toArray l (fun τ w => Q .normal τ w) τ w) : WP P n ds (.region id l.toArray false) Q τ w :=
  WP.region (E := E) hE h
theorem wp_sd {id : Nat} {l : List Oper} {y : Code} (plan : List (Nat × Bool)) (hm : P.follows .mixedOrders = true) (hsel : Region.noSelect l.toArray = true)
    (hc : planOk l.toArray plan (Array.replicate l.toArray.size false) = true) (hlen : plan.length = l.toArray.size) (S : World → Prop)
    (hE : ∀ ch τ w, E ch w → Q (.panic ch) τ w) (hS : S { w with drawn := w.drawn + 1 })
    (h : RP P E n l.toArray S (floats plan) plan (fun τ w => WP P n ds y Q τ w) τ { w with drawn := w.drawn + 1 }) : WP P n ds (.seq (.region id l.toArray true) y) Q τ w :=
  WP.seq (WP.draw (Q := thenQ (WP P n ds y Q) Q) (E := E) plan hm hsel hc hlen hE hS h)
theorem wp_d {id : Nat} {l : List Oper} (plan : List (Nat × Bool)) (hm : P.follows .mixedOrders = true) (hsel : Region.noSelect l.toArray = true)
    (hc : planOk l.toArray plan (Array.replicate l.toArray.size false) = true) (hlen : plan.length = l.toArray.size) (S : World → Prop)
    (hE : ∀ ch τ w, E ch w → Q (.panic ch) τ w) (hS : S { w with drawn := w.drawn + 1 })
    (h : RP P E n l.toArray S (floats plan) plan (fun τ w => Q .normal τ w) τ { w with drawn := w.drawn + 1 }) : WP P n ds (.region id l.toArray true) Q τ w :=
  WP.draw (E := E) plan hm hsel hc hlen hE hS h
theorem wp_sdf {id : Nat} {l : List Oper} {y : Code} (plan : List (Nat × Bool)) (fl : List Nat) (hm : P.follows .mixedOrders = true) (hsel : Region.noSelect l.toArray = true)
    (hc : planOk l.toArray plan (Array.replicate l.toArray.size false) = true) (hlen : plan.length = l.toArray.size) (S : World → Prop)
    (hE : ∀ ch τ w, E ch w → Q (.panic ch) τ w) (hS : S { w with drawn := w.drawn + 1 })
    (h : RP P E n l.toArray S fl plan (fun τ w => WP P n ds y Q τ w) τ { w with drawn := w.drawn + 1 }) : WP P n ds (.seq (.region id l.toArray true) y) Q τ w :=
  WP.seq (WP.draw (Q := thenQ (WP P n ds y Q) Q) (E := E) plan hm hsel hc hlen hE hS h)
theorem wp_df {id : Nat} {l : List Oper} (plan : List (Nat × Bool)) (fl : List Nat) (hm : P.follows .mixedOrders = true) (hsel : Region.noSelect l.toArray = true)
    (hc : planOk l.toArray plan (Array.replicate l.toArray.size false) = true) (hlen : plan.length = l.toArray.size) (S : World → Prop)
    (hE : ∀ ch τ w, E ch w → Q (.panic ch) τ w) (hS : S { w with drawn := w.drawn + 1 })
    (h : RP P E n l.toArray S fl plan (fun τ w => Q .normal τ w) τ { w with drawn := w.drawn + 1 }) : WP P n ds (.region id l.toArray true) Q τ w :=
  WP.draw (E := E) plan hm hsel hc hlen hE hS h
/-- 'if c { } else { leave }' at a loop's head. -/
theorem wp_guard {c : Operand} {id : Nat} {z : Code} {b : Bool} (hc : ev τ c = .bool b) (ht : b = true → WP P n ds z Q τ w) (hf : b = false → Q (.exit id) τ w) : WP P n ds (.seq (.cond c .skip (.exit id)) z) Q τ w :=
  WP.seq (WP.cond hc (fun h => WP.skip (ht h)) (fun h => WP.exit (hf h)))
theorem blk_here {id : Nat} (h : Q .normal τ w) : inBlk id Q (.exit id) τ w := by
  show bif Nat.beq id id then _ else _
  rw [show Nat.beq id id = true from Nat.beq_refl id]; exact h
end
def noPanic : List PanicEntry → World → Prop := fun _ _ => False
theorem noPanic_imp {Q : Post} : ∀ ch τ w, noPanic ch w → Q (.panic ch) τ w := fun _ _ _ h => h.elim
end Go.Al
namespace Go.Al
open Go Go.RowKit
set_option linter.unusedVariables false
set_option linter.unusedSimpArgs false
/-- A row of cells as an object. -/
abbrev row (xs : List Value) (t : TypeId) : Obj := .cells xs.toArray t (0, 0)
/-- From w0 to w: of w0's blocks only those of `own` have changed; the blocks of l, each either new or of `own`, hold what l says. -/
structure Mem (w0 : World) (own : List Nat) (l : List (Nat × Obj)) (w : World) : Prop where
  os : w.os = w0.os
  tape : w.tape = w0.tape
  output : w.output = w0.output
  size : w0.heap.size ≤ w.heap.size
  old : ∀ k, k < w0.heap.size → k ∉ own → w.heap[k]? = w0.heap[k]?
  rows : ∀ p ∈ l, w.heap[p.1]? = some p.2
  mine : ∀ p ∈ l, w0.heap.size ≤ p.1 ∨ p.1 ∈ own
  nd : (l.map (·.1)).Nodup
section
variable {w0 w w' : World} {own : List Nat} {l l2 : List (Nat × Obj)}
theorem Mem.init (w : World) : Mem w [] [] w := ⟨rfl, rfl, rfl, Nat.le_refl _, fun _ _ _ => rfl, by simp, by simp, by simp⟩
theorem Mem.initOwn {b : Nat} {o : Obj} (h : w.heap[b]? = some o) : Mem w [b] [(b, o)] w :=
  ⟨rfl, rfl, rfl, Nat.le_refl _, fun _ _ _ => rfl, by simpa using h, by simp, by simp⟩
theorem Mem.drew (h : Mem w0 own l w) : Mem w0 own l { w with drawn := w.drawn + 1 } := ⟨h.os, h.tape, h.output, h.size, h.old, h.rows, h.mine, h.nd⟩
theorem Mem.drop (h : Mem w0 own l w) (k : Nat) : Mem w0 own (l.drop k) w :=
  ⟨h.os, h.tape, h.output, h.size, h.old, fun p hp => h.rows p (List.mem_of_mem_drop hp), fun p hp => h.mine p (List.mem_of_mem_drop hp),
    by rw [List.map_drop]; exact (List.drop_sublist k _).nodup h.nd⟩
theorem Mem.sub (h : Mem w0 own l w) (hs : l2.Sublist l) : Mem w0 own l2 w :=
  ⟨h.os, h.tape, h.output, h.size, h.old, fun p hp => h.rows p (hs.subset hp), fun p hp => h.mine p (hs.subset hp), (hs.map _).nodup h.nd⟩
theorem Mem.at (h : Mem w0 own l w) {i : Nat} {p : Nat × Obj} (hi : l[i]? = some p) : w.heap[p.1]? = some p.2 := h.rows p (List.mem_of_getElem? hi)
theorem Mem.row (h : Mem w0 own l w) {i b : Nat} {xs : List Value} {t : TypeId} (hi : l[i]? = some (b, Al.row xs t)) : Row w b xs t := h.at hi
theorem Mem.lt (h : Mem w0 own l w) {i b : Nat} {o : Obj} (hi : l[i]? = some (b, o)) : b < w.heap.size := (Array.getElem?_eq_some_iff.1 (h.at hi)).1
theorem Mem.get (h : Mem w0 own l w) {k : Nat} {o : Obj} (hk : w0.heap[k]? = some o) (hn : k ∉ own) : w.heap[k]? = some o := by
  rw [h.old k (Array.getElem?_eq_some_iff.1 hk).1 hn]; exact hk
theorem Mem.getL (h : Mem w0 own l w) {b : Nat} {xs : List Value} (hb : RowL w0 b xs) (hn : b ∉ own) : RowL w b xs := by
  obtain ⟨t, fr, hb⟩ := hb; exact ⟨t, fr, h.get hb hn⟩
theorem Mem.alloc (h : Mem w0 own l w) (o : Obj) : Mem w0 own ((w.heap.size, o) :: l) (w.alloc o) := by
  have hlt : ∀ p ∈ l, p.1 < w.heap.size := fun p hp => (Array.getElem?_eq_some_iff.1 (h.rows p hp)).1
  refine ⟨h.os, h.tape, h.output, Nat.le_trans h.size (by simp), ?_, ?_, ?_, ?_⟩
  · intro k hk hn
    rw [Below.heap_alloc _ _ _ (Nat.lt_of_lt_of_le hk h.size)]; exact h.old k hk hn
  · intro p hp
    rcases List.mem_cons.1 hp with rfl | hp
    · exact Array.getElem?_push_size
    · rw [Below.heap_alloc _ _ _ (hlt p hp)]; exact h.rows p hp
  · intro p hp
    rcases List.mem_cons.1 hp with rfl | hp
    · exact .inl h.size
    · exact h.mine p hp
  · rw [List.map_cons, List.nodup_cons]
    refine ⟨fun hm => ?_, h.nd⟩
    obtain ⟨p, hp, he⟩ := List.mem_map.1 hm
    have := hlt p hp
    simp only at he
    omega
theorem nodup_set_ne {l : List (Nat × Obj)} (hnd : (l.map (·.1)).Nodup) {i b : Nat} {o o' : Obj} (hi : l[i]? = some (b, o)) : ∀ p ∈ l.set i (b, o'), p = (b, o') ∨ (p ∈ l ∧ p.1 ≠ b) := by
  intro p hp
  obtain ⟨j, hj⟩ := List.mem_iff_getElem?.1 hp
  rw [List.getElem?_set] at hj
  by_cases e : i = j
  · subst e
    have hlt := (List.getElem?_eq_some_iff.1 hi).1
    simp [hlt] at hj
    exact .inl hj.symm
  · rw [if_neg e] at hj
    refine .inr ⟨List.mem_of_getElem? hj, fun hb => ?_⟩
    have h1 : (l.map (·.1))[i]? = some b := by simp [hi]
    have h2 : (l.map (·.1))[j]? = some b := by simp [hj, hb]
    exact e ((List.getElem?_inj (List.getElem?_eq_some_iff.1 h1).1 hnd).1 (h1.trans h2.symm))
theorem Mem.set (h : Mem w0 own l w) {i b : Nat} {xs ys : List Value} {t : TypeId} (hi : l[i]? = some (b, Al.row xs t)) : Mem w0 own (l.set i (b, Al.row ys t)) (setB w b ys t) := by
  have hb : b < w.heap.size := h.lt hi
  have hmine := h.mine _ (List.mem_of_getElem? hi)
  refine ⟨h.os, h.tape, h.output, by rw [setB_size]; exact h.size, ?_, ?_, ?_, ?_⟩
  · intro k hk hn
    have : k ≠ b := by
      rintro rfl
      rcases hmine with h1 | h1
      · simp only at h1; omega
      · exact hn h1
    rw [setB_other this]; exact h.old k hk hn
  · intro p hp
    rcases nodup_set_ne h.nd hi p hp with rfl | ⟨hp, hne⟩
    · exact setB_same hb
    · rw [setB_other hne]; exact h.rows p hp
  · intro p hp
    rcases nodup_set_ne h.nd hi p hp with rfl | ⟨hp, hne⟩
    · exact hmine
    · exact h.mine p hp
  · have : (l.set i (b, Al.row ys t)).map (·.1) = l.map (·.1) := by
      apply List.ext_getElem?
      intro j
      simp only [List.getElem?_map, List.getElem?_set]
      by_cases e : i = j
      · subst e
        obtain ⟨hlt, hv⟩ := List.getElem?_eq_some_iff.1 hi
        simp [hlt, hv]
      · rw [if_neg e]
    rw [this]; exact h.nd
/-- A callee that owns nothing of ours. -/
theorem Mem.call (h : Mem w0 own l w) (h2 : Mem w [] l2 w') : Mem w0 own (l2 ++ l) w' := by
  have hlt : ∀ p ∈ l, p.1 < w.heap.size := fun p hp => (Array.getElem?_eq_some_iff.1 (h.rows p hp)).1
  refine ⟨h2.os.trans h.os, h2.tape.trans h.tape, h2.output.trans h.output, Nat.le_trans h.size h2.size, ?_, ?_, ?_, ?_⟩
  · intro k hk hn
    rw [h2.old k (Nat.lt_of_lt_of_le hk h.size) (by simp)]; exact h.old k hk hn
  · intro p hp
    rcases List.mem_append.1 hp with hp | hp
    · exact h2.rows p hp
    · rw [h2.old p.1 (hlt p hp) (by simp)]; exact h.rows p hp
  · intro p hp
    rcases List.mem_append.1 hp with hp | hp
    · rcases h2.mine p hp with h3 | h3
      · exact .inl (Nat.le_trans h.size h3)
      · simp at h3
    · exact h.mine p hp
  · rw [List.map_append, List.nodup_append]
    refine ⟨h2.nd, h.nd, ?_⟩
    intro a ha b hb e
    subst e
    obtain ⟨p, hp, rfl⟩ := List.mem_map.1 ha
    obtain ⟨q, hq, he⟩ := List.mem_map.1 hb
    rcases h2.mine p hp with h3 | h3
    · have := hlt q hq; omega
    · simp at h3
/-- A callee that owns one block of ours. -/
theorem Mem.callOwn (h : Mem w0 own l w) {i b : Nat} {o : Obj} (hi : l[i]? = some (b, o)) (h2 : Mem w [b] l2 w') : Mem w0 own (l2 ++ l.eraseIdx i) w' := by
  have hlt : ∀ p ∈ l, p.1 < w.heap.size := fun p hp => (Array.getElem?_eq_some_iff.1 (h.rows p hp)).1
  have hmine := h.mine _ (List.mem_of_getElem? hi)
  have hne : ∀ p ∈ l.eraseIdx i, p ∈ l ∧ p.1 ≠ b := by
    intro p hp
    have hm := List.mem_of_mem_eraseIdx hp
    refine ⟨hm, fun e => ?_⟩
    obtain ⟨j, hji, hj⟩ := List.mem_eraseIdx_iff_getElem?.1 hp
    have h1 : (l.map (·.1))[i]? = some b := by simp [hi]
    have h3 : (l.map (·.1))[j]? = some b := by simp [hj, e]
    exact hji ((List.getElem?_inj (List.getElem?_eq_some_iff.1 h3).1 h.nd).1 (h3.trans h1.symm))
  refine ⟨h2.os.trans h.os, h2.tape.trans h.tape, h2.output.trans h.output, Nat.le_trans h.size h2.size, ?_, ?_, ?_, ?_⟩
  · intro k hk hn
    have : k ≠ b := by
      rintro rfl
      rcases hmine with h1 | h1
      · simp only at h1; omega
      · exact hn h1
    rw [h2.old k (Nat.lt_of_lt_of_le hk h.size) (by simpa using this)]; exact h.old k hk hn
  · intro p hp
    rcases List.mem_append.1 hp with hp | hp
    · exact h2.rows p hp
    · obtain ⟨hp, hpb⟩ := hne p hp
      rw [h2.old p.1 (hlt p hp) (by simpa using hpb)]; exact h.rows p hp
  · intro p hp
    rcases List.mem_append.1 hp with hp | hp
    · rcases h2.mine p hp with h3 | h3
      · exact .inl (Nat.le_trans h.size h3)
      · simp only [List.mem_singleton] at h3
        rw [h3]; exact hmine
    · exact h.mine p (hne p hp).1
  · rw [List.map_append, List.nodup_append]
    refine ⟨h2.nd, ((List.eraseIdx_sublist l i).map _).nodup h.nd, ?_⟩
    intro a ha c hc e
    subst e
    obtain ⟨p, hp, rfl⟩ := List.mem_map.1 ha
    obtain ⟨q, hq, he⟩ := List.mem_map.1 hc
    obtain ⟨hq, hqb⟩ := hne q hq
    rcases h2.mine p hp with h3 | h3
    · have := hlt q hq; omega
    · simp only [List.mem_singleton] at h3
      exact hqb (he.trans h3)
theorem Mem.below (h : Mem w0 [] l w) : Below w0.heap.size w0 w := ⟨h.os, h.tape, h.output, h.size, fun k hk => h.old k hk (by simp)⟩
theorem Mem.nil (h : Mem w0 own l w) : Mem w0 own [] w := h.sub (List.nil_sublist _)
end
/-- The cells of a type's zero value. -/
def zeroOf (P : Program) (t : TypeId) : Option (List Value) := ((P.info? t).bind (·.zero)).map (·.cells.toList)
section
variable {P : Program} {E : List PanicEntry → World → Prop} {n : Nat} {ops : Array Oper} {K : Fr → World → Prop} {τ : Fr} {w0 w w' : World} {own : List Nat} {l : List (Nat × Obj)}
variable {rest : List Oper} {ty : TypeId} {pos : String} {after : Array Edge} {d : Nat} {dd : Option Nat} {v : Value} {x y : Operand} {t te : TypeId}
variable {S : World → Prop} {fl : List Nat} {plan : List (Nat × Bool)} {i j : Nat}
theorem eff_box_mem {xs : List Value} (hx : ev τ x = v) (hc : v.cells = xs.toArray) (hm : Mem w0 own l w) :
    Eff P (ev τ) w (.box t x) ty (.pointer (some ⟨w.heap.size, 0, none⟩)) (w.alloc (row xs t)) ∧ Mem w0 own ((w.heap.size, row xs t) :: l) (w.alloc (row xs t)) := by
  refine ⟨?_, hm.alloc _⟩
  have := eff_box (P := P) (ρ := ev τ) (w := w) (ty := ty) (t := t) hx
  rw [hc] at this; exact this
theorem eff_alloc_mem {xs : List Value} (hz : zeroOf P t = some xs) (hm : Mem w0 own l w) :
    Eff P (ev τ) w (.alloc t) ty (.pointer (some ⟨w.heap.size, 0, none⟩)) (w.alloc (row xs t)) ∧ Mem w0 own ((w.heap.size, row xs t) :: l) (w.alloc (row xs t)) := by
  refine ⟨?_, hm.alloc _⟩
  unfold zeroOf at hz
  cases hi : P.info? t with
  | none => rw [hi] at hz; simp at hz
  | some inf =>
    rw [hi] at hz
    simp only [Option.bind_some] at hz
    cases hzz : inf.zero with
    | none => rw [hzz] at hz; simp at hz
    | some z =>
      rw [hzz] at hz
      simp only [Option.map_some, Option.some.injEq] at hz
      subst hz
      exact eff_alloc hi hzz
theorem rl_box {xs : List Value} (hd : Nat.blt d n = true) (hx : ev τ x = v) (hc : v.cells = xs.toArray) (hm : Mem w0 own l w)
    (h : ∀ b w', Mem w0 own ((b, row xs t) :: l) w' → RL P E n ops rest K (upd τ d (.pointer (some ⟨b, 0, none⟩))) w') : RL P E n ops (⟨some d, .box t x, ty, pos, after, none⟩ :: rest) K τ w := by
  obtain ⟨h1, h2⟩ := eff_box_mem (P := P) (t := t) (ty := ty) hx hc hm
  exact rl_eff hd h1 (h _ _ h2)
theorem rl_alloc {xs : List Value} (hd : Nat.blt d n = true) (hz : zeroOf P t = some xs) (hm : Mem w0 own l w)
    (h : ∀ b w', Mem w0 own ((b, row xs t) :: l) w' → RL P E n ops rest K (upd τ d (.pointer (some ⟨b, 0, none⟩))) w') : RL P E n ops (⟨some d, .alloc t, ty, pos, after, none⟩ :: rest) K τ w := by
  obtain ⟨h1, h2⟩ := eff_alloc_mem (P := P) (τ := τ) (ty := ty) hz hm
  exact rl_eff hd h1 (h _ _ h2)
theorem rl_store {agg : Bool} {b off k : Nat} {xs vs : List Value} (hd : dstOk n dd = true) (hx : ev τ x = .pointer (some ⟨b, off, none⟩)) (hy : ev τ y = v) (ht : aggB P t = some (agg, k)) (hm : Mem w0 own l w)
    (hi : l[i]? = some (b, row xs te)) (hc : v.cells = vs.toArray) (hl : vs.length = k) (hn : off + k ≤ xs.length) (hv : ∀ v ∈ vs, v.one = true)
    (h : ∀ w', Mem w0 own (l.set i (b, row (spl xs off vs) te)) w' → RL P E n ops rest K (updo τ dd undef) w') : RL P E n ops (⟨dd, .store t x y, ty, pos, after, none⟩ :: rest) K τ w :=
  rl_skp hd (skp_store hx hy ht (hm.row hi) hc hl hn hv) (h _ (hm.set hi))
theorem rp_store {agg : Bool} {b off k : Nat} {xs vs : List Value} (ho : ops[j]? = some ⟨dd, .store t x y, ty, pos, after, none⟩) (hd : dstOk n dd = true) (hx : ev τ x = .pointer (some ⟨b, off, none⟩)) (hy : ev τ y = v) (ht : aggB P t = some (agg, k)) (hm : Mem w0 own l w)
    (hi : l[i]? = some (b, row xs te)) (hc : v.cells = vs.toArray) (hl : vs.length = k) (hn : off + k ≤ xs.length) (hv : ∀ v ∈ vs, v.one = true) (hS : lateB ops fl j = true)
    (h : ∀ w', Mem w0 own (l.set i (b, row (spl xs off vs) te)) w' → RP P E n ops S fl plan K (updo τ dd undef) w') : RP P E n ops S fl ((j, false) :: plan) K τ w :=
  rp_skp ho hd (skp_store hx hy ht (hm.row hi) hc hl hn hv) (.inl hS) (h _ (hm.set hi))
end
section
variable {P : Program} {ρ : Operand → Value} {w : World} {ty : TypeId} {x : Operand} {t : TypeId} {b off n : Nat} {l m : List Value} {v : Value}
theorem val_load1 (hx : ρ x = .pointer (some ⟨b, off, none⟩)) (ht : aggB P t = some (false, 1)) (h : RowL w b l) (hv : l[off]? = some v) : Val P ρ w (.load t x) ty v := by
  have hlt := (List.getElem?_eq_some_iff.1 hv).1
  have := val_load (ty := ty) hx ht h (by omega) (by decide)
  rwa [show rd false l off 1 = v from by simp [rd, hv]] at this
theorem val_loadA (hx : ρ x = .pointer (some ⟨b, off, none⟩)) (ht : aggB P t = some (true, n)) (h : RowL w b l) (hm : (l.drop off).take n = m) (hn : off + n ≤ l.length) (h0 : 0 < n) : Val P ρ w (.load t x) ty (.agg m.toArray) := by
  have := val_load (ty := ty) hx ht h hn h0
  rwa [show rd true l off n = .agg m.toArray from by simp [rd, hm]] at this
theorem val_loadAll (hx : ρ x = .pointer (some ⟨b, 0, none⟩)) (ht : aggB P t = some (true, n)) (h : RowL w b l) (hl : l.length = n) (h0 : 0 < n) : Val P ρ w (.load t x) ty (.agg l.toArray) :=
  val_loadA hx ht h (by rw [List.drop_zero, List.take_of_length_le (by omega)]) (by omega) h0
end
/-- A call that returns v and changes nothing that was there. -/
def Ret (w : World) (v : Value) : Ending → World → Prop := fun e w' => e = .returned v ∧ Mem w [] [] w'
end Go.Al
namespace Go.Al
open Go Go.RowKit
set_option linter.unusedVariables false
set_option linter.unusedSimpArgs false
def RvOk (P : Program) (τ : Fr) (w : World) : ResultVar → Value → Prop
  | .tmp t, v => τ t = v
  | .cell a T, v => ∃ agg k b off l, τ a = .pointer (some ⟨b, off, none⟩) ∧ aggB P T = some (agg, k) ∧ RowL w b l ∧ off + k ≤ l.length ∧ 0 < k ∧ rd agg l off k = v
def RvsOk (P : Program) (τ : Fr) (w : World) : List ResultVar → List Value → Prop
  | [], [] => True
  | r :: rs, v :: vs => RvOk P τ w r v ∧ RvsOk P τ w rs vs
  | _, _ => False
def tup : List Value → Value
  | [v] => v
  | vs => .tuple vs.toArray
section
variable {P : Program} {fn : Func} {R : Ending → World → Prop} {τ : Fr} {w : World}
def resF (tmps : Array Value) : ResultVar → Sem Value
  | .tmp t => pure (tmps.getD t undef)
  | .cell a t => do loadVar t (← asAddr (tmps.getD a undef))
theorem run_res {n : Nat} {ds : List Deferred} {a : Act} (ha : FrIs n ds a τ) {r : ResultVar} {v : Value} (h : RvOk P τ w r v) : (resF a.tmps r).run P w = .ok v w := by
  cases r with
  | tmp t => simp only [RvOk] at h; simp [resF, ha.2.2 t, h, pure, Sem.run]
  | cell b T =>
    obtain ⟨agg, k, b, off, l, h1, h2, h3, h4, h5, h6⟩ := h
    simp only [resF, ha.2.2, h1, asAddr, pure_bind]
    rw [run_loadVar h3 h2 h4 h5, h6]
theorem run_ress {n : Nat} {ds : List Deferred} {a : Act} (ha : FrIs n ds a τ) : ∀ (rs : List ResultVar) (vs : List Value), RvsOk P τ w rs vs → (rs.mapM (resF a.tmps)).run P w = .ok vs w := by
  intro rs
  induction rs with
  | nil => intro vs h; cases vs with
    | nil => simp [pure, Sem.run]
    | cons v vs => exact h.elim
  | cons r rs ih => intro vs h; cases vs with
    | nil => exact h.elim
    | cons v vs =>
      rw [List.mapM_cons, run_bind' (run_res ha h.1), run_bind' (ih vs h.2)]; rfl
theorem run_results {n : Nat} {ds : List Deferred} {a : Act} (ha : FrIs n ds a τ) {rs : List ResultVar} {vs : List Value} (hr : fn.results = rs.toArray) (h : RvsOk P τ w rs vs) : (results fn a.tmps).run P w = .ok (tup vs) w := by
  unfold results
  have h1 : ((rs.toArray).mapM (resF a.tmps)).run P w = .ok vs.toArray w := by
    rw [List.mapM_toArray]
    have := run_ress ha rs vs h
    simp [this, Result.andThen]
  have h2 : ∀ F : ResultVar → Sem Value, (∀ r, F r = resF a.tmps r) → (fn.results.mapM F >>= fun vs => (pure (if h : vs.size = 1 then vs[0] else Value.tuple vs) : Sem Value)).run P w = .ok (tup vs) w := by
    intro F hF
    rw [show F = resF a.tmps from funext hF, hr, run_bind' h1]
    match vs with
    | [] => rfl
    | [v] => rfl
    | v :: u :: r => simp [tup, pure, Sem.run]
  exact h2 _ (fun r => by cases r <;> rfl)
theorem post_rets {rs : List ResultVar} {vs : List Value} {v : Value} (hr : fn.results = rs.toArray) (h : RvsOk P τ w rs vs) (hv : tup vs = v) (hR : R (.returned v) w) : postQ P fn R .ret τ w :=
  ⟨_, fun n ds a ha => by rw [run_results ha hr h, hv], hR⟩
theorem post_ends {rs : List ResultVar} {vs : List Value} {v : Value} (hr : fn.results = rs.toArray) (h : RvsOk P τ w rs vs) (hv : tup vs = v) (hR : R (.returned v) w) : postQ P fn R .normal τ w :=
  ⟨_, fun n ds a ha => by rw [run_results ha hr h, hv], hR⟩
theorem callQ_ret {E : List PanicEntry → World → Prop} {K : Value → World → Prop} {v : Value} (h : K v w) : CallQ E K (.returned v) w := h
end
end Go.Al
namespace Go.Al
open Go
theorem mixed : Go.Proofs.Tryz.prog.follows .mixedOrders = true := by kernel_rfl
theorem ag_3 : aggB Go.Proofs.Tryz.prog 3 = some (false, 1) := by kernel_rfl
theorem ui_3 : Go.Proofs.Tryz.prog.underlying 3 = some (.int .i64) := by kernel_rfl
theorem ut_3 : Go.Proofs.Tryz.prog.underlying 3 = some (.int .i64) := by kernel_rfl
theorem ub_4 : Go.Proofs.Tryz.prog.underlying 4 = some .bool := by kernel_rfl
theorem ag_5 : aggB Go.Proofs.Tryz.prog 5 = some (false, 1) := by kernel_rfl
theorem ui_5 : Go.Proofs.Tryz.prog.underlying 5 = some (.int .u8) := by kernel_rfl
theorem ut_5 : Go.Proofs.Tryz.prog.underlying 5 = some (.int .u8) := by kernel_rfl
theorem ust_9 : Go.Proofs.Tryz.prog.underlying 9 = some .string := by kernel_rfl
theorem es_22 : elemSl Go.Proofs.Tryz.prog 22 = some 1 := by kernel_rfl
theorem us_22 : Go.Proofs.Tryz.prog.underlying 22 = some (.slice 38) := by kernel_rfl
theorem es_23 : elemSl Go.Proofs.Tryz.prog 23 = some 2 := by kernel_rfl
theorem us_23 : Go.Proofs.Tryz.prog.underlying 23 = some (.slice 46) := by kernel_rfl
theorem up_25 : Go.Proofs.Tryz.prog.underlying 25 = some (.pointer 127) := by kernel_rfl
theorem ag_27 : aggB Go.Proofs.Tryz.prog 27 = some (false, 1) := by kernel_rfl
theorem es_27 : elemSl Go.Proofs.Tryz.prog 27 = some 3 := by kernel_rfl
theorem us_27 : Go.Proofs.Tryz.prog.underlying 27 = some (.slice 213) := by kernel_rfl
theorem ag_28 : aggB Go.Proofs.Tryz.prog 28 = some (false, 1) := by kernel_rfl
theorem us_28 : Go.Proofs.Tryz.prog.underlying 28 = some (.slice 230) := by kernel_rfl
theorem ag_29 : aggB Go.Proofs.Tryz.prog 29 = some (false, 1) := by kernel_rfl
theorem us_29 : Go.Proofs.Tryz.prog.underlying 29 = some (.slice 233) := by kernel_rfl
theorem ag_30 : aggB Go.Proofs.Tryz.prog 30 = some (false, 1) := by kernel_rfl
theorem us_30 : Go.Proofs.Tryz.prog.underlying 30 = some (.slice 236) := by kernel_rfl
theorem ag_31 : aggB Go.Proofs.Tryz.prog 31 = some (false, 1) := by kernel_rfl
theorem es_31 : elemSl Go.Proofs.Tryz.prog 31 = some 3 := by kernel_rfl
theorem us_31 : Go.Proofs.Tryz.prog.underlying 31 = some (.slice 226) := by kernel_rfl
theorem ag_32 : aggB Go.Proofs.Tryz.prog 32 = some (false, 1) := by kernel_rfl
theorem us_32 : Go.Proofs.Tryz.prog.underlying 32 = some (.slice 238) := by kernel_rfl
theorem ag_33 : aggB Go.Proofs.Tryz.prog 33 = some (false, 1) := by kernel_rfl
theorem us_33 : Go.Proofs.Tryz.prog.underlying 33 = some (.slice 242) := by kernel_rfl
theorem ag_34 : aggB Go.Proofs.Tryz.prog 34 = some (false, 1) := by kernel_rfl
theorem us_34 : Go.Proofs.Tryz.prog.underlying 34 = some (.slice 250) := by kernel_rfl
theorem ag_35 : aggB Go.Proofs.Tryz.prog 35 = some (false, 1) := by kernel_rfl
theorem us_35 : Go.Proofs.Tryz.prog.underlying 35 = some (.slice 256) := by kernel_rfl
theorem fo_37_0 : fieldOff Go.Proofs.Tryz.prog 37 0 = some 0 := by kernel_rfl
theorem fo_37_1 : fieldOff Go.Proofs.Tryz.prog 37 1 = some 1 := by kernel_rfl
theorem fo_37_2 : fieldOff Go.Proofs.Tryz.prog 37 2 = some 2 := by kernel_rfl
theorem fo_37_3 : fieldOff Go.Proofs.Tryz.prog 37 3 = some 3 := by kernel_rfl
theorem fo_37_4 : fieldOff Go.Proofs.Tryz.prog 37 4 = some 4 := by kernel_rfl
theorem fo_37_5 : fieldOff Go.Proofs.Tryz.prog 37 5 = some 5 := by kernel_rfl
theorem fo_37_6 : fieldOff Go.Proofs.Tryz.prog 37 6 = some 6 := by kernel_rfl
theorem fo_37_7 : fieldOff Go.Proofs.Tryz.prog 37 7 = some 7 := by kernel_rfl
theorem fo_37_8 : fieldOff Go.Proofs.Tryz.prog 37 8 = some 8 := by kernel_rfl
theorem fo_37_9 : fieldOff Go.Proofs.Tryz.prog 37 9 = some 9 := by kernel_rfl
theorem ag_38 : aggB Go.Proofs.Tryz.prog 38 = some (false, 1) := by kernel_rfl
theorem es_38 : elemSl Go.Proofs.Tryz.prog 38 = some 1 := by kernel_rfl
theorem us_38 : Go.Proofs.Tryz.prog.underlying 38 = some (.slice 5) := by kernel_rfl
theorem ag_44 : aggB Go.Proofs.Tryz.prog 44 = some (false, 1) := by kernel_rfl
theorem ui_44 : Go.Proofs.Tryz.prog.underlying 44 = some (.int .u64) := by kernel_rfl
theorem ut_44 : Go.Proofs.Tryz.prog.underlying 44 = some (.int .u64) := by kernel_rfl
theorem ea_46 : elemAr Go.Proofs.Tryz.prog 46 = some (2, 1) := by kernel_rfl
theorem ua_46 : Go.Proofs.Tryz.prog.underlying 46 = some (.array 2 44) := by kernel_rfl
theorem ag_50 : aggB Go.Proofs.Tryz.prog 50 = some (true, 32) := by kernel_rfl
theorem ea_50 : elemAr Go.Proofs.Tryz.prog 50 = some (32, 1) := by kernel_rfl
theorem ua_50 : Go.Proofs.Tryz.prog.underlying 50 = some (.array 32 5) := by kernel_rfl
theorem ag_53 : aggB Go.Proofs.Tryz.prog 53 = some (false, 1) := by kernel_rfl
theorem es_53 : elemSl Go.Proofs.Tryz.prog 53 = some 32 := by kernel_rfl
theorem us_53 : Go.Proofs.Tryz.prog.underlying 53 = some (.slice 50) := by kernel_rfl
theorem ag_123 : aggB Go.Proofs.Tryz.prog 123 = some (false, 1) := by kernel_rfl
theorem up_123 : Go.Proofs.Tryz.prog.underlying 123 = some (.pointer 207) := by kernel_rfl
theorem ag_125 : aggB Go.Proofs.Tryz.prog 125 = some (false, 1) := by kernel_rfl
theorem es_125 : elemSl Go.Proofs.Tryz.prog 125 = some 97 := by kernel_rfl
theorem us_125 : Go.Proofs.Tryz.prog.underlying 125 = some (.slice 131) := by kernel_rfl
theorem fo_127_0 : fieldOff Go.Proofs.Tryz.prog 127 0 = some 0 := by kernel_rfl
theorem fo_127_1 : fieldOff Go.Proofs.Tryz.prog 127 1 = some 1 := by kernel_rfl
theorem ag_129 : aggB Go.Proofs.Tryz.prog 129 = some (true, 96) := by kernel_rfl
theorem fo_129_0 : fieldOff Go.Proofs.Tryz.prog 129 0 = some 0 := by kernel_rfl
theorem fo_129_1 : fieldOff Go.Proofs.Tryz.prog 129 1 = some 32 := by kernel_rfl
theorem ft_129_1 : fieldTy Go.Proofs.Tryz.prog 129 1 = some (50, 32) := by kernel_rfl
theorem fo_129_2 : fieldOff Go.Proofs.Tryz.prog 129 2 = some 64 := by kernel_rfl
theorem ft_129_2 : fieldTy Go.Proofs.Tryz.prog 129 2 = some (50, 64) := by kernel_rfl
theorem ag_131 : aggB Go.Proofs.Tryz.prog 131 = some (true, 97) := by kernel_rfl
theorem fo_131_0 : fieldOff Go.Proofs.Tryz.prog 131 0 = some 0 := by kernel_rfl
theorem fo_131_1 : fieldOff Go.Proofs.Tryz.prog 131 1 = some 96 := by kernel_rfl
theorem ag_139 : aggB Go.Proofs.Tryz.prog 139 = some (false, 1) := by kernel_rfl
theorem ut_142 : Go.Proofs.Tryz.prog.underlying 142 = some (.int .u64) := by kernel_rfl
theorem ui_190 : Go.Proofs.Tryz.prog.underlying 190 = some (.int .u64) := by kernel_rfl
theorem fo_207_0 : fieldOff Go.Proofs.Tryz.prog 207 0 = some 0 := by kernel_rfl
theorem fo_207_1 : fieldOff Go.Proofs.Tryz.prog 207 1 = some 1 := by kernel_rfl
theorem fo_207_2 : fieldOff Go.Proofs.Tryz.prog 207 2 = some 2 := by kernel_rfl
theorem ag_213 : aggB Go.Proofs.Tryz.prog 213 = some (true, 3) := by kernel_rfl
theorem fo_213_0 : fieldOff Go.Proofs.Tryz.prog 213 0 = some 0 := by kernel_rfl
theorem fo_213_1 : fieldOff Go.Proofs.Tryz.prog 213 1 = some 1 := by kernel_rfl
theorem fo_213_2 : fieldOff Go.Proofs.Tryz.prog 213 2 = some 2 := by kernel_rfl
theorem ag_219 : aggB Go.Proofs.Tryz.prog 219 = some (false, 1) := by kernel_rfl
theorem ui_219 : Go.Proofs.Tryz.prog.underlying 219 = some (.int .u32) := by kernel_rfl
theorem ut_219 : Go.Proofs.Tryz.prog.underlying 219 = some (.int .u32) := by kernel_rfl
theorem ag_221 : aggB Go.Proofs.Tryz.prog 221 = some (true, 8) := by kernel_rfl
theorem fo_221_0 : fieldOff Go.Proofs.Tryz.prog 221 0 = some 0 := by kernel_rfl
theorem fo_221_1 : fieldOff Go.Proofs.Tryz.prog 221 1 = some 1 := by kernel_rfl
theorem fo_221_2 : fieldOff Go.Proofs.Tryz.prog 221 2 = some 2 := by kernel_rfl
theorem fo_221_3 : fieldOff Go.Proofs.Tryz.prog 221 3 = some 3 := by kernel_rfl
theorem fo_221_4 : fieldOff Go.Proofs.Tryz.prog 221 4 = some 4 := by kernel_rfl
theorem fo_221_5 : fieldOff Go.Proofs.Tryz.prog 221 5 = some 5 := by kernel_rfl
theorem fo_221_6 : fieldOff Go.Proofs.Tryz.prog 221 6 = some 6 := by kernel_rfl
theorem fo_221_7 : fieldOff Go.Proofs.Tryz.prog 221 7 = some 7 := by kernel_rfl
theorem ag_226 : aggB Go.Proofs.Tryz.prog 226 = some (true, 3) := by kernel_rfl
theorem fo_226_0 : fieldOff Go.Proofs.Tryz.prog 226 0 = some 0 := by kernel_rfl
theorem fo_226_1 : fieldOff Go.Proofs.Tryz.prog 226 1 = some 1 := by kernel_rfl
theorem fo_226_2 : fieldOff Go.Proofs.Tryz.prog 226 2 = some 2 := by kernel_rfl
theorem ag_301 : aggB Go.Proofs.Tryz.prog 301 = some (true, 8) := by kernel_rfl
theorem ea_301 : elemAr Go.Proofs.Tryz.prog 301 = some (8, 1) := by kernel_rfl
theorem ag_303 : aggB Go.Proofs.Tryz.prog 303 = some (true, 64) := by kernel_rfl
theorem ea_303 : elemAr Go.Proofs.Tryz.prog 303 = some (64, 1) := by kernel_rfl
theorem ua_303 : Go.Proofs.Tryz.prog.underlying 303 = some (.array 64 5) := by kernel_rfl
theorem ag_305 : aggB Go.Proofs.Tryz.prog 305 = some (true, 74) := by kernel_rfl
theorem fo_305_1 : fieldOff Go.Proofs.Tryz.prog 305 1 = some 1 := by kernel_rfl
theorem fo_305_2 : fieldOff Go.Proofs.Tryz.prog 305 2 = some 9 := by kernel_rfl
theorem fo_305_3 : fieldOff Go.Proofs.Tryz.prog 305 3 = some 73 := by kernel_rfl
theorem ag_309 : aggB Go.Proofs.Tryz.prog 309 = some (true, 64) := by kernel_rfl
theorem ea_309 : elemAr Go.Proofs.Tryz.prog 309 = some (64, 1) := by kernel_rfl
theorem ua_309 : Go.Proofs.Tryz.prog.underlying 309 = some (.array 64 219) := by kernel_rfl
theorem es_312 : elemSl Go.Proofs.Tryz.prog 312 = some 1 := by kernel_rfl
theorem ea_325 : elemAr Go.Proofs.Tryz.prog 325 = some (16, 1) := by kernel_rfl
end Go.Al
namespace Go.Al
/-- bits turned to the right. -/
def rot (x c : UInt32) : UInt32 := x <<< (32 - c) ||| x >>> c
def s0 (x : UInt32) : UInt32 := rot x 7 ^^^ rot x 18 ^^^ x >>> 3
def s1 (x : UInt32) : UInt32 := rot x 17 ^^^ rot x 19 ^^^ x >>> 10
def S1 (x : UInt32) : UInt32 := rot x 6 ^^^ rot x 11 ^^^ rot x 25
def S0 (x : UInt32) : UInt32 := rot x 2 ^^^ rot x 13 ^^^ rot x 22
def ch (e f g : UInt32) : UInt32 := (e &&& f) ||| (~~~e &&& g)
def maj (a b c : UInt32) : UInt32 := (a &&& b) ||| (a &&& c) ||| (b &&& c)
theorem ch_alt (e f g : UInt32) : (e &&& (f ^^^ g)) ^^^ g = ch e f g := by
  unfold ch
  apply UInt32.eq_of_toBitVec_eq
  simp only [UInt32.toBitVec_and, UInt32.toBitVec_xor, UInt32.toBitVec_or, UInt32.toBitVec_not]
  ext i hi
  simp
  cases e.toBitVec[i] <;> cases f.toBitVec[i] <;> cases g.toBitVec[i] <;> rfl
theorem maj_alt (a b c : UInt32) : (a &&& (b ||| c)) ||| (b &&& c) = maj a b c := by
  unfold maj
  apply UInt32.eq_of_toBitVec_eq
  simp only [UInt32.toBitVec_and, UInt32.toBitVec_or]
  ext i hi
  simp
  cases a.toBitVec[i] <;> cases b.toBitVec[i] <;> cases c.toBitVec[i] <;> rfl
def Ktab : List UInt32 := [0x428a2f98, 0x71374491, 0xb5c0fbcf, 0xe9b5dba5, 0x3956c25b, 0x59f111f1, 0x923f82a4, 0xab1c5ed5, 0xd807aa98, 0x12835b01, 0x243185be, 0x550c7dc3, 0x72be5d74, 0x80deb1fe, 0x9bdc06a7, 0xc19bf174, 0xe49b69c1, 0xefbe4786, 0xfc19dc6, 0x240ca1cc, 0x2de92c6f, 0x4a7484aa, 0x5cb0a9dc, 0x76f988da, 0x983e5152, 0xa831c66d, 0xb00327c8, 0xbf597fc7, 0xc6e00bf3, 0xd5a79147, 0x6ca6351, 0x14292967, 0x27b70a85, 0x2e1b2138, 0x4d2c6dfc, 0x53380d13, 0x650a7354, 0x766a0abb, 0x81c2c92e, 0x92722c85, 0xa2bfe8a1, 0xa81a664b, 0xc24b8b70, 0xc76c51a3, 0xd192e819, 0xd6990624, 0xf40e3585, 0x106aa070, 0x19a4c116, 0x1e376c08, 0x2748774c, 0x34b0bcb5, 0x391c0cb3, 0x4ed8aa4a, 0x5b9cca4f, 0x682e6ff3, 0x748f82ee, 0x78a5636f, 0x84c87814, 0x8cc70208, 0x90befffa, 0xa4506ceb, 0xbef9a3f7, 0xc67178f2]
def Kat (t : Nat) : UInt32 := Ktab.getD t 0
/-- Eight numbers. -/
structure R8 where
  a : UInt32
  b : UInt32
  c : UInt32
  d : UInt32
  e : UInt32
  f : UInt32
  g : UInt32
  h : UInt32
def R8.get (r : R8) : Nat → UInt32
  | 0 => r.a | 1 => r.b | 2 => r.c | 3 => r.d | 4 => r.e | 5 => r.f | 6 => r.g | _ => r.h
def R8.add (r s : R8) : R8 := ⟨r.a + s.a, r.b + s.b, r.c + s.c, r.d + s.d, r.e + s.e, r.f + s.f, r.g + s.g, r.h + s.h⟩
theorem R8.get_add (r s : R8) {i : Nat} (hi : i < 8) : (r.add s).get i = r.get i + s.get i := by
  have : i = 0 ∨ i = 1 ∨ i = 2 ∨ i = 3 ∨ i = 4 ∨ i = 5 ∨ i = 6 ∨ i = 7 := by omega
  rcases this with rfl | rfl | rfl | rfl | rfl | rfl | rfl | rfl <;> rfl
/-- The words after j bytes have come: word k. -/
def wp (b : Nat → UInt8) : Nat → Nat → UInt32
  | 0, _ => 0
  | j + 1, k => if j / 4 = k then wp b j k <<< 8 ||| (b j).toUInt32 else wp b j k
/-- The message's words. -/
def wd (b : Nat → UInt8) (t : Nat) : UInt32 :=
  if t < 16 then wp b 64 t else wd b (t - 16) + wd b (t - 7) + s0 (wd b (t - 15)) + s1 (wd b (t - 2))
termination_by t
decreasing_by all_goals omega
theorem wd_lo (b : Nat → UInt8) {t : Nat} (h : t < 16) : wd b t = wp b 64 t := by rw [wd, if_pos h]
theorem wd_hi (b : Nat → UInt8) {t : Nat} (h : 16 ≤ t) : wd b t = wd b (t - 16) + wd b (t - 7) + s0 (wd b (t - 15)) + s1 (wd b (t - 2)) := by
  rw [wd, if_neg (by omega)]
/-- One time. -/
def rnd (k w : UInt32) (r : R8) : R8 :=
  let p := r.h + k + w + S1 r.e + ch r.e r.f r.g
  let q := S0 r.a + maj r.a r.b r.c
  ⟨p + q, r.a, r.b, r.c, r.d + p, r.e, r.f, r.g⟩
def rnds (b : Nat → UInt8) (s : R8) : Nat → R8
  | 0 => s
  | t + 1 => rnd (Kat t) (wd b t) (rnds b s t)
/-- A block is taken. -/
def take (s : R8) (b : Nat → UInt8) : R8 := s.add (rnds b s 64)
/-- Which word stands at i of the ring when time t begins. -/
def ri (t i : Nat) : Nat := if t ≤ 16 then i else (t - 16) + (i + 1024 - t) % 16
theorem ri_new {t i : Nat} (h : 16 ≤ t) (h2 : t < 64) (hi : i < 16) : (if i = t % 16 then t else ri t i) = ri (t + 1) i := by
  unfold ri
  split <;> split <;> (try split) <;> omega
theorem ri_keep {t i : Nat} (h : t < 16) : ri t i = ri (t + 1) i := by
  unfold ri
  split <;> split <;> omega
theorem ri_at {t : Nat} (h : t < 64) (d : Nat) (hd : d < 16) (h2 : 16 ≤ t) : ri t ((t + d) % 16) = t - 16 + d := by
  unfold ri
  split <;> omega
theorem ri_self {t : Nat} (h : t < 64) : ri (t + 1) (t % 16) = t := by
  unfold ri
  split <;> omega
/-- Which of the eight stands at j when time t begins. -/
theorem rnd_get (k w : UInt32) (r : R8) (t j : Nat) (hj : j < 8) : (rnd k w r).get ((j + (t + 1)) % 8) =
    if j = (7 + 7 * t) % 8 then (r.h + k + w + S1 r.e + ch r.e r.f r.g) + (S0 r.a + maj r.a r.b r.c)
    else if j = (3 + 7 * t) % 8 then r.d + (r.h + k + w + S1 r.e + ch r.e r.f r.g) else r.get ((j + t) % 8) := by
  have ht : t % 8 < 8 := Nat.mod_lt _ (by decide)
  have e1 : (j + (t + 1)) % 8 = (j + t % 8 + 1) % 8 := by omega
  have e2 : (7 + 7 * t) % 8 = (7 + 7 * (t % 8)) % 8 := by omega
  have e3 : (3 + 7 * t) % 8 = (3 + 7 * (t % 8)) % 8 := by omega
  have e4 : (j + t) % 8 = (j + t % 8) % 8 := by omega
  rw [e1, e2, e3, e4]
  generalize t % 8 = u at ht
  have hu : u = 0 ∨ u = 1 ∨ u = 2 ∨ u = 3 ∨ u = 4 ∨ u = 5 ∨ u = 6 ∨ u = 7 := by omega
  have hjj : j = 0 ∨ j = 1 ∨ j = 2 ∨ j = 3 ∨ j = 4 ∨ j = 5 ∨ j = 6 ∨ j = 7 := by omega
  rcases hu with rfl | rfl | rfl | rfl | rfl | rfl | rfl | rfl <;> rcases hjj with rfl | rfl | rfl | rfl | rfl | rfl | rfl | rfl <;> rfl
end Go.Al
namespace Go.Al
open Go Go.RowKit
set_option linter.unusedVariables false
set_option linter.unusedSimpArgs false
theorem val_cast {P : Program} {ρ : Operand → Value} {w : World} {op : Op} {ty : TypeId} {v v' : Value} (h : Val P ρ w op ty v) (e : v = v') : Val P ρ w op ty v' := e ▸ h
theorem wrap32u8 (c : UInt8) : IntKind.u32.wrap (c.toNat : Int) = (c.toUInt32.toNat : Int) := by
  rw [wrap32 (by omega) (by have := c.toNat_lt; omega)]
  simp
theorem spl_all {l vs : List Value} {n : Nat} (h : l.length = n) (h2 : vs.length = n) : spl l 0 vs = vs := by
  unfold spl
  rw [List.drop_of_length_le (by omega)]
  simp
theorem getD_mr (f : Nat → Value) {n i : Nat} (h : i < n) : ((List.range n).map f)[i]? = some (f i) := by
  simp [h]
theorem one_mr {f : Nat → Value} (hf : ∀ i, (f i).one = true) (n : Nat) : ∀ v ∈ (List.range n).map f, v.one = true := by
  intro v hv
  obtain ⟨i, _, rfl⟩ := List.mem_map.1 hv
  exact hf i
/-- Eight numbers, as cells. -/
def c8 (r : R8) : List Value := (List.range 8).map fun i => v32 (r.get i)
def c64 (b : Nat → UInt8) : List Value := (List.range 64).map fun i => v8 (b i)
@[simp] theorem c8_len (r : R8) : (c8 r).length = 8 := by simp [c8]
@[simp] theorem c64_len (b : Nat → UInt8) : (c64 b).length = 64 := by simp [c64]
theorem c8_at (r : R8) {i : Nat} (h : i < 8) : (c8 r)[i]? = some (v32 (r.get i)) := getD_mr _ h
theorem c64_at (b : Nat → UInt8) {i : Nat} (h : i < 64) : (c64 b)[i]? = some (v8 (b i)) := getD_mr _ h
theorem c8_one (r : R8) : ∀ v ∈ c8 r, v.one = true := one_mr (fun _ => rfl) 8
/-- one cell laid over a row that is told by a function -/
theorem spl_one_mr {f g : Nat → Value} {n i : Nat} {v : Value} (hi : i < n) (hv : g i = v) (hf : ∀ j, j < n → j ≠ i → g j = f j) : spl ((List.range n).map f) i [v] = (List.range n).map g := by
  apply List.ext_getElem?
  intro j
  unfold spl
  by_cases hj : j < n
  · rw [List.getElem?_append, List.getElem?_append]
    simp only [List.length_append, List.length_take, List.length_map, List.length_range, List.length_singleton]
    by_cases h1 : j < i
    · rw [if_pos (by omega), if_pos (by omega)]
      simp [List.getElem?_take, h1, hj, hf j hj (by omega)]
    · by_cases h2 : j = i
      · subst h2
        rw [if_pos (by omega), if_neg (by omega)]
        simp [hj, hv, Nat.min_eq_left (Nat.le_of_lt hj)]
      · rw [if_neg (by omega)]
        simp only [List.getElem?_drop]
        rw [show i + 1 + (j - (min i n + 1)) = j from by omega]
        simp [hj, hf j hj h2]
  · rw [List.getElem?_eq_none (by simp; omega), List.getElem?_eq_none (by simp; omega)]
theorem ptr_eq {b o1 o2 : Nat} (h : o1 = o2) : Value.pointer (some ⟨b, o1, none⟩) = .pointer (some ⟨b, o2, none⟩) := by rw [h]
theorem int_eq {k : IntKind} {a b : Int} (h : a = b) : Value.int k a = .int k b := by rw [h]
theorem WP.join {P : Program} {n : Nat} {ds : List Deferred} {Q : Post} {τ : Fr} {w : World} {x y : Code} (R : Fr → World → Prop) (h1 : WP P n ds x (thenQ R Q) τ w) (h2 : ∀ τ w, R τ w → WP P n ds y Q τ w) : WP P n ds (.seq x y) Q τ w := by
  refine WP.seq (WP.mono h1 ?_)
  intro e τ w h
  cases e with
  | normal => exact h2 τ w h
  | _ => exact h
theorem mr_congr {f g : Nat → Value} {n : Nat} (h : ∀ i, i < n → f i = g i) : (List.range n).map f = (List.range n).map g :=
  List.map_congr_left fun i hi => h i (List.mem_range.1 hi)
theorem exit_pass {N : Fr → World → Prop} {Q : Post} {id : Nat} {τ : Fr} {w : World} (h : Q (.exit id) τ w) : thenQ N Q (.exit id) τ w := h
theorem exit_other {Q : Post} {id id' : Nat} {τ : Fr} {w : World} (hne : Nat.beq id' id = false) (h : Q (.exit id') τ w) : inBlk id Q (.exit id') τ w := by
  show bif Nat.beq id' id then _ else _
  rw [hne]; exact h
theorem ret_pass {N : Fr → World → Prop} {Q : Post} {τ : Fr} {w : World} (h : Q .ret τ w) : thenQ N Q .ret τ w := h
theorem ret_blk {Q : Post} {id : Nat} {τ : Fr} {w : World} (h : Q .ret τ w) : inBlk id Q .ret τ w := h
theorem zo_301 : zeroOf Go.Proofs.Tryz.prog 301 = some ((List.range 8).map fun i => v32 0) := by kernel_rfl
theorem zo_325 : zeroOf Go.Proofs.Tryz.prog 325 = some ((List.range 16).map fun i => v32 0) := by kernel_rfl
theorem zo_309 : zeroOf Go.Proofs.Tryz.prog 309 = some ((List.range 64).map fun i => v32 0) := by kernel_rfl
end Go.Al
namespace Go.Al
open Go Go.RowKit Go.Proofs
set_option linter.unusedVariables false
set_option linter.unusedSimpArgs false
theorem wrapU_neg (n : Int) (h1 : 0 < n) (h2 : n ≤ 100) : IntKind.u64.wrap (-n) = 18446744073709551616 - n := by
  simp [IntKind.wrap, IntKind.bits, IntKind.signed]; omega
theorem sub32 (c : UInt32) (h : c.toNat ≤ 32) : 32 - (c.toNat : Int) = ((32 - c).toNat : Int) := by
  have : c ≤ 32 := h
  rw [UInt32.toNat_sub_of_le _ _ this]
  have : (32 : UInt32).toNat = 32 := rfl
  omega
/-- the eight at first. -/
def sha0 : R8 := ⟨0x6a09e667, 0xbb67ae85, 0x3c6ef372, 0xa54ff53a, 0x510e527f, 0x9b05688c, 0x1f83d9ab, 0x5be0cd19⟩
theorem lt32 (c : UInt32) (h : c.toNat < 32) : c < 32 := h
theorem rotl_ok (x c : UInt32) (h1 : 0 < c.toNat) (h2 : c.toNat < 32) (w : World) :
    Calls Tryz.prog 295 [v32 x, vI (-(c.toNat : Int))].toArray w (Ret w (v32 (rot x c))) := by
  have hm := Mem.init w
  refine calls_enter (n := 17) Tryz.func295 rfl rfl rfl ?_
  refine wp_sr (E := noPanic) noPanic_imp ?_
  refine rl_val rfl (v := (v32 0)) (val_assign (v := (v32 0)) rfl) ?_
  refine rl_nil ?_
  refine wp_sr (E := noPanic) noPanic_imp ?_
  refine rl_val rfl (v := (vI (-(c.toNat : Int)))) (val_move (v := (vI (-(c.toNat : Int)))) rfl) ?_
  refine rl_val rfl (v := (vU (18446744073709551616 - (c.toNat : Int)))) (val_cast (val_conv ut_3 ui_190 rfl) (by rw [wrapU_neg _ (by omega) (by omega)])) ?_
  refine rl_val rfl (v := (vU (32 - (c.toNat : Int)))) (val_cast (val_maskU 5 (by decide) (p := 18446744073709551616 - (c.toNat : Int)) rfl rfl) (congrArg vU (by omega))) ?_
  refine rl_val rfl (v := (vU (32 - (c.toNat : Int)))) (val_assign (v := (vU (32 - (c.toNat : Int)))) rfl) ?_
  refine rl_nil ?_
  refine wp_sr (E := noPanic) noPanic_imp ?_
  refine rl_val rfl (v := (v32 x)) (val_move (v := (v32 x)) rfl) ?_
  refine rl_val rfl (v := (vU (32 - (c.toNat : Int)))) (val_move (v := (vU (32 - (c.toNat : Int)))) rfl) ?_
  refine rl_val rfl (v := (v32 (x <<< (32 - c)))) (val_shl32 (a := x) (32 - c) rfl rfl (sub32 c (by omega)) (lt32 _ (by rw [← Int.ofNat_lt, ← sub32 c (by omega)]; omega))) ?_
  refine rl_val rfl (v := (v32 x)) (val_move (v := (v32 x)) rfl) ?_
  refine rl_val rfl (v := (vU (32 - (c.toNat : Int)))) (val_move (v := (vU (32 - (c.toNat : Int)))) rfl) ?_
  refine rl_val rfl (v := (vU (32 - (32 - (c.toNat : Int))))) (val_subU (p := 32) (q := 32 - (c.toNat : Int)) rfl rfl (by omega)) ?_
  refine rl_val rfl (v := (v32 (x >>> c))) (val_shr32 (a := x) c rfl rfl (by omega) (lt32 _ h2)) ?_
  refine rl_val rfl (v := (v32 ((x <<< (32 - c)) ||| (x >>> c)))) (val_or32 (a := x <<< (32 - c)) (b := x >>> c) rfl rfl) ?_
  refine rl_val rfl (v := (v32 ((x <<< (32 - c)) ||| (x >>> c)))) (val_assign (v := (v32 ((x <<< (32 - c)) ||| (x >>> c)))) rfl) ?_
  refine rl_nil ?_
  refine WP.ret (post_ret1 rfl (v := (v32 ((x <<< (32 - c)) ||| (x >>> c)))) rfl ⟨rfl, hm⟩)
theorem two_ok (x a b c : UInt32) (ha : 0 < a.toNat ∧ a.toNat < 32) (hb : 0 < b.toNat ∧ b.toNat < 32) (hc : 0 < c.toNat ∧ c.toNat < 32) (w : World) :
    Calls Tryz.prog 286 [v32 x, vI (a.toNat : Int), vI (b.toNat : Int), vI (c.toNat : Int)].toArray w (Ret w (v32 (rot x a ^^^ rot x b ^^^ x >>> c))) := by
  have hm := Mem.init w
  have ha' := ha.2
  have hb' := hb.2
  have hc' := hc.2
  refine calls_enter (n := 22) Tryz.func286 rfl rfl rfl ?_
  refine wp_sr (E := noPanic) noPanic_imp ?_
  refine rl_val rfl (v := (v32 0)) (val_assign (v := (v32 0)) rfl) ?_
  refine rl_nil ?_
  refine wp_sd (E := noPanic) [(0, true), (1, true), (2, true), (4, true), (5, true), (6, true), (9, true), (10, true), (11, true), (3, false), (7, false), (8, true), (12, true), (13, true)] mixed (by kernel_rfl) (by kernel_rfl) rfl (fun w' => Mem w [] [] w') noPanic_imp hm.drew ?_
  have hm := hm.drew
  refine rp_val rfl rfl (v := (v32 x)) (fun w' hs => val_move (v := (v32 x)) rfl) ?_
  refine rp_val rfl rfl (v := (vI ((a.toNat : Int)))) (fun w' hs => val_move (v := (vI ((a.toNat : Int)))) rfl) ?_
  refine rp_val rfl rfl (v := (vI (-((a.toNat : Int))))) (fun w' hs => val_negI (p := (a.toNat : Int)) rfl (by omega)) ?_
  refine rp_val rfl rfl (v := (v32 x)) (fun w' hs => val_move (v := (v32 x)) rfl) ?_
  refine rp_val rfl rfl (v := (vI ((b.toNat : Int)))) (fun w' hs => val_move (v := (vI ((b.toNat : Int)))) rfl) ?_
  refine rp_val rfl rfl (v := (vI (-((b.toNat : Int))))) (fun w' hs => val_negI (p := (b.toNat : Int)) rfl (by omega)) ?_
  refine rp_val rfl rfl (v := (v32 x)) (fun w' hs => val_move (v := (v32 x)) rfl) ?_
  refine rp_val rfl rfl (v := (vI ((c.toNat : Int)))) (fun w' hs => val_move (v := (vI ((c.toNat : Int)))) rfl) ?_
  refine rp_val rfl rfl (v := (v32 (x >>> c))) (fun w' hs => val_shr32 (a := x) c rfl rfl rfl (lt32 _ hc.2)) ?_
  refine rp_call rfl rfl (ent_static (args := [(v32 x), (vI (-((a.toNat : Int))))]) Tryz.func295 rfl rfl rfl rfl) (rotl_ok x a ha.1 ha.2 _) ?_
  rintro _ w1 ⟨rfl, h2⟩
  refine callQ_ret ?_
  refine ⟨.inr ((hm.call h2).drop 0), ?_⟩
  replace hm : Mem w [] [] w1 := hm.call h2
  refine rp_call rfl rfl (ent_static (args := [(v32 x), (vI (-((b.toNat : Int))))]) Tryz.func295 rfl rfl rfl rfl) (rotl_ok x b hb.1 hb.2 _) ?_
  rintro _ w3 ⟨rfl, h4⟩
  refine callQ_ret ?_
  refine ⟨.inr ((hm.call h4).drop 0), ?_⟩
  replace hm : Mem w [] [] w3 := hm.call h4
  refine rp_val rfl rfl (v := (v32 ((rot x a) ^^^ (rot x b)))) (fun w' hs => val_xor32 (a := rot x a) (b := rot x b) rfl rfl) ?_
  refine rp_val rfl rfl (v := (v32 (((rot x a) ^^^ (rot x b)) ^^^ (x >>> c)))) (fun w' hs => val_xor32 (a := (rot x a) ^^^ (rot x b)) (b := x >>> c) rfl rfl) ?_
  refine rp_val rfl rfl (v := (v32 (((rot x a) ^^^ (rot x b)) ^^^ (x >>> c)))) (fun w' hs => val_assign (v := (v32 (((rot x a) ^^^ (rot x b)) ^^^ (x >>> c)))) rfl) ?_
  refine rp_nil ?_
  refine WP.ret (post_ret1 rfl (v := (v32 (((rot x a) ^^^ (rot x b)) ^^^ (x >>> c)))) rfl ⟨rfl, hm⟩)
theorem three_ok (x a b c : UInt32) (ha : 0 < a.toNat ∧ a.toNat < 32) (hb : 0 < b.toNat ∧ b.toNat < 32) (hc : 0 < c.toNat ∧ c.toNat < 32) (w : World) :
    Calls Tryz.prog 287 [v32 x, vI (a.toNat : Int), vI (b.toNat : Int), vI (c.toNat : Int)].toArray w (Ret w (v32 (rot x a ^^^ rot x b ^^^ rot x c))) := by
  have hm := Mem.init w
  have ha' := ha.2
  have hb' := hb.2
  have hc' := hc.2
  refine calls_enter (n := 23) Tryz.func287 rfl rfl rfl ?_
  refine wp_sr (E := noPanic) noPanic_imp ?_
  refine rl_val rfl (v := (v32 0)) (val_assign (v := (v32 0)) rfl) ?_
  refine rl_nil ?_
  refine wp_sr (E := noPanic) noPanic_imp ?_
  refine rl_val rfl (v := (v32 x)) (val_move (v := (v32 x)) rfl) ?_
  refine rl_val rfl (v := (vI ((a.toNat : Int)))) (val_move (v := (vI ((a.toNat : Int)))) rfl) ?_
  refine rl_val rfl (v := (vI (-((a.toNat : Int))))) (val_negI (p := (a.toNat : Int)) rfl (by omega)) ?_
  refine rl_call rfl (ent_static (args := [(v32 x), (vI (-((a.toNat : Int))))]) Tryz.func295 rfl rfl rfl rfl) (rotl_ok x a ha.1 ha.2 _) ?_
  rintro _ w1 ⟨rfl, h2⟩
  refine callQ_ret ?_
  replace hm : Mem w [] [] w1 := hm.call h2
  refine rl_val rfl (v := (v32 x)) (val_move (v := (v32 x)) rfl) ?_
  refine rl_val rfl (v := (vI ((b.toNat : Int)))) (val_move (v := (vI ((b.toNat : Int)))) rfl) ?_
  refine rl_val rfl (v := (vI (-((b.toNat : Int))))) (val_negI (p := (b.toNat : Int)) rfl (by omega)) ?_
  refine rl_call rfl (ent_static (args := [(v32 x), (vI (-((b.toNat : Int))))]) Tryz.func295 rfl rfl rfl rfl) (rotl_ok x b hb.1 hb.2 _) ?_
  rintro _ w3 ⟨rfl, h4⟩
  refine callQ_ret ?_
  replace hm : Mem w [] [] w3 := hm.call h4
  refine rl_val rfl (v := (v32 ((rot x a) ^^^ (rot x b)))) (val_xor32 (a := rot x a) (b := rot x b) rfl rfl) ?_
  refine rl_val rfl (v := (v32 x)) (val_move (v := (v32 x)) rfl) ?_
  refine rl_val rfl (v := (vI ((c.toNat : Int)))) (val_move (v := (vI ((c.toNat : Int)))) rfl) ?_
  refine rl_val rfl (v := (vI (-((c.toNat : Int))))) (val_negI (p := (c.toNat : Int)) rfl (by omega)) ?_
  refine rl_call rfl (ent_static (args := [(v32 x), (vI (-((c.toNat : Int))))]) Tryz.func295 rfl rfl rfl rfl) (rotl_ok x c hc.1 hc.2 _) ?_
  rintro _ w5 ⟨rfl, h6⟩
  refine callQ_ret ?_
  replace hm : Mem w [] [] w5 := hm.call h6
  refine rl_val rfl (v := (v32 (((rot x a) ^^^ (rot x b)) ^^^ (rot x c)))) (val_xor32 (a := (rot x a) ^^^ (rot x b)) (b := rot x c) rfl rfl) ?_
  refine rl_val rfl (v := (v32 (((rot x a) ^^^ (rot x b)) ^^^ (rot x c)))) (val_assign (v := (v32 (((rot x a) ^^^ (rot x b)) ^^^ (rot x c)))) rfl) ?_
  refine rl_nil ?_
  refine WP.ret (post_ret1 rfl (v := (v32 (((rot x a) ^^^ (rot x b)) ^^^ (rot x c)))) rfl ⟨rfl, hm⟩)
theorem table_ok (w : World) : Calls Tryz.prog 285 ([] : List Value).toArray w (Ret w (.agg (Ktab.map v32).toArray)) := by
  have hm := Mem.init w
  refine calls_enter (n := 2) Tryz.func285 rfl rfl rfl ?_
  refine wp_sr (E := noPanic) noPanic_imp ?_
  refine rl_alloc (xs := (List.range 64).map fun i => v32 (0)) rfl zo_309 hm ?_
  intro b1 w2 hm
  refine rl_nil ?_
  refine wp_sr (E := noPanic) noPanic_imp ?_
  refine rl_val rfl (v := (.agg (Ktab.map v32).toArray)) ((fun o ho ht => by unfold execOp; rw [ho]; kernel_rfl)) ?_
  refine rl_store (i := 0) (off := 0) (xs := ((List.range 64).map fun i => v32 (0))) (vs := Ktab.map v32) rfl rfl rfl ag_309 hm rfl rfl rfl (by simp) (by intro v hv; obtain ⟨x, _, rfl⟩ := List.mem_map.1 hv; rfl) ?_
  intro w3 hm
  rw [spl_all (n := 64) (by simp) rfl] at hm
  replace hm : Mem w [] [(b1, row (Ktab.map v32) 309)] w3 := hm
  refine rl_nil ?_
  exact WP.ret (post_rets rfl (vs := [(.agg (Ktab.map v32).toArray)]) ⟨⟨true, 64, _, 0, _, rfl, ag_309, (hm.row (i := 0) rfl).l, by simp [Ktab], by decide, by simp [rd, Ktab]⟩, trivial⟩ rfl ⟨rfl, hm.nil⟩)
theorem begin_ok (w : World) : Calls Tryz.prog 266 ([] : List Value).toArray w (Ret w (.agg (c8 sha0).toArray)) := by
  have hm := Mem.init w
  refine calls_enter (n := 2) Tryz.func266 rfl rfl rfl ?_
  refine wp_sr (E := noPanic) noPanic_imp ?_
  refine rl_alloc (xs := (List.range 8).map fun i => v32 (0)) rfl zo_301 hm ?_
  intro b1 w2 hm
  refine rl_nil ?_
  refine wp_sr (E := noPanic) noPanic_imp ?_
  refine rl_val rfl (v := (.agg (c8 sha0).toArray)) ((fun o ho ht => by unfold execOp; rw [ho]; kernel_rfl)) ?_
  refine rl_store (i := 0) (off := 0) (xs := ((List.range 8).map fun i => v32 (0))) (vs := c8 sha0) rfl rfl rfl ag_301 hm rfl rfl rfl (by simp) (c8_one _) ?_
  intro w3 hm
  rw [spl_all (n := 8) (by simp) rfl] at hm
  replace hm : Mem w [] [(b1, row (c8 sha0) 301)] w3 := hm
  refine rl_nil ?_
  exact WP.ret (post_rets rfl (vs := [(.agg (c8 sha0).toArray)]) ⟨⟨true, 8, _, 0, _, rfl, ag_301, (hm.row (i := 0) rfl).l, by simp, by decide, by simp [rd, List.take_of_length_le]⟩, trivial⟩ rfl ⟨rfl, hm.nil⟩)
end Go.Al
namespace Go.Al
open Go Go.RowKit Go.Proofs
set_option linter.unusedVariables false
set_option linter.unusedSimpArgs false
theorem blt_t {i n : Nat} (h : i < n) : Nat.blt i n = true := Nat.ble_eq_true_of_le h
theorem blt_f {i n : Nat} (h : n ≤ i) : Nat.blt i n = false := by
  cases hb : Nat.blt i n with
  | false => rfl
  | true => have := Nat.le_of_ble_eq_true hb; omega
theorem Kat_at {t : Nat} (h : t < 64) : (Ktab.map v32)[t]? = some (v32 (Kat t)) := by
  have hl : Ktab.length = 64 := rfl
  simp [Kat, List.getElem?_eq_getElem (show t < Ktab.length by omega)]
theorem tookA {b : Nat → UInt8} {j : Nat} (h : j < 64) : spl ((List.range 16).map fun i => v32 (wp b j i)) (j / 4) [v32 (wp b j (j / 4) <<< 8 ||| (b j).toUInt32)] = (List.range 16).map fun i => v32 (wp b (j + 1) i) := by
  refine spl_one_mr (by omega) ?_ ?_
  · simp [wp]
  · intro i hi hne
    simp [wp, Ne.symm hne]
theorem tookB0 (b : Nat → UInt8) : ((List.range 16).map fun i => v32 (wp b 64 i)) = (List.range 16).map fun i => v32 (wd b (ri 0 i)) := by
  refine mr_congr fun i hi => ?_
  rw [show ri 0 i = i from by simp [ri], wd_lo b hi]
theorem tookW {b : Nat → UInt8} {t : Nat} (h1 : 16 ≤ t) (h : t < 64) :
    spl ((List.range 16).map fun i => v32 (wd b (ri t i))) (t % 16) [v32 ((wd b (ri t (t % 16))) + (((s0 (wd b (ri t ((t + 1) % 16)))) + (wd b (ri t ((t + 9) % 16)))) + (s1 (wd b (ri t ((t + 14) % 16))))))] = (List.range 16).map fun i => v32 (wd b (ri (t + 1) i)) := by
  have e0 := ri_at h 0 (by decide) h1
  have e1 := ri_at h 1 (by decide) h1
  have e9 := ri_at h 9 (by decide) h1
  have e14 := ri_at h 14 (by decide) h1
  simp only [Nat.add_zero] at e0
  refine spl_one_mr (by omega) ?_ ?_
  · rw [ri_self h, e0, e1, e9, e14, wd_hi b h1, show t - 16 + 1 = t - 15 from by omega, show t - 16 + 9 = t - 7 from by omega, show t - 16 + 14 = t - 2 from by omega]
    refine congrArg v32 ?_
    ac_rfl
  · intro i hi hne
    have := ri_new h1 h hi
    rw [if_neg hne] at this
    rw [this]
theorem tookW0 {b : Nat → UInt8} {t : Nat} (h : t < 16) : ((List.range 16).map fun i => v32 (wd b (ri t i))) = (List.range 16).map fun i => v32 (wd b (ri (t + 1) i)) :=
  mr_congr fun i hi => by rw [ri_keep h]
theorem WR_self {b : Nat → UInt8} {t : Nat} (h : t < 64) : ((List.range 16).map fun i => v32 (wd b (ri (t + 1) i)))[t % 16]? = some (v32 (wd b t)) := by
  rw [getD_mr _ (by omega), ri_self h]
theorem V_at {b : Nat → UInt8} {s : R8} {t : Nat} (k : Nat) (hk : k < 8) : ((List.range 8).map fun i => v32 ((rnds b s t).get ((i + t) % 8)))[(k + 7 * t) % 8]? = some (v32 ((rnds b s t).get k)) := by
  rw [getD_mr _ (by omega), show ((k + 7 * t) % 8 + t) % 8 = k from by omega]
/-- the first sum of a time. -/
def pr (b : Nat → UInt8) (s : R8) (t : Nat) : UInt32 := (rnds b s t).h + Kat t + wd b t + S1 (rnds b s t).e + ch (rnds b s t).e (rnds b s t).f (rnds b s t).g
theorem pr_raw (b : Nat → UInt8) (s : R8) (t : Nat) : ((((rnds b s t).h + (Kat t)) + (wd b t)) + (S1 (rnds b s t).e)) + (((rnds b s t).e &&& ((rnds b s t).f ^^^ (rnds b s t).g)) ^^^ (rnds b s t).g) = pr b s t := by
  rw [ch_alt]; rfl
def vmid (b : Nat → UInt8) (s : R8) (t i : Nat) : UInt32 := if i = (3 + 7 * t) % 8 then (rnds b s t).d + pr b s t else (rnds b s t).get ((i + t) % 8)
theorem tookV1 (b : Nat → UInt8) (s : R8) (t : Nat) : spl ((List.range 8).map fun i => v32 ((rnds b s t).get ((i + t) % 8))) ((3 + 7 * t) % 8) [v32 ((rnds b s t).d + (pr b s t))] = (List.range 8).map fun i => v32 (vmid b s t i) := by
  refine spl_one_mr (by omega) ?_ ?_
  · simp [vmid]
  · intro i hi hne; simp [vmid, hne]
theorem tookV2 (b : Nat → UInt8) (s : R8) (t : Nat) : spl ((List.range 8).map fun i => v32 (vmid b s t i)) ((7 + 7 * t) % 8) [v32 (((pr b s t) + (S0 (rnds b s t).a)) + (((rnds b s t).a &&& ((rnds b s t).b ||| (rnds b s t).c)) ||| ((rnds b s t).b &&& (rnds b s t).c)))] =
    (List.range 8).map fun i => v32 ((rnds b s (t + 1)).get ((i + (t + 1)) % 8)) := by
  refine spl_one_mr (by omega) ?_ ?_
  · rw [maj_alt]
    show v32 ((rnd (Kat t) (wd b t) (rnds b s t)).get _) = _
    rw [rnd_get _ _ _ _ _ (by omega), if_pos rfl, UInt32.add_assoc (pr b s t)]
    rfl
  · intro i hi hne
    show v32 ((rnd (Kat t) (wd b t) (rnds b s t)).get _) = _
    rw [rnd_get _ _ _ _ _ hi, if_neg hne]
    unfold vmid
    split <;> rfl
theorem tookC0 (b : Nat → UInt8) (s : R8) : c8 s = (List.range 8).map fun i => v32 (bif Nat.blt i 0 then (Al.take s b).get i else s.get i) :=
  mr_congr fun i hi => by rw [blt_f (Nat.zero_le i)]; rfl
theorem tookC {b : Nat → UInt8} {s : R8} {u : Nat} (h : u < 8) : spl ((List.range 8).map fun i => v32 (bif Nat.blt i u then (Al.take s b).get i else s.get i)) u [v32 ((bif Nat.blt u u then (Al.take s b).get u else s.get u) + ((rnds b s 64).get ((u + 64) % 8)))] =
    (List.range 8).map fun i => v32 (bif Nat.blt i (u + 1) then (Al.take s b).get i else s.get i) := by
  refine spl_one_mr h ?_ ?_
  · have e1 : Nat.blt u (u + 1) = true := blt_t (by omega)
    have e2 : Nat.blt u u = false := blt_f (Nat.le_refl _)
    rw [e1, e2, show (u + 64) % 8 = u from by omega]
    simp only [cond_true, cond_false]
    unfold Al.take
    rw [R8.get_add _ _ h]
  · intro i hi hne
    have : Nat.blt i (u + 1) = Nat.blt i u := by
      by_cases h3 : i < u
      · rw [blt_t h3, blt_t (by omega)]
      · rw [blt_f (by omega), blt_f (by omega)]
    rw [this]
theorem tookC8 (b : Nat → UInt8) (s : R8) : ((List.range 8).map fun i => v32 (bif Nat.blt i 8 then (Al.take s b).get i else s.get i)) = c8 (Al.take s b) :=
  mr_congr fun i hi => by
    rw [blt_t hi]; rfl
theorem tookV0 (b : Nat → UInt8) (s : R8) : c8 s = (List.range 8).map fun i => v32 ((rnds b s 0).get ((i + 0) % 8)) :=
  mr_congr fun i hi => by rw [show (i + 0) % 8 = i from by omega]; rfl
end Go.Al
namespace Go.Al
open Go Go.RowKit Go.Proofs
set_option linter.unusedVariables false
set_option linter.unusedSimpArgs false
theorem took_ok (s : R8) (b : Nat → UInt8) (w : World) : Calls Tryz.prog 267 [.agg (c8 s).toArray, .agg (c64 b).toArray].toArray w (Ret w (.agg (c8 (take s b)).toArray)) := by
  have hm := Mem.init w
  refine calls_enter (n := 163) Tryz.func267 rfl rfl rfl ?_
  refine wp_sr (E := noPanic) noPanic_imp ?_
  refine rl_box (v := (.agg (c8 s).toArray)) (xs := c8 s) rfl rfl rfl hm ?_
  intro b1 w2 hm
  refine rl_box (v := (.agg (c64 b).toArray)) (xs := c64 b) rfl rfl rfl hm ?_
  intro b3 w4 hm
  refine rl_alloc (xs := (List.range 8).map fun i => v32 (0)) rfl zo_301 hm ?_
  intro b5 w6 hm
  refine rl_nil ?_
  refine wp_sr (E := noPanic) noPanic_imp ?_
  refine rl_alloc (xs := (List.range 16).map fun i => v32 (0)) rfl zo_325 hm ?_
  intro b7 w8 hm
  refine rl_nil ?_
  refine WP.seq ?_
  refine wp_sr (E := noPanic) noPanic_imp ?_
  refine rl_val rfl (v := (.agg (c64 b).toArray)) (val_loadAll rfl ag_303 (hm.row (i := 2) rfl).l (by simp) (by decide)) ?_
  refine rl_val rfl (v := (vI 0)) (val_move (v := (vI 0)) rfl) ?_
  refine rl_nil ?_
  refine WP.block ?_
  refine WP.loop (fun k τ w' => ∃ j : Nat, j + k = 64 ∧ Mem w [] [(b7, row ((List.range 16).map fun i => v32 (wp b j i)) 325), (b5, row ((List.range 8).map fun i => v32 (0)) 301), (b3, row (c64 b) 303), (b1, row (c8 s) 301)] w' ∧ τ 21 = (vI (j : Int)) ∧ τ 2 = (.pointer (some ⟨b1, 0, none⟩)) ∧ τ 4 = (.pointer (some ⟨b5, 0, none⟩)) ∧ τ 5 = (.pointer (some ⟨b7, 0, none⟩)) ∧ τ 20 = (.agg (c64 b).toArray)) 64 ?_ ?_
  · exact ⟨0, by omega, hm, rfl, rfl, rfl, rfl, rfl⟩
  · rintro k τ w_j ⟨j, hk, hm, h21_j, h2_j, h4_j, h5_j, h20_j⟩
    refine wp_sr (E := noPanic) noPanic_imp ?_
    refine rl_val rfl (v := (.bool (decide ((j : Int) < 64)))) (val_lt (p := (j : Int)) (q := 64) h21_j rfl) ?_
    refine rl_nil ?_
    refine wp_guard (b := decide ((j : Int) < 64)) rfl (fun hb => ?_) (fun hb => ?_)
    ·
      have hlt : j < 64 := by simp at hb; omega
      refine WP.seq (WP.block ?_)
      refine wp_sr (E := noPanic) noPanic_imp ?_
      refine rl_val rfl (v := (vI (j : Int))) (val_move (v := (vI (j : Int))) h21_j) ?_
      refine rl_val rfl (v := (v8 (b j))) (val_index1 (l := c64 b) (i := (j : Int)) (n := 64) h20_j h21_j ua_303 ag_5 (by omega) (c64_at _ (by omega))) ?_
      refine rl_val rfl (v := (vI (j : Int))) (val_assign (v := (vI (j : Int))) rfl) ?_
      refine rl_val rfl (v := (v8 (b j))) (val_assign (v := (v8 (b j))) rfl) ?_
      refine rl_nil ?_
      refine wp_r (E := noPanic) noPanic_imp ?_
      refine rl_val rfl (v := (vI (j : Int))) (val_move (v := (vI (j : Int))) rfl) ?_
      refine rl_val rfl (v := (vI ((j : Int) / 4))) (val_quoI (p := (j : Int)) (q := 4) rfl rfl (by omega)) ?_
      refine rl_val rfl (v := (vI (j : Int))) (val_move (v := (vI (j : Int))) rfl) ?_
      refine rl_val rfl (v := (vI ((j : Int) / 4))) (val_quoI (p := (j : Int)) (q := 4) rfl rfl (by omega)) ?_
      refine rl_val rfl (v := (.pointer (some ⟨b7, j / 4, none⟩))) (val_cast (val_indexAr (i := (j : Int) / 4) (n := 16) (sz := 1) h5_j rfl ea_325 (by omega)) (ptr_eq (by omega))) ?_
      refine rl_val rfl (v := (v32 (wp b j (j / 4)))) (val_load1 (v := (v32 (wp b j (j / 4)))) (off := j / 4) rfl ag_219 (hm.row (i := 0) rfl).l (getD_mr _ (by omega))) ?_
      refine rl_val rfl (v := (v32 ((wp b j (j / 4)) <<< 8))) (val_shl32 (a := wp b j (j / 4)) 8 rfl rfl rfl (by decide)) ?_
      refine rl_val rfl (v := (v8 (b j))) (val_move (v := (v8 (b j))) rfl) ?_
      refine rl_val rfl (v := (v32 ((b j).toUInt32))) (val_cast (val_conv ut_5 ui_219 rfl) (by simp [wrap32u8])) ?_
      refine rl_val rfl (v := (v32 (((wp b j (j / 4)) <<< 8) ||| ((b j).toUInt32)))) (val_or32 (a := (wp b j (j / 4)) <<< 8) (b := (b j).toUInt32) rfl rfl) ?_
      refine rl_val rfl (v := (.pointer (some ⟨b7, j / 4, none⟩))) (val_cast (val_indexAr (i := (j : Int) / 4) (n := 16) (sz := 1) h5_j rfl ea_325 (by omega)) (ptr_eq (by omega))) ?_
      refine rl_store (i := 0) (off := j / 4) (xs := ((List.range 16).map fun i => v32 (wp b j i))) (vs := [(v32 (((wp b j (j / 4)) <<< 8) ||| ((b j).toUInt32)))]) rfl rfl rfl ag_219 hm rfl rfl rfl (by simp; omega) (by simp [Value.one]) ?_
      intro w9 hm
      rw [tookA hlt] at hm
      replace hm : Mem w [] [(b7, row ((List.range 16).map fun i => v32 (wp b (j + 1) i)) 325), (b5, row ((List.range 8).map fun i => v32 (0)) 301), (b3, row (c64 b) 303), (b1, row (c8 s) 301)] w9 := hm
      refine rl_nil ?_
      refine wp_r (E := noPanic) noPanic_imp ?_
      refine rl_val rfl (v := (vI ((j : Int) + 1))) (val_addI (p := (j : Int)) (q := 1) h21_j rfl (by omega)) ?_
      refine rl_val rfl (v := (vI ((j : Int) + 1))) (val_move (v := (vI ((j : Int) + 1))) rfl) ?_
      refine rl_nil ?_
      exact ⟨k - 1, by omega, j + 1, by omega, hm, (int_eq (by omega)), h2_j, h4_j, h5_j, h20_j⟩
    ·
      have hje : j = 64 := by simp at hb; omega
      subst hje
      repeat (first | with_reducible refine exit_pass ?_ | with_reducible refine exit_other rfl ?_)
      refine blk_here ?_
      refine wp_sr (E := noPanic) noPanic_imp ?_
      refine rl_val rfl (v := (.agg (c8 s).toArray)) (val_loadAll h2_j ag_301 (hm.row (i := 3) rfl).l (by simp) (by decide)) ?_
      refine rl_alloc (xs := (List.range 8).map fun i => v32 (0)) rfl zo_301 hm ?_
      intro b10 w11 hm
      refine rl_store (i := 0) (off := 0) (xs := ((List.range 8).map fun i => v32 (0))) (vs := c8 s) rfl rfl rfl ag_301 hm rfl rfl (c8_len _) (by simp) (c8_one _) ?_
      intro w12 hm
      rw [spl_all (n := 8) ((by simp)) (c8_len _)] at hm
      replace hm : Mem w [] [(b10, row (c8 s) 301), (b7, row ((List.range 16).map fun i => v32 (wp b 64 i)) 325), (b5, row ((List.range 8).map fun i => v32 (0)) 301), (b3, row (c64 b) 303), (b1, row (c8 s) 301)] w12 := hm
      refine rl_nil ?_
      refine WP.seq ?_
      refine wp_sr (E := noPanic) noPanic_imp ?_
      refine rl_call rfl (ent_static (args := []) Tryz.func285 rfl rfl rfl rfl) (table_ok _) ?_
      rintro _ w13 ⟨rfl, h14⟩
      refine callQ_ret ?_
      replace hm : Mem w [] [(b10, row (c8 s) 301), (b7, row ((List.range 16).map fun i => v32 (wp b 64 i)) 325), (b5, row ((List.range 8).map fun i => v32 (0)) 301), (b3, row (c64 b) 303), (b1, row (c8 s) 301)] w13 := hm.call h14
      refine rl_val rfl (v := (vI 0)) (val_move (v := (vI 0)) rfl) ?_
      refine rl_nil ?_
      refine WP.block ?_
      refine WP.loop (fun k τ w' => ∃ t : Nat, t + k = 64 ∧ Mem w [] [(b10, row ((List.range 8).map fun i => v32 ((rnds b s t).get ((i + t) % 8))) 301), (b7, row ((List.range 16).map fun i => v32 (wd b (ri t i))) 325), (b5, row ((List.range 8).map fun i => v32 (0)) 301), (b3, row (c64 b) 303), (b1, row (c8 s) 301)] w' ∧ τ 39 = (vI (t : Int)) ∧ τ 2 = (.pointer (some ⟨b1, 0, none⟩)) ∧ τ 4 = (.pointer (some ⟨b5, 0, none⟩)) ∧ τ 5 = (.pointer (some ⟨b7, 0, none⟩)) ∧ τ 8 = (.pointer (some ⟨b10, 0, none⟩)) ∧ τ 38 = (.agg (Ktab.map v32).toArray)) 64 ?_ ?_
      · exact ⟨0, by omega, (by rw [← tookB0, ← tookV0]; exact hm), rfl, h2_j, h4_j, h5_j, rfl, rfl⟩
      · rintro k τ w_t ⟨t, hk, hm, h39_t, h2_t, h4_t, h5_t, h8_t, h38_t⟩
        refine wp_sr (E := noPanic) noPanic_imp ?_
        refine rl_val rfl (v := (.bool (decide ((t : Int) < 64)))) (val_lt (p := (t : Int)) (q := 64) h39_t rfl) ?_
        refine rl_nil ?_
        refine wp_guard (b := decide ((t : Int) < 64)) rfl (fun hb => ?_) (fun hb => ?_)
        ·
          have hlt : t < 64 := by simp at hb; omega
          refine WP.seq (WP.block ?_)
          refine wp_sr (E := noPanic) noPanic_imp ?_
          refine rl_val rfl (v := (vI (t : Int))) (val_move (v := (vI (t : Int))) h39_t) ?_
          refine rl_val rfl (v := (v32 (Kat t))) (val_index1 (l := Ktab.map v32) (i := (t : Int)) (n := 64) h38_t h39_t ua_309 ag_219 (by omega) (Kat_at (by omega))) ?_
          refine rl_val rfl (v := (vI (t : Int))) (val_assign (v := (vI (t : Int))) rfl) ?_
          refine rl_val rfl (v := (v32 (Kat t))) (val_assign (v := (v32 (Kat t))) rfl) ?_
          refine rl_nil ?_
          refine wp_sr (E := noPanic) noPanic_imp ?_
          refine rl_val rfl (v := (vI (t : Int))) (val_move (v := (vI (t : Int))) rfl) ?_
          refine rl_val rfl (v := (vI ((t : Int) % 16))) (val_remI (p := (t : Int)) (q := 16) rfl rfl (by omega)) ?_
          refine rl_val rfl (v := (vI ((t : Int) % 16))) (val_assign (v := (vI ((t : Int) % 16))) rfl) ?_
          refine rl_nil ?_
          refine WP.join (fun τ w' => Mem w [] [(b10, row ((List.range 8).map fun i => v32 ((rnds b s t).get ((i + t) % 8))) 301), (b7, row ((List.range 16).map fun i => v32 (wd b (ri (t + 1) i))) 325), (b5, row ((List.range 8).map fun i => v32 (0)) 301), (b3, row (c64 b) 303), (b1, row (c8 s) 301)] w' ∧ τ 9 = (vI (t : Int)) ∧ τ 10 = (v32 (Kat t)) ∧ τ 11 = (vI ((t : Int) % 16)) ∧ τ 39 = (vI (t : Int)) ∧ τ 2 = (.pointer (some ⟨b1, 0, none⟩)) ∧ τ 4 = (.pointer (some ⟨b5, 0, none⟩)) ∧ τ 5 = (.pointer (some ⟨b7, 0, none⟩)) ∧ τ 8 = (.pointer (some ⟨b10, 0, none⟩)) ∧ τ 38 = (.agg (Ktab.map v32).toArray)) ?_ ?_
          ·
            refine wp_sr (E := noPanic) noPanic_imp ?_
            refine rl_val rfl (v := (vI (t : Int))) (val_move (v := (vI (t : Int))) rfl) ?_
            refine rl_val rfl (v := (.bool (decide (16 ≤ (t : Int))))) (val_ge (p := (t : Int)) (q := 16) rfl rfl) ?_
            refine rl_nil ?_
            refine WP.cond (b := decide (16 ≤ (t : Int))) rfl (fun hb => ?_) (fun hb => ?_)
            ·
              have hq15 := of_decide_eq_true hb
              refine wp_d (E := noPanic) [(0, true), (1, true), (2, true), (3, true), (4, true), (5, true), (6, true), (7, true), (9, true), (10, true), (11, true), (12, true), (13, true), (15, true), (16, true), (17, true), (18, true), (19, true), (8, false), (14, true), (20, false), (21, true), (22, true), (23, true), (24, false)] mixed (by kernel_rfl) (by kernel_rfl) rfl (fun w' => Mem w [] [(b10, row ((List.range 8).map fun i => v32 ((rnds b s t).get ((i + t) % 8))) 301), (b7, row ((List.range 16).map fun i => v32 (wd b (ri t i))) 325), (b5, row ((List.range 8).map fun i => v32 (0)) 301), (b3, row (c64 b) 303), (b1, row (c8 s) 301)] w') noPanic_imp hm.drew ?_
              have hm := hm.drew
              refine rp_val rfl rfl (v := (vI ((t : Int) % 16))) (fun w' hs => val_move (v := (vI ((t : Int) % 16))) rfl) ?_
              refine rp_val rfl rfl (v := (.pointer (some ⟨b7, t % 16, none⟩))) (fun w' hs => val_cast (val_indexAr (i := (t : Int) % 16) (n := 16) (sz := 1) h5_t rfl ea_325 (by omega)) (ptr_eq (by omega))) ?_
              refine rp_val rfl rfl (v := (v32 (wd b (ri t (t % 16))))) (fun w' hs => val_load1 (v := (v32 (wd b (ri t (t % 16))))) (off := t % 16) rfl ag_219 (hs.row (i := 1) rfl).l (getD_mr _ (by omega))) ?_
              refine rp_val rfl rfl (v := (vI (t : Int))) (fun w' hs => val_move (v := (vI (t : Int))) rfl) ?_
              refine rp_val rfl rfl (v := (vI ((t : Int) + 1))) (fun w' hs => val_addI (p := (t : Int)) (q := 1) rfl rfl (by omega)) ?_
              refine rp_val rfl rfl (v := (vI (((t : Int) + 1) % 16))) (fun w' hs => val_remI (p := (t : Int) + 1) (q := 16) rfl rfl (by omega)) ?_
              refine rp_val rfl rfl (v := (.pointer (some ⟨b7, (t + 1) % 16, none⟩))) (fun w' hs => val_cast (val_indexAr (i := ((t : Int) + 1) % 16) (n := 16) (sz := 1) h5_t rfl ea_325 (by omega)) (ptr_eq (by omega))) ?_
              refine rp_val rfl rfl (v := (v32 (wd b (ri t ((t + 1) % 16))))) (fun w' hs => val_load1 (v := (v32 (wd b (ri t ((t + 1) % 16))))) (off := (t + 1) % 16) rfl ag_219 (hs.row (i := 1) rfl).l (getD_mr _ (by omega))) ?_
              refine rp_val rfl rfl (v := (vI (t : Int))) (fun w' hs => val_move (v := (vI (t : Int))) rfl) ?_
              refine rp_val rfl rfl (v := (vI ((t : Int) + 9))) (fun w' hs => val_addI (p := (t : Int)) (q := 9) rfl rfl (by omega)) ?_
              refine rp_val rfl rfl (v := (vI (((t : Int) + 9) % 16))) (fun w' hs => val_remI (p := (t : Int) + 9) (q := 16) rfl rfl (by omega)) ?_
              refine rp_val rfl rfl (v := (.pointer (some ⟨b7, (t + 9) % 16, none⟩))) (fun w' hs => val_cast (val_indexAr (i := ((t : Int) + 9) % 16) (n := 16) (sz := 1) h5_t rfl ea_325 (by omega)) (ptr_eq (by omega))) ?_
              refine rp_val rfl rfl (v := (v32 (wd b (ri t ((t + 9) % 16))))) (fun w' hs => val_load1 (v := (v32 (wd b (ri t ((t + 9) % 16))))) (off := (t + 9) % 16) rfl ag_219 (hs.row (i := 1) rfl).l (getD_mr _ (by omega))) ?_
              refine rp_val rfl rfl (v := (vI (t : Int))) (fun w' hs => val_move (v := (vI (t : Int))) rfl) ?_
              refine rp_val rfl rfl (v := (vI ((t : Int) + 14))) (fun w' hs => val_addI (p := (t : Int)) (q := 14) rfl rfl (by omega)) ?_
              refine rp_val rfl rfl (v := (vI (((t : Int) + 14) % 16))) (fun w' hs => val_remI (p := (t : Int) + 14) (q := 16) rfl rfl (by omega)) ?_
              refine rp_val rfl rfl (v := (.pointer (some ⟨b7, (t + 14) % 16, none⟩))) (fun w' hs => val_cast (val_indexAr (i := ((t : Int) + 14) % 16) (n := 16) (sz := 1) h5_t rfl ea_325 (by omega)) (ptr_eq (by omega))) ?_
              refine rp_val rfl rfl (v := (v32 (wd b (ri t ((t + 14) % 16))))) (fun w' hs => val_load1 (v := (v32 (wd b (ri t ((t + 14) % 16))))) (off := (t + 14) % 16) rfl ag_219 (hs.row (i := 1) rfl).l (getD_mr _ (by omega))) ?_
              refine rp_call rfl rfl (ent_static (args := [(v32 (wd b (ri t ((t + 1) % 16)))), (vI 7), (vI 18), (vI 3)]) Tryz.func286 rfl rfl rfl rfl) (two_ok (wd b (ri t ((t + 1) % 16))) 7 18 3 (by decide) (by decide) (by decide) _) ?_
              rintro _ w16 ⟨rfl, h17⟩
              refine callQ_ret ?_
              refine ⟨.inr ((hm.call h17).drop 0), ?_⟩
              replace hm : Mem w [] [(b10, row ((List.range 8).map fun i => v32 ((rnds b s t).get ((i + t) % 8))) 301), (b7, row ((List.range 16).map fun i => v32 (wd b (ri t i))) 325), (b5, row ((List.range 8).map fun i => v32 (0)) 301), (b3, row (c64 b) 303), (b1, row (c8 s) 301)] w16 := hm.call h17
              refine rp_val rfl rfl (v := (v32 ((s0 (wd b (ri t ((t + 1) % 16)))) + (wd b (ri t ((t + 9) % 16)))))) (fun w' hs => val_add32 (a := s0 (wd b (ri t ((t + 1) % 16)))) (b := wd b (ri t ((t + 9) % 16))) rfl rfl) ?_
              refine rp_call rfl rfl (ent_static (args := [(v32 (wd b (ri t ((t + 14) % 16)))), (vI 17), (vI 19), (vI 10)]) Tryz.func286 rfl rfl rfl rfl) (two_ok (wd b (ri t ((t + 14) % 16))) 17 19 10 (by decide) (by decide) (by decide) _) ?_
              rintro _ w18 ⟨rfl, h19⟩
              refine callQ_ret ?_
              refine ⟨.inr ((hm.call h19).drop 0), ?_⟩
              replace hm : Mem w [] [(b10, row ((List.range 8).map fun i => v32 ((rnds b s t).get ((i + t) % 8))) 301), (b7, row ((List.range 16).map fun i => v32 (wd b (ri t i))) 325), (b5, row ((List.range 8).map fun i => v32 (0)) 301), (b3, row (c64 b) 303), (b1, row (c8 s) 301)] w18 := hm.call h19
              refine rp_val rfl rfl (v := (v32 (((s0 (wd b (ri t ((t + 1) % 16)))) + (wd b (ri t ((t + 9) % 16)))) + (s1 (wd b (ri t ((t + 14) % 16))))))) (fun w' hs => val_add32 (a := (s0 (wd b (ri t ((t + 1) % 16)))) + (wd b (ri t ((t + 9) % 16)))) (b := s1 (wd b (ri t ((t + 14) % 16)))) rfl rfl) ?_
              refine rp_val rfl rfl (v := (v32 ((wd b (ri t (t % 16))) + (((s0 (wd b (ri t ((t + 1) % 16)))) + (wd b (ri t ((t + 9) % 16)))) + (s1 (wd b (ri t ((t + 14) % 16)))))))) (fun w' hs => val_add32 (a := wd b (ri t (t % 16))) (b := ((s0 (wd b (ri t ((t + 1) % 16)))) + (wd b (ri t ((t + 9) % 16)))) + (s1 (wd b (ri t ((t + 14) % 16))))) rfl rfl) ?_
              refine rp_val rfl rfl (v := (.pointer (some ⟨b7, t % 16, none⟩))) (fun w' hs => val_cast (val_indexAr (i := (t : Int) % 16) (n := 16) (sz := 1) h5_t rfl ea_325 (by omega)) (ptr_eq (by omega))) ?_
              refine rp_store (i := 1) (off := t % 16) (xs := ((List.range 16).map fun i => v32 (wd b (ri t i)))) (vs := [(v32 ((wd b (ri t (t % 16))) + (((s0 (wd b (ri t ((t + 1) % 16)))) + (wd b (ri t ((t + 9) % 16)))) + (s1 (wd b (ri t ((t + 14) % 16)))))))]) rfl rfl rfl rfl ag_219 hm rfl rfl rfl (by simp; omega) (by simp [Value.one]) (by kernel_rfl) ?_
              intro w20 hm
              rw [tookW (by omega) hlt] at hm
              replace hm : Mem w [] [(b10, row ((List.range 8).map fun i => v32 ((rnds b s t).get ((i + t) % 8))) 301), (b7, row ((List.range 16).map fun i => v32 (wd b (ri (t + 1) i))) 325), (b5, row ((List.range 8).map fun i => v32 (0)) 301), (b3, row (c64 b) 303), (b1, row (c8 s) 301)] w20 := hm
              refine rp_nil ?_
              exact ⟨hm, rfl, rfl, rfl, h39_t, h2_t, h4_t, h5_t, h8_t, h38_t⟩
            ·
              have hq21 := of_decide_eq_false hb
              refine WP.skip ?_
              exact ⟨(by rw [← tookW0 (by omega)]; exact hm), rfl, rfl, rfl, h39_t, h2_t, h4_t, h5_t, h8_t, h38_t⟩
          ·
            rintro τ w22 ⟨hm, j23, j24, j25, j26, j27, j28, j29, j30, j31⟩
            refine wp_sd (E := noPanic) [(0, true), (1, true), (2, true), (3, true), (4, true), (5, true), (6, true), (7, true), (8, true), (9, true), (10, true), (11, true), (12, true), (13, true), (14, true), (15, true), (16, true), (17, true)] mixed (by kernel_rfl) (by kernel_rfl) rfl (fun w' => Mem w [] [(b10, row ((List.range 8).map fun i => v32 ((rnds b s t).get ((i + t) % 8))) 301), (b7, row ((List.range 16).map fun i => v32 (wd b (ri (t + 1) i))) 325), (b5, row ((List.range 8).map fun i => v32 (0)) 301), (b3, row (c64 b) 303), (b1, row (c8 s) 301)] w') noPanic_imp hm.drew ?_
            have hm := hm.drew
            refine rp_val rfl rfl (v := (vI (t : Int))) (fun w' hs => val_move (v := (vI (t : Int))) j23) ?_
            refine rp_val rfl rfl (v := (vI (4 - (t : Int)))) (fun w' hs => val_subI (p := 4) (q := (t : Int)) rfl rfl (by omega)) ?_
            refine rp_val rfl rfl (v := (vI ((4 - (t : Int)) % 8))) (fun w' hs => val_maskI 3 (by decide) (p := 4 - (t : Int)) rfl rfl) ?_
            refine rp_val rfl rfl (v := (.pointer (some ⟨b10, (4 + 7 * t) % 8, none⟩))) (fun w' hs => val_cast (val_indexAr (i := (4 - (t : Int)) % 8) (n := 8) (sz := 1) j30 rfl ea_301 (by omega)) (ptr_eq (by omega))) ?_
            refine rp_val rfl rfl (v := (v32 ((rnds b s t).e))) (fun w' hs => val_load1 (v := (v32 ((rnds b s t).e))) (off := (4 + 7 * t) % 8) rfl ag_219 (hs.row (i := 0) rfl).l (V_at 4 (by decide))) ?_
            refine rp_val rfl rfl (v := (vI (t : Int))) (fun w' hs => val_move (v := (vI (t : Int))) j23) ?_
            refine rp_val rfl rfl (v := (vI (5 - (t : Int)))) (fun w' hs => val_subI (p := 5) (q := (t : Int)) rfl rfl (by omega)) ?_
            refine rp_val rfl rfl (v := (vI ((5 - (t : Int)) % 8))) (fun w' hs => val_maskI 3 (by decide) (p := 5 - (t : Int)) rfl rfl) ?_
            refine rp_val rfl rfl (v := (.pointer (some ⟨b10, (5 + 7 * t) % 8, none⟩))) (fun w' hs => val_cast (val_indexAr (i := (5 - (t : Int)) % 8) (n := 8) (sz := 1) j30 rfl ea_301 (by omega)) (ptr_eq (by omega))) ?_
            refine rp_val rfl rfl (v := (v32 ((rnds b s t).f))) (fun w' hs => val_load1 (v := (v32 ((rnds b s t).f))) (off := (5 + 7 * t) % 8) rfl ag_219 (hs.row (i := 0) rfl).l (V_at 5 (by decide))) ?_
            refine rp_val rfl rfl (v := (vI (t : Int))) (fun w' hs => val_move (v := (vI (t : Int))) j23) ?_
            refine rp_val rfl rfl (v := (vI (6 - (t : Int)))) (fun w' hs => val_subI (p := 6) (q := (t : Int)) rfl rfl (by omega)) ?_
            refine rp_val rfl rfl (v := (vI ((6 - (t : Int)) % 8))) (fun w' hs => val_maskI 3 (by decide) (p := 6 - (t : Int)) rfl rfl) ?_
            refine rp_val rfl rfl (v := (.pointer (some ⟨b10, (6 + 7 * t) % 8, none⟩))) (fun w' hs => val_cast (val_indexAr (i := (6 - (t : Int)) % 8) (n := 8) (sz := 1) j30 rfl ea_301 (by omega)) (ptr_eq (by omega))) ?_
            refine rp_val rfl rfl (v := (v32 ((rnds b s t).g))) (fun w' hs => val_load1 (v := (v32 ((rnds b s t).g))) (off := (6 + 7 * t) % 8) rfl ag_219 (hs.row (i := 0) rfl).l (V_at 6 (by decide))) ?_
            refine rp_val rfl rfl (v := (v32 ((rnds b s t).e))) (fun w' hs => val_assign (v := (v32 ((rnds b s t).e))) rfl) ?_
            refine rp_val rfl rfl (v := (v32 ((rnds b s t).f))) (fun w' hs => val_assign (v := (v32 ((rnds b s t).f))) rfl) ?_
            refine rp_val rfl rfl (v := (v32 ((rnds b s t).g))) (fun w' hs => val_assign (v := (v32 ((rnds b s t).g))) rfl) ?_
            refine rp_nil ?_
            refine wp_sd (E := noPanic) [(0, true), (1, true), (2, true), (3, true), (4, true), (5, true), (6, true), (7, true), (8, true), (9, true), (10, true), (11, true), (12, true), (13, true), (14, true), (15, true), (16, true), (17, true)] mixed (by kernel_rfl) (by kernel_rfl) rfl (fun w' => Mem w [] [(b10, row ((List.range 8).map fun i => v32 ((rnds b s t).get ((i + t) % 8))) 301), (b7, row ((List.range 16).map fun i => v32 (wd b (ri (t + 1) i))) 325), (b5, row ((List.range 8).map fun i => v32 (0)) 301), (b3, row (c64 b) 303), (b1, row (c8 s) 301)] w') noPanic_imp hm.drew ?_
            have hm := hm.drew
            refine rp_val rfl rfl (v := (vI (t : Int))) (fun w' hs => val_move (v := (vI (t : Int))) j23) ?_
            refine rp_val rfl rfl (v := (vI (0 - (t : Int)))) (fun w' hs => val_subI (p := 0) (q := (t : Int)) rfl rfl (by omega)) ?_
            refine rp_val rfl rfl (v := (vI ((0 - (t : Int)) % 8))) (fun w' hs => val_maskI 3 (by decide) (p := 0 - (t : Int)) rfl rfl) ?_
            refine rp_val rfl rfl (v := (.pointer (some ⟨b10, (0 + 7 * t) % 8, none⟩))) (fun w' hs => val_cast (val_indexAr (i := (0 - (t : Int)) % 8) (n := 8) (sz := 1) j30 rfl ea_301 (by omega)) (ptr_eq (by omega))) ?_
            refine rp_val rfl rfl (v := (v32 ((rnds b s t).a))) (fun w' hs => val_load1 (v := (v32 ((rnds b s t).a))) (off := (0 + 7 * t) % 8) rfl ag_219 (hs.row (i := 0) rfl).l (V_at 0 (by decide))) ?_
            refine rp_val rfl rfl (v := (vI (t : Int))) (fun w' hs => val_move (v := (vI (t : Int))) j23) ?_
            refine rp_val rfl rfl (v := (vI (1 - (t : Int)))) (fun w' hs => val_subI (p := 1) (q := (t : Int)) rfl rfl (by omega)) ?_
            refine rp_val rfl rfl (v := (vI ((1 - (t : Int)) % 8))) (fun w' hs => val_maskI 3 (by decide) (p := 1 - (t : Int)) rfl rfl) ?_
            refine rp_val rfl rfl (v := (.pointer (some ⟨b10, (1 + 7 * t) % 8, none⟩))) (fun w' hs => val_cast (val_indexAr (i := (1 - (t : Int)) % 8) (n := 8) (sz := 1) j30 rfl ea_301 (by omega)) (ptr_eq (by omega))) ?_
            refine rp_val rfl rfl (v := (v32 ((rnds b s t).b))) (fun w' hs => val_load1 (v := (v32 ((rnds b s t).b))) (off := (1 + 7 * t) % 8) rfl ag_219 (hs.row (i := 0) rfl).l (V_at 1 (by decide))) ?_
            refine rp_val rfl rfl (v := (vI (t : Int))) (fun w' hs => val_move (v := (vI (t : Int))) j23) ?_
            refine rp_val rfl rfl (v := (vI (2 - (t : Int)))) (fun w' hs => val_subI (p := 2) (q := (t : Int)) rfl rfl (by omega)) ?_
            refine rp_val rfl rfl (v := (vI ((2 - (t : Int)) % 8))) (fun w' hs => val_maskI 3 (by decide) (p := 2 - (t : Int)) rfl rfl) ?_
            refine rp_val rfl rfl (v := (.pointer (some ⟨b10, (2 + 7 * t) % 8, none⟩))) (fun w' hs => val_cast (val_indexAr (i := (2 - (t : Int)) % 8) (n := 8) (sz := 1) j30 rfl ea_301 (by omega)) (ptr_eq (by omega))) ?_
            refine rp_val rfl rfl (v := (v32 ((rnds b s t).c))) (fun w' hs => val_load1 (v := (v32 ((rnds b s t).c))) (off := (2 + 7 * t) % 8) rfl ag_219 (hs.row (i := 0) rfl).l (V_at 2 (by decide))) ?_
            refine rp_val rfl rfl (v := (v32 ((rnds b s t).a))) (fun w' hs => val_assign (v := (v32 ((rnds b s t).a))) rfl) ?_
            refine rp_val rfl rfl (v := (v32 ((rnds b s t).b))) (fun w' hs => val_assign (v := (v32 ((rnds b s t).b))) rfl) ?_
            refine rp_val rfl rfl (v := (v32 ((rnds b s t).c))) (fun w' hs => val_assign (v := (v32 ((rnds b s t).c))) rfl) ?_
            refine rp_nil ?_
            refine wp_sd (E := noPanic) [(0, true), (1, true), (2, true), (3, true), (4, true), (5, true), (6, true), (7, true), (8, true), (9, true), (10, true), (11, true), (14, true), (15, true), (16, true), (17, true), (18, true), (19, true), (20, true), (12, false), (13, true), (21, true), (22, true)] mixed (by kernel_rfl) (by kernel_rfl) rfl (fun w' => Mem w [] [(b10, row ((List.range 8).map fun i => v32 ((rnds b s t).get ((i + t) % 8))) 301), (b7, row ((List.range 16).map fun i => v32 (wd b (ri (t + 1) i))) 325), (b5, row ((List.range 8).map fun i => v32 (0)) 301), (b3, row (c64 b) 303), (b1, row (c8 s) 301)] w') noPanic_imp hm.drew ?_
            have hm := hm.drew
            refine rp_val rfl rfl (v := (vI (t : Int))) (fun w' hs => val_move (v := (vI (t : Int))) j23) ?_
            refine rp_val rfl rfl (v := (vI (7 - (t : Int)))) (fun w' hs => val_subI (p := 7) (q := (t : Int)) rfl rfl (by omega)) ?_
            refine rp_val rfl rfl (v := (vI ((7 - (t : Int)) % 8))) (fun w' hs => val_maskI 3 (by decide) (p := 7 - (t : Int)) rfl rfl) ?_
            refine rp_val rfl rfl (v := (.pointer (some ⟨b10, (7 + 7 * t) % 8, none⟩))) (fun w' hs => val_cast (val_indexAr (i := (7 - (t : Int)) % 8) (n := 8) (sz := 1) j30 rfl ea_301 (by omega)) (ptr_eq (by omega))) ?_
            refine rp_val rfl rfl (v := (v32 ((rnds b s t).h))) (fun w' hs => val_load1 (v := (v32 ((rnds b s t).h))) (off := (7 + 7 * t) % 8) rfl ag_219 (hs.row (i := 0) rfl).l (V_at 7 (by decide))) ?_
            refine rp_val rfl rfl (v := (v32 (Kat t))) (fun w' hs => val_move (v := (v32 (Kat t))) j24) ?_
            refine rp_val rfl rfl (v := (v32 (((rnds b s t).h) + (Kat t)))) (fun w' hs => val_add32 (a := (rnds b s t).h) (b := Kat t) rfl rfl) ?_
            refine rp_val rfl rfl (v := (vI ((t : Int) % 16))) (fun w' hs => val_move (v := (vI ((t : Int) % 16))) j25) ?_
            refine rp_val rfl rfl (v := (.pointer (some ⟨b7, t % 16, none⟩))) (fun w' hs => val_cast (val_indexAr (i := (t : Int) % 16) (n := 16) (sz := 1) j29 rfl ea_325 (by omega)) (ptr_eq (by omega))) ?_
            refine rp_val rfl rfl (v := (v32 (wd b t))) (fun w' hs => val_load1 (v := (v32 (wd b t))) (off := t % 16) rfl ag_219 (hs.row (i := 1) rfl).l (WR_self hlt)) ?_
            refine rp_val rfl rfl (v := (v32 ((((rnds b s t).h) + (Kat t)) + (wd b t)))) (fun w' hs => val_add32 (a := ((rnds b s t).h) + (Kat t)) (b := wd b t) rfl rfl) ?_
            refine rp_val rfl rfl (v := (v32 ((rnds b s t).e))) (fun w' hs => val_move (v := (v32 ((rnds b s t).e))) rfl) ?_
            refine rp_val rfl rfl (v := (v32 ((rnds b s t).e))) (fun w' hs => val_move (v := (v32 ((rnds b s t).e))) rfl) ?_
            refine rp_val rfl rfl (v := (v32 ((rnds b s t).f))) (fun w' hs => val_move (v := (v32 ((rnds b s t).f))) rfl) ?_
            refine rp_val rfl rfl (v := (v32 ((rnds b s t).g))) (fun w' hs => val_move (v := (v32 ((rnds b s t).g))) rfl) ?_
            refine rp_val rfl rfl (v := (v32 (((rnds b s t).f) ^^^ ((rnds b s t).g)))) (fun w' hs => val_xor32 (a := (rnds b s t).f) (b := (rnds b s t).g) rfl rfl) ?_
            refine rp_val rfl rfl (v := (v32 (((rnds b s t).e) &&& (((rnds b s t).f) ^^^ ((rnds b s t).g))))) (fun w' hs => val_and32 (a := (rnds b s t).e) (b := ((rnds b s t).f) ^^^ ((rnds b s t).g)) rfl rfl) ?_
            refine rp_val rfl rfl (v := (v32 ((rnds b s t).g))) (fun w' hs => val_move (v := (v32 ((rnds b s t).g))) rfl) ?_
            refine rp_val rfl rfl (v := (v32 ((((rnds b s t).e) &&& (((rnds b s t).f) ^^^ ((rnds b s t).g))) ^^^ ((rnds b s t).g)))) (fun w' hs => val_xor32 (a := ((rnds b s t).e) &&& (((rnds b s t).f) ^^^ ((rnds b s t).g))) (b := (rnds b s t).g) rfl rfl) ?_
            refine rp_call rfl rfl (ent_static (args := [(v32 ((rnds b s t).e)), (vI 6), (vI 11), (vI 25)]) Tryz.func287 rfl rfl rfl rfl) (three_ok ((rnds b s t).e) 6 11 25 (by decide) (by decide) (by decide) _) ?_
            rintro _ w32 ⟨rfl, h33⟩
            refine callQ_ret ?_
            refine ⟨.inr ((hm.call h33).drop 0), ?_⟩
            replace hm : Mem w [] [(b10, row ((List.range 8).map fun i => v32 ((rnds b s t).get ((i + t) % 8))) 301), (b7, row ((List.range 16).map fun i => v32 (wd b (ri (t + 1) i))) 325), (b5, row ((List.range 8).map fun i => v32 (0)) 301), (b3, row (c64 b) 303), (b1, row (c8 s) 301)] w32 := hm.call h33
            refine rp_val rfl rfl (v := (v32 (((((rnds b s t).h) + (Kat t)) + (wd b t)) + (S1 ((rnds b s t).e))))) (fun w' hs => val_add32 (a := (((rnds b s t).h) + (Kat t)) + (wd b t)) (b := S1 ((rnds b s t).e)) rfl rfl) ?_
            refine rp_val rfl rfl (v := (v32 ((((((rnds b s t).h) + (Kat t)) + (wd b t)) + (S1 ((rnds b s t).e))) + ((((rnds b s t).e) &&& (((rnds b s t).f) ^^^ ((rnds b s t).g))) ^^^ ((rnds b s t).g))))) (fun w' hs => val_add32 (a := ((((rnds b s t).h) + (Kat t)) + (wd b t)) + (S1 ((rnds b s t).e))) (b := (((rnds b s t).e) &&& (((rnds b s t).f) ^^^ ((rnds b s t).g))) ^^^ ((rnds b s t).g)) rfl rfl) ?_
            refine rp_val rfl rfl (v := (v32 (pr b s t))) (fun w' hs => val_cast (val_assign rfl) (congrArg v32 (pr_raw b s t))) ?_
            refine rp_nil ?_
            refine wp_sr (E := noPanic) noPanic_imp ?_
            refine rl_val rfl (v := (vI (t : Int))) (val_move (v := (vI (t : Int))) j23) ?_
            refine rl_val rfl (v := (vI (3 - (t : Int)))) (val_subI (p := 3) (q := (t : Int)) rfl rfl (by omega)) ?_
            refine rl_val rfl (v := (vI ((3 - (t : Int)) % 8))) (val_maskI 3 (by decide) (p := 3 - (t : Int)) rfl rfl) ?_
            refine rl_val rfl (v := (.pointer (some ⟨b10, (3 + 7 * t) % 8, none⟩))) (val_cast (val_indexAr (i := (3 - (t : Int)) % 8) (n := 8) (sz := 1) j30 rfl ea_301 (by omega)) (ptr_eq (by omega))) ?_
            refine rl_val rfl (v := (v32 ((rnds b s t).d))) (val_load1 (v := (v32 ((rnds b s t).d))) (off := (3 + 7 * t) % 8) rfl ag_219 (hm.row (i := 0) rfl).l (V_at 3 (by decide))) ?_
            refine rl_val rfl (v := (v32 (pr b s t))) (val_move (v := (v32 (pr b s t))) rfl) ?_
            refine rl_val rfl (v := (v32 (((rnds b s t).d) + (pr b s t)))) (val_add32 (a := (rnds b s t).d) (b := pr b s t) rfl rfl) ?_
            refine rl_val rfl (v := (.pointer (some ⟨b10, (3 + 7 * t) % 8, none⟩))) (val_cast (val_indexAr (i := (3 - (t : Int)) % 8) (n := 8) (sz := 1) j30 rfl ea_301 (by omega)) (ptr_eq (by omega))) ?_
            refine rl_store (i := 0) (off := (3 + 7 * t) % 8) (xs := ((List.range 8).map fun i => v32 ((rnds b s t).get ((i + t) % 8)))) (vs := [(v32 (((rnds b s t).d) + (pr b s t)))]) rfl rfl rfl ag_219 hm rfl rfl rfl (by simp; omega) (by simp [Value.one]) ?_
            intro w34 hm
            rw [tookV1] at hm
            replace hm : Mem w [] [(b10, row ((List.range 8).map fun i => v32 (vmid b s t i)) 301), (b7, row ((List.range 16).map fun i => v32 (wd b (ri (t + 1) i))) 325), (b5, row ((List.range 8).map fun i => v32 (0)) 301), (b3, row (c64 b) 303), (b1, row (c8 s) 301)] w34 := hm
            refine rl_nil ?_
            refine wp_r (E := noPanic) noPanic_imp ?_
            refine rl_val rfl (v := (vI (t : Int))) (val_move (v := (vI (t : Int))) j23) ?_
            refine rl_val rfl (v := (vI (7 - (t : Int)))) (val_subI (p := 7) (q := (t : Int)) rfl rfl (by omega)) ?_
            refine rl_val rfl (v := (vI ((7 - (t : Int)) % 8))) (val_maskI 3 (by decide) (p := 7 - (t : Int)) rfl rfl) ?_
            refine rl_val rfl (v := (v32 (pr b s t))) (val_move (v := (v32 (pr b s t))) rfl) ?_
            refine rl_val rfl (v := (v32 ((rnds b s t).a))) (val_move (v := (v32 ((rnds b s t).a))) rfl) ?_
            refine rl_call rfl (ent_static (args := [(v32 ((rnds b s t).a)), (vI 2), (vI 13), (vI 22)]) Tryz.func287 rfl rfl rfl rfl) (three_ok ((rnds b s t).a) 2 13 22 (by decide) (by decide) (by decide) _) ?_
            rintro _ w35 ⟨rfl, h36⟩
            refine callQ_ret ?_
            replace hm : Mem w [] [(b10, row ((List.range 8).map fun i => v32 (vmid b s t i)) 301), (b7, row ((List.range 16).map fun i => v32 (wd b (ri (t + 1) i))) 325), (b5, row ((List.range 8).map fun i => v32 (0)) 301), (b3, row (c64 b) 303), (b1, row (c8 s) 301)] w35 := hm.call h36
            refine rl_val rfl (v := (v32 ((pr b s t) + (S0 ((rnds b s t).a))))) (val_add32 (a := pr b s t) (b := S0 ((rnds b s t).a)) rfl rfl) ?_
            refine rl_val rfl (v := (v32 ((rnds b s t).a))) (val_move (v := (v32 ((rnds b s t).a))) rfl) ?_
            refine rl_val rfl (v := (v32 ((rnds b s t).b))) (val_move (v := (v32 ((rnds b s t).b))) rfl) ?_
            refine rl_val rfl (v := (v32 ((rnds b s t).c))) (val_move (v := (v32 ((rnds b s t).c))) rfl) ?_
            refine rl_val rfl (v := (v32 (((rnds b s t).b) ||| ((rnds b s t).c)))) (val_or32 (a := (rnds b s t).b) (b := (rnds b s t).c) rfl rfl) ?_
            refine rl_val rfl (v := (v32 (((rnds b s t).a) &&& (((rnds b s t).b) ||| ((rnds b s t).c))))) (val_and32 (a := (rnds b s t).a) (b := ((rnds b s t).b) ||| ((rnds b s t).c)) rfl rfl) ?_
            refine rl_val rfl (v := (v32 ((rnds b s t).b))) (val_move (v := (v32 ((rnds b s t).b))) rfl) ?_
            refine rl_val rfl (v := (v32 ((rnds b s t).c))) (val_move (v := (v32 ((rnds b s t).c))) rfl) ?_
            refine rl_val rfl (v := (v32 (((rnds b s t).b) &&& ((rnds b s t).c)))) (val_and32 (a := (rnds b s t).b) (b := (rnds b s t).c) rfl rfl) ?_
            refine rl_val rfl (v := (v32 ((((rnds b s t).a) &&& (((rnds b s t).b) ||| ((rnds b s t).c))) ||| (((rnds b s t).b) &&& ((rnds b s t).c))))) (val_or32 (a := ((rnds b s t).a) &&& (((rnds b s t).b) ||| ((rnds b s t).c))) (b := ((rnds b s t).b) &&& ((rnds b s t).c)) rfl rfl) ?_
            refine rl_val rfl (v := (v32 (((pr b s t) + (S0 ((rnds b s t).a))) + ((((rnds b s t).a) &&& (((rnds b s t).b) ||| ((rnds b s t).c))) ||| (((rnds b s t).b) &&& ((rnds b s t).c)))))) (val_add32 (a := (pr b s t) + (S0 ((rnds b s t).a))) (b := (((rnds b s t).a) &&& (((rnds b s t).b) ||| ((rnds b s t).c))) ||| (((rnds b s t).b) &&& ((rnds b s t).c))) rfl rfl) ?_
            refine rl_val rfl (v := (.pointer (some ⟨b10, (7 + 7 * t) % 8, none⟩))) (val_cast (val_indexAr (i := (7 - (t : Int)) % 8) (n := 8) (sz := 1) j30 rfl ea_301 (by omega)) (ptr_eq (by omega))) ?_
            refine rl_store (i := 0) (off := (7 + 7 * t) % 8) (xs := ((List.range 8).map fun i => v32 (vmid b s t i))) (vs := [(v32 (((pr b s t) + (S0 ((rnds b s t).a))) + ((((rnds b s t).a) &&& (((rnds b s t).b) ||| ((rnds b s t).c))) ||| (((rnds b s t).b) &&& ((rnds b s t).c)))))]) rfl rfl rfl ag_219 hm rfl rfl rfl (by simp; omega) (by simp [Value.one]) ?_
            intro w37 hm
            rw [tookV2] at hm
            replace hm : Mem w [] [(b10, row ((List.range 8).map fun i => v32 ((rnds b s (t + 1)).get ((i + (t + 1)) % 8))) 301), (b7, row ((List.range 16).map fun i => v32 (wd b (ri (t + 1) i))) 325), (b5, row ((List.range 8).map fun i => v32 (0)) 301), (b3, row (c64 b) 303), (b1, row (c8 s) 301)] w37 := hm
            refine rl_nil ?_
            refine wp_r (E := noPanic) noPanic_imp ?_
            refine rl_val rfl (v := (vI ((t : Int) + 1))) (val_addI (p := (t : Int)) (q := 1) j26 rfl (by omega)) ?_
            refine rl_val rfl (v := (vI ((t : Int) + 1))) (val_move (v := (vI ((t : Int) + 1))) rfl) ?_
            refine rl_nil ?_
            exact ⟨k - 1, by omega, t + 1, by omega, hm, (int_eq (by omega)), j27, j28, j29, j30, j31⟩
        ·
          have hje : t = 64 := by simp at hb; omega
          subst hje
          repeat (first | with_reducible refine exit_pass ?_ | with_reducible refine exit_other rfl ?_)
          refine blk_here ?_
          refine WP.seq ?_
          refine wp_sr (E := noPanic) noPanic_imp ?_
          refine rl_val rfl (v := (vI 0)) (val_move (v := (vI 0)) rfl) ?_
          refine rl_nil ?_
          refine WP.block ?_
          refine WP.loop (fun k τ w' => ∃ u : Nat, u + k = 8 ∧ Mem w [] [(b10, row ((List.range 8).map fun i => v32 ((rnds b s 64).get ((i + 64) % 8))) 301), (b7, row ((List.range 16).map fun i => v32 (wd b (ri 64 i))) 325), (b5, row ((List.range 8).map fun i => v32 (0)) 301), (b3, row (c64 b) 303), (b1, row ((List.range 8).map fun i => v32 (bif Nat.blt i u then (take s b).get i else s.get i)) 301)] w' ∧ τ 150 = (vI (u : Int)) ∧ τ 2 = (.pointer (some ⟨b1, 0, none⟩)) ∧ τ 4 = (.pointer (some ⟨b5, 0, none⟩)) ∧ τ 8 = (.pointer (some ⟨b10, 0, none⟩))) 8 ?_ ?_
          · exact ⟨0, by omega, (by rw [← tookC0]; exact hm), rfl, h2_t, h4_t, h8_t⟩
          · rintro k τ w_u ⟨u, hk, hm, h150_u, h2_u, h4_u, h8_u⟩
            refine wp_sr (E := noPanic) noPanic_imp ?_
            refine rl_val rfl (v := (.bool (decide ((u : Int) < 8)))) (val_lt (p := (u : Int)) (q := 8) h150_u rfl) ?_
            refine rl_nil ?_
            refine wp_guard (b := decide ((u : Int) < 8)) rfl (fun hb => ?_) (fun hb => ?_)
            ·
              have hlt : u < 8 := by simp at hb; omega
              refine WP.seq (WP.block ?_)
              refine wp_sr (E := noPanic) noPanic_imp ?_
              refine rl_val rfl (v := (vI (u : Int))) (val_move (v := (vI (u : Int))) h150_u) ?_
              refine rl_val rfl (v := (vI (u : Int))) (val_assign (v := (vI (u : Int))) rfl) ?_
              refine rl_nil ?_
              refine wp_d (E := noPanic) [(0, true), (1, true), (2, true), (3, true), (4, true), (5, true), (6, true), (7, true), (8, false)] mixed (by kernel_rfl) (by kernel_rfl) rfl (fun w' => Mem w [] [(b10, row ((List.range 8).map fun i => v32 ((rnds b s 64).get ((i + 64) % 8))) 301), (b7, row ((List.range 16).map fun i => v32 (wd b (ri 64 i))) 325), (b5, row ((List.range 8).map fun i => v32 (0)) 301), (b3, row (c64 b) 303), (b1, row ((List.range 8).map fun i => v32 (bif Nat.blt i u then (take s b).get i else s.get i)) 301)] w') noPanic_imp hm.drew ?_
              have hm := hm.drew
              refine rp_val rfl rfl (v := (vI (u : Int))) (fun w' hs => val_move (v := (vI (u : Int))) rfl) ?_
              refine rp_val rfl rfl (v := (.pointer (some ⟨b1, u, none⟩))) (fun w' hs => val_cast (val_indexAr (i := (u : Int)) (n := 8) (sz := 1) h2_u rfl ea_301 (by omega)) (ptr_eq (by omega))) ?_
              refine rp_val rfl rfl (v := (v32 (bif Nat.blt u u then (take s b).get u else s.get u))) (fun w' hs => val_load1 (v := (v32 (bif Nat.blt u u then (take s b).get u else s.get u))) (off := u) rfl ag_219 (hs.row (i := 4) rfl).l (getD_mr _ (by omega))) ?_
              refine rp_val rfl rfl (v := (vI (u : Int))) (fun w' hs => val_move (v := (vI (u : Int))) rfl) ?_
              refine rp_val rfl rfl (v := (.pointer (some ⟨b10, u, none⟩))) (fun w' hs => val_cast (val_indexAr (i := (u : Int)) (n := 8) (sz := 1) h8_u rfl ea_301 (by omega)) (ptr_eq (by omega))) ?_
              refine rp_val rfl rfl (v := (v32 ((rnds b s 64).get ((u + 64) % 8)))) (fun w' hs => val_load1 (v := (v32 ((rnds b s 64).get ((u + 64) % 8)))) (off := u) rfl ag_219 (hs.row (i := 0) rfl).l (getD_mr _ (by omega))) ?_
              refine rp_val rfl rfl (v := (v32 ((bif Nat.blt u u then (take s b).get u else s.get u) + ((rnds b s 64).get ((u + 64) % 8))))) (fun w' hs => val_add32 (a := bif Nat.blt u u then (take s b).get u else s.get u) (b := (rnds b s 64).get ((u + 64) % 8)) rfl rfl) ?_
              refine rp_val rfl rfl (v := (.pointer (some ⟨b1, u, none⟩))) (fun w' hs => val_cast (val_indexAr (i := (u : Int)) (n := 8) (sz := 1) h2_u rfl ea_301 (by omega)) (ptr_eq (by omega))) ?_
              refine rp_store (i := 4) (off := u) (xs := ((List.range 8).map fun i => v32 (bif Nat.blt i u then (take s b).get i else s.get i))) (vs := [(v32 ((bif Nat.blt u u then (take s b).get u else s.get u) + ((rnds b s 64).get ((u + 64) % 8))))]) rfl rfl rfl rfl ag_219 hm rfl rfl rfl (by simp; omega) (by simp [Value.one]) (by kernel_rfl) ?_
              intro w38 hm
              rw [tookC hlt] at hm
              replace hm : Mem w [] [(b10, row ((List.range 8).map fun i => v32 ((rnds b s 64).get ((i + 64) % 8))) 301), (b7, row ((List.range 16).map fun i => v32 (wd b (ri 64 i))) 325), (b5, row ((List.range 8).map fun i => v32 (0)) 301), (b3, row (c64 b) 303), (b1, row ((List.range 8).map fun i => v32 (bif Nat.blt i (u + 1) then (take s b).get i else s.get i)) 301)] w38 := hm
              refine rp_nil ?_
              refine wp_r (E := noPanic) noPanic_imp ?_
              refine rl_val rfl (v := (vI ((u : Int) + 1))) (val_addI (p := (u : Int)) (q := 1) h150_u rfl (by omega)) ?_
              refine rl_val rfl (v := (vI ((u : Int) + 1))) (val_move (v := (vI ((u : Int) + 1))) rfl) ?_
              refine rl_nil ?_
              exact ⟨k - 1, by omega, u + 1, by omega, hm, (int_eq (by omega)), h2_u, h4_u, h8_u⟩
            ·
              have hje : u = 8 := by simp at hb; omega
              subst hje
              repeat (first | with_reducible refine exit_pass ?_ | with_reducible refine exit_other rfl ?_)
              refine blk_here ?_
              refine wp_sr (E := noPanic) noPanic_imp ?_
              refine rl_val rfl (v := (.agg ((List.range 8).map fun i => v32 (bif Nat.blt i 8 then (take s b).get i else s.get i)).toArray)) (val_loadAll h2_u ag_301 (hm.row (i := 4) rfl).l (by simp) (by decide)) ?_
              refine rl_store (i := 2) (off := 0) (xs := ((List.range 8).map fun i => v32 (0))) (vs := (List.range 8).map fun i => v32 (bif Nat.blt i 8 then (take s b).get i else s.get i)) rfl h4_u rfl ag_301 hm rfl rfl ((by simp)) (by simp) (one_mr (fun _ => rfl) _) ?_
              intro w39 hm
              rw [spl_all (n := 8) ((by simp)) ((by simp))] at hm
              replace hm : Mem w [] [(b10, row ((List.range 8).map fun i => v32 ((rnds b s 64).get ((i + 64) % 8))) 301), (b7, row ((List.range 16).map fun i => v32 (wd b (ri 64 i))) 325), (b5, row ((List.range 8).map fun i => v32 (bif Nat.blt i 8 then (take s b).get i else s.get i)) 301), (b3, row (c64 b) 303), (b1, row ((List.range 8).map fun i => v32 (bif Nat.blt i 8 then (take s b).get i else s.get i)) 301)] w39 := hm
              refine rl_nil ?_
              rw [tookC8] at hm
              replace hm := hm.drop 2
              exact WP.ret (post_rets rfl (vs := [.agg (c8 (Al.take s b)).toArray]) ⟨⟨true, 8, _, 0, _, h4_u, ag_301, (hm.row (i := 0) rfl).l, by simp, by decide, by simp [rd, List.take_of_length_le]⟩, trivial⟩ rfl ⟨rfl, hm.nil⟩)
end Go.Al
namespace Go.Al
open Go Go.RowKit
set_option linter.unusedVariables false
set_option linter.unusedSimpArgs false
section
variable {P : Program} {ρ : Operand → Value} {w : World} {ty : TypeId} {x y : Operand}
/-- x[l:h] of an array that a pointer leads to. -/
theorem val_sliceAr {t e : TypeId} {sz b off n l h : Nat} {lo hi : Option Operand} (hx : ρ x = .pointer (some ⟨b, off, none⟩)) (ht : P.underlying t = some (.array n e)) (hsz : elemAr P t = some (n, sz))
    (hl : match lo with | some y => ∃ k i, ρ y = .int k i ∧ 0 ≤ i ∧ i.toNat = l | none => l = 0) (hh : match hi with | some y => ∃ k i, ρ y = .int k i ∧ 0 ≤ i ∧ i.toNat = h | none => h = n) (h1 : l ≤ h) (h2 : h ≤ n) :
    Val P ρ w (.slice t x lo hi none) ty (.slice (some ⟨b, slo off l n sz, none⟩) (h - l) (n - l)) := by
  intro o ho hty
  simp only [execOp, ho, hx]
  refine fin_val ?_
  unfold elemAr at hsz
  rw [ht] at hsz
  simp only at hsz
  cases hi' : P.info? e with
  | none => rw [hi'] at hsz; simp at hsz
  | some inf =>
    rw [hi'] at hsz
    simp only [Option.map_some, Option.some.injEq, Prod.mk.injEq, true_and] at hsz
    unfold Instr.sliceAt
    rw [run_bind' (run_under ht w)]
    simp only [Instr.sureAddr, pure_bind]
    have hb : (Instr.sliceBounds false n n (lo.map ρ) (hi.map ρ) none).run P w = .ok (l, h, n) w := by
      unfold Instr.sliceBounds
      simp only [Option.map_none, pure_bind]
      cases hi with
      | none =>
        simp only at hh
        subst hh
        simp only [Option.map_none, pure_bind]
        cases lo with
        | none => simp only at hl; subst hl; rfl
        | some y =>
          obtain ⟨k, i, hy, h0, hi2⟩ := hl
          simp only [Option.map_some]
          rw [run_bind' (run_bound hy ⟨h0, by omega⟩), hi2]; rfl
      | some z =>
        obtain ⟨k, i, hy, h0, hi2⟩ := hh
        simp only [Option.map_some]
        rw [run_bind' (run_bound hy ⟨h0, by omega⟩), hi2]
        cases lo with
        | none => simp only at hl; subst hl; rfl
        | some y =>
          obtain ⟨k, i, hy, h0, hi3⟩ := hl
          simp only [Option.map_some]
          rw [run_bind' (run_bound hy ⟨h0, by omega⟩), hi3]; rfl
    simp only [Option.map_none] at hb ⊢
    rw [run_bind' hb, run_bind' (run_size' hi' w), hsz]
    unfold slo
    by_cases hml : n = l
    · simp [hml, pure, Sem.run]
    · simp [hml, pure, Sem.run, add_mk]
theorem fin_eff {s : Sem Value} {v : Value} {w' : World} (h : s.run P w = .ok v w') : (s >>= fun v => (pure (Next.value v) : Sem Next)).run P w = .ok (.value v) w' := by
  rw [run_bind' h]; rfl
theorem run_firstCells {b off n c sz k : Nat} {l : List Value} (h : RowL w b l) (hn : off + k * sz ≤ l.length) : (Builtin.firstCells sz k (.slice (some ⟨b, off, none⟩) n c)).run P w = .ok ((l.drop off).take (k * sz)).toArray w := by
  unfold Builtin.firstCells
  rw [run_loadCells h off (k * sz) (by simpa using hn)]
  simp
theorem eff_copy {tys : Array TypeId} {t e te : TypeId} {agg : Bool} {sz b off dn dc b2 off2 sn sc n : Nat} {l l2 : List Value} (htys : tys[0]? = some t) (ht : P.underlying t = some (.slice e)) (he : aggB P e = some (agg, sz))
    (hx : ρ x = .slice (some ⟨b, off, none⟩) dn dc) (hy : ρ y = .slice (some ⟨b2, off2, none⟩) sn sc) (hr : Row w b l te) (hr2 : RowL w b2 l2) (hn : min sn dn = n) (hs : off2 + n * sz ≤ l2.length) (hd : off + n * sz ≤ l.length)
    (hone : ∀ v ∈ (l2.drop off2).take (n * sz), v.one = true) :
    Eff P ρ w (.call { callee := .builtin .copy, args := #[x, y], argTypes := tys }) ty (vI n) (setB w b (spl l off ((l2.drop off2).take (n * sz))) te) := by
  intro o ho hty
  simp only [execOp, ho, resolve]
  simp only [List.map_toArray, List.map_cons, List.map_nil, hx, hy, pure_bind, invoke, builtin]
  refine fin_eff ?_
  unfold Builtin.copy_
  simp only [htys]
  have e1 : (#[Value.slice (some ⟨b, off, none⟩) dn dc, Value.slice (some ⟨b2, off2, none⟩) sn sc])[0]? = some (Value.slice (some ⟨b, off, none⟩) dn dc) := rfl
  have e2 : (#[Value.slice (some ⟨b, off, none⟩) dn dc, Value.slice (some ⟨b2, off2, none⟩) sn sc])[1]? = some (Value.slice (some ⟨b2, off2, none⟩) sn sc) := rfl
  simp only [e1, e2]
  rw [run_bind' (run_under ht w)]
  simp only [Builtin.lenOf, pure_bind]
  rw [run_bind' (run_sizeOf he w)]
  have hn' : Nat.min sn dn = n := hn
  rw [hn', run_bind' (run_firstCells hr2 hs)]
  have hlen : ((l2.drop off2).take (n * sz)).length = n * sz := by simp; omega
  have := run_storeCells (P := P) (off := off) ((l2.drop off2).take (n * sz)) 0 w l hr (by omega) hone
  simp only [Nat.add_zero] at this
  simp only
  rw [run_bind' this]
  rfl
end
end Go.Al
namespace Go.Al
open Go Go.RowKit
set_option linter.unusedVariables false
set_option linter.unusedSimpArgs false
structure St where
  s : R8
  b : Nat → UInt8
  m : Nat
/-- One byte. -/
def put1 (t : St) (x : UInt8) : St :=
  let b' := fun j => if j = t.m % 64 then x else t.b j
  ⟨if (t.m + 1) % 64 = 0 then take t.s b' else t.s, b', t.m + 1⟩
def putL (t : St) (l : List UInt8) : St := l.foldl put1 t
theorem putL_app (t : St) (a b : List UInt8) : putL t (a ++ b) = putL (putL t a) b := List.foldl_append
@[simp] theorem putL_nil (t : St) : putL t [] = t := rfl
theorem putL_cons (t : St) (x : UInt8) (l : List UInt8) : putL t (x :: l) = putL (put1 t x) l := rfl
theorem putL_m (l : List UInt8) : ∀ t : St, (putL t l).m = t.m + l.length := by
  induction l with
  | nil => intro t; rfl
  | cons x l ih => intro t; rw [putL_cons, ih]; simp [put1]; omega
/-- The bytes of a part laid into the block. -/
def lay (t : St) (l : List UInt8) : Nat → UInt8 := fun j => if t.m % 64 ≤ j ∧ j < t.m % 64 + l.length then l.getD (j - t.m % 64) 0 else t.b j
theorem putL_part (l : List UInt8) : ∀ t : St, 0 < l.length → t.m % 64 + l.length ≤ 64 →
    putL t l = ⟨if (t.m + l.length) % 64 = 0 then take t.s (lay t l) else t.s, lay t l, t.m + l.length⟩ := by
  induction l with
  | nil => intro t h; simp at h
  | cons x l ih =>
    intro t _ h
    simp only [List.length_cons] at h
    by_cases hl : l = []
    · subst hl
      have : lay t [x] = fun j => if j = t.m % 64 then x else t.b j := by
        funext j
        unfold lay
        by_cases e : j = t.m % 64
        · subst e; simp
        · have : ¬ (t.m % 64 ≤ j ∧ j < t.m % 64 + [x].length) := by simp; omega
          rw [if_neg this, if_neg e]
      rw [this]; rfl
    · have hl0 : 0 < l.length := List.length_pos_iff.2 hl
      have hm : (t.m + 1) % 64 = t.m % 64 + 1 := by omega
      have h1 : put1 t x = ⟨t.s, fun j => if j = t.m % 64 then x else t.b j, t.m + 1⟩ := by
        unfold put1; simp only; rw [if_neg (by omega)]
      rw [putL_cons, h1, ih _ hl0 (by simp only; omega)]
      have : lay ⟨t.s, fun j => if j = t.m % 64 then x else t.b j, t.m + 1⟩ l = lay t (x :: l) := by
        funext j
        unfold lay
        simp only [hm, List.length_cons]
        by_cases e : j = t.m % 64
        · subst e
          rw [if_neg (by omega), if_pos (by omega)]; simp
        · by_cases e2 : t.m % 64 + 1 ≤ j ∧ j < t.m % 64 + 1 + l.length
          · rw [if_pos e2, if_pos (by omega)]
            rw [show j - t.m % 64 = (j - (t.m % 64 + 1)) + 1 from by omega]; rfl
          · rw [if_neg e2, if_neg e, if_neg (by omega)]
      simp only [this]
      rw [show t.m + 1 + l.length = t.m + (x :: l).length from by simp; omega]
/-- A run's cells. -/
def runC (t : St) : List Value := .bool true :: (c8 t.s ++ (c64 t.b ++ [vU t.m]))
@[simp] theorem runC_len (t : St) : (runC t).length = 74 := by simp [runC]
theorem runC_m (t : St) : (runC t)[73]? = some (vU t.m) := by
  unfold runC
  rw [List.getElem?_cons_succ, List.getElem?_append_right (by simp), List.getElem?_append_right (by simp)]
  simp
theorem runC_s (t : St) : ((runC t).drop 1).take 8 = c8 t.s := by
  unfold runC
  rw [List.drop_succ_cons, List.drop_zero, List.take_append_of_le_length (by simp), List.take_of_length_le (by simp)]
theorem runC_b (t : St) : ((runC t).drop 9).take 64 = c64 t.b := by
  unfold runC
  rw [List.drop_succ_cons, show 8 = (c8 t.s).length from by simp, List.drop_left, List.take_append_of_le_length (by simp), List.take_of_length_le (by simp)]
theorem runC_at (t : St) {i : Nat} (h : i < 8) : (runC t)[1 + i]? = some (v32 (t.s.get i)) := by
  unfold runC
  rw [Nat.add_comm, List.getElem?_cons_succ, List.getElem?_append_left (by simpa using h)]
  exact c8_at _ h
theorem runC_put_m (t : St) (m : Nat) : spl (runC t) 73 [vU m] = runC ⟨t.s, t.b, m⟩ := by
  unfold spl
  have e1 : (runC t).take 73 = .bool true :: (c8 t.s ++ c64 t.b) := by
    unfold runC
    rw [List.take_succ_cons, ← List.append_assoc, List.take_append_of_le_length (by simp), List.take_of_length_le (by simp)]
  rw [e1, List.drop_of_length_le (by simp)]
  simp [runC]
theorem runC_put_s (t : St) (s : R8) : spl (runC t) 1 (c8 s) = runC ⟨s, t.b, t.m⟩ := by
  unfold spl
  have e2 : (runC t).drop (1 + (c8 s).length) = c64 t.b ++ [vU t.m] := by
    unfold runC
    rw [show 1 + (c8 s).length = 8 + 1 from by simp, List.drop_succ_cons, show 8 = (c8 t.s).length from by simp, List.drop_left]
  rw [e2]
  simp [runC]
theorem runC_put_b (t : St) (l : List UInt8) (h : t.m % 64 + l.length ≤ 64) : spl (runC t) (9 + t.m % 64) (l.map v8) = runC ⟨t.s, lay t l, t.m⟩ := by
  have e : spl (c64 t.b) (t.m % 64) (l.map v8) = c64 (lay t l) := by
    apply List.ext_getElem?
    intro j
    unfold spl c64 lay
    by_cases hj : j < 64
    · rw [List.getElem?_append, List.getElem?_append]
      simp only [List.length_append, List.length_take, List.length_map, List.length_range]
      by_cases h1 : j < t.m % 64
      · rw [if_pos (by omega), if_pos (by omega)]
        rw [List.getElem?_take, if_pos h1]
        simp only [List.getElem?_map, List.getElem?_range hj, Option.map_some]
        rw [if_neg (by omega)]
      · by_cases h2 : j < t.m % 64 + l.length
        · rw [if_pos (by omega), if_neg (by omega)]
          rw [show j - min (t.m % 64) 64 = j - t.m % 64 from by omega]
          have h3 : j - t.m % 64 < l.length := by omega
          simp [hj, h3, show t.m % 64 ≤ j from by omega, h2]
        · rw [if_neg (by omega)]
          simp only [List.getElem?_drop]
          rw [show t.m % 64 + l.length + (j - (min (t.m % 64) 64 + l.length)) = j from by omega]
          simp only [List.getElem?_map, List.getElem?_range hj, Option.map_some]
          rw [if_neg (by omega)]
    · rw [List.getElem?_eq_none (by simp; omega), List.getElem?_eq_none (by simp; omega)]
  unfold spl at e ⊢
  have e1 : (runC t).take (9 + t.m % 64) = .bool true :: (c8 t.s ++ (c64 t.b).take (t.m % 64)) := by
    unfold runC
    rw [show 9 + t.m % 64 = (8 + t.m % 64) + 1 from by omega, List.take_succ_cons, List.take_append, List.take_of_length_le (by simp), List.take_append_of_le_length (by simp; omega)]
    simp
  have e2 : (runC t).drop (9 + t.m % 64 + (l.map v8).length) = (c64 t.b).drop (t.m % 64 + (l.map v8).length) ++ [vU t.m] := by
    unfold runC
    rw [show 9 + t.m % 64 + (l.map v8).length = (8 + (t.m % 64 + (l.map v8).length)) + 1 from by omega, List.drop_succ_cons, List.drop_append, List.drop_of_length_le (by simp), List.drop_append_of_le_length (by simp; omega)]
    simp
  rw [e1, e2]
  unfold runC
  rw [← e]
  simp
/-- A slice's n elements of k cells each; its block is none of `own`. -/
def SlIs (w : World) (own : List Nat) (v : Value) (k n : Nat) (cs : List Value) : Prop :=
  ∃ a c, v = .slice a n c ∧ n ≤ c ∧ cs.length = n * k ∧ (0 < n → ∃ b off xs, a = some ⟨b, off, none⟩ ∧ b ∉ own ∧ RowL w b xs ∧ (xs.drop off).take (n * k) = cs ∧ off + n * k ≤ xs.length)
theorem SlIs.of {w : World} {own : List Nat} {b off n c k : Nat} {xs cs : List Value} (hb : b ∉ own) (hr : RowL w b xs) (hc : (xs.drop off).take (n * k) = cs) (hl : off + n * k ≤ xs.length) (hn : n ≤ c) : SlIs w own (.slice (some ⟨b, off, none⟩) n c) k n cs :=
  ⟨_, _, rfl, hn, by rw [← hc]; simp; omega, fun _ => ⟨b, off, xs, rfl, hb, hr, hc, hl⟩⟩
theorem SlIs.nil {w : World} {own : List Nat} {k : Nat} : SlIs w own (.slice none 0 0) k 0 [] := ⟨_, _, rfl, Nat.le_refl _, by simp, fun h => by omega⟩
theorem SlIs.mem {w0 w : World} {own own2 : List Nat} {l : List (Nat × Obj)} {v : Value} {k n : Nat} {cs : List Value} (h : SlIs w0 own v k n cs) (hm : Mem w0 own l w) (h2 : ∀ b, b ∉ own → b < w0.heap.size → b ∉ own2) : SlIs w own2 v k n cs := by
  obtain ⟨a, c, rfl, h1, h3, h4⟩ := h
  refine ⟨a, c, rfl, h1, h3, fun hn => ?_⟩
  obtain ⟨b, off, xs, ha, hb, hr, hc, hl⟩ := h4 hn
  exact ⟨b, off, xs, ha, h2 b hb hr.lt, hm.getL hr hb, hc, hl⟩
section
variable {P : Program} {E : List PanicEntry → World → Prop} {n : Nat} {ops : Array Oper} {K : Fr → World → Prop} {τ : Fr} {w0 w : World} {own : List Nat} {l : List (Nat × Obj)}
variable {rest : List Oper} {op : Op} {ty : TypeId} {pos : String} {after : Array Edge} {d : Nat} {v : Value} {S : World → Prop} {fl : List Nat} {plan : List (Nat × Bool)} {i j : Nat}
/-- A value operation behind an effect, in its turn. -/
theorem rp_vale (ho : ops[i]? = some ⟨some d, op, ty, pos, after, none⟩) (hd : Nat.blt d n = true) (hv : Val P (ev τ) w op ty v) (hS : lateB ops fl i = true ∨ S w) (h : RP P E n ops S fl plan K (upd τ d v) w) :
    RP P E n ops S fl ((i, false) :: plan) K τ w := by
  refine ⟨_, ho, hd, rfl, ?_⟩
  unfold OpK
  rw [hv _ rfl rfl]
  exact ⟨hS, h⟩
theorem eff_copy_mem {x y : Operand} {tys : Array TypeId} {t e te : TypeId} {agg : Bool} {sz b off dn dc b2 off2 sn sc k : Nat} {xs l2 cs : List Value} (htys : tys[0]? = some t) (ht : P.underlying t = some (.slice e)) (he : aggB P e = some (agg, sz))
    (hx : ev τ x = .slice (some ⟨b, off, none⟩) dn dc) (hy : ev τ y = .slice (some ⟨b2, off2, none⟩) sn sc) (hm : Mem w0 own l w) (hi : l[i]? = some (b, row xs te)) (hr2 : RowL w b2 l2) (hn : min sn dn = k) (hs : off2 + k * sz ≤ l2.length) (hd : off + k * sz ≤ xs.length)
    (hcs : (l2.drop off2).take (k * sz) = cs) (hone : ∀ v ∈ cs, v.one = true) :
    ∃ w', Eff P (ev τ) w (.call { callee := .builtin .copy, args := #[x, y], argTypes := tys }) ty (vI k) w' ∧ Mem w0 own (l.set i (b, row (spl xs off cs) te)) w' := by
  subst hcs
  exact ⟨_, eff_copy htys ht he hx hy (hm.row hi) hr2 hn hs hd hone, hm.set hi⟩
theorem rp_copy {x y : Operand} {tys : Array TypeId} {t e te : TypeId} {agg : Bool} {sz b off dn dc b2 off2 sn sc k : Nat} {xs l2 cs : List Value} (ho : ops[j]? = some ⟨some d, .call { callee := .builtin .copy, args := #[x, y], argTypes := tys }, ty, pos, after, none⟩) (hdd : Nat.blt d n = true)
    (htys : tys[0]? = some t) (ht : P.underlying t = some (.slice e)) (he : aggB P e = some (agg, sz))
    (hx : ev τ x = .slice (some ⟨b, off, none⟩) dn dc) (hy : ev τ y = .slice (some ⟨b2, off2, none⟩) sn sc) (hm : Mem w0 own l w) (hi : l[i]? = some (b, row xs te)) (hr2 : RowL w b2 l2) (hn : min sn dn = k) (hs : off2 + k * sz ≤ l2.length) (hd : off + k * sz ≤ xs.length)
    (hcs : (l2.drop off2).take (k * sz) = cs) (hone : ∀ v ∈ cs, v.one = true) (hS : lateB ops fl j = true)
    (h : ∀ w', Mem w0 own (l.set i (b, row (spl xs off cs) te)) w' → RP P E n ops S fl plan K (upd τ d (vI k)) w') : RP P E n ops S fl ((j, false) :: plan) K τ w := by
  obtain ⟨w', h1, h2⟩ := eff_copy_mem (ty := ty) htys ht he hx hy hm hi hr2 hn hs hd hcs hone
  exact rp_eff ho hdd h1 (.inl hS) (h _ h2)
end
end Go.Al
namespace Go.Al
open Go Go.RowKit
theorem SlIs.pos {w : World} {own : List Nat} {a : Option Addr} {k n c : Nat} {cs : List Value} (h : SlIs w own (.slice a n c) k n cs) (hn : 0 < n) :
    ∃ b off xs, a = some ⟨b, off, none⟩ ∧ b ∉ own ∧ RowL w b xs ∧ (xs.drop off).take (n * k) = cs ∧ off + n * k ≤ xs.length ∧ n ≤ c := by
  obtain ⟨a', c', he, h1, h2, h3⟩ := h
  cases he
  obtain ⟨b, off, xs, h4, h5, h6, h7, h8⟩ := h3 hn
  exact ⟨b, off, xs, h4, h5, h6, h7, h8, h1⟩
theorem SlIs.drop {w : World} {own : List Nat} {b off n c sz k : Nat} {cs : List Value} (h : SlIs w own (.slice (some ⟨b, off, none⟩) n c) sz n cs) (hk : k ≤ n) :
    SlIs w own (.slice (some ⟨b, slo off k c sz, none⟩) (n - k) (c - k)) sz (n - k) (cs.drop (k * sz)) := by
  obtain ⟨a', c', he, h1, h2, h3⟩ := h
  cases he
  refine ⟨_, _, rfl, by omega, by simp [h2, Nat.sub_mul], fun hn => ?_⟩
  obtain ⟨b', off', xs, h4, h5, h6, h7, h8⟩ := h3 (by omega)
  cases h4
  refine ⟨b, off + k * sz, xs, ?_, h5, h6, ?_, ?_⟩
  · unfold slo; rw [if_neg (by omega)]
  · rw [← h7, List.drop_take, List.drop_drop, Nat.sub_mul]
  · rw [Nat.sub_mul]; have := Nat.mul_le_mul_right sz hk; omega
theorem slo_lt {off l m sz : Nat} (h : l < m) : slo off l m sz = off + l * sz := by unfold slo; rw [if_neg (by omega)]
theorem part_take {xs : List Value} {l : List UInt8} {off n k : Nat} (h : (xs.drop off).take (n * 1) = l.map v8) (hk : k ≤ n) : (xs.drop off).take (k * 1) = (l.take k).map v8 := by
  rw [List.map_take, ← h, List.take_take]; congr 1; omega
theorem one_map8 (l : List UInt8) : ∀ v ∈ l.map v8, v.one = true := by
  intro v hv; obtain ⟨i, _, rfl⟩ := List.mem_map.1 hv; rfl
theorem ret_nil_post {P : Program} {fn : Func} {R : Ending → World → Prop} {τ : Fr} {w : World} (hr : fn.results = #[]) (hR : R (.returned (.tuple #[])) w) : postQ P fn R .normal τ w :=
  post_ends (rs := []) (vs := []) hr trivial rfl hR
end Go.Al
namespace Go.Al
open Go Go.RowKit Go.Proofs
set_option linter.unusedVariables false
set_option linter.unusedSimpArgs false
theorem puts_ok (st : St) (l : List UInt8) (a0 : Option Addr) (c0 b0 : Nat) (w : World) (hr0 : Row w b0 (runC st) 305) (hs : SlIs w [b0] (.slice a0 l.length c0) 1 l.length (l.map v8)) (hb : st.m + l.length < 2305843009213693952) :
    Calls Tryz.prog 198 [.pointer (some ⟨b0, 0, none⟩), .slice a0 l.length c0].toArray w (fun e w' => e = .returned (.tuple #[]) ∧ Mem w [b0] [(b0, row (runC (putL st l)) 305)] w') := by
  have hm := Mem.initOwn hr0
  refine calls_enter (n := 49) Tryz.func198 rfl rfl rfl ?_
  refine WP.block ?_
  refine WP.loop (fun k τ w' => ∃ (rest : List UInt8) (t : St) (a : Option Addr) (c : Nat), rest.length = k ∧ putL st l = putL t rest ∧ SlIs w [b0] (.slice a rest.length c) 1 rest.length (rest.map v8) ∧ t.m + rest.length < 2305843009213693952 ∧ Mem w [b0] [(b0, row (runC t) 305)] w' ∧ τ 0 = (.pointer (some ⟨b0, 0, none⟩)) ∧ τ 1 = (.slice a rest.length c)) (l.length) ?_ ?_
  · exact ⟨l, st, a0, c0, rfl, rfl, hs, hb, hm, rfl, rfl⟩
  · rintro kk2 τ wl1 ⟨rest, t, a, c, hk3, hput, hsl, hbd, hm, hs4, hs5⟩
    refine WP.seq ?_
    refine wp_sr (E := noPanic) noPanic_imp ?_
    refine rl_val rfl (v := (.slice a rest.length c)) (val_move (v := (.slice a rest.length c)) hs5) ?_
    refine rl_val rfl (v := (vI (rest.length : Nat))) (val_lenSl (t := 38) rfl us_38 rfl) ?_
    refine rl_val rfl (v := (.bool (decide ((0 : Int) < (rest.length : Nat))))) (val_gt (p := (rest.length : Nat)) (q := 0) rfl rfl) ?_
    refine rl_nil ?_
    refine WP.cond (b := decide ((0 : Int) < (rest.length : Nat))) rfl (fun hb => ?_) (fun hb => ?_)
    ·
      have hq6 := of_decide_eq_true hb
      have hpos : 0 < rest.length := by simpa using hq6
      obtain ⟨b, off, xs, rfl, hbn, hr, hcs, hle, hnc⟩ := hsl.pos hpos
      obtain ⟨k, hk⟩ : ∃ k, k = min rest.length (64 - t.m % 64) := ⟨_, rfl⟩
      refine WP.skip ?_
      refine WP.block ?_
      refine wp_sd (E := noPanic) [(0, true), (1, true), (2, true), (3, true), (4, true), (5, true), (6, true), (7, true), (8, true), (9, true), (10, false), (11, false)] mixed (by kernel_rfl) (by kernel_rfl) rfl (fun w' => Mem w [b0] [(b0, row (runC t) 305)] w') noPanic_imp hm.drew ?_
      have hm := hm.drew
      refine rp_val rfl rfl (v := (.pointer (some ⟨b0, 0, none⟩))) (fun w' hs => val_move (v := (.pointer (some ⟨b0, 0, none⟩))) hs4) ?_
      refine rp_val rfl rfl (v := (.pointer (some ⟨b0, 0, none⟩))) (fun w' hs => val_nilCheck rfl) ?_
      refine rp_val rfl rfl (v := (.pointer (some ⟨b0, 9, none⟩))) (fun w' hs => val_fieldAddr (d := 9) rfl fo_305_2) ?_
      refine rp_val rfl rfl (v := (.pointer (some ⟨b0, 0, none⟩))) (fun w' hs => val_move (v := (.pointer (some ⟨b0, 0, none⟩))) hs4) ?_
      refine rp_val rfl rfl (v := (.pointer (some ⟨b0, 0, none⟩))) (fun w' hs => val_nilCheck rfl) ?_
      refine rp_val rfl rfl (v := (.pointer (some ⟨b0, 73, none⟩))) (fun w' hs => val_fieldAddr (d := 73) rfl fo_305_3) ?_
      refine rp_val rfl rfl (v := (vU ((t.m : Nat) : Int))) (fun w' hs => val_load1 (v := (vU ((t.m : Nat) : Int))) (off := 73) rfl ag_44 (hs.row (i := 0) rfl).l (runC_m _)) ?_
      refine rp_val rfl rfl (v := (vU (((t.m : Nat) : Int) % 64))) (fun w' hs => val_remU (p := ((t.m : Nat) : Int)) (q := 64) rfl rfl (by omega)) ?_
      refine rp_val rfl rfl (v := (.slice (some ⟨b0, 9 + t.m % 64, none⟩) (64 - t.m % 64) (64 - t.m % 64))) (fun w' hs => val_cast (val_sliceAr (b := b0) (off := 9) (n := 64) (sz := 1) (l := t.m % 64) (h := 64) rfl ua_303 ea_303 ⟨_, _, rfl, by omega, by omega⟩ rfl (by omega) (by omega)) (by rw [slo_lt (by omega)]; simp)) ?_
      refine rp_val rfl rfl (v := (.slice (some ⟨b, off, none⟩) rest.length c)) (fun w' hs => val_move (v := (.slice (some ⟨b, off, none⟩) rest.length c)) hs5) ?_
      refine rp_copy (i := 0) (xs := runC t) (l2 := xs) (k := k) (cs := (rest.take k).map v8) rfl rfl rfl us_38 ag_5 rfl rfl hm rfl (hm.getL hr hbn) (by omega) (by omega) (by simp; omega) (part_take hcs (by omega)) (one_map8 _) (by kernel_rfl) ?_
      intro w7 hm
      rw [runC_put_b _ _ (by simp; omega)] at hm
      replace hm : Mem w [b0] [(b0, row (runC ⟨t.s, lay t (rest.take k), t.m⟩) 305)] w7 := hm
      refine rp_vale rfl rfl (v := (vI (k : Int))) (val_assign (v := (vI (k : Int))) rfl) (.inl (by kernel_rfl)) ?_
      refine rp_nil ?_
      refine WP.seq ?_
      refine wp_sr (E := noPanic) noPanic_imp ?_
      refine rl_val rfl (v := (.pointer (some ⟨b0, 0, none⟩))) (val_move (v := (.pointer (some ⟨b0, 0, none⟩))) hs4) ?_
      refine rl_val rfl (v := (.pointer (some ⟨b0, 0, none⟩))) (val_nilCheck rfl) ?_
      refine rl_val rfl (v := (.pointer (some ⟨b0, 73, none⟩))) (val_fieldAddr (d := 73) rfl fo_305_3) ?_
      refine rl_val rfl (v := (vU ((t.m : Nat) : Int))) (val_load1 (v := (vU ((t.m : Nat) : Int))) (off := 73) rfl ag_44 (hm.row (i := 0) rfl).l (runC_m _)) ?_
      refine rl_val rfl (v := (vI (k : Int))) (val_move (v := (vI (k : Int))) rfl) ?_
      refine rl_val rfl (v := (vU (k : Int))) (val_cast (val_conv ut_3 ui_44 rfl) (by rw [wrapU (by omega) (by omega)])) ?_
      refine rl_val rfl (v := (vU ((t.m + k : Nat) : Int))) (val_cast (val_addU (p := (t.m : Int)) (q := (k : Int)) rfl rfl (by omega)) (by simp)) ?_
      refine rl_val rfl (v := (.pointer (some ⟨b0, 0, none⟩))) (val_nilCheck rfl) ?_
      refine rl_val rfl (v := (.pointer (some ⟨b0, 73, none⟩))) (val_fieldAddr (d := 73) rfl fo_305_3) ?_
      refine rl_store (i := 0) (off := 73) (xs := (runC ⟨t.s, lay t (rest.take k), t.m⟩)) (vs := [(vU ((t.m + k : Nat) : Int))]) rfl rfl rfl ag_44 hm rfl rfl rfl (by simp) (by simp [Value.one]) ?_
      intro w8 hm
      rw [runC_put_m] at hm
      replace hm : Mem w [b0] [(b0, row (runC ⟨t.s, lay t (rest.take k), t.m + k⟩) 305)] w8 := hm
      refine rl_nil ?_
      refine wp_sr (E := noPanic) noPanic_imp ?_
      refine rl_val rfl (v := (.pointer (some ⟨b0, 0, none⟩))) (val_move (v := (.pointer (some ⟨b0, 0, none⟩))) hs4) ?_
      refine rl_val rfl (v := (.pointer (some ⟨b0, 0, none⟩))) (val_nilCheck rfl) ?_
      refine rl_val rfl (v := (.pointer (some ⟨b0, 73, none⟩))) (val_fieldAddr (d := 73) rfl fo_305_3) ?_
      refine rl_val rfl (v := (vU ((t.m + k : Nat) : Int))) (val_load1 (v := (vU ((t.m + k : Nat) : Int))) (off := 73) rfl ag_44 (hm.row (i := 0) rfl).l (runC_m _)) ?_
      refine rl_val rfl (v := (vU (((t.m + k : Nat) : Int) % 64))) (val_remU (p := ((t.m + k : Nat) : Int)) (q := 64) rfl rfl (by omega)) ?_
      refine rl_val rfl (v := (.bool (decide ((((t.m + k : Nat) : Int) % 64 : Int) = 0)))) (val_eq (p := ((t.m + k : Nat) : Int) % 64) (q := 0) rfl rfl) ?_
      refine rl_nil ?_
      refine WP.cond (b := decide ((((t.m + k : Nat) : Int) % 64 : Int) = 0)) rfl (fun hb => ?_) (fun hb => ?_)
      ·
        have hq9 := of_decide_eq_true hb
        have hpt : putL t (rest.take k) = ⟨take t.s (lay t (rest.take k)), lay t (rest.take k), t.m + k⟩ := by
          rw [putL_part (rest.take k) t (by simp; omega) (by simp; omega), show (rest.take k).length = k from by simp; omega]
          rw [if_pos (by simp at hq9; omega)]
        refine wp_d (E := noPanic) [(0, true), (1, true), (2, true), (3, true), (4, true), (5, true), (6, true), (7, true), (8, true), (9, false), (10, false), (11, false), (12, false)] mixed (by kernel_rfl) (by kernel_rfl) rfl (fun w' => Mem w [b0] [(b0, row (runC ⟨t.s, lay t (rest.take k), t.m + k⟩) 305)] w') noPanic_imp hm.drew ?_
        have hm := hm.drew
        refine rp_val rfl rfl (v := (.pointer (some ⟨b0, 0, none⟩))) (fun w' hs => val_move (v := (.pointer (some ⟨b0, 0, none⟩))) hs4) ?_
        refine rp_val rfl rfl (v := (.pointer (some ⟨b0, 0, none⟩))) (fun w' hs => val_move (v := (.pointer (some ⟨b0, 0, none⟩))) hs4) ?_
        refine rp_val rfl rfl (v := (.pointer (some ⟨b0, 0, none⟩))) (fun w' hs => val_nilCheck rfl) ?_
        refine rp_val rfl rfl (v := (.pointer (some ⟨b0, 1, none⟩))) (fun w' hs => val_fieldAddr (d := 1) rfl fo_305_1) ?_
        refine rp_val rfl rfl (v := (.agg (c8 t.s).toArray)) (fun w' hs => val_loadA (m := c8 t.s) (off := 1) rfl ag_301 (hs.row (i := 0) rfl).l (runC_s _) (by simp) (by decide)) ?_
        refine rp_val rfl rfl (v := (.pointer (some ⟨b0, 0, none⟩))) (fun w' hs => val_move (v := (.pointer (some ⟨b0, 0, none⟩))) hs4) ?_
        refine rp_val rfl rfl (v := (.pointer (some ⟨b0, 0, none⟩))) (fun w' hs => val_nilCheck rfl) ?_
        refine rp_val rfl rfl (v := (.pointer (some ⟨b0, 9, none⟩))) (fun w' hs => val_fieldAddr (d := 9) rfl fo_305_2) ?_
        refine rp_val rfl rfl (v := (.agg (c64 (lay t (rest.take k))).toArray)) (fun w' hs => val_loadA (m := c64 (lay t (rest.take k))) (off := 9) rfl ag_303 (hs.row (i := 0) rfl).l (runC_b _) (by simp) (by decide)) ?_
        refine rp_call rfl rfl (ent_static (args := [(.agg (c8 t.s).toArray), (.agg (c64 (lay t (rest.take k))).toArray)]) Tryz.func267 rfl rfl rfl rfl) (took_ok t.s (lay t (rest.take k)) _) ?_
        rintro _ w10 ⟨rfl, h11⟩
        refine callQ_ret ?_
        refine ⟨.inr ((hm.call h11).drop 0), ?_⟩
        replace hm : Mem w [b0] [(b0, row (runC ⟨t.s, lay t (rest.take k), t.m + k⟩) 305)] w10 := hm.call h11
        refine rp_vale rfl rfl (v := (.pointer (some ⟨b0, 0, none⟩))) (val_nilCheck rfl) (.inl (by kernel_rfl)) ?_
        refine rp_vale rfl rfl (v := (.pointer (some ⟨b0, 1, none⟩))) (val_fieldAddr (d := 1) rfl fo_305_1) (.inl (by kernel_rfl)) ?_
        refine rp_store (i := 0) (off := 1) (xs := (runC ⟨t.s, lay t (rest.take k), t.m + k⟩)) (vs := c8 (take t.s (lay t (rest.take k)))) rfl rfl rfl rfl ag_301 hm rfl rfl (c8_len _) (by simp) (c8_one _) (by kernel_rfl) ?_
        intro w12 hm
        rw [runC_put_s] at hm
        replace hm : Mem w [b0] [(b0, row (runC ⟨take t.s (lay t (rest.take k)), lay t (rest.take k), t.m + k⟩) 305)] w12 := hm
        refine rp_nil ?_
        refine wp_r (E := noPanic) noPanic_imp ?_
        refine rl_val rfl (v := (.slice (some ⟨b, off, none⟩) rest.length c)) (val_move (v := (.slice (some ⟨b, off, none⟩) rest.length c)) hs5) ?_
        refine rl_val rfl (v := (vI (k : Int))) (val_move (v := (vI (k : Int))) rfl) ?_
        refine rl_val rfl (v := (.slice (some ⟨b, (slo off k c 1), none⟩) ((rest.drop k).length) (c - k))) (val_cast (val_slice (b := b) (off := off) (n := rest.length) (cap := c) (l := k) (h := rest.length) (m := c) rfl us_38 es_38 ⟨_, _, rfl, by omega, by omega⟩ ⟨rfl, rfl⟩ rfl (by omega) (by omega) (by omega)) (by rw [List.length_drop])) ?_
        refine rl_val rfl (v := (.slice (some ⟨b, (slo off k c 1), none⟩) ((rest.drop k).length) (c - k))) (val_assign (v := (.slice (some ⟨b, (slo off k c 1), none⟩) ((rest.drop k).length) (c - k))) rfl) ?_
        refine rl_nil ?_
        have hpl := SlIs.drop (k := k) (sz := 1) hsl (by omega)
        exact ⟨(rest.drop k).length, by simp; omega, ⟨(rest.drop k), _, _, _, rfl, by rw [← List.take_append_drop k rest, putL_app] at hput; simpa using hput, by simpa [List.map_drop] using hpl, by rw [putL_m]; simp; omega, (by rw [hpt]; exact hm), hs4, rfl⟩⟩
      ·
        have hq13 := of_decide_eq_false hb
        have hpt : putL t (rest.take k) = ⟨t.s, lay t (rest.take k), t.m + k⟩ := by
          rw [putL_part (rest.take k) t (by simp; omega) (by simp; omega), show (rest.take k).length = k from by simp; omega]
          rw [if_neg (by simp at hq13; omega)]
        refine WP.skip ?_
        refine wp_r (E := noPanic) noPanic_imp ?_
        refine rl_val rfl (v := (.slice (some ⟨b, off, none⟩) rest.length c)) (val_move (v := (.slice (some ⟨b, off, none⟩) rest.length c)) hs5) ?_
        refine rl_val rfl (v := (vI (k : Int))) (val_move (v := (vI (k : Int))) rfl) ?_
        refine rl_val rfl (v := (.slice (some ⟨b, (slo off k c 1), none⟩) ((rest.drop k).length) (c - k))) (val_cast (val_slice (b := b) (off := off) (n := rest.length) (cap := c) (l := k) (h := rest.length) (m := c) rfl us_38 es_38 ⟨_, _, rfl, by omega, by omega⟩ ⟨rfl, rfl⟩ rfl (by omega) (by omega) (by omega)) (by rw [List.length_drop])) ?_
        refine rl_val rfl (v := (.slice (some ⟨b, (slo off k c 1), none⟩) ((rest.drop k).length) (c - k))) (val_assign (v := (.slice (some ⟨b, (slo off k c 1), none⟩) ((rest.drop k).length) (c - k))) rfl) ?_
        refine rl_nil ?_
        have hpl := SlIs.drop (k := k) (sz := 1) hsl (by omega)
        exact ⟨(rest.drop k).length, by simp; omega, ⟨(rest.drop k), _, _, _, rfl, by rw [← List.take_append_drop k rest, putL_app] at hput; simpa using hput, by simpa [List.map_drop] using hpl, by rw [putL_m]; simp; omega, (by rw [hpt]; exact hm), hs4, rfl⟩⟩
    ·
      have hq14 := of_decide_eq_false hb
      have hz : rest = [] := List.eq_nil_of_length_eq_zero (by simp at hq14; simp [hq14])
      subst hz
      refine WP.exit ?_
      repeat (first | with_reducible refine exit_pass ?_ | with_reducible refine exit_other rfl ?_)
      refine blk_here ?_
      exact ret_nil_post rfl ⟨rfl, by rw [hput]; exact hm⟩
end Go.Al
namespace Go.Al
open Go Go.RowKit
set_option linter.unusedVariables false
set_option linter.unusedSimpArgs false
/-- A slice type's element: its type, its cells, its bytes, its zero's cells. -/
def elemZ (P : Program) (t : TypeId) : Option (TypeId × Nat × Nat × List Value) :=
  match P.underlying t with
  | some (.slice e) => (P.info? e).bind fun i => i.zero.map fun z => (e, i.size, i.bytes, z.cells.toList)
  | _ => none
theorem elemZ_spec {P : Program} {t e : TypeId} {sz by_ : Nat} {zs : List Value} (h : elemZ P t = some (e, sz, by_, zs)) :
    P.underlying t = some (.slice e) ∧ ∃ i z, P.info? e = some i ∧ i.zero = some z ∧ i.size = sz ∧ i.bytes = by_ ∧ z.cells.toList = zs := by
  unfold elemZ at h
  split at h
  · rename_i e' hu
    cases hi : P.info? e' with
    | none => rw [hi] at h; simp at h
    | some i =>
      rw [hi] at h
      simp only [Option.bind_some] at h
      cases hz : i.zero with
      | none => rw [hz] at h; simp at h
      | some z =>
        rw [hz] at h
        simp only [Option.map_some, Option.some.injEq, Prod.mk.injEq] at h
        obtain ⟨rfl, h1, h2, h3⟩ := h
        exact ⟨hu, i, z, hi, hz, h1, h2, h3⟩
  · simp at h
def seqP : Nat → List Value → List (Nat × Value)
  | _, [] => []
  | k, v :: vs => (k, v) :: seqP (k + 1) vs
theorem fold_spl (off : Nat) : ∀ (vs : List Value) (j : Nat) (cs : Array Value), off + j + vs.length ≤ cs.size →
    (vs.zipIdx j).foldl (fun cs p => cs.setIfInBounds (off + p.2) p.1) cs = (spl cs.toList (off + j) vs).toArray := by
  intro vs
  induction vs with
  | nil => intro j cs _; simp [spl_nil]
  | cons v vs ih =>
    intro j cs h
    simp only [List.length_cons] at h
    rw [List.zipIdx_cons, List.foldl_cons, ih (j + 1) _ (by simp; omega)]
    congr 1
    simp only [Array.toList_setIfInBounds]
    rw [← Nat.add_assoc, spl_set _ _ _ _ (by simp; omega)]
theorem spl_app {l : List Value} {off : Nat} {a b : List Value} (h : off + a.length + b.length ≤ l.length) : spl (spl l off a) (off + a.length) b = spl l off (a ++ b) := by
  apply List.ext_getElem?
  intro i
  unfold spl
  simp only [List.getElem?_append, List.length_append, List.length_take, List.length_drop, List.getElem?_take, List.getElem?_drop]
  repeat' split
  all_goals first | rfl | (exfalso; omega) | (congr 1; omega) | skip
  all_goals simp_all
  all_goals omega
theorem fill_seq (sz : Nat) : ∀ (vs : List Value) (k : Nat) (cs : Array Value), (∀ v ∈ vs, v.cells.size = sz) → (k + vs.length) * sz ≤ cs.size →
    Instr.fill (fun i => some (i * sz, sz)) cs (seqP k vs) = some (spl cs.toList (k * sz) (vs.flatMap fun v => v.cells.toList)).toArray := by
  intro vs
  induction vs with
  | nil => intro k cs _ _; simp [seqP, Instr.fill, spl_nil]
  | cons v vs ih =>
    intro k cs hv h
    simp only [List.length_cons] at h
    have h1 := hv v (by simp)
    have h2 : k * sz + sz ≤ cs.size := by
      have : (k + 1) * sz ≤ (k + (vs.length + 1)) * sz := Nat.mul_le_mul_right _ (by omega)
      rw [Nat.succ_mul] at this; exact Nat.le_trans this h
    simp only [seqP, Instr.fill]
    rw [h1]
    simp only [ne_eq, not_true_eq_false, false_or, gt_iff_lt]
    rw [if_neg (by simp; omega)]
    have hz : v.cells.zipIdx.foldl (fun cs x => cs.setIfInBounds (k * sz + x.2) x.1) cs = (spl cs.toList (k * sz) v.cells.toList).toArray := by
      have h3 := fold_spl (k * sz) v.cells.toList 0 cs (by simp only [Array.length_toList, h1]; omega)
      rw [Nat.add_zero] at h3
      rw [← h3, ← Array.foldl_toList]
      simp
    have hz' : (v.cells.zipIdx.foldl (fun cs (x : Value × Nat) => match x with | (c, j) => cs.setIfInBounds (k * sz + j) c) cs) = (spl cs.toList (k * sz) v.cells.toList).toArray := hz
    rw [hz']
    have hlen : (spl cs.toList (k * sz) v.cells.toList).length = cs.size := by
      rw [spl_length (by simp only [Array.length_toList, h1]; omega)]; simp
    rw [ih (k + 1) _ (fun u hu => hv u (by simp [hu])) (by simp only [List.size_toArray, hlen]; rw [show k + 1 + vs.length = k + (vs.length + 1) from by omega]; exact h)]
    simp only [List.flatMap_cons]
    have hb : (vs.flatMap fun v => v.cells.toList).length = vs.length * sz := by
      have : ∀ us : List Value, (∀ v ∈ us, v.cells.size = sz) → (us.flatMap fun v => v.cells.toList).length = us.length * sz := by
        intro us
        induction us with
        | nil => intro _; simp
        | cons u us ihu => intro hu; simp only [List.flatMap_cons, List.length_append, List.length_cons, Array.length_toList]; rw [ihu (fun x hx => hu x (by simp [hx])), hu u (by simp), Nat.succ_mul]; omega
      exact this vs (fun x hx => hv x (by simp [hx]))
    have h5 : k * sz + sz + vs.length * sz = (k + (vs.length + 1)) * sz := by rw [Nat.add_mul, Nat.succ_mul]; omega
    rw [← spl_app (by simp only [Array.length_toList, h1, hb]; omega)]
    simp [h1, Nat.succ_mul]
section
variable {P : Program} {ρ : Operand → Value} {w : World} {ty : TypeId}
theorem eff_buildSlice {t e : TypeId} {sz by_ n : Nat} {zs : List Value} {parts : Array (Nat × Operand)} {vs cs : List Value} (ht : elemZ P t = some (e, sz, by_, zs)) (hz : zs.length = sz) (hps : (parts.map fun (i, x) => (i, ρ x)).toList = seqP 0 vs)
    (hn : vs.length = n) (h24 : n * sz ≤ 16777216) (hv : ∀ v ∈ vs, v.cells.size = sz) (hc : (vs.flatMap fun v => v.cells.toList) = cs) :
    Eff P ρ w (.buildSlice t n parts) ty (.slice (some ⟨w.heap.size, 0, none⟩) n n) (w.alloc (row cs e)) := by
  obtain ⟨hu, i, z, hi, hzz, rfl, rfl, rfl⟩ := elemZ_spec ht
  subst hc
  intro o ho hty
  simp only [execOp, ho]
  refine fin_eff ?_
  unfold Instr.buildSlice
  rw [run_bind' (run_under hu w)]
  simp only
  rw [run_bind' (run_size' hi w), if_neg (by omega)]
  have hp : parts.map (fun (x : Nat × Operand) => match x with | (i, x) => (i, ρ x)) = (seqP 0 vs).toArray := by
    apply Array.toList_inj.1; rw [hps]
  have hlenz : z.cells.size = i.size := by rw [← hz]; simp
  have key : ∀ zc : Array Value, Instr.fill (fun j => some (j * i.size, i.size)) ((Array.range (n * i.size)).map (zc[· % zc.size]!)) (seqP 0 vs) = some (vs.flatMap fun v => v.cells.toList).toArray := by
    intro zc
    rw [fill_seq i.size vs 0 _ hv (by simp [hn])]
    congr 2
    have hb : (vs.flatMap fun v => v.cells.toList).length = n * i.size := by
      subst hn
      have : ∀ us : List Value, (∀ v ∈ us, v.cells.size = i.size) → (us.flatMap fun v => v.cells.toList).length = us.length * i.size := by
        intro us
        induction us with
        | nil => intro _; simp
        | cons u us ihu => intro hu; simp only [List.flatMap_cons, List.length_append, List.length_cons, Array.length_toList]; rw [ihu (fun x hx => hu x (by simp [hx])), hu u (by simp), Nat.succ_mul]; omega
      exact this vs hv
    rw [Nat.zero_mul]
    exact spl_all (n := n * i.size) (by simp) hb
  by_cases h0 : n * i.size = 0
  · simp only [h0, if_true, pure_bind]
    have := key #[]
    rw [h0] at this
    rw [hp, this]
    simp [newRow, go_sem]
  · simp only [h0, if_false]
    have hzv : (zeroValue e : Sem Value).run P w = .ok z w := by simp [zeroValue, go_sem, run_info hi, hzz]
    rw [hp]
    simp only [bind_assoc, pure_bind]
    rw [run_bind' hzv, key]
    simp [newRow, go_sem]
theorem eff_makeSlice {t e : TypeId} {by_ n : Nat} {z : Value} {x y : Operand} {k k2 : IntKind} (ht : elemZ P t = some (e, 1, by_, [z])) (hx : ρ x = .int k n) (hy : ρ y = .int k2 n) (hn : n ≤ 1099511627776) (hb : by_ ≤ 64) :
    Eff P ρ w (.makeSlice t x y) ty (.slice (some ⟨w.heap.size, 0, none⟩) n n) (w.alloc (row (List.replicate n z) e)) := by
  obtain ⟨hu, i, zv, hi, hzz, h1, rfl, h3⟩ := elemZ_spec ht
  intro o ho hty
  simp only [execOp, ho]
  refine fin_eff ?_
  unfold Instr.makeSlice
  rw [run_bind' (run_under hu w)]
  simp only [hx, hy]
  have hw : IntKind.i64.wrap (n : Int) = n := wrapI (by omega) (by omega)
  have e1 : (asInt (.int k n) : Sem Int).run P w = .ok (n : Int) w := rfl
  have e2 : (asInt (.int k2 n) : Sem Int).run P w = .ok (n : Int) w := rfl
  rw [run_bind' e1, run_bind' e2, run_bind' (run_info hi w)]
  have hb2 : (i.bytes : Int) * n ≤ 64 * 1099511627776 := by
    have : i.bytes * n ≤ 64 * 1099511627776 := Nat.mul_le_mul hb hn
    rw [← Int.natCast_mul]; omega
  have hnn : ¬ ((n : Int) < 0) := by omega
  have hb3 : ¬ ((i.bytes : Int) * n > 2 ^ 48) := by omega
  rw [hw]
  have hcond : ¬ (((decide ((n : Int) < 0) || decide ((i.bytes : Int) * n > 2 ^ 48)) || decide ((n : Int) < 0) || decide ((n : Int) > n)) = true) := by
    rw [decide_eq_false hnn, decide_eq_false hb3, decide_eq_false (by omega)]; exact Bool.false_ne_true
  simp only [if_neg hcond]
  have hr : (askRoom ((n : Int).toNat * i.bytes)).run P w = .ok () w := by
    unfold askRoom
    rw [if_neg (by
      have : i.bytes * n ≤ 64 * 1099511627776 := Nat.mul_le_mul hb hn
      simp only [roomBytes, Int.toNat_natCast]
      rw [Nat.mul_comm]; omega)]
    rfl
  rw [run_bind' hr, run_bind' (run_size' hi w)]
  simp only [h1, Int.toNat_natCast, Nat.mul_one]
  have hzv : (zeroValue e : Sem Value).run P w = .ok zv w := by simp [zeroValue, go_sem, run_info hi, hzz]
  have hzc : zv.cells = #[z] := by apply Array.toList_inj.1; rw [h3]
  by_cases h0 : n = 0
  · subst h0
    simp [newRow, go_sem]
  · simp only [h0, if_false]
    simp only [bind_assoc, pure_bind]
    rw [run_bind' hzv]
    have : (Array.range n).map (fun j => zv.cells[j % zv.cells.size]!) = (List.replicate n z).toArray := by
      apply Array.ext
      · simp
      · intro j h1 h2; simp [hzc, Nat.mod_one]
    rw [this]
    simp [newRow, go_sem, row]
end
/-- A slice of the call's own: nil, or from its block's first cell on; r: its row. -/
def VecIs (v : Value) (n sz : Nat) (e : TypeId) (xs : List Value) (r : List (Nat × Obj)) : Prop :=
  (v = .slice none 0 0 ∧ n = 0 ∧ xs = [] ∧ r = []) ∨
  ∃ g cap rest, v = .slice (some ⟨g, 0, none⟩) n cap ∧ n ≤ cap ∧ cap ≤ maxLen ∧ xs.length = n * sz ∧ cap * sz ≤ (xs ++ rest).length ∧ r = [(g, row (xs ++ rest) e)]
theorem VecIs.nil {sz : Nat} {e : TypeId} : VecIs (.slice none 0 0) 0 sz e [] [] := .inl ⟨rfl, rfl, rfl, rfl⟩
theorem VecIs.mk {g n cap sz : Nat} {e : TypeId} {xs rest : List Value} (h1 : n ≤ cap) (h2 : cap ≤ maxLen) (h3 : xs.length = n * sz) (h4 : cap * sz ≤ (xs ++ rest).length) :
    VecIs (.slice (some ⟨g, 0, none⟩) n cap) n sz e xs [(g, row (xs ++ rest) e)] := .inr ⟨g, cap, rest, rfl, h1, h2, h3, h4, rfl⟩
theorem VecIs.mk0 {g n sz : Nat} {e : TypeId} {xs : List Value} (h2 : n ≤ maxLen) (h3 : xs.length = n * sz) : VecIs (.slice (some ⟨g, 0, none⟩) n n) n sz e xs [(g, row xs e)] :=
  .inr ⟨g, n, [], rfl, Nat.le_refl _, h2, h3, by simp [h3], by simp⟩
theorem VecIs.len {v : Value} {n sz : Nat} {e : TypeId} {xs : List Value} {r : List (Nat × Obj)} (h : VecIs v n sz e xs r) : xs.length = n * sz := by
  rcases h with ⟨_, rfl, rfl, _⟩ | ⟨_, _, _, _, _, _, h, _⟩
  · simp
  · exact h
theorem VecIs.form {v : Value} {n sz : Nat} {e : TypeId} {xs : List Value} {r : List (Nat × Obj)} (h : VecIs v n sz e xs r) : ∃ a c, v = .slice a n c ∧ n ≤ c ∧ c ≤ maxLen := by
  rcases h with ⟨rfl, rfl, _⟩ | ⟨g, c, rest, rfl, h1, h2, _⟩
  · exact ⟨none, 0, rfl, Nat.le_refl _, by simp [maxLen]⟩
  · exact ⟨_, c, rfl, h1, h2⟩
theorem VecIs.pos {v : Value} {n sz : Nat} {e : TypeId} {xs : List Value} {r : List (Nat × Obj)} (h : VecIs v n sz e xs r) (hn : 0 < n) :
    ∃ g cap rest, v = .slice (some ⟨g, 0, none⟩) n cap ∧ n ≤ cap ∧ cap ≤ maxLen ∧ xs.length = n * sz ∧ cap * sz ≤ (xs ++ rest).length ∧ r = [(g, row (xs ++ rest) e)] := by
  rcases h with ⟨_, h, _⟩ | h
  · omega
  · exact h
theorem VecIs.sl {w0 w : World} {own own2 : List Nat} {l : List (Nat × Obj)} {v : Value} {n sz : Nat} {e : TypeId} {xs : List Value} {r : List (Nat × Obj)} (h : VecIs v n sz e xs r) (hm : Mem w0 own l w) (hs : ∀ p ∈ r, p ∈ l ∧ p.1 ∉ own2) : SlIs w own2 v sz n xs := by
  rcases h with ⟨rfl, rfl, rfl, _⟩ | ⟨g, c, rest, rfl, h1, h2, h3, h4, rfl⟩
  · exact SlIs.nil
  · obtain ⟨h5, h6⟩ := hs (g, row (xs ++ rest) e) (by simp)
    exact SlIs.of h6 (⟨e, (0, 0), hm.rows _ h5⟩ : RowL w g (xs ++ rest)) (by simp [← h3]) (by simp [← h3]) h1
theorem Mem.comm {w0 w : World} {own : List Nat} {a b : List (Nat × Obj)} (h : Mem w0 own (a ++ b) w) : Mem w0 own (b ++ a) w :=
  ⟨h.os, h.tape, h.output, h.size, h.old, fun p hp => h.rows p (by simp at hp ⊢; exact hp.symm), fun p hp => h.mine p (by simp at hp ⊢; exact hp.symm), by
    rw [List.map_append]; have := h.nd; rw [List.map_append] at this; exact (List.perm_append_comm.nodup_iff).1 this⟩
theorem Mem.perm {w0 w : World} {own : List Nat} {a b : List (Nat × Obj)} (h : Mem w0 own a w) (hp : a.Perm b) : Mem w0 own b w :=
  ⟨h.os, h.tape, h.output, h.size, h.old, fun p hq => h.rows p (hp.mem_iff.2 hq), fun p hq => h.mine p (hp.mem_iff.2 hq), ((hp.map _).nodup_iff).1 h.nd⟩
/-- A callee that owns one block of ours, the block's row anywhere. -/
theorem Mem.callMid {w0 w w' : World} {own : List Nat} {l1 l3 l2 : List (Nat × Obj)} {b : Nat} {o : Obj} (h : Mem w0 own (l1 ++ ((b, o) :: l2)) w) (h2 : Mem w [b] l3 w') : Mem w0 own (l1 ++ (l3 ++ l2)) w' := by
  have hp : (l1 ++ ((b, o) :: l2)).Perm ((b, o) :: (l1 ++ l2)) := List.perm_middle
  have := (h.perm hp).callOwn (i := 0) rfl h2
  refine this.perm ?_
  simp only [List.eraseIdx_zero, List.tail_cons]
  rw [← List.append_assoc, ← List.append_assoc]
  exact (List.perm_append_comm).append_right _
theorem Mem.callNil {w0 w w' : World} {own : List Nat} {l1 l3 l2 : List (Nat × Obj)} (h : Mem w0 own (l1 ++ l2) w) (h2 : Mem w [] l3 w') : Mem w0 own (l1 ++ (l3 ++ l2)) w' := by
  refine (h.call h2).perm ?_
  rw [← List.append_assoc, ← List.append_assoc]
  exact (List.perm_append_comm).append_right _
theorem maxLen_val : maxLen = 9223372036854775807 := rfl
section
variable {P : Program} {E : List PanicEntry → World → Prop} {n : Nat} {ds : List Deferred} {ops : Array Oper} {K : Fr → World → Prop} {τ : Fr} {w0 w : World} {own : List Nat} {l l1 l2 r : List (Nat × Obj)}
variable {rest : List Oper} {ty : TypeId} {pos : String} {after : Array Edge} {d : Nat} {v : Value} {S : World → Prop} {fl : List Nat} {plan : List (Nat × Bool)} {i j : Nat} {x y : Operand}
theorem one_eq (v : Value) : v.oneCell' = v.one := by cases v <;> rfl
theorem run_firstCellsSl {b off n c sz : Nat} {l news : List Value} (h : RowL w b l) (hn : (l.drop off).take (n * sz) = news) (hl : news.length = n * sz) : ∀ j u, news[j]? = some u → w.cell? ((⟨b, off, none⟩ : Addr).add j) = some u := by
  intro j u hu
  rw [add_mk, h.cell]
  subst hn
  rw [List.getElem?_take] at hu
  split at hu
  · simpa using hu
  · simp at hu
theorem eff_append0 {t e : TypeId} {sz by_ m c : Nat} {zs xs : List Value} {a : Option Addr} (ht : elemZ P t = some (e, sz, by_, zs)) (hx : ev τ x = v) (hv : VecIs v m sz e xs r) (hy : ev τ y = .slice a 0 c) :
    Eff P (ev τ) w (.call { callee := .builtin .append, args := #[x, y], argTypes := #[t, t] }) ty v w := by
  obtain ⟨hu, i, z, hi, hzz, hs, hbb, hzc⟩ := elemZ_spec ht
  obtain ⟨ao, cc, rfl, hmc, _⟩ := hv.form
  intro o hop hty
  simp only [execOp, hop, resolve]
  simp only [List.map_toArray, List.map_cons, List.map_nil, hx, hy, pure_bind, invoke, builtin]
  refine fin_eff ?_
  have hf : (Builtin.firstCells i.size 0 (.slice a 0 c)).run P w = .ok #[] w := by
    cases a <;> simp [Builtin.firstCells, loadCells, loadCellsFrom, pure, Sem.run]
  cases ao <;> simp [Builtin.append_, run_underlying hu, sizeOf, typeInfo, hi, Builtin.lenOf, hmc, hf, storeCells]
theorem eff_append {t e : TypeId} {sz by_ m k b off c : Nat} {zs xs news ls : List Value} (ht : elemZ P t = some (e, sz, by_, zs)) (hz : zs.length = sz) (hsz : 0 < sz) (hx : ev τ x = v) (hv : VecIs v m sz e xs r) (hm : Mem w0 own (l1 ++ (r ++ l2)) w)
    (hy : ev τ y = .slice (some ⟨b, off, none⟩) k c) (hb : RowL w b ls) (hnews : (ls.drop off).take (k * sz) = news) (hl : news.length = k * sz) (h1 : ∀ u ∈ news, u.one = true) (h63 : m + k ≤ 1099511627776) (hby : by_ ≤ 128) :
    ∃ v' r' w', Eff P (ev τ) w (.call { callee := .builtin .append, args := #[x, y], argTypes := #[t, t] }) ty v' w' ∧ VecIs v' (m + k) sz e (xs ++ news) r' ∧ Mem w0 own (l1 ++ (r' ++ l2)) w' := by
  by_cases hk0 : k = 0
  · subst hk0
    have hn0 : news = [] := List.eq_nil_of_length_eq_zero (by rw [hl]; simp)
    subst hn0
    exact ⟨v, r, w, eff_append0 ht hx hv hy, by simpa using hv, hm⟩
  obtain ⟨hu, i, z, hi, hzz, hs, hbb, hzc⟩ := elemZ_spec ht
  subst hs
  subst hbb
  have hbytes : (m + k) * i.bytes ≤ 140737488355328 := Nat.le_trans (Nat.mul_le_mul h63 hby) (by decide)
  have hzs : z.cells.size = i.size := by rw [← hz, ← hzc]; simp
  have hnw := run_firstCellsSl (c := c) hb hnews hl
  have h1' : ∀ u ∈ news, u.oneCell' = true := fun u hu => by rw [one_eq]; exact h1 u hu
  have heff : ∀ v' w', (Builtin.append_ #[t, t] ty #[v, .slice (some ⟨b, off, none⟩) k c]).run P w = .ok v' w' → Eff P (ev τ) w (.call { callee := .builtin .append, args := #[x, y], argTypes := #[t, t] }) ty v' w' := by
    intro v' w' hr o hop hty
    simp only [execOp, hop, resolve]
    simp only [List.map_toArray, List.map_cons, List.map_nil, hx, hy, pure_bind, invoke, builtin]
    refine fin_eff ?_
    rw [hty]; exact hr
  have hdrew : ∀ o : Obj, Mem w [] [(w.heap.size, o)] (w.drew.alloc o) := fun o => by
    have := (Mem.init w).drew.alloc o
    exact this
  rcases hv with ⟨rfl, rfl, rfl, rfl⟩ | ⟨g, cap, rs, rfl, h2, h3, h4, h5, rfl⟩
  · have hr := run_append_nil (P := P) w t ty e i z hu hi hzz ⟨b, off, none⟩ k c news hl hnw (by omega) (by omega) (by have hb := hbytes; simp only [Nat.zero_add] at hb; omega)
    have harr : ∀ Z : Array Value, news.toArray ++ Z = (news ++ Z.toList).toArray := fun Z => by apply Array.ext'; simp
    rw [harr] at hr
    have hge := grownCap_ge w k 0 e
    have hcm := grownCap_le_maxLen w k 0 e (by rw [maxLen_val]; omega)
    refine ⟨_, [(w.heap.size, row (news ++ (Builtin.zeroCells z.cells (grownCap w k 0 e - k)).toList) e)], _, heff _ _ hr, .inr ⟨w.heap.size, grownCap w k 0 e, (Builtin.zeroCells z.cells (grownCap w k 0 e - k)).toList, by simp, by omega, hcm, by simpa using hl, ?_, by simp⟩, ?_⟩
    · simp only [List.nil_append, List.length_append, Array.length_toList, size_zeroCells, hzs, hl, ← Nat.add_mul]
      exact Nat.mul_le_mul_right _ (by omega)
    · have := hm.callNil (hdrew (row (news ++ (Builtin.zeroCells z.cells (grownCap w k 0 e - k)).toList) e))
      simpa [row] using this
  · have hg : w.heap[g]? = some (row (xs ++ rs) e) := hm.rows (g, row (xs ++ rs) e) (by simp)
    by_cases hroom : m + k ≤ cap
    · have hmk := Nat.mul_le_mul_right i.size hroom
      rw [Nat.add_mul] at hmk
      have hr := run_append_room (P := P) w t ty e i hu hi g m cap (xs ++ rs).toArray hg ⟨b, off, none⟩ k c news hl hnw h1' hroom (by rw [hl]; simp only [List.size_toArray]; omega)
      have hrow : (((xs ++ rs).toArray.toList.take (m * i.size) ++ news ++ (xs ++ rs).toArray.toList.drop (m * i.size + news.length)).toArray) = ((xs ++ news) ++ (xs ++ rs).drop (m * i.size + news.length)).toArray := by
        simp only [List.append_assoc]
        congr 2
        rw [← h4, List.take_left]
      rw [hrow] at hr
      refine ⟨_, [(g, row ((xs ++ news) ++ (xs ++ rs).drop (m * i.size + news.length)) e)], _, heff _ _ hr, .inr ⟨g, cap, _, rfl, hroom, h3, by rw [List.length_append, h4, hl, Nat.add_mul], ?_, rfl⟩, ?_⟩
      · simp only [List.length_append, List.length_drop, h4, hl] at h5 ⊢
        omega
      · refine Mem.callMid (w := w) (b := g) (o := row (xs ++ rs) e) (l3 := [(g, _)]) (by simpa using hm) ⟨rfl, rfl, rfl, by simp, fun j hj hn => setRow_other w g j _ (by intro h; exact hn (by simp [h])), ?_, by simp, by simp⟩
        intro p hp
        simp only [List.mem_singleton] at hp
        subst hp
        exact setRow_heap w g _ _ e _ hg
    · have hold : ∀ j u, xs[j]? = some u → w.cell? ((⟨g, 0, none⟩ : Addr).add j) = some u := by
        intro j u hj
        have hjl := (List.getElem?_eq_some_iff.1 hj).1
        rw [add_mk, RowF.cell (⟨e, (0, 0), hg⟩ : RowF w g (xs ++ rs).toArray)]
        simp only [Nat.zero_add, List.getElem?_toArray]
        rw [List.getElem?_append_left hjl]; exact hj
      have hr := run_append_grow (P := P) w t ty e i z hu hi hzz ⟨g, 0, none⟩ m cap xs h4 hold ⟨b, off, none⟩ k c news hl hnw (by omega) (by omega) (growslice_fits (by omega) hbytes)
      have harr : ∀ Z : Array Value, xs.toArray ++ news.toArray ++ Z = ((xs ++ news) ++ Z.toList).toArray := fun Z => by apply Array.ext'; simp
      rw [harr] at hr
      have hge := grownCap_ge w (m + k) cap e
      have hcm := grownCap_le_maxLen w (m + k) cap e (by rw [maxLen_val]; omega)
      refine ⟨_, [(w.heap.size, row ((xs ++ news) ++ (Builtin.zeroCells z.cells (grownCap w (m + k) cap e - (m + k))).toList) e)], _, heff _ _ hr, .inr ⟨w.heap.size, grownCap w (m + k) cap e, _, rfl, hge, hcm, by rw [List.length_append, h4, hl, Nat.add_mul], ?_, rfl⟩, ?_⟩
      · simp only [List.length_append, Array.length_toList, size_zeroCells, hzs, h4, hl, ← Nat.add_mul]
        exact Nat.mul_le_mul_right _ (by omega)
      · have h6 := (hm.sub (l2 := l1 ++ l2) ((List.Sublist.refl l1).append (List.sublist_append_right _ _))).callNil (hdrew (row ((xs ++ news) ++ (Builtin.zeroCells z.cells (grownCap w (m + k) cap e - (m + k))).toList) e))
        simpa [row] using h6
theorem rl_buildSlice {t e : TypeId} {sz by_ k : Nat} {zs vs cs : List Value} {parts : List (Nat × Operand)} (hd : Nat.blt d n = true) (ht : elemZ P t = some (e, sz, by_, zs)) (hz : zs.length = sz) (hps : (parts.map fun p => (p.1, ev τ p.2)) = seqP 0 vs)
    (hn : vs.length = k) (h24 : k * sz ≤ 16777216) (hv : ∀ v ∈ vs, v.cells.size = sz) (hc : (vs.flatMap fun v => v.cells.toList) = cs) (hm : Mem w0 own l w)
    (h : ∀ b w', Mem w0 own ((b, row cs e) :: l) w' → RL P E n ops rest K (upd τ d (.slice (some ⟨b, 0, none⟩) k k)) w') : RL P E n ops (⟨some d, .buildSlice t k parts.toArray, ty, pos, after, none⟩ :: rest) K τ w :=
  rl_eff hd (eff_buildSlice ht hz (by simpa using hps) hn h24 hv hc) (h _ _ (hm.alloc _))
theorem rp_buildSlice {t e : TypeId} {sz by_ k : Nat} {zs vs cs : List Value} {parts : List (Nat × Operand)} (hop : ops[j]? = some ⟨some d, .buildSlice t k parts.toArray, ty, pos, after, none⟩) (hd : Nat.blt d n = true) (ht : elemZ P t = some (e, sz, by_, zs)) (hz : zs.length = sz) (hps : (parts.map fun p => (p.1, ev τ p.2)) = seqP 0 vs)
    (hn : vs.length = k) (h24 : k * sz ≤ 16777216) (hv : ∀ v ∈ vs, v.cells.size = sz) (hc : (vs.flatMap fun v => v.cells.toList) = cs) (hm : Mem w0 own l w) (hS : ∀ b w', Mem w0 own ((b, row cs e) :: l) w' → lateB ops fl j = true ∨ S w')
    (h : ∀ b w', Mem w0 own ((b, row cs e) :: l) w' → RP P E n ops S fl plan K (upd τ d (.slice (some ⟨b, 0, none⟩) k k)) w') : RP P E n ops S fl ((j, false) :: plan) K τ w :=
  rp_eff hop hd (eff_buildSlice ht hz (by simpa using hps) hn h24 hv hc) (hS _ _ (hm.alloc _)) (h _ _ (hm.alloc _))
theorem rl_makeSlice {t e : TypeId} {by_ k : Nat} {z : Value} {k1 k2 : IntKind} (hd : Nat.blt d n = true) (ht : elemZ P t = some (e, 1, by_, [z])) (hx : ev τ x = .int k1 k) (hy : ev τ y = .int k2 k) (hn : k ≤ 1099511627776) (hb : by_ ≤ 64) (hm : Mem w0 own l w)
    (h : ∀ b w', Mem w0 own ((b, row (List.replicate k z) e) :: l) w' → RL P E n ops rest K (upd τ d (.slice (some ⟨b, 0, none⟩) k k)) w') : RL P E n ops (⟨some d, .makeSlice t x y, ty, pos, after, none⟩ :: rest) K τ w :=
  rl_eff hd (eff_makeSlice ht hx hy hn hb) (h _ _ (hm.alloc _))
end
theorem parts_nil {k : Nat} {f : Operand → Value} : (([] : List (Nat × Operand)).map fun p => (p.1, f p.2)) = seqP k [] := rfl
theorem parts_cons {k : Nat} {f : Operand → Value} {x : Operand} {v : Value} {ps : List (Nat × Operand)} {vs : List Value} (h : f x = v) (h2 : (ps.map fun p => (p.1, f p.2)) = seqP (k + 1) vs) : (((k, x) :: ps).map fun p => (p.1, f p.2)) = seqP k (v :: vs) := by
  subst h; simp only [List.map_cons, h2, seqP]
theorem args_nil {f : Operand → Value} : ([] : List Operand).map f = [] := rfl
theorem args_cons {f : Operand → Value} {x : Operand} {v : Value} {xs : List Operand} {vs : List Value} (h : f x = v) (h2 : xs.map f = vs) : (x :: xs).map f = v :: vs := by rw [List.map_cons, h, h2]
end Go.Al
namespace Go.Al
open Go
theorem ez_22 : elemZ Go.Proofs.Tryz.prog 22 = some (38, 1, 24, [.slice none 0 0]) := by kernel_rfl
theorem ez_27 : elemZ Go.Proofs.Tryz.prog 27 = some (213, 3, 56, [.slice none 0 0, .slice none 0 0, .int .i64 0]) := by kernel_rfl
theorem ez_31 : elemZ Go.Proofs.Tryz.prog 31 = some (226, 3, 56, [.slice none 0 0, .slice none 0 0, .int .i64 0]) := by kernel_rfl
theorem zo_37 : zeroOf Go.Proofs.Tryz.prog 37 = some ([.int .i64 0, .slice none 0 0, .slice none 0 0, .slice none 0 0, .slice none 0 0, .slice none 0 0, .slice none 0 0, .slice none 0 0, .slice none 0 0, .slice none 0 0]) := by kernel_rfl
theorem ez_38 : elemZ Go.Proofs.Tryz.prog 38 = some (5, 1, 1, [v8 0]) := by kernel_rfl
theorem zo_50 : zeroOf Go.Proofs.Tryz.prog 50 = some (List.replicate 32 (v8 0)) := by kernel_rfl
theorem ez_53 : elemZ Go.Proofs.Tryz.prog 53 = some (50, 32, 32, List.replicate 32 (v8 0)) := by kernel_rfl
theorem ez_125 : elemZ Go.Proofs.Tryz.prog 125 = some (131, 97, 120, [v8 0, v8 0, v8 0, v8 0, v8 0, v8 0, v8 0, v8 0, v8 0, v8 0, v8 0, v8 0, v8 0, v8 0, v8 0, v8 0, v8 0, v8 0, v8 0, v8 0, v8 0, v8 0, v8 0, v8 0, v8 0, v8 0, v8 0, v8 0, v8 0, v8 0, v8 0, v8 0, v8 0, v8 0, v8 0, v8 0, v8 0, v8 0, v8 0, v8 0, v8 0, v8 0, v8 0, v8 0, v8 0, v8 0, v8 0, v8 0, v8 0, v8 0, v8 0, v8 0, v8 0, v8 0, v8 0, v8 0, v8 0, v8 0, v8 0, v8 0, v8 0, v8 0, v8 0, v8 0, v8 0, v8 0, v8 0, v8 0, v8 0, v8 0, v8 0, v8 0, v8 0, v8 0, v8 0, v8 0, v8 0, v8 0, v8 0, v8 0, v8 0, v8 0, v8 0, v8 0, v8 0, v8 0, v8 0, v8 0, v8 0, v8 0, v8 0, v8 0, v8 0, v8 0, v8 0, v8 0, .slice none 0 0]) := by kernel_rfl
theorem zo_127 : zeroOf Go.Proofs.Tryz.prog 127 = some ([.pointer none, .slice none 0 0]) := by kernel_rfl
theorem zo_129 : zeroOf Go.Proofs.Tryz.prog 129 = some (List.replicate 96 (v8 0)) := by kernel_rfl
theorem zo_131 : zeroOf Go.Proofs.Tryz.prog 131 = some ([v8 0, v8 0, v8 0, v8 0, v8 0, v8 0, v8 0, v8 0, v8 0, v8 0, v8 0, v8 0, v8 0, v8 0, v8 0, v8 0, v8 0, v8 0, v8 0, v8 0, v8 0, v8 0, v8 0, v8 0, v8 0, v8 0, v8 0, v8 0, v8 0, v8 0, v8 0, v8 0, v8 0, v8 0, v8 0, v8 0, v8 0, v8 0, v8 0, v8 0, v8 0, v8 0, v8 0, v8 0, v8 0, v8 0, v8 0, v8 0, v8 0, v8 0, v8 0, v8 0, v8 0, v8 0, v8 0, v8 0, v8 0, v8 0, v8 0, v8 0, v8 0, v8 0, v8 0, v8 0, v8 0, v8 0, v8 0, v8 0, v8 0, v8 0, v8 0, v8 0, v8 0, v8 0, v8 0, v8 0, v8 0, v8 0, v8 0, v8 0, v8 0, v8 0, v8 0, v8 0, v8 0, v8 0, v8 0, v8 0, v8 0, v8 0, v8 0, v8 0, v8 0, v8 0, v8 0, v8 0, .slice none 0 0]) := by kernel_rfl
theorem zo_139 : zeroOf Go.Proofs.Tryz.prog 139 = some ([.nilFunc]) := by kernel_rfl
theorem zo_207 : zeroOf Go.Proofs.Tryz.prog 207 = some ([.int .i64 0, .int .u64 0, .slice none 0 0]) := by kernel_rfl
theorem zo_213 : zeroOf Go.Proofs.Tryz.prog 213 = some ([.slice none 0 0, .slice none 0 0, .int .i64 0]) := by kernel_rfl
theorem zo_221 : zeroOf Go.Proofs.Tryz.prog 221 = some ([v32 0, v32 0, v32 0, v32 0, v32 0, v32 0, v32 0, v32 0]) := by kernel_rfl
theorem zo_226 : zeroOf Go.Proofs.Tryz.prog 226 = some ([.slice none 0 0, .slice none 0 0, .int .i64 0]) := by kernel_rfl
theorem zo_305 : zeroOf Go.Proofs.Tryz.prog 305 = some ([.bool false, v32 0, v32 0, v32 0, v32 0, v32 0, v32 0, v32 0, v32 0, v8 0, v8 0, v8 0, v8 0, v8 0, v8 0, v8 0, v8 0, v8 0, v8 0, v8 0, v8 0, v8 0, v8 0, v8 0, v8 0, v8 0, v8 0, v8 0, v8 0, v8 0, v8 0, v8 0, v8 0, v8 0, v8 0, v8 0, v8 0, v8 0, v8 0, v8 0, v8 0, v8 0, v8 0, v8 0, v8 0, v8 0, v8 0, v8 0, v8 0, v8 0, v8 0, v8 0, v8 0, v8 0, v8 0, v8 0, v8 0, v8 0, v8 0, v8 0, v8 0, v8 0, v8 0, v8 0, v8 0, v8 0, v8 0, v8 0, v8 0, v8 0, v8 0, v8 0, v8 0, .int .u64 0]) := by kernel_rfl
theorem ez_312 : elemZ Go.Proofs.Tryz.prog 312 = some (219, 1, 4, [v32 0]) := by kernel_rfl
end Go.Al
namespace Go.Al
open Go Go.RowKit
set_option linter.unusedVariables false
set_option linter.unusedSimpArgs false
theorem cells_one {v : Value} (h : v.one = true) : v.cells = #[v] := by cases v <;> simp [Value.one] at h <;> rfl
abbrev Ones (vs : List Value) : Prop := ∀ v ∈ vs, v.one = true
theorem ones_nil : Ones [] := by simp [Ones]
theorem ones_cons {v : Value} {vs : List Value} (h : v.one = true) (h2 : Ones vs) : Ones (v :: vs) := by
  intro u hu; rcases List.mem_cons.1 hu with rfl | hu
  · exact h
  · exact h2 u hu
theorem ones_size {vs : List Value} (h : Ones vs) : ∀ v ∈ vs, v.cells.size = 1 := fun v hv => by rw [cells_one (h v hv)]; rfl
theorem ones_flat {vs : List Value} (h : Ones vs) : (vs.flatMap fun v => v.cells.toList) = vs := by
  induction vs with
  | nil => rfl
  | cons v vs ih => rw [List.flatMap_cons, ih (fun u hu => h u (by simp [hu])), cells_one (h v (by simp))]; rfl
theorem Mem.ne {w0 w : World} {own : List Nat} {l : List (Nat × Obj)} (h : Mem w0 own l w) {i j a b : Nat} {o o' : Obj} (hi : l[i]? = some (a, o)) (hj : l[j]? = some (b, o')) (hij : i ≠ j) : a ≠ b := by
  rintro rfl
  have h1 : (l.map (·.1))[i]? = some a := by simp [hi]
  have h2 : (l.map (·.1))[j]? = some a := by simp [hj]
  exact hij ((List.getElem?_inj (List.getElem?_eq_some_iff.1 h1).1 h.nd).1 (h1.trans h2.symm))
def outB (r : R8) (i : Nat) : UInt8 := ((r.get (i / 4)) >>> (UInt32.ofNat (8 * (3 - i % 4)))).toUInt8
def sumOf (r : R8) : List UInt8 := (List.range 32).map (outB r)
def lenB (m i : Nat) : UInt8 := UInt8.ofNat (8 * m / 2 ^ (56 - 8 * i))
def lens (m k : Nat) : List UInt8 := (List.range k).map (lenB m)
def pads (m : Nat) : List UInt8 := List.replicate ((120 - (m + 1) % 64) % 64) 0
def endL (m : Nat) : List UInt8 := ([128] ++ pads m) ++ lens m 8
def sumRun (t : St) : List UInt8 := sumOf (putL t (endL t.m)).s
def st0 : St := ⟨sha0, fun _ => 0, 0⟩
/-- The sum of bytes. -/
@[irreducible] def sha (l : List UInt8) : List UInt8 := sumRun (putL st0 l)
theorem sha_def (l : List UInt8) : sha l = sumRun (putL st0 l) := by unfold sha; rfl
@[simp] theorem sumOf_len (r : R8) : (sumOf r).length = 32 := by simp [sumOf]
@[simp] theorem sha_len (l : List UInt8) : (sha l).length = 32 := by rw [sha_def]; simp [sumRun]
theorem lens_succ (m k : Nat) : lens m (k + 1) = lens m k ++ [lenB m k] := by simp [lens, List.range_succ]
@[simp] theorem lens_len (m k : Nat) : (lens m k).length = k := by simp [lens]
@[simp] theorem pads_len (m : Nat) : (pads m).length = (120 - (m + 1) % 64) % 64 := by simp [pads]
def outRow (r : R8) (j : Nat) : List Value := (List.range 32).map fun i => v8 (if i < j then outB r i else 0)
@[simp] theorem outRow_len (r : R8) (j : Nat) : (outRow r j).length = 32 := by simp [outRow]
theorem outRow0 (r : R8) : List.replicate 32 (v8 0) = outRow r 0 := by
  unfold outRow
  apply List.ext_getElem?; intro i
  by_cases h : i < 32
  · rw [List.getElem?_replicate]; simp [h]
  · rw [List.getElem?_eq_none (by simp; omega), List.getElem?_eq_none (by simp; omega)]
theorem outRow32 (r : R8) : outRow r 32 = (sumOf r).map v8 := by
  unfold outRow sumOf
  rw [List.map_map]
  exact mr_congr fun i h => by simp [h]
theorem outRow_put (r : R8) {j : Nat} (h : j < 32) : spl (outRow r j) j [v8 (outB r j)] = outRow r (j + 1) := by
  unfold outRow
  refine spl_one_mr h ?_ ?_
  · simp
  · intro i h1 h2
    have : (i < j + 1) = (i < j) := by simp only [eq_iff_iff]; omega
    simp only [this]
theorem outRow_one (r : R8) (j : Nat) : ∀ v ∈ outRow r j, v.one = true := one_mr (fun _ => rfl) 32
theorem u8_nat (n : Nat) : IntKind.u8.wrap (n : Int) = ((UInt8.ofNat n).toNat : Int) := by
  simp [IntKind.wrap, IntKind.bits, IntKind.signed]
theorem u8_of32 (x : UInt32) : IntKind.u8.wrap (x.toNat : Int) = (x.toUInt8.toNat : Int) := by
  simp [IntKind.wrap, IntKind.bits, IntKind.signed]
theorem shr_nat (m k : Nat) (h : k ≤ 64) : ((m : Int).fdiv (2 ^ min (k : Int).toNat IntKind.u64.bits)) = ((m / 2 ^ k : Nat) : Int) := by
  rw [Int.toNat_natCast, show IntKind.u64.bits = 64 from rfl, Nat.min_eq_left h, Int.fdiv_eq_ediv_of_nonneg _ (by exact Int.le_of_lt (Int.pow_pos (by omega)))]
  norm_cast
theorem map_rep8 (n : Nat) : List.replicate n (v8 0) = (List.replicate n (0 : UInt8)).map v8 := by simp
theorem SlIs.all {w : World} {own : List Nat} {b n : Nat} {xs : List Value} (hb : b ∉ own) (hr : RowL w b xs) (hl : xs.length = n) : SlIs w own (.slice (some ⟨b, 0, none⟩) n n) 1 n xs :=
  SlIs.of hb hr (by simp [← hl]) (by omega) (Nat.le_refl _)
theorem slAllB {w : World} {own : List Nat} {b n : Nat} {l : List UInt8} (hb : b ∉ own) (hr : RowL w b (l.map v8)) (hl : l.length = n) : SlIs w own (.slice (some ⟨b, 0, none⟩) l.length n) 1 l.length (l.map v8) := by
  subst hl; exact SlIs.all hb hr (by simp)
theorem Mem.fresh {w0 w : World} {l : List (Nat × Obj)} (h : Mem w0 [] l w) {i b : Nat} {o : Obj} (hi : l[i]? = some (b, o)) : w0.heap.size ≤ b := by
  rcases h.mine _ (List.mem_of_getElem? hi) with h1 | h1
  · exact h1
  · simp at h1
theorem puts_okN (st : St) (l : List UInt8) (n : Nat) (a0 : Option Addr) (c0 b0 : Nat) (w : World) (hn : l.length = n) (hr0 : Row w b0 (runC st) 305) (hs : SlIs w [b0] (.slice a0 l.length c0) 1 l.length (l.map v8)) (hb : st.m + l.length < 2305843009213693952) :
    Calls Go.Proofs.Tryz.prog 198 [.pointer (some ⟨b0, 0, none⟩), .slice a0 n c0].toArray w (fun e w' => e = .returned (.tuple #[]) ∧ Mem w [b0] [(b0, row (runC (putL st l)) 305)] w') := by
  subst hn; exact puts_ok st l a0 c0 b0 w hr0 hs hb
end Go.Al
namespace Go.Al
open Go Go.RowKit
set_option linter.unusedVariables false
set_option linter.unusedSimpArgs false
/-- Where each field lies, and how many cells it has. -/
def structPl (P : Program) (t : TypeId) : Option (List (Nat × Nat)) :=
  match P.underlying t with
  | some (.struct fs) => fs.toList.mapM fun f => (P.info? f.type).map fun i => (f.offset, i.size)
  | _ => none
def bldF (pls : List (Nat × Nat)) : List (Nat × Value) → List Value → List Value
  | [], cs => cs
  | (i, v) :: ps, cs => bldF pls ps (spl cs ((pls.getD i (0, 0)).1) v.cells.toList)
/-- Each part has its place. -/
def BldOk (pls : List (Nat × Nat)) (n : Nat) : List (Nat × Value) → Prop
  | [] => True
  | (i, v) :: ps => (∃ off sz, pls[i]? = some (off, sz) ∧ v.cells.size = sz ∧ off + sz ≤ n) ∧ BldOk pls n ps
theorem fill_pl (pls : List (Nat × Nat)) : ∀ (ps : List (Nat × Value)) (cs : Array Value), BldOk pls cs.size ps → Instr.fill (fun x => pls[x]?) cs ps = some (bldF pls ps cs.toList).toArray := by
  intro ps
  induction ps with
  | nil => intro cs _; simp [Instr.fill, bldF]
  | cons p ps ih =>
    obtain ⟨i, v⟩ := p
    intro cs h
    obtain ⟨⟨off, sz, h1, h2, h3⟩, h4⟩ := h
    simp only [Instr.fill, h1]
    rw [if_neg (by simp [h2]; omega)]
    have hz : (v.cells.zipIdx.foldl (fun cs (x : Value × Nat) => match x with | (c, j) => cs.setIfInBounds (off + j) c) cs) = (spl cs.toList off v.cells.toList).toArray := by
      have h5 := fold_spl off v.cells.toList 0 cs (by simp only [Array.length_toList, h2]; omega)
      rw [Nat.add_zero] at h5
      rw [← h5, ← Array.foldl_toList]
      simp
    have hlen : (spl cs.toList off v.cells.toList).length = cs.size := by
      rw [spl_length (by simp only [Array.length_toList, h2]; omega)]; simp
    rw [hz]
    rw [ih _ (by simpa only [List.size_toArray, hlen] using h4)]
    simp [bldF, List.getD, h1]
theorem run_places {P : Program} {w : World} : ∀ (fs : List Field) (pls : List (Nat × Nat)), (fs.mapM fun f => (P.info? f.type).map fun i => (f.offset, i.size)) = some pls →
    (fs.mapM fun f => do pure (f.offset, ← sizeOf f.type) : Sem (List (Nat × Nat))).run P w = .ok pls w := by
  intro fs
  induction fs with
  | nil => intro pls h; simp at h; subst h; simp [pure, Sem.run]
  | cons f fs ih =>
    intro pls h
    rw [List.mapM_cons] at h
    cases hi : P.info? f.type with
    | none => rw [hi] at h; simp at h
    | some i =>
      rw [hi] at h
      simp only [Option.map_some, Option.bind_eq_bind, Option.bind_some] at h
      cases hr : (fs.mapM fun f => (P.info? f.type).map fun i => (f.offset, i.size)) with
      | none => rw [hr] at h; simp at h
      | some r =>
        rw [hr] at h
        simp only [Option.bind_some, Option.pure_def, Option.some.injEq] at h
        subst h
        rw [List.mapM_cons]
        have h1 : ((do pure (f.offset, ← sizeOf f.type) : Sem (Nat × Nat))).run P w = .ok (f.offset, i.size) w := by rw [run_bind' (run_size' hi w)]; rfl
        rw [run_bind' h1, run_bind' (ih r hr)]; rfl
section
variable {P : Program} {ρ : Operand → Value} {w : World} {ty : TypeId} {x y : Operand}
theorem val_build {t : TypeId} {parts : List (Nat × Operand)} {ps : List (Nat × Value)} {pls : List (Nat × Nat)} {zs cs : List Value} (hp : structPl P t = some pls) (hz : zeroOf P t = some zs) (hps : (parts.map fun p => (p.1, ρ p.2)) = ps)
    (hok : BldOk pls zs.length ps) (hc : bldF pls ps zs = cs) : Val P ρ w (.build t parts.toArray) ty (.agg cs.toArray) := by
  subst hc
  intro o ho hty
  simp only [execOp, ho]
  refine fin_val ?_
  unfold structPl at hp
  split at hp
  · rename_i fs hu
    unfold zeroOf at hz
    cases hi : P.info? t with
    | none => rw [hi] at hz; simp at hz
    | some inf =>
      rw [hi] at hz
      simp only [Option.bind_some] at hz
      cases hzz : inf.zero with
      | none => rw [hzz] at hz; simp at hz
      | some z =>
        rw [hzz] at hz
        simp only [Option.map_some, Option.some.injEq] at hz
        subst hz
        have hzv : (zeroValue t : Sem Value).run P w = .ok z w := by simp [zeroValue, go_sem, run_info hi, hzz]
        unfold Instr.build
        simp only [bind_assoc, pure_bind]
        rw [run_bind' hzv, run_bind' (run_under hu w)]
        simp only
        have hpl : (fs.mapM fun f => do pure (f.offset, ← sizeOf f.type) : Sem (Array (Nat × Nat))).run P w = .ok pls.toArray w := by
          have h1 := run_places (P := P) (w := w) fs.toList pls hp
          rw [Array.mapM_eq_mapM_toList, map_eq_pure_bind, run_bind' h1]; rfl
        rw [run_bind' hpl]
        have hpa : parts.toArray.map (fun (x : Nat × Operand) => match x with | (i, x) => (i, ρ x)) = ps.toArray := by
          rw [← hps]; simp
        rw [hpa]
        simp only
        simp only [List.getElem?_toArray]
        rw [fill_pl pls ps z.cells (by simpa using hok)]
        rfl
  · simp at hp
theorem plc_nil {f : Operand → Value} : (([] : List (Nat × Operand)).map fun p => (p.1, f p.2)) = [] := rfl
theorem plc_cons {i : Nat} {f : Operand → Value} {x : Operand} {v : Value} {ps : List (Nat × Operand)} {vs : List (Nat × Value)} (h : f x = v) (h2 : (ps.map fun p => (p.1, f p.2)) = vs) : (((i, x) :: ps).map fun p => (p.1, f p.2)) = (i, v) :: vs := by
  subst h; simp only [List.map_cons, h2]
theorem bok_nil {pls : List (Nat × Nat)} {n : Nat} : BldOk pls n [] := trivial
theorem bok_cons {pls : List (Nat × Nat)} {n i off sz : Nat} {v : Value} {ps : List (Nat × Value)} (h1 : pls[i]? = some (off, sz)) (h2 : v.cells.size = sz) (h3 : off + sz ≤ n) (h : BldOk pls n ps) : BldOk pls n ((i, v) :: ps) := ⟨⟨off, sz, h1, h2, h3⟩, h⟩
theorem val_fieldA {t ft : TypeId} {f off n : Nat} {l m : List Value} (hx : ρ x = .agg l.toArray) (hf : fieldTy P t f = some (ft, off)) (ha : aggB P ft = some (true, n)) (hm : (l.drop off).take n = m) (hn : off + n ≤ l.length) : Val P ρ w (.field t x f) ty (.agg m.toArray) := by
  subst hm
  intro o ho hty
  simp only [execOp, ho, hx]
  refine fin_val ?_
  unfold fieldTy at hf
  unfold Instr.field
  split at hf
  · rename_i fs hu
    rw [run_bind' (run_under hu w)]
    simp only
    cases hfd : fs[f]? with
    | none => rw [hfd] at hf; simp at hf
    | some fd =>
      rw [hfd] at hf
      simp only [Option.map_some, Option.some.injEq, Prod.mk.injEq] at hf
      obtain ⟨rfl, rfl⟩ := hf
      simp only [asAgg, pure_bind]
      unfold part
      rw [run_bind' (run_isAgg ha w)]
      simp only [if_true]
      rw [run_bind' (run_sizeOf ha w)]
      simp [pure, Sem.run]
  · simp at hf
end
end Go.Al
namespace Go.Al
open Go
theorem pl_127 : structPl Go.Proofs.Tryz.prog 127 = some [(0, 1), (1, 1)] := by kernel_rfl
theorem pl_131 : structPl Go.Proofs.Tryz.prog 131 = some [(0, 96), (96, 1)] := by kernel_rfl
theorem pl_207 : structPl Go.Proofs.Tryz.prog 207 = some [(0, 1), (1, 1), (2, 1)] := by kernel_rfl
theorem pl_213 : structPl Go.Proofs.Tryz.prog 213 = some [(0, 1), (1, 1), (2, 1)] := by kernel_rfl
theorem pl_221 : structPl Go.Proofs.Tryz.prog 221 = some [(0, 1), (1, 1), (2, 1), (3, 1), (4, 1), (5, 1), (6, 1), (7, 1)] := by kernel_rfl
theorem pl_226 : structPl Go.Proofs.Tryz.prog 226 = some [(0, 1), (1, 1), (2, 1)] := by kernel_rfl
theorem pl_305 : structPl Go.Proofs.Tryz.prog 305 = some [(0, 1), (1, 8), (9, 64), (73, 1)] := by kernel_rfl
end Go.Al
namespace Go.Al
open Go Go.RowKit
set_option linter.unusedVariables false
set_option linter.unusedSimpArgs false
section
variable {P : Program} {E : List PanicEntry → World → Prop} {n : Nat} {ds : List Deferred} {ops : Array Oper} {K : Fr → World → Prop} {τ : Fr} {w0 w : World} {own : List Nat} {l l1 l2 r : List (Nat × Obj)}
variable {rest : List Oper} {ty : TypeId} {pos : String} {after : Array Edge} {d : Nat} {v v2 : Value} {S : World → Prop} {fl : List Nat} {plan : List (Nat × Bool)} {i j : Nat} {x y : Operand}
theorem eff_appendS {t e : TypeId} {sz by_ m k : Nat} {zs xs news : List Value} {own2 : List Nat} (ht : elemZ P t = some (e, sz, by_, zs)) (hz : zs.length = sz) (hsz : 0 < sz) (hx : ev τ x = v) (hv : VecIs v m sz e xs r) (hm : Mem w0 own (l1 ++ (r ++ l2)) w)
    (hy : ev τ y = v2) (hb : SlIs w own2 v2 sz k news) (h1 : ∀ u ∈ news, u.one = true) (h63 : m + k ≤ 1099511627776) (hby : by_ ≤ 128) :
    ∃ v' r' w', Eff P (ev τ) w (.call { callee := .builtin .append, args := #[x, y], argTypes := #[t, t] }) ty v' w' ∧ VecIs v' (m + k) sz e (xs ++ news) r' ∧ Mem w0 own (l1 ++ (r' ++ l2)) w' := by
  obtain ⟨a, c, rfl, h2, h3, h4⟩ := hb
  by_cases hk : k = 0
  · subst hk
    have : news = [] := List.eq_nil_of_length_eq_zero (by simpa using h3)
    subst this
    exact ⟨v, r, w, eff_append0 ht hx hv hy, by simpa using hv, hm⟩
  · obtain ⟨b, off, ls, rfl, _, h5, h6, h7⟩ := h4 (by omega)
    exact eff_append ht hz hsz hx hv hm hy h5 h6 h3 h1 h63 hby
theorem rl_appendS {t e : TypeId} {sz by_ m k : Nat} {zs xs news : List Value} {own2 : List Nat} (hd : Nat.blt d n = true) (ht : elemZ P t = some (e, sz, by_, zs)) (hz : zs.length = sz) (hsz : 0 < sz) (hby : by_ ≤ 128) (hx : ev τ x = v) (hy : ev τ y = v2)
    (hv : VecIs v m sz e xs r) (hm : Mem w0 own (l1 ++ (r ++ l2)) w) (hb : SlIs w own2 v2 sz k news) (h1 : ∀ u ∈ news, u.one = true) (h63 : m + k ≤ 1099511627776)
    (h : ∀ v' r' w', VecIs v' (m + k) sz e (xs ++ news) r' → Mem w0 own (l1 ++ (r' ++ l2)) w' → RL P E n ops rest K (upd τ d v') w') :
    RL P E n ops (⟨some d, .call { callee := .builtin .append, args := #[x, y], argTypes := #[t, t] }, ty, pos, after, none⟩ :: rest) K τ w := by
  obtain ⟨v', r', w', h2, h3, h4⟩ := eff_appendS (P := P) (ty := ty) ht hz hsz hx hv hm hy hb h1 h63 hby
  exact rl_eff hd h2 (h _ _ _ h3 h4)
/-- append(nil, make(.., k)...). -/
theorem eff_appendN {t tx e : TypeId} {by_ k : Nat} {z : Value} {kx : IntKind} (ht : elemZ P t = some (e, 1, by_, [z])) (htx : P.underlying tx = some (.int kx)) (hx : ev τ x = .slice none 0 0) (hy : ev τ y = .int .i64 k) (hk : 0 < k) (h63 : k ≤ 1099511627776) (hby : by_ ≤ 128) :
    ∃ g cap rest, Eff P (ev τ) w (.call { callee := .builtin .append, args := #[x, y], argTypes := #[t, tx] }) ty (.slice (some ⟨g, 0, none⟩) k cap) (w.drew.alloc (row rest e)) ∧ g = w.heap.size ∧ k ≤ cap ∧ cap ≤ maxLen ∧ rest.length = cap := by
  obtain ⟨hu, i, zv, hi, hzz, hs, hbb, hzc⟩ := elemZ_spec ht
  subst hbb
  have hbytes : k * i.bytes ≤ 140737488355328 := Nat.le_trans (Nat.mul_le_mul h63 hby) (by decide)
  have hge := grownCap_ge w k 0 e
  have hcm : grownCap w k 0 e ≤ maxLen := grownCap_le_maxLen w k 0 e (by rw [maxLen_val]; omega)
  have hzs : zv.cells.size = 1 := by rw [← Array.length_toList, hzc]; rfl
  refine ⟨w.heap.size, grownCap w k 0 e, (Builtin.zeroCells zv.cells k ++ Builtin.zeroCells zv.cells (grownCap w k 0 e - k)).toList, ?_, rfl, hge, hcm, by simp [size_zeroCells, hzs]; omega⟩
  intro o hop hty
  simp only [execOp, hop, resolve]
  simp only [List.map_toArray, List.map_cons, List.map_nil, hx, hy, pure_bind, invoke, builtin]
  refine fin_eff ?_
  have hw : IntKind.i64.wrap (k : Int) = k := wrapI (by omega) (by omega)
  have hk0 : k ≠ 0 := by omega
  have h63' : ¬ (9223372036854775807 < (k : Int)) := by omega
  have hnn : ¬ ((k : Int) < 0) := by omega
  have h48 : ¬ (281474976710656 < (k : Int) * (i.bytes : Int)) := by rw [← Int.natCast_mul]; omega
  have h48' : ¬ (281474976710656 < Builtin.nextslicecap k 0 * i.bytes) := by rw [nextslicecap_zero hk]; omega
  simp [Builtin.append_, run_underlying hu, run_underlying htx, sizeOf, typeInfo, zeroValue, hi, hzz, hs, asInt, asIntOf, hw, hnn, h48, hk0, h63', h48', Question.forced, run_firstCells_none, newRow, grownCap, row]
  congr 2
  apply Array.ext'
  simp
theorem rl_appendN {t tx e : TypeId} {by_ k : Nat} {z : Value} {kx : IntKind} (hd : Nat.blt d n = true) (ht : elemZ P t = some (e, 1, by_, [z])) (htx : P.underlying tx = some (.int kx)) (hx : ev τ x = .slice none 0 0) (hy : ev τ y = .int .i64 k) (hk : 0 < k) (h63 : k ≤ 1099511627776) (hby : by_ ≤ 128)
    (hm : Mem w0 own l w) (h : ∀ g cap rs w', k ≤ cap → cap ≤ maxLen → rs.length = cap → Mem w0 own ((g, row rs e) :: l) w' → RL P E n ops rest K (upd τ d (.slice (some ⟨g, 0, none⟩) k cap)) w') :
    RL P E n ops (⟨some d, .call { callee := .builtin .append, args := #[x, y], argTypes := #[t, tx] }, ty, pos, after, none⟩ :: rest) K τ w := by
  obtain ⟨g, cap, rs, he, rfl, h1, h2, h3⟩ := eff_appendN (P := P) (w := w) (ty := ty) ht htx hx hy hk h63 hby
  exact rl_eff hd he (h _ _ _ _ h1 h2 h3 (hm.drew.alloc _))
theorem val_sliceNil {t e : TypeId} {hi : Option Operand} (hx : ev τ x = .slice none 0 0) (ht : P.underlying t = some (.slice e)) (hsz : ∃ sz, elemSl P t = some sz) (hh : match hi with | some y => ∃ k, ev τ y = .int k 0 | none => True) :
    Val P (ev τ) w (.slice t x none hi none) ty (.slice none 0 0) := by
  intro o ho hty
  obtain ⟨sz, hsz⟩ := hsz
  simp only [execOp, ho, hx]
  refine fin_val ?_
  unfold elemSl at hsz
  rw [ht] at hsz
  simp only at hsz
  cases hi' : P.info? e with
  | none => rw [hi'] at hsz; simp at hsz
  | some inf =>
    unfold Instr.sliceAt
    rw [run_bind' (run_under ht w)]
    simp only
    unfold Instr.slice
    rw [run_bind' (run_under ht w)]
    simp only
    have hb : (Instr.sliceBounds true 0 0 none (hi.map (ev τ)) none).run P w = .ok (0, 0, 0) w := by
      unfold Instr.sliceBounds
      cases hi with
      | none => rfl
      | some z =>
        obtain ⟨k, hy⟩ := hh
        simp only [Option.map_none, Option.map_some, pure_bind]
        rw [run_bind' (run_bound hy ⟨by omega, by omega⟩)]; rfl
    simp only [Option.map_none] at hb ⊢
    rw [run_bind' hb, run_bind' (run_size' hi' w)]
    simp [pure, Sem.run]
theorem run_eqNil {t e : TypeId} {a : Option Addr} {k c : Nat} (ht : P.underlying t = some (.slice e)) (w : World) : (Op.equal t (.slice a k c) (.slice none 0 0)).run P w = .ok a.isNone w := by
  unfold Op.equal
  rw [show Op.maxDepth = (Op.maxDepth - 1) + 1 from rfl, Op.equalIn, run_bind' (run_under ht w)]
  cases a <;> rfl
theorem run_eqNilPtr {t e : TypeId} {a : Option Addr} (ht : P.underlying t = some (.pointer e)) (w : World) : (Op.equal t (.pointer a) (.pointer none)).run P w = .ok a.isNone w := by
  unfold Op.equal
  rw [show Op.maxDepth = (Op.maxDepth - 1) + 1 from rfl, Op.equalIn, run_bind' (run_under ht w)]
  cases a <;> rfl
theorem val_eqNil {t t' e : TypeId} {a : Option Addr} {k c : Nat} (hx : ev τ x = .slice a k c) (hy : ev τ y = .slice none 0 0) (ht : P.underlying t = some (.slice e)) : Val P (ev τ) w (.binOp .eql t x y t') ty (.bool a.isNone) := by
  intro o ho hty
  simp [execOp, ho, hx, hy, eqGuard, binOp, go_sem, run_eqNil ht]
theorem val_eqNilPtr {t t' e : TypeId} {a : Option Addr} (hx : ev τ x = .pointer a) (hy : ev τ y = .pointer none) (ht : P.underlying t = some (.pointer e)) : Val P (ev τ) w (.binOp .eql t x y t') ty (.bool a.isNone) := by
  intro o ho hty
  simp [execOp, ho, hx, hy, eqGuard, binOp, go_sem, run_eqNilPtr ht]
end
end Go.Al
namespace Go.Al
open Go Go.RowKit Go.Proofs
set_option linter.unusedVariables false
set_option linter.unusedSimpArgs false
/-- A call that returns a slice in new memory. -/
def RetV (w : World) (n sz : Nat) (e : TypeId) (cs : List Value) : Ending → World → Prop := fun en w' => ∃ v r, en = .returned v ∧ VecIs v n sz e cs r ∧ Mem w [] r w'
theorem SlIs.nilVec {w : World} {own : List Nat} {a : Option Addr} {n c sz : Nat} {e : TypeId} {cs : List Value} (h : SlIs w own (.slice a n c) sz n cs) (ha : Option.isNone a = true) : VecIs (.slice none 0 0) n sz e cs [] := by
  obtain ⟨a', c', he, _, hl, h⟩ := h
  cases he
  have hn : n = 0 := by
    rcases Nat.eq_zero_or_pos n with h0 | h0
    · exact h0
    · obtain ⟨b, off, xs, h1, _⟩ := h h0; rw [h1] at ha; simp at ha
  subst hn
  exact .inl ⟨rfl, rfl, List.eq_nil_of_length_eq_zero (by simpa using hl), rfl⟩
theorem clone8_ok (a : Option Addr) (n c : Nat) (cs : List Value) (w : World) (hs : SlIs w [] (.slice a n c) 1 n cs) (h1 : Ones cs) (hb : n ≤ 1099511627776) : Calls Tryz.prog 84 [.slice a n c].toArray w (RetV w n 1 5 cs) := by
  have hm := Mem.init w
  have hnil : Option.isNone a = true → VecIs (.slice none 0 0) n 1 5 cs [] := hs.nilVec
  refine calls_enter (n := 8) Tryz.func84 rfl rfl rfl ?_
  refine wp_sr (E := noPanic) noPanic_imp ?_
  refine rl_val rfl (v := (.slice none 0 0)) (val_assign (v := (.slice none 0 0)) rfl) ?_
  refine rl_nil ?_
  refine WP.seq ?_
  refine wp_sr (E := noPanic) noPanic_imp ?_
  refine rl_val rfl (v := (.slice a n c)) (val_move (v := (.slice a n c)) rfl) ?_
  refine rl_val rfl (v := (.bool (Option.isNone a))) (val_eqNil rfl rfl us_38) ?_
  refine rl_nil ?_
  refine WP.cond (b := Option.isNone a) rfl (fun hb => ?_) (fun hb => ?_)
  ·
    have hq1 := hb
    have hq2 := hq1
    refine wp_sr (E := noPanic) noPanic_imp ?_
    refine rl_val rfl (v := (.slice none 0 0)) (val_assign (v := (.slice none 0 0)) rfl) ?_
    refine rl_nil ?_
    exact WP.ret (post_rets rfl (vs := [.slice none 0 0]) ⟨rfl, trivial⟩ rfl ⟨_, [], rfl, hnil hq2, hm⟩)
  ·
    have hq2 := hb
    have hq2 := hq2
    refine WP.skip ?_
    refine wp_sr (E := noPanic) noPanic_imp ?_
    refine rl_buildSlice (vs := []) (cs := []) rfl ez_38 rfl (parts_nil) rfl (by decide) (by simp) rfl hm ?_
    intro b3 w4 hm
    refine rl_val rfl (v := (.slice a n c)) (val_move (v := (.slice a n c)) rfl) ?_
    refine rl_appendS (l1 := []) (l2 := ([] ++ [])) (r := [(b3, row ([]) 5)]) (v := (.slice (some ⟨b3, 0, none⟩) 0 0)) (xs := []) (news := cs) rfl ez_38 rfl (by decide) (by decide) rfl rfl (VecIs.mk0 (by simp [maxLen_val]) (by simp)) (by simpa only [List.append_assoc, List.nil_append, List.append_nil, List.cons_append] using hm) (hs.mem (own2 := []) hm (by simp)) h1 (by omega) ?_
    intro v5 r6 w8 hv7 hm
    rw [Nat.zero_add, List.nil_append] at hv7
    replace hm : Mem w [] ([] ++ (r6 ++ [])) w8 := by simpa only [List.append_assoc, List.nil_append, List.append_nil, List.cons_append] using hm
    refine rl_val rfl (v := v5) (val_assign (v := v5) rfl) ?_
    refine rl_nil ?_
    exact WP.ret (post_rets rfl (vs := [v5]) ⟨rfl, trivial⟩ rfl ⟨_, _, rfl, hv7, by simpa using hm⟩)
theorem cloneS_ok (a : Option Addr) (n c : Nat) (cs : List Value) (w : World) (hs : SlIs w [] (.slice a n c) 32 n cs) (h1 : Ones cs) (hb : n ≤ 1099511627776) : Calls Tryz.prog 204 [.slice a n c].toArray w (RetV w n 32 50 cs) := by
  have hm := Mem.init w
  have hnil : Option.isNone a = true → VecIs (.slice none 0 0) n 32 50 cs [] := hs.nilVec
  refine calls_enter (n := 8) Tryz.func204 rfl rfl rfl ?_
  refine wp_sr (E := noPanic) noPanic_imp ?_
  refine rl_val rfl (v := (.slice none 0 0)) (val_assign (v := (.slice none 0 0)) rfl) ?_
  refine rl_nil ?_
  refine WP.seq ?_
  refine wp_sr (E := noPanic) noPanic_imp ?_
  refine rl_val rfl (v := (.slice a n c)) (val_move (v := (.slice a n c)) rfl) ?_
  refine rl_val rfl (v := (.bool (Option.isNone a))) (val_eqNil rfl rfl us_53) ?_
  refine rl_nil ?_
  refine WP.cond (b := Option.isNone a) rfl (fun hb => ?_) (fun hb => ?_)
  ·
    have hq1 := hb
    have hq2 := hq1
    refine wp_sr (E := noPanic) noPanic_imp ?_
    refine rl_val rfl (v := (.slice none 0 0)) (val_assign (v := (.slice none 0 0)) rfl) ?_
    refine rl_nil ?_
    exact WP.ret (post_rets rfl (vs := [.slice none 0 0]) ⟨rfl, trivial⟩ rfl ⟨_, [], rfl, hnil hq2, hm⟩)
  ·
    have hq2 := hb
    have hq2 := hq2
    refine WP.skip ?_
    refine wp_sr (E := noPanic) noPanic_imp ?_
    refine rl_buildSlice (vs := []) (cs := []) rfl ez_53 rfl (parts_nil) rfl (by decide) (by simp) rfl hm ?_
    intro b3 w4 hm
    refine rl_val rfl (v := (.slice a n c)) (val_move (v := (.slice a n c)) rfl) ?_
    refine rl_appendS (l1 := []) (l2 := ([] ++ [])) (r := [(b3, row ([]) 50)]) (v := (.slice (some ⟨b3, 0, none⟩) 0 0)) (xs := []) (news := cs) rfl ez_53 rfl (by decide) (by decide) rfl rfl (VecIs.mk0 (by simp [maxLen_val]) (by simp)) (by simpa only [List.append_assoc, List.nil_append, List.append_nil, List.cons_append] using hm) (hs.mem (own2 := []) hm (by simp)) h1 (by omega) ?_
    intro v5 r6 w8 hv7 hm
    rw [Nat.zero_add, List.nil_append] at hv7
    replace hm : Mem w [] ([] ++ (r6 ++ [])) w8 := by simpa only [List.append_assoc, List.nil_append, List.append_nil, List.cons_append] using hm
    refine rl_val rfl (v := v5) (val_assign (v := v5) rfl) ?_
    refine rl_nil ?_
    exact WP.ret (post_rets rfl (vs := [v5]) ⟨rfl, trivial⟩ rfl ⟨_, _, rfl, hv7, by simpa using hm⟩)
end Go.Al
namespace Go.Al
open Go Go.RowKit Go.Proofs
set_option linter.unusedVariables false
set_option linter.unusedSimpArgs false
theorem grow_ok (n : Nat) (w : World) (hn : n ≤ 1099511627776) : Calls Tryz.prog 200 [.slice none 0 0, vI (n : Int)].toArray w (RetV w 0 1 5 []) := by
  have hm := Mem.init w
  refine calls_enter (n := 27) Tryz.func200 rfl rfl rfl ?_
  refine wp_sr (E := noPanic) noPanic_imp ?_
  refine rl_val rfl (v := (.slice none 0 0)) (val_assign (v := (.slice none 0 0)) rfl) ?_
  refine rl_nil ?_
  refine WP.seq ?_
  refine wp_sr (E := noPanic) noPanic_imp ?_
  refine rl_val rfl (v := (vI (n : Int))) (val_move (v := (vI (n : Int))) rfl) ?_
  refine rl_val rfl (v := (.bool (decide (((n : Int) : Int) < 0)))) (val_lt (p := (n : Int)) (q := 0) rfl rfl) ?_
  refine rl_nil ?_
  refine WP.cond (b := decide (((n : Int) : Int) < 0)) rfl (fun hb => ?_) (fun hb => ?_)
  ·
    have hq1 := of_decide_eq_true hb
    omega
  ·
    have hq2 := of_decide_eq_false hb
    refine WP.skip ?_
    refine WP.seq ?_
    refine wp_sr (E := noPanic) noPanic_imp ?_
    refine rl_val rfl (v := (vI (n : Int))) (val_move (v := (vI (n : Int))) rfl) ?_
    refine rl_val rfl (v := (.slice none 0 0)) (val_move (v := (.slice none 0 0)) rfl) ?_
    refine rl_val rfl (v := (vI 0)) (val_capSl (t := 38) rfl us_38 rfl) ?_
    refine rl_val rfl (v := (.slice none 0 0)) (val_move (v := (.slice none 0 0)) rfl) ?_
    refine rl_val rfl (v := (vI 0)) (val_lenSl (t := 38) rfl us_38 rfl) ?_
    refine rl_val rfl (v := (vI 0)) (val_subI (p := 0) (q := 0) rfl rfl (by omega)) ?_
    refine rl_val rfl (v := (vI (n : Int))) (val_cast (val_subI (p := (n : Int)) (q := 0) rfl rfl (by omega)) (int_eq (by omega))) ?_
    refine rl_val rfl (v := (vI (n : Int))) (val_assign (v := (vI (n : Int))) rfl) ?_
    refine rl_nil ?_
    refine wp_sr (E := noPanic) noPanic_imp ?_
    refine rl_val rfl (v := (vI (n : Int))) (val_move (v := (vI (n : Int))) rfl) ?_
    refine rl_val rfl (v := (.bool (decide ((0 : Int) < (n : Int))))) (val_gt (p := (n : Int)) (q := 0) rfl rfl) ?_
    refine rl_nil ?_
    refine WP.cond (b := decide ((0 : Int) < (n : Int))) rfl (fun hb => ?_) (fun hb => ?_)
    ·
      have hq3 := of_decide_eq_true hb
      refine wp_r (E := noPanic) noPanic_imp ?_
      refine rl_val rfl (v := (.slice none 0 0)) (val_move (v := (.slice none 0 0)) rfl) ?_
      refine rl_val rfl (v := (.slice none 0 0)) (val_move (v := (.slice none 0 0)) rfl) ?_
      refine rl_val rfl (v := (vI 0)) (val_capSl (t := 38) rfl us_38 rfl) ?_
      refine rl_val rfl (v := (.slice none 0 0)) (val_sliceNil rfl us_38 ⟨_, es_38⟩ ⟨_, rfl⟩) ?_
      refine rl_val rfl (v := (vI (n : Int))) (val_move (v := (vI (n : Int))) rfl) ?_
      refine rl_appendN (k := n) rfl ez_38 ut_3 rfl rfl (by omega) (by omega) (by decide) hm ?_
      intro g cap rest w1 hk1 hk2 hk3 hm
      refine rl_val rfl (v := (.slice none 0 0)) (val_move (v := (.slice none 0 0)) rfl) ?_
      refine rl_val rfl (v := (vI 0)) (val_lenSl (t := 38) rfl us_38 rfl) ?_
      refine rl_val rfl (v := (.slice (some ⟨g, 0, none⟩) 0 cap)) (val_cast (val_slice (b := g) (off := 0) (n := n) (cap := cap) (l := 0) (h := 0) (m := cap) rfl us_38 es_38 rfl ⟨_, _, rfl, by omega, by omega⟩ rfl (by omega) (by omega) (by omega)) (by simp [slo])) ?_
      refine rl_val rfl (v := (.slice (some ⟨g, 0, none⟩) 0 cap)) (val_assign (v := (.slice (some ⟨g, 0, none⟩) 0 cap)) rfl) ?_
      refine rl_nil ?_
      refine wp_sr (E := noPanic) noPanic_imp ?_
      refine rl_val rfl (v := (.slice (some ⟨g, 0, none⟩) 0 cap)) (val_move (v := (.slice (some ⟨g, 0, none⟩) 0 cap)) rfl) ?_
      refine rl_val rfl (v := (.slice (some ⟨g, 0, none⟩) 0 cap)) (val_assign (v := (.slice (some ⟨g, 0, none⟩) 0 cap)) rfl) ?_
      refine rl_nil ?_
      exact WP.ret (post_rets rfl (vs := [(.slice (some ⟨g, 0, none⟩) 0 cap)]) ⟨rfl, trivial⟩ rfl ⟨_, _, rfl, VecIs.mk (xs := []) (rest := rest) (Nat.zero_le _) hk2 rfl (by simp [hk3]), hm⟩)
    ·
      have hq4 := of_decide_eq_false hb
      refine WP.skip ?_
      refine wp_sr (E := noPanic) noPanic_imp ?_
      refine rl_val rfl (v := (.slice none 0 0)) (val_move (v := (.slice none 0 0)) rfl) ?_
      refine rl_val rfl (v := (.slice none 0 0)) (val_assign (v := (.slice none 0 0)) rfl) ?_
      refine rl_nil ?_
      exact WP.ret (post_rets rfl (vs := [.slice none 0 0]) ⟨rfl, trivial⟩ rfl ⟨_, [], rfl, VecIs.nil, hm⟩)
end Go.Al
