/- Lemmas and contracts for the claim, part 3: what each function of the road does, proved once. No condition beyond the hypotheses that stand. -/
import Derived.Test.YtmdohnabdlolkaaGreatDoorProg
import Derived.Test.YtmdohnabdlolkaaGreatDoorAl2
namespace Go.Al
open Go Go.RowKit Go.Proofs
set_option linter.unusedVariables false
set_option linter.unusedSimpArgs false
/-- What a beginning lacks, from the root down. -/
def linkF : Nat → Sums → Nat → Bool → Sums
  | 0, _, _, _ => []
  | f + 1, l, i, ed => if l.length ≤ i then (if ed then [] else [rootP l]) else if i ≤ cut l.length then rootP (l.drop (cut l.length)) :: linkF f (l.take (cut l.length)) i ed else rootP (l.take (cut l.length)) :: linkF f (l.drop (cut l.length)) (i - cut l.length) false
theorem linkF_more : ∀ (f g : Nat) (l : Sums) (i : Nat) (ed : Bool), 1 ≤ i → 1 ≤ l.length → l.length ≤ f → l.length ≤ g → linkF f l i ed = linkF g l i ed := by
  intro f
  induction f with
  | zero => intro g l i ed h0 h3 h1 h2; omega
  | succ f ih =>
    intro g l i ed h0 h3 h1 h2
    cases g with
    | zero => omega
    | succ g =>
      unfold linkF
      by_cases hl : l.length ≤ i
      · rw [if_pos hl, if_pos hl]
      · have hc := cut_lt (n := l.length) (by omega)
        rw [if_neg hl, if_neg hl]
        by_cases hi : i ≤ cut l.length
        · rw [if_pos hi, if_pos hi, ih g _ _ _ h0 (by simp; omega) (by simp; omega) (by simp; omega)]
        · rw [if_neg hi, if_neg hi, ih g _ _ _ (by omega) (by simp; omega) (by simp; omega) (by simp; omega)]
def linkT (l : Sums) (i : Nat) (ed : Bool) : Sums := linkF (l.length + 1) l i ed
theorem linkT_done {l : Sums} {n i : Nat} {ed : Bool} (hn : l.length = n) (h : n ≤ i) : linkT l i ed = if ed then [] else [rootP l] := by
  unfold linkT linkF; rw [if_pos (by omega)]
theorem linkT_t {l : Sums} {n i : Nat} {ed : Bool} (hn : l.length = n) (hlt : i < n) (h : 2 ≤ n) (hi : i ≤ cut n) (h1 : 1 ≤ i := by omega) : linkT l i ed = rootP (l.drop (cut n)) :: linkT (l.take (cut n)) i ed := by
  subst hn
  have hc := cut_lt h
  conv => lhs; unfold linkT linkF
  unfold linkT
  rw [if_neg (by omega), if_pos hi, linkF_more _ ((l.take (cut l.length)).length + 1) _ _ _ h1 (by simp; omega) (by simp; omega) (by omega)]
theorem linkT_d {l : Sums} {n i : Nat} {ed : Bool} (hn : l.length = n) (hlt : i < n) (h : 2 ≤ n) (hi : cut n < i) : linkT l i ed = rootP (l.take (cut n)) :: linkT (l.drop (cut n)) (i - cut n) false := by
  subst hn
  have hc := cut_lt h
  conv => lhs; unfold linkT linkF
  unfold linkT
  rw [if_neg (by omega), if_neg (by omega), linkF_more _ ((l.drop (cut l.length)).length + 1) _ _ _ (by omega) (by simp <;> omega) (by simp <;> omega) (by omega)]
theorem linkof_ok (ss0 : Sums) (a0 : Option Addr) (c0 n0 at0 : Nat) (w : World) (hn0 : ss0.length = n0) (h320 : All32 ss0) (hs : SlIs w [] (.slice a0 n0 c0) 32 n0 (sumsC ss0)) (hb256 : n0 ≤ 256) (hatb : at0 ≤ 1000000) :
    Calls Tryz.prog 209 [.slice a0 n0 c0, vI (at0 : Int)].toArray w (fun e w' => (1 ≤ at0 → at0 ≤ n0 → ∃ v r, e = .returned (.tuple #[v, vI 0]) ∧ VecIs v (linkT ss0 at0 true).length 32 50 (sumsC (linkT ss0 at0 true).reverse) r ∧ Mem w [] r w') ∧ (at0 = 0 ∨ n0 < at0 → e = .returned (.tuple #[.slice none 0 0, vI 1]) ∧ Mem w [] [] w')) := by
  by_cases hz0 : at0 = 0
  · have hm := Mem.init w
    refine calls_enter (n := 62) Tryz.func209 rfl rfl rfl ?_
    refine wp_sr (E := noPanic) noPanic_imp ?_
    refine rl_val rfl (v := (.slice none 0 0)) (val_assign (v := (.slice none 0 0)) rfl) ?_
    refine rl_val rfl (v := (vI 0)) (val_assign (v := (vI 0)) rfl) ?_
    refine rl_nil ?_
    refine WP.seq ?_
    refine wp_sr (E := noPanic) noPanic_imp ?_
    refine rl_val rfl (v := (vI (at0 : Int))) (val_move (v := (vI (at0 : Int))) rfl) ?_
    refine rl_val rfl (v := (.bool true)) (val_cast (val_lt (p := (at0 : Int)) (q := 1) rfl rfl) (by rw [decide_eq_true (by omega)])) ?_
    refine rl_val rfl (v := (.bool true)) (val_move (v := (.bool true)) rfl) ?_
    refine rl_off ⟨10, true, rfl, .inl ⟨rfl, rfl⟩⟩ rfl ?_
    refine rl_off ⟨10, true, rfl, .inl ⟨rfl, rfl⟩⟩ rfl ?_
    refine rl_off ⟨10, true, rfl, .inl ⟨rfl, rfl⟩⟩ rfl ?_
    refine rl_off ⟨10, true, rfl, .inl ⟨rfl, rfl⟩⟩ rfl ?_
    refine rl_val rfl (v := (.bool true)) (val_pick_t (v := .bool true) rfl rfl) ?_
    refine rl_nil ?_
    refine WP.cond_t rfl ?_
    refine wp_sr (E := noPanic) noPanic_imp ?_
    refine rl_val rfl (v := (.slice none 0 0)) (val_assign (v := (.slice none 0 0)) rfl) ?_
    refine rl_val rfl (v := (vI 1)) (val_assign (v := (vI 1)) rfl) ?_
    refine rl_nil ?_
    refine WP.ret ?_
    repeat (first | with_reducible refine ret_pass ?_ | with_reducible refine ret_blk ?_ | with_reducible refine scope_ret ?_)
    exact post_rets rfl (vs := [.slice none 0 0, vI 1]) ⟨rfl, rfl, trivial⟩ rfl ⟨fun h h2 => by omega, fun _ => ⟨rfl, hm⟩⟩
  · have hm := Mem.init w
    refine calls_enter (n := 62) Tryz.func209 rfl rfl rfl ?_
    refine wp_sr (E := noPanic) noPanic_imp ?_
    refine rl_val rfl (v := (.slice none 0 0)) (val_assign (v := (.slice none 0 0)) rfl) ?_
    refine rl_val rfl (v := (vI 0)) (val_assign (v := (vI 0)) rfl) ?_
    refine rl_nil ?_
    refine WP.seq ?_
    refine wp_sr (E := noPanic) noPanic_imp ?_
    refine rl_val rfl (v := (vI (at0 : Int))) (val_move (v := (vI (at0 : Int))) rfl) ?_
    refine rl_val rfl (v := (.bool false)) (val_cast (val_lt (p := (at0 : Int)) (q := 1) rfl rfl) (by rw [decide_eq_false (by omega)])) ?_
    refine rl_val rfl (v := (.bool false)) (val_move (v := (.bool false)) rfl) ?_
    refine rl_valg ⟨10, false, rfl, .inl ⟨rfl, rfl⟩⟩ rfl (v := (vI (at0 : Int))) (val_move (v := (vI (at0 : Int))) rfl) ?_
    refine rl_valg ⟨10, false, rfl, .inl ⟨rfl, rfl⟩⟩ rfl (v := (.slice a0 n0 c0)) (val_move (v := (.slice a0 n0 c0)) rfl) ?_
    refine rl_valg ⟨10, false, rfl, .inl ⟨rfl, rfl⟩⟩ rfl (v := (vI (n0 : Nat))) (val_lenSl (t := 53) rfl us_53 rfl) ?_
    refine rl_valg ⟨10, false, rfl, .inl ⟨rfl, rfl⟩⟩ rfl (v := (.bool (decide (((n0 : Nat) : Int) < (at0 : Int))))) (val_gt (p := (at0 : Int)) (q := (n0 : Nat)) rfl rfl) ?_
    refine rl_val rfl (v := (.bool (decide ((n0 : Int) < (at0 : Int))))) (val_pick_f rfl rfl) ?_
    refine rl_nil ?_
    refine WP.cond (b := decide ((n0 : Int) < (at0 : Int))) rfl (fun hb => ?_) (fun hb => ?_)
    ·
      have hq1 := of_decide_eq_true hb
      have hat : n0 < at0 := by omega
      refine wp_sr (E := noPanic) noPanic_imp ?_
      refine rl_val rfl (v := (.slice none 0 0)) (val_assign (v := (.slice none 0 0)) rfl) ?_
      refine rl_val rfl (v := (vI 1)) (val_assign (v := (vI 1)) rfl) ?_
      refine rl_nil ?_
      refine WP.ret ?_
      repeat (first | with_reducible refine ret_pass ?_ | with_reducible refine ret_blk ?_ | with_reducible refine scope_ret ?_)
      exact post_rets rfl (vs := [.slice none 0 0, vI 1]) ⟨rfl, rfl, trivial⟩ rfl ⟨fun h h2 => by omega, fun _ => ⟨rfl, hm⟩⟩
    ·
      have hq2 := of_decide_eq_false hb
      have hat : at0 ≤ n0 := by omega
      refine WP.skip ?_
      refine wp_sr (E := noPanic) noPanic_imp ?_
      refine rl_val rfl (v := (.bool true)) (val_assign (v := (.bool true)) rfl) ?_
      refine rl_nil ?_
      refine WP.seq (WP.block ?_)
      refine WP.loop (fun mz τ w' => ∃ (ss : Sums) (a : Option Addr) (n : Nat) (c : Nat) (at1 : Nat) (ed : Bool) (ac : Sums) (vp : Value) (rp : List (Nat × Obj)), n = mz ∧ ac ++ linkT ss at1 ed = linkT ss0 at0 true ∧ ss.length = n ∧ at1 ≤ n ∧ 1 ≤ at1 ∧ n ≤ 256 ∧ All32 ss ∧ SlIs w [] (.slice a n c) 32 n (sumsC ss) ∧ All32 ac ∧ ac.length + n ≤ 256 ∧ VecIs vp ac.length 32 50 (sumsC ac) rp ∧ Mem w [] ([] ++ (rp ++ [])) w' ∧ τ 0 = (.slice a n c) ∧ τ 1 = (vI (at1 : Int)) ∧ τ 4 = vp ∧ τ 5 = (vI 0) ∧ τ 6 = (.bool ed)) (n0) ?_ ?_
      · exact ⟨ss0, a0, n0, c0, at0, true, [], (.slice none 0 0), [], rfl, rfl, hn0, hat, by omega, hb256, h320, hs, by intro x hx; simp at hx, by simpa using hb256, VecIs.nil, (by simpa using hm), rfl, (by first | rfl | (refine int_eq ?_; simp; try omega) | (refine int_eq ?_; omega)), rfl, rfl, rfl⟩
      · rintro kk4 τ wl3 ⟨ss, a, n, c, at1, ed, ac, vp, rp, hk5, hpath, hss, han, ha1, hn256, h32, hsl, hac, hacn, hvp, hm, hs6, hs7, hs8, hs9, hs10⟩
        refine WP.seq ?_
        refine wp_sr (E := noPanic) noPanic_imp ?_
        refine rl_val rfl (v := (vI (at1 : Int))) (val_move (v := (vI (at1 : Int))) hs7) ?_
        refine rl_val rfl (v := (.slice a n c)) (val_move (v := (.slice a n c)) hs6) ?_
        refine rl_val rfl (v := (vI (n : Nat))) (val_lenSl (t := 53) rfl us_53 rfl) ?_
        refine rl_val rfl (v := (.bool (decide (((at1 : Int) : Int) < (n : Nat))))) (val_lt (p := (at1 : Int)) (q := (n : Nat)) rfl rfl) ?_
        refine rl_nil ?_
        refine WP.cond (b := decide (((at1 : Int) : Int) < (n : Nat))) rfl (fun hb => ?_) (fun hb => ?_)
        ·
          have hq11 := of_decide_eq_true hb
          have hlt : at1 < n := by omega
          have hn2 : 2 ≤ n := by omega
          have hcut := cut_lt hn2
          obtain ⟨b, off, xs, rfl, hbn, hr, hcs, hle, hnc⟩ := hsl.pos (by omega)
          refine WP.skip ?_
          refine WP.block ?_
          refine wp_sr (E := noPanic) noPanic_imp ?_
          refine rl_val rfl (v := (.slice (some ⟨b, off, none⟩) n c)) (val_move (v := (.slice (some ⟨b, off, none⟩) n c)) hs6) ?_
          refine rl_val rfl (v := (vI (n : Nat))) (val_lenSl (t := 53) rfl us_53 rfl) ?_
          refine rl_val rfl (v := (vU (n : Nat))) (val_cast (val_conv ut_3 ui_44 rfl) (by rw [wrapU (by omega) (by omega)])) ?_
          refine rl_call rfl (ent_static (args := [(vU (n : Nat))]) Tryz.func246 rfl rfl rfl rfl) (cutl_ok n _ hn2 hn256) ?_
          rintro _ w12 ⟨rfl, h13⟩
          refine callQ_ret ?_
          replace hm : Mem w [] ([] ++ (rp ++ [])) w12 := hm.call h13
          refine rl_val rfl (v := (vI (cut n : Int))) (val_cast (val_conv ut_44 ui_3 rfl) (by rw [wrapI (by omega) (by omega)])) ?_
          refine rl_val rfl (v := (vI (cut n : Int))) (val_assign (v := (vI (cut n : Int))) rfl) ?_
          refine rl_nil ?_
          refine WP.seq ?_
          refine wp_sr (E := noPanic) noPanic_imp ?_
          refine rl_val rfl (v := (vI (at1 : Int))) (val_move (v := (vI (at1 : Int))) hs7) ?_
          refine rl_val rfl (v := (vI (cut n : Int))) (val_move (v := (vI (cut n : Int))) rfl) ?_
          refine rl_val rfl (v := (.bool (decide (((at1 : Int) : Int) ≤ (cut n : Int))))) (val_le (p := (at1 : Int)) (q := (cut n : Int)) rfl rfl) ?_
          refine rl_nil ?_
          refine WP.cond (b := decide (((at1 : Int) : Int) ≤ (cut n : Int))) rfl (fun hb => ?_) (fun hb => ?_)
          ·
            have hq14 := of_decide_eq_true hb
            have hside : at1 ≤ cut n := by omega
            have hr32 : (rootP (ss.drop (cut n))).length = 32 := rootP_len _ (by simp; omega) (fun x hx => h32 x (List.mem_of_mem_drop hx))
            refine wp_sdf (E := noPanic) [(0, true), (1, true), (2, true), (3, true), (7, true), (8, true), (9, true), (4, false), (5, false), (6, false), (10, false), (11, false)] [] mixed (by kernel_rfl) (by kernel_rfl) rfl (fun w' => Mem w [] [] w') noPanic_imp (hm.sub (by ((try (simp only [List.append_assoc, List.nil_append, List.append_nil, List.cons_append])); repeat (first | exact List.nil_sublist _ | exact List.Sublist.refl _ | with_reducible refine List.Sublist.cons_cons _ ?_ | with_reducible refine List.Sublist.append (List.Sublist.refl _) ?_ | with_reducible exact List.sublist_append_left _ _ | refine List.Sublist.cons _ ?_ | refine List.Sublist.trans ?_ (List.sublist_append_right _ _))))).drew ?_
            have hm := hm.drew
            refine rp_valp rfl rfl (v := vp) (fun w' => val_move (v := vp) hs8) ?_
            refine rp_valp rfl rfl (v := (.slice (some ⟨b, off, none⟩) n c)) (fun w' => val_move (v := (.slice (some ⟨b, off, none⟩) n c)) hs6) ?_
            refine rp_valp rfl rfl (v := (vI (cut n : Int))) (fun w' => val_move (v := (vI (cut n : Int))) rfl) ?_
            refine rp_valp rfl rfl (v := (.slice (some ⟨b, (slo off (cut n) c 32), none⟩) (n - cut n) (c - cut n))) (fun w' => val_slice (b := b) (off := off) (n := n) (cap := c) (l := cut n) (h := n) (m := c) rfl us_53 es_53 ⟨_, _, rfl, by omega, by omega⟩ ⟨rfl, rfl⟩ rfl (by omega) (by omega) (by omega)) ?_
            refine rp_valp rfl rfl (v := (.slice (some ⟨b, off, none⟩) n c)) (fun w' => val_move (v := (.slice (some ⟨b, off, none⟩) n c)) hs6) ?_
            refine rp_valp rfl rfl (v := (vI (cut n : Int))) (fun w' => val_move (v := (vI (cut n : Int))) rfl) ?_
            refine rp_valp rfl rfl (v := (.slice (some ⟨b, off, none⟩) (cut n) c)) (fun w' => val_cast (val_slice (b := b) (off := off) (n := n) (cap := c) (l := 0) (h := cut n) (m := c) rfl us_53 es_53 rfl ⟨_, _, rfl, by omega, by omega⟩ rfl (by omega) (by omega) (by omega)) (by simp [slo])) ?_
            refine rp_call rfl rfl (ent_static (args := [(.slice (some ⟨b, (slo off (cut n) c 32), none⟩) (n - cut n) (c - cut n))]) Tryz.func96 rfl rfl rfl rfl) (rootP_ok (ss.drop (cut n)) _ _ (n - cut n) _ (by simp; try omega) (by omega) (fun x hx => h32 x (List.mem_of_mem_drop hx)) (by rw [sumsC_drop h32]; exact (hsl.drop (k := cut n) (by omega)).mem (own2 := []) hm (by simp)) (by omega)) ?_
            rintro _ w15 ⟨rfl, h16⟩
            refine callQ_ret ?_
            refine ⟨.inl (by kernel_rfl), ?_⟩
            replace hm : Mem w [] ([] ++ (rp ++ [])) w15 := hm.call h16
            refine rp_buildSlice (vs := [(.agg ((rootP (ss.drop (cut n))).map v8).toArray)]) (cs := ((rootP (ss.drop (cut n))).map v8)) rfl rfl ez_53 rfl (parts_cons rfl (parts_nil)) rfl (by decide) (by intro v hv; simp only [List.mem_singleton] at hv; subst hv; simp [Value.cells, hr32]) (by simp [Value.cells]) hm (fun b w' h => .inl (by kernel_rfl)) ?_
            intro b17 w18 hm
            refine rp_appendS (l1 := ([(b17, row ((rootP (ss.drop (cut n))).map v8) 50)] ++ [])) (l2 := []) (r := rp) (v := vp) (xs := (sumsC ac)) (news := ((rootP (ss.drop (cut n))).map v8)) rfl rfl ez_53 rfl (by decide) (by decide) rfl rfl hvp (by simpa only [List.append_assoc, List.nil_append, List.append_nil, List.cons_append] using hm) (SlIs.of (own := []) (by simp) (hm.row (i := 0) rfl).l (by simp [List.take_of_length_le, hr32]) (by simp [hr32]) (by omega)) (one_map8 _) (by omega) ?_
            intro v19 r20 w22 hv21 hm
            refine ⟨.inl (by kernel_rfl), ?_⟩
            replace hm : Mem w [] ([(b17, row ((rootP (ss.drop (cut n))).map v8) 50)] ++ (r20 ++ [])) w22 := by simpa only [List.append_assoc, List.nil_append, List.append_nil, List.cons_append] using hm
            refine rp_vale rfl rfl (v := v19) (val_assign (v := v19) rfl) (.inl (by kernel_rfl)) ?_
            refine rp_vale rfl rfl (v := (.slice (some ⟨b, off, none⟩) (cut n) c)) (val_assign (v := (.slice (some ⟨b, off, none⟩) (cut n) c)) rfl) (.inl (by kernel_rfl)) ?_
            refine rp_nil ?_
            replace hm := hm.sub (l2 := ([] ++ (r20 ++ []))) (by ((try (simp only [List.append_assoc, List.nil_append, List.append_nil, List.cons_append])); repeat (first | exact List.nil_sublist _ | exact List.Sublist.refl _ | with_reducible refine List.Sublist.cons_cons _ ?_ | with_reducible refine List.Sublist.append (List.Sublist.refl _) ?_ | with_reducible exact List.sublist_append_left _ _ | refine List.Sublist.cons _ ?_ | refine List.Sublist.trans ?_ (List.sublist_append_right _ _))))
            refine WP.exit ?_
            repeat (first | with_reducible refine exit_pass ?_ | with_reducible refine exit_other rfl ?_)
            refine blk_here ?_
            exact ⟨(cut n), by omega, ⟨(ss.take (cut n)), (some ⟨b, off, none⟩), (cut n), c, at1, ed, (ac ++ [rootP (ss.drop (cut n))]), v19, r20, rfl, by rw [List.append_assoc, ← hpath, linkT_t hss hlt hn2 hside]; rfl, by simp; omega, by omega, by omega, by omega, fun x hx => h32 x (List.mem_of_mem_take hx), by rw [sumsC_take h32]; exact hsl.takeHi (by omega), by intro x hx; rcases List.mem_append.1 hx with hx | hx; exact hac x hx; rw [List.mem_singleton.1 hx]; exact rootP_len _ (by simp; omega) (fun x hx => h32 x (List.mem_of_mem_drop hx)), by simp; omega, by rw [sumsC_app, List.length_append]; simpa [sumsC] using hv21, hm, rfl, hs7, rfl, hs9, hs10⟩⟩
          ·
            have hq23 := of_decide_eq_false hb
            have hside : cut n < at1 := by omega
            refine WP.skip ?_
            have hr32 : (rootP (ss.take (cut n))).length = 32 := rootP_len _ (by simp; omega) (fun x hx => h32 x (List.mem_of_mem_take hx))
            refine wp_df (E := noPanic) [(0, true), (1, true), (2, true), (3, true), (7, true), (8, true), (9, true), (10, true), (11, true), (12, true), (4, false), (5, false), (6, false), (13, false), (14, false), (15, false), (16, false)] [] mixed (by kernel_rfl) (by kernel_rfl) rfl (fun w' => Mem w [] [] w') noPanic_imp (hm.sub (by ((try (simp only [List.append_assoc, List.nil_append, List.append_nil, List.cons_append])); repeat (first | exact List.nil_sublist _ | exact List.Sublist.refl _ | with_reducible refine List.Sublist.cons_cons _ ?_ | with_reducible refine List.Sublist.append (List.Sublist.refl _) ?_ | with_reducible exact List.sublist_append_left _ _ | refine List.Sublist.cons _ ?_ | refine List.Sublist.trans ?_ (List.sublist_append_right _ _))))).drew ?_
            have hm := hm.drew
            refine rp_valp rfl rfl (v := vp) (fun w' => val_move (v := vp) hs8) ?_
            refine rp_valp rfl rfl (v := (.slice (some ⟨b, off, none⟩) n c)) (fun w' => val_move (v := (.slice (some ⟨b, off, none⟩) n c)) hs6) ?_
            refine rp_valp rfl rfl (v := (vI (cut n : Int))) (fun w' => val_move (v := (vI (cut n : Int))) rfl) ?_
            refine rp_valp rfl rfl (v := (.slice (some ⟨b, off, none⟩) (cut n) c)) (fun w' => val_cast (val_slice (b := b) (off := off) (n := n) (cap := c) (l := 0) (h := cut n) (m := c) rfl us_53 es_53 rfl ⟨_, _, rfl, by omega, by omega⟩ rfl (by omega) (by omega) (by omega)) (by simp [slo])) ?_
            refine rp_valp rfl rfl (v := (.slice (some ⟨b, off, none⟩) n c)) (fun w' => val_move (v := (.slice (some ⟨b, off, none⟩) n c)) hs6) ?_
            refine rp_valp rfl rfl (v := (vI (cut n : Int))) (fun w' => val_move (v := (vI (cut n : Int))) rfl) ?_
            refine rp_valp rfl rfl (v := (.slice (some ⟨b, (slo off (cut n) c 32), none⟩) (n - cut n) (c - cut n))) (fun w' => val_slice (b := b) (off := off) (n := n) (cap := c) (l := cut n) (h := n) (m := c) rfl us_53 es_53 ⟨_, _, rfl, by omega, by omega⟩ ⟨rfl, rfl⟩ rfl (by omega) (by omega) (by omega)) ?_
            refine rp_valp rfl rfl (v := (vI (at1 : Int))) (fun w' => val_move (v := (vI (at1 : Int))) hs7) ?_
            refine rp_valp rfl rfl (v := (vI (cut n : Int))) (fun w' => val_move (v := (vI (cut n : Int))) rfl) ?_
            refine rp_valp rfl rfl (v := (vI ((at1 - cut n : Nat) : Int))) (fun w' => val_cast (val_subI (p := (at1 : Int)) (q := (cut n : Int)) rfl rfl (by omega)) (int_eq (by omega))) ?_
            refine rp_call rfl rfl (ent_static (args := [(.slice (some ⟨b, off, none⟩) (cut n) c)]) Tryz.func96 rfl rfl rfl rfl) (rootP_ok (ss.take (cut n)) _ _ (cut n) _ (by simp; try omega) (by omega) (fun x hx => h32 x (List.mem_of_mem_take hx)) (by rw [sumsC_take h32]; exact (hsl.takeHi (k := cut n) (by omega)).mem (own2 := []) hm (by simp)) (by omega)) ?_
            rintro _ w24 ⟨rfl, h25⟩
            refine callQ_ret ?_
            refine ⟨.inl (by kernel_rfl), ?_⟩
            replace hm : Mem w [] ([] ++ (rp ++ [])) w24 := hm.call h25
            refine rp_buildSlice (vs := [(.agg ((rootP (ss.take (cut n))).map v8).toArray)]) (cs := ((rootP (ss.take (cut n))).map v8)) rfl rfl ez_53 rfl (parts_cons rfl (parts_nil)) rfl (by decide) (by intro v hv; simp only [List.mem_singleton] at hv; subst hv; simp [Value.cells, hr32]) (by simp [Value.cells]) hm (fun b w' h => .inl (by kernel_rfl)) ?_
            intro b26 w27 hm
            refine rp_appendS (l1 := ([(b26, row ((rootP (ss.take (cut n))).map v8) 50)] ++ [])) (l2 := []) (r := rp) (v := vp) (xs := (sumsC ac)) (news := ((rootP (ss.take (cut n))).map v8)) rfl rfl ez_53 rfl (by decide) (by decide) rfl rfl hvp (by simpa only [List.append_assoc, List.nil_append, List.append_nil, List.cons_append] using hm) (SlIs.of (own := []) (by simp) (hm.row (i := 0) rfl).l (by simp [List.take_of_length_le, hr32]) (by simp [hr32]) (by omega)) (one_map8 _) (by omega) ?_
            intro v28 r29 w31 hv30 hm
            refine ⟨.inl (by kernel_rfl), ?_⟩
            replace hm : Mem w [] ([(b26, row ((rootP (ss.take (cut n))).map v8) 50)] ++ (r29 ++ [])) w31 := by simpa only [List.append_assoc, List.nil_append, List.append_nil, List.cons_append] using hm
            refine rp_vale rfl rfl (v := v28) (val_assign (v := v28) rfl) (.inl (by kernel_rfl)) ?_
            refine rp_vale rfl rfl (v := (.slice (some ⟨b, (slo off (cut n) c 32), none⟩) (n - cut n) (c - cut n))) (val_assign (v := (.slice (some ⟨b, (slo off (cut n) c 32), none⟩) (n - cut n) (c - cut n))) rfl) (.inl (by kernel_rfl)) ?_
            refine rp_vale rfl rfl (v := (vI ((at1 - cut n : Nat) : Int))) (val_assign (v := (vI ((at1 - cut n : Nat) : Int))) rfl) (.inl (by kernel_rfl)) ?_
            refine rp_vale rfl rfl (v := (.bool false)) (val_assign (v := (.bool false)) rfl) (.inl (by kernel_rfl)) ?_
            refine rp_nil ?_
            replace hm := hm.sub (l2 := ([] ++ (r29 ++ []))) (by ((try (simp only [List.append_assoc, List.nil_append, List.append_nil, List.cons_append])); repeat (first | exact List.nil_sublist _ | exact List.Sublist.refl _ | with_reducible refine List.Sublist.cons_cons _ ?_ | with_reducible refine List.Sublist.append (List.Sublist.refl _) ?_ | with_reducible exact List.sublist_append_left _ _ | refine List.Sublist.cons _ ?_ | refine List.Sublist.trans ?_ (List.sublist_append_right _ _))))
            exact ⟨(n - cut n), by omega, ⟨(ss.drop (cut n)), (some ⟨b, (slo off (cut n) c 32), none⟩), (n - cut n), (c - cut n), (at1 - cut n), false, (ac ++ [rootP (ss.take (cut n))]), v28, r29, rfl, by rw [List.append_assoc, ← hpath, linkT_d hss hlt hn2 hside]; rfl, by simp; omega, by omega, by omega, by omega, fun x hx => h32 x (List.mem_of_mem_drop hx), by rw [sumsC_drop h32]; exact hsl.drop (by omega), by intro x hx; rcases List.mem_append.1 hx with hx | hx; exact hac x hx; rw [List.mem_singleton.1 hx]; exact rootP_len _ (by simp; omega) (fun x hx => h32 x (List.mem_of_mem_take hx)), by simp; omega, by rw [sumsC_app, List.length_append]; simpa [sumsC] using hv30, hm, rfl, rfl, rfl, hs9, rfl⟩⟩
        ·
          have hq32 := of_decide_eq_false hb
          have hdone := linkT_done (ed := ed) hss (show n ≤ at1 by omega)
          rw [hdone] at hpath
          refine WP.exit ?_
          repeat (first | with_reducible refine exit_pass ?_ | with_reducible refine exit_other rfl ?_)
          refine blk_here ?_
          refine WP.seq ?_
          refine wp_sr (E := noPanic) noPanic_imp ?_
          refine rl_val rfl (v := (.bool ed)) (val_move (v := (.bool ed)) hs10) ?_
          refine rl_val rfl (v := (.bool (!ed))) (val_not rfl) ?_
          refine rl_nil ?_
          refine WP.cond (b := !ed) rfl (fun hb => ?_) (fun hb => ?_)
          ·
            have hq33 := hb
            obtain rfl : ed = false := by simpa using hq33
            have hr32 : (rootP ss).length = 32 := rootP_len _ (by omega) h32
            replace hpath : ac ++ [rootP ss] = linkT ss0 at0 true := hpath
            refine wp_r (E := noPanic) noPanic_imp ?_
            refine rl_val rfl (v := vp) (val_move (v := vp) hs8) ?_
            refine rl_val rfl (v := (.slice a n c)) (val_move (v := (.slice a n c)) hs6) ?_
            refine rl_call rfl (ent_static (args := [(.slice a n c)]) Tryz.func96 rfl rfl rfl rfl) (rootP_ok ss _ _ n _ hss (by omega) h32 (hsl.mem (own2 := []) hm (by simp)) hn256) ?_
            rintro _ w34 ⟨rfl, h35⟩
            refine callQ_ret ?_
            replace hm : Mem w [] ([] ++ (rp ++ [])) w34 := hm.call h35
            refine rl_buildSlice (vs := [(.agg ((rootP ss).map v8).toArray)]) (cs := ((rootP ss).map v8)) rfl ez_53 rfl (parts_cons rfl (parts_nil)) rfl (by decide) (by intro v hv; simp only [List.mem_singleton] at hv; subst hv; simp [Value.cells, hr32]) (by simp [Value.cells]) hm ?_
            intro b36 w37 hm
            refine rl_appendS (l1 := ([(b36, row ((rootP ss).map v8) 50)] ++ [])) (l2 := []) (r := rp) (v := vp) (xs := (sumsC ac)) (news := ((rootP ss).map v8)) rfl ez_53 rfl (by decide) (by decide) rfl rfl hvp (by simpa only [List.append_assoc, List.nil_append, List.append_nil, List.cons_append] using hm) (SlIs.of (own := []) (by simp) (hm.row (i := 0) rfl).l (by simp [List.take_of_length_le, hr32]) (by simp [hr32]) (by omega)) (one_map8 _) (by omega) ?_
            intro v38 r39 w41 hv40 hm
            replace hm : Mem w [] ([(b36, row ((rootP ss).map v8) 50)] ++ (r39 ++ [])) w41 := by simpa only [List.append_assoc, List.nil_append, List.append_nil, List.cons_append] using hm
            refine rl_val rfl (v := v38) (val_assign (v := v38) rfl) ?_
            refine rl_nil ?_
            replace hm := hm.sub (l2 := ([] ++ (r39 ++ []))) (by ((try (simp only [List.append_assoc, List.nil_append, List.append_nil, List.cons_append])); repeat (first | exact List.nil_sublist _ | exact List.Sublist.refl _ | with_reducible refine List.Sublist.cons_cons _ ?_ | with_reducible refine List.Sublist.append (List.Sublist.refl _) ?_ | with_reducible exact List.sublist_append_left _ _ | refine List.Sublist.cons _ ?_ | refine List.Sublist.trans ?_ (List.sublist_append_right _ _))))
            refine wp_sr (E := noPanic) noPanic_imp ?_
            refine rl_val rfl (v := v38) (val_move (v := v38) rfl) ?_
            have hvx : VecIs v38 (ac.length + 1) 32 50 (sumsC (ac ++ [rootP ss])) r39 := by first | exact hv40 | (rw [sumsC_app]; simpa [sumsC] using hv40)
            have hmr := hm.cast (l2 := [] ++ (r39 ++ [])) (by simp only [List.append_assoc, List.nil_append, List.append_nil, List.cons_append])
            obtain ⟨ap, cp, rfl, hcp, _⟩ := hvx.form
            have hax : All32 (ac ++ [rootP ss]) := by intro x hx; rcases List.mem_append.1 hx with hx | hx; exact hac x hx; rw [List.mem_singleton.1 hx]; exact hr32
            refine rl_call rfl (ent_static (args := [.slice ap (ac.length + 1) cp]) Tryz.func255 rfl rfl rfl rfl) (rev_ok (ac ++ [rootP ss]) _ _ _ _ _ (by simp) hax hvx hmr.see.2 (by omega)) ?_
            rintro _ w42 ⟨rfl, r44, hv45, h43⟩
            refine callQ_ret ?_
            replace hm := hmr.callVec hvx h43
            replace hm : Mem w [] ([] ++ (r44 ++ [])) w42 := by simpa only [List.append_assoc, List.nil_append, List.append_nil, List.cons_append] using hm
            refine rl_nil ?_
            refine wp_sr (E := noPanic) noPanic_imp ?_
            refine rl_val rfl (v := (.slice ap (ac.length + 1) cp)) (val_move (v := (.slice ap (ac.length + 1) cp)) rfl) ?_
            refine rl_call rfl (ent_static (args := [(.slice ap (ac.length + 1) cp)]) Tryz.func183 rfl rfl rfl rfl) (clipS_ok _ _ _ _ hcp (by omega)) ?_
            rintro _ w46 ⟨rfl, h47⟩
            refine callQ_ret ?_
            replace hm : Mem w [] ([] ++ (r44 ++ [])) w46 := hm.call h47
            refine rl_val rfl (v := (.slice ap (ac.length + 1) (ac.length + 1))) (val_assign (v := (.slice ap (ac.length + 1) (ac.length + 1))) rfl) ?_
            refine rl_val rfl (v := (vI 0)) (val_assign (v := (vI 0)) rfl) ?_
            refine rl_nil ?_
            refine WP.ret ?_
            repeat (first | with_reducible refine ret_pass ?_ | with_reducible refine ret_blk ?_ | with_reducible refine scope_ret ?_)
            exact post_rets rfl (vs := [(.slice ap (ac.length + 1) (ac.length + 1)), vI 0]) ⟨rfl, rfl, trivial⟩ rfl ⟨fun _ _ => ⟨_, _, rfl, by rw [← hpath]; simpa using hv45.clip, by simpa using hm⟩, fun h => by omega⟩
          ·
            have hq48 := hb
            obtain rfl : ed = true := by simpa using hq48
            replace hpath : ac = linkT ss0 at0 true := by simpa using hpath
            refine WP.skip ?_
            refine wp_sr (E := noPanic) noPanic_imp ?_
            refine rl_val rfl (v := vp) (val_move (v := vp) hs8) ?_
            have hvx : VecIs vp ac.length 32 50 (sumsC ac) rp := by first | exact hvp | (rw [sumsC_app]; simpa [sumsC] using hvp)
            have hmr := hm.cast (l2 := [] ++ (rp ++ [])) (by simp only [List.append_assoc, List.nil_append, List.append_nil, List.cons_append])
            obtain ⟨ap, cp, rfl, hcp, _⟩ := hvx.form
            have hax : All32 ac := hac
            refine rl_call rfl (ent_static (args := [.slice ap ac.length cp]) Tryz.func255 rfl rfl rfl rfl) (rev_ok ac _ _ _ _ _ (by simp) hax hvx hmr.see.2 (by omega)) ?_
            rintro _ w49 ⟨rfl, r51, hv52, h50⟩
            refine callQ_ret ?_
            replace hm := hmr.callVec hvx h50
            replace hm : Mem w [] ([] ++ (r51 ++ [])) w49 := by simpa only [List.append_assoc, List.nil_append, List.append_nil, List.cons_append] using hm
            refine rl_nil ?_
            refine wp_sr (E := noPanic) noPanic_imp ?_
            refine rl_val rfl (v := (.slice ap ac.length cp)) (val_move (v := (.slice ap ac.length cp)) hs8) ?_
            refine rl_call rfl (ent_static (args := [(.slice ap ac.length cp)]) Tryz.func183 rfl rfl rfl rfl) (clipS_ok _ _ _ _ hcp (by omega)) ?_
            rintro _ w53 ⟨rfl, h54⟩
            refine callQ_ret ?_
            replace hm : Mem w [] ([] ++ (r51 ++ [])) w53 := hm.call h54
            refine rl_val rfl (v := (.slice ap ac.length ac.length)) (val_assign (v := (.slice ap ac.length ac.length)) rfl) ?_
            refine rl_val rfl (v := (vI 0)) (val_assign (v := (vI 0)) rfl) ?_
            refine rl_nil ?_
            refine WP.ret ?_
            repeat (first | with_reducible refine ret_pass ?_ | with_reducible refine ret_blk ?_ | with_reducible refine scope_ret ?_)
            exact post_rets rfl (vs := [(.slice ap ac.length ac.length), vI 0]) ⟨rfl, rfl, trivial⟩ rfl ⟨fun _ _ => ⟨_, _, rfl, by rw [← hpath]; simpa using hv52.clip, by simpa using hm⟩, fun h => by omega⟩
end Go.Al
namespace Go.Al
open Go Go.RowKit Go.Proofs
set_option linter.unusedVariables false
set_option linter.unusedSimpArgs false
theorem ent_load {bs : List Bytes} {bvs xs : List Value} {off i : Nat} (hcs : (xs.drop off).take (bs.length * 97) = entsC bs bvs) (hi : i < bs.length) : (xs.drop (off + i * 97)).take 97 = entAt bs bvs i := by
  have h1 : xs.drop off = entsC bs bvs ++ (xs.drop off).drop (bs.length * 97) := by rw [← hcs, List.take_append_drop]
  rw [← List.drop_drop, h1]
  unfold entsC
  exact chunk_at (f := entAt bs bvs) (fun i _ => entAt_len bs bvs i) hi
theorem entAt_one {bs : List Bytes} {bvs : List Value} {i : Nat} (h : ∀ v ∈ bvs, v.one = true) (hl : bvs.length = bs.length) (hi : i < bs.length) : Ones (entAt bs bvs i) := by
  unfold entAt
  refine entC_one _ _ _ (h _ ?_)
  rw [List.getD_eq_getElem?_getD, List.getElem?_eq_getElem (by omega)]
  exact List.getElem_mem _
theorem asks208_ok (bs : List Bytes) (bvs : List Value) (a : Option Addr) (c at0 : Nat) (w : World) (hones : ∀ v ∈ bvs, v.one = true) (hbvl : bvs.length = bs.length) (hs : SlIs w [] (.slice a bs.length c) 97 bs.length (entsC bs bvs)) (hb256 : bs.length ≤ 256) :
    Calls Tryz.prog 207 [vU (at0 : Int), .slice a bs.length c, .func (.func 208) #[] #[]].toArray w (fun e w' => (at0 < bs.length → ∃ v r, e = .returned (.tuple #[v, vI 0]) ∧ VecIs v (pathT (bs.map leafP) at0).length 32 50 (sumsC (pathT (bs.map leafP) at0).reverse) r ∧ Mem w [] r w') ∧ (¬ (at0 < bs.length) → e = .returned (.tuple #[.slice none 0 0, vI 1]) ∧ Mem w [] [] w')) := by
  have hm := Mem.init w
  refine calls_enter (n := 36) Tryz.func207 rfl rfl rfl ?_
  refine wp_sr (E := noPanic) noPanic_imp ?_
  refine rl_val rfl (v := (.slice none 0 0)) (val_assign (v := (.slice none 0 0)) rfl) ?_
  refine rl_val rfl (v := (vI 0)) (val_assign (v := (vI 0)) rfl) ?_
  refine rl_nil ?_
  refine WP.seq ?_
  refine wp_sr (E := noPanic) noPanic_imp ?_
  refine rl_val rfl (v := (vU (at0 : Int))) (val_move (v := (vU (at0 : Int))) rfl) ?_
  refine rl_val rfl (v := (.slice a bs.length c)) (val_move (v := (.slice a bs.length c)) rfl) ?_
  refine rl_val rfl (v := (vI (bs.length : Nat))) (val_lenSl (t := 125) rfl us_125 rfl) ?_
  refine rl_val rfl (v := (vU (bs.length : Nat))) (val_cast (val_conv ut_3 ui_44 rfl) (by rw [wrapU (by omega) (by omega)])) ?_
  refine rl_val rfl (v := (.bool (decide (((bs.length : Nat) : Int) < (at0 : Int))))) (val_gt (p := (at0 : Int)) (q := (bs.length : Nat)) rfl rfl) ?_
  refine rl_nil ?_
  refine WP.cond (b := decide (((bs.length : Nat) : Int) < (at0 : Int))) rfl (fun hb => ?_) (fun hb => ?_)
  ·
    have hq1 := of_decide_eq_true hb
    have hat : bs.length < at0 := by omega
    refine wp_sr (E := noPanic) noPanic_imp ?_
    refine rl_val rfl (v := (.slice none 0 0)) (val_assign (v := (.slice none 0 0)) rfl) ?_
    refine rl_val rfl (v := (vI 1)) (val_assign (v := (vI 1)) rfl) ?_
    refine rl_nil ?_
    refine WP.ret ?_
    repeat (first | with_reducible refine ret_pass ?_ | with_reducible refine ret_blk ?_ | with_reducible refine scope_ret ?_)
    exact post_rets rfl (vs := [.slice none 0 0, vI 1]) ⟨rfl, rfl, trivial⟩ rfl ⟨fun h => absurd h (by omega), fun _ => ⟨rfl, hm⟩⟩
  ·
    have hq2 := of_decide_eq_false hb
    have hat : at0 ≤ bs.length := by omega
    refine WP.skip ?_
    refine wp_sr (E := noPanic) noPanic_imp ?_
    refine rl_val rfl (v := (.slice none 0 0)) (val_assign (v := (.slice none 0 0)) rfl) ?_
    refine rl_nil ?_
    refine WP.seq ?_
    refine wp_sr (E := noPanic) noPanic_imp ?_
    refine rl_val rfl (v := (.slice a bs.length c)) (val_move (v := (.slice a bs.length c)) rfl) ?_
    refine rl_val rfl (v := (vI (bs.length : Nat))) (val_lenSl (t := 125) rfl us_125 rfl) ?_
    refine rl_val rfl (v := (vI 0)) (val_move (v := (vI 0)) rfl) ?_
    refine rl_nil ?_
    refine WP.block ?_
    refine WP.loop (fun mz τ w' => ∃ (i : Nat) (vp : Value) (rp : List (Nat × Obj)), bs.length - i = mz ∧ i ≤ bs.length ∧ VecIs vp i 32 50 (sumsC ((bs.take i).map leafP)) rp ∧ Mem w [] ([] ++ (rp ++ [])) w' ∧ τ 0 = (vU (at0 : Int)) ∧ τ 2 = (.func (.func 208) #[] #[]) ∧ τ 8 = vp ∧ τ 16 = (.slice a bs.length c) ∧ τ 17 = (vI (bs.length : Int)) ∧ τ 18 = (vI (i : Int))) (bs.length) ?_ ?_
    · exact ⟨0, (.slice none 0 0), [], rfl, by omega, VecIs.nil, (by simpa using hm), rfl, rfl, rfl, rfl, (by first | rfl | (refine int_eq ?_; simp; try omega) | (refine int_eq ?_; omega)), (by first | rfl | (refine int_eq ?_; simp; try omega) | (refine int_eq ?_; omega))⟩
    · rintro kk4 τ wl3 ⟨i, vp, rp, hk5, hi, hvp, hm, hs6, hs7, hs8, hs9, hs10, hs11⟩
      refine wp_sr (E := noPanic) noPanic_imp ?_
      refine rl_val rfl (v := (.bool (decide (((i : Int) : Int) < (bs.length : Int))))) (val_lt (p := (i : Int)) (q := (bs.length : Int)) hs11 hs10) ?_
      refine rl_nil ?_
      refine WP.seq (WP.cond (b := decide (((i : Int) : Int) < (bs.length : Int))) rfl (fun hb => ?_) (fun hb => ?_))
      ·
        have hq12 := of_decide_eq_true hb
        have hil : i < bs.length := by omega
        obtain ⟨b, off, xs, rfl, hbn, hr, hcs, hle, hnc⟩ := hs.pos (by omega)
        obtain ⟨b0, hb0⟩ : ∃ b0, bs[i]? = some b0 := ⟨bs[i], by simp⟩
        have hsn : sumsC ((bs.take (i + 1)).map leafP) = sumsC ((bs.take i).map leafP) ++ (leafP b0).map v8 := by rw [List.take_add_one, hb0, List.map_append, sumsC_app]; simp [sumsC]
        have hgb : bs.getD i [] = b0 := by simp [hb0]
        refine WP.skip ?_
        refine WP.seq (WP.block ?_)
        refine wp_sr (E := noPanic) noPanic_imp ?_
        refine rl_val rfl (v := (.pointer (some ⟨b, off + (i * 97), none⟩))) (val_cast (val_indexSl (i := (i : Int)) (sz := 97) hs9 hs11 es_125 (by omega)) (ptr_eq (by omega))) ?_
        refine rl_val rfl (v := (.agg (entAt bs bvs i).toArray)) (val_loadA (m := entAt bs bvs i) (off := off + i * 97) rfl ag_131 (hm.getL hr (by simp)) (ent_load hcs hil) (by omega) (by decide)) ?_
        refine rl_alloc (xs := [v8 0, v8 0, v8 0, v8 0, v8 0, v8 0, v8 0, v8 0, v8 0, v8 0, v8 0, v8 0, v8 0, v8 0, v8 0, v8 0, v8 0, v8 0, v8 0, v8 0, v8 0, v8 0, v8 0, v8 0, v8 0, v8 0, v8 0, v8 0, v8 0, v8 0, v8 0, v8 0, v8 0, v8 0, v8 0, v8 0, v8 0, v8 0, v8 0, v8 0, v8 0, v8 0, v8 0, v8 0, v8 0, v8 0, v8 0, v8 0, v8 0, v8 0, v8 0, v8 0, v8 0, v8 0, v8 0, v8 0, v8 0, v8 0, v8 0, v8 0, v8 0, v8 0, v8 0, v8 0, v8 0, v8 0, v8 0, v8 0, v8 0, v8 0, v8 0, v8 0, v8 0, v8 0, v8 0, v8 0, v8 0, v8 0, v8 0, v8 0, v8 0, v8 0, v8 0, v8 0, v8 0, v8 0, v8 0, v8 0, v8 0, v8 0, v8 0, v8 0, v8 0, v8 0, v8 0, v8 0, .slice none 0 0]) rfl zo_131 hm ?_
        intro b13 w14 hm
        refine rl_store (i := 0) (off := 0) (xs := ([v8 0, v8 0, v8 0, v8 0, v8 0, v8 0, v8 0, v8 0, v8 0, v8 0, v8 0, v8 0, v8 0, v8 0, v8 0, v8 0, v8 0, v8 0, v8 0, v8 0, v8 0, v8 0, v8 0, v8 0, v8 0, v8 0, v8 0, v8 0, v8 0, v8 0, v8 0, v8 0, v8 0, v8 0, v8 0, v8 0, v8 0, v8 0, v8 0, v8 0, v8 0, v8 0, v8 0, v8 0, v8 0, v8 0, v8 0, v8 0, v8 0, v8 0, v8 0, v8 0, v8 0, v8 0, v8 0, v8 0, v8 0, v8 0, v8 0, v8 0, v8 0, v8 0, v8 0, v8 0, v8 0, v8 0, v8 0, v8 0, v8 0, v8 0, v8 0, v8 0, v8 0, v8 0, v8 0, v8 0, v8 0, v8 0, v8 0, v8 0, v8 0, v8 0, v8 0, v8 0, v8 0, v8 0, v8 0, v8 0, v8 0, v8 0, v8 0, v8 0, v8 0, v8 0, v8 0, v8 0, .slice none 0 0])) (vs := entAt bs bvs i) rfl rfl rfl ag_131 hm rfl rfl (by simp) (by simp) (entAt_one hones hbvl hil) ?_
        intro w15 hm
        rw [spl_all (n := 97) (by simp) (by simp)] at hm
        replace hm : Mem w [] ([(b13, row (entAt bs bvs i) 131)] ++ (rp ++ [])) w15 := hm
        refine rl_nil ?_
        refine wp_r (E := noPanic) noPanic_imp ?_
        refine rl_val rfl (v := vp) (val_move (v := vp) hs8) ?_
        refine rl_val rfl (v := (.pointer (some ⟨b13, 0, none⟩))) (val_fieldAddr (d := 0) rfl fo_131_0) ?_
        refine rl_val rfl (v := (.pointer (some ⟨b13, 0, none⟩))) (val_fieldAddr (d := 0) rfl fo_129_0) ?_
        refine rl_val rfl (v := (.agg ((leafP b0).map v8).toArray)) (val_loadA (m := (leafP b0).map v8) (off := 0) rfl ag_50 (hm.row (i := 0) rfl).l (by unfold entAt; rw [hgb]; exact entC_s1 (by simp)) (by simp) (by decide)) ?_
        refine rl_buildSlice (vs := [(.agg ((leafP b0).map v8).toArray)]) (cs := ((leafP b0).map v8)) rfl ez_53 rfl (parts_cons rfl (parts_nil)) rfl (by decide) (by intro v hv; simp only [List.mem_singleton] at hv; subst hv; simp [Value.cells]) (by simp [Value.cells]) hm ?_
        intro b16 w17 hm
        refine rl_appendS (l1 := ([(b16, row ((leafP b0).map v8) 50), (b13, row (entAt bs bvs i) 131)] ++ [])) (l2 := []) (r := rp) (v := vp) (xs := (sumsC ((bs.take i).map leafP))) (news := ((leafP b0).map v8)) rfl ez_53 rfl (by decide) (by decide) rfl rfl hvp (by simpa only [List.append_assoc, List.nil_append, List.append_nil, List.cons_append] using hm) (SlIs.of (own := []) (by simp) (hm.row (i := 0) rfl).l (by simp [List.take_of_length_le]) (by simp) (by omega)) (one_map8 _) (by omega) ?_
        intro v18 r19 w21 hv20 hm
        replace hm : Mem w [] ([(b16, row ((leafP b0).map v8) 50), (b13, row (entAt bs bvs i) 131)] ++ (r19 ++ [])) w21 := by simpa only [List.append_assoc, List.nil_append, List.append_nil, List.cons_append] using hm
        refine rl_val rfl (v := v18) (val_assign (v := v18) rfl) ?_
        refine rl_nil ?_
        replace hm := hm.sub (l2 := ([] ++ (r19 ++ []))) (by ((try (simp only [List.append_assoc, List.nil_append, List.append_nil, List.cons_append])); repeat (first | exact List.nil_sublist _ | exact List.Sublist.refl _ | with_reducible refine List.Sublist.cons_cons _ ?_ | with_reducible refine List.Sublist.append (List.Sublist.refl _) ?_ | with_reducible exact List.sublist_append_left _ _ | refine List.Sublist.cons _ ?_ | refine List.Sublist.trans ?_ (List.sublist_append_right _ _))))
        refine wp_r (E := noPanic) noPanic_imp ?_
        refine rl_val rfl (v := (vI ((i : Int) + 1))) (val_addI (p := (i : Int)) (q := 1) hs11 rfl (by omega)) ?_
        refine rl_val rfl (v := (vI ((i : Int) + 1))) (val_move (v := (vI ((i : Int) + 1))) rfl) ?_
        refine rl_nil ?_
        exact ⟨bs.length - (i + 1), by omega, ⟨i + 1, v18, r19, rfl, by omega, by rw [hsn]; exact hv20, hm, hs6, hs7, rfl, hs9, hs10, (by first | rfl | (refine int_eq ?_; simp; try omega) | (refine int_eq ?_; omega))⟩⟩
      ·
        have hq22 := of_decide_eq_false hb
        obtain rfl : i = bs.length := by omega
        rw [List.take_length] at hvp
        refine WP.exit ?_
        repeat (first | with_reducible refine exit_pass ?_ | with_reducible refine exit_other rfl ?_)
        refine blk_here ?_
        refine wp_sr (E := noPanic) noPanic_imp ?_
        refine rl_val rfl (v := (.func (.func 208) #[] #[])) (val_move (v := (.func (.func 208) #[] #[])) hs7) ?_
        refine rl_val rfl (v := vp) (val_move (v := vp) hs8) ?_
        refine rl_val rfl (v := (vU (at0 : Int))) (val_move (v := (vU (at0 : Int))) hs6) ?_
        refine rl_val rfl (v := (vI (at0 : Int))) (val_cast (val_conv ut_142 ui_3 rfl) (by rw [wrapI (by omega) (by omega)])) ?_
        obtain ⟨ap, cp, rfl, hcp, _⟩ := hvp.form
        refine rl_call rfl (ent_dyn (fst := []) (cap := []) (args := [.slice ap bs.length cp, (vI (at0 : Int))]) Tryz.func208 rfl rfl rfl rfl) (pathof_ok (bs.map leafP) ap cp bs.length at0 _ (by simp) (leaves_32 bs) (hvp.sl (own2 := []) hm (by intro p hp; exact ⟨by simp [hp], by simp⟩)) hb256 (by omega)) ?_
        rintro e24 w23 h25
        by_cases hc : at0 < bs.length
        ·
          obtain ⟨vq, rq, rfl, hvq, hmq⟩ := h25.1 hc
          refine callQ_ret ?_
          replace hm := (hm.call hmq).comm
          replace hm : Mem w [] ([] ++ (rp ++ (rq ++ []))) w23 := by simpa only [List.append_assoc, List.nil_append, List.append_nil, List.cons_append] using hm
          refine rl_val rfl (v := vq) (val_extract (v := vq) rfl rfl) ?_
          refine rl_val rfl (v := (vI 0)) (val_extract (v := (vI 0)) rfl rfl) ?_
          refine rl_val rfl (v := vq) (val_assign (v := vq) rfl) ?_
          refine rl_val rfl (v := (vI 0)) (val_assign (v := (vI 0)) rfl) ?_
          refine rl_nil ?_
          refine WP.ret ?_
          repeat (first | with_reducible refine ret_pass ?_ | with_reducible refine ret_blk ?_ | with_reducible refine scope_ret ?_)
          exact post_rets rfl (vs := [vq, vI 0]) ⟨rfl, rfl, trivial⟩ rfl ⟨fun _ => ⟨_, _, rfl, hvq, hm.sub (l2 := rq) (by ((try (simp only [List.append_assoc, List.nil_append, List.append_nil, List.cons_append])); repeat (first | exact List.nil_sublist _ | exact List.Sublist.refl _ | with_reducible refine List.Sublist.cons_cons _ ?_ | with_reducible refine List.Sublist.append (List.Sublist.refl _) ?_ | with_reducible exact List.sublist_append_left _ _ | refine List.Sublist.cons _ ?_ | refine List.Sublist.trans ?_ (List.sublist_append_right _ _))))⟩, fun h => absurd hc h⟩
        ·
          obtain ⟨rfl, hmq⟩ := h25.2 (by omega)
          refine callQ_ret ?_
          replace hm := hm.call hmq
          refine rl_val rfl (v := (.slice none 0 0)) (val_extract (v := (.slice none 0 0)) rfl rfl) ?_
          refine rl_val rfl (v := (vI 1)) (val_extract (v := (vI 1)) rfl rfl) ?_
          refine rl_val rfl (v := (.slice none 0 0)) (val_assign (v := (.slice none 0 0)) rfl) ?_
          refine rl_val rfl (v := (vI 1)) (val_assign (v := (vI 1)) rfl) ?_
          refine rl_nil ?_
          refine WP.ret ?_
          repeat (first | with_reducible refine ret_pass ?_ | with_reducible refine ret_blk ?_ | with_reducible refine scope_ret ?_)
          exact post_rets rfl (vs := [.slice none 0 0, vI 1]) ⟨rfl, rfl, trivial⟩ rfl ⟨fun h => absurd h hc, fun _ => ⟨rfl, hm.nil⟩⟩
theorem asks209_ok (bs : List Bytes) (bvs : List Value) (a : Option Addr) (c at0 : Nat) (w : World) (hones : ∀ v ∈ bvs, v.one = true) (hbvl : bvs.length = bs.length) (hs : SlIs w [] (.slice a bs.length c) 97 bs.length (entsC bs bvs)) (hb256 : bs.length ≤ 256) :
    Calls Tryz.prog 207 [vU (at0 : Int), .slice a bs.length c, .func (.func 209) #[] #[]].toArray w (fun e w' => (1 ≤ at0 ∧ at0 ≤ bs.length → ∃ v r, e = .returned (.tuple #[v, vI 0]) ∧ VecIs v (linkT (bs.map leafP) at0 true).length 32 50 (sumsC (linkT (bs.map leafP) at0 true).reverse) r ∧ Mem w [] r w') ∧ (¬ (1 ≤ at0 ∧ at0 ≤ bs.length) → e = .returned (.tuple #[.slice none 0 0, vI 1]) ∧ Mem w [] [] w')) := by
  have hm := Mem.init w
  refine calls_enter (n := 36) Tryz.func207 rfl rfl rfl ?_
  refine wp_sr (E := noPanic) noPanic_imp ?_
  refine rl_val rfl (v := (.slice none 0 0)) (val_assign (v := (.slice none 0 0)) rfl) ?_
  refine rl_val rfl (v := (vI 0)) (val_assign (v := (vI 0)) rfl) ?_
  refine rl_nil ?_
  refine WP.seq ?_
  refine wp_sr (E := noPanic) noPanic_imp ?_
  refine rl_val rfl (v := (vU (at0 : Int))) (val_move (v := (vU (at0 : Int))) rfl) ?_
  refine rl_val rfl (v := (.slice a bs.length c)) (val_move (v := (.slice a bs.length c)) rfl) ?_
  refine rl_val rfl (v := (vI (bs.length : Nat))) (val_lenSl (t := 125) rfl us_125 rfl) ?_
  refine rl_val rfl (v := (vU (bs.length : Nat))) (val_cast (val_conv ut_3 ui_44 rfl) (by rw [wrapU (by omega) (by omega)])) ?_
  refine rl_val rfl (v := (.bool (decide (((bs.length : Nat) : Int) < (at0 : Int))))) (val_gt (p := (at0 : Int)) (q := (bs.length : Nat)) rfl rfl) ?_
  refine rl_nil ?_
  refine WP.cond (b := decide (((bs.length : Nat) : Int) < (at0 : Int))) rfl (fun hb => ?_) (fun hb => ?_)
  ·
    have hq1 := of_decide_eq_true hb
    have hat : bs.length < at0 := by omega
    refine wp_sr (E := noPanic) noPanic_imp ?_
    refine rl_val rfl (v := (.slice none 0 0)) (val_assign (v := (.slice none 0 0)) rfl) ?_
    refine rl_val rfl (v := (vI 1)) (val_assign (v := (vI 1)) rfl) ?_
    refine rl_nil ?_
    refine WP.ret ?_
    repeat (first | with_reducible refine ret_pass ?_ | with_reducible refine ret_blk ?_ | with_reducible refine scope_ret ?_)
    exact post_rets rfl (vs := [.slice none 0 0, vI 1]) ⟨rfl, rfl, trivial⟩ rfl ⟨fun h => absurd h (by omega), fun _ => ⟨rfl, hm⟩⟩
  ·
    have hq2 := of_decide_eq_false hb
    have hat : at0 ≤ bs.length := by omega
    refine WP.skip ?_
    refine wp_sr (E := noPanic) noPanic_imp ?_
    refine rl_val rfl (v := (.slice none 0 0)) (val_assign (v := (.slice none 0 0)) rfl) ?_
    refine rl_nil ?_
    refine WP.seq ?_
    refine wp_sr (E := noPanic) noPanic_imp ?_
    refine rl_val rfl (v := (.slice a bs.length c)) (val_move (v := (.slice a bs.length c)) rfl) ?_
    refine rl_val rfl (v := (vI (bs.length : Nat))) (val_lenSl (t := 125) rfl us_125 rfl) ?_
    refine rl_val rfl (v := (vI 0)) (val_move (v := (vI 0)) rfl) ?_
    refine rl_nil ?_
    refine WP.block ?_
    refine WP.loop (fun mz τ w' => ∃ (i : Nat) (vp : Value) (rp : List (Nat × Obj)), bs.length - i = mz ∧ i ≤ bs.length ∧ VecIs vp i 32 50 (sumsC ((bs.take i).map leafP)) rp ∧ Mem w [] ([] ++ (rp ++ [])) w' ∧ τ 0 = (vU (at0 : Int)) ∧ τ 2 = (.func (.func 209) #[] #[]) ∧ τ 8 = vp ∧ τ 16 = (.slice a bs.length c) ∧ τ 17 = (vI (bs.length : Int)) ∧ τ 18 = (vI (i : Int))) (bs.length) ?_ ?_
    · exact ⟨0, (.slice none 0 0), [], rfl, by omega, VecIs.nil, (by simpa using hm), rfl, rfl, rfl, rfl, (by first | rfl | (refine int_eq ?_; simp; try omega) | (refine int_eq ?_; omega)), (by first | rfl | (refine int_eq ?_; simp; try omega) | (refine int_eq ?_; omega))⟩
    · rintro kk4 τ wl3 ⟨i, vp, rp, hk5, hi, hvp, hm, hs6, hs7, hs8, hs9, hs10, hs11⟩
      refine wp_sr (E := noPanic) noPanic_imp ?_
      refine rl_val rfl (v := (.bool (decide (((i : Int) : Int) < (bs.length : Int))))) (val_lt (p := (i : Int)) (q := (bs.length : Int)) hs11 hs10) ?_
      refine rl_nil ?_
      refine WP.seq (WP.cond (b := decide (((i : Int) : Int) < (bs.length : Int))) rfl (fun hb => ?_) (fun hb => ?_))
      ·
        have hq12 := of_decide_eq_true hb
        have hil : i < bs.length := by omega
        obtain ⟨b, off, xs, rfl, hbn, hr, hcs, hle, hnc⟩ := hs.pos (by omega)
        obtain ⟨b0, hb0⟩ : ∃ b0, bs[i]? = some b0 := ⟨bs[i], by simp⟩
        have hsn : sumsC ((bs.take (i + 1)).map leafP) = sumsC ((bs.take i).map leafP) ++ (leafP b0).map v8 := by rw [List.take_add_one, hb0, List.map_append, sumsC_app]; simp [sumsC]
        have hgb : bs.getD i [] = b0 := by simp [hb0]
        refine WP.skip ?_
        refine WP.seq (WP.block ?_)
        refine wp_sr (E := noPanic) noPanic_imp ?_
        refine rl_val rfl (v := (.pointer (some ⟨b, off + (i * 97), none⟩))) (val_cast (val_indexSl (i := (i : Int)) (sz := 97) hs9 hs11 es_125 (by omega)) (ptr_eq (by omega))) ?_
        refine rl_val rfl (v := (.agg (entAt bs bvs i).toArray)) (val_loadA (m := entAt bs bvs i) (off := off + i * 97) rfl ag_131 (hm.getL hr (by simp)) (ent_load hcs hil) (by omega) (by decide)) ?_
        refine rl_alloc (xs := [v8 0, v8 0, v8 0, v8 0, v8 0, v8 0, v8 0, v8 0, v8 0, v8 0, v8 0, v8 0, v8 0, v8 0, v8 0, v8 0, v8 0, v8 0, v8 0, v8 0, v8 0, v8 0, v8 0, v8 0, v8 0, v8 0, v8 0, v8 0, v8 0, v8 0, v8 0, v8 0, v8 0, v8 0, v8 0, v8 0, v8 0, v8 0, v8 0, v8 0, v8 0, v8 0, v8 0, v8 0, v8 0, v8 0, v8 0, v8 0, v8 0, v8 0, v8 0, v8 0, v8 0, v8 0, v8 0, v8 0, v8 0, v8 0, v8 0, v8 0, v8 0, v8 0, v8 0, v8 0, v8 0, v8 0, v8 0, v8 0, v8 0, v8 0, v8 0, v8 0, v8 0, v8 0, v8 0, v8 0, v8 0, v8 0, v8 0, v8 0, v8 0, v8 0, v8 0, v8 0, v8 0, v8 0, v8 0, v8 0, v8 0, v8 0, v8 0, v8 0, v8 0, v8 0, v8 0, v8 0, .slice none 0 0]) rfl zo_131 hm ?_
        intro b13 w14 hm
        refine rl_store (i := 0) (off := 0) (xs := ([v8 0, v8 0, v8 0, v8 0, v8 0, v8 0, v8 0, v8 0, v8 0, v8 0, v8 0, v8 0, v8 0, v8 0, v8 0, v8 0, v8 0, v8 0, v8 0, v8 0, v8 0, v8 0, v8 0, v8 0, v8 0, v8 0, v8 0, v8 0, v8 0, v8 0, v8 0, v8 0, v8 0, v8 0, v8 0, v8 0, v8 0, v8 0, v8 0, v8 0, v8 0, v8 0, v8 0, v8 0, v8 0, v8 0, v8 0, v8 0, v8 0, v8 0, v8 0, v8 0, v8 0, v8 0, v8 0, v8 0, v8 0, v8 0, v8 0, v8 0, v8 0, v8 0, v8 0, v8 0, v8 0, v8 0, v8 0, v8 0, v8 0, v8 0, v8 0, v8 0, v8 0, v8 0, v8 0, v8 0, v8 0, v8 0, v8 0, v8 0, v8 0, v8 0, v8 0, v8 0, v8 0, v8 0, v8 0, v8 0, v8 0, v8 0, v8 0, v8 0, v8 0, v8 0, v8 0, v8 0, .slice none 0 0])) (vs := entAt bs bvs i) rfl rfl rfl ag_131 hm rfl rfl (by simp) (by simp) (entAt_one hones hbvl hil) ?_
        intro w15 hm
        rw [spl_all (n := 97) (by simp) (by simp)] at hm
        replace hm : Mem w [] ([(b13, row (entAt bs bvs i) 131)] ++ (rp ++ [])) w15 := hm
        refine rl_nil ?_
        refine wp_r (E := noPanic) noPanic_imp ?_
        refine rl_val rfl (v := vp) (val_move (v := vp) hs8) ?_
        refine rl_val rfl (v := (.pointer (some ⟨b13, 0, none⟩))) (val_fieldAddr (d := 0) rfl fo_131_0) ?_
        refine rl_val rfl (v := (.pointer (some ⟨b13, 0, none⟩))) (val_fieldAddr (d := 0) rfl fo_129_0) ?_
        refine rl_val rfl (v := (.agg ((leafP b0).map v8).toArray)) (val_loadA (m := (leafP b0).map v8) (off := 0) rfl ag_50 (hm.row (i := 0) rfl).l (by unfold entAt; rw [hgb]; exact entC_s1 (by simp)) (by simp) (by decide)) ?_
        refine rl_buildSlice (vs := [(.agg ((leafP b0).map v8).toArray)]) (cs := ((leafP b0).map v8)) rfl ez_53 rfl (parts_cons rfl (parts_nil)) rfl (by decide) (by intro v hv; simp only [List.mem_singleton] at hv; subst hv; simp [Value.cells]) (by simp [Value.cells]) hm ?_
        intro b16 w17 hm
        refine rl_appendS (l1 := ([(b16, row ((leafP b0).map v8) 50), (b13, row (entAt bs bvs i) 131)] ++ [])) (l2 := []) (r := rp) (v := vp) (xs := (sumsC ((bs.take i).map leafP))) (news := ((leafP b0).map v8)) rfl ez_53 rfl (by decide) (by decide) rfl rfl hvp (by simpa only [List.append_assoc, List.nil_append, List.append_nil, List.cons_append] using hm) (SlIs.of (own := []) (by simp) (hm.row (i := 0) rfl).l (by simp [List.take_of_length_le]) (by simp) (by omega)) (one_map8 _) (by omega) ?_
        intro v18 r19 w21 hv20 hm
        replace hm : Mem w [] ([(b16, row ((leafP b0).map v8) 50), (b13, row (entAt bs bvs i) 131)] ++ (r19 ++ [])) w21 := by simpa only [List.append_assoc, List.nil_append, List.append_nil, List.cons_append] using hm
        refine rl_val rfl (v := v18) (val_assign (v := v18) rfl) ?_
        refine rl_nil ?_
        replace hm := hm.sub (l2 := ([] ++ (r19 ++ []))) (by ((try (simp only [List.append_assoc, List.nil_append, List.append_nil, List.cons_append])); repeat (first | exact List.nil_sublist _ | exact List.Sublist.refl _ | with_reducible refine List.Sublist.cons_cons _ ?_ | with_reducible refine List.Sublist.append (List.Sublist.refl _) ?_ | with_reducible exact List.sublist_append_left _ _ | refine List.Sublist.cons _ ?_ | refine List.Sublist.trans ?_ (List.sublist_append_right _ _))))
        refine wp_r (E := noPanic) noPanic_imp ?_
        refine rl_val rfl (v := (vI ((i : Int) + 1))) (val_addI (p := (i : Int)) (q := 1) hs11 rfl (by omega)) ?_
        refine rl_val rfl (v := (vI ((i : Int) + 1))) (val_move (v := (vI ((i : Int) + 1))) rfl) ?_
        refine rl_nil ?_
        exact ⟨bs.length - (i + 1), by omega, ⟨i + 1, v18, r19, rfl, by omega, by rw [hsn]; exact hv20, hm, hs6, hs7, rfl, hs9, hs10, (by first | rfl | (refine int_eq ?_; simp; try omega) | (refine int_eq ?_; omega))⟩⟩
      ·
        have hq22 := of_decide_eq_false hb
        obtain rfl : i = bs.length := by omega
        rw [List.take_length] at hvp
        refine WP.exit ?_
        repeat (first | with_reducible refine exit_pass ?_ | with_reducible refine exit_other rfl ?_)
        refine blk_here ?_
        refine wp_sr (E := noPanic) noPanic_imp ?_
        refine rl_val rfl (v := (.func (.func 209) #[] #[])) (val_move (v := (.func (.func 209) #[] #[])) hs7) ?_
        refine rl_val rfl (v := vp) (val_move (v := vp) hs8) ?_
        refine rl_val rfl (v := (vU (at0 : Int))) (val_move (v := (vU (at0 : Int))) hs6) ?_
        refine rl_val rfl (v := (vI (at0 : Int))) (val_cast (val_conv ut_142 ui_3 rfl) (by rw [wrapI (by omega) (by omega)])) ?_
        obtain ⟨ap, cp, rfl, hcp, _⟩ := hvp.form
        refine rl_call rfl (ent_dyn (fst := []) (cap := []) (args := [.slice ap bs.length cp, (vI (at0 : Int))]) Tryz.func209 rfl rfl rfl rfl) (linkof_ok (bs.map leafP) ap cp bs.length at0 _ (by simp) (leaves_32 bs) (hvp.sl (own2 := []) hm (by intro p hp; exact ⟨by simp [hp], by simp⟩)) hb256 (by omega)) ?_
        rintro e24 w23 h25
        by_cases hc : 1 ≤ at0 ∧ at0 ≤ bs.length
        ·
          obtain ⟨vq, rq, rfl, hvq, hmq⟩ := h25.1 hc.1 hc.2
          refine callQ_ret ?_
          replace hm := (hm.call hmq).comm
          replace hm : Mem w [] ([] ++ (rp ++ (rq ++ []))) w23 := by simpa only [List.append_assoc, List.nil_append, List.append_nil, List.cons_append] using hm
          refine rl_val rfl (v := vq) (val_extract (v := vq) rfl rfl) ?_
          refine rl_val rfl (v := (vI 0)) (val_extract (v := (vI 0)) rfl rfl) ?_
          refine rl_val rfl (v := vq) (val_assign (v := vq) rfl) ?_
          refine rl_val rfl (v := (vI 0)) (val_assign (v := (vI 0)) rfl) ?_
          refine rl_nil ?_
          refine WP.ret ?_
          repeat (first | with_reducible refine ret_pass ?_ | with_reducible refine ret_blk ?_ | with_reducible refine scope_ret ?_)
          exact post_rets rfl (vs := [vq, vI 0]) ⟨rfl, rfl, trivial⟩ rfl ⟨fun _ => ⟨_, _, rfl, hvq, hm.sub (l2 := rq) (by ((try (simp only [List.append_assoc, List.nil_append, List.append_nil, List.cons_append])); repeat (first | exact List.nil_sublist _ | exact List.Sublist.refl _ | with_reducible refine List.Sublist.cons_cons _ ?_ | with_reducible refine List.Sublist.append (List.Sublist.refl _) ?_ | with_reducible exact List.sublist_append_left _ _ | refine List.Sublist.cons _ ?_ | refine List.Sublist.trans ?_ (List.sublist_append_right _ _))))⟩, fun h => absurd hc h⟩
        ·
          obtain ⟨rfl, hmq⟩ := h25.2 (by omega)
          refine callQ_ret ?_
          replace hm := hm.call hmq
          refine rl_val rfl (v := (.slice none 0 0)) (val_extract (v := (.slice none 0 0)) rfl rfl) ?_
          refine rl_val rfl (v := (vI 1)) (val_extract (v := (vI 1)) rfl rfl) ?_
          refine rl_val rfl (v := (.slice none 0 0)) (val_assign (v := (.slice none 0 0)) rfl) ?_
          refine rl_val rfl (v := (vI 1)) (val_assign (v := (vI 1)) rfl) ?_
          refine rl_nil ?_
          refine WP.ret ?_
          repeat (first | with_reducible refine ret_pass ?_ | with_reducible refine ret_blk ?_ | with_reducible refine scope_ret ?_)
          exact post_rets rfl (vs := [.slice none 0 0, vI 1]) ⟨rfl, rfl, trivial⟩ rfl ⟨fun h => absurd h hc, fun _ => ⟨rfl, hm.nil⟩⟩
end Go.Al
namespace Go.Al
open Go Go.RowKit Go.Proofs
set_option linter.unusedVariables false
set_option linter.unusedSimpArgs false
theorem path98_ok (bs : List Bytes) (bvs : List Value) (a : Option Addr) (c at0 : Nat) (w : World) (hones : ∀ v ∈ bvs, v.one = true) (hbvl : bvs.length = bs.length) (hs : SlIs w [] (.slice a bs.length c) 97 bs.length (entsC bs bvs)) (hb256 : bs.length ≤ 256) :
    Calls Tryz.prog 98 [vU (at0 : Int), .slice a bs.length c].toArray w (fun e w' => (at0 < bs.length → ∃ v r, e = .returned (.tuple #[v, vI 0]) ∧ VecIs v (pathT (bs.map leafP) at0).length 32 50 (sumsC (pathT (bs.map leafP) at0).reverse) r ∧ Mem w [] r w') ∧ (¬ (at0 < bs.length) → e = .returned (.tuple #[.slice none 0 0, vI 1]) ∧ Mem w [] [] w')) := by
  have hm := Mem.init w
  refine calls_enter (n := 11) Tryz.func98 rfl rfl rfl ?_
  refine wp_sr (E := noPanic) noPanic_imp ?_
  refine rl_val rfl (v := (.slice none 0 0)) (val_assign (v := (.slice none 0 0)) rfl) ?_
  refine rl_val rfl (v := (vI 0)) (val_assign (v := (vI 0)) rfl) ?_
  refine rl_nil ?_
  refine wp_sr (E := noPanic) noPanic_imp ?_
  refine rl_val rfl (v := (vU (at0 : Int))) (val_move (v := (vU (at0 : Int))) rfl) ?_
  refine rl_val rfl (v := (.slice a bs.length c)) (val_move (v := (.slice a bs.length c)) rfl) ?_
  refine rl_call rfl (ent_static (args := [(vU (at0 : Int)), (.slice a bs.length c), (.func (.func 208) #[] #[])]) Tryz.func207 rfl rfl rfl rfl) (asks208_ok bs bvs a c at0 _ hones hbvl (hs.mem (own2 := []) hm (by simp)) hb256) ?_
  rintro e2 w1 h3
  by_cases hc : at0 < bs.length
  ·
    obtain ⟨vq, rq, rfl, hvq, hmq⟩ := h3.1 hc
    refine callQ_ret ?_
    replace hm := (hm.call hmq).comm
    replace hm : Mem w [] ([] ++ (rq ++ [])) w1 := by simpa only [List.append_assoc, List.nil_append, List.append_nil, List.cons_append] using hm
    refine rl_val rfl (v := vq) (val_extract (v := vq) rfl rfl) ?_
    refine rl_val rfl (v := (vI 0)) (val_extract (v := (vI 0)) rfl rfl) ?_
    refine rl_val rfl (v := vq) (val_assign (v := vq) rfl) ?_
    refine rl_val rfl (v := (vI 0)) (val_assign (v := (vI 0)) rfl) ?_
    refine rl_nil ?_
    refine WP.ret ?_
    repeat (first | with_reducible refine ret_pass ?_ | with_reducible refine ret_blk ?_ | with_reducible refine scope_ret ?_)
    exact post_rets rfl (vs := [vq, vI 0]) ⟨rfl, rfl, trivial⟩ rfl ⟨fun _ => ⟨_, _, rfl, hvq, hm.sub (l2 := rq) (by ((try (simp only [List.append_assoc, List.nil_append, List.append_nil, List.cons_append])); repeat (first | exact List.nil_sublist _ | exact List.Sublist.refl _ | with_reducible refine List.Sublist.cons_cons _ ?_ | with_reducible refine List.Sublist.append (List.Sublist.refl _) ?_ | with_reducible exact List.sublist_append_left _ _ | refine List.Sublist.cons _ ?_ | refine List.Sublist.trans ?_ (List.sublist_append_right _ _))))⟩, fun h => absurd hc h⟩
  ·
    obtain ⟨rfl, hmq⟩ := h3.2 hc
    refine callQ_ret ?_
    replace hm := hm.call hmq
    refine rl_val rfl (v := (.slice none 0 0)) (val_extract (v := (.slice none 0 0)) rfl rfl) ?_
    refine rl_val rfl (v := (vI 1)) (val_extract (v := (vI 1)) rfl rfl) ?_
    refine rl_val rfl (v := (.slice none 0 0)) (val_assign (v := (.slice none 0 0)) rfl) ?_
    refine rl_val rfl (v := (vI 1)) (val_assign (v := (vI 1)) rfl) ?_
    refine rl_nil ?_
    refine WP.ret ?_
    repeat (first | with_reducible refine ret_pass ?_ | with_reducible refine ret_blk ?_ | with_reducible refine scope_ret ?_)
    exact post_rets rfl (vs := [.slice none 0 0, vI 1]) ⟨rfl, rfl, trivial⟩ rfl ⟨fun h => absurd h hc, fun _ => ⟨rfl, hm.nil⟩⟩
theorem link99_ok (bs : List Bytes) (bvs : List Value) (a : Option Addr) (c at0 : Nat) (w : World) (hones : ∀ v ∈ bvs, v.one = true) (hbvl : bvs.length = bs.length) (hs : SlIs w [] (.slice a bs.length c) 97 bs.length (entsC bs bvs)) (hb256 : bs.length ≤ 256) :
    Calls Tryz.prog 99 [vU (at0 : Int), .slice a bs.length c].toArray w (fun e w' => (1 ≤ at0 ∧ at0 ≤ bs.length → ∃ v r, e = .returned (.tuple #[v, vI 0]) ∧ VecIs v (linkT (bs.map leafP) at0 true).length 32 50 (sumsC (linkT (bs.map leafP) at0 true).reverse) r ∧ Mem w [] r w') ∧ (¬ (1 ≤ at0 ∧ at0 ≤ bs.length) → e = .returned (.tuple #[.slice none 0 0, vI 1]) ∧ Mem w [] [] w')) := by
  have hm := Mem.init w
  refine calls_enter (n := 11) Tryz.func99 rfl rfl rfl ?_
  refine wp_sr (E := noPanic) noPanic_imp ?_
  refine rl_val rfl (v := (.slice none 0 0)) (val_assign (v := (.slice none 0 0)) rfl) ?_
  refine rl_val rfl (v := (vI 0)) (val_assign (v := (vI 0)) rfl) ?_
  refine rl_nil ?_
  refine wp_sr (E := noPanic) noPanic_imp ?_
  refine rl_val rfl (v := (vU (at0 : Int))) (val_move (v := (vU (at0 : Int))) rfl) ?_
  refine rl_val rfl (v := (.slice a bs.length c)) (val_move (v := (.slice a bs.length c)) rfl) ?_
  refine rl_call rfl (ent_static (args := [(vU (at0 : Int)), (.slice a bs.length c), (.func (.func 209) #[] #[])]) Tryz.func207 rfl rfl rfl rfl) (asks209_ok bs bvs a c at0 _ hones hbvl (hs.mem (own2 := []) hm (by simp)) hb256) ?_
  rintro e2 w1 h3
  by_cases hc : 1 ≤ at0 ∧ at0 ≤ bs.length
  ·
    obtain ⟨vq, rq, rfl, hvq, hmq⟩ := h3.1 hc
    refine callQ_ret ?_
    replace hm := (hm.call hmq).comm
    replace hm : Mem w [] ([] ++ (rq ++ [])) w1 := by simpa only [List.append_assoc, List.nil_append, List.append_nil, List.cons_append] using hm
    refine rl_val rfl (v := vq) (val_extract (v := vq) rfl rfl) ?_
    refine rl_val rfl (v := (vI 0)) (val_extract (v := (vI 0)) rfl rfl) ?_
    refine rl_val rfl (v := vq) (val_assign (v := vq) rfl) ?_
    refine rl_val rfl (v := (vI 0)) (val_assign (v := (vI 0)) rfl) ?_
    refine rl_nil ?_
    refine WP.ret ?_
    repeat (first | with_reducible refine ret_pass ?_ | with_reducible refine ret_blk ?_ | with_reducible refine scope_ret ?_)
    exact post_rets rfl (vs := [vq, vI 0]) ⟨rfl, rfl, trivial⟩ rfl ⟨fun _ => ⟨_, _, rfl, hvq, hm.sub (l2 := rq) (by ((try (simp only [List.append_assoc, List.nil_append, List.append_nil, List.cons_append])); repeat (first | exact List.nil_sublist _ | exact List.Sublist.refl _ | with_reducible refine List.Sublist.cons_cons _ ?_ | with_reducible refine List.Sublist.append (List.Sublist.refl _) ?_ | with_reducible exact List.sublist_append_left _ _ | refine List.Sublist.cons _ ?_ | refine List.Sublist.trans ?_ (List.sublist_append_right _ _))))⟩, fun h => absurd hc h⟩
  ·
    obtain ⟨rfl, hmq⟩ := h3.2 hc
    refine callQ_ret ?_
    replace hm := hm.call hmq
    refine rl_val rfl (v := (.slice none 0 0)) (val_extract (v := (.slice none 0 0)) rfl rfl) ?_
    refine rl_val rfl (v := (vI 1)) (val_extract (v := (vI 1)) rfl rfl) ?_
    refine rl_val rfl (v := (.slice none 0 0)) (val_assign (v := (.slice none 0 0)) rfl) ?_
    refine rl_val rfl (v := (vI 1)) (val_assign (v := (vI 1)) rfl) ?_
    refine rl_nil ?_
    refine WP.ret ?_
    repeat (first | with_reducible refine ret_pass ?_ | with_reducible refine ret_blk ?_ | with_reducible refine scope_ret ?_)
    exact post_rets rfl (vs := [.slice none 0 0, vI 1]) ⟨rfl, rfl, trivial⟩ rfl ⟨fun h => absurd h hc, fun _ => ⟨rfl, hm.nil⟩⟩
end Go.Al
namespace Go.Al
open Go Go.RowKit Go.Proofs
set_option linter.unusedVariables false
set_option linter.unusedSimpArgs false
theorem first98_ok (c f ce k at0 : Nat) (bs : List Bytes) (bvs : List Value) (ae : Option Addr) (w : World) (hb : bs.length ≤ 256) (hones : ∀ v ∈ bvs, v.one = true) (hbvl : bvs.length = bs.length) (hcr : RowL w c [.pointer (some ⟨f, 0, none⟩), .slice ae bs.length ce]) (hse : SlIs w [] (.slice ae bs.length ce) 97 bs.length (entsC bs bvs)) :
    Calls Tryz.prog 97 [.pointer (some ⟨c, 0, none⟩), vU (k : Int), .func (.func 98) #[vU (at0 : Int)] #[]].toArray w (fun e w' => (k ≤ bs.length ∧ (at0 < (bs.take k).length) → ∃ v r, e = .returned (.tuple #[v, vI 0]) ∧ VecIs v (pathT ((bs.take k).map leafP) at0).length 32 50 (sumsC (pathT ((bs.take k).map leafP) at0).reverse) r ∧ Mem w [] r w') ∧ (¬ (k ≤ bs.length ∧ (at0 < (bs.take k).length)) → e = .returned (.tuple #[.slice none 0 0, vI 1]) ∧ Mem w [] [] w')) := by
  have hce : bs.length ≤ ce := by obtain ⟨_, _, he, h, _⟩ := hse; cases he; exact h
  have hm := Mem.init w
  refine calls_enter (n := 28) Tryz.func97 rfl rfl rfl ?_
  refine wp_sr (E := noPanic) noPanic_imp ?_
  refine rl_val rfl (v := (.slice none 0 0)) (val_assign (v := (.slice none 0 0)) rfl) ?_
  refine rl_val rfl (v := (vI 0)) (val_assign (v := (vI 0)) rfl) ?_
  refine rl_nil ?_
  refine WP.seq (WP.block ?_)
  refine wp_sr (E := noPanic) noPanic_imp ?_
  refine rl_val rfl (v := (.pointer (some ⟨c, 0, none⟩))) (val_move (v := (.pointer (some ⟨c, 0, none⟩))) rfl) ?_
  refine rl_call rfl (ent_static (args := [(.pointer (some ⟨c, 0, none⟩))]) Tryz.func83 rfl rfl rfl rfl) (cnone_ok c f _ _ (hm.getL hcr (by simp))) ?_
  rintro _ w1 ⟨rfl, h2⟩
  refine callQ_ret ?_
  replace hm : Mem w [] [] w1 := hm.call h2
  refine rl_val rfl (v := (.bool false)) (val_assign (v := (.bool false)) rfl) ?_
  refine rl_nil ?_
  refine WP.cond_f rfl ?_
  refine wp_sr (E := noPanic) noPanic_imp ?_
  refine rl_val rfl (v := (vU (k : Int))) (val_move (v := (vU (k : Int))) rfl) ?_
  refine rl_val rfl (v := (.pointer (some ⟨c, 0, none⟩))) (val_move (v := (.pointer (some ⟨c, 0, none⟩))) rfl) ?_
  refine rl_call rfl (ent_static (args := [(.pointer (some ⟨c, 0, none⟩))]) Tryz.func14 rfl rfl rfl rfl) (csize_ok c f ce bs ae _ (by omega) (hm.getL hcr (by simp))) ?_
  rintro _ w3 ⟨rfl, h4⟩
  refine callQ_ret ?_
  replace hm : Mem w [] [] w3 := hm.call h4
  refine rl_val rfl (v := (.bool (decide (((bs.length : Int) : Int) < (k : Int))))) (val_gt (p := (k : Int)) (q := (bs.length : Int)) rfl rfl) ?_
  refine rl_val rfl (v := (.bool (decide (((bs.length : Int) : Int) < (k : Int))))) (val_assign (v := (.bool (decide (((bs.length : Int) : Int) < (k : Int))))) rfl) ?_
  refine rl_nil ?_
  refine WP.cond (b := decide (((bs.length : Int) : Int) < (k : Int))) rfl (fun hb => ?_) (fun hb => ?_)
  ·
    have hq5 := of_decide_eq_true hb
    have hk : bs.length < k := by omega
    refine wp_sr (E := noPanic) noPanic_imp ?_
    refine rl_val rfl (v := (.slice none 0 0)) (val_move (v := (.slice none 0 0)) rfl) ?_
    refine rl_val rfl (v := (.slice none 0 0)) (val_assign (v := (.slice none 0 0)) rfl) ?_
    refine rl_val rfl (v := (vI 1)) (val_assign (v := (vI 1)) rfl) ?_
    refine rl_nil ?_
    refine WP.ret ?_
    repeat (first | with_reducible refine ret_pass ?_ | with_reducible refine ret_blk ?_ | with_reducible refine scope_ret ?_)
    exact post_rets rfl (vs := [.slice none 0 0, vI 1]) ⟨rfl, rfl, trivial⟩ rfl ⟨fun h => absurd h.1 (by omega), fun _ => ⟨rfl, hm⟩⟩
  ·
    have hq6 := of_decide_eq_false hb
    have hk : k ≤ bs.length := by omega
    refine WP.skip ?_
    refine wp_sr (E := noPanic) noPanic_imp ?_
    refine rl_val rfl (v := (.func (.func 98) #[(vU (at0 : Int))] #[])) (val_move (v := (.func (.func 98) #[(vU (at0 : Int))] #[])) rfl) ?_
    refine rl_val rfl (v := (.pointer (some ⟨c, 0, none⟩))) (val_move (v := (.pointer (some ⟨c, 0, none⟩))) rfl) ?_
    refine rl_val rfl (v := (.pointer (some ⟨c, 0, none⟩))) (val_nilCheck rfl) ?_
    refine rl_val rfl (v := (.pointer (some ⟨c, 1, none⟩))) (val_fieldAddr (d := 1) rfl fo_127_1) ?_
    refine rl_val rfl (v := (.slice ae bs.length ce)) (val_load1 (v := (.slice ae bs.length ce)) (off := 1) rfl ag_125 (hm.getL hcr (by simp)) rfl) ?_
    refine rl_val rfl (v := (vU (k : Int))) (val_move (v := (vU (k : Int))) rfl) ?_
    refine rl_val rfl (v := (.slice ae ((bs.take k).length) ce)) (val_cast (val_sliceHi (h := k) rfl us_125 es_125 rfl (by omega)) (by rw [List.length_take, Nat.min_eq_left hk])) ?_
    refine rl_call rfl (ent_dyn (fst := [(vU (at0 : Int))]) (cap := []) (args := [(vU (at0 : Int)), (.slice ae ((bs.take k).length) ce)]) Tryz.func98 rfl rfl rfl rfl) (path98_ok (bs.take k) (bvs.take k) ae ce at0 _ (fun v hv => hones v (List.mem_of_mem_take hv)) (by simp [hbvl]) (by rw [← entsC_take hk]; have h := (hse.takeHi hk).mem (own2 := []) hm (by simp); simpa [Nat.min_eq_left hk] using h) (by simp; omega)) ?_
    rintro e8 w7 h9
    by_cases hc : at0 < (bs.take k).length
    ·
      obtain ⟨vq, rq, rfl, hvq, hmq⟩ := h9.1 hc
      refine callQ_ret ?_
      replace hm := (hm.call hmq).comm
      replace hm : Mem w [] ([] ++ (rq ++ [])) w7 := by simpa only [List.append_assoc, List.nil_append, List.append_nil, List.cons_append] using hm
      refine rl_val rfl (v := vq) (val_extract (v := vq) rfl rfl) ?_
      refine rl_val rfl (v := (vI 0)) (val_extract (v := (vI 0)) rfl rfl) ?_
      refine rl_val rfl (v := vq) (val_assign (v := vq) rfl) ?_
      refine rl_val rfl (v := (vI 0)) (val_assign (v := (vI 0)) rfl) ?_
      refine rl_nil ?_
      refine WP.ret ?_
      repeat (first | with_reducible refine ret_pass ?_ | with_reducible refine ret_blk ?_ | with_reducible refine scope_ret ?_)
      exact post_rets rfl (vs := [vq, vI 0]) ⟨rfl, rfl, trivial⟩ rfl ⟨fun _ => ⟨_, _, rfl, hvq, hm.sub (l2 := rq) (by ((try (simp only [List.append_assoc, List.nil_append, List.append_nil, List.cons_append])); repeat (first | exact List.nil_sublist _ | exact List.Sublist.refl _ | with_reducible refine List.Sublist.cons_cons _ ?_ | with_reducible refine List.Sublist.append (List.Sublist.refl _) ?_ | with_reducible exact List.sublist_append_left _ _ | refine List.Sublist.cons _ ?_ | refine List.Sublist.trans ?_ (List.sublist_append_right _ _))))⟩, fun h => absurd ⟨hk, hc⟩ h⟩
    ·
      obtain ⟨rfl, hmq⟩ := h9.2 hc
      refine callQ_ret ?_
      replace hm := hm.call hmq
      refine rl_val rfl (v := (.slice none 0 0)) (val_extract (v := (.slice none 0 0)) rfl rfl) ?_
      refine rl_val rfl (v := (vI 1)) (val_extract (v := (vI 1)) rfl rfl) ?_
      refine rl_val rfl (v := (.slice none 0 0)) (val_assign (v := (.slice none 0 0)) rfl) ?_
      refine rl_val rfl (v := (vI 1)) (val_assign (v := (vI 1)) rfl) ?_
      refine rl_nil ?_
      refine WP.ret ?_
      repeat (first | with_reducible refine ret_pass ?_ | with_reducible refine ret_blk ?_ | with_reducible refine scope_ret ?_)
      exact post_rets rfl (vs := [.slice none 0 0, vI 1]) ⟨rfl, rfl, trivial⟩ rfl ⟨fun h => absurd h.2 hc, fun _ => ⟨rfl, hm.nil⟩⟩
theorem first99_ok (c f ce k at0 : Nat) (bs : List Bytes) (bvs : List Value) (ae : Option Addr) (w : World) (hb : bs.length ≤ 256) (hones : ∀ v ∈ bvs, v.one = true) (hbvl : bvs.length = bs.length) (hcr : RowL w c [.pointer (some ⟨f, 0, none⟩), .slice ae bs.length ce]) (hse : SlIs w [] (.slice ae bs.length ce) 97 bs.length (entsC bs bvs)) :
    Calls Tryz.prog 97 [.pointer (some ⟨c, 0, none⟩), vU (k : Int), .func (.func 99) #[vU (at0 : Int)] #[]].toArray w (fun e w' => (k ≤ bs.length ∧ (1 ≤ at0 ∧ at0 ≤ (bs.take k).length) → ∃ v r, e = .returned (.tuple #[v, vI 0]) ∧ VecIs v (linkT ((bs.take k).map leafP) at0 true).length 32 50 (sumsC (linkT ((bs.take k).map leafP) at0 true).reverse) r ∧ Mem w [] r w') ∧ (¬ (k ≤ bs.length ∧ (1 ≤ at0 ∧ at0 ≤ (bs.take k).length)) → e = .returned (.tuple #[.slice none 0 0, vI 1]) ∧ Mem w [] [] w')) := by
  have hce : bs.length ≤ ce := by obtain ⟨_, _, he, h, _⟩ := hse; cases he; exact h
  have hm := Mem.init w
  refine calls_enter (n := 28) Tryz.func97 rfl rfl rfl ?_
  refine wp_sr (E := noPanic) noPanic_imp ?_
  refine rl_val rfl (v := (.slice none 0 0)) (val_assign (v := (.slice none 0 0)) rfl) ?_
  refine rl_val rfl (v := (vI 0)) (val_assign (v := (vI 0)) rfl) ?_
  refine rl_nil ?_
  refine WP.seq (WP.block ?_)
  refine wp_sr (E := noPanic) noPanic_imp ?_
  refine rl_val rfl (v := (.pointer (some ⟨c, 0, none⟩))) (val_move (v := (.pointer (some ⟨c, 0, none⟩))) rfl) ?_
  refine rl_call rfl (ent_static (args := [(.pointer (some ⟨c, 0, none⟩))]) Tryz.func83 rfl rfl rfl rfl) (cnone_ok c f _ _ (hm.getL hcr (by simp))) ?_
  rintro _ w1 ⟨rfl, h2⟩
  refine callQ_ret ?_
  replace hm : Mem w [] [] w1 := hm.call h2
  refine rl_val rfl (v := (.bool false)) (val_assign (v := (.bool false)) rfl) ?_
  refine rl_nil ?_
  refine WP.cond_f rfl ?_
  refine wp_sr (E := noPanic) noPanic_imp ?_
  refine rl_val rfl (v := (vU (k : Int))) (val_move (v := (vU (k : Int))) rfl) ?_
  refine rl_val rfl (v := (.pointer (some ⟨c, 0, none⟩))) (val_move (v := (.pointer (some ⟨c, 0, none⟩))) rfl) ?_
  refine rl_call rfl (ent_static (args := [(.pointer (some ⟨c, 0, none⟩))]) Tryz.func14 rfl rfl rfl rfl) (csize_ok c f ce bs ae _ (by omega) (hm.getL hcr (by simp))) ?_
  rintro _ w3 ⟨rfl, h4⟩
  refine callQ_ret ?_
  replace hm : Mem w [] [] w3 := hm.call h4
  refine rl_val rfl (v := (.bool (decide (((bs.length : Int) : Int) < (k : Int))))) (val_gt (p := (k : Int)) (q := (bs.length : Int)) rfl rfl) ?_
  refine rl_val rfl (v := (.bool (decide (((bs.length : Int) : Int) < (k : Int))))) (val_assign (v := (.bool (decide (((bs.length : Int) : Int) < (k : Int))))) rfl) ?_
  refine rl_nil ?_
  refine WP.cond (b := decide (((bs.length : Int) : Int) < (k : Int))) rfl (fun hb => ?_) (fun hb => ?_)
  ·
    have hq5 := of_decide_eq_true hb
    have hk : bs.length < k := by omega
    refine wp_sr (E := noPanic) noPanic_imp ?_
    refine rl_val rfl (v := (.slice none 0 0)) (val_move (v := (.slice none 0 0)) rfl) ?_
    refine rl_val rfl (v := (.slice none 0 0)) (val_assign (v := (.slice none 0 0)) rfl) ?_
    refine rl_val rfl (v := (vI 1)) (val_assign (v := (vI 1)) rfl) ?_
    refine rl_nil ?_
    refine WP.ret ?_
    repeat (first | with_reducible refine ret_pass ?_ | with_reducible refine ret_blk ?_ | with_reducible refine scope_ret ?_)
    exact post_rets rfl (vs := [.slice none 0 0, vI 1]) ⟨rfl, rfl, trivial⟩ rfl ⟨fun h => absurd h.1 (by omega), fun _ => ⟨rfl, hm⟩⟩
  ·
    have hq6 := of_decide_eq_false hb
    have hk : k ≤ bs.length := by omega
    refine WP.skip ?_
    refine wp_sr (E := noPanic) noPanic_imp ?_
    refine rl_val rfl (v := (.func (.func 99) #[(vU (at0 : Int))] #[])) (val_move (v := (.func (.func 99) #[(vU (at0 : Int))] #[])) rfl) ?_
    refine rl_val rfl (v := (.pointer (some ⟨c, 0, none⟩))) (val_move (v := (.pointer (some ⟨c, 0, none⟩))) rfl) ?_
    refine rl_val rfl (v := (.pointer (some ⟨c, 0, none⟩))) (val_nilCheck rfl) ?_
    refine rl_val rfl (v := (.pointer (some ⟨c, 1, none⟩))) (val_fieldAddr (d := 1) rfl fo_127_1) ?_
    refine rl_val rfl (v := (.slice ae bs.length ce)) (val_load1 (v := (.slice ae bs.length ce)) (off := 1) rfl ag_125 (hm.getL hcr (by simp)) rfl) ?_
    refine rl_val rfl (v := (vU (k : Int))) (val_move (v := (vU (k : Int))) rfl) ?_
    refine rl_val rfl (v := (.slice ae ((bs.take k).length) ce)) (val_cast (val_sliceHi (h := k) rfl us_125 es_125 rfl (by omega)) (by rw [List.length_take, Nat.min_eq_left hk])) ?_
    refine rl_call rfl (ent_dyn (fst := [(vU (at0 : Int))]) (cap := []) (args := [(vU (at0 : Int)), (.slice ae ((bs.take k).length) ce)]) Tryz.func99 rfl rfl rfl rfl) (link99_ok (bs.take k) (bvs.take k) ae ce at0 _ (fun v hv => hones v (List.mem_of_mem_take hv)) (by simp [hbvl]) (by rw [← entsC_take hk]; have h := (hse.takeHi hk).mem (own2 := []) hm (by simp); simpa [Nat.min_eq_left hk] using h) (by simp; omega)) ?_
    rintro e8 w7 h9
    by_cases hc : 1 ≤ at0 ∧ at0 ≤ (bs.take k).length
    ·
      obtain ⟨vq, rq, rfl, hvq, hmq⟩ := h9.1 hc
      refine callQ_ret ?_
      replace hm := (hm.call hmq).comm
      replace hm : Mem w [] ([] ++ (rq ++ [])) w7 := by simpa only [List.append_assoc, List.nil_append, List.append_nil, List.cons_append] using hm
      refine rl_val rfl (v := vq) (val_extract (v := vq) rfl rfl) ?_
      refine rl_val rfl (v := (vI 0)) (val_extract (v := (vI 0)) rfl rfl) ?_
      refine rl_val rfl (v := vq) (val_assign (v := vq) rfl) ?_
      refine rl_val rfl (v := (vI 0)) (val_assign (v := (vI 0)) rfl) ?_
      refine rl_nil ?_
      refine WP.ret ?_
      repeat (first | with_reducible refine ret_pass ?_ | with_reducible refine ret_blk ?_ | with_reducible refine scope_ret ?_)
      exact post_rets rfl (vs := [vq, vI 0]) ⟨rfl, rfl, trivial⟩ rfl ⟨fun _ => ⟨_, _, rfl, hvq, hm.sub (l2 := rq) (by ((try (simp only [List.append_assoc, List.nil_append, List.append_nil, List.cons_append])); repeat (first | exact List.nil_sublist _ | exact List.Sublist.refl _ | with_reducible refine List.Sublist.cons_cons _ ?_ | with_reducible refine List.Sublist.append (List.Sublist.refl _) ?_ | with_reducible exact List.sublist_append_left _ _ | refine List.Sublist.cons _ ?_ | refine List.Sublist.trans ?_ (List.sublist_append_right _ _))))⟩, fun h => absurd ⟨hk, hc⟩ h⟩
    ·
      obtain ⟨rfl, hmq⟩ := h9.2 hc
      refine callQ_ret ?_
      replace hm := hm.call hmq
      refine rl_val rfl (v := (.slice none 0 0)) (val_extract (v := (.slice none 0 0)) rfl rfl) ?_
      refine rl_val rfl (v := (vI 1)) (val_extract (v := (vI 1)) rfl rfl) ?_
      refine rl_val rfl (v := (.slice none 0 0)) (val_assign (v := (.slice none 0 0)) rfl) ?_
      refine rl_val rfl (v := (vI 1)) (val_assign (v := (vI 1)) rfl) ?_
      refine rl_nil ?_
      refine WP.ret ?_
      repeat (first | with_reducible refine ret_pass ?_ | with_reducible refine ret_blk ?_ | with_reducible refine scope_ret ?_)
      exact post_rets rfl (vs := [.slice none 0 0, vI 1]) ⟨rfl, rfl, trivial⟩ rfl ⟨fun h => absurd h.2 hc, fun _ => ⟨rfl, hm.nil⟩⟩
end Go.Al
namespace Go.Al
open Go Go.RowKit Go.Proofs
set_option linter.unusedVariables false
set_option linter.unusedSimpArgs false
theorem ones_of {bs : List Bytes} {bvs : List Value} {rbs : List (List (Nat × Obj))} (hbl : bvs.length = bs.length) (hrl : rbs.length = bs.length)
    (hbv : ∀ (i : Nat) (b : Bytes) (v : Value) (r : List (Nat × Obj)), bs[i]? = some b → bvs[i]? = some v → rbs[i]? = some r → VecIs v b.length 1 5 (b.map v8) r) : ∀ v ∈ bvs, v.one = true := by
  intro v hv
  obtain ⟨i, hi⟩ := List.mem_iff_getElem?.1 hv
  have hil := (List.getElem?_eq_some_iff.1 hi).1
  exact (hbv i (bs[i]'(by omega)) v (rbs[i]'(by omega)) (by simp) hi (by simp)).isOne
theorem cpath_ok (c k at0 : Nat) (bs : List Bytes) (l : List (Nat × Obj)) (w : World) (hb : bs.length ≤ 256) (hc : ChainIs c bs l) (hl : ∀ p ∈ l, w.heap[p.1]? = some p.2) :
    Calls Tryz.prog 18 [.pointer (some ⟨c, 0, none⟩), vU (at0 : Int), vU (k : Int)].toArray w (fun e w' => (k ≤ bs.length ∧ (at0 < (bs.take k).length) → ∃ v r, e = .returned (.tuple #[v, vI 0]) ∧ VecIs v (pathT ((bs.take k).map leafP) at0).length 32 50 (sumsC (pathT ((bs.take k).map leafP) at0).reverse) r ∧ Mem w [] r w') ∧ (¬ (k ≤ bs.length ∧ (at0 < (bs.take k).length)) → e = .returned (.tuple #[.slice none 0 0, vI 1]) ∧ Mem w [] [] w')) := by
  obtain ⟨f, vf, nf, rf, ve, re, bvs, rbs, rfl, hvf, hnf, hnb, hve, hbl, hrl, hbv⟩ := hc
  have hcr : RowL w c [.pointer (some ⟨f, 0, none⟩), ve] := ⟨127, (0, 0), hl (c, row [.pointer (some ⟨f, 0, none⟩), ve] 127) (by simp)⟩
  have hfr : RowL w f [vI 1, vU (bs.length : Int), vf] := ⟨207, (0, 0), hl (f, row [vI 1, vU (bs.length : Int), vf] 207) (by simp)⟩
  obtain ⟨ae, ce, rfl, hce, _⟩ := hve.form
  have hones : ∀ v ∈ bvs, v.one = true := ones_of hbl hrl hbv
  have hse : SlIs w [] (.slice ae bs.length ce) 97 bs.length (entsC bs bvs) := hve.slIs (fun p hp => ⟨hl p (by simp [hp]), by simp⟩)
  have hm := Mem.init w
  refine calls_enter (n := 15) Tryz.func18 rfl rfl rfl ?_
  refine wp_sr (E := noPanic) noPanic_imp ?_
  refine rl_val rfl (v := (.slice none 0 0)) (val_assign (v := (.slice none 0 0)) rfl) ?_
  refine rl_val rfl (v := (vI 0)) (val_assign (v := (vI 0)) rfl) ?_
  refine rl_nil ?_
  refine wp_sr (E := noPanic) noPanic_imp ?_
  refine rl_val rfl (v := (.pointer (some ⟨c, 0, none⟩))) (val_move (v := (.pointer (some ⟨c, 0, none⟩))) rfl) ?_
  refine rl_val rfl (v := (vU (k : Int))) (val_move (v := (vU (k : Int))) rfl) ?_
  refine rl_val rfl (v := (vU (at0 : Int))) (val_move (v := (vU (at0 : Int))) rfl) ?_
  refine rl_val rfl (v := (.func (.func 98) #[(vU (at0 : Int))] #[])) (val_mkfunc (fst := [vU (at0 : Int)]) (caps := []) rfl (args_cons rfl args_nil) args_nil) ?_
  refine rl_call rfl (ent_static (args := [(.pointer (some ⟨c, 0, none⟩)), (vU (k : Int)), (.func (.func 98) #[(vU (at0 : Int))] #[])]) Tryz.func97 rfl rfl rfl rfl) (first98_ok c f ce k at0 bs bvs ae _ hb hones hbl (hm.getL hcr (by simp)) (hse.mem (own2 := []) hm (by simp))) ?_
  rintro e2 w1 h3
  by_cases hc : k ≤ bs.length ∧ (at0 < (bs.take k).length)
  ·
    obtain ⟨vq, rq, rfl, hvq, hmq⟩ := h3.1 hc
    refine callQ_ret ?_
    replace hm := (hm.call hmq).comm
    replace hm : Mem w [] ([] ++ (rq ++ [])) w1 := by simpa only [List.append_assoc, List.nil_append, List.append_nil, List.cons_append] using hm
    refine rl_val rfl (v := vq) (val_extract (v := vq) rfl rfl) ?_
    refine rl_val rfl (v := (vI 0)) (val_extract (v := (vI 0)) rfl rfl) ?_
    refine rl_val rfl (v := vq) (val_assign (v := vq) rfl) ?_
    refine rl_val rfl (v := (vI 0)) (val_assign (v := (vI 0)) rfl) ?_
    refine rl_nil ?_
    refine WP.ret ?_
    repeat (first | with_reducible refine ret_pass ?_ | with_reducible refine ret_blk ?_ | with_reducible refine scope_ret ?_)
    exact post_rets rfl (vs := [vq, vI 0]) ⟨rfl, rfl, trivial⟩ rfl ⟨fun _ => ⟨_, _, rfl, hvq, hm.sub (l2 := rq) (by ((try (simp only [List.append_assoc, List.nil_append, List.append_nil, List.cons_append])); repeat (first | exact List.nil_sublist _ | exact List.Sublist.refl _ | with_reducible refine List.Sublist.cons_cons _ ?_ | with_reducible refine List.Sublist.append (List.Sublist.refl _) ?_ | with_reducible exact List.sublist_append_left _ _ | refine List.Sublist.cons _ ?_ | refine List.Sublist.trans ?_ (List.sublist_append_right _ _))))⟩, fun h => absurd hc h⟩
  ·
    obtain ⟨rfl, hmq⟩ := h3.2 hc
    refine callQ_ret ?_
    replace hm := hm.call hmq
    refine rl_val rfl (v := (.slice none 0 0)) (val_extract (v := (.slice none 0 0)) rfl rfl) ?_
    refine rl_val rfl (v := (vI 1)) (val_extract (v := (vI 1)) rfl rfl) ?_
    refine rl_val rfl (v := (.slice none 0 0)) (val_assign (v := (.slice none 0 0)) rfl) ?_
    refine rl_val rfl (v := (vI 1)) (val_assign (v := (vI 1)) rfl) ?_
    refine rl_nil ?_
    refine WP.ret ?_
    repeat (first | with_reducible refine ret_pass ?_ | with_reducible refine ret_blk ?_ | with_reducible refine scope_ret ?_)
    exact post_rets rfl (vs := [.slice none 0 0, vI 1]) ⟨rfl, rfl, trivial⟩ rfl ⟨fun h => absurd h hc, fun _ => ⟨rfl, hm.nil⟩⟩
theorem clink_ok (c k at0 : Nat) (bs : List Bytes) (l : List (Nat × Obj)) (w : World) (hb : bs.length ≤ 256) (hc : ChainIs c bs l) (hl : ∀ p ∈ l, w.heap[p.1]? = some p.2) :
    Calls Tryz.prog 19 [.pointer (some ⟨c, 0, none⟩), vU (at0 : Int), vU (k : Int)].toArray w (fun e w' => (k ≤ bs.length ∧ (1 ≤ at0 ∧ at0 ≤ (bs.take k).length) → ∃ v r, e = .returned (.tuple #[v, vI 0]) ∧ VecIs v (linkT ((bs.take k).map leafP) at0 true).length 32 50 (sumsC (linkT ((bs.take k).map leafP) at0 true).reverse) r ∧ Mem w [] r w') ∧ (¬ (k ≤ bs.length ∧ (1 ≤ at0 ∧ at0 ≤ (bs.take k).length)) → e = .returned (.tuple #[.slice none 0 0, vI 1]) ∧ Mem w [] [] w')) := by
  obtain ⟨f, vf, nf, rf, ve, re, bvs, rbs, rfl, hvf, hnf, hnb, hve, hbl, hrl, hbv⟩ := hc
  have hcr : RowL w c [.pointer (some ⟨f, 0, none⟩), ve] := ⟨127, (0, 0), hl (c, row [.pointer (some ⟨f, 0, none⟩), ve] 127) (by simp)⟩
  have hfr : RowL w f [vI 1, vU (bs.length : Int), vf] := ⟨207, (0, 0), hl (f, row [vI 1, vU (bs.length : Int), vf] 207) (by simp)⟩
  obtain ⟨ae, ce, rfl, hce, _⟩ := hve.form
  have hones : ∀ v ∈ bvs, v.one = true := ones_of hbl hrl hbv
  have hse : SlIs w [] (.slice ae bs.length ce) 97 bs.length (entsC bs bvs) := hve.slIs (fun p hp => ⟨hl p (by simp [hp]), by simp⟩)
  have hm := Mem.init w
  refine calls_enter (n := 15) Tryz.func19 rfl rfl rfl ?_
  refine wp_sr (E := noPanic) noPanic_imp ?_
  refine rl_val rfl (v := (.slice none 0 0)) (val_assign (v := (.slice none 0 0)) rfl) ?_
  refine rl_val rfl (v := (vI 0)) (val_assign (v := (vI 0)) rfl) ?_
  refine rl_nil ?_
  refine wp_sr (E := noPanic) noPanic_imp ?_
  refine rl_val rfl (v := (.pointer (some ⟨c, 0, none⟩))) (val_move (v := (.pointer (some ⟨c, 0, none⟩))) rfl) ?_
  refine rl_val rfl (v := (vU (k : Int))) (val_move (v := (vU (k : Int))) rfl) ?_
  refine rl_val rfl (v := (vU (at0 : Int))) (val_move (v := (vU (at0 : Int))) rfl) ?_
  refine rl_val rfl (v := (.func (.func 99) #[(vU (at0 : Int))] #[])) (val_mkfunc (fst := [vU (at0 : Int)]) (caps := []) rfl (args_cons rfl args_nil) args_nil) ?_
  refine rl_call rfl (ent_static (args := [(.pointer (some ⟨c, 0, none⟩)), (vU (k : Int)), (.func (.func 99) #[(vU (at0 : Int))] #[])]) Tryz.func97 rfl rfl rfl rfl) (first99_ok c f ce k at0 bs bvs ae _ hb hones hbl (hm.getL hcr (by simp)) (hse.mem (own2 := []) hm (by simp))) ?_
  rintro e2 w1 h3
  by_cases hc : k ≤ bs.length ∧ (1 ≤ at0 ∧ at0 ≤ (bs.take k).length)
  ·
    obtain ⟨vq, rq, rfl, hvq, hmq⟩ := h3.1 hc
    refine callQ_ret ?_
    replace hm := (hm.call hmq).comm
    replace hm : Mem w [] ([] ++ (rq ++ [])) w1 := by simpa only [List.append_assoc, List.nil_append, List.append_nil, List.cons_append] using hm
    refine rl_val rfl (v := vq) (val_extract (v := vq) rfl rfl) ?_
    refine rl_val rfl (v := (vI 0)) (val_extract (v := (vI 0)) rfl rfl) ?_
    refine rl_val rfl (v := vq) (val_assign (v := vq) rfl) ?_
    refine rl_val rfl (v := (vI 0)) (val_assign (v := (vI 0)) rfl) ?_
    refine rl_nil ?_
    refine WP.ret ?_
    repeat (first | with_reducible refine ret_pass ?_ | with_reducible refine ret_blk ?_ | with_reducible refine scope_ret ?_)
    exact post_rets rfl (vs := [vq, vI 0]) ⟨rfl, rfl, trivial⟩ rfl ⟨fun _ => ⟨_, _, rfl, hvq, hm.sub (l2 := rq) (by ((try (simp only [List.append_assoc, List.nil_append, List.append_nil, List.cons_append])); repeat (first | exact List.nil_sublist _ | exact List.Sublist.refl _ | with_reducible refine List.Sublist.cons_cons _ ?_ | with_reducible refine List.Sublist.append (List.Sublist.refl _) ?_ | with_reducible exact List.sublist_append_left _ _ | refine List.Sublist.cons _ ?_ | refine List.Sublist.trans ?_ (List.sublist_append_right _ _))))⟩, fun h => absurd hc h⟩
  ·
    obtain ⟨rfl, hmq⟩ := h3.2 hc
    refine callQ_ret ?_
    replace hm := hm.call hmq
    refine rl_val rfl (v := (.slice none 0 0)) (val_extract (v := (.slice none 0 0)) rfl rfl) ?_
    refine rl_val rfl (v := (vI 1)) (val_extract (v := (vI 1)) rfl rfl) ?_
    refine rl_val rfl (v := (.slice none 0 0)) (val_assign (v := (.slice none 0 0)) rfl) ?_
    refine rl_val rfl (v := (vI 1)) (val_assign (v := (vI 1)) rfl) ?_
    refine rl_nil ?_
    refine WP.ret ?_
    repeat (first | with_reducible refine ret_pass ?_ | with_reducible refine ret_blk ?_ | with_reducible refine scope_ret ?_)
    exact post_rets rfl (vs := [.slice none 0 0, vI 1]) ⟨rfl, rfl, trivial⟩ rfl ⟨fun h => absurd h hc, fun _ => ⟨rfl, hm.nil⟩⟩
end Go.Al
namespace Go.Al
open Go Go.RowKit Go.Proofs
set_option linter.unusedVariables false
set_option linter.unusedSimpArgs false
theorem rcut_ok (n : Nat) (w : World) (hn : 2 ≤ n) (hb : n ≤ 4611686018427387904) : Calls Tryz.prog 142 [vU (n : Int)].toArray w (Ret w (vU (cut n : Int))) := by
  have hm := Mem.init w
  refine calls_enter (n := 12) Tryz.func142 rfl rfl rfl ?_
  refine wp_sr (E := noPanic) noPanic_imp ?_
  refine rl_val rfl (v := (vU 0)) (val_assign (v := (vU 0)) rfl) ?_
  refine rl_nil ?_
  refine wp_sr (E := noPanic) noPanic_imp ?_
  refine rl_val rfl (v := (vU 1)) (val_assign (v := (vU 1)) rfl) ?_
  refine rl_nil ?_
  refine WP.seq (WP.block ?_)
  refine WP.loop (fun mz τ w' => ∃ (e : Nat), n - 2 ^ e = mz ∧ 2 ^ e < n ∧ Mem w [] [] w' ∧ τ 0 = (vU (n : Int)) ∧ τ 3 = (vU ((2 ^ e : Nat) : Int))) (n - 2 ^ 0) ?_ ?_
  · exact ⟨0, rfl, by simp; omega, hm, rfl, (by first | rfl | (refine int_eq ?_; simp; try omega) | (refine int_eq ?_; omega))⟩
  · rintro kk2 τ wl1 ⟨e, hk3, he, hm, hs4, hs5⟩
    have hpe : 0 < 2 ^ e := Nat.two_pow_pos e
    refine WP.seq ?_
    refine wp_sr (E := noPanic) noPanic_imp ?_
    refine rl_val rfl (v := (vU ((2 ^ e : Nat) : Int))) (val_move (v := (vU ((2 ^ e : Nat) : Int))) hs5) ?_
    refine rl_val rfl (v := (vU (n : Int))) (val_move (v := (vU (n : Int))) hs4) ?_
    refine rl_val rfl (v := (vU ((2 ^ e : Nat) : Int))) (val_move (v := (vU ((2 ^ e : Nat) : Int))) hs5) ?_
    refine rl_val rfl (v := (vU ((n : Int) - ((2 ^ e : Nat) : Int)))) (val_subU (p := (n : Int)) (q := ((2 ^ e : Nat) : Int)) rfl rfl (by omega)) ?_
    refine rl_val rfl (v := (.bool (decide ((((2 ^ e : Nat) : Int) : Int) < (n : Int) - ((2 ^ e : Nat) : Int))))) (val_lt (p := ((2 ^ e : Nat) : Int)) (q := (n : Int) - ((2 ^ e : Nat) : Int)) rfl rfl) ?_
    refine rl_nil ?_
    refine WP.cond (b := decide ((((2 ^ e : Nat) : Int) : Int) < (n : Int) - ((2 ^ e : Nat) : Int))) rfl (fun hb => ?_) (fun hb => ?_)
    ·
      have hq6 := of_decide_eq_true hb
      have h2e : 2 * 2 ^ e < n := by omega
      refine WP.skip ?_
      refine WP.block ?_
      refine wp_r (E := noPanic) noPanic_imp ?_
      refine rl_val rfl (v := (vU ((2 ^ e : Nat) : Int))) (val_move (v := (vU ((2 ^ e : Nat) : Int))) hs5) ?_
      refine rl_val rfl (v := (vU ((2 ^ (e + 1) : Nat) : Int))) (val_cast (val_mulU (p := 2) (q := ((2 ^ e : Nat) : Int)) rfl rfl (by omega)) (int_eq (by rw [Nat.pow_succ]; omega))) ?_
      refine rl_val rfl (v := (vU ((2 ^ (e + 1) : Nat) : Int))) (val_assign (v := (vU ((2 ^ (e + 1) : Nat) : Int))) rfl) ?_
      refine rl_nil ?_
      exact ⟨n - 2 ^ (e + 1), by rw [Nat.pow_succ]; omega, ⟨e + 1, rfl, by rw [Nat.pow_succ]; omega, hm, hs4, rfl⟩⟩
    ·
      have hq7 := of_decide_eq_false hb
      have hcut : cut n = 2 ^ e := by have h := top_uniq (n := n - 1) (e := e) (by omega) (by omega); unfold top at h; unfold cut; exact h
      refine WP.exit ?_
      repeat (first | with_reducible refine exit_pass ?_ | with_reducible refine exit_other rfl ?_)
      refine blk_here ?_
      refine wp_sr (E := noPanic) noPanic_imp ?_
      refine rl_val rfl (v := (vU ((2 ^ e : Nat) : Int))) (val_move (v := (vU ((2 ^ e : Nat) : Int))) hs5) ?_
      refine rl_val rfl (v := (vU ((2 ^ e : Nat) : Int))) (val_assign (v := (vU ((2 ^ e : Nat) : Int))) rfl) ?_
      refine rl_nil ?_
      exact WP.ret (post_rets rfl (vs := [vU (cut n : Int)]) ⟨by rw [hcut]; exact rfl, trivial⟩ rfl ⟨rfl, hm⟩)
end Go.Al
namespace Go.Al
open Go Go.RowKit Go.Proofs
set_option linter.unusedVariables false
set_option linter.unusedSimpArgs false
theorem endL_len (m : Nat) : (endL m).length = 1 + (pads m).length + 8 := by simp [endL]; omega
theorem rend_ok (m : Nat) (w : World) (hb : m ≤ 1099511627776) : Calls Tryz.prog 212 [vI (m : Int)].toArray w (RetV w (endL m).length 1 5 ((endL m).map v8)) := by
  have hm := Mem.init w
  refine calls_enter (n := 32) Tryz.func212 rfl rfl rfl ?_
  refine wp_sr (E := noPanic) noPanic_imp ?_
  refine rl_val rfl (v := (.slice none 0 0)) (val_assign (v := (.slice none 0 0)) rfl) ?_
  refine rl_nil ?_
  refine wp_sr (E := noPanic) noPanic_imp ?_
  refine rl_buildSlice (vs := [(v8 128)]) (cs := [(v8 128)]) rfl ez_38 rfl (parts_cons rfl (parts_nil)) rfl (by decide) (ones_size (ones_cons rfl (ones_nil))) (ones_flat (ones_cons rfl (ones_nil))) hm ?_
  intro b1 w2 hm
  refine rl_val rfl (v := (.slice (some ⟨b1, 0, none⟩) 1 1)) (val_assign (v := (.slice (some ⟨b1, 0, none⟩) 1 1)) rfl) ?_
  refine rl_nil ?_
  refine WP.seq (WP.block ?_)
  refine WP.loop (fun mz τ w' => ∃ (j : Nat) (vp : Value) (rp : List (Nat × Obj)), 64 - j = mz ∧ j ≤ (120 - (m + 1) % 64) % 64 ∧ VecIs vp (1 + j) 1 5 (([128] ++ List.replicate j (0 : UInt8)).map v8) rp ∧ Mem w [] ([] ++ (rp ++ [])) w' ∧ τ 0 = (vI (m : Int)) ∧ τ 3 = vp) (64) ?_ ?_
  · exact ⟨0, (.slice (some ⟨b1, 0, none⟩) 1 1), [(b1, row ([(v8 128)]) 5)], rfl, by omega, VecIs.mk0 (by simp [maxLen_val]) (by simp), (by simpa using hm), rfl, rfl⟩
  · rintro kk4 τ wl3 ⟨j, vp, rp, hk5, hj, hvp, hm, hs6, hs7⟩
    obtain ⟨ap, cp, rfl, hcp, _⟩ := hvp.form
    refine WP.seq ?_
    refine wp_sr (E := noPanic) noPanic_imp ?_
    refine rl_val rfl (v := (vI (m : Int))) (val_move (v := (vI (m : Int))) hs6) ?_
    refine rl_val rfl (v := (.slice ap (1 + j) cp)) (val_move (v := (.slice ap (1 + j) cp)) hs7) ?_
    refine rl_val rfl (v := (vI ((1 + j) : Nat))) (val_lenSl (t := 38) rfl us_38 rfl) ?_
    refine rl_val rfl (v := (vI ((m : Int) + ((1 + j) : Nat)))) (val_addI (p := (m : Int)) (q := ((1 + j) : Nat)) rfl rfl (by omega)) ?_
    refine rl_val rfl (v := (vI (((m : Int) + ((1 + j) : Nat)) + 8))) (val_addI (p := (m : Int) + ((1 + j) : Nat)) (q := 8) rfl rfl (by omega)) ?_
    refine rl_val rfl (v := (vI ((((m : Int) + ((1 + j) : Nat)) + 8) % 64))) (val_remI (p := ((m : Int) + ((1 + j) : Nat)) + 8) (q := 64) rfl rfl (by omega)) ?_
    refine rl_val rfl (v := (.bool (decide (((((m : Int) + ((1 + j) : Nat)) + 8) % 64 : Int) ≠ 0)))) (val_ne (p := (((m : Int) + ((1 + j) : Nat)) + 8) % 64) (q := 0) rfl rfl) ?_
    refine rl_nil ?_
    refine WP.cond (b := decide (((((m : Int) + ((1 + j) : Nat)) + 8) % 64 : Int) ≠ 0)) rfl (fun hb => ?_) (fun hb => ?_)
    ·
      have hq8 := of_decide_eq_true hb
      have hj2 : j + 1 ≤ (120 - (m + 1) % 64) % 64 := by omega
      refine WP.skip ?_
      refine WP.block ?_
      refine wp_r (E := noPanic) noPanic_imp ?_
      refine rl_val rfl (v := (.slice ap (1 + j) cp)) (val_move (v := (.slice ap (1 + j) cp)) hs7) ?_
      refine rl_buildSlice (vs := [(v8 0)]) (cs := [(v8 0)]) rfl ez_38 rfl (parts_cons rfl (parts_nil)) rfl (by decide) (ones_size (ones_cons rfl (ones_nil))) (ones_flat (ones_cons rfl (ones_nil))) hm ?_
      intro b9 w10 hm
      refine rl_appendS (l1 := ([(b9, row ([(v8 0)]) 5)] ++ [])) (l2 := []) (r := rp) (v := (.slice ap (1 + j) cp)) (xs := (([128] ++ List.replicate j (0 : UInt8)).map v8)) (news := [(v8 0)]) rfl ez_38 rfl (by decide) (by decide) rfl rfl hvp (by simpa only [List.append_assoc, List.nil_append, List.append_nil, List.cons_append] using hm) (SlIs.of (own := []) (by simp) (hm.row (i := 0) rfl).l rfl (by simp) (by omega)) (ones_cons rfl ones_nil) (by omega) ?_
      intro v11 r12 w14 hv13 hm
      replace hm : Mem w [] ([(b9, row ([(v8 0)]) 5)] ++ (r12 ++ [])) w14 := by simpa only [List.append_assoc, List.nil_append, List.append_nil, List.cons_append] using hm
      refine rl_val rfl (v := v11) (val_assign (v := v11) rfl) ?_
      refine rl_nil ?_
      replace hm := hm.sub (l2 := [] ++ (r12 ++ [])) (by ((try (simp only [List.append_assoc, List.nil_append, List.append_nil, List.cons_append])); repeat (first | exact List.nil_sublist _ | exact List.Sublist.refl _ | with_reducible refine List.Sublist.cons_cons _ ?_ | with_reducible refine List.Sublist.append (List.Sublist.refl _) ?_ | with_reducible exact List.sublist_append_left _ _ | refine List.Sublist.cons _ ?_ | refine List.Sublist.trans ?_ (List.sublist_append_right _ _))))
      exact ⟨64 - (j + 1), by omega, ⟨j + 1, v11, r12, rfl, by omega, by rw [List.replicate_succ', ← List.append_assoc, List.map_append]; exact hv13, hm, hs6, rfl⟩⟩
    ·
      have hq15 := of_decide_eq_false hb
      have hj2 : j = (120 - (m + 1) % 64) % 64 := by omega
      subst hj2
      refine WP.exit ?_
      repeat (first | with_reducible refine exit_pass ?_ | with_reducible refine exit_other rfl ?_)
      refine blk_here ?_
      refine WP.seq ?_
      refine wp_sr (E := noPanic) noPanic_imp ?_
      refine rl_val rfl (v := (vI 7)) (val_assign (v := (vI 7)) rfl) ?_
      refine rl_nil ?_
      refine WP.block ?_
      refine WP.loop (fun mz τ w' => ∃ (i : Nat) (vq : Value) (rq : List (Nat × Obj)), 8 - i = mz ∧ i ≤ 8 ∧ VecIs vq (1 + (pads m).length + i) 1 5 (([128] ++ pads m ++ lens m i).map v8) rq ∧ Mem w [] ([] ++ (rq ++ [])) w' ∧ τ 0 = (vI (m : Int)) ∧ τ 3 = vq ∧ τ 4 = (vI (7 - (i : Int)))) (8) ?_ ?_
      · exact ⟨0, (.slice ap (1 + (120 - (m + 1) % 64) % 64) cp), rp, rfl, by omega, by simpa [pads, lens] using hvp, hm, hs6, hs7, (by first | rfl | (refine int_eq ?_; simp; try omega) | (refine int_eq ?_; omega))⟩
      · rintro kk17 τ wl16 ⟨i, vq, rq, hk18, hi8, hvq, hm, hs19, hs20, hs21⟩
        refine WP.seq ?_
        refine wp_sr (E := noPanic) noPanic_imp ?_
        refine rl_val rfl (v := (vI (7 - (i : Int)))) (val_move (v := (vI (7 - (i : Int)))) hs21) ?_
        refine rl_val rfl (v := (.bool (decide ((0 : Int) ≤ 7 - (i : Int))))) (val_ge (p := 7 - (i : Int)) (q := 0) rfl rfl) ?_
        refine rl_nil ?_
        refine WP.cond (b := decide ((0 : Int) ≤ 7 - (i : Int))) rfl (fun hb => ?_) (fun hb => ?_)
        ·
          have hq22 := of_decide_eq_true hb
          have hpl := pads_len m
          have hi9 : i < 8 := by omega
          refine WP.skip ?_
          refine WP.seq (WP.block ?_)
          refine wp_r (E := noPanic) noPanic_imp ?_
          refine rl_val rfl (v := vq) (val_move (v := vq) hs20) ?_
          refine rl_val rfl (v := (vI (m : Int))) (val_move (v := (vI (m : Int))) hs19) ?_
          refine rl_val rfl (v := (vI (8 * (m : Int)))) (val_mulI (p := 8) (q := (m : Int)) rfl rfl (by omega)) ?_
          refine rl_val rfl (v := (vU (8 * (m : Int)))) (val_cast (val_conv ut_3 ui_44 rfl) (by rw [wrapU (by omega) (by omega)])) ?_
          refine rl_val rfl (v := (vI (7 - (i : Int)))) (val_move (v := (vI (7 - (i : Int)))) hs21) ?_
          refine rl_val rfl (v := (vI (8 * (7 - (i : Int))))) (val_mulI (p := 8) (q := 7 - (i : Int)) rfl rfl (by omega)) ?_
          refine rl_val rfl (v := (vU (8 * (7 - (i : Int))))) (val_cast (val_conv ut_3 ui_190 rfl) (by rw [wrapU (by omega) (by omega)])) ?_
          refine rl_val rfl (v := (vU ((8 * m / 2 ^ (56 - 8 * i) : Nat) : Int))) (val_cast (val_shr (p := ((8 * m : Nat) : Int)) (q := ((56 - 8 * i : Nat) : Int)) (by refine Eq.trans rfl (int_eq (by omega))) (by refine Eq.trans rfl (int_eq (by omega))) (by omega)) (by rw [shr_nat _ _ (by omega)])) ?_
          refine rl_val rfl (v := (v8 (lenB m i))) (val_cast (val_conv ut_44 ui_5 rfl) (by rw [u8_nat]; rfl)) ?_
          refine rl_buildSlice (vs := [(v8 (lenB m i))]) (cs := [(v8 (lenB m i))]) rfl ez_38 rfl (parts_cons rfl (parts_nil)) rfl (by decide) (ones_size (ones_cons rfl (ones_nil))) (ones_flat (ones_cons rfl (ones_nil))) hm ?_
          intro b23 w24 hm
          refine rl_appendS (l1 := ([(b23, row ([(v8 (lenB m i))]) 5)] ++ [])) (l2 := []) (r := rq) (v := vq) (xs := (([128] ++ pads m ++ lens m i).map v8)) (news := [(v8 (lenB m i))]) rfl ez_38 rfl (by decide) (by decide) rfl rfl hvq (by simpa only [List.append_assoc, List.nil_append, List.append_nil, List.cons_append] using hm) (SlIs.of (own := []) (by simp) (hm.row (i := 0) rfl).l rfl (by simp) (by omega)) (ones_cons rfl ones_nil) (by omega) ?_
          intro v25 r26 w28 hv27 hm
          replace hm : Mem w [] ([(b23, row ([(v8 (lenB m i))]) 5)] ++ (r26 ++ [])) w28 := by simpa only [List.append_assoc, List.nil_append, List.append_nil, List.cons_append] using hm
          refine rl_val rfl (v := v25) (val_assign (v := v25) rfl) ?_
          refine rl_nil ?_
          refine wp_r (E := noPanic) noPanic_imp ?_
          refine rl_val rfl (v := (vI (7 - (i : Int)))) (val_move (v := (vI (7 - (i : Int)))) hs21) ?_
          refine rl_val rfl (v := (vI ((7 - (i : Int)) - 1))) (val_subI (p := 7 - (i : Int)) (q := 1) rfl rfl (by omega)) ?_
          refine rl_val rfl (v := (vI ((7 - (i : Int)) - 1))) (val_assign (v := (vI ((7 - (i : Int)) - 1))) rfl) ?_
          refine rl_nil ?_
          replace hm := hm.sub (l2 := [] ++ (r26 ++ [])) (by ((try (simp only [List.append_assoc, List.nil_append, List.append_nil, List.cons_append])); repeat (first | exact List.nil_sublist _ | exact List.Sublist.refl _ | with_reducible refine List.Sublist.cons_cons _ ?_ | with_reducible refine List.Sublist.append (List.Sublist.refl _) ?_ | with_reducible exact List.sublist_append_left _ _ | refine List.Sublist.cons _ ?_ | refine List.Sublist.trans ?_ (List.sublist_append_right _ _))))
          exact ⟨8 - (i + 1), by omega, ⟨i + 1, v25, r26, rfl, by omega, by rw [lens_succ, ← List.append_assoc, List.map_append]; exact hv27, hm, hs19, rfl, (by first | rfl | (refine int_eq ?_; simp; try omega) | (refine int_eq ?_; omega))⟩⟩
        ·
          have hq29 := of_decide_eq_false hb
          have hpl := pads_len m
          obtain rfl : i = 8 := by omega
          refine WP.exit ?_
          repeat (first | with_reducible refine exit_pass ?_ | with_reducible refine exit_other rfl ?_)
          refine blk_here ?_
          refine wp_sr (E := noPanic) noPanic_imp ?_
          refine rl_val rfl (v := vq) (val_move (v := vq) hs20) ?_
          refine rl_val rfl (v := vq) (val_assign (v := vq) rfl) ?_
          refine rl_nil ?_
          exact WP.ret (post_rets rfl (vs := [vq]) ⟨rfl, trivial⟩ rfl ⟨_, _, rfl, by rw [endL_len, endL]; exact hvq, by simpa using hm⟩)
end Go.Al
namespace Go.Al
open Go Go.RowKit Go.Proofs
set_option linter.unusedVariables false
set_option linter.unusedSimpArgs false
theorem rot_or (x c : UInt32) : rot x c = x >>> c ||| x <<< (32 - c) := by unfold rot; exact UInt32.or_comm _ _
theorem sub32r {c : UInt32} (h2 : c.toNat < 32) : (32 - c).toNat = 32 - c.toNat := by rw [UInt32.toNat_sub_of_le _ _ (by rw [UInt32.le_iff_toNat_le]; show c.toNat ≤ 32; omega)]; rfl
theorem rot_sub {c : UInt32} (h0 : 0 < c.toNat) (h2 : c.toNat < 32) : (32 : Int) - (c.toNat : Int) = ((32 - c).toNat : Int) := by rw [sub32r h2]; omega
theorem rot_lt {c : UInt32} (h0 : 0 < c.toNat) (h2 : c.toNat < 32) : 32 - c < 32 := by rw [UInt32.lt_iff_toNat_lt, sub32r h2]; show 32 - c.toNat < 32; omega
theorem rr_ok (x c : UInt32) (h0 : 0 < c.toNat) (h2 : c.toNat < 32) (w : World) : Calls Tryz.prog 270 [v32 x, vI (c.toNat : Int)].toArray w (Ret w (v32 (rot x c))) := by
  have hlt : c < 32 := h2
  have hm := Mem.init w
  refine calls_enter (n := 15) Tryz.func270 rfl rfl rfl ?_
  refine wp_sr (E := noPanic) noPanic_imp ?_
  refine rl_val rfl (v := (v32 0)) (val_assign (v := (v32 0)) rfl) ?_
  refine rl_nil ?_
  refine wp_sr (E := noPanic) noPanic_imp ?_
  refine rl_val rfl (v := (v32 x)) (val_move (v := (v32 x)) rfl) ?_
  refine rl_val rfl (v := (vI (c.toNat : Int))) (val_move (v := (vI (c.toNat : Int))) rfl) ?_
  refine rl_val rfl (v := (vU (c.toNat : Int))) (val_cast (val_conv ut_3 ui_190 rfl) (by rw [wrapU (by omega) (by omega)])) ?_
  refine rl_val rfl (v := (v32 (x >>> c))) (val_shr32 (a := x) c rfl rfl rfl hlt) ?_
  refine rl_val rfl (v := (v32 x)) (val_move (v := (v32 x)) rfl) ?_
  refine rl_val rfl (v := (vI (c.toNat : Int))) (val_move (v := (vI (c.toNat : Int))) rfl) ?_
  refine rl_val rfl (v := (vI (32 - (c.toNat : Int)))) (val_subI (p := 32) (q := (c.toNat : Int)) rfl rfl (by omega)) ?_
  refine rl_val rfl (v := (vU (32 - (c.toNat : Int)))) (val_cast (val_conv ut_3 ui_190 rfl) (by rw [wrapU (by omega) (by omega)])) ?_
  refine rl_val rfl (v := (v32 (x <<< (32 - c)))) (val_shl32 (a := x) (32 - c) rfl rfl (rot_sub h0 h2) (rot_lt h0 h2)) ?_
  refine rl_val rfl (v := (v32 ((x >>> c) ||| (x <<< (32 - c))))) (val_or32 (a := x >>> c) (b := x <<< (32 - c)) rfl rfl) ?_
  refine rl_val rfl (v := (v32 ((x >>> c) ||| (x <<< (32 - c))))) (val_assign (v := (v32 ((x >>> c) ||| (x <<< (32 - c))))) rfl) ?_
  refine rl_nil ?_
  exact WP.ret (post_rets rfl (vs := [v32 (rot x c)]) ⟨by rw [rot_or]; exact rfl, trivial⟩ rfl ⟨rfl, hm⟩)
end Go.Al
namespace Go.Al
open Go Go.RowKit Go.Proofs
set_option linter.unusedVariables false
set_option linter.unusedSimpArgs false
theorem sub8 (a b : UInt8) : Value.int .u8 (IntKind.u8.wrap ((a.toNat : Int) - (b.toNat : Int))) = v8 (a - b) := by
  show Value.int .u8 _ = Value.int .u8 ((a - b).toNat : Int)
  congr 1
  have ha := a.toNat_lt
  have hb := b.toNat_lt
  rw [UInt8.toNat_sub]
  simp [IntKind.wrap, IntKind.bits, IntKind.signed]
  omega
def digitP (c : UInt8) : UInt32 := if 97 ≤ c.toNat then (c - 97).toUInt32 + 10 else (c - 48).toUInt32
theorem digit_ok (c : UInt8) (w : World) : Calls Tryz.prog 288 [v8 c].toArray w (Ret w (v32 (digitP c))) := by
  have hm := Mem.init w
  refine calls_enter (n := 12) Tryz.func288 rfl rfl rfl ?_
  refine wp_sr (E := noPanic) noPanic_imp ?_
  refine rl_val rfl (v := (v32 0)) (val_assign (v := (v32 0)) rfl) ?_
  refine rl_nil ?_
  refine WP.seq ?_
  refine wp_sr (E := noPanic) noPanic_imp ?_
  refine rl_val rfl (v := (v8 c)) (val_move (v := (v8 c)) rfl) ?_
  refine rl_val rfl (v := (.bool (decide ((97 : Int) ≤ ((c).toNat : Int))))) (val_ge (p := ((c).toNat : Int)) (q := 97) rfl rfl) ?_
  refine rl_nil ?_
  refine WP.cond (b := decide ((97 : Int) ≤ ((c).toNat : Int))) rfl (fun hb => ?_) (fun hb => ?_)
  ·
    have hq1 := of_decide_eq_true hb
    have hc : 97 ≤ c.toNat := by omega
    refine wp_sr (E := noPanic) noPanic_imp ?_
    refine rl_val rfl (v := (v8 c)) (val_move (v := (v8 c)) rfl) ?_
    refine rl_val rfl (v := (v8 (c - 97))) (val_cast (val_sub (p := (c.toNat : Int)) (q := ((97 : UInt8).toNat : Int)) rfl rfl) (by rw [sub8])) ?_
    refine rl_val rfl (v := (v32 ((c - 97).toUInt32))) (val_cast (val_conv ut_5 ui_219 rfl) (by simp [wrap32u8])) ?_
    refine rl_val rfl (v := (v32 (((c - 97).toUInt32) + 10))) (val_add32 (a := (c - 97).toUInt32) (b := 10) rfl rfl) ?_
    refine rl_val rfl (v := (v32 (((c - 97).toUInt32) + 10))) (val_assign (v := (v32 (((c - 97).toUInt32) + 10))) rfl) ?_
    refine rl_nil ?_
    refine WP.ret ?_
    repeat (first | with_reducible refine ret_pass ?_ | with_reducible refine ret_blk ?_ | with_reducible refine scope_ret ?_)
    exact post_rets rfl (vs := [v32 (digitP c)]) ⟨by unfold digitP; rw [if_pos hc]; exact rfl, trivial⟩ rfl ⟨rfl, hm⟩
  ·
    have hq2 := of_decide_eq_false hb
    have hc : ¬ 97 ≤ c.toNat := by omega
    refine WP.skip ?_
    refine wp_sr (E := noPanic) noPanic_imp ?_
    refine rl_val rfl (v := (v8 c)) (val_move (v := (v8 c)) rfl) ?_
    refine rl_val rfl (v := (v8 (c - 48))) (val_cast (val_sub (p := (c.toNat : Int)) (q := ((48 : UInt8).toNat : Int)) rfl rfl) (by rw [sub8])) ?_
    refine rl_val rfl (v := (v32 ((c - 48).toUInt32))) (val_cast (val_conv ut_5 ui_219 rfl) (by simp [wrap32u8])) ?_
    refine rl_val rfl (v := (v32 ((c - 48).toUInt32))) (val_assign (v := (v32 ((c - 48).toUInt32))) rfl) ?_
    refine rl_nil ?_
    refine WP.ret ?_
    repeat (first | with_reducible refine ret_pass ?_ | with_reducible refine ret_blk ?_ | with_reducible refine scope_ret ?_)
    exact post_rets rfl (vs := [v32 (digitP c)]) ⟨by unfold digitP; rw [if_neg hc]; exact rfl, trivial⟩ rfl ⟨rfl, hm⟩
end Go.Al
namespace Go.Al
open Go Go.RowKit Go.Proofs
set_option linter.unusedVariables false
set_option linter.unusedSimpArgs false
/-- The k-th digit of the table. -/
def adB (k : Nat) : UInt8 := let d := ((Kat (k / 8) >>> UInt32.ofNat (28 - 4 * (k % 8))) &&& 15).toUInt8; if d.toNat < 10 then 48 + d else 87 + d
def hexP (t : Nat) : Nat → UInt32
  | 0 => 0
  | j + 1 => 16 * hexP t j + digitP (adB (8 * t + j))
theorem hexP_8 (t : Nat) (ht : t < 64) : hexP t 8 = Kat t := by revert t; decide +kernel
theorem all512 (s : ByteArray) (h : ∀ y, y < 512 → s[y]? = some (adB y)) (x : Nat) (hx : x < 512) : s[x]? = some (adB x) := h x hx
theorem added_ok (t : Nat) (ht : t < 64) (w : World) : Calls Tryz.prog 271 [vI (t : Int)].toArray w (Ret w (v32 (Kat t))) := by
  have hm := Mem.init w
  refine calls_enter (n := 21) Tryz.func271 rfl rfl rfl ?_
  refine wp_sr (E := noPanic) noPanic_imp ?_
  refine rl_val rfl (v := (v32 0)) (val_assign (v := (v32 0)) rfl) ?_
  refine rl_nil ?_
  refine wp_sr (E := noPanic) noPanic_imp ?_
  refine rl_val rfl (v := (v32 0)) (val_assign (v := (v32 0)) rfl) ?_
  refine rl_nil ?_
  refine WP.seq ?_
  refine wp_sr (E := noPanic) noPanic_imp ?_
  refine rl_val rfl (v := (vI (t : Int))) (val_move (v := (vI (t : Int))) rfl) ?_
  refine rl_val rfl (v := (vI ((8 * t + 0 : Nat) : Int))) (val_cast (val_mulI (p := 8) (q := (t : Int)) rfl rfl (by omega)) (int_eq (by omega))) ?_
  refine rl_val rfl (v := (vI ((8 * t + 0 : Nat) : Int))) (val_assign (v := (vI ((8 * t + 0 : Nat) : Int))) rfl) ?_
  refine rl_nil ?_
  refine WP.block ?_
  refine WP.loop (fun mz τ w' => ∃ (j : Nat), 8 - j = mz ∧ j ≤ 8 ∧ Mem w [] [] w' ∧ τ 0 = (vI (t : Int)) ∧ τ 3 = (v32 (hexP t j)) ∧ τ 4 = (vI ((8 * t + j : Nat) : Int))) (8) ?_ ?_
  · exact ⟨0, rfl, by omega, hm, rfl, rfl, (by first | rfl | (refine int_eq ?_; simp; try omega) | (refine int_eq ?_; omega))⟩
  · rintro kk2 τ wl1 ⟨j, hk3, hj, hm, hs4, hs5, hs6⟩
    refine WP.seq ?_
    refine wp_sr (E := noPanic) noPanic_imp ?_
    refine rl_val rfl (v := (vI ((8 * t + j : Nat) : Int))) (val_move (v := (vI ((8 * t + j : Nat) : Int))) hs6) ?_
    refine rl_val rfl (v := (vI (t : Int))) (val_move (v := (vI (t : Int))) hs4) ?_
    refine rl_val rfl (v := (vI (8 * (t : Int)))) (val_mulI (p := 8) (q := (t : Int)) rfl rfl (by omega)) ?_
    refine rl_val rfl (v := (vI ((8 * (t : Int)) + 8))) (val_addI (p := 8 * (t : Int)) (q := 8) rfl rfl (by omega)) ?_
    refine rl_val rfl (v := (.bool (decide ((((8 * t + j : Nat) : Int) : Int) < (8 * (t : Int)) + 8)))) (val_lt (p := ((8 * t + j : Nat) : Int)) (q := (8 * (t : Int)) + 8) rfl rfl) ?_
    refine rl_nil ?_
    refine WP.cond (b := decide ((((8 * t + j : Nat) : Int) : Int) < (8 * (t : Int)) + 8)) rfl (fun hb => ?_) (fun hb => ?_)
    ·
      have hq7 := of_decide_eq_true hb
      have hj8 : j < 8 := by omega
      refine WP.skip ?_
      refine WP.seq (WP.block ?_)
      refine wp_r (E := noPanic) noPanic_imp ?_
      refine rl_val rfl (v := (v32 (hexP t j))) (val_move (v := (v32 (hexP t j))) hs5) ?_
      refine rl_val rfl (v := (v32 (16 * (hexP t j)))) (val_mul32 (a := 16) (b := hexP t j) rfl rfl) ?_
      refine rl_val rfl (v := (vI ((8 * t + j : Nat) : Int))) (val_move (v := (vI ((8 * t + j : Nat) : Int))) hs6) ?_
      refine rl_val rfl (v := (v8 (adB (8 * t + j)))) (val_indexStr (i := ((8 * t + j : Nat) : Int)) (c := adB (8 * t + j)) rfl rfl ust_9 (by omega) (by rw [Int.toNat_natCast]; exact all512 _ (by decide +kernel) _ (by omega))) ?_
      refine rl_call rfl (ent_static (args := [(v8 (adB (8 * t + j)))]) Tryz.func288 rfl rfl rfl rfl) (digit_ok (adB (8 * t + j)) _) ?_
      rintro _ w8 ⟨rfl, h9⟩
      refine callQ_ret ?_
      replace hm : Mem w [] [] w8 := hm.call h9
      refine rl_val rfl (v := (v32 ((16 * (hexP t j)) + (digitP (adB (8 * t + j)))))) (val_add32 (a := 16 * (hexP t j)) (b := digitP (adB (8 * t + j))) rfl rfl) ?_
      refine rl_val rfl (v := (v32 ((16 * (hexP t j)) + (digitP (adB (8 * t + j)))))) (val_assign (v := (v32 ((16 * (hexP t j)) + (digitP (adB (8 * t + j)))))) rfl) ?_
      refine rl_nil ?_
      refine wp_r (E := noPanic) noPanic_imp ?_
      refine rl_val rfl (v := (vI ((8 * t + j : Nat) : Int))) (val_move (v := (vI ((8 * t + j : Nat) : Int))) hs6) ?_
      refine rl_val rfl (v := (vI ((8 * t + (j + 1) : Nat) : Int))) (val_cast (val_addI (p := ((8 * t + j : Nat) : Int)) (q := 1) rfl rfl (by omega)) (int_eq (by omega))) ?_
      refine rl_val rfl (v := (vI ((8 * t + (j + 1) : Nat) : Int))) (val_assign (v := (vI ((8 * t + (j + 1) : Nat) : Int))) rfl) ?_
      refine rl_nil ?_
      exact ⟨8 - (j + 1), by omega, ⟨j + 1, rfl, by omega, hm, hs4, rfl, rfl⟩⟩
    ·
      have hq10 := of_decide_eq_false hb
      obtain rfl : j = 8 := by omega
      refine WP.exit ?_
      repeat (first | with_reducible refine exit_pass ?_ | with_reducible refine exit_other rfl ?_)
      refine blk_here ?_
      refine wp_sr (E := noPanic) noPanic_imp ?_
      refine rl_val rfl (v := (v32 (hexP t 8))) (val_move (v := (v32 (hexP t 8))) hs5) ?_
      refine rl_val rfl (v := (v32 (hexP t 8))) (val_assign (v := (v32 (hexP t 8))) rfl) ?_
      refine rl_nil ?_
      exact WP.ret (post_rets rfl (vs := [v32 (Kat t)]) ⟨by rw [← hexP_8 t ht]; exact rfl, trivial⟩ rfl ⟨rfl, hm⟩)
end Go.Al
namespace Go.Al
open Go Go.RowKit Go.Proofs
set_option linter.unusedVariables false
set_option linter.unusedSimpArgs false
theorem rr_okI (x c : UInt32) (n : Int) (hn : n = (c.toNat : Int)) (h0 : 0 < c.toNat) (h2 : c.toNat < 32) (w : World) : Calls Tryz.prog 270 [v32 x, vI n].toArray w (Ret w (v32 (rot x c))) := by subst hn; exact rr_ok x c h0 h2 w
theorem agg_c {l l' : List Value} (h : l = l') : Value.agg l.toArray = .agg l'.toArray := by rw [h]
theorem c8_add (r n : R8) : [v32 (r.a + n.a), v32 (r.b + n.b), v32 (r.c + n.c), v32 (r.d + n.d), v32 (r.e + n.e), v32 (r.f + n.f), v32 (r.g + n.g), v32 (r.h + n.h)] = c8 (r.add n) := rfl
theorem c8_rnd (k w : UInt32) (r : R8) : [v32 ((r.h + k + w + S1 r.e + ch r.e r.f r.g) + (S0 r.a + maj r.a r.b r.c)), v32 r.a, v32 r.b, v32 r.c, v32 (r.d + (r.h + k + w + S1 r.e + ch r.e r.f r.g)), v32 r.e, v32 r.f, v32 r.g] = c8 (rnd k w r) := rfl
def WRow (f : Nat → UInt32) : List Value := (List.range 64).map fun k => v32 (f k)
@[simp] theorem wrow_len (f : Nat → UInt32) : (WRow f).length = 64 := by simp [WRow]
theorem wrow_at (f : Nat → UInt32) {k : Nat} (h : k < 64) : (WRow f)[k]? = some (v32 (f k)) := getD_mr _ h
def wrd (b : Nat → UInt8) (t k : Nat) : UInt32 := if k < t then wd b k else 0
def pw (b : Nat → UInt8) (t : Nat) : Nat → UInt32
  | 0 => 0
  | i + 1 => (256 : UInt32) * pw b t i + (b (4 * t + i)).toUInt32
def wri (b : Nat → UInt8) (t i k : Nat) : UInt32 := if k < t then wd b k else if k = t then pw b t i else 0
def qr (b : Nat → UInt8) (s : R8) (t : Nat) : UInt32 := S0 (rnds b s t).a + maj (rnds b s t).a (rnds b s t).b (rnds b s t).c
theorem wrow_0 (b : Nat → UInt8) : ((List.range 64).map fun i => v32 (0)) = WRow (wrd b 0) := rfl
theorem wri_0 (b : Nat → UInt8) (t : Nat) : WRow (wrd b t) = WRow (wri b t 0) := by
  refine mr_congr fun k _ => ?_
  unfold wrd wri pw
  congr 1
  split <;> simp
theorem wri_self (b : Nat → UInt8) (t i : Nat) : wri b t i t = pw b t i := by unfold wri; rw [if_neg (by omega), if_pos rfl]
theorem wrd_lt {b : Nat → UInt8} {t k : Nat} (h : k < t) : wrd b t k = wd b k := if_pos h
theorem sh8_or (x : UInt32) (y : UInt8) : (256 : UInt32) * x + y.toUInt32 = x <<< 8 ||| y.toUInt32 := by
  apply UInt32.toNat_inj.1
  have hy : y.toNat < 256 := y.toNat_lt
  have hx := x.toNat_lt
  rw [UInt32.toNat_or, UInt32.toNat_shiftLeft, UInt32.toNat_add, UInt32.toNat_mul, UInt8.toNat_toUInt32]
  have e8 : (8 : UInt32).toNat % 32 = 8 := rfl
  have e256 : (256 : UInt32).toNat = 256 := rfl
  rw [e8, e256]
  have e1 : (x.toNat <<< 8) % 2 ^ 32 = (x.toNat % 2 ^ 24) <<< 8 := by rw [Nat.shiftLeft_eq, Nat.shiftLeft_eq]; omega
  rw [e1, ← Nat.shiftLeft_add_eq_or_of_lt (show y.toNat < 2 ^ 8 from hy), Nat.shiftLeft_eq]
  omega
theorem wp_pw (b : Nat → UInt8) (t : Nat) : wp b (4 * t + 4) t = (256 : UInt32) * ((256 : UInt32) * ((256 : UInt32) * ((256 : UInt32) * wp b (4 * t) t + (b (4 * t)).toUInt32) + (b (4 * t + 1)).toUInt32) + (b (4 * t + 2)).toUInt32) + (b (4 * t + 3)).toUInt32 := by
  simp only [sh8_or]
  have s : ∀ i, i < 4 → wp b (4 * t + i + 1) t = wp b (4 * t + i) t <<< 8 ||| (b (4 * t + i)).toUInt32 := fun i hi => by rw [wp, if_pos (by omega)]
  rw [s 3 (by omega), s 2 (by omega), s 1 (by omega), s 0 (by omega)]
  simp only [Nat.add_zero]
theorem wp_before (b : Nat → UInt8) (t : Nat) : ∀ j, j ≤ 4 * t → wp b j t = 0 := by
  intro j
  induction j with
  | zero => intro _; rfl
  | succ j ih => intro h; rw [wp, if_neg (by omega), ih (by omega)]
theorem wp_after (b : Nat → UInt8) (t : Nat) : ∀ d, wp b (4 * t + 4 + d) t = wp b (4 * t + 4) t := by
  intro d
  induction d with
  | zero => rfl
  | succ d ih => rw [show 4 * t + 4 + (d + 1) = (4 * t + 4 + d) + 1 from rfl, wp, if_neg (by omega), ih]
theorem pw_wd (b : Nat → UInt8) {t : Nat} (h : t < 16) : pw b t 4 = wd b t := by
  rw [wd_lo b h, show 64 = 4 * t + 4 + (60 - 4 * t) from by omega, wp_after, wp_pw, wp_before b t _ (Nat.le_refl _)]
  rfl
theorem wri_4 {b : Nat → UInt8} {t : Nat} (h : t < 16) : WRow (wri b t 4) = WRow (wrd b (t + 1)) := by
  refine mr_congr fun k _ => ?_
  unfold wrd wri
  by_cases h1 : k < t
  · rw [if_pos h1, if_pos (by omega)]
  · by_cases h2 : k = t
    · subst h2; rw [if_neg h1, if_pos rfl, if_pos (by omega), pw_wd b h]
    · rw [if_neg h1, if_neg h2, if_neg (by omega)]
theorem wri_put {b : Nat → UInt8} {t i : Nat} (h : t < 64) : spl (WRow (wri b t i)) t [v32 ((256 * (pw b t i)) + (b (4 * t + i)).toUInt32)] = WRow (wri b t (i + 1)) := by
  unfold WRow
  refine spl_one_mr h ?_ ?_
  · rw [wri_self]; rfl
  · intro j _ hne; unfold wri; by_cases h1 : j < t
    · rw [if_pos h1, if_pos h1]
    · rw [if_neg h1, if_neg h1, if_neg hne, if_neg hne]
theorem wrd_put {b : Nat → UInt8} {t : Nat} (h1 : 16 ≤ t) (h : t < 64) : spl (WRow (wrd b t)) t [v32 ((((wd b (t - 16)) + (wd b (t - 7))) + (((rot (wd b (t - 15)) 7) ^^^ (rot (wd b (t - 15)) 18)) ^^^ ((wd b (t - 15)) >>> 3))) + (((rot (wd b (t - 2)) 17) ^^^ (rot (wd b (t - 2)) 19)) ^^^ ((wd b (t - 2)) >>> 10)))] = WRow (wrd b (t + 1)) := by
  unfold WRow
  refine spl_one_mr h ?_ ?_
  · unfold wrd; rw [if_pos (by omega), wd_hi b h1]; rfl
  · intro j _ hne; unfold wrd; by_cases h1 : j < t
    · rw [if_pos h1, if_pos (by omega)]
    · rw [if_neg h1, if_neg (by omega)]
theorem rbegin_ok (w : World) : Calls Tryz.prog 213 ([] : List Value).toArray w (Ret w (.agg (c8 sha0).toArray)) := by
  have hm := Mem.init w
  refine calls_enter (n := 2) Tryz.func213 rfl rfl rfl ?_
  refine wp_sr (E := noPanic) noPanic_imp ?_
  refine rl_alloc (xs := [(v32 0), (v32 0), (v32 0), (v32 0), (v32 0), (v32 0), (v32 0), (v32 0)]) rfl zo_221 hm ?_
  intro b1 w2 hm
  refine rl_nil ?_
  refine wp_sr (E := noPanic) noPanic_imp ?_
  refine rl_val rfl (v := (.agg (c8 (sha0)).toArray)) (val_cast (v' := .agg (c8 (sha0)).toArray) (val_build (ps := [(0, (v32 1779033703)), (1, (v32 3144134277)), (2, (v32 1013904242)), (3, (v32 2773480762)), (4, (v32 1359893119)), (5, (v32 2600822924)), (6, (v32 528734635)), (7, (v32 1541459225))]) pl_221 zo_221 (plc_cons rfl (plc_cons rfl (plc_cons rfl (plc_cons rfl (plc_cons rfl (plc_cons rfl (plc_cons rfl (plc_cons rfl (plc_nil))))))))) (bok_cons rfl rfl (by decide) (bok_cons rfl rfl (by decide) (bok_cons rfl rfl (by decide) (bok_cons rfl rfl (by decide) (bok_cons rfl rfl (by decide) (bok_cons rfl rfl (by decide) (bok_cons rfl rfl (by decide) (bok_cons rfl rfl (by decide) (bok_nil))))))))) (cs := [(v32 1779033703), (v32 3144134277), (v32 1013904242), (v32 2773480762), (v32 1359893119), (v32 2600822924), (v32 528734635), (v32 1541459225)]) rfl) rfl) ?_
  refine rl_store (i := 0) (off := 0) (xs := ([(v32 0), (v32 0), (v32 0), (v32 0), (v32 0), (v32 0), (v32 0), (v32 0)])) (vs := c8 (sha0)) rfl rfl rfl ag_221 hm rfl rfl (c8_len _) (by simp) (c8_one _) ?_
  intro w3 hm
  rw [spl_all (n := 8) (by simp) (c8_len _)] at hm
  replace hm : Mem w [] [(b1, row (c8 (sha0)) 221)] w3 := hm
  refine rl_nil ?_
  exact WP.ret (post_rets rfl (vs := [.agg (c8 sha0).toArray]) ⟨⟨true, 8, _, 0, _, rfl, ag_221, (hm.row (i := 0) rfl).l, by simp, by decide, by simp [rd, List.take_of_length_le]⟩, trivial⟩ rfl ⟨rfl, hm.nil⟩)
set_option maxHeartbeats 2000000 in
theorem rtake_ok (s : R8) (b : Nat → UInt8) (bb off c : Nat) (xs : List Value) (w : World) (hbr : RowL w bb xs) (hbx : (xs.drop off).take (64 * 1) = c64 b) :
    Calls Tryz.prog 214 [.agg (c8 s).toArray, .slice (some ⟨bb, off, none⟩) 64 c].toArray w (Ret w (.agg (c8 (Al.take s b)).toArray)) := by
  have hm := Mem.init w
  refine calls_enter (n := 205) Tryz.func214 rfl rfl rfl ?_
  refine wp_sr (E := noPanic) noPanic_imp ?_
  refine rl_box (v := (.agg (c8 (s)).toArray)) (xs := c8 (s)) rfl rfl rfl hm ?_
  intro b1 w2 hm
  refine rl_alloc (xs := [(v32 0), (v32 0), (v32 0), (v32 0), (v32 0), (v32 0), (v32 0), (v32 0)]) rfl zo_221 hm ?_
  intro b3 w4 hm
  refine rl_nil ?_
  refine wp_sr (E := noPanic) noPanic_imp ?_
  refine rl_alloc (xs := (List.range 64).map fun i => v32 (0)) rfl zo_309 hm ?_
  intro b5 w6 hm
  refine rl_nil ?_
  refine WP.seq ?_
  refine wp_sr (E := noPanic) noPanic_imp ?_
  refine rl_val rfl (v := (vI 0)) (val_assign (v := (vI 0)) rfl) ?_
  refine rl_nil ?_
  refine WP.block ?_
  refine WP.loop (fun mz τ w' => ∃ (t : Nat), 64 - t = mz ∧ t ≤ 64 ∧ Mem w [] [(b5, row (WRow (wrd b t)) 309), (b3, row ([(v32 0), (v32 0), (v32 0), (v32 0), (v32 0), (v32 0), (v32 0), (v32 0)]) 221), (b1, row (c8 (s)) 221)] w' ∧ τ 1 = (.slice (some ⟨bb, off, none⟩) 64 c) ∧ τ 6 = (vI (t : Int)) ∧ τ 2 = (.pointer (some ⟨b1, 0, none⟩)) ∧ τ 4 = (.pointer (some ⟨b3, 0, none⟩)) ∧ τ 5 = (.pointer (some ⟨b5, 0, none⟩))) (64) ?_ ?_
  · exact ⟨0, rfl, by omega, (by rw [← wrow_0 b]; exact hm), rfl, (by first | rfl | (refine int_eq ?_; simp; try omega) | (refine int_eq ?_; omega)), rfl, rfl, rfl⟩
  · rintro kk8 τ wl7 ⟨t, hk9, ht, hm, hs10, hs11, hs12, hs13, hs14⟩
    refine WP.seq ?_
    refine wp_sr (E := noPanic) noPanic_imp ?_
    refine rl_val rfl (v := (vI (t : Int))) (val_move (v := (vI (t : Int))) hs11) ?_
    refine rl_val rfl (v := (.bool (decide (((t : Int) : Int) < 64)))) (val_lt (p := (t : Int)) (q := 64) rfl rfl) ?_
    refine rl_nil ?_
    refine WP.cond (b := decide (((t : Int) : Int) < 64)) rfl (fun hb => ?_) (fun hb => ?_)
    ·
      have hq15 := of_decide_eq_true hb
      have hlt : t < 64 := by omega
      refine WP.skip ?_
      refine WP.seq (WP.block ?_)
      refine wp_sr (E := noPanic) noPanic_imp ?_
      refine rl_val rfl (v := (vI (t : Int))) (val_move (v := (vI (t : Int))) hs11) ?_
      refine rl_val rfl (v := (.bool (decide (((t : Int) : Int) < 16)))) (val_lt (p := (t : Int)) (q := 16) rfl rfl) ?_
      refine rl_nil ?_
      refine WP.cond (b := decide (((t : Int) : Int) < 16)) rfl (fun hb => ?_) (fun hb => ?_)
      ·
        have hq16 := of_decide_eq_true hb
        have h16 : t < 16 := by omega
        refine wp_sr (E := noPanic) noPanic_imp ?_
        refine rl_val rfl (v := (vI 0)) (val_assign (v := (vI 0)) rfl) ?_
        refine rl_nil ?_
        refine WP.block ?_
        refine WP.loop (fun mz τ w' => ∃ (i : Nat), 4 - i = mz ∧ i ≤ 4 ∧ Mem w [] [(b5, row (WRow (wri b t i)) 309), (b3, row ([(v32 0), (v32 0), (v32 0), (v32 0), (v32 0), (v32 0), (v32 0), (v32 0)]) 221), (b1, row (c8 (s)) 221)] w' ∧ τ 1 = (.slice (some ⟨bb, off, none⟩) 64 c) ∧ τ 6 = (vI (t : Int)) ∧ τ 7 = (vI (i : Int)) ∧ τ 2 = (.pointer (some ⟨b1, 0, none⟩)) ∧ τ 4 = (.pointer (some ⟨b3, 0, none⟩)) ∧ τ 5 = (.pointer (some ⟨b5, 0, none⟩))) (4) ?_ ?_
        · exact ⟨0, rfl, by omega, (by rw [← wri_0]; exact hm), hs10, hs11, (by first | rfl | (refine int_eq ?_; simp; try omega) | (refine int_eq ?_; omega)), hs12, hs13, hs14⟩
        · rintro kk18 τ wl17 ⟨i, hk19, hi, hm, hs20, hs21, hs22, hs23, hs24, hs25⟩
          refine WP.seq ?_
          refine wp_sr (E := noPanic) noPanic_imp ?_
          refine rl_val rfl (v := (vI (i : Int))) (val_move (v := (vI (i : Int))) hs22) ?_
          refine rl_val rfl (v := (.bool (decide (((i : Int) : Int) < 4)))) (val_lt (p := (i : Int)) (q := 4) rfl rfl) ?_
          refine rl_nil ?_
          refine WP.cond (b := decide (((i : Int) : Int) < 4)) rfl (fun hb => ?_) (fun hb => ?_)
          ·
            have hq26 := of_decide_eq_true hb
            have hi4 : i < 4 := by omega
            refine WP.skip ?_
            refine WP.seq (WP.block ?_)
            refine wp_d (E := noPanic) [(0, true), (1, true), (2, true), (3, true), (4, true), (5, true), (6, true), (7, true), (8, true), (9, true), (10, true), (11, true), (12, true), (13, true), (14, true), (15, false)] mixed (by kernel_rfl) (by kernel_rfl) rfl (fun w' => Mem w [] [(b5, row (WRow (wri b t i)) 309), (b3, row ([(v32 0), (v32 0), (v32 0), (v32 0), (v32 0), (v32 0), (v32 0), (v32 0)]) 221), (b1, row (c8 (s)) 221)] w') noPanic_imp hm.drew ?_
            have hm := hm.drew
            refine rp_val rfl rfl (v := (vI (t : Int))) (fun w' hs => val_move (v := (vI (t : Int))) hs21) ?_
            refine rp_val rfl rfl (v := (vI (t : Int))) (fun w' hs => val_move (v := (vI (t : Int))) hs21) ?_
            refine rp_val rfl rfl (v := (.pointer (some ⟨b5, t, none⟩))) (fun w' hs => val_cast (val_indexAr (i := (t : Int)) (n := 64) (sz := 1) hs25 rfl ea_309 (by omega)) (ptr_eq (by omega))) ?_
            refine rp_val rfl rfl (v := (v32 (pw b t i))) (fun w' hs => val_load1 (v := v32 (pw b t i)) (off := t) rfl ag_219 (hs.row (i := 0) rfl).l (by rw [wrow_at _ (by omega), wri_self])) ?_
            refine rp_val rfl rfl (v := (v32 (256 * (pw b t i)))) (fun w' hs => val_mul32 (a := 256) (b := pw b t i) rfl rfl) ?_
            refine rp_val rfl rfl (v := (.slice (some ⟨bb, off, none⟩) 64 c)) (fun w' hs => val_move (v := (.slice (some ⟨bb, off, none⟩) 64 c)) hs20) ?_
            refine rp_val rfl rfl (v := (vI (t : Int))) (fun w' hs => val_move (v := (vI (t : Int))) hs21) ?_
            refine rp_val rfl rfl (v := (vI (4 * (t : Int)))) (fun w' hs => val_mulI (p := 4) (q := (t : Int)) rfl rfl (by omega)) ?_
            refine rp_val rfl rfl (v := (vI (i : Int))) (fun w' hs => val_move (v := (vI (i : Int))) hs22) ?_
            refine rp_val rfl rfl (v := (vI ((4 * (t : Int)) + (i : Int)))) (fun w' hs => val_addI (p := 4 * (t : Int)) (q := (i : Int)) rfl rfl (by omega)) ?_
            refine rp_val rfl rfl (v := (.pointer (some ⟨bb, off + (4 * t + i), none⟩))) (fun w' hs => val_cast (val_indexSl (i := 4 * (t : Int) + (i : Int)) (sz := 1) rfl rfl es_38 (by omega)) (ptr_eq (by omega))) ?_
            refine rp_val rfl rfl (v := (v8 (b (4 * t + i)))) (fun w' hs => val_load1 (v := v8 (b (4 * t + i))) (off := off + (4 * t + i)) rfl ag_5 (hs.getL hbr (by simp)) (by rw [take_at hbx (by omega)]; exact c64_at _ (by omega))) ?_
            refine rp_val rfl rfl (v := (v32 ((b (4 * t + i)).toUInt32))) (fun w' hs => val_cast (val_conv ut_5 ui_219 rfl) (by simp [wrap32u8])) ?_
            refine rp_val rfl rfl (v := (v32 ((256 * (pw b t i)) + ((b (4 * t + i)).toUInt32)))) (fun w' hs => val_add32 (a := 256 * (pw b t i)) (b := (b (4 * t + i)).toUInt32) rfl rfl) ?_
            refine rp_val rfl rfl (v := (.pointer (some ⟨b5, t, none⟩))) (fun w' hs => val_cast (val_indexAr (i := (t : Int)) (n := 64) (sz := 1) hs25 rfl ea_309 (by omega)) (ptr_eq (by omega))) ?_
            refine rp_store (i := 0) (off := t) (xs := (WRow (wri b t i))) (vs := [(v32 ((256 * (pw b t i)) + ((b (4 * t + i)).toUInt32)))]) rfl rfl rfl rfl ag_219 hm rfl rfl rfl (by simp <;> omega) (by simp [Value.one]) (by kernel_rfl) ?_
            intro w27 hm
            rw [wri_put hlt] at hm
            replace hm : Mem w [] [(b5, row (WRow (wri b t (i + 1))) 309), (b3, row ([(v32 0), (v32 0), (v32 0), (v32 0), (v32 0), (v32 0), (v32 0), (v32 0)]) 221), (b1, row (c8 (s)) 221)] w27 := hm
            refine rp_nil ?_
            refine wp_r (E := noPanic) noPanic_imp ?_
            refine rl_val rfl (v := (vI (i : Int))) (val_move (v := (vI (i : Int))) hs22) ?_
            refine rl_val rfl (v := (vI ((i : Int) + 1))) (val_addI (p := (i : Int)) (q := 1) rfl rfl (by omega)) ?_
            refine rl_val rfl (v := (vI ((i : Int) + 1))) (val_assign (v := (vI ((i : Int) + 1))) rfl) ?_
            refine rl_nil ?_
            exact ⟨4 - (i + 1), by omega, ⟨i + 1, rfl, by omega, hm, hs20, hs21, (by first | rfl | (refine int_eq ?_; simp; try omega) | (refine int_eq ?_; omega)), hs23, hs24, hs25⟩⟩
          ·
            have hq28 := of_decide_eq_false hb
            obtain rfl : i = 4 := by omega
            refine WP.exit ?_
            repeat (first | with_reducible refine exit_pass ?_ | with_reducible refine exit_other rfl ?_)
            refine blk_here ?_
            refine wp_r (E := noPanic) noPanic_imp ?_
            refine rl_val rfl (v := (vI (t : Int))) (val_move (v := (vI (t : Int))) hs21) ?_
            refine rl_val rfl (v := (vI ((t : Int) + 1))) (val_addI (p := (t : Int)) (q := 1) rfl rfl (by omega)) ?_
            refine rl_val rfl (v := (vI ((t : Int) + 1))) (val_assign (v := (vI ((t : Int) + 1))) rfl) ?_
            refine rl_nil ?_
            exact ⟨64 - (t + 1), by omega, ⟨t + 1, rfl, by omega, (by rw [← wri_4 (by omega)]; exact hm), hs20, (by first | rfl | (refine int_eq ?_; simp; try omega) | (refine int_eq ?_; omega)), hs23, hs24, hs25⟩⟩
      ·
        have hq29 := of_decide_eq_false hb
        have h16 : 16 ≤ t := by omega
        refine wp_sr (E := noPanic) noPanic_imp ?_
        refine rl_val rfl (v := (vI (t : Int))) (val_move (v := (vI (t : Int))) hs11) ?_
        refine rl_val rfl (v := (vI ((t - 15 : Nat) : Int))) (val_cast (val_subI (p := (t : Int)) (q := 15) rfl rfl (by omega)) (int_eq (by omega))) ?_
        refine rl_val rfl (v := (.pointer (some ⟨b5, t - 15, none⟩))) (val_cast (val_indexAr (i := ((t - 15 : Nat) : Int)) (n := 64) (sz := 1) hs14 rfl ea_309 (by omega)) (ptr_eq (by omega))) ?_
        refine rl_val rfl (v := (v32 (wd b (t - 15)))) (val_load1 (v := v32 (wd b (t - 15))) (off := t - 15) rfl ag_219 (hm.row (i := 0) rfl).l (by rw [wrow_at _ (by omega), wrd_lt (by omega)])) ?_
        refine rl_val rfl (v := (v32 (wd b (t - 15)))) (val_assign (v := (v32 (wd b (t - 15)))) rfl) ?_
        refine rl_nil ?_
        refine wp_sr (E := noPanic) noPanic_imp ?_
        refine rl_val rfl (v := (vI (t : Int))) (val_move (v := (vI (t : Int))) hs11) ?_
        refine rl_val rfl (v := (vI ((t - 2 : Nat) : Int))) (val_cast (val_subI (p := (t : Int)) (q := 2) rfl rfl (by omega)) (int_eq (by omega))) ?_
        refine rl_val rfl (v := (.pointer (some ⟨b5, t - 2, none⟩))) (val_cast (val_indexAr (i := ((t - 2 : Nat) : Int)) (n := 64) (sz := 1) hs14 rfl ea_309 (by omega)) (ptr_eq (by omega))) ?_
        refine rl_val rfl (v := (v32 (wd b (t - 2)))) (val_load1 (v := v32 (wd b (t - 2))) (off := t - 2) rfl ag_219 (hm.row (i := 0) rfl).l (by rw [wrow_at _ (by omega), wrd_lt (by omega)])) ?_
        refine rl_val rfl (v := (v32 (wd b (t - 2)))) (val_assign (v := (v32 (wd b (t - 2)))) rfl) ?_
        refine rl_nil ?_
        refine wp_df (E := noPanic) [(0, true), (1, true), (2, true), (3, true), (4, true), (5, true), (6, true), (7, true), (8, true), (9, true), (10, true), (12, true), (15, true), (16, true), (19, true), (21, true), (24, true), (25, true), (11, false), (13, false), (14, true), (17, true), (18, true), (20, false), (22, false), (23, false), (26, false), (27, false), (28, false), (29, false)] [4, 8] mixed (by kernel_rfl) (by kernel_rfl) rfl (fun w' => Mem w [] [(b5, row (WRow (wrd b t)) 309), (b3, row ([(v32 0), (v32 0), (v32 0), (v32 0), (v32 0), (v32 0), (v32 0), (v32 0)]) 221), (b1, row (c8 (s)) 221)] w') noPanic_imp hm.drew ?_
        have hm := hm.drew
        refine rp_valp rfl rfl (v := (vI (t : Int))) (fun w' => val_move (v := (vI (t : Int))) hs11) ?_
        refine rp_valp rfl rfl (v := (vI (t : Int))) (fun w' => val_move (v := (vI (t : Int))) hs11) ?_
        refine rp_valp rfl rfl (v := (vI ((t - 16 : Nat) : Int))) (fun w' => val_cast (val_subI (p := (t : Int)) (q := 16) rfl rfl (by omega)) (int_eq (by omega))) ?_
        refine rp_valp rfl rfl (v := (.pointer (some ⟨b5, t - 16, none⟩))) (fun w' => val_cast (val_indexAr (i := ((t - 16 : Nat) : Int)) (n := 64) (sz := 1) hs14 rfl ea_309 (by omega)) (ptr_eq (by omega))) ?_
        refine rp_val rfl rfl (v := (v32 (wd b (t - 16)))) (fun w' hs => val_load1 (v := v32 (wd b (t - 16))) (off := t - 16) rfl ag_219 (hs.row (i := 0) rfl).l (by rw [wrow_at _ (by omega), wrd_lt (by omega)])) ?_
        refine rp_valp rfl rfl (v := (vI (t : Int))) (fun w' => val_move (v := (vI (t : Int))) hs11) ?_
        refine rp_valp rfl rfl (v := (vI ((t - 7 : Nat) : Int))) (fun w' => val_cast (val_subI (p := (t : Int)) (q := 7) rfl rfl (by omega)) (int_eq (by omega))) ?_
        refine rp_valp rfl rfl (v := (.pointer (some ⟨b5, t - 7, none⟩))) (fun w' => val_cast (val_indexAr (i := ((t - 7 : Nat) : Int)) (n := 64) (sz := 1) hs14 rfl ea_309 (by omega)) (ptr_eq (by omega))) ?_
        refine rp_val rfl rfl (v := (v32 (wd b (t - 7)))) (fun w' hs => val_load1 (v := v32 (wd b (t - 7))) (off := t - 7) rfl ag_219 (hs.row (i := 0) rfl).l (by rw [wrow_at _ (by omega), wrd_lt (by omega)])) ?_
        refine rp_valp rfl rfl (v := (v32 ((wd b (t - 16)) + (wd b (t - 7))))) (fun w' => val_add32 (a := wd b (t - 16)) (b := wd b (t - 7)) rfl rfl) ?_
        refine rp_valp rfl rfl (v := (v32 (wd b (t - 15)))) (fun w' => val_move (v := (v32 (wd b (t - 15)))) rfl) ?_
        refine rp_valp rfl rfl (v := (v32 (wd b (t - 15)))) (fun w' => val_move (v := (v32 (wd b (t - 15)))) rfl) ?_
        refine rp_valp rfl rfl (v := (v32 (wd b (t - 15)))) (fun w' => val_move (v := (v32 (wd b (t - 15)))) rfl) ?_
        refine rp_valp rfl rfl (v := (v32 ((wd b (t - 15)) >>> 3))) (fun w' => val_shr32 (a := wd b (t - 15)) 3 rfl rfl rfl (by decide)) ?_
        refine rp_valp rfl rfl (v := (v32 (wd b (t - 2)))) (fun w' => val_move (v := (v32 (wd b (t - 2)))) rfl) ?_
        refine rp_valp rfl rfl (v := (v32 (wd b (t - 2)))) (fun w' => val_move (v := (v32 (wd b (t - 2)))) rfl) ?_
        refine rp_valp rfl rfl (v := (v32 (wd b (t - 2)))) (fun w' => val_move (v := (v32 (wd b (t - 2)))) rfl) ?_
        refine rp_valp rfl rfl (v := (v32 ((wd b (t - 2)) >>> 10))) (fun w' => val_shr32 (a := wd b (t - 2)) 10 rfl rfl rfl (by decide)) ?_
        refine rp_call rfl rfl (ent_static (args := [(v32 (wd b (t - 15))), (vI 7)]) Tryz.func270 rfl rfl rfl rfl) (rr_okI (wd b (t - 15)) 7 7 (by decide) (by decide) (by decide) _) ?_
        rintro _ w30 ⟨rfl, h31⟩
        refine callQ_ret ?_
        refine ⟨.inr ((hm.call h31).sub (by ((try (simp only [List.append_assoc, List.nil_append, List.append_nil, List.cons_append])); repeat (first | exact List.nil_sublist _ | exact List.Sublist.refl _ | with_reducible refine List.Sublist.cons_cons _ ?_ | with_reducible refine List.Sublist.append (List.Sublist.refl _) ?_ | with_reducible exact List.sublist_append_left _ _ | refine List.Sublist.cons _ ?_ | refine List.Sublist.trans ?_ (List.sublist_append_right _ _))))), ?_⟩
        replace hm : Mem w [] [(b5, row (WRow (wrd b t)) 309), (b3, row ([(v32 0), (v32 0), (v32 0), (v32 0), (v32 0), (v32 0), (v32 0), (v32 0)]) 221), (b1, row (c8 (s)) 221)] w30 := hm.call h31
        refine rp_call rfl rfl (ent_static (args := [(v32 (wd b (t - 15))), (vI 18)]) Tryz.func270 rfl rfl rfl rfl) (rr_okI (wd b (t - 15)) 18 18 (by decide) (by decide) (by decide) _) ?_
        rintro _ w32 ⟨rfl, h33⟩
        refine callQ_ret ?_
        refine ⟨.inr ((hm.call h33).sub (by ((try (simp only [List.append_assoc, List.nil_append, List.append_nil, List.cons_append])); repeat (first | exact List.nil_sublist _ | exact List.Sublist.refl _ | with_reducible refine List.Sublist.cons_cons _ ?_ | with_reducible refine List.Sublist.append (List.Sublist.refl _) ?_ | with_reducible exact List.sublist_append_left _ _ | refine List.Sublist.cons _ ?_ | refine List.Sublist.trans ?_ (List.sublist_append_right _ _))))), ?_⟩
        replace hm : Mem w [] [(b5, row (WRow (wrd b t)) 309), (b3, row ([(v32 0), (v32 0), (v32 0), (v32 0), (v32 0), (v32 0), (v32 0), (v32 0)]) 221), (b1, row (c8 (s)) 221)] w32 := hm.call h33
        refine rp_valp rfl rfl (v := (v32 ((rot (wd b (t - 15)) 7) ^^^ (rot (wd b (t - 15)) 18)))) (fun w' => val_xor32 (a := rot (wd b (t - 15)) 7) (b := rot (wd b (t - 15)) 18) rfl rfl) ?_
        refine rp_valp rfl rfl (v := (v32 (((rot (wd b (t - 15)) 7) ^^^ (rot (wd b (t - 15)) 18)) ^^^ ((wd b (t - 15)) >>> 3)))) (fun w' => val_xor32 (a := (rot (wd b (t - 15)) 7) ^^^ (rot (wd b (t - 15)) 18)) (b := (wd b (t - 15)) >>> 3) rfl rfl) ?_
        refine rp_valp rfl rfl (v := (v32 (((wd b (t - 16)) + (wd b (t - 7))) + (((rot (wd b (t - 15)) 7) ^^^ (rot (wd b (t - 15)) 18)) ^^^ ((wd b (t - 15)) >>> 3))))) (fun w' => val_add32 (a := (wd b (t - 16)) + (wd b (t - 7))) (b := ((rot (wd b (t - 15)) 7) ^^^ (rot (wd b (t - 15)) 18)) ^^^ ((wd b (t - 15)) >>> 3)) rfl rfl) ?_
        refine rp_call rfl rfl (ent_static (args := [(v32 (wd b (t - 2))), (vI 17)]) Tryz.func270 rfl rfl rfl rfl) (rr_okI (wd b (t - 2)) 17 17 (by decide) (by decide) (by decide) _) ?_
        rintro _ w34 ⟨rfl, h35⟩
        refine callQ_ret ?_
        refine ⟨.inr ((hm.call h35).sub (by ((try (simp only [List.append_assoc, List.nil_append, List.append_nil, List.cons_append])); repeat (first | exact List.nil_sublist _ | exact List.Sublist.refl _ | with_reducible refine List.Sublist.cons_cons _ ?_ | with_reducible refine List.Sublist.append (List.Sublist.refl _) ?_ | with_reducible exact List.sublist_append_left _ _ | refine List.Sublist.cons _ ?_ | refine List.Sublist.trans ?_ (List.sublist_append_right _ _))))), ?_⟩
        replace hm : Mem w [] [(b5, row (WRow (wrd b t)) 309), (b3, row ([(v32 0), (v32 0), (v32 0), (v32 0), (v32 0), (v32 0), (v32 0), (v32 0)]) 221), (b1, row (c8 (s)) 221)] w34 := hm.call h35
        refine rp_call rfl rfl (ent_static (args := [(v32 (wd b (t - 2))), (vI 19)]) Tryz.func270 rfl rfl rfl rfl) (rr_okI (wd b (t - 2)) 19 19 (by decide) (by decide) (by decide) _) ?_
        rintro _ w36 ⟨rfl, h37⟩
        refine callQ_ret ?_
        refine ⟨.inr ((hm.call h37).sub (by ((try (simp only [List.append_assoc, List.nil_append, List.append_nil, List.cons_append])); repeat (first | exact List.nil_sublist _ | exact List.Sublist.refl _ | with_reducible refine List.Sublist.cons_cons _ ?_ | with_reducible refine List.Sublist.append (List.Sublist.refl _) ?_ | with_reducible exact List.sublist_append_left _ _ | refine List.Sublist.cons _ ?_ | refine List.Sublist.trans ?_ (List.sublist_append_right _ _))))), ?_⟩
        replace hm : Mem w [] [(b5, row (WRow (wrd b t)) 309), (b3, row ([(v32 0), (v32 0), (v32 0), (v32 0), (v32 0), (v32 0), (v32 0), (v32 0)]) 221), (b1, row (c8 (s)) 221)] w36 := hm.call h37
        refine rp_vale rfl rfl (v := (v32 ((rot (wd b (t - 2)) 17) ^^^ (rot (wd b (t - 2)) 19)))) (val_xor32 (a := rot (wd b (t - 2)) 17) (b := rot (wd b (t - 2)) 19) rfl rfl) (.inr (hm.sub (by ((try (simp only [List.append_assoc, List.nil_append, List.append_nil, List.cons_append])); repeat (first | exact List.nil_sublist _ | exact List.Sublist.refl _ | with_reducible refine List.Sublist.cons_cons _ ?_ | with_reducible refine List.Sublist.append (List.Sublist.refl _) ?_ | with_reducible exact List.sublist_append_left _ _ | refine List.Sublist.cons _ ?_ | refine List.Sublist.trans ?_ (List.sublist_append_right _ _)))))) ?_
        refine rp_vale rfl rfl (v := (v32 (((rot (wd b (t - 2)) 17) ^^^ (rot (wd b (t - 2)) 19)) ^^^ ((wd b (t - 2)) >>> 10)))) (val_xor32 (a := (rot (wd b (t - 2)) 17) ^^^ (rot (wd b (t - 2)) 19)) (b := (wd b (t - 2)) >>> 10) rfl rfl) (.inr (hm.sub (by ((try (simp only [List.append_assoc, List.nil_append, List.append_nil, List.cons_append])); repeat (first | exact List.nil_sublist _ | exact List.Sublist.refl _ | with_reducible refine List.Sublist.cons_cons _ ?_ | with_reducible refine List.Sublist.append (List.Sublist.refl _) ?_ | with_reducible exact List.sublist_append_left _ _ | refine List.Sublist.cons _ ?_ | refine List.Sublist.trans ?_ (List.sublist_append_right _ _)))))) ?_
        refine rp_vale rfl rfl (v := (v32 ((((wd b (t - 16)) + (wd b (t - 7))) + (((rot (wd b (t - 15)) 7) ^^^ (rot (wd b (t - 15)) 18)) ^^^ ((wd b (t - 15)) >>> 3))) + (((rot (wd b (t - 2)) 17) ^^^ (rot (wd b (t - 2)) 19)) ^^^ ((wd b (t - 2)) >>> 10))))) (val_add32 (a := ((wd b (t - 16)) + (wd b (t - 7))) + (((rot (wd b (t - 15)) 7) ^^^ (rot (wd b (t - 15)) 18)) ^^^ ((wd b (t - 15)) >>> 3))) (b := ((rot (wd b (t - 2)) 17) ^^^ (rot (wd b (t - 2)) 19)) ^^^ ((wd b (t - 2)) >>> 10)) rfl rfl) (.inl (by kernel_rfl)) ?_
        refine rp_vale rfl rfl (v := (.pointer (some ⟨b5, t, none⟩))) (val_cast (val_indexAr (i := (t : Int)) (n := 64) (sz := 1) hs14 rfl ea_309 (by omega)) (ptr_eq (by omega))) (.inl (by kernel_rfl)) ?_
        refine rp_store (i := 0) (off := t) (xs := (WRow (wrd b t))) (vs := [(v32 ((((wd b (t - 16)) + (wd b (t - 7))) + (((rot (wd b (t - 15)) 7) ^^^ (rot (wd b (t - 15)) 18)) ^^^ ((wd b (t - 15)) >>> 3))) + (((rot (wd b (t - 2)) 17) ^^^ (rot (wd b (t - 2)) 19)) ^^^ ((wd b (t - 2)) >>> 10))))]) rfl rfl rfl rfl ag_219 hm rfl rfl rfl (by simp <;> omega) (by simp [Value.one]) (by kernel_rfl) ?_
        intro w38 hm
        rw [wrd_put h16 hlt] at hm
        replace hm : Mem w [] [(b5, row (WRow (wrd b (t + 1))) 309), (b3, row ([(v32 0), (v32 0), (v32 0), (v32 0), (v32 0), (v32 0), (v32 0), (v32 0)]) 221), (b1, row (c8 (s)) 221)] w38 := hm
        refine rp_nil ?_
        refine wp_r (E := noPanic) noPanic_imp ?_
        refine rl_val rfl (v := (vI (t : Int))) (val_move (v := (vI (t : Int))) hs11) ?_
        refine rl_val rfl (v := (vI ((t : Int) + 1))) (val_addI (p := (t : Int)) (q := 1) rfl rfl (by omega)) ?_
        refine rl_val rfl (v := (vI ((t : Int) + 1))) (val_assign (v := (vI ((t : Int) + 1))) rfl) ?_
        refine rl_nil ?_
        exact ⟨64 - (t + 1), by omega, ⟨t + 1, rfl, by omega, hm, hs10, (by first | rfl | (refine int_eq ?_; simp; try omega) | (refine int_eq ?_; omega)), hs12, hs13, hs14⟩⟩
    ·
      have hq39 := of_decide_eq_false hb
      obtain rfl : t = 64 := by omega
      refine WP.exit ?_
      repeat (first | with_reducible refine exit_pass ?_ | with_reducible refine exit_other rfl ?_)
      refine blk_here ?_
      refine wp_sr (E := noPanic) noPanic_imp ?_
      refine rl_val rfl (v := (.agg (c8 (s)).toArray)) (val_loadAll hs12 ag_221 (hm.row (i := 2) rfl).l (by simp) (by decide)) ?_
      refine rl_alloc (xs := [(v32 0), (v32 0), (v32 0), (v32 0), (v32 0), (v32 0), (v32 0), (v32 0)]) rfl zo_221 hm ?_
      intro b40 w41 hm
      refine rl_store (i := 0) (off := 0) (xs := ([(v32 0), (v32 0), (v32 0), (v32 0), (v32 0), (v32 0), (v32 0), (v32 0)])) (vs := c8 (s)) rfl rfl rfl ag_221 hm rfl rfl (c8_len _) (by simp) (c8_one _) ?_
      intro w42 hm
      rw [spl_all (n := 8) (by simp) (by simp)] at hm
      replace hm : Mem w [] [(b40, row (c8 (s)) 221), (b5, row (WRow (wrd b 64)) 309), (b3, row ([(v32 0), (v32 0), (v32 0), (v32 0), (v32 0), (v32 0), (v32 0), (v32 0)]) 221), (b1, row (c8 (s)) 221)] w42 := hm
      refine rl_nil ?_
      refine WP.seq ?_
      refine wp_sr (E := noPanic) noPanic_imp ?_
      refine rl_val rfl (v := (vI 0)) (val_assign (v := (vI 0)) rfl) ?_
      refine rl_nil ?_
      refine WP.block ?_
      refine WP.loop (fun mz τ w' => ∃ (u : Nat), 64 - u = mz ∧ u ≤ 64 ∧ Mem w [] [(b40, row (c8 (rnds b s u)) 221), (b5, row (WRow (wrd b 64)) 309), (b3, row ([(v32 0), (v32 0), (v32 0), (v32 0), (v32 0), (v32 0), (v32 0), (v32 0)]) 221), (b1, row (c8 (s)) 221)] w' ∧ τ 11 = (vI (u : Int)) ∧ τ 2 = (.pointer (some ⟨b1, 0, none⟩)) ∧ τ 4 = (.pointer (some ⟨b3, 0, none⟩)) ∧ τ 5 = (.pointer (some ⟨b5, 0, none⟩)) ∧ τ 10 = (.pointer (some ⟨b40, 0, none⟩))) (64) ?_ ?_
      · exact ⟨0, rfl, by omega, hm, (by first | rfl | (refine int_eq ?_; simp; try omega) | (refine int_eq ?_; omega)), hs12, hs13, hs14, rfl⟩
      · rintro kk44 τ wl43 ⟨u, hk45, hu, hm, hs46, hs47, hs48, hs49, hs50⟩
        refine WP.seq ?_
        refine wp_sr (E := noPanic) noPanic_imp ?_
        refine rl_val rfl (v := (vI (u : Int))) (val_move (v := (vI (u : Int))) hs46) ?_
        refine rl_val rfl (v := (.bool (decide (((u : Int) : Int) < 64)))) (val_lt (p := (u : Int)) (q := 64) rfl rfl) ?_
        refine rl_nil ?_
        refine WP.cond (b := decide (((u : Int) : Int) < 64)) rfl (fun hb => ?_) (fun hb => ?_)
        ·
          have hq51 := of_decide_eq_true hb
          have hut : u < 64 := by omega
          refine WP.skip ?_
          refine WP.seq (WP.block ?_)
          refine wp_sdf (E := noPanic) [(0, true), (1, true), (2, true), (5, true), (6, true), (7, true), (9, true), (10, true), (12, true), (13, true), (16, true), (17, true), (21, true), (22, true), (23, true), (24, true), (25, true), (26, true), (27, true), (28, true), (29, true), (30, true), (31, true), (32, true), (3, false), (4, true), (8, true), (11, false), (14, false), (15, true), (18, false), (19, false), (20, false), (33, false), (34, false)] [1, 7, 10, 13, 17, 22, 24, 27, 30] mixed (by kernel_rfl) (by kernel_rfl) rfl (fun w' => Mem w [] [(b40, row (c8 (rnds b s u)) 221), (b5, row (WRow (wrd b 64)) 309), (b3, row ([(v32 0), (v32 0), (v32 0), (v32 0), (v32 0), (v32 0), (v32 0), (v32 0)]) 221), (b1, row (c8 (s)) 221)] w') noPanic_imp hm.drew ?_
          have hm := hm.drew
          refine rp_valp rfl rfl (v := (.pointer (some ⟨b40, 7, none⟩))) (fun w' => val_fieldAddr (d := 7) hs50 fo_221_7) ?_
          refine rp_val rfl rfl (v := (v32 ((rnds b s u).h))) (fun w' hs => val_load1 (v := (v32 ((rnds b s u).h))) (off := 7) rfl ag_219 (hs.row (i := 0) rfl).l (c8_at _ (by decide))) ?_
          refine rp_valp rfl rfl (v := (vI (u : Int))) (fun w' => val_move (v := (vI (u : Int))) hs46) ?_
          refine rp_valp rfl rfl (v := (vI (u : Int))) (fun w' => val_move (v := (vI (u : Int))) hs46) ?_
          refine rp_valp rfl rfl (v := (.pointer (some ⟨b5, u, none⟩))) (fun w' => val_cast (val_indexAr (i := (u : Int)) (n := 64) (sz := 1) hs49 rfl ea_309 (by omega)) (ptr_eq (by omega))) ?_
          refine rp_val rfl rfl (v := (v32 (wd b u))) (fun w' hs => val_load1 (v := v32 (wd b u)) (off := u) rfl ag_219 (hs.row (i := 1) rfl).l (by rw [wrow_at _ (by omega), wrd_lt (by omega)])) ?_
          refine rp_valp rfl rfl (v := (.pointer (some ⟨b40, 4, none⟩))) (fun w' => val_fieldAddr (d := 4) hs50 fo_221_4) ?_
          refine rp_val rfl rfl (v := (v32 ((rnds b s u).e))) (fun w' hs => val_load1 (v := (v32 ((rnds b s u).e))) (off := 4) rfl ag_219 (hs.row (i := 0) rfl).l (c8_at _ (by decide))) ?_
          refine rp_valp rfl rfl (v := (.pointer (some ⟨b40, 4, none⟩))) (fun w' => val_fieldAddr (d := 4) hs50 fo_221_4) ?_
          refine rp_val rfl rfl (v := (v32 ((rnds b s u).e))) (fun w' hs => val_load1 (v := (v32 ((rnds b s u).e))) (off := 4) rfl ag_219 (hs.row (i := 0) rfl).l (c8_at _ (by decide))) ?_
          refine rp_valp rfl rfl (v := (.pointer (some ⟨b40, 4, none⟩))) (fun w' => val_fieldAddr (d := 4) hs50 fo_221_4) ?_
          refine rp_val rfl rfl (v := (v32 ((rnds b s u).e))) (fun w' hs => val_load1 (v := (v32 ((rnds b s u).e))) (off := 4) rfl ag_219 (hs.row (i := 0) rfl).l (c8_at _ (by decide))) ?_
          refine rp_valp rfl rfl (v := (.pointer (some ⟨b40, 4, none⟩))) (fun w' => val_fieldAddr (d := 4) hs50 fo_221_4) ?_
          refine rp_val rfl rfl (v := (v32 ((rnds b s u).e))) (fun w' hs => val_load1 (v := (v32 ((rnds b s u).e))) (off := 4) rfl ag_219 (hs.row (i := 0) rfl).l (c8_at _ (by decide))) ?_
          refine rp_valp rfl rfl (v := (.pointer (some ⟨b40, 5, none⟩))) (fun w' => val_fieldAddr (d := 5) hs50 fo_221_5) ?_
          refine rp_val rfl rfl (v := (v32 ((rnds b s u).f))) (fun w' hs => val_load1 (v := (v32 ((rnds b s u).f))) (off := 5) rfl ag_219 (hs.row (i := 0) rfl).l (c8_at _ (by decide))) ?_
          refine rp_valp rfl rfl (v := (v32 (((rnds b s u).e) &&& ((rnds b s u).f)))) (fun w' => val_and32 (a := (rnds b s u).e) (b := (rnds b s u).f) rfl rfl) ?_
          refine rp_valp rfl rfl (v := (.pointer (some ⟨b40, 4, none⟩))) (fun w' => val_fieldAddr (d := 4) hs50 fo_221_4) ?_
          refine rp_val rfl rfl (v := (v32 ((rnds b s u).e))) (fun w' hs => val_load1 (v := (v32 ((rnds b s u).e))) (off := 4) rfl ag_219 (hs.row (i := 0) rfl).l (c8_at _ (by decide))) ?_
          refine rp_valp rfl rfl (v := (v32 (~~~((rnds b s u).e)))) (fun w' => val_not32 (a := (rnds b s u).e) rfl) ?_
          refine rp_valp rfl rfl (v := (.pointer (some ⟨b40, 6, none⟩))) (fun w' => val_fieldAddr (d := 6) hs50 fo_221_6) ?_
          refine rp_val rfl rfl (v := (v32 ((rnds b s u).g))) (fun w' hs => val_load1 (v := (v32 ((rnds b s u).g))) (off := 6) rfl ag_219 (hs.row (i := 0) rfl).l (c8_at _ (by decide))) ?_
          refine rp_valp rfl rfl (v := (v32 ((~~~((rnds b s u).e)) &&& ((rnds b s u).g)))) (fun w' => val_and32 (a := ~~~((rnds b s u).e)) (b := (rnds b s u).g) rfl rfl) ?_
          refine rp_valp rfl rfl (v := (v32 ((((rnds b s u).e) &&& ((rnds b s u).f)) ||| ((~~~((rnds b s u).e)) &&& ((rnds b s u).g))))) (fun w' => val_or32 (a := ((rnds b s u).e) &&& ((rnds b s u).f)) (b := (~~~((rnds b s u).e)) &&& ((rnds b s u).g)) rfl rfl) ?_
          refine rp_call rfl rfl (ent_static (args := [(vI (u : Int))]) Tryz.func271 rfl rfl rfl rfl) (added_ok u hut _) ?_
          rintro _ w52 ⟨rfl, h53⟩
          refine callQ_ret ?_
          refine ⟨.inr ((hm.call h53).sub (by ((try (simp only [List.append_assoc, List.nil_append, List.append_nil, List.cons_append])); repeat (first | exact List.nil_sublist _ | exact List.Sublist.refl _ | with_reducible refine List.Sublist.cons_cons _ ?_ | with_reducible refine List.Sublist.append (List.Sublist.refl _) ?_ | with_reducible exact List.sublist_append_left _ _ | refine List.Sublist.cons _ ?_ | refine List.Sublist.trans ?_ (List.sublist_append_right _ _))))), ?_⟩
          replace hm : Mem w [] [(b40, row (c8 (rnds b s u)) 221), (b5, row (WRow (wrd b 64)) 309), (b3, row ([(v32 0), (v32 0), (v32 0), (v32 0), (v32 0), (v32 0), (v32 0), (v32 0)]) 221), (b1, row (c8 (s)) 221)] w52 := hm.call h53
          refine rp_valp rfl rfl (v := (v32 (((rnds b s u).h) + (Kat u)))) (fun w' => val_add32 (a := (rnds b s u).h) (b := Kat u) rfl rfl) ?_
          refine rp_valp rfl rfl (v := (v32 ((((rnds b s u).h) + (Kat u)) + (wd b u)))) (fun w' => val_add32 (a := ((rnds b s u).h) + (Kat u)) (b := wd b u) rfl rfl) ?_
          refine rp_call rfl rfl (ent_static (args := [(v32 ((rnds b s u).e)), (vI 6)]) Tryz.func270 rfl rfl rfl rfl) (rr_okI ((rnds b s u).e) 6 6 (by decide) (by decide) (by decide) _) ?_
          rintro _ w54 ⟨rfl, h55⟩
          refine callQ_ret ?_
          refine ⟨.inr ((hm.call h55).sub (by ((try (simp only [List.append_assoc, List.nil_append, List.append_nil, List.cons_append])); repeat (first | exact List.nil_sublist _ | exact List.Sublist.refl _ | with_reducible refine List.Sublist.cons_cons _ ?_ | with_reducible refine List.Sublist.append (List.Sublist.refl _) ?_ | with_reducible exact List.sublist_append_left _ _ | refine List.Sublist.cons _ ?_ | refine List.Sublist.trans ?_ (List.sublist_append_right _ _))))), ?_⟩
          replace hm : Mem w [] [(b40, row (c8 (rnds b s u)) 221), (b5, row (WRow (wrd b 64)) 309), (b3, row ([(v32 0), (v32 0), (v32 0), (v32 0), (v32 0), (v32 0), (v32 0), (v32 0)]) 221), (b1, row (c8 (s)) 221)] w54 := hm.call h55
          refine rp_call rfl rfl (ent_static (args := [(v32 ((rnds b s u).e)), (vI 11)]) Tryz.func270 rfl rfl rfl rfl) (rr_okI ((rnds b s u).e) 11 11 (by decide) (by decide) (by decide) _) ?_
          rintro _ w56 ⟨rfl, h57⟩
          refine callQ_ret ?_
          refine ⟨.inr ((hm.call h57).sub (by ((try (simp only [List.append_assoc, List.nil_append, List.append_nil, List.cons_append])); repeat (first | exact List.nil_sublist _ | exact List.Sublist.refl _ | with_reducible refine List.Sublist.cons_cons _ ?_ | with_reducible refine List.Sublist.append (List.Sublist.refl _) ?_ | with_reducible exact List.sublist_append_left _ _ | refine List.Sublist.cons _ ?_ | refine List.Sublist.trans ?_ (List.sublist_append_right _ _))))), ?_⟩
          replace hm : Mem w [] [(b40, row (c8 (rnds b s u)) 221), (b5, row (WRow (wrd b 64)) 309), (b3, row ([(v32 0), (v32 0), (v32 0), (v32 0), (v32 0), (v32 0), (v32 0), (v32 0)]) 221), (b1, row (c8 (s)) 221)] w56 := hm.call h57
          refine rp_valp rfl rfl (v := (v32 ((rot ((rnds b s u).e) 6) ^^^ (rot ((rnds b s u).e) 11)))) (fun w' => val_xor32 (a := rot ((rnds b s u).e) 6) (b := rot ((rnds b s u).e) 11) rfl rfl) ?_
          refine rp_call rfl rfl (ent_static (args := [(v32 ((rnds b s u).e)), (vI 25)]) Tryz.func270 rfl rfl rfl rfl) (rr_okI ((rnds b s u).e) 25 25 (by decide) (by decide) (by decide) _) ?_
          rintro _ w58 ⟨rfl, h59⟩
          refine callQ_ret ?_
          refine ⟨.inr ((hm.call h59).sub (by ((try (simp only [List.append_assoc, List.nil_append, List.append_nil, List.cons_append])); repeat (first | exact List.nil_sublist _ | exact List.Sublist.refl _ | with_reducible refine List.Sublist.cons_cons _ ?_ | with_reducible refine List.Sublist.append (List.Sublist.refl _) ?_ | with_reducible exact List.sublist_append_left _ _ | refine List.Sublist.cons _ ?_ | refine List.Sublist.trans ?_ (List.sublist_append_right _ _))))), ?_⟩
          replace hm : Mem w [] [(b40, row (c8 (rnds b s u)) 221), (b5, row (WRow (wrd b 64)) 309), (b3, row ([(v32 0), (v32 0), (v32 0), (v32 0), (v32 0), (v32 0), (v32 0), (v32 0)]) 221), (b1, row (c8 (s)) 221)] w58 := hm.call h59
          refine rp_vale rfl rfl (v := (v32 (((rot ((rnds b s u).e) 6) ^^^ (rot ((rnds b s u).e) 11)) ^^^ (rot ((rnds b s u).e) 25)))) (val_xor32 (a := (rot ((rnds b s u).e) 6) ^^^ (rot ((rnds b s u).e) 11)) (b := rot ((rnds b s u).e) 25) rfl rfl) (.inr (hm.sub (by ((try (simp only [List.append_assoc, List.nil_append, List.append_nil, List.cons_append])); repeat (first | exact List.nil_sublist _ | exact List.Sublist.refl _ | with_reducible refine List.Sublist.cons_cons _ ?_ | with_reducible refine List.Sublist.append (List.Sublist.refl _) ?_ | with_reducible exact List.sublist_append_left _ _ | refine List.Sublist.cons _ ?_ | refine List.Sublist.trans ?_ (List.sublist_append_right _ _)))))) ?_
          refine rp_vale rfl rfl (v := (v32 (((((rnds b s u).h) + (Kat u)) + (wd b u)) + (((rot ((rnds b s u).e) 6) ^^^ (rot ((rnds b s u).e) 11)) ^^^ (rot ((rnds b s u).e) 25))))) (val_add32 (a := (((rnds b s u).h) + (Kat u)) + (wd b u)) (b := ((rot ((rnds b s u).e) 6) ^^^ (rot ((rnds b s u).e) 11)) ^^^ (rot ((rnds b s u).e) 25)) rfl rfl) (.inr (hm.sub (by ((try (simp only [List.append_assoc, List.nil_append, List.append_nil, List.cons_append])); repeat (first | exact List.nil_sublist _ | exact List.Sublist.refl _ | with_reducible refine List.Sublist.cons_cons _ ?_ | with_reducible refine List.Sublist.append (List.Sublist.refl _) ?_ | with_reducible exact List.sublist_append_left _ _ | refine List.Sublist.cons _ ?_ | refine List.Sublist.trans ?_ (List.sublist_append_right _ _)))))) ?_
          refine rp_vale rfl rfl (v := (v32 ((((((rnds b s u).h) + (Kat u)) + (wd b u)) + (((rot ((rnds b s u).e) 6) ^^^ (rot ((rnds b s u).e) 11)) ^^^ (rot ((rnds b s u).e) 25))) + ((((rnds b s u).e) &&& ((rnds b s u).f)) ||| ((~~~((rnds b s u).e)) &&& ((rnds b s u).g)))))) (val_add32 (a := ((((rnds b s u).h) + (Kat u)) + (wd b u)) + (((rot ((rnds b s u).e) 6) ^^^ (rot ((rnds b s u).e) 11)) ^^^ (rot ((rnds b s u).e) 25))) (b := (((rnds b s u).e) &&& ((rnds b s u).f)) ||| ((~~~((rnds b s u).e)) &&& ((rnds b s u).g))) rfl rfl) (.inl (by kernel_rfl)) ?_
          refine rp_vale rfl rfl (v := (v32 (pr b s u))) (val_cast (v' := v32 (pr b s u)) (val_assign rfl) rfl) (.inl (by kernel_rfl)) ?_
          refine rp_nil ?_
          refine wp_sdf (E := noPanic) [(0, true), (1, true), (3, true), (4, true), (7, true), (8, true), (11, true), (12, true), (13, true), (14, true), (15, true), (16, true), (17, true), (18, true), (19, true), (20, true), (21, true), (22, true), (23, true), (24, true), (25, true), (26, true), (27, true), (2, false), (5, false), (6, true), (9, false), (10, false), (28, false), (29, false)] [1, 4, 8, 12, 14, 17, 19, 23, 25] mixed (by kernel_rfl) (by kernel_rfl) rfl (fun w' => Mem w [] [(b40, row (c8 (rnds b s u)) 221), (b5, row (WRow (wrd b 64)) 309), (b3, row ([(v32 0), (v32 0), (v32 0), (v32 0), (v32 0), (v32 0), (v32 0), (v32 0)]) 221), (b1, row (c8 (s)) 221)] w') noPanic_imp hm.drew ?_
          have hm := hm.drew
          refine rp_valp rfl rfl (v := (.pointer (some ⟨b40, 0, none⟩))) (fun w' => val_fieldAddr (d := 0) hs50 fo_221_0) ?_
          refine rp_val rfl rfl (v := (v32 ((rnds b s u).a))) (fun w' hs => val_load1 (v := (v32 ((rnds b s u).a))) (off := 0) rfl ag_219 (hs.row (i := 0) rfl).l (c8_at _ (by decide))) ?_
          refine rp_valp rfl rfl (v := (.pointer (some ⟨b40, 0, none⟩))) (fun w' => val_fieldAddr (d := 0) hs50 fo_221_0) ?_
          refine rp_val rfl rfl (v := (v32 ((rnds b s u).a))) (fun w' hs => val_load1 (v := (v32 ((rnds b s u).a))) (off := 0) rfl ag_219 (hs.row (i := 0) rfl).l (c8_at _ (by decide))) ?_
          refine rp_valp rfl rfl (v := (.pointer (some ⟨b40, 0, none⟩))) (fun w' => val_fieldAddr (d := 0) hs50 fo_221_0) ?_
          refine rp_val rfl rfl (v := (v32 ((rnds b s u).a))) (fun w' hs => val_load1 (v := (v32 ((rnds b s u).a))) (off := 0) rfl ag_219 (hs.row (i := 0) rfl).l (c8_at _ (by decide))) ?_
          refine rp_valp rfl rfl (v := (.pointer (some ⟨b40, 0, none⟩))) (fun w' => val_fieldAddr (d := 0) hs50 fo_221_0) ?_
          refine rp_val rfl rfl (v := (v32 ((rnds b s u).a))) (fun w' hs => val_load1 (v := (v32 ((rnds b s u).a))) (off := 0) rfl ag_219 (hs.row (i := 0) rfl).l (c8_at _ (by decide))) ?_
          refine rp_valp rfl rfl (v := (.pointer (some ⟨b40, 1, none⟩))) (fun w' => val_fieldAddr (d := 1) hs50 fo_221_1) ?_
          refine rp_val rfl rfl (v := (v32 ((rnds b s u).b))) (fun w' hs => val_load1 (v := (v32 ((rnds b s u).b))) (off := 1) rfl ag_219 (hs.row (i := 0) rfl).l (c8_at _ (by decide))) ?_
          refine rp_valp rfl rfl (v := (v32 (((rnds b s u).a) &&& ((rnds b s u).b)))) (fun w' => val_and32 (a := (rnds b s u).a) (b := (rnds b s u).b) rfl rfl) ?_
          refine rp_valp rfl rfl (v := (.pointer (some ⟨b40, 0, none⟩))) (fun w' => val_fieldAddr (d := 0) hs50 fo_221_0) ?_
          refine rp_val rfl rfl (v := (v32 ((rnds b s u).a))) (fun w' hs => val_load1 (v := (v32 ((rnds b s u).a))) (off := 0) rfl ag_219 (hs.row (i := 0) rfl).l (c8_at _ (by decide))) ?_
          refine rp_valp rfl rfl (v := (.pointer (some ⟨b40, 2, none⟩))) (fun w' => val_fieldAddr (d := 2) hs50 fo_221_2) ?_
          refine rp_val rfl rfl (v := (v32 ((rnds b s u).c))) (fun w' hs => val_load1 (v := (v32 ((rnds b s u).c))) (off := 2) rfl ag_219 (hs.row (i := 0) rfl).l (c8_at _ (by decide))) ?_
          refine rp_valp rfl rfl (v := (v32 (((rnds b s u).a) &&& ((rnds b s u).c)))) (fun w' => val_and32 (a := (rnds b s u).a) (b := (rnds b s u).c) rfl rfl) ?_
          refine rp_valp rfl rfl (v := (v32 ((((rnds b s u).a) &&& ((rnds b s u).b)) ||| (((rnds b s u).a) &&& ((rnds b s u).c))))) (fun w' => val_or32 (a := ((rnds b s u).a) &&& ((rnds b s u).b)) (b := ((rnds b s u).a) &&& ((rnds b s u).c)) rfl rfl) ?_
          refine rp_valp rfl rfl (v := (.pointer (some ⟨b40, 1, none⟩))) (fun w' => val_fieldAddr (d := 1) hs50 fo_221_1) ?_
          refine rp_val rfl rfl (v := (v32 ((rnds b s u).b))) (fun w' hs => val_load1 (v := (v32 ((rnds b s u).b))) (off := 1) rfl ag_219 (hs.row (i := 0) rfl).l (c8_at _ (by decide))) ?_
          refine rp_valp rfl rfl (v := (.pointer (some ⟨b40, 2, none⟩))) (fun w' => val_fieldAddr (d := 2) hs50 fo_221_2) ?_
          refine rp_val rfl rfl (v := (v32 ((rnds b s u).c))) (fun w' hs => val_load1 (v := (v32 ((rnds b s u).c))) (off := 2) rfl ag_219 (hs.row (i := 0) rfl).l (c8_at _ (by decide))) ?_
          refine rp_valp rfl rfl (v := (v32 (((rnds b s u).b) &&& ((rnds b s u).c)))) (fun w' => val_and32 (a := (rnds b s u).b) (b := (rnds b s u).c) rfl rfl) ?_
          refine rp_valp rfl rfl (v := (v32 (((((rnds b s u).a) &&& ((rnds b s u).b)) ||| (((rnds b s u).a) &&& ((rnds b s u).c))) ||| (((rnds b s u).b) &&& ((rnds b s u).c))))) (fun w' => val_or32 (a := (((rnds b s u).a) &&& ((rnds b s u).b)) ||| (((rnds b s u).a) &&& ((rnds b s u).c))) (b := ((rnds b s u).b) &&& ((rnds b s u).c)) rfl rfl) ?_
          refine rp_call rfl rfl (ent_static (args := [(v32 ((rnds b s u).a)), (vI 2)]) Tryz.func270 rfl rfl rfl rfl) (rr_okI ((rnds b s u).a) 2 2 (by decide) (by decide) (by decide) _) ?_
          rintro _ w60 ⟨rfl, h61⟩
          refine callQ_ret ?_
          refine ⟨.inr ((hm.call h61).sub (by ((try (simp only [List.append_assoc, List.nil_append, List.append_nil, List.cons_append])); repeat (first | exact List.nil_sublist _ | exact List.Sublist.refl _ | with_reducible refine List.Sublist.cons_cons _ ?_ | with_reducible refine List.Sublist.append (List.Sublist.refl _) ?_ | with_reducible exact List.sublist_append_left _ _ | refine List.Sublist.cons _ ?_ | refine List.Sublist.trans ?_ (List.sublist_append_right _ _))))), ?_⟩
          replace hm : Mem w [] [(b40, row (c8 (rnds b s u)) 221), (b5, row (WRow (wrd b 64)) 309), (b3, row ([(v32 0), (v32 0), (v32 0), (v32 0), (v32 0), (v32 0), (v32 0), (v32 0)]) 221), (b1, row (c8 (s)) 221)] w60 := hm.call h61
          refine rp_call rfl rfl (ent_static (args := [(v32 ((rnds b s u).a)), (vI 13)]) Tryz.func270 rfl rfl rfl rfl) (rr_okI ((rnds b s u).a) 13 13 (by decide) (by decide) (by decide) _) ?_
          rintro _ w62 ⟨rfl, h63⟩
          refine callQ_ret ?_
          refine ⟨.inr ((hm.call h63).sub (by ((try (simp only [List.append_assoc, List.nil_append, List.append_nil, List.cons_append])); repeat (first | exact List.nil_sublist _ | exact List.Sublist.refl _ | with_reducible refine List.Sublist.cons_cons _ ?_ | with_reducible refine List.Sublist.append (List.Sublist.refl _) ?_ | with_reducible exact List.sublist_append_left _ _ | refine List.Sublist.cons _ ?_ | refine List.Sublist.trans ?_ (List.sublist_append_right _ _))))), ?_⟩
          replace hm : Mem w [] [(b40, row (c8 (rnds b s u)) 221), (b5, row (WRow (wrd b 64)) 309), (b3, row ([(v32 0), (v32 0), (v32 0), (v32 0), (v32 0), (v32 0), (v32 0), (v32 0)]) 221), (b1, row (c8 (s)) 221)] w62 := hm.call h63
          refine rp_valp rfl rfl (v := (v32 ((rot ((rnds b s u).a) 2) ^^^ (rot ((rnds b s u).a) 13)))) (fun w' => val_xor32 (a := rot ((rnds b s u).a) 2) (b := rot ((rnds b s u).a) 13) rfl rfl) ?_
          refine rp_call rfl rfl (ent_static (args := [(v32 ((rnds b s u).a)), (vI 22)]) Tryz.func270 rfl rfl rfl rfl) (rr_okI ((rnds b s u).a) 22 22 (by decide) (by decide) (by decide) _) ?_
          rintro _ w64 ⟨rfl, h65⟩
          refine callQ_ret ?_
          refine ⟨.inr ((hm.call h65).sub (by ((try (simp only [List.append_assoc, List.nil_append, List.append_nil, List.cons_append])); repeat (first | exact List.nil_sublist _ | exact List.Sublist.refl _ | with_reducible refine List.Sublist.cons_cons _ ?_ | with_reducible refine List.Sublist.append (List.Sublist.refl _) ?_ | with_reducible exact List.sublist_append_left _ _ | refine List.Sublist.cons _ ?_ | refine List.Sublist.trans ?_ (List.sublist_append_right _ _))))), ?_⟩
          replace hm : Mem w [] [(b40, row (c8 (rnds b s u)) 221), (b5, row (WRow (wrd b 64)) 309), (b3, row ([(v32 0), (v32 0), (v32 0), (v32 0), (v32 0), (v32 0), (v32 0), (v32 0)]) 221), (b1, row (c8 (s)) 221)] w64 := hm.call h65
          refine rp_vale rfl rfl (v := (v32 (((rot ((rnds b s u).a) 2) ^^^ (rot ((rnds b s u).a) 13)) ^^^ (rot ((rnds b s u).a) 22)))) (val_xor32 (a := (rot ((rnds b s u).a) 2) ^^^ (rot ((rnds b s u).a) 13)) (b := rot ((rnds b s u).a) 22) rfl rfl) (.inr (hm.sub (by ((try (simp only [List.append_assoc, List.nil_append, List.append_nil, List.cons_append])); repeat (first | exact List.nil_sublist _ | exact List.Sublist.refl _ | with_reducible refine List.Sublist.cons_cons _ ?_ | with_reducible refine List.Sublist.append (List.Sublist.refl _) ?_ | with_reducible exact List.sublist_append_left _ _ | refine List.Sublist.cons _ ?_ | refine List.Sublist.trans ?_ (List.sublist_append_right _ _)))))) ?_
          refine rp_vale rfl rfl (v := (v32 ((((rot ((rnds b s u).a) 2) ^^^ (rot ((rnds b s u).a) 13)) ^^^ (rot ((rnds b s u).a) 22)) + (((((rnds b s u).a) &&& ((rnds b s u).b)) ||| (((rnds b s u).a) &&& ((rnds b s u).c))) ||| (((rnds b s u).b) &&& ((rnds b s u).c)))))) (val_add32 (a := ((rot ((rnds b s u).a) 2) ^^^ (rot ((rnds b s u).a) 13)) ^^^ (rot ((rnds b s u).a) 22)) (b := ((((rnds b s u).a) &&& ((rnds b s u).b)) ||| (((rnds b s u).a) &&& ((rnds b s u).c))) ||| (((rnds b s u).b) &&& ((rnds b s u).c))) rfl rfl) (.inl (by kernel_rfl)) ?_
          refine rp_vale rfl rfl (v := (v32 (qr b s u))) (val_cast (v' := v32 (qr b s u)) (val_assign rfl) rfl) (.inl (by kernel_rfl)) ?_
          refine rp_nil ?_
          refine wp_r (E := noPanic) noPanic_imp ?_
          refine rl_val rfl (v := (v32 (pr b s u))) (val_move (v := (v32 (pr b s u))) rfl) ?_
          refine rl_val rfl (v := (v32 (qr b s u))) (val_move (v := (v32 (qr b s u))) rfl) ?_
          refine rl_val rfl (v := (v32 ((pr b s u) + (qr b s u)))) (val_add32 (a := pr b s u) (b := qr b s u) rfl rfl) ?_
          refine rl_val rfl (v := (.pointer (some ⟨b40, 0, none⟩))) (val_fieldAddr (d := 0) hs50 fo_221_0) ?_
          refine rl_val rfl (v := (v32 ((rnds b s u).a))) (val_load1 (v := (v32 ((rnds b s u).a))) (off := 0) rfl ag_219 (hm.row (i := 0) rfl).l (c8_at _ (by decide))) ?_
          refine rl_val rfl (v := (.pointer (some ⟨b40, 1, none⟩))) (val_fieldAddr (d := 1) hs50 fo_221_1) ?_
          refine rl_val rfl (v := (v32 ((rnds b s u).b))) (val_load1 (v := (v32 ((rnds b s u).b))) (off := 1) rfl ag_219 (hm.row (i := 0) rfl).l (c8_at _ (by decide))) ?_
          refine rl_val rfl (v := (.pointer (some ⟨b40, 2, none⟩))) (val_fieldAddr (d := 2) hs50 fo_221_2) ?_
          refine rl_val rfl (v := (v32 ((rnds b s u).c))) (val_load1 (v := (v32 ((rnds b s u).c))) (off := 2) rfl ag_219 (hm.row (i := 0) rfl).l (c8_at _ (by decide))) ?_
          refine rl_val rfl (v := (.pointer (some ⟨b40, 3, none⟩))) (val_fieldAddr (d := 3) hs50 fo_221_3) ?_
          refine rl_val rfl (v := (v32 ((rnds b s u).d))) (val_load1 (v := (v32 ((rnds b s u).d))) (off := 3) rfl ag_219 (hm.row (i := 0) rfl).l (c8_at _ (by decide))) ?_
          refine rl_val rfl (v := (v32 (pr b s u))) (val_move (v := (v32 (pr b s u))) rfl) ?_
          refine rl_val rfl (v := (v32 (((rnds b s u).d) + (pr b s u)))) (val_add32 (a := (rnds b s u).d) (b := pr b s u) rfl rfl) ?_
          refine rl_val rfl (v := (.pointer (some ⟨b40, 4, none⟩))) (val_fieldAddr (d := 4) hs50 fo_221_4) ?_
          refine rl_val rfl (v := (v32 ((rnds b s u).e))) (val_load1 (v := (v32 ((rnds b s u).e))) (off := 4) rfl ag_219 (hm.row (i := 0) rfl).l (c8_at _ (by decide))) ?_
          refine rl_val rfl (v := (.pointer (some ⟨b40, 5, none⟩))) (val_fieldAddr (d := 5) hs50 fo_221_5) ?_
          refine rl_val rfl (v := (v32 ((rnds b s u).f))) (val_load1 (v := (v32 ((rnds b s u).f))) (off := 5) rfl ag_219 (hm.row (i := 0) rfl).l (c8_at _ (by decide))) ?_
          refine rl_val rfl (v := (.pointer (some ⟨b40, 6, none⟩))) (val_fieldAddr (d := 6) hs50 fo_221_6) ?_
          refine rl_val rfl (v := (v32 ((rnds b s u).g))) (val_load1 (v := (v32 ((rnds b s u).g))) (off := 6) rfl ag_219 (hm.row (i := 0) rfl).l (c8_at _ (by decide))) ?_
          refine rl_val rfl (v := (.agg (c8 (rnds b s (u + 1))).toArray)) (val_cast (v' := .agg (c8 (rnds b s (u + 1))).toArray) (val_build (ps := [(0, (v32 ((pr b s u) + (qr b s u)))), (1, (v32 ((rnds b s u).a))), (2, (v32 ((rnds b s u).b))), (3, (v32 ((rnds b s u).c))), (4, (v32 (((rnds b s u).d) + (pr b s u)))), (5, (v32 ((rnds b s u).e))), (6, (v32 ((rnds b s u).f))), (7, (v32 ((rnds b s u).g)))]) pl_221 zo_221 (plc_cons rfl (plc_cons rfl (plc_cons rfl (plc_cons rfl (plc_cons rfl (plc_cons rfl (plc_cons rfl (plc_cons rfl (plc_nil))))))))) (bok_cons rfl rfl (by decide) (bok_cons rfl rfl (by decide) (bok_cons rfl rfl (by decide) (bok_cons rfl rfl (by decide) (bok_cons rfl rfl (by decide) (bok_cons rfl rfl (by decide) (bok_cons rfl rfl (by decide) (bok_cons rfl rfl (by decide) (bok_nil))))))))) (cs := [(v32 ((pr b s u) + (qr b s u))), (v32 ((rnds b s u).a)), (v32 ((rnds b s u).b)), (v32 ((rnds b s u).c)), (v32 (((rnds b s u).d) + (pr b s u))), (v32 ((rnds b s u).e)), (v32 ((rnds b s u).f)), (v32 ((rnds b s u).g))]) rfl) (agg_c (c8_rnd _ _ _))) ?_
          refine rl_store (i := 0) (off := 0) (xs := (c8 (rnds b s u))) (vs := c8 (rnds b s (u + 1))) rfl hs50 rfl ag_221 hm rfl rfl (c8_len _) (by simp) (c8_one _) ?_
          intro w66 hm
          rw [spl_all (n := 8) (by simp) (by simp)] at hm
          replace hm : Mem w [] [(b40, row (c8 (rnds b s (u + 1))) 221), (b5, row (WRow (wrd b 64)) 309), (b3, row ([(v32 0), (v32 0), (v32 0), (v32 0), (v32 0), (v32 0), (v32 0), (v32 0)]) 221), (b1, row (c8 (s)) 221)] w66 := hm
          refine rl_nil ?_
          refine wp_r (E := noPanic) noPanic_imp ?_
          refine rl_val rfl (v := (vI (u : Int))) (val_move (v := (vI (u : Int))) hs46) ?_
          refine rl_val rfl (v := (vI ((u : Int) + 1))) (val_addI (p := (u : Int)) (q := 1) rfl rfl (by omega)) ?_
          refine rl_val rfl (v := (vI ((u : Int) + 1))) (val_assign (v := (vI ((u : Int) + 1))) rfl) ?_
          refine rl_nil ?_
          exact ⟨64 - (u + 1), by omega, ⟨u + 1, rfl, by omega, hm, (by first | rfl | (refine int_eq ?_; simp; try omega) | (refine int_eq ?_; omega)), hs47, hs48, hs49, hs50⟩⟩
        ·
          have hq67 := of_decide_eq_false hb
          obtain rfl : u = 64 := by omega
          refine WP.exit ?_
          repeat (first | with_reducible refine exit_pass ?_ | with_reducible refine exit_other rfl ?_)
          refine blk_here ?_
          refine wp_sr (E := noPanic) noPanic_imp ?_
          refine rl_val rfl (v := (.pointer (some ⟨b1, 0, none⟩))) (val_fieldAddr (d := 0) hs47 fo_221_0) ?_
          refine rl_val rfl (v := (v32 ((s).a))) (val_load1 (v := (v32 ((s).a))) (off := 0) rfl ag_219 (hm.row (i := 3) rfl).l (c8_at _ (by decide))) ?_
          refine rl_val rfl (v := (.pointer (some ⟨b40, 0, none⟩))) (val_fieldAddr (d := 0) hs50 fo_221_0) ?_
          refine rl_val rfl (v := (v32 ((rnds b s 64).a))) (val_load1 (v := (v32 ((rnds b s 64).a))) (off := 0) rfl ag_219 (hm.row (i := 0) rfl).l (c8_at _ (by decide))) ?_
          refine rl_val rfl (v := (v32 (((s).a) + ((rnds b s 64).a)))) (val_add32 (a := (s).a) (b := (rnds b s 64).a) rfl rfl) ?_
          refine rl_val rfl (v := (.pointer (some ⟨b1, 1, none⟩))) (val_fieldAddr (d := 1) hs47 fo_221_1) ?_
          refine rl_val rfl (v := (v32 ((s).b))) (val_load1 (v := (v32 ((s).b))) (off := 1) rfl ag_219 (hm.row (i := 3) rfl).l (c8_at _ (by decide))) ?_
          refine rl_val rfl (v := (.pointer (some ⟨b40, 1, none⟩))) (val_fieldAddr (d := 1) hs50 fo_221_1) ?_
          refine rl_val rfl (v := (v32 ((rnds b s 64).b))) (val_load1 (v := (v32 ((rnds b s 64).b))) (off := 1) rfl ag_219 (hm.row (i := 0) rfl).l (c8_at _ (by decide))) ?_
          refine rl_val rfl (v := (v32 (((s).b) + ((rnds b s 64).b)))) (val_add32 (a := (s).b) (b := (rnds b s 64).b) rfl rfl) ?_
          refine rl_val rfl (v := (.pointer (some ⟨b1, 2, none⟩))) (val_fieldAddr (d := 2) hs47 fo_221_2) ?_
          refine rl_val rfl (v := (v32 ((s).c))) (val_load1 (v := (v32 ((s).c))) (off := 2) rfl ag_219 (hm.row (i := 3) rfl).l (c8_at _ (by decide))) ?_
          refine rl_val rfl (v := (.pointer (some ⟨b40, 2, none⟩))) (val_fieldAddr (d := 2) hs50 fo_221_2) ?_
          refine rl_val rfl (v := (v32 ((rnds b s 64).c))) (val_load1 (v := (v32 ((rnds b s 64).c))) (off := 2) rfl ag_219 (hm.row (i := 0) rfl).l (c8_at _ (by decide))) ?_
          refine rl_val rfl (v := (v32 (((s).c) + ((rnds b s 64).c)))) (val_add32 (a := (s).c) (b := (rnds b s 64).c) rfl rfl) ?_
          refine rl_val rfl (v := (.pointer (some ⟨b1, 3, none⟩))) (val_fieldAddr (d := 3) hs47 fo_221_3) ?_
          refine rl_val rfl (v := (v32 ((s).d))) (val_load1 (v := (v32 ((s).d))) (off := 3) rfl ag_219 (hm.row (i := 3) rfl).l (c8_at _ (by decide))) ?_
          refine rl_val rfl (v := (.pointer (some ⟨b40, 3, none⟩))) (val_fieldAddr (d := 3) hs50 fo_221_3) ?_
          refine rl_val rfl (v := (v32 ((rnds b s 64).d))) (val_load1 (v := (v32 ((rnds b s 64).d))) (off := 3) rfl ag_219 (hm.row (i := 0) rfl).l (c8_at _ (by decide))) ?_
          refine rl_val rfl (v := (v32 (((s).d) + ((rnds b s 64).d)))) (val_add32 (a := (s).d) (b := (rnds b s 64).d) rfl rfl) ?_
          refine rl_val rfl (v := (.pointer (some ⟨b1, 4, none⟩))) (val_fieldAddr (d := 4) hs47 fo_221_4) ?_
          refine rl_val rfl (v := (v32 ((s).e))) (val_load1 (v := (v32 ((s).e))) (off := 4) rfl ag_219 (hm.row (i := 3) rfl).l (c8_at _ (by decide))) ?_
          refine rl_val rfl (v := (.pointer (some ⟨b40, 4, none⟩))) (val_fieldAddr (d := 4) hs50 fo_221_4) ?_
          refine rl_val rfl (v := (v32 ((rnds b s 64).e))) (val_load1 (v := (v32 ((rnds b s 64).e))) (off := 4) rfl ag_219 (hm.row (i := 0) rfl).l (c8_at _ (by decide))) ?_
          refine rl_val rfl (v := (v32 (((s).e) + ((rnds b s 64).e)))) (val_add32 (a := (s).e) (b := (rnds b s 64).e) rfl rfl) ?_
          refine rl_val rfl (v := (.pointer (some ⟨b1, 5, none⟩))) (val_fieldAddr (d := 5) hs47 fo_221_5) ?_
          refine rl_val rfl (v := (v32 ((s).f))) (val_load1 (v := (v32 ((s).f))) (off := 5) rfl ag_219 (hm.row (i := 3) rfl).l (c8_at _ (by decide))) ?_
          refine rl_val rfl (v := (.pointer (some ⟨b40, 5, none⟩))) (val_fieldAddr (d := 5) hs50 fo_221_5) ?_
          refine rl_val rfl (v := (v32 ((rnds b s 64).f))) (val_load1 (v := (v32 ((rnds b s 64).f))) (off := 5) rfl ag_219 (hm.row (i := 0) rfl).l (c8_at _ (by decide))) ?_
          refine rl_val rfl (v := (v32 (((s).f) + ((rnds b s 64).f)))) (val_add32 (a := (s).f) (b := (rnds b s 64).f) rfl rfl) ?_
          refine rl_val rfl (v := (.pointer (some ⟨b1, 6, none⟩))) (val_fieldAddr (d := 6) hs47 fo_221_6) ?_
          refine rl_val rfl (v := (v32 ((s).g))) (val_load1 (v := (v32 ((s).g))) (off := 6) rfl ag_219 (hm.row (i := 3) rfl).l (c8_at _ (by decide))) ?_
          refine rl_val rfl (v := (.pointer (some ⟨b40, 6, none⟩))) (val_fieldAddr (d := 6) hs50 fo_221_6) ?_
          refine rl_val rfl (v := (v32 ((rnds b s 64).g))) (val_load1 (v := (v32 ((rnds b s 64).g))) (off := 6) rfl ag_219 (hm.row (i := 0) rfl).l (c8_at _ (by decide))) ?_
          refine rl_val rfl (v := (v32 (((s).g) + ((rnds b s 64).g)))) (val_add32 (a := (s).g) (b := (rnds b s 64).g) rfl rfl) ?_
          refine rl_val rfl (v := (.pointer (some ⟨b1, 7, none⟩))) (val_fieldAddr (d := 7) hs47 fo_221_7) ?_
          refine rl_val rfl (v := (v32 ((s).h))) (val_load1 (v := (v32 ((s).h))) (off := 7) rfl ag_219 (hm.row (i := 3) rfl).l (c8_at _ (by decide))) ?_
          refine rl_val rfl (v := (.pointer (some ⟨b40, 7, none⟩))) (val_fieldAddr (d := 7) hs50 fo_221_7) ?_
          refine rl_val rfl (v := (v32 ((rnds b s 64).h))) (val_load1 (v := (v32 ((rnds b s 64).h))) (off := 7) rfl ag_219 (hm.row (i := 0) rfl).l (c8_at _ (by decide))) ?_
          refine rl_val rfl (v := (v32 (((s).h) + ((rnds b s 64).h)))) (val_add32 (a := (s).h) (b := (rnds b s 64).h) rfl rfl) ?_
          refine rl_val rfl (v := (.agg (c8 (Al.take s b)).toArray)) (val_cast (v' := .agg (c8 (Al.take s b)).toArray) (val_build (ps := [(0, (v32 (((s).a) + ((rnds b s 64).a)))), (1, (v32 (((s).b) + ((rnds b s 64).b)))), (2, (v32 (((s).c) + ((rnds b s 64).c)))), (3, (v32 (((s).d) + ((rnds b s 64).d)))), (4, (v32 (((s).e) + ((rnds b s 64).e)))), (5, (v32 (((s).f) + ((rnds b s 64).f)))), (6, (v32 (((s).g) + ((rnds b s 64).g)))), (7, (v32 (((s).h) + ((rnds b s 64).h))))]) pl_221 zo_221 (plc_cons rfl (plc_cons rfl (plc_cons rfl (plc_cons rfl (plc_cons rfl (plc_cons rfl (plc_cons rfl (plc_cons rfl (plc_nil))))))))) (bok_cons rfl rfl (by decide) (bok_cons rfl rfl (by decide) (bok_cons rfl rfl (by decide) (bok_cons rfl rfl (by decide) (bok_cons rfl rfl (by decide) (bok_cons rfl rfl (by decide) (bok_cons rfl rfl (by decide) (bok_cons rfl rfl (by decide) (bok_nil))))))))) (cs := [(v32 (((s).a) + ((rnds b s 64).a))), (v32 (((s).b) + ((rnds b s 64).b))), (v32 (((s).c) + ((rnds b s 64).c))), (v32 (((s).d) + ((rnds b s 64).d))), (v32 (((s).e) + ((rnds b s 64).e))), (v32 (((s).f) + ((rnds b s 64).f))), (v32 (((s).g) + ((rnds b s 64).g))), (v32 (((s).h) + ((rnds b s 64).h)))]) rfl) (agg_c (c8_add _ _))) ?_
          refine rl_store (i := 2) (off := 0) (xs := ([(v32 0), (v32 0), (v32 0), (v32 0), (v32 0), (v32 0), (v32 0), (v32 0)])) (vs := c8 (Al.take s b)) rfl hs48 rfl ag_221 hm rfl rfl (c8_len _) (by simp) (c8_one _) ?_
          intro w68 hm
          rw [spl_all (n := 8) (by simp) (by simp)] at hm
          replace hm : Mem w [] [(b40, row (c8 (rnds b s 64)) 221), (b5, row (WRow (wrd b 64)) 309), (b3, row (c8 (Al.take s b)) 221), (b1, row (c8 (s)) 221)] w68 := hm
          refine rl_nil ?_
          exact WP.ret (post_rets rfl (vs := [.agg (c8 (Al.take s b)).toArray]) ⟨⟨true, 8, _, 0, _, hs48, ag_221, (hm.row (i := 2) rfl).l, by simp, by decide, by simp [rd, List.take_of_length_le]⟩, trivial⟩ rfl ⟨rfl, hm.nil⟩)
end Go.Al
namespace Go.Al
open Go Go.RowKit Go.Proofs
set_option linter.unusedVariables false
set_option linter.unusedSimpArgs false
theorem sl_eq {b o1 o2 n1 n2 c1 c2 : Nat} (h1 : o1 = o2) (h2 : n1 = n2) (h3 : c1 = c2) : Value.slice (some ⟨b, o1, none⟩) n1 c1 = .slice (some ⟨b, o2, none⟩) n2 c2 := by rw [h1, h2, h3]
theorem all_len (l : List UInt8) : (l ++ endL l.length).length % 64 = 0 := by
  have := endL_len l.length
  have := pads_len l.length
  rw [List.length_append]
  omega
def blkS (all : List UInt8) (k : Nat) : R8 := (putL st0 (all.take (64 * k))).s
def blkB (all : List UInt8) (k j : Nat) : UInt8 := all.getD (64 * k + j) 0
theorem blkS_0 (all : List UInt8) : blkS all 0 = sha0 := by unfold blkS; simp [st0]
theorem blk_c64 {all : List UInt8} {k : Nat} {rest : List Value} (h : 64 * k + 64 ≤ all.length) : ((all.map v8 ++ rest).drop (64 * k)).take (64 * 1) = c64 (blkB all k) := by
  apply List.ext_getElem?
  intro j
  unfold c64 blkB
  by_cases hj : j < 64
  · rw [List.getElem?_take, if_pos (by omega), List.getElem?_drop, List.getElem?_append_left (by simp; omega)]
    simp [hj, show 64 * k + j < all.length from by omega]
  · rw [List.getElem?_eq_none (by simp; omega), List.getElem?_eq_none (by simp; omega)]
theorem take_congr (s : R8) {f g : Nat → UInt8} (h : ∀ j, j < 64 → f j = g j) : Al.take s f = Al.take s g := by
  have hp : ∀ j, j ≤ 64 → ∀ t, wp f j t = wp g j t := by
    intro j
    induction j with
    | zero => intro _ t; rfl
    | succ j ih => intro hj t; rw [wp, wp, ih (by omega), h j (by omega)]
  have hw : ∀ t, wd f t = wd g t := by
    intro t
    induction t using Nat.strongRecOn with
    | _ t ih =>
      by_cases h16 : t < 16
      · rw [wd_lo _ h16, wd_lo _ h16, hp 64 (Nat.le_refl _)]
      · rw [wd_hi _ (by omega), wd_hi g (by omega), ih _ (by omega), ih _ (by omega), ih (t - 15) (by omega), ih (t - 2) (by omega)]
  have hr : ∀ t, rnds f s t = rnds g s t := by
    intro t
    induction t with
    | zero => rfl
    | succ t ih => rw [rnds, rnds, ih, hw]
  unfold Al.take
  rw [hr]
theorem blkS_succ {all : List UInt8} {k : Nat} (h : 64 * k + 64 ≤ all.length) : blkS all (k + 1) = Al.take (blkS all k) (blkB all k) := by
  unfold blkS
  have e : all.take (64 * (k + 1)) = all.take (64 * k) ++ (all.drop (64 * k)).take 64 := by
    rw [show 64 * (k + 1) = 64 * k + 64 from by omega, List.take_add]
  have hm : (putL st0 (all.take (64 * k))).m = 64 * k := by rw [putL_m]; simp [st0]; omega
  rw [e, putL_app, putL_part _ _ (by simp; omega) (by rw [hm]; simp; omega)]
  simp only
  rw [if_pos (by rw [hm]; simp; omega)]
  refine take_congr _ fun j hj => ?_
  unfold lay blkB
  rw [hm, show 64 * k % 64 = 0 from by omega, if_pos (by simp; omega)]
  simp [List.getD_eq_getElem?_getD, List.getElem?_take, hj]
theorem sha_all (l : List UInt8) {k : Nat} (h : 64 * k = (l ++ endL l.length).length) : sha l = sumOf (blkS (l ++ endL l.length) k) := by
  rw [sha_def]
  unfold sumRun blkS
  rw [← putL_app, h, List.take_length, putL_m]
  simp [st0]
theorem rsum_ok (r : R8) (w : World) : Calls Tryz.prog 215 [.agg (c8 r).toArray].toArray w (Ret w (.agg ((sumOf r).map v8).toArray)) := by
  have hm := Mem.init w
  refine calls_enter (n := 42) Tryz.func215 rfl rfl rfl ?_
  refine wp_sr (E := noPanic) noPanic_imp ?_
  refine rl_box (v := (.agg (c8 (r)).toArray)) (xs := c8 (r)) rfl rfl rfl hm ?_
  intro b1 w2 hm
  refine rl_alloc (xs := List.replicate 32 (v8 0)) rfl zo_50 hm ?_
  intro b3 w4 hm
  refine rl_nil ?_
  refine wp_sr (E := noPanic) noPanic_imp ?_
  refine rl_val rfl (v := (.pointer (some ⟨b1, 0, none⟩))) (val_fieldAddr (d := 0) rfl fo_221_0) ?_
  refine rl_val rfl (v := (v32 ((r).a))) (val_load1 (v := (v32 ((r).a))) (off := 0) rfl ag_219 (hm.row (i := 1) rfl).l (c8_at _ (by decide))) ?_
  refine rl_val rfl (v := (.pointer (some ⟨b1, 1, none⟩))) (val_fieldAddr (d := 1) rfl fo_221_1) ?_
  refine rl_val rfl (v := (v32 ((r).b))) (val_load1 (v := (v32 ((r).b))) (off := 1) rfl ag_219 (hm.row (i := 1) rfl).l (c8_at _ (by decide))) ?_
  refine rl_val rfl (v := (.pointer (some ⟨b1, 2, none⟩))) (val_fieldAddr (d := 2) rfl fo_221_2) ?_
  refine rl_val rfl (v := (v32 ((r).c))) (val_load1 (v := (v32 ((r).c))) (off := 2) rfl ag_219 (hm.row (i := 1) rfl).l (c8_at _ (by decide))) ?_
  refine rl_val rfl (v := (.pointer (some ⟨b1, 3, none⟩))) (val_fieldAddr (d := 3) rfl fo_221_3) ?_
  refine rl_val rfl (v := (v32 ((r).d))) (val_load1 (v := (v32 ((r).d))) (off := 3) rfl ag_219 (hm.row (i := 1) rfl).l (c8_at _ (by decide))) ?_
  refine rl_val rfl (v := (.pointer (some ⟨b1, 4, none⟩))) (val_fieldAddr (d := 4) rfl fo_221_4) ?_
  refine rl_val rfl (v := (v32 ((r).e))) (val_load1 (v := (v32 ((r).e))) (off := 4) rfl ag_219 (hm.row (i := 1) rfl).l (c8_at _ (by decide))) ?_
  refine rl_val rfl (v := (.pointer (some ⟨b1, 5, none⟩))) (val_fieldAddr (d := 5) rfl fo_221_5) ?_
  refine rl_val rfl (v := (v32 ((r).f))) (val_load1 (v := (v32 ((r).f))) (off := 5) rfl ag_219 (hm.row (i := 1) rfl).l (c8_at _ (by decide))) ?_
  refine rl_val rfl (v := (.pointer (some ⟨b1, 6, none⟩))) (val_fieldAddr (d := 6) rfl fo_221_6) ?_
  refine rl_val rfl (v := (v32 ((r).g))) (val_load1 (v := (v32 ((r).g))) (off := 6) rfl ag_219 (hm.row (i := 1) rfl).l (c8_at _ (by decide))) ?_
  refine rl_val rfl (v := (.pointer (some ⟨b1, 7, none⟩))) (val_fieldAddr (d := 7) rfl fo_221_7) ?_
  refine rl_val rfl (v := (v32 ((r).h))) (val_load1 (v := (v32 ((r).h))) (off := 7) rfl ag_219 (hm.row (i := 1) rfl).l (c8_at _ (by decide))) ?_
  refine rl_buildSlice (vs := [(v32 ((r).a)), (v32 ((r).b)), (v32 ((r).c)), (v32 ((r).d)), (v32 ((r).e)), (v32 ((r).f)), (v32 ((r).g)), (v32 ((r).h))]) (cs := [(v32 ((r).a)), (v32 ((r).b)), (v32 ((r).c)), (v32 ((r).d)), (v32 ((r).e)), (v32 ((r).f)), (v32 ((r).g)), (v32 ((r).h))]) rfl ez_312 rfl (parts_cons rfl (parts_cons rfl (parts_cons rfl (parts_cons rfl (parts_cons rfl (parts_cons rfl (parts_cons rfl (parts_cons rfl (parts_nil))))))))) rfl (by decide) (ones_size (ones_cons rfl (ones_cons rfl (ones_cons rfl (ones_cons rfl (ones_cons rfl (ones_cons rfl (ones_cons rfl (ones_cons rfl (ones_nil)))))))))) (ones_flat (ones_cons rfl (ones_cons rfl (ones_cons rfl (ones_cons rfl (ones_cons rfl (ones_cons rfl (ones_cons rfl (ones_cons rfl (ones_nil)))))))))) hm ?_
  intro b5 w6 hm
  refine rl_val rfl (v := (.slice (some ⟨b5, 0, none⟩) 8 8)) (val_assign (v := (.slice (some ⟨b5, 0, none⟩) 8 8)) rfl) ?_
  refine rl_nil ?_
  refine wp_sr (E := noPanic) noPanic_imp ?_
  refine rl_alloc (xs := List.replicate 32 (v8 0)) rfl zo_50 hm ?_
  intro b7 w8 hm
  refine rl_nil ?_
  refine WP.seq ?_
  refine wp_sr (E := noPanic) noPanic_imp ?_
  refine rl_val rfl (v := (vI 0)) (val_assign (v := (vI 0)) rfl) ?_
  refine rl_nil ?_
  refine WP.block ?_
  refine WP.loop (fun mz τ w' => ∃ (i : Nat), 32 - i = mz ∧ i ≤ 32 ∧ Mem w [] [(b7, row (outRow (r) i) 50), (b5, row (c8 (r)) 219), (b3, row (List.replicate 32 (v8 0)) 50), (b1, row (c8 (r)) 221)] w' ∧ τ 2 = (.pointer (some ⟨b3, 0, none⟩)) ∧ τ 3 = (.slice (some ⟨b5, 0, none⟩) 8 8) ∧ τ 4 = (.pointer (some ⟨b7, 0, none⟩)) ∧ τ 5 = (vI (i : Int))) (32) ?_ ?_
  · exact ⟨0, rfl, by omega, (by rw [← outRow0]; exact hm), rfl, rfl, rfl, (by first | rfl | (refine int_eq ?_; simp; try omega) | (refine int_eq ?_; omega))⟩
  · rintro kk10 τ wl9 ⟨i, hk11, hi, hm, hs12, hs13, hs14, hs15⟩
    refine WP.seq ?_
    refine wp_sr (E := noPanic) noPanic_imp ?_
    refine rl_val rfl (v := (vI (i : Int))) (val_move (v := (vI (i : Int))) hs15) ?_
    refine rl_val rfl (v := (.bool (decide (((i : Int) : Int) < 32)))) (val_lt (p := (i : Int)) (q := 32) rfl rfl) ?_
    refine rl_nil ?_
    refine WP.cond (b := decide (((i : Int) : Int) < 32)) rfl (fun hb => ?_) (fun hb => ?_)
    ·
      have hq16 := of_decide_eq_true hb
      have hi32 : i < 32 := by omega
      refine WP.skip ?_
      refine WP.seq (WP.block ?_)
      refine wp_r (E := noPanic) noPanic_imp ?_
      refine rl_val rfl (v := (vI (i : Int))) (val_move (v := (vI (i : Int))) hs15) ?_
      refine rl_val rfl (v := (.slice (some ⟨b5, 0, none⟩) 8 8)) (val_move (v := (.slice (some ⟨b5, 0, none⟩) 8 8)) hs13) ?_
      refine rl_val rfl (v := (vI (i : Int))) (val_move (v := (vI (i : Int))) hs15) ?_
      refine rl_val rfl (v := (vI ((i : Int) / 4))) (val_quoI (p := (i : Int)) (q := 4) rfl rfl (by omega)) ?_
      refine rl_val rfl (v := (.pointer (some ⟨b5, i / 4, none⟩))) (val_cast (val_indexSl (i := (i : Int) / 4) (sz := 1) rfl rfl es_312 (by omega)) (ptr_eq (by omega))) ?_
      refine rl_val rfl (v := (v32 ((r).get (i / 4)))) (val_load1 (v := v32 ((r).get (i / 4))) (off := i / 4) (by first | exact rfl | (refine Eq.trans rfl (ptr_eq ?_); simp <;> omega)) ag_219 (hm.row (i := 1) rfl).l (c8_at _ (by omega))) ?_
      refine rl_val rfl (v := (vI (i : Int))) (val_move (v := (vI (i : Int))) hs15) ?_
      refine rl_val rfl (v := (vI ((i : Int) % 4))) (val_remI (p := (i : Int)) (q := 4) rfl rfl (by omega)) ?_
      refine rl_val rfl (v := (vI (8 * ((i : Int) % 4)))) (val_mulI (p := 8) (q := (i : Int) % 4) rfl rfl (by omega)) ?_
      refine rl_val rfl (v := (vI (24 - (8 * ((i : Int) % 4))))) (val_subI (p := 24) (q := 8 * ((i : Int) % 4)) rfl rfl (by omega)) ?_
      refine rl_val rfl (v := (vU (24 - (8 * ((i : Int) % 4))))) (val_cast (val_conv ut_3 ui_190 rfl) (by rw [wrapU (by omega) (by omega)])) ?_
      refine rl_val rfl (v := (v32 (((r).get (i / 4)) >>> (UInt32.ofNat (8 * (3 - i % 4)))))) (val_shr32 (a := (r).get (i / 4)) (UInt32.ofNat (8 * (3 - i % 4))) rfl rfl (by rw [UInt32.toNat_ofNat_of_lt' (by show _ < 4294967296; omega)]; omega) (by rw [UInt32.lt_iff_toNat_lt, UInt32.toNat_ofNat_of_lt' (by show _ < 4294967296; omega)]; show _ < 32; omega)) ?_
      refine rl_val rfl (v := (v8 (outB (r) i))) (val_cast (val_conv ut_219 ui_5 rfl) (by rw [u8_of32]; rfl)) ?_
      refine rl_val rfl (v := (.pointer (some ⟨b7, i, none⟩))) (val_cast (val_indexAr (i := (i : Int)) (n := 32) (sz := 1) hs14 rfl ea_50 (by omega)) (ptr_eq (by omega))) ?_
      refine rl_store (i := 0) (off := i) (xs := (outRow (r) i)) (vs := [(v8 (outB (r) i))]) rfl rfl rfl ag_5 hm rfl rfl rfl (by simp <;> omega) (by simp [Value.one]) ?_
      intro w17 hm
      rw [outRow_put _ hi32] at hm
      replace hm : Mem w [] [(b7, row (outRow (r) (i + 1)) 50), (b5, row (c8 (r)) 219), (b3, row (List.replicate 32 (v8 0)) 50), (b1, row (c8 (r)) 221)] w17 := hm
      refine rl_nil ?_
      refine wp_r (E := noPanic) noPanic_imp ?_
      refine rl_val rfl (v := (vI (i : Int))) (val_move (v := (vI (i : Int))) hs15) ?_
      refine rl_val rfl (v := (vI ((i : Int) + 1))) (val_addI (p := (i : Int)) (q := 1) rfl rfl (by omega)) ?_
      refine rl_val rfl (v := (vI ((i : Int) + 1))) (val_assign (v := (vI ((i : Int) + 1))) rfl) ?_
      refine rl_nil ?_
      exact ⟨32 - (i + 1), by omega, ⟨i + 1, rfl, by omega, hm, hs12, hs13, hs14, (by first | rfl | (refine int_eq ?_; simp; try omega) | (refine int_eq ?_; omega))⟩⟩
    ·
      have hq18 := of_decide_eq_false hb
      obtain rfl : i = 32 := by omega
      refine WP.exit ?_
      repeat (first | with_reducible refine exit_pass ?_ | with_reducible refine exit_other rfl ?_)
      refine blk_here ?_
      refine wp_sr (E := noPanic) noPanic_imp ?_
      refine rl_val rfl (v := (.agg (outRow (r) 32).toArray)) (val_loadAll hs14 ag_50 (hm.row (i := 0) rfl).l (by simp) (by decide)) ?_
      refine rl_store (i := 2) (off := 0) (xs := (List.replicate 32 (v8 0))) (vs := outRow (r) 32) rfl hs12 rfl ag_50 hm rfl rfl (by simp) (by simp) (outRow_one _ _) ?_
      intro w19 hm
      rw [spl_all (n := 32) (by simp) (by simp)] at hm
      replace hm : Mem w [] [(b7, row (outRow (r) 32) 50), (b5, row (c8 (r)) 219), (b3, row (outRow (r) 32) 50), (b1, row (c8 (r)) 221)] w19 := hm
      refine rl_nil ?_
      exact WP.ret (post_rets rfl (vs := [.agg ((sumOf r).map v8).toArray]) ⟨⟨true, 32, _, 0, _, hs12, ag_50, (hm.row (i := 2) rfl).l, by simp, by decide, by rw [← outRow32]; simp [rd, List.take_of_length_le]⟩, trivial⟩ rfl ⟨rfl, hm.nil⟩)
theorem rof_ok (l : List UInt8) (a0 : Option Addr) (c0 : Nat) (w : World) (hs : SlIs w [] (.slice a0 l.length c0) 1 l.length (l.map v8)) (hb : l.length < 1099511627) : Calls Tryz.prog 105 [.slice a0 l.length c0].toArray w (Ret w (.agg ((sha l).map v8).toArray)) := by
  have hel := endL_len l.length
  have hpl := pads_len l.length
  have hm := Mem.init w
  refine calls_enter (n := 28) Tryz.func105 rfl rfl rfl ?_
  refine wp_sr (E := noPanic) noPanic_imp ?_
  refine rl_alloc (xs := List.replicate 32 (v8 0)) rfl zo_50 hm ?_
  intro b1 w2 hm
  refine rl_nil ?_
  refine wp_sr (E := noPanic) noPanic_imp ?_
  refine rl_val rfl (v := (.slice a0 l.length c0)) (val_move (v := (.slice a0 l.length c0)) rfl) ?_
  refine rl_appendS (l1 := [(b1, row (List.replicate 32 (v8 0)) 50)]) (l2 := []) (r := []) (v := (.slice none 0 0)) (xs := []) (news := (l.map v8)) rfl ez_38 rfl (by decide) (by decide) rfl rfl (VecIs.nil) (by simpa only [List.append_assoc, List.nil_append, List.append_nil, List.cons_append] using hm) (hs.mem (own2 := []) hm (by simp)) (one_map8 _) (by omega) ?_
  intro v3 r4 w6 hv5 hm
  rw [Nat.zero_add, List.nil_append] at hv5
  replace hm : Mem w [] ([(b1, row (List.replicate 32 (v8 0)) 50)] ++ (r4 ++ [])) w6 := by simpa only [List.append_assoc, List.nil_append, List.append_nil, List.cons_append] using hm
  refine rl_val rfl (v := (.slice a0 l.length c0)) (val_move (v := (.slice a0 l.length c0)) rfl) ?_
  refine rl_val rfl (v := (vI (l.length : Nat))) (val_lenSl (t := 38) rfl us_38 rfl) ?_
  refine rl_call rfl (ent_static (args := [(vI (l.length : Nat))]) Tryz.func212 rfl rfl rfl rfl) (rend_ok l.length _ (by omega)) ?_
  rintro _ w7 ⟨v9, r10, rfl, hv11, h8⟩
  refine callQ_ret ?_
  replace hm := (hm.call h8).comm
  replace hm : Mem w [] ([(b1, row (List.replicate 32 (v8 0)) 50)] ++ (r4 ++ (r10 ++ []))) w7 := by simpa only [List.append_assoc, List.nil_append, List.append_nil, List.cons_append] using hm
  refine rl_appendS (l1 := ([(b1, row (List.replicate 32 (v8 0)) 50)] ++ [])) (l2 := (r10 ++ [])) (r := r4) (v := v3) (xs := (l.map v8)) (news := ((endL l.length).map v8)) rfl ez_38 rfl (by decide) (by decide) rfl rfl hv5 (by simpa only [List.append_assoc, List.nil_append, List.append_nil, List.cons_append] using hm) (hv11.slIs (own := []) (fun p hp => ⟨hm.rows p (by simp [hp]), by simp⟩)) (one_map8 _) (by omega) ?_
  intro v12 r13 w15 hv14 hm
  replace hm : Mem w [] ([(b1, row (List.replicate 32 (v8 0)) 50)] ++ (r13 ++ (r10 ++ []))) w15 := by simpa only [List.append_assoc, List.nil_append, List.append_nil, List.cons_append] using hm
  refine rl_val rfl (v := v12) (val_assign (v := v12) rfl) ?_
  refine rl_nil ?_
  have hva : VecIs v12 (l ++ endL l.length).length 1 5 ((l ++ endL l.length).map v8) r13 := by simpa [List.map_append] using hv14
  obtain ⟨bg, cap, rest, rfl, hc1, hc2, hxl, hrl, rfl⟩ := hva.pos (by simp [endL]; omega)
  replace hm := hm.sub (l2 := [(b1, row (List.replicate 32 (v8 0)) 50), (bg, row ((l ++ endL l.length).map v8 ++ rest) 5)]) (by ((try (simp only [List.append_assoc, List.nil_append, List.append_nil, List.cons_append])); repeat (first | exact List.nil_sublist _ | exact List.Sublist.refl _ | with_reducible refine List.Sublist.cons_cons _ ?_ | with_reducible refine List.Sublist.append (List.Sublist.refl _) ?_ | with_reducible exact List.sublist_append_left _ _ | refine List.Sublist.cons _ ?_ | refine List.Sublist.trans ?_ (List.sublist_append_right _ _))))
  refine wp_sr (E := noPanic) noPanic_imp ?_
  refine rl_call rfl (ent_static (args := []) Tryz.func213 rfl rfl rfl rfl) (rbegin_ok _) ?_
  rintro _ w16 ⟨rfl, h17⟩
  refine callQ_ret ?_
  replace hm : Mem w [] [(b1, row (List.replicate 32 (v8 0)) 50), (bg, row ((l ++ endL l.length).map v8 ++ rest) 5)] w16 := hm.call h17
  refine rl_alloc (xs := [(v32 0), (v32 0), (v32 0), (v32 0), (v32 0), (v32 0), (v32 0), (v32 0)]) rfl zo_221 hm ?_
  intro b18 w19 hm
  refine rl_store (i := 0) (off := 0) (xs := ([(v32 0), (v32 0), (v32 0), (v32 0), (v32 0), (v32 0), (v32 0), (v32 0)])) (vs := c8 (sha0)) rfl rfl rfl ag_221 hm rfl rfl (by simp) (by simp) (c8_one _) ?_
  intro w20 hm
  rw [spl_all (n := 8) (by simp) (by simp)] at hm
  replace hm : Mem w [] [(b18, row (c8 (sha0)) 221), (b1, row (List.replicate 32 (v8 0)) 50), (bg, row ((l ++ endL l.length).map v8 ++ rest) 5)] w20 := hm
  refine rl_nil ?_
  refine WP.seq ?_
  refine wp_sr (E := noPanic) noPanic_imp ?_
  refine rl_val rfl (v := (vI 0)) (val_assign (v := (vI 0)) rfl) ?_
  refine rl_nil ?_
  refine WP.block ?_
  refine WP.loop (fun mz τ w' => ∃ (k : Nat), (l ++ endL l.length).length - 64 * k = mz ∧ 64 * k ≤ (l ++ endL l.length).length ∧ Mem w [] [(b18, row (c8 (blkS (l ++ endL l.length) k)) 221), (b1, row (List.replicate 32 (v8 0)) 50), (bg, row ((l ++ endL l.length).map v8 ++ rest) 5)] w' ∧ τ 2 = (.pointer (some ⟨b1, 0, none⟩)) ∧ τ 3 = (.slice (some ⟨bg, 0, none⟩) ((l ++ endL l.length).length) cap) ∧ τ 4 = (.pointer (some ⟨b18, 0, none⟩)) ∧ τ 5 = (vI ((64 * k : Nat) : Int))) ((l ++ endL l.length).length - 64 * 0) ?_ ?_
  · exact ⟨0, rfl, by omega, (by rw [blkS_0]; exact hm), rfl, rfl, rfl, (by first | rfl | (refine int_eq ?_; simp; try omega) | (refine int_eq ?_; omega))⟩
  · rintro kk22 τ wl21 ⟨k, hk23, hk, hm, hs24, hs25, hs26, hs27⟩
    refine WP.seq ?_
    refine wp_sr (E := noPanic) noPanic_imp ?_
    refine rl_val rfl (v := (vI ((64 * k : Nat) : Int))) (val_move (v := (vI ((64 * k : Nat) : Int))) hs27) ?_
    refine rl_val rfl (v := (.slice (some ⟨bg, 0, none⟩) ((l ++ endL l.length).length) cap)) (val_move (v := (.slice (some ⟨bg, 0, none⟩) ((l ++ endL l.length).length) cap)) hs25) ?_
    refine rl_val rfl (v := (vI ((l ++ endL l.length).length : Nat))) (val_lenSl (t := 38) rfl us_38 rfl) ?_
    refine rl_val rfl (v := (.bool (decide ((((64 * k : Nat) : Int) : Int) < ((l ++ endL l.length).length : Nat))))) (val_lt (p := ((64 * k : Nat) : Int)) (q := ((l ++ endL l.length).length : Nat)) rfl rfl) ?_
    refine rl_nil ?_
    refine WP.cond (b := decide ((((64 * k : Nat) : Int) : Int) < ((l ++ endL l.length).length : Nat))) rfl (fun hb => ?_) (fun hb => ?_)
    ·
      have hq28 := of_decide_eq_true hb
      have hall := all_len l
      have hale : (l ++ endL l.length).length ≤ 1099511900 := by rw [List.length_append]; omega
      have h64 : 64 * k + 64 ≤ (l ++ endL l.length).length := by omega
      refine WP.skip ?_
      refine WP.seq (WP.block ?_)
      refine wp_df (E := noPanic) [(0, true), (1, true), (2, true), (3, true), (4, true), (5, true), (6, false), (7, false)] [0] mixed (by kernel_rfl) (by kernel_rfl) rfl (fun w' => Mem w [] [(b18, row (c8 (blkS (l ++ endL l.length) k)) 221), (b1, row (List.replicate 32 (v8 0)) 50), (bg, row ((l ++ endL l.length).map v8 ++ rest) 5)] w') noPanic_imp hm.drew ?_
      have hm := hm.drew
      refine rp_val rfl rfl (v := (.agg (c8 (blkS (l ++ endL l.length) k)).toArray)) (fun w' hs => val_loadAll hs26 ag_221 (hs.row (i := 0) rfl).l (by simp) (by decide)) ?_
      refine rp_valp rfl rfl (v := (.slice (some ⟨bg, 0, none⟩) ((l ++ endL l.length).length) cap)) (fun w' => val_move (v := (.slice (some ⟨bg, 0, none⟩) ((l ++ endL l.length).length) cap)) hs25) ?_
      refine rp_valp rfl rfl (v := (vI ((64 * k : Nat) : Int))) (fun w' => val_move (v := (vI ((64 * k : Nat) : Int))) hs27) ?_
      refine rp_valp rfl rfl (v := (vI ((64 * k : Nat) : Int))) (fun w' => val_move (v := (vI ((64 * k : Nat) : Int))) hs27) ?_
      refine rp_valp rfl rfl (v := (vI (((64 * k : Nat) : Int) + 64))) (fun w' => val_addI (p := ((64 * k : Nat) : Int)) (q := 64) rfl rfl (by omega)) ?_
      refine rp_valp rfl rfl (v := (.slice (some ⟨bg, (64 * k), none⟩) 64 (cap - 64 * k))) (fun w' => val_cast (val_slice (b := bg) (off := 0) (n := (l ++ endL l.length).length) (cap := cap) (l := 64 * k) (h := 64 * k + 64) (m := cap) rfl us_38 es_38 ⟨_, _, rfl, by omega, by omega⟩ ⟨_, _, rfl, by omega, by omega⟩ rfl (by omega) (by omega) (by omega)) (sl_eq (by rw [slo_lt (by omega)]; omega) (by omega) (by omega))) ?_
      refine rp_call rfl rfl (ent_static (args := [(.agg (c8 (blkS (l ++ endL l.length) k)).toArray), (.slice (some ⟨bg, (64 * k), none⟩) 64 (cap - 64 * k))]) Tryz.func214 rfl rfl rfl rfl) (rtake_ok (blkS (l ++ endL l.length) k) (blkB (l ++ endL l.length) k) bg (64 * k) (cap - 64 * k) _ _ (hm.row (i := 2) rfl).l (blk_c64 h64)) ?_
      rintro _ w29 ⟨rfl, h30⟩
      refine callQ_ret ?_
      refine ⟨.inl (by kernel_rfl), ?_⟩
      replace hm : Mem w [] [(b18, row (c8 (blkS (l ++ endL l.length) k)) 221), (b1, row (List.replicate 32 (v8 0)) 50), (bg, row ((l ++ endL l.length).map v8 ++ rest) 5)] w29 := hm.call h30
      refine rp_store (i := 0) (off := 0) (xs := (c8 (blkS (l ++ endL l.length) k))) (vs := c8 (Al.take (blkS (l ++ endL l.length) k) (blkB (l ++ endL l.length) k))) rfl rfl hs26 rfl ag_221 hm rfl rfl (by simp) (by simp) (c8_one _) (by kernel_rfl) ?_
      intro w31 hm
      rw [spl_all (n := 8) (by simp) (by simp)] at hm
      replace hm : Mem w [] [(b18, row (c8 (Al.take (blkS (l ++ endL l.length) k) (blkB (l ++ endL l.length) k))) 221), (b1, row (List.replicate 32 (v8 0)) 50), (bg, row ((l ++ endL l.length).map v8 ++ rest) 5)] w31 := hm
      refine rp_nil ?_
      refine wp_r (E := noPanic) noPanic_imp ?_
      refine rl_val rfl (v := (vI ((64 * k : Nat) : Int))) (val_move (v := (vI ((64 * k : Nat) : Int))) hs27) ?_
      refine rl_val rfl (v := (vI (((64 * k : Nat) : Int) + 64))) (val_addI (p := ((64 * k : Nat) : Int)) (q := 64) rfl rfl (by omega)) ?_
      refine rl_val rfl (v := (vI (((64 * k : Nat) : Int) + 64))) (val_assign (v := (vI (((64 * k : Nat) : Int) + 64))) rfl) ?_
      refine rl_nil ?_
      exact ⟨(l ++ endL l.length).length - 64 * (k + 1), by omega, ⟨k + 1, rfl, by omega, (by rw [blkS_succ h64]; exact hm), hs24, hs25, hs26, (by first | rfl | (refine int_eq ?_; simp; try omega) | (refine int_eq ?_; omega))⟩⟩
    ·
      have hq32 := of_decide_eq_false hb
      have hall := all_len l
      have hale : (l ++ endL l.length).length ≤ 1099511900 := by rw [List.length_append]; omega
      have hend : 64 * k = (l ++ endL l.length).length := by omega
      refine WP.exit ?_
      repeat (first | with_reducible refine exit_pass ?_ | with_reducible refine exit_other rfl ?_)
      refine blk_here ?_
      refine wp_sr (E := noPanic) noPanic_imp ?_
      refine rl_val rfl (v := (.agg (c8 (blkS (l ++ endL l.length) k)).toArray)) (val_loadAll hs26 ag_221 (hm.row (i := 0) rfl).l (by simp) (by decide)) ?_
      refine rl_call rfl (ent_static (args := [(.agg (c8 (blkS (l ++ endL l.length) k)).toArray)]) Tryz.func215 rfl rfl rfl rfl) (rsum_ok (blkS (l ++ endL l.length) k) _) ?_
      rintro _ w33 ⟨rfl, h34⟩
      refine callQ_ret ?_
      replace hm : Mem w [] [(b18, row (c8 (blkS (l ++ endL l.length) k)) 221), (b1, row (List.replicate 32 (v8 0)) 50), (bg, row ((l ++ endL l.length).map v8 ++ rest) 5)] w33 := hm.call h34
      refine rl_store (i := 1) (off := 0) (xs := (List.replicate 32 (v8 0))) (vs := (sumOf (blkS (l ++ endL l.length) k)).map v8) rfl hs24 rfl ag_50 hm rfl rfl (by simp) (by simp) (one_map8 _) ?_
      intro w35 hm
      rw [spl_all (n := 32) (by simp) (by simp)] at hm
      replace hm : Mem w [] [(b18, row (c8 (blkS (l ++ endL l.length) k)) 221), (b1, row ((sumOf (blkS (l ++ endL l.length) k)).map v8) 50), (bg, row ((l ++ endL l.length).map v8 ++ rest) 5)] w35 := hm
      refine rl_nil ?_
      exact WP.ret (post_rets rfl (vs := [.agg ((sha l).map v8).toArray]) ⟨⟨true, 32, _, 0, _, hs24, ag_50, (hm.row (i := 1) rfl).l, by simp, by decide, by rw [sha_all l hend]; simp [rd, List.take_of_length_le]⟩, trivial⟩ rfl ⟨rfl, hm.nil⟩)
end Go.Al
namespace Go.Al
open Go Go.RowKit Go.Proofs
set_option linter.unusedVariables false
set_option linter.unusedSimpArgs false
theorem rof_okV (l : List UInt8) (v : Value) (n : Nat) (w : World) {cs : List Value} (hs : SlIs w [] v 1 n cs) (hc : cs = l.map v8) (hb : l.length < 1099511627) : Calls Tryz.prog 105 [v].toArray w (Ret w (.agg ((sha l).map v8).toArray)) := by
  subst hc
  obtain ⟨a, c, rfl, _⟩ := hs.form
  have hn : n = l.length := by obtain ⟨_, _, _, _, h, _⟩ := hs; simpa using h.symm
  subst hn
  exact rof_ok l a c w hs hb
theorem rleaf_ok (l : List UInt8) (a : Option Addr) (c : Nat) (w : World) (hs : SlIs w [] (.slice a l.length c) 1 l.length (l.map v8)) (hb : l.length < 109951162) : Calls Tryz.prog 104 [.slice a l.length c].toArray w (Ret w (.agg ((leafP l).map v8).toArray)) := by
  have hlf : leafP l = sha (0 :: l) := rfl
  rw [hlf]
  have hm := Mem.init w
  refine calls_enter (n := 7) Tryz.func104 rfl rfl rfl ?_
  refine wp_sr (E := noPanic) noPanic_imp ?_
  refine rl_alloc (xs := List.replicate 32 (v8 0)) rfl zo_50 hm ?_
  intro b1 w2 hm
  refine rl_nil ?_
  refine wp_sr (E := noPanic) noPanic_imp ?_
  refine rl_buildSlice (vs := [(v8 0)]) (cs := [(v8 0)]) rfl ez_38 rfl (parts_cons rfl (parts_nil)) rfl (by decide) (ones_size (ones_cons rfl (ones_nil))) (ones_flat (ones_cons rfl (ones_nil))) hm ?_
  intro b3 w4 hm
  refine rl_val rfl (v := (.slice a l.length c)) (val_move (v := (.slice a l.length c)) rfl) ?_
  refine rl_appendS (l1 := []) (l2 := ([(b1, row (List.replicate 32 (v8 0)) 50)] ++ [])) (r := [(b3, row ([(v8 0)]) 5)]) (v := (.slice (some ⟨b3, 0, none⟩) 1 1)) (xs := [(v8 0)]) (news := (l.map v8)) rfl ez_38 rfl (by decide) (by decide) rfl rfl (VecIs.mk0 (by simp [maxLen_val]) (by simp)) (by simpa only [List.append_assoc, List.nil_append, List.append_nil, List.cons_append] using hm) (hs.mem (own2 := []) hm (by simp)) (one_map8 _) (by omega) ?_
  intro v5 r6 w8 hv7 hm
  replace hm := hm.perm ((List.perm_append_comm (l₁ := r6) (l₂ := ([(b1, row (List.replicate 32 (v8 0)) 50)] ++ []))).append_left [])
  replace hm : Mem w [] ([(b1, row (List.replicate 32 (v8 0)) 50)] ++ (r6 ++ [])) w8 := by simpa only [List.append_assoc, List.nil_append, List.append_nil, List.cons_append] using hm
  refine rl_call rfl (ent_static (args := [v5]) Tryz.func105 rfl rfl rfl rfl) (rof_okV (0 :: l) _ _ _ (hv7.sl (own2 := []) hm (by intro p hp; exact ⟨by simp [hp], by simp⟩)) (by simp [z32]) (by simp <;> omega)) ?_
  rintro _ w9 ⟨rfl, h10⟩
  refine callQ_ret ?_
  replace hm : Mem w [] ([(b1, row (List.replicate 32 (v8 0)) 50)] ++ (r6 ++ [])) w9 := hm.call h10
  refine rl_store (i := 0) (off := 0) (xs := (List.replicate 32 (v8 0))) (vs := (sha (0 :: l)).map v8) rfl rfl rfl ag_50 hm rfl rfl (by simp) (by simp) (one_map8 _) ?_
  intro w11 hm
  rw [spl_all (n := 32) (by simp) (by simp)] at hm
  replace hm : Mem w [] ([(b1, row ((sha (0 :: l)).map v8) 50)] ++ (r6 ++ [])) w11 := hm
  refine rl_nil ?_
  exact WP.ret (post_rets rfl (vs := [.agg ((sha (0 :: l)).map v8).toArray]) ⟨⟨true, 32, _, 0, _, rfl, ag_50, (hm.row (i := 0) rfl).l, by simp, by decide, by simp [rd, List.take_of_length_le]⟩, trivial⟩ rfl ⟨rfl, hm.nil⟩)
theorem rnode_ok (s1 s2 : List UInt8) (h1 : s1.length = 32) (h2 : s2.length = 32) (w : World) : Calls Tryz.prog 216 [.agg (s1.map v8).toArray, .agg (s2.map v8).toArray].toArray w (Ret w (.agg ((sha (1 :: (s1 ++ s2))).map v8).toArray)) := by
  have hm := Mem.init w
  refine calls_enter (n := 11) Tryz.func216 rfl rfl rfl ?_
  refine wp_sr (E := noPanic) noPanic_imp ?_
  refine rl_box (v := (.agg (s1.map v8).toArray)) (xs := s1.map v8) rfl rfl rfl hm ?_
  intro b1 w2 hm
  refine rl_box (v := (.agg (s2.map v8).toArray)) (xs := s2.map v8) rfl rfl rfl hm ?_
  intro b3 w4 hm
  refine rl_alloc (xs := List.replicate 32 (v8 0)) rfl zo_50 hm ?_
  intro b5 w6 hm
  refine rl_nil ?_
  refine wp_sd (E := noPanic) [(1, true), (3, true), (0, false), (2, false), (4, false), (5, false), (6, false)] mixed (by kernel_rfl) (by kernel_rfl) rfl (fun w' => Mem w [] [(b5, row (List.replicate 32 (v8 0)) 50), (b3, row (s2.map v8) 50), (b1, row (s1.map v8) 50)] w') noPanic_imp hm.drew ?_
  have hm := hm.drew
  refine rp_val rfl rfl (v := (.slice (some ⟨b1, 0, none⟩) 32 32)) (fun w' hs => val_cast (val_sliceAr (b := b1) (off := 0) (n := 32) (sz := 1) (l := 0) (h := 32) rfl ua_50 ea_50 rfl rfl (by omega) (by omega)) (by simp [slo])) ?_
  refine rp_val rfl rfl (v := (.slice (some ⟨b3, 0, none⟩) 32 32)) (fun w' hs => val_cast (val_sliceAr (b := b3) (off := 0) (n := 32) (sz := 1) (l := 0) (h := 32) rfl ua_50 ea_50 rfl rfl (by omega) (by omega)) (by simp [slo])) ?_
  refine rp_buildSlice (vs := [(v8 1)]) (cs := [(v8 1)]) rfl rfl ez_38 rfl (parts_cons rfl (parts_nil)) rfl (by decide) (ones_size (ones_cons rfl (ones_nil))) (ones_flat (ones_cons rfl (ones_nil))) hm (fun b w' h => .inr (h.sub (by ((try (simp only [List.append_assoc, List.nil_append, List.append_nil, List.cons_append])); repeat (first | exact List.nil_sublist _ | exact List.Sublist.refl _ | with_reducible refine List.Sublist.cons_cons _ ?_ | with_reducible refine List.Sublist.append (List.Sublist.refl _) ?_ | with_reducible exact List.sublist_append_left _ _ | refine List.Sublist.cons _ ?_ | refine List.Sublist.trans ?_ (List.sublist_append_right _ _)))))) ?_
  intro b7 w8 hm
  refine rp_appendS (l1 := []) (l2 := ([(b5, row (List.replicate 32 (v8 0)) 50), (b3, row (s2.map v8) 50), (b1, row (s1.map v8) 50)] ++ [])) (r := [(b7, row ([(v8 1)]) 5)]) (v := (.slice (some ⟨b7, 0, none⟩) 1 1)) (xs := [(v8 1)]) (news := ((s1).map v8)) rfl rfl ez_38 rfl (by decide) (by decide) rfl rfl (VecIs.mk0 (by simp [maxLen_val]) (by simp)) (by simpa only [List.append_assoc, List.nil_append, List.append_nil, List.cons_append] using hm) (slAllN (own := []) (l := s1) (by simp) (hm.row (i := 3) rfl).l h1) (one_map8 _) (by omega) ?_
  intro v9 r10 w12 hv11 hm
  refine ⟨.inr (hm.sub (by ((try (simp only [List.append_assoc, List.nil_append, List.append_nil, List.cons_append])); repeat (first | exact List.nil_sublist _ | exact List.Sublist.refl _ | with_reducible refine List.Sublist.cons_cons _ ?_ | with_reducible refine List.Sublist.append (List.Sublist.refl _) ?_ | with_reducible exact List.sublist_append_left _ _ | refine List.Sublist.cons _ ?_ | refine List.Sublist.trans ?_ (List.sublist_append_right _ _))))), ?_⟩
  replace hm := hm.perm ((List.perm_append_comm (l₁ := r10) (l₂ := ([(b5, row (List.replicate 32 (v8 0)) 50), (b3, row (s2.map v8) 50), (b1, row (s1.map v8) 50)] ++ []))).append_left [])
  replace hm : Mem w [] ([(b5, row (List.replicate 32 (v8 0)) 50), (b3, row (s2.map v8) 50), (b1, row (s1.map v8) 50)] ++ (r10 ++ [])) w12 := by simpa only [List.append_assoc, List.nil_append, List.append_nil, List.cons_append] using hm
  refine rp_appendS (l1 := ([(b5, row (List.replicate 32 (v8 0)) 50), (b3, row (s2.map v8) 50), (b1, row (s1.map v8) 50)] ++ [])) (l2 := []) (r := r10) (v := v9) (xs := ([(v8 1)] ++ ((s1).map v8))) (news := ((s2).map v8)) rfl rfl ez_38 rfl (by decide) (by decide) rfl rfl hv11 (by simpa only [List.append_assoc, List.nil_append, List.append_nil, List.cons_append] using hm) (slAllN (own := []) (l := s2) (by simp) (hm.row (i := 1) rfl).l h2) (one_map8 _) (by omega) ?_
  intro v13 r14 w16 hv15 hm
  refine ⟨.inl (by kernel_rfl), ?_⟩
  replace hm : Mem w [] ([(b5, row (List.replicate 32 (v8 0)) 50), (b3, row (s2.map v8) 50), (b1, row (s1.map v8) 50)] ++ (r14 ++ [])) w16 := by simpa only [List.append_assoc, List.nil_append, List.append_nil, List.cons_append] using hm
  refine rp_call rfl rfl (ent_static (args := [v13]) Tryz.func105 rfl rfl rfl rfl) (rof_okV (1 :: (s1 ++ s2)) _ _ _ (hv15.sl (own2 := []) hm (by intro p hp; exact ⟨by simp [hp], by simp⟩)) (by simp [z32]) (by simp <;> omega)) ?_
  rintro _ w17 ⟨rfl, h18⟩
  refine callQ_ret ?_
  refine ⟨.inl (by kernel_rfl), ?_⟩
  replace hm : Mem w [] ([(b5, row (List.replicate 32 (v8 0)) 50), (b3, row (s2.map v8) 50), (b1, row (s1.map v8) 50)] ++ (r14 ++ [])) w17 := hm.call h18
  refine rp_store (i := 0) (off := 0) (xs := (List.replicate 32 (v8 0))) (vs := (sha (1 :: (s1 ++ s2))).map v8) rfl rfl rfl rfl ag_50 hm rfl rfl (by simp) (by simp) (one_map8 _) (by kernel_rfl) ?_
  intro w19 hm
  rw [spl_all (n := 32) (by simp) (by simp)] at hm
  replace hm : Mem w [] ([(b5, row ((sha (1 :: (s1 ++ s2))).map v8) 50), (b3, row (s2.map v8) 50), (b1, row (s1.map v8) 50)] ++ (r14 ++ [])) w19 := hm
  refine rp_nil ?_
  exact WP.ret (post_rets rfl (vs := [.agg ((sha (1 :: (s1 ++ s2))).map v8).toArray]) ⟨⟨true, 32, _, 0, _, rfl, ag_50, (hm.row (i := 0) rfl).l, by simp, by decide, by simp [rd, List.take_of_length_le]⟩, trivial⟩ rfl ⟨rfl, hm.nil⟩)
theorem ih_pos {N : Nat} (ih : ∀ (ss : Sums) (a : Option Addr) (c n : Nat) (w : World), n ≤ N → ss.length = n → All32 ss → SlIs w [] (.slice a n c) 32 n (sumsC ss) → n ≤ 1000000 →
    Calls Tryz.prog 106 [.slice a n c].toArray w (Ret w (.agg ((rootE ss).map v8).toArray))) (ss : Sums) (a : Option Addr) (c n : Nat) (w : World) (h1 : n ≤ N) (h2 : ss.length = n) (h3 : 1 ≤ n) (h4 : All32 ss) (h5 : SlIs w [] (.slice a n c) 32 n (sumsC ss)) (h6 : n ≤ 1000000) :
    Calls Tryz.prog 106 [.slice a n c].toArray w (Ret w (.agg ((rootP ss).map v8).toArray)) := by
  have := ih ss a c n w h1 h2 h4 h5 h6
  rwa [rootE_pos (by omega)] at this
theorem rrootN_ok (N : Nat) : ∀ (ss : Sums) (a : Option Addr) (c n : Nat) (w : World), n ≤ N → ss.length = n → All32 ss → SlIs w [] (.slice a n c) 32 n (sumsC ss) → n ≤ 1000000 →
    Calls Tryz.prog 106 [.slice a n c].toArray w (Ret w (.agg ((rootE ss).map v8).toArray)) := by
  induction N with
  | zero =>
    intro ss a c n w hN hn h32 hs hb
    obtain rfl : n = 0 := by omega
    obtain rfl : ss = [] := List.eq_nil_of_length_eq_zero hn
    have hm := Mem.init w
    refine calls_enter (n := 27) Tryz.func106 rfl rfl rfl ?_
    refine wp_sr (E := noPanic) noPanic_imp ?_
    refine rl_alloc (xs := List.replicate 32 (v8 0)) rfl zo_50 hm ?_
    intro b1 w2 hm
    refine rl_nil ?_
    refine WP.seq ?_
    refine wp_sr (E := noPanic) noPanic_imp ?_
    refine rl_val rfl (v := (.slice a 0 c)) (val_move (v := (.slice a 0 c)) rfl) ?_
    refine rl_val rfl (v := (vI 0)) (val_lenSl (t := 53) rfl us_53 rfl) ?_
    refine rl_val rfl (v := (.bool true)) (val_eq (p := 0) (q := 0) rfl rfl) ?_
    refine rl_nil ?_
    refine WP.cond_t rfl ?_
    refine wp_sr (E := noPanic) noPanic_imp ?_
    refine rl_call rfl (ent_static (args := [(.slice none 0 0)]) Tryz.func105 rfl rfl rfl rfl) (rof_okV [] _ 0 _ SlIs.nil rfl (by simp)) ?_
    rintro _ w3 ⟨rfl, h4⟩
    refine callQ_ret ?_
    replace hm : Mem w [] [(b1, row (List.replicate 32 (v8 0)) 50)] w3 := hm.call h4
    refine rl_store (i := 0) (off := 0) (xs := (List.replicate 32 (v8 0))) (vs := (rootE []).map v8) rfl rfl rfl ag_50 hm rfl rfl (by simp [rootE]) (by simp) (one_map8 _) ?_
    intro w5 hm
    rw [spl_all (n := 32) (by simp) (by simp [rootE])] at hm
    replace hm : Mem w [] [(b1, row ((rootE []).map v8) 50)] w5 := hm
    refine rl_nil ?_
    exact WP.ret (post_rets rfl (vs := [.agg ((rootE []).map v8).toArray]) ⟨⟨true, 32, _, 0, _, rfl, ag_50, (hm.row (i := 0) rfl).l, by simp [rootE], by decide, by simp [rd, List.take_of_length_le, rootE]⟩, trivial⟩ rfl ⟨rfl, hm.nil⟩)
  | succ N ih =>
    intro ss a c n w hN hn h32 hs hb
    have hm := Mem.init w
    refine calls_enter (n := 27) Tryz.func106 rfl rfl rfl ?_
    refine wp_sr (E := noPanic) noPanic_imp ?_
    refine rl_alloc (xs := List.replicate 32 (v8 0)) rfl zo_50 hm ?_
    intro b1 w2 hm
    refine rl_nil ?_
    refine WP.seq ?_
    refine wp_sr (E := noPanic) noPanic_imp ?_
    refine rl_val rfl (v := (.slice a n c)) (val_move (v := (.slice a n c)) rfl) ?_
    refine rl_val rfl (v := (vI (n : Nat))) (val_lenSl (t := 53) rfl us_53 rfl) ?_
    refine rl_val rfl (v := (.bool (decide (((n : Nat) : Int) = 0)))) (val_eq (p := (n : Nat)) (q := 0) rfl rfl) ?_
    refine rl_nil ?_
    refine WP.cond (b := decide (((n : Nat) : Int) = 0)) rfl (fun hb => ?_) (fun hb => ?_)
    ·
      have hq3 := of_decide_eq_true hb
      obtain rfl : n = 0 := by omega
      obtain rfl : ss = [] := List.eq_nil_of_length_eq_zero hn
      refine wp_sr (E := noPanic) noPanic_imp ?_
      refine rl_call rfl (ent_static (args := [(.slice none 0 0)]) Tryz.func105 rfl rfl rfl rfl) (rof_okV [] _ 0 _ SlIs.nil rfl (by simp)) ?_
      rintro _ w4 ⟨rfl, h5⟩
      refine callQ_ret ?_
      replace hm : Mem w [] [(b1, row (List.replicate 32 (v8 0)) 50)] w4 := hm.call h5
      refine rl_store (i := 0) (off := 0) (xs := (List.replicate 32 (v8 0))) (vs := (rootE []).map v8) rfl rfl rfl ag_50 hm rfl rfl (by simp [rootE]) (by simp) (one_map8 _) ?_
      intro w6 hm
      rw [spl_all (n := 32) (by simp) (by simp [rootE])] at hm
      replace hm : Mem w [] [(b1, row ((rootE []).map v8) 50)] w6 := hm
      refine rl_nil ?_
      exact WP.ret (post_rets rfl (vs := [.agg ((rootE []).map v8).toArray]) ⟨⟨true, 32, _, 0, _, rfl, ag_50, (hm.row (i := 0) rfl).l, by simp [rootE], by decide, by simp [rd, List.take_of_length_le, rootE]⟩, trivial⟩ rfl ⟨rfl, hm.nil⟩)
    ·
      have hq7 := of_decide_eq_false hb
      have hn1 : 1 ≤ n := by omega
      refine WP.skip ?_
      refine WP.seq ?_
      refine wp_sr (E := noPanic) noPanic_imp ?_
      refine rl_val rfl (v := (.slice a n c)) (val_move (v := (.slice a n c)) rfl) ?_
      refine rl_val rfl (v := (vI (n : Nat))) (val_lenSl (t := 53) rfl us_53 rfl) ?_
      refine rl_val rfl (v := (.bool (decide (((n : Nat) : Int) = 1)))) (val_eq (p := (n : Nat)) (q := 1) rfl rfl) ?_
      refine rl_nil ?_
      refine WP.cond (b := decide (((n : Nat) : Int) = 1)) rfl (fun hb => ?_) (fun hb => ?_)
      ·
        have hq8 := of_decide_eq_true hb
        obtain rfl : n = 1 := by omega
        obtain ⟨x, rfl⟩ : ∃ x, ss = [x] := List.length_eq_one_iff.1 hn
        have hx32 : x.length = 32 := h32 x (by simp)
        obtain ⟨b, off, xs, rfl, hbn, hr, hcs, hle, hnc⟩ := hs.pos (by omega)
        refine wp_sr (E := noPanic) noPanic_imp ?_
        refine rl_val rfl (v := (.slice (some ⟨b, off, none⟩) 1 c)) (val_move (v := (.slice (some ⟨b, off, none⟩) 1 c)) rfl) ?_
        refine rl_val rfl (v := (.pointer (some ⟨b, off, none⟩))) (val_cast (val_indexSl (i := 0) (sz := 32) rfl rfl es_53 (by omega)) (ptr_eq (by omega))) ?_
        refine rl_val rfl (v := (.agg (x.map v8).toArray)) (val_loadA (m := x.map v8) rfl ag_50 (hm.getL hr (by simp)) (by simpa [sumsC] using hcs) (by omega) (by decide)) ?_
        refine rl_store (i := 0) (off := 0) (xs := (List.replicate 32 (v8 0))) (vs := x.map v8) rfl rfl rfl ag_50 hm rfl rfl (by simp [hx32]) (by simp) (one_map8 _) ?_
        intro w9 hm
        rw [spl_all (n := 32) (by simp) (by simp [hx32])] at hm
        replace hm : Mem w [] [(b1, row (x.map v8) 50)] w9 := hm
        refine rl_nil ?_
        exact WP.ret (post_rets rfl (vs := [.agg ((rootE [x]).map v8).toArray]) ⟨⟨true, 32, _, 0, _, rfl, ag_50, (hm.row (i := 0) rfl).l, by simp [hx32], by decide, by rw [rootE_pos (by simp), rootP_one]; simp [rd, List.take_of_length_le, hx32]⟩, trivial⟩ rfl ⟨rfl, hm.nil⟩)
      ·
        have hq10 := of_decide_eq_false hb
        have hn2 : 2 ≤ n := by omega
        have hcut := cut_lt hn2
        obtain ⟨b, off, xs, rfl, hbn, hr, hcs, hle, hnc⟩ := hs.pos (by omega)
        refine WP.skip ?_
        refine wp_sr (E := noPanic) noPanic_imp ?_
        refine rl_val rfl (v := (.slice (some ⟨b, off, none⟩) n c)) (val_move (v := (.slice (some ⟨b, off, none⟩) n c)) rfl) ?_
        refine rl_val rfl (v := (vI (n : Nat))) (val_lenSl (t := 53) rfl us_53 rfl) ?_
        refine rl_val rfl (v := (vU (n : Nat))) (val_cast (val_conv ut_3 ui_44 rfl) (by rw [wrapU (by omega) (by omega)])) ?_
        refine rl_call rfl (ent_static (args := [(vU (n : Nat))]) Tryz.func142 rfl rfl rfl rfl) (rcut_ok n _ hn2 (by omega)) ?_
        rintro _ w11 ⟨rfl, h12⟩
        refine callQ_ret ?_
        replace hm : Mem w [] [(b1, row (List.replicate 32 (v8 0)) 50)] w11 := hm.call h12
        refine rl_val rfl (v := (vU (cut n : Int))) (val_assign (v := (vU (cut n : Int))) rfl) ?_
        refine rl_nil ?_
        refine wp_sd (E := noPanic) [(0, true), (1, true), (2, true), (4, true), (5, true), (6, true), (3, false), (7, false), (8, false), (9, false)] mixed (by kernel_rfl) (by kernel_rfl) rfl (fun w' => Mem w [] [(b1, row (List.replicate 32 (v8 0)) 50)] w') noPanic_imp hm.drew ?_
        have hm := hm.drew
        refine rp_val rfl rfl (v := (.slice (some ⟨b, off, none⟩) n c)) (fun w' hs => val_move (v := (.slice (some ⟨b, off, none⟩) n c)) rfl) ?_
        refine rp_val rfl rfl (v := (vU (cut n : Int))) (fun w' hs => val_move (v := (vU (cut n : Int))) rfl) ?_
        refine rp_val rfl rfl (v := (.slice (some ⟨b, off, none⟩) (cut n) c)) (fun w' hs => val_cast (val_slice (b := b) (off := off) (n := n) (cap := c) (l := 0) (h := cut n) (m := c) rfl us_53 es_53 rfl ⟨_, _, rfl, by omega, by omega⟩ rfl (by omega) (by omega) (by omega)) (by simp [slo])) ?_
        refine rp_val rfl rfl (v := (.slice (some ⟨b, off, none⟩) n c)) (fun w' hs => val_move (v := (.slice (some ⟨b, off, none⟩) n c)) rfl) ?_
        refine rp_val rfl rfl (v := (vU (cut n : Int))) (fun w' hs => val_move (v := (vU (cut n : Int))) rfl) ?_
        refine rp_val rfl rfl (v := (.slice (some ⟨b, (slo off (cut n) c 32), none⟩) (n - cut n) (c - cut n))) (fun w' hs => val_slice (b := b) (off := off) (n := n) (cap := c) (l := cut n) (h := n) (m := c) rfl us_53 es_53 ⟨_, _, rfl, by omega, by omega⟩ ⟨rfl, rfl⟩ rfl (by omega) (by omega) (by omega)) ?_
        refine rp_call rfl rfl (ent_static (args := [(.slice (some ⟨b, off, none⟩) (cut n) c)]) Tryz.func106 rfl rfl rfl rfl) (ih_pos ih (ss.take (cut n)) _ _ _ _ (by omega) (by simp <;> omega) (by omega) (fun x hx => h32 x (List.mem_of_mem_take hx)) (by rw [sumsC_take h32]; exact (hs.takeHi (k := cut n) (by omega)).mem (own2 := []) hm (by simp)) (by omega)) ?_
        rintro _ w13 ⟨rfl, h14⟩
        refine callQ_ret ?_
        refine ⟨.inr ((hm.call h14).sub (by ((try (simp only [List.append_assoc, List.nil_append, List.append_nil, List.cons_append])); repeat (first | exact List.nil_sublist _ | exact List.Sublist.refl _ | with_reducible refine List.Sublist.cons_cons _ ?_ | with_reducible refine List.Sublist.append (List.Sublist.refl _) ?_ | with_reducible exact List.sublist_append_left _ _ | refine List.Sublist.cons _ ?_ | refine List.Sublist.trans ?_ (List.sublist_append_right _ _))))), ?_⟩
        replace hm : Mem w [] [(b1, row (List.replicate 32 (v8 0)) 50)] w13 := hm.call h14
        refine rp_call rfl rfl (ent_static (args := [(.slice (some ⟨b, (slo off (cut n) c 32), none⟩) (n - cut n) (c - cut n))]) Tryz.func106 rfl rfl rfl rfl) (ih_pos ih (ss.drop (cut n)) _ _ _ _ (by omega) (by simp <;> omega) (by omega) (fun x hx => h32 x (List.mem_of_mem_drop hx)) (by rw [sumsC_drop h32]; exact (hs.drop (k := cut n) (by omega)).mem (own2 := []) hm (by simp)) (by omega)) ?_
        rintro _ w15 ⟨rfl, h16⟩
        refine callQ_ret ?_
        refine ⟨.inl (by kernel_rfl), ?_⟩
        replace hm : Mem w [] [(b1, row (List.replicate 32 (v8 0)) 50)] w15 := hm.call h16
        refine rp_call rfl rfl (ent_static (args := [(.agg ((rootP (ss.take (cut n))).map v8).toArray), (.agg ((rootP (ss.drop (cut n))).map v8).toArray)]) Tryz.func216 rfl rfl rfl rfl) (rnode_ok (rootP (ss.take (cut n))) (rootP (ss.drop (cut n))) (rootP_len _ (by simp; omega) (fun x hx => h32 x (List.mem_of_mem_take hx))) (rootP_len _ (by simp; omega) (fun x hx => h32 x (List.mem_of_mem_drop hx))) _) ?_
        rintro _ w17 ⟨rfl, h18⟩
        refine callQ_ret ?_
        refine ⟨.inl (by kernel_rfl), ?_⟩
        replace hm : Mem w [] [(b1, row (List.replicate 32 (v8 0)) 50)] w17 := hm.call h18
        refine rp_store (i := 0) (off := 0) (xs := (List.replicate 32 (v8 0))) (vs := (sha (1 :: (rootP (ss.take (cut n)) ++ rootP (ss.drop (cut n))))).map v8) rfl rfl rfl rfl ag_50 hm rfl rfl (by simp [rootE]) (by simp) (one_map8 _) (by kernel_rfl) ?_
        intro w19 hm
        rw [spl_all (n := 32) (by simp) (by simp [rootE])] at hm
        replace hm : Mem w [] [(b1, row ((sha (1 :: (rootP (ss.take (cut n)) ++ rootP (ss.drop (cut n))))).map v8) 50)] w19 := hm
        refine rp_nil ?_
        exact WP.ret (post_rets rfl (vs := [.agg ((rootE ss).map v8).toArray]) ⟨⟨true, 32, _, 0, _, rfl, ag_50, (hm.row (i := 0) rfl).l, by simp, by decide, by rw [rootE_pos (by omega), rootP_two hn hn2]; simp [rd, List.take_of_length_le]⟩, trivial⟩ rfl ⟨rfl, hm.nil⟩)
theorem rroot_ok (ss : Sums) (a : Option Addr) (c n : Nat) (w : World) (hn : ss.length = n) (h32 : All32 ss) (hs : SlIs w [] (.slice a n c) 32 n (sumsC ss)) (hb : n ≤ 1000000) :
    Calls Tryz.prog 106 [.slice a n c].toArray w (Ret w (.agg ((rootE ss).map v8).toArray)) := rrootN_ok n ss a c n w (Nat.le_refl _) hn h32 hs hb
end Go.Al
namespace Go.Al
open Go Go.RowKit Go.Proofs
set_option linter.unusedVariables false
set_option linter.unusedSimpArgs false
theorem SlIs.len {w : World} {own : List Nat} {v : Value} {n : Nat} {cs : List Value} (h : SlIs w own v 1 n cs) : cs.length = n := by obtain ⟨_, _, _, _, h, _⟩ := h; simpa using h
theorem SlsOk.mem {w0 w : World} {l : List (Nat × Obj)} {vs : List Value} {ls : List Bytes} (h : SlsOk w0 vs ls) (hm : Mem w0 [] l w) : SlsOk w vs ls := fun i v l h1 h2 => (h i v l h1 h2).mem (own2 := []) hm (by simp)
theorem mark0 : List.replicate 32 (v8 0) = (markP []).map v8 := by simp [markP, z32]
theorem rsums_ok (bs : List Bytes) (vs : List Value) (a : Option Addr) (c : Nat) (w : World) (hs : SlIs w [] (.slice a bs.length c) 1 bs.length vs) (hok : SlsOk w vs bs) (hbl : ∀ b ∈ bs, b.length ≤ 100000) (hn : bs.length ≤ 1000) :
    Calls Tryz.prog 102 [.slice a bs.length c].toArray w (RetV w bs.length 32 50 (sumsC (bs.map leafP))) := by
  have hm := Mem.init w
  refine calls_enter (n := 20) Tryz.func102 rfl rfl rfl ?_
  refine wp_sr (E := noPanic) noPanic_imp ?_
  refine rl_val rfl (v := (.slice none 0 0)) (val_assign (v := (.slice none 0 0)) rfl) ?_
  refine rl_nil ?_
  refine wp_sr (E := noPanic) noPanic_imp ?_
  refine rl_val rfl (v := (.slice none 0 0)) (val_assign (v := (.slice none 0 0)) rfl) ?_
  refine rl_nil ?_
  refine WP.seq ?_
  refine wp_sr (E := noPanic) noPanic_imp ?_
  refine rl_val rfl (v := (vI 0)) (val_assign (v := (vI 0)) rfl) ?_
  refine rl_nil ?_
  refine WP.block ?_
  refine WP.loop (fun mz τ w' => ∃ (i : Nat) (vp : Value) (rp : List (Nat × Obj)), bs.length - i = mz ∧ i ≤ bs.length ∧ VecIs vp i 32 50 (sumsC ((bs.take i).map leafP)) rp ∧ Mem w [] ([] ++ (rp ++ [])) w' ∧ τ 3 = vp ∧ τ 0 = (.slice a bs.length c) ∧ τ 4 = (vI (i : Int))) (bs.length) ?_ ?_
  · exact ⟨0, (.slice none 0 0), [], rfl, by omega, VecIs.nil, (by simpa using hm), rfl, rfl, (by first | rfl | (refine int_eq ?_; simp; try omega) | (refine int_eq ?_; omega))⟩
  · rintro kk2 τ wl1 ⟨i, vp, rp, hk3, hi, hvp, hm, hs4, hs5, hs6⟩
    refine WP.seq ?_
    refine wp_sr (E := noPanic) noPanic_imp ?_
    refine rl_val rfl (v := (vI (i : Int))) (val_move (v := (vI (i : Int))) hs6) ?_
    refine rl_val rfl (v := (.slice a bs.length c)) (val_move (v := (.slice a bs.length c)) hs5) ?_
    refine rl_val rfl (v := (vI (bs.length : Nat))) (val_lenSl (t := 22) rfl us_22 rfl) ?_
    refine rl_val rfl (v := (.bool (decide (((i : Int) : Int) < (bs.length : Nat))))) (val_lt (p := (i : Int)) (q := (bs.length : Nat)) rfl rfl) ?_
    refine rl_nil ?_
    refine WP.cond (b := decide (((i : Int) : Int) < (bs.length : Nat))) rfl (fun hb => ?_) (fun hb => ?_)
    ·
      have hq7 := of_decide_eq_true hb
      have hin : i < bs.length := by omega
      obtain ⟨b, off, xs, rfl, hbn, hr, hcs, hle, hnc⟩ := hs.pos (by omega)
      obtain ⟨l, hli⟩ : ∃ l, bs[i]? = some l := ⟨bs[i]'(by omega), by simp⟩
      obtain ⟨v, hvi⟩ : ∃ v, vs[i]? = some v := ⟨vs[i]'(by have := hs.len; omega), by simp⟩
      have hsv := hok i v l hvi hli
      obtain ⟨a1, c1, rfl, hn1⟩ := hsv.form
      have hlb := hbl l (List.mem_of_getElem? hli)
      have hsn : sumsC ((bs.take (i + 1)).map leafP) = sumsC ((bs.take i).map leafP) ++ (leafP l).map v8 := by rw [List.take_add_one, hli, List.map_append, sumsC_app]; simp [sumsC]
      refine WP.skip ?_
      refine WP.seq (WP.block ?_)
      refine wp_r (E := noPanic) noPanic_imp ?_
      refine rl_val rfl (v := vp) (val_move (v := vp) hs4) ?_
      refine rl_val rfl (v := (.slice (some ⟨b, off, none⟩) bs.length c)) (val_move (v := (.slice (some ⟨b, off, none⟩) bs.length c)) hs5) ?_
      refine rl_val rfl (v := (vI (i : Int))) (val_move (v := (vI (i : Int))) hs6) ?_
      refine rl_val rfl (v := (.pointer (some ⟨b, off + i, none⟩))) (val_cast (val_indexSl (i := (i : Int)) (sz := 1) rfl rfl es_22 (by omega)) (ptr_eq (by omega))) ?_
      refine rl_val rfl (v := (.slice a1 l.length c1)) (val_load1 (v := .slice a1 l.length c1) (off := off + i) rfl ag_38 (hm.getL hr (by simp)) (by rw [take_at hcs (by omega)]; exact hvi)) ?_
      refine rl_call rfl (ent_static (args := [(.slice a1 l.length c1)]) Tryz.func104 rfl rfl rfl rfl) (rleaf_ok l a1 c1 _ (hsv.mem (own2 := []) hm (by simp)) (by omega)) ?_
      rintro _ w8 ⟨rfl, h9⟩
      refine callQ_ret ?_
      replace hm : Mem w [] ([] ++ (rp ++ [])) w8 := hm.call h9
      refine rl_buildSlice (vs := [(.agg ((leafP l).map v8).toArray)]) (cs := ((leafP l).map v8)) rfl ez_53 rfl (parts_cons rfl (parts_nil)) rfl (by decide) (by intro v hv; simp only [List.mem_singleton] at hv; subst hv; simp [Value.cells]) (by simp [Value.cells]) hm ?_
      intro b10 w11 hm
      refine rl_appendS (l1 := ([(b10, row ((leafP l).map v8) 50)] ++ [])) (l2 := []) (r := rp) (v := vp) (xs := (sumsC ((bs.take i).map leafP))) (news := ((leafP l).map v8)) rfl ez_53 rfl (by decide) (by decide) rfl rfl hvp (by simpa only [List.append_assoc, List.nil_append, List.append_nil, List.cons_append] using hm) (SlIs.of (own := []) (by simp) (hm.row (i := 0) rfl).l (by simp [List.take_of_length_le]) (by simp) (by omega)) (one_map8 _) (by omega) ?_
      intro v12 r13 w15 hv14 hm
      replace hm : Mem w [] ([(b10, row ((leafP l).map v8) 50)] ++ (r13 ++ [])) w15 := by simpa only [List.append_assoc, List.nil_append, List.append_nil, List.cons_append] using hm
      refine rl_val rfl (v := v12) (val_assign (v := v12) rfl) ?_
      refine rl_nil ?_
      replace hm := hm.sub (l2 := ([] ++ (r13 ++ []))) (by ((try (simp only [List.append_assoc, List.nil_append, List.append_nil, List.cons_append])); repeat (first | exact List.nil_sublist _ | exact List.Sublist.refl _ | with_reducible refine List.Sublist.cons_cons _ ?_ | with_reducible refine List.Sublist.append (List.Sublist.refl _) ?_ | with_reducible exact List.sublist_append_left _ _ | refine List.Sublist.cons _ ?_ | refine List.Sublist.trans ?_ (List.sublist_append_right _ _))))
      refine wp_r (E := noPanic) noPanic_imp ?_
      refine rl_val rfl (v := (vI (i : Int))) (val_move (v := (vI (i : Int))) hs6) ?_
      refine rl_val rfl (v := (vI ((i : Int) + 1))) (val_addI (p := (i : Int)) (q := 1) rfl rfl (by omega)) ?_
      refine rl_val rfl (v := (vI ((i : Int) + 1))) (val_assign (v := (vI ((i : Int) + 1))) rfl) ?_
      refine rl_nil ?_
      exact ⟨bs.length - (i + 1), by omega, ⟨i + 1, v12, r13, rfl, by omega, by rw [hsn]; exact hv14, hm, rfl, hs5, (by first | rfl | (refine int_eq ?_; simp; try omega) | (refine int_eq ?_; omega))⟩⟩
    ·
      have hq16 := of_decide_eq_false hb
      obtain rfl : i = bs.length := by omega
      rw [List.take_length] at hvp
      refine WP.exit ?_
      repeat (first | with_reducible refine exit_pass ?_ | with_reducible refine exit_other rfl ?_)
      refine blk_here ?_
      refine wp_sr (E := noPanic) noPanic_imp ?_
      refine rl_val rfl (v := vp) (val_move (v := vp) hs4) ?_
      refine rl_val rfl (v := vp) (val_assign (v := vp) rfl) ?_
      refine rl_nil ?_
      exact WP.ret (post_rets rfl (vs := [vp]) ⟨rfl, trivial⟩ rfl ⟨_, _, rfl, hvp, by simpa using hm⟩)
theorem rmark_ok (bs : List Bytes) (vs : List Value) (a : Option Addr) (c : Nat) (w : World) (hs : SlIs w [] (.slice a bs.length c) 1 bs.length vs) (hok : SlsOk w vs bs) (hbl : ∀ b ∈ bs, b.length ≤ 100000) (hn : bs.length ≤ 1000) :
    Calls Tryz.prog 24 [.slice a bs.length c].toArray w (Ret w (.agg ((markP bs).map v8).toArray)) := by
  have hm := Mem.init w
  refine calls_enter (n := 23) Tryz.func24 rfl rfl rfl ?_
  refine wp_sr (E := noPanic) noPanic_imp ?_
  refine rl_alloc (xs := List.replicate 32 (v8 0)) rfl zo_50 hm ?_
  intro b1 w2 hm
  refine rl_nil ?_
  refine wp_sr (E := noPanic) noPanic_imp ?_
  refine rl_alloc (xs := List.replicate 32 (v8 0)) rfl zo_50 hm ?_
  intro b3 w4 hm
  refine rl_nil ?_
  refine WP.seq ?_
  refine wp_sr (E := noPanic) noPanic_imp ?_
  refine rl_val rfl (v := (vI 0)) (val_assign (v := (vI 0)) rfl) ?_
  refine rl_nil ?_
  refine WP.block ?_
  refine WP.loop (fun mz τ w' => ∃ (i : Nat), bs.length - i = mz ∧ i ≤ bs.length ∧ Mem w [] [(b3, row ((markP (bs.take i)).map v8) 50), (b1, row (List.replicate 32 (v8 0)) 50)] w' ∧ τ 0 = (.slice a bs.length c) ∧ τ 2 = (.pointer (some ⟨b1, 0, none⟩)) ∧ τ 3 = (.pointer (some ⟨b3, 0, none⟩)) ∧ τ 4 = (vI (i : Int))) (bs.length) ?_ ?_
  · exact ⟨0, rfl, by omega, (by rw [List.take_zero, ← mark0]; exact hm), rfl, rfl, rfl, (by first | rfl | (refine int_eq ?_; simp; try omega) | (refine int_eq ?_; omega))⟩
  · rintro kk6 τ wl5 ⟨i, hk7, hi, hm, hs8, hs9, hs10, hs11⟩
    refine WP.seq ?_
    refine wp_sr (E := noPanic) noPanic_imp ?_
    refine rl_val rfl (v := (vI (i : Int))) (val_move (v := (vI (i : Int))) hs11) ?_
    refine rl_val rfl (v := (.slice a bs.length c)) (val_move (v := (.slice a bs.length c)) hs8) ?_
    refine rl_val rfl (v := (vI (bs.length : Nat))) (val_lenSl (t := 22) rfl us_22 rfl) ?_
    refine rl_val rfl (v := (.bool (decide (((i : Int) : Int) < (bs.length : Nat))))) (val_lt (p := (i : Int)) (q := (bs.length : Nat)) rfl rfl) ?_
    refine rl_nil ?_
    refine WP.cond (b := decide (((i : Int) : Int) < (bs.length : Nat))) rfl (fun hb => ?_) (fun hb => ?_)
    ·
      have hq12 := of_decide_eq_true hb
      have hin : i < bs.length := by omega
      obtain ⟨b, off, xs, rfl, hbn, hr, hcs, hle, hnc⟩ := hs.pos (by omega)
      obtain ⟨l, hli⟩ : ∃ l, bs[i]? = some l := ⟨bs[i]'(by omega), by simp⟩
      obtain ⟨v, hvi⟩ : ∃ v, vs[i]? = some v := ⟨vs[i]'(by have := hs.len; omega), by simp⟩
      have hsv := hok i v l hvi hli
      obtain ⟨a1, c1, rfl, hn1⟩ := hsv.form
      have hlb := hbl l (List.mem_of_getElem? hli)
      have hm32 := markP_len (bs.take i)
      have hl32 := leafP_len l
      have hmk : markP (bs.take (i + 1)) = sha (markP (bs.take i) ++ leafP l) := by rw [List.take_add_one, hli]; exact markP_snoc _ _
      refine WP.skip ?_
      refine WP.seq (WP.block ?_)
      refine wp_sr (E := noPanic) noPanic_imp ?_
      refine rl_val rfl (v := (.slice (some ⟨b, off, none⟩) bs.length c)) (val_move (v := (.slice (some ⟨b, off, none⟩) bs.length c)) hs8) ?_
      refine rl_val rfl (v := (vI (i : Int))) (val_move (v := (vI (i : Int))) hs11) ?_
      refine rl_val rfl (v := (.pointer (some ⟨b, off + i, none⟩))) (val_cast (val_indexSl (i := (i : Int)) (sz := 1) rfl rfl es_22 (by omega)) (ptr_eq (by omega))) ?_
      refine rl_val rfl (v := (.slice a1 l.length c1)) (val_load1 (v := .slice a1 l.length c1) (off := off + i) rfl ag_38 (hm.getL hr (by simp)) (by rw [take_at hcs (by omega)]; exact hvi)) ?_
      refine rl_call rfl (ent_static (args := [(.slice a1 l.length c1)]) Tryz.func104 rfl rfl rfl rfl) (rleaf_ok l a1 c1 _ (hsv.mem (own2 := []) hm (by simp)) (by omega)) ?_
      rintro _ w13 ⟨rfl, h14⟩
      refine callQ_ret ?_
      replace hm : Mem w [] [(b3, row ((markP (bs.take i)).map v8) 50), (b1, row (List.replicate 32 (v8 0)) 50)] w13 := hm.call h14
      refine rl_alloc (xs := List.replicate 32 (v8 0)) rfl zo_50 hm ?_
      intro b15 w16 hm
      refine rl_store (i := 0) (off := 0) (xs := (List.replicate 32 (v8 0))) (vs := (leafP l).map v8) rfl rfl rfl ag_50 hm rfl rfl (by simp) (by simp) (one_map8 _) ?_
      intro w17 hm
      rw [spl_all (n := 32) (by simp) (by simp)] at hm
      replace hm : Mem w [] [(b15, row ((leafP l).map v8) 50), (b3, row ((markP (bs.take i)).map v8) 50), (b1, row (List.replicate 32 (v8 0)) 50)] w17 := hm
      refine rl_nil ?_
      refine wp_d (E := noPanic) [(0, true), (2, true), (1, false), (3, false), (4, false), (5, false)] mixed (by kernel_rfl) (by kernel_rfl) rfl (fun w' => Mem w [] [(b15, row ((leafP l).map v8) 50), (b3, row ((markP (bs.take i)).map v8) 50), (b1, row (List.replicate 32 (v8 0)) 50)] w') noPanic_imp hm.drew ?_
      have hm := hm.drew
      refine rp_val rfl rfl (v := (.slice (some ⟨b3, 0, none⟩) 32 32)) (fun w' hs => val_cast (val_sliceAr (b := b3) (off := 0) (n := 32) (sz := 1) (l := 0) (h := 32) hs10 ua_50 ea_50 rfl rfl (by omega) (by omega)) (by simp [slo])) ?_
      refine rp_val rfl rfl (v := (.slice (some ⟨b15, 0, none⟩) 32 32)) (fun w' hs => val_cast (val_sliceAr (b := b15) (off := 0) (n := 32) (sz := 1) (l := 0) (h := 32) rfl ua_50 ea_50 rfl rfl (by omega) (by omega)) (by simp [slo])) ?_
      refine rp_appendS (l1 := [(b15, row ((leafP l).map v8) 50), (b3, row ((markP (bs.take i)).map v8) 50), (b1, row (List.replicate 32 (v8 0)) 50)]) (l2 := []) (r := []) (v := (.slice none 0 0)) (xs := []) (news := (((markP (bs.take i))).map v8)) rfl rfl ez_38 rfl (by decide) (by decide) rfl rfl (VecIs.nil) (by simpa only [List.append_assoc, List.nil_append, List.append_nil, List.cons_append] using hm) (slAllN (own := []) (l := (markP (bs.take i))) (by simp) (hm.row (i := 1) rfl).l (by simp)) (one_map8 _) (by omega) ?_
      intro v18 r19 w21 hv20 hm
      refine ⟨.inr (hm.sub (by ((try (simp only [List.append_assoc, List.nil_append, List.append_nil, List.cons_append])); repeat (first | exact List.nil_sublist _ | exact List.Sublist.refl _ | with_reducible refine List.Sublist.cons_cons _ ?_ | with_reducible refine List.Sublist.append (List.Sublist.refl _) ?_ | with_reducible exact List.sublist_append_left _ _ | refine List.Sublist.cons _ ?_ | refine List.Sublist.trans ?_ (List.sublist_append_right _ _))))), ?_⟩
      rw [Nat.zero_add, List.nil_append] at hv20
      replace hm : Mem w [] ([(b15, row ((leafP l).map v8) 50), (b3, row ((markP (bs.take i)).map v8) 50), (b1, row (List.replicate 32 (v8 0)) 50)] ++ (r19 ++ [])) w21 := by simpa only [List.append_assoc, List.nil_append, List.append_nil, List.cons_append] using hm
      refine rp_appendS (l1 := ([(b15, row ((leafP l).map v8) 50), (b3, row ((markP (bs.take i)).map v8) 50), (b1, row (List.replicate 32 (v8 0)) 50)] ++ [])) (l2 := []) (r := r19) (v := v18) (xs := (((markP (bs.take i))).map v8)) (news := (((leafP l)).map v8)) rfl rfl ez_38 rfl (by decide) (by decide) rfl rfl hv20 (by simpa only [List.append_assoc, List.nil_append, List.append_nil, List.cons_append] using hm) (slAllN (own := []) (l := (leafP l)) (by simp) (hm.row (i := 0) rfl).l (by simp)) (one_map8 _) (by omega) ?_
      intro v22 r23 w25 hv24 hm
      refine ⟨.inl (by kernel_rfl), ?_⟩
      replace hm : Mem w [] ([(b15, row ((leafP l).map v8) 50), (b3, row ((markP (bs.take i)).map v8) 50), (b1, row (List.replicate 32 (v8 0)) 50)] ++ (r23 ++ [])) w25 := by simpa only [List.append_assoc, List.nil_append, List.append_nil, List.cons_append] using hm
      refine rp_call rfl rfl (ent_static (args := [v22]) Tryz.func105 rfl rfl rfl rfl) (rof_okV (markP (bs.take i) ++ leafP l) _ _ _ (hv24.sl (own2 := []) hm (by intro p hp; exact ⟨by simp [hp], by simp⟩)) (by simp [z32]) (by simp <;> omega)) ?_
      rintro _ w26 ⟨rfl, h27⟩
      refine callQ_ret ?_
      refine ⟨.inl (by kernel_rfl), ?_⟩
      replace hm : Mem w [] ([(b15, row ((leafP l).map v8) 50), (b3, row ((markP (bs.take i)).map v8) 50), (b1, row (List.replicate 32 (v8 0)) 50)] ++ (r23 ++ [])) w26 := hm.call h27
      refine rp_store (i := 1) (off := 0) (xs := ((markP (bs.take i)).map v8)) (vs := (sha (markP (bs.take i) ++ leafP l)).map v8) rfl rfl hs10 rfl ag_50 hm rfl rfl (by simp) (by simp) (one_map8 _) (by kernel_rfl) ?_
      intro w28 hm
      rw [spl_all (n := 32) (by simp) (by simp)] at hm
      replace hm : Mem w [] ([(b15, row ((leafP l).map v8) 50), (b3, row ((sha (markP (bs.take i) ++ leafP l)).map v8) 50), (b1, row (List.replicate 32 (v8 0)) 50)] ++ (r23 ++ [])) w28 := hm
      refine rp_nil ?_
      replace hm := hm.sub (l2 := [(b3, row ((sha (markP (bs.take i) ++ leafP l)).map v8) 50), (b1, row (List.replicate 32 (v8 0)) 50)]) (by ((try (simp only [List.append_assoc, List.nil_append, List.append_nil, List.cons_append])); repeat (first | exact List.nil_sublist _ | exact List.Sublist.refl _ | with_reducible refine List.Sublist.cons_cons _ ?_ | with_reducible refine List.Sublist.append (List.Sublist.refl _) ?_ | with_reducible exact List.sublist_append_left _ _ | refine List.Sublist.cons _ ?_ | refine List.Sublist.trans ?_ (List.sublist_append_right _ _))))
      refine wp_r (E := noPanic) noPanic_imp ?_
      refine rl_val rfl (v := (vI (i : Int))) (val_move (v := (vI (i : Int))) hs11) ?_
      refine rl_val rfl (v := (vI ((i : Int) + 1))) (val_addI (p := (i : Int)) (q := 1) rfl rfl (by omega)) ?_
      refine rl_val rfl (v := (vI ((i : Int) + 1))) (val_assign (v := (vI ((i : Int) + 1))) rfl) ?_
      refine rl_nil ?_
      exact ⟨bs.length - (i + 1), by omega, ⟨i + 1, rfl, by omega, (by rw [hmk]; exact hm), hs8, hs9, hs10, (by first | rfl | (refine int_eq ?_; simp; try omega) | (refine int_eq ?_; omega))⟩⟩
    ·
      have hq29 := of_decide_eq_false hb
      obtain rfl : i = bs.length := by omega
      rw [List.take_length] at hm
      refine WP.exit ?_
      repeat (first | with_reducible refine exit_pass ?_ | with_reducible refine exit_other rfl ?_)
      refine blk_here ?_
      refine wp_sr (E := noPanic) noPanic_imp ?_
      refine rl_val rfl (v := (.agg ((markP bs).map v8).toArray)) (val_loadAll hs10 ag_50 (hm.row (i := 0) rfl).l (by simp) (by decide)) ?_
      refine rl_store (i := 1) (off := 0) (xs := (List.replicate 32 (v8 0))) (vs := (markP bs).map v8) rfl hs9 rfl ag_50 hm rfl rfl (by simp) (by simp) (one_map8 _) ?_
      intro w30 hm
      rw [spl_all (n := 32) (by simp) (by simp)] at hm
      replace hm : Mem w [] [(b3, row ((markP bs).map v8) 50), (b1, row ((markP bs).map v8) 50)] w30 := hm
      refine rl_nil ?_
      exact WP.ret (post_rets rfl (vs := [.agg ((markP bs).map v8).toArray]) ⟨⟨true, 32, _, 0, _, hs9, ag_50, (hm.row (i := 1) rfl).l, by simp, by decide, by simp [rd, List.take_of_length_le]⟩, trivial⟩ rfl ⟨rfl, hm.nil⟩)
theorem rrootc_ok (bs : List Bytes) (vs : List Value) (a : Option Addr) (c : Nat) (w : World) (hs : SlIs w [] (.slice a bs.length c) 1 bs.length vs) (hok : SlsOk w vs bs) (hbl : ∀ b ∈ bs, b.length ≤ 100000) (hn : bs.length ≤ 1000) :
    Calls Tryz.prog 25 [.slice a bs.length c].toArray w (Ret w (.agg ((rootsP bs).map v8).toArray)) := by
  have hm := Mem.init w
  refine calls_enter (n := 6) Tryz.func25 rfl rfl rfl ?_
  refine wp_sr (E := noPanic) noPanic_imp ?_
  refine rl_alloc (xs := List.replicate 32 (v8 0)) rfl zo_50 hm ?_
  intro b1 w2 hm
  refine rl_nil ?_
  refine wp_sr (E := noPanic) noPanic_imp ?_
  refine rl_val rfl (v := (.slice a bs.length c)) (val_move (v := (.slice a bs.length c)) rfl) ?_
  refine rl_call rfl (ent_static (args := [(.slice a bs.length c)]) Tryz.func102 rfl rfl rfl rfl) (rsums_ok bs vs a c _ (hs.mem (own2 := []) hm (by simp)) (hok.mem hm) hbl hn) ?_
  rintro _ w3 ⟨v5, r6, rfl, hv7, h4⟩
  refine callQ_ret ?_
  replace hm := (hm.call h4).comm
  replace hm : Mem w [] ([(b1, row (List.replicate 32 (v8 0)) 50)] ++ (r6 ++ [])) w3 := by simpa only [List.append_assoc, List.nil_append, List.append_nil, List.cons_append] using hm
  obtain ⟨ap, cp, rfl, hcp, _⟩ := hv7.form
  refine rl_call rfl (ent_static (args := [.slice ap bs.length cp]) Tryz.func106 rfl rfl rfl rfl) (rroot_ok (bs.map leafP) _ _ _ _ (by simp) (leaves_32 bs) (hv7.sl (own2 := []) hm (by intro p hp; exact ⟨by simp [hp], by simp⟩)) (by omega)) ?_
  rintro _ w8 ⟨rfl, h9⟩
  refine callQ_ret ?_
  replace hm : Mem w [] ([(b1, row (List.replicate 32 (v8 0)) 50)] ++ (r6 ++ [])) w8 := hm.call h9
  refine rl_store (i := 0) (off := 0) (xs := (List.replicate 32 (v8 0))) (vs := (rootsP bs).map v8) rfl rfl rfl ag_50 hm rfl rfl (by simp) (by simp) (one_map8 _) ?_
  intro w10 hm
  rw [spl_all (n := 32) (by simp) (by simp)] at hm
  replace hm : Mem w [] ([(b1, row ((rootsP bs).map v8) 50)] ++ (r6 ++ [])) w10 := hm
  refine rl_nil ?_
  exact WP.ret (post_rets rfl (vs := [.agg ((rootsP bs).map v8).toArray]) ⟨⟨true, 32, _, 0, _, rfl, ag_50, (hm.row (i := 0) rfl).l, by simp, by decide, by simp [rd, List.take_of_length_le]⟩, trivial⟩ rfl ⟨rfl, hm.nil⟩)
theorem rfirstt_ok (a : Option Addr) (n c k : Nat) (w : World) (hnc : n ≤ c) (hb : n ≤ 1000000) (hk : k ≤ n) :
    Calls Tryz.prog 100 [.slice a n c, vU (k : Int)].toArray w (Ret w (.tuple #[.slice a k c, .bool true])) := by
  have hm := Mem.init w
  refine calls_enter (n := 14) Tryz.func100 rfl rfl rfl ?_
  refine wp_sr (E := noPanic) noPanic_imp ?_
  refine rl_val rfl (v := (.slice none 0 0)) (val_assign (v := (.slice none 0 0)) rfl) ?_
  refine rl_val rfl (v := (.bool false)) (val_assign (v := (.bool false)) rfl) ?_
  refine rl_nil ?_
  refine WP.seq ?_
  refine wp_sr (E := noPanic) noPanic_imp ?_
  refine rl_val rfl (v := (vU (k : Int))) (val_move (v := (vU (k : Int))) rfl) ?_
  refine rl_val rfl (v := (.slice a n c)) (val_move (v := (.slice a n c)) rfl) ?_
  refine rl_val rfl (v := (vI (n : Nat))) (val_lenSl (t := 22) rfl us_22 rfl) ?_
  refine rl_val rfl (v := (vU (n : Nat))) (val_cast (val_conv ut_3 ui_44 rfl) (by rw [wrapU (by omega) (by omega)])) ?_
  refine rl_val rfl (v := (.bool false)) (val_cast (val_gt (p := (k : Int)) (q := (n : Int)) rfl rfl) (by rw [decide_eq_false (by omega)])) ?_
  refine rl_nil ?_
  refine WP.cond_f rfl ?_
  refine WP.skip ?_
  refine wp_sr (E := noPanic) noPanic_imp ?_
  refine rl_val rfl (v := (.slice a n c)) (val_move (v := (.slice a n c)) rfl) ?_
  refine rl_val rfl (v := (vU (k : Int))) (val_move (v := (vU (k : Int))) rfl) ?_
  refine rl_val rfl (v := (.slice a k c)) (val_sliceHi (h := k) rfl us_22 es_22 rfl (by omega)) ?_
  refine rl_val rfl (v := (.slice a k c)) (val_assign (v := (.slice a k c)) rfl) ?_
  refine rl_val rfl (v := (.bool true)) (val_assign (v := (.bool true)) rfl) ?_
  refine rl_nil ?_
  exact WP.ret (post_rets rfl (vs := [(.slice a k c), (.bool true)]) ⟨rfl, rfl, trivial⟩ rfl ⟨rfl, hm⟩)
theorem rfirstf_ok (a : Option Addr) (n c k : Nat) (w : World) (hnc : n ≤ c) (hb : n ≤ 1000000) (hk : n < k) :
    Calls Tryz.prog 100 [.slice a n c, vU (k : Int)].toArray w (Ret w (.tuple #[.slice none 0 0, .bool false])) := by
  have hm := Mem.init w
  refine calls_enter (n := 14) Tryz.func100 rfl rfl rfl ?_
  refine wp_sr (E := noPanic) noPanic_imp ?_
  refine rl_val rfl (v := (.slice none 0 0)) (val_assign (v := (.slice none 0 0)) rfl) ?_
  refine rl_val rfl (v := (.bool false)) (val_assign (v := (.bool false)) rfl) ?_
  refine rl_nil ?_
  refine WP.seq ?_
  refine wp_sr (E := noPanic) noPanic_imp ?_
  refine rl_val rfl (v := (vU (k : Int))) (val_move (v := (vU (k : Int))) rfl) ?_
  refine rl_val rfl (v := (.slice a n c)) (val_move (v := (.slice a n c)) rfl) ?_
  refine rl_val rfl (v := (vI (n : Nat))) (val_lenSl (t := 22) rfl us_22 rfl) ?_
  refine rl_val rfl (v := (vU (n : Nat))) (val_cast (val_conv ut_3 ui_44 rfl) (by rw [wrapU (by omega) (by omega)])) ?_
  refine rl_val rfl (v := (.bool true)) (val_cast (val_gt (p := (k : Int)) (q := (n : Int)) rfl rfl) (by rw [decide_eq_true (by omega)])) ?_
  refine rl_nil ?_
  refine WP.cond_t rfl ?_
  refine wp_sr (E := noPanic) noPanic_imp ?_
  refine rl_val rfl (v := (.slice none 0 0)) (val_assign (v := (.slice none 0 0)) rfl) ?_
  refine rl_val rfl (v := (.bool false)) (val_assign (v := (.bool false)) rfl) ?_
  refine rl_nil ?_
  exact WP.ret (post_rets rfl (vs := [(.slice none 0 0), (.bool false)]) ⟨rfl, rfl, trivial⟩ rfl ⟨rfl, hm⟩)
end Go.Al
