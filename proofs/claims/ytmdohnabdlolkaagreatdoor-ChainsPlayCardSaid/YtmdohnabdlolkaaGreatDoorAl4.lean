/- Lemmas and contracts for the claim, part 4: what each function of the road does, proved once. No condition beyond the hypotheses that stand. -/
import Derived.Test.YtmdohnabdlolkaaGreatDoorProg
import Derived.ChangeKeysEq
import Derived.Test.YtmdohnabdlolkaaGreatDoorAl3
namespace Go.Al
open Go Go.RowKit Go.Proofs
set_option linter.unusedVariables false
set_option linter.unusedSimpArgs false
theorem SlsOk.take {w : World} {vs : List Value} {ls : List Bytes} {k : Nat} (h : SlsOk w vs ls) : SlsOk w (vs.take k) (ls.take k) := fun i v l h1 h2 => by
  rw [List.getElem?_take] at h1 h2
  split at h1
  · rename_i hi; rw [if_pos hi] at h2; exact h i v l h1 h2
  · cases h1
theorem pathF_le : ∀ (f : Nat) (l : Sums) (i : Nat), (pathF f l i).length ≤ f := by
  intro f
  induction f with
  | zero => intro l i; simp [pathF]
  | succ f ih =>
    intro l i
    unfold pathF
    repeat' split
    · simp
    · have := ih (l.take (cut l.length)) i; simp only [List.length_cons]; omega
    · have := ih (l.drop (cut l.length)) (i - cut l.length); simp only [List.length_cons]; omega
theorem pathT_le (l : Sums) (i : Nat) : (pathT l i).length ≤ l.length := pathF_le _ _ _
theorem linkF_le : ∀ (f : Nat) (l : Sums) (i : Nat) (ed : Bool), (linkF f l i ed).length ≤ f := by
  intro f
  induction f with
  | zero => intro l i ed; simp [linkF]
  | succ f ih =>
    intro l i ed
    unfold linkF
    repeat' split
    · simp
    · simp
    · have := ih (l.take (cut l.length)) i ed; simp only [List.length_cons]; omega
    · have := ih (l.drop (cut l.length)) (i - cut l.length) false; simp only [List.length_cons]; omega
theorem linkT_le (l : Sums) (i : Nat) (ed : Bool) : (linkT l i ed).length ≤ l.length + 1 := linkF_le _ _ _ _
theorem rrootp_ok (ss : Sums) (a : Option Addr) (c n : Nat) (w : World) (hn : ss.length = n) (h1 : 1 ≤ n) (h32 : All32 ss) (hs : SlIs w [] (.slice a n c) 32 n (sumsC ss)) (hb : n ≤ 1000000) :
    Calls Tryz.prog 106 [.slice a n c].toArray w (Ret w (.agg ((rootP ss).map v8).toArray)) := by
  have := rroot_ok ss a c n w hn h32 hs hb
  rwa [rootE_pos (by omega)] at this
theorem rpathN_ok (N : Nat) : ∀ (ss : Sums) (a : Option Addr) (c n at0 : Nat) (w : World), n ≤ N → ss.length = n → 1 ≤ n → at0 < n → All32 ss → SlIs w [] (.slice a n c) 32 n (sumsC ss) → n ≤ 1000000 →
    Calls Tryz.prog 210 [.slice a n c, vI (at0 : Int)].toArray w (RetV w (pathT ss at0).length 32 50 (sumsC (pathT ss at0).reverse)) := by
  induction N with
  | zero => intro ss a c n at0 w hN hss h1 hat h32 hs hb; omega
  | succ N ih =>
    intro ss a c n at0 w hN hss h1 hat h32 hs hb
    replace ih := fun ss a c n at0 w hN hss h1 hat h32 hs hb => ih ss a c n at0 w hN hss h1 hat h32 hs hb
    have hm := Mem.init w
    refine calls_enter (n := 41) Tryz.func210 rfl rfl rfl ?_
    refine wp_sr (E := noPanic) noPanic_imp ?_
    refine rl_val rfl (v := (.slice none 0 0)) (val_assign (v := (.slice none 0 0)) rfl) ?_
    refine rl_nil ?_
    refine WP.seq ?_
    refine wp_sr (E := noPanic) noPanic_imp ?_
    refine rl_val rfl (v := (.slice a n c)) (val_move (v := (.slice a n c)) rfl) ?_
    refine rl_val rfl (v := (vI (n : Nat))) (val_lenSl (t := 53) rfl us_53 rfl) ?_
    refine rl_val rfl (v := (.bool (decide (((n : Nat) : Int) = 1)))) (val_eq (p := (n : Nat)) (q := 1) rfl rfl) ?_
    refine rl_nil ?_
    refine WP.cond (b := decide (((n : Nat) : Int) = 1)) rfl (fun hb => ?_) (fun hb => ?_)
    ·
      have hq1 := of_decide_eq_true hb
      have hone : pathT ss at0 = [] := pathT_one (by omega)
      refine wp_sr (E := noPanic) noPanic_imp ?_
      refine rl_val rfl (v := (.slice none 0 0)) (val_assign (v := (.slice none 0 0)) rfl) ?_
      refine rl_nil ?_
      refine WP.ret ?_
      repeat (first | with_reducible refine ret_pass ?_ | with_reducible refine ret_blk ?_ | with_reducible refine scope_ret ?_)
      exact post_rets rfl (vs := [.slice none 0 0]) ⟨rfl, trivial⟩ rfl ⟨_, [], rfl, by rw [hone]; exact VecIs.nil, hm⟩
    ·
      have hq2 := of_decide_eq_false hb
      have hn2 : 2 ≤ n := by omega
      have hcut := cut_lt hn2
      obtain ⟨b, off, xs, rfl, hbn, hr, hcs, hle, hnc⟩ := hs.pos (by omega)
      refine WP.skip ?_
      refine wp_sr (E := noPanic) noPanic_imp ?_
      refine rl_val rfl (v := (.slice (some ⟨b, off, none⟩) n c)) (val_move (v := (.slice (some ⟨b, off, none⟩) n c)) rfl) ?_
      refine rl_val rfl (v := (vI (n : Nat))) (val_lenSl (t := 53) rfl us_53 rfl) ?_
      refine rl_val rfl (v := (vU (n : Nat))) (val_cast (val_conv ut_3 ui_44 rfl) (by rw [wrapU (by omega) (by omega)])) ?_
      refine rl_call rfl (ent_static (args := [(vU (n : Nat))]) Tryz.func142 rfl rfl rfl rfl) (rcut_ok n _ hn2 (by omega)) ?_
      rintro _ w3 ⟨rfl, h4⟩
      refine callQ_ret ?_
      replace hm : Mem w [] [] w3 := hm.call h4
      refine rl_val rfl (v := (vI (cut n : Int))) (val_cast (val_conv ut_44 ui_3 rfl) (by rw [wrapI (by omega) (by omega)])) ?_
      refine rl_val rfl (v := (vI (cut n : Int))) (val_assign (v := (vI (cut n : Int))) rfl) ?_
      refine rl_nil ?_
      refine WP.seq ?_
      refine wp_sr (E := noPanic) noPanic_imp ?_
      refine rl_val rfl (v := (vI (at0 : Int))) (val_move (v := (vI (at0 : Int))) rfl) ?_
      refine rl_val rfl (v := (vI (cut n : Int))) (val_move (v := (vI (cut n : Int))) rfl) ?_
      refine rl_val rfl (v := (.bool (decide (((at0 : Int) : Int) < (cut n : Int))))) (val_lt (p := (at0 : Int)) (q := (cut n : Int)) rfl rfl) ?_
      refine rl_nil ?_
      refine WP.cond (b := decide (((at0 : Int) : Int) < (cut n : Int))) rfl (fun hb => ?_) (fun hb => ?_)
      ·
        have hq5 := of_decide_eq_true hb
        have hside : at0 < cut n := by omega
        have hr32 : (rootP (ss.drop (cut n))).length = 32 := rootP_len _ (by simp; omega) (fun x hx => h32 x (List.mem_of_mem_drop hx))
        have hpl := pathT_le (ss.take (cut n)) at0
        simp only [List.length_take, List.length_drop] at hpl
        refine wp_sd (E := noPanic) [(0, true), (1, true), (2, true), (3, true), (5, true), (6, true), (7, true), (4, false), (8, false), (9, false), (10, false), (11, false)] mixed (by kernel_rfl) (by kernel_rfl) rfl (fun w' => Mem w [] [] w') noPanic_imp hm.drew ?_
        have hm := hm.drew
        refine rp_val rfl rfl (v := (.slice (some ⟨b, off, none⟩) n c)) (fun w' hs => val_move (v := (.slice (some ⟨b, off, none⟩) n c)) rfl) ?_
        refine rp_val rfl rfl (v := (vI (cut n : Int))) (fun w' hs => val_move (v := (vI (cut n : Int))) rfl) ?_
        refine rp_val rfl rfl (v := (.slice (some ⟨b, off, none⟩) (cut n) c)) (fun w' hs => val_cast (val_slice (b := b) (off := off) (n := n) (cap := c) (l := 0) (h := cut n) (m := c) rfl us_53 es_53 rfl ⟨_, _, rfl, by omega, by omega⟩ rfl (by omega) (by omega) (by omega)) (by simp [slo])) ?_
        refine rp_val rfl rfl (v := (vI (at0 : Int))) (fun w' hs => val_move (v := (vI (at0 : Int))) rfl) ?_
        refine rp_val rfl rfl (v := (.slice (some ⟨b, off, none⟩) n c)) (fun w' hs => val_move (v := (.slice (some ⟨b, off, none⟩) n c)) rfl) ?_
        refine rp_val rfl rfl (v := (vI (cut n : Int))) (fun w' hs => val_move (v := (vI (cut n : Int))) rfl) ?_
        refine rp_val rfl rfl (v := (.slice (some ⟨b, (slo off (cut n) c 32), none⟩) (n - cut n) (c - cut n))) (fun w' hs => val_slice (b := b) (off := off) (n := n) (cap := c) (l := cut n) (h := n) (m := c) rfl us_53 es_53 ⟨_, _, rfl, by omega, by omega⟩ ⟨rfl, rfl⟩ rfl (by omega) (by omega) (by omega)) ?_
        refine rp_call rfl rfl (ent_static (args := [(.slice (some ⟨b, off, none⟩) (cut n) c), (vI (at0 : Int))]) Tryz.func210 rfl rfl rfl rfl) (ih (ss.take (cut n)) _ _ (cut n) at0 _ (by omega) (by simp <;> omega) (by omega) (by omega) (fun x hx => h32 x (List.mem_of_mem_take hx)) (by rw [sumsC_take h32]; exact (hs.takeHi (k := cut n) (by omega)).mem (own2 := []) hm (by simp)) (by omega)) ?_
        rintro _ w6 ⟨vv8, r9, rfl, hv10, h7⟩
        refine callQ_ret ?_
        refine ⟨.inr ((hm.call h7).sub (by ((try (simp only [List.append_assoc, List.nil_append, List.append_nil, List.cons_append])); repeat (first | exact List.nil_sublist _ | exact List.Sublist.refl _ | with_reducible refine List.Sublist.cons_cons _ ?_ | with_reducible refine List.Sublist.append (List.Sublist.refl _) ?_ | with_reducible exact List.sublist_append_left _ _ | refine List.Sublist.cons _ ?_ | refine List.Sublist.trans ?_ (List.sublist_append_right _ _))))), ?_⟩
        replace hm := (hm.call h7).comm
        replace hm : Mem w [] ([] ++ (r9 ++ [])) w6 := by simpa only [List.append_assoc, List.nil_append, List.append_nil, List.cons_append] using hm
        refine rp_call rfl rfl (ent_static (args := [(.slice (some ⟨b, (slo off (cut n) c 32), none⟩) (n - cut n) (c - cut n))]) Tryz.func106 rfl rfl rfl rfl) (rrootp_ok (ss.drop (cut n)) _ _ (n - cut n) _ (by simp <;> omega) (by omega) (fun x hx => h32 x (List.mem_of_mem_drop hx)) (by rw [sumsC_drop h32]; exact (hs.drop (k := cut n) (by omega)).mem (own2 := []) hm (by simp)) (by omega)) ?_
        rintro _ w11 ⟨rfl, h12⟩
        refine callQ_ret ?_
        refine ⟨.inl (by kernel_rfl), ?_⟩
        replace hm : Mem w [] ([] ++ (r9 ++ [])) w11 := hm.call h12
        refine rp_buildSlice (vs := [(.agg ((rootP (ss.drop (cut n))).map v8).toArray)]) (cs := ((rootP (ss.drop (cut n))).map v8)) rfl rfl ez_53 rfl (parts_cons rfl (parts_nil)) rfl (by decide) (by intro v hv; simp only [List.mem_singleton] at hv; subst hv; simp [Value.cells, hr32]) (by simp [Value.cells]) hm (fun b w' h => .inl (by kernel_rfl)) ?_
        intro b13 w14 hm
        refine rp_appendS (l1 := ([(b13, row ((rootP (ss.drop (cut n))).map v8) 50)] ++ [])) (l2 := []) (r := r9) (v := vv8) (xs := (sumsC (pathT (ss.take (cut n)) at0).reverse)) (news := ((rootP (ss.drop (cut n))).map v8)) rfl rfl ez_53 rfl (by decide) (by decide) rfl rfl hv10 (by simpa only [List.append_assoc, List.nil_append, List.append_nil, List.cons_append] using hm) (SlIs.of (own := []) (by simp) (hm.row (i := 0) rfl).l (by simp [List.take_of_length_le, hr32]) (by simp [hr32]) (by omega)) (one_map8 _) (by omega) ?_
        intro vv15 r16 w18 hv17 hm
        refine ⟨.inl (by kernel_rfl), ?_⟩
        replace hm : Mem w [] ([(b13, row ((rootP (ss.drop (cut n))).map v8) 50)] ++ (r16 ++ [])) w18 := by simpa only [List.append_assoc, List.nil_append, List.append_nil, List.cons_append] using hm
        refine rp_vale rfl rfl (v := vv15) (val_assign (v := vv15) rfl) (.inl (by kernel_rfl)) ?_
        refine rp_nil ?_
        refine WP.ret ?_
        repeat (first | with_reducible refine ret_pass ?_ | with_reducible refine ret_blk ?_ | with_reducible refine scope_ret ?_)
        exact post_rets rfl (vs := [vv15]) ⟨rfl, trivial⟩ rfl ⟨vv15, r16, rfl, by rw [pathT_t hss hn2 hside, List.reverse_cons, sumsC_app, List.length_cons]; simpa [sumsC] using hv17, hm.sub (l2 := r16) (by ((try (simp only [List.append_assoc, List.nil_append, List.append_nil, List.cons_append])); repeat (first | exact List.nil_sublist _ | exact List.Sublist.refl _ | with_reducible refine List.Sublist.cons_cons _ ?_ | with_reducible refine List.Sublist.append (List.Sublist.refl _) ?_ | with_reducible exact List.sublist_append_left _ _ | refine List.Sublist.cons _ ?_ | refine List.Sublist.trans ?_ (List.sublist_append_right _ _))))⟩
      ·
        have hq19 := of_decide_eq_false hb
        have hside : cut n ≤ at0 := by omega
        have hr32 : (rootP (ss.take (cut n))).length = 32 := rootP_len _ (by simp; omega) (fun x hx => h32 x (List.mem_of_mem_take hx))
        have hpl := pathT_le (ss.drop (cut n)) (at0 - cut n)
        simp only [List.length_take, List.length_drop] at hpl
        refine WP.skip ?_
        refine wp_sd (E := noPanic) [(0, true), (1, true), (2, true), (3, true), (4, true), (5, true), (7, true), (8, true), (9, true), (6, false), (10, false), (11, false), (12, false), (13, false)] mixed (by kernel_rfl) (by kernel_rfl) rfl (fun w' => Mem w [] [] w') noPanic_imp hm.drew ?_
        have hm := hm.drew
        refine rp_val rfl rfl (v := (.slice (some ⟨b, off, none⟩) n c)) (fun w' hs => val_move (v := (.slice (some ⟨b, off, none⟩) n c)) rfl) ?_
        refine rp_val rfl rfl (v := (vI (cut n : Int))) (fun w' hs => val_move (v := (vI (cut n : Int))) rfl) ?_
        refine rp_val rfl rfl (v := (.slice (some ⟨b, (slo off (cut n) c 32), none⟩) (n - cut n) (c - cut n))) (fun w' hs => val_slice (b := b) (off := off) (n := n) (cap := c) (l := cut n) (h := n) (m := c) rfl us_53 es_53 ⟨_, _, rfl, by omega, by omega⟩ ⟨rfl, rfl⟩ rfl (by omega) (by omega) (by omega)) ?_
        refine rp_val rfl rfl (v := (vI (at0 : Int))) (fun w' hs => val_move (v := (vI (at0 : Int))) rfl) ?_
        refine rp_val rfl rfl (v := (vI (cut n : Int))) (fun w' hs => val_move (v := (vI (cut n : Int))) rfl) ?_
        refine rp_val rfl rfl (v := (vI ((at0 - cut n : Nat) : Int))) (fun w' hs => val_cast (val_subI (p := (at0 : Int)) (q := (cut n : Int)) rfl rfl (by omega)) (int_eq (by omega))) ?_
        refine rp_val rfl rfl (v := (.slice (some ⟨b, off, none⟩) n c)) (fun w' hs => val_move (v := (.slice (some ⟨b, off, none⟩) n c)) rfl) ?_
        refine rp_val rfl rfl (v := (vI (cut n : Int))) (fun w' hs => val_move (v := (vI (cut n : Int))) rfl) ?_
        refine rp_val rfl rfl (v := (.slice (some ⟨b, off, none⟩) (cut n) c)) (fun w' hs => val_cast (val_slice (b := b) (off := off) (n := n) (cap := c) (l := 0) (h := cut n) (m := c) rfl us_53 es_53 rfl ⟨_, _, rfl, by omega, by omega⟩ rfl (by omega) (by omega) (by omega)) (by simp [slo])) ?_
        refine rp_call rfl rfl (ent_static (args := [(.slice (some ⟨b, (slo off (cut n) c 32), none⟩) (n - cut n) (c - cut n)), (vI ((at0 - cut n : Nat) : Int))]) Tryz.func210 rfl rfl rfl rfl) (ih (ss.drop (cut n)) _ _ (n - cut n) (at0 - cut n) _ (by omega) (by simp <;> omega) (by omega) (by omega) (fun x hx => h32 x (List.mem_of_mem_drop hx)) (by rw [sumsC_drop h32]; exact (hs.drop (k := cut n) (by omega)).mem (own2 := []) hm (by simp)) (by omega)) ?_
        rintro _ w20 ⟨vv22, r23, rfl, hv24, h21⟩
        refine callQ_ret ?_
        refine ⟨.inr ((hm.call h21).sub (by ((try (simp only [List.append_assoc, List.nil_append, List.append_nil, List.cons_append])); repeat (first | exact List.nil_sublist _ | exact List.Sublist.refl _ | with_reducible refine List.Sublist.cons_cons _ ?_ | with_reducible refine List.Sublist.append (List.Sublist.refl _) ?_ | with_reducible exact List.sublist_append_left _ _ | refine List.Sublist.cons _ ?_ | refine List.Sublist.trans ?_ (List.sublist_append_right _ _))))), ?_⟩
        replace hm := (hm.call h21).comm
        replace hm : Mem w [] ([] ++ (r23 ++ [])) w20 := by simpa only [List.append_assoc, List.nil_append, List.append_nil, List.cons_append] using hm
        refine rp_call rfl rfl (ent_static (args := [(.slice (some ⟨b, off, none⟩) (cut n) c)]) Tryz.func106 rfl rfl rfl rfl) (rrootp_ok (ss.take (cut n)) _ _ (cut n) _ (by simp <;> omega) (by omega) (fun x hx => h32 x (List.mem_of_mem_take hx)) (by rw [sumsC_take h32]; exact (hs.takeHi (k := cut n) (by omega)).mem (own2 := []) hm (by simp)) (by omega)) ?_
        rintro _ w25 ⟨rfl, h26⟩
        refine callQ_ret ?_
        refine ⟨.inl (by kernel_rfl), ?_⟩
        replace hm : Mem w [] ([] ++ (r23 ++ [])) w25 := hm.call h26
        refine rp_buildSlice (vs := [(.agg ((rootP (ss.take (cut n))).map v8).toArray)]) (cs := ((rootP (ss.take (cut n))).map v8)) rfl rfl ez_53 rfl (parts_cons rfl (parts_nil)) rfl (by decide) (by intro v hv; simp only [List.mem_singleton] at hv; subst hv; simp [Value.cells, hr32]) (by simp [Value.cells]) hm (fun b w' h => .inl (by kernel_rfl)) ?_
        intro b27 w28 hm
        refine rp_appendS (l1 := ([(b27, row ((rootP (ss.take (cut n))).map v8) 50)] ++ [])) (l2 := []) (r := r23) (v := vv22) (xs := (sumsC (pathT (ss.drop (cut n)) (at0 - cut n)).reverse)) (news := ((rootP (ss.take (cut n))).map v8)) rfl rfl ez_53 rfl (by decide) (by decide) rfl rfl hv24 (by simpa only [List.append_assoc, List.nil_append, List.append_nil, List.cons_append] using hm) (SlIs.of (own := []) (by simp) (hm.row (i := 0) rfl).l (by simp [List.take_of_length_le, hr32]) (by simp [hr32]) (by omega)) (one_map8 _) (by omega) ?_
        intro vv29 r30 w32 hv31 hm
        refine ⟨.inl (by kernel_rfl), ?_⟩
        replace hm : Mem w [] ([(b27, row ((rootP (ss.take (cut n))).map v8) 50)] ++ (r30 ++ [])) w32 := by simpa only [List.append_assoc, List.nil_append, List.append_nil, List.cons_append] using hm
        refine rp_vale rfl rfl (v := vv29) (val_assign (v := vv29) rfl) (.inl (by kernel_rfl)) ?_
        refine rp_nil ?_
        refine WP.ret ?_
        repeat (first | with_reducible refine ret_pass ?_ | with_reducible refine ret_blk ?_ | with_reducible refine scope_ret ?_)
        exact post_rets rfl (vs := [vv29]) ⟨rfl, trivial⟩ rfl ⟨vv29, r30, rfl, by rw [pathT_d hss hn2 hside, List.reverse_cons, sumsC_app, List.length_cons]; simpa [sumsC] using hv31, hm.sub (l2 := r30) (by ((try (simp only [List.append_assoc, List.nil_append, List.append_nil, List.cons_append])); repeat (first | exact List.nil_sublist _ | exact List.Sublist.refl _ | with_reducible refine List.Sublist.cons_cons _ ?_ | with_reducible refine List.Sublist.append (List.Sublist.refl _) ?_ | with_reducible exact List.sublist_append_left _ _ | refine List.Sublist.cons _ ?_ | refine List.Sublist.trans ?_ (List.sublist_append_right _ _))))⟩
theorem rlinkN_ok (N : Nat) : ∀ (ss : Sums) (a : Option Addr) (c n at0 : Nat) (ed : Bool) (w : World), n ≤ N → ss.length = n → 1 ≤ n → 1 ≤ at0 → at0 ≤ n → All32 ss → SlIs w [] (.slice a n c) 32 n (sumsC ss) → n ≤ 1000000 →
    Calls Tryz.prog 211 [.slice a n c, vI (at0 : Int), .bool ed].toArray w (RetV w (linkT ss at0 ed).length 32 50 (sumsC (linkT ss at0 ed).reverse)) := by
  induction N with
  | zero => intro ss a c n at0 ed w hN hss h1 h1a hat h32 hs hb; omega
  | succ N ih =>
    intro ss a c n at0 ed w hN hss h1 h1a hat h32 hs hb
    replace ih := fun ss a c n at0 ed w hN hss h1 h1a hat h32 hs hb => ih ss a c n at0 ed w hN hss h1 h1a hat h32 hs hb
    have hm := Mem.init w
    refine calls_enter (n := 49) Tryz.func211 rfl rfl rfl ?_
    refine wp_sr (E := noPanic) noPanic_imp ?_
    refine rl_val rfl (v := (.slice none 0 0)) (val_assign (v := (.slice none 0 0)) rfl) ?_
    refine rl_nil ?_
    refine WP.seq ?_
    refine wp_sr (E := noPanic) noPanic_imp ?_
    refine rl_val rfl (v := (vI (at0 : Int))) (val_move (v := (vI (at0 : Int))) rfl) ?_
    refine rl_val rfl (v := (.slice a n c)) (val_move (v := (.slice a n c)) rfl) ?_
    refine rl_val rfl (v := (vI (n : Nat))) (val_lenSl (t := 53) rfl us_53 rfl) ?_
    refine rl_val rfl (v := (.bool (decide (((at0 : Int) : Int) = (n : Nat))))) (val_eq (p := (at0 : Int)) (q := (n : Nat)) rfl rfl) ?_
    refine rl_nil ?_
    refine WP.cond (b := decide (((at0 : Int) : Int) = (n : Nat))) rfl (fun hb => ?_) (fun hb => ?_)
    ·
      have hq1 := of_decide_eq_true hb
      have hdn : n ≤ at0 := by omega
      refine WP.seq ?_
      refine wp_sr (E := noPanic) noPanic_imp ?_
      refine rl_val rfl (v := (.bool ed)) (val_move (v := (.bool ed)) rfl) ?_
      refine rl_nil ?_
      refine WP.cond (b := ed) rfl (fun hb => ?_) (fun hb => ?_)
      ·
        have hq2 := hb
        obtain rfl : ed = true := by simpa using hq2
        refine wp_sr (E := noPanic) noPanic_imp ?_
        refine rl_val rfl (v := (.slice none 0 0)) (val_assign (v := (.slice none 0 0)) rfl) ?_
        refine rl_nil ?_
        refine WP.ret ?_
        repeat (first | with_reducible refine ret_pass ?_ | with_reducible refine ret_blk ?_ | with_reducible refine scope_ret ?_)
        exact post_rets rfl (vs := [.slice none 0 0]) ⟨rfl, trivial⟩ rfl ⟨_, [], rfl, by rw [linkT_done hss hdn]; exact VecIs.nil, hm⟩
      ·
        have hq3 := hb
        obtain rfl : ed = false := by simpa using hq3
        have hr32 : (rootP ss).length = 32 := rootP_len _ (by omega) h32
        refine WP.skip ?_
        refine wp_sr (E := noPanic) noPanic_imp ?_
        refine rl_val rfl (v := (.slice a n c)) (val_move (v := (.slice a n c)) rfl) ?_
        refine rl_call rfl (ent_static (args := [(.slice a n c)]) Tryz.func106 rfl rfl rfl rfl) (rrootp_ok ss _ _ n _ hss (by omega) h32 (hs.mem (own2 := []) hm (by simp)) (by omega)) ?_
        rintro _ w4 ⟨rfl, h5⟩
        refine callQ_ret ?_
        replace hm : Mem w [] [] w4 := hm.call h5
        refine rl_buildSlice (vs := [(.agg ((rootP ss).map v8).toArray)]) (cs := ((rootP ss).map v8)) rfl ez_53 rfl (parts_cons rfl (parts_nil)) rfl (by decide) (by intro v hv; simp only [List.mem_singleton] at hv; subst hv; simp [Value.cells, hr32]) (by simp [Value.cells]) hm ?_
        intro b6 w7 hm
        refine rl_val rfl (v := (.slice (some ⟨b6, 0, none⟩) 1 1)) (val_assign (v := (.slice (some ⟨b6, 0, none⟩) 1 1)) rfl) ?_
        refine rl_nil ?_
        refine WP.ret ?_
        repeat (first | with_reducible refine ret_pass ?_ | with_reducible refine ret_blk ?_ | with_reducible refine scope_ret ?_)
        exact post_rets rfl (vs := [(.slice (some ⟨b6, 0, none⟩) 1 1)]) ⟨rfl, trivial⟩ rfl ⟨(.slice (some ⟨b6, 0, none⟩) 1 1), [(b6, row (((rootP ss).map v8)) 50)], rfl, by rw [linkT_done hss hdn]; simpa [sumsC] using (VecIs.mk0 (g := b6) (e := 50) (sz := 32) (n := 1) (xs := (rootP ss).map v8) (by simp [maxLen_val]) (by simp [hr32])), hm.sub (by ((try (simp only [List.append_assoc, List.nil_append, List.append_nil, List.cons_append])); repeat (first | exact List.nil_sublist _ | exact List.Sublist.refl _ | with_reducible refine List.Sublist.cons_cons _ ?_ | with_reducible refine List.Sublist.append (List.Sublist.refl _) ?_ | with_reducible exact List.sublist_append_left _ _ | refine List.Sublist.cons _ ?_ | refine List.Sublist.trans ?_ (List.sublist_append_right _ _))))⟩
    ·
      have hq8 := of_decide_eq_false hb
      have hlt : at0 < n := by omega
      have hn2 : 2 ≤ n := by omega
      have hcut := cut_lt hn2
      obtain ⟨b, off, xs, rfl, hbn, hr, hcs, hle, hnc⟩ := hs.pos (by omega)
      refine WP.skip ?_
      refine wp_sr (E := noPanic) noPanic_imp ?_
      refine rl_val rfl (v := (.slice (some ⟨b, off, none⟩) n c)) (val_move (v := (.slice (some ⟨b, off, none⟩) n c)) rfl) ?_
      refine rl_val rfl (v := (vI (n : Nat))) (val_lenSl (t := 53) rfl us_53 rfl) ?_
      refine rl_val rfl (v := (vU (n : Nat))) (val_cast (val_conv ut_3 ui_44 rfl) (by rw [wrapU (by omega) (by omega)])) ?_
      refine rl_call rfl (ent_static (args := [(vU (n : Nat))]) Tryz.func142 rfl rfl rfl rfl) (rcut_ok n _ hn2 (by omega)) ?_
      rintro _ w9 ⟨rfl, h10⟩
      refine callQ_ret ?_
      replace hm : Mem w [] [] w9 := hm.call h10
      refine rl_val rfl (v := (vI (cut n : Int))) (val_cast (val_conv ut_44 ui_3 rfl) (by rw [wrapI (by omega) (by omega)])) ?_
      refine rl_val rfl (v := (vI (cut n : Int))) (val_assign (v := (vI (cut n : Int))) rfl) ?_
      refine rl_nil ?_
      refine WP.seq ?_
      refine wp_sr (E := noPanic) noPanic_imp ?_
      refine rl_val rfl (v := (vI (at0 : Int))) (val_move (v := (vI (at0 : Int))) rfl) ?_
      refine rl_val rfl (v := (vI (cut n : Int))) (val_move (v := (vI (cut n : Int))) rfl) ?_
      refine rl_val rfl (v := (.bool (decide (((at0 : Int) : Int) ≤ (cut n : Int))))) (val_le (p := (at0 : Int)) (q := (cut n : Int)) rfl rfl) ?_
      refine rl_nil ?_
      refine WP.cond (b := decide (((at0 : Int) : Int) ≤ (cut n : Int))) rfl (fun hb => ?_) (fun hb => ?_)
      ·
        have hq11 := of_decide_eq_true hb
        have hside : at0 ≤ cut n := by omega
        have hr32 : (rootP (ss.drop (cut n))).length = 32 := rootP_len _ (by simp; omega) (fun x hx => h32 x (List.mem_of_mem_drop hx))
        have hpl := linkT_le (ss.take (cut n)) at0 ed
        simp only [List.length_take, List.length_drop] at hpl
        refine wp_sd (E := noPanic) [(0, true), (1, true), (2, true), (3, true), (4, true), (6, true), (7, true), (8, true), (5, false), (9, false), (10, false), (11, false), (12, false)] mixed (by kernel_rfl) (by kernel_rfl) rfl (fun w' => Mem w [] [] w') noPanic_imp hm.drew ?_
        have hm := hm.drew
        refine rp_val rfl rfl (v := (.slice (some ⟨b, off, none⟩) n c)) (fun w' hs => val_move (v := (.slice (some ⟨b, off, none⟩) n c)) rfl) ?_
        refine rp_val rfl rfl (v := (vI (cut n : Int))) (fun w' hs => val_move (v := (vI (cut n : Int))) rfl) ?_
        refine rp_val rfl rfl (v := (.slice (some ⟨b, off, none⟩) (cut n) c)) (fun w' hs => val_cast (val_slice (b := b) (off := off) (n := n) (cap := c) (l := 0) (h := cut n) (m := c) rfl us_53 es_53 rfl ⟨_, _, rfl, by omega, by omega⟩ rfl (by omega) (by omega) (by omega)) (by simp [slo])) ?_
        refine rp_val rfl rfl (v := (vI (at0 : Int))) (fun w' hs => val_move (v := (vI (at0 : Int))) rfl) ?_
        refine rp_val rfl rfl (v := (.bool ed)) (fun w' hs => val_move (v := (.bool ed)) rfl) ?_
        refine rp_val rfl rfl (v := (.slice (some ⟨b, off, none⟩) n c)) (fun w' hs => val_move (v := (.slice (some ⟨b, off, none⟩) n c)) rfl) ?_
        refine rp_val rfl rfl (v := (vI (cut n : Int))) (fun w' hs => val_move (v := (vI (cut n : Int))) rfl) ?_
        refine rp_val rfl rfl (v := (.slice (some ⟨b, (slo off (cut n) c 32), none⟩) (n - cut n) (c - cut n))) (fun w' hs => val_slice (b := b) (off := off) (n := n) (cap := c) (l := cut n) (h := n) (m := c) rfl us_53 es_53 ⟨_, _, rfl, by omega, by omega⟩ ⟨rfl, rfl⟩ rfl (by omega) (by omega) (by omega)) ?_
        refine rp_call rfl rfl (ent_static (args := [(.slice (some ⟨b, off, none⟩) (cut n) c), (vI (at0 : Int)), (.bool ed)]) Tryz.func211 rfl rfl rfl rfl) (ih (ss.take (cut n)) _ _ (cut n) at0 ed _ (by omega) (by simp <;> omega) (by omega) (by omega) (by omega) (fun x hx => h32 x (List.mem_of_mem_take hx)) (by rw [sumsC_take h32]; exact (hs.takeHi (k := cut n) (by omega)).mem (own2 := []) hm (by simp)) (by omega)) ?_
        rintro _ w12 ⟨vv14, r15, rfl, hv16, h13⟩
        refine callQ_ret ?_
        refine ⟨.inr ((hm.call h13).sub (by ((try (simp only [List.append_assoc, List.nil_append, List.append_nil, List.cons_append])); repeat (first | exact List.nil_sublist _ | exact List.Sublist.refl _ | with_reducible refine List.Sublist.cons_cons _ ?_ | with_reducible refine List.Sublist.append (List.Sublist.refl _) ?_ | with_reducible exact List.sublist_append_left _ _ | refine List.Sublist.cons _ ?_ | refine List.Sublist.trans ?_ (List.sublist_append_right _ _))))), ?_⟩
        replace hm := (hm.call h13).comm
        replace hm : Mem w [] ([] ++ (r15 ++ [])) w12 := by simpa only [List.append_assoc, List.nil_append, List.append_nil, List.cons_append] using hm
        refine rp_call rfl rfl (ent_static (args := [(.slice (some ⟨b, (slo off (cut n) c 32), none⟩) (n - cut n) (c - cut n))]) Tryz.func106 rfl rfl rfl rfl) (rrootp_ok (ss.drop (cut n)) _ _ (n - cut n) _ (by simp <;> omega) (by omega) (fun x hx => h32 x (List.mem_of_mem_drop hx)) (by rw [sumsC_drop h32]; exact (hs.drop (k := cut n) (by omega)).mem (own2 := []) hm (by simp)) (by omega)) ?_
        rintro _ w17 ⟨rfl, h18⟩
        refine callQ_ret ?_
        refine ⟨.inl (by kernel_rfl), ?_⟩
        replace hm : Mem w [] ([] ++ (r15 ++ [])) w17 := hm.call h18
        refine rp_buildSlice (vs := [(.agg ((rootP (ss.drop (cut n))).map v8).toArray)]) (cs := ((rootP (ss.drop (cut n))).map v8)) rfl rfl ez_53 rfl (parts_cons rfl (parts_nil)) rfl (by decide) (by intro v hv; simp only [List.mem_singleton] at hv; subst hv; simp [Value.cells, hr32]) (by simp [Value.cells]) hm (fun b w' h => .inl (by kernel_rfl)) ?_
        intro b19 w20 hm
        refine rp_appendS (l1 := ([(b19, row ((rootP (ss.drop (cut n))).map v8) 50)] ++ [])) (l2 := []) (r := r15) (v := vv14) (xs := (sumsC (linkT (ss.take (cut n)) at0 ed).reverse)) (news := ((rootP (ss.drop (cut n))).map v8)) rfl rfl ez_53 rfl (by decide) (by decide) rfl rfl hv16 (by simpa only [List.append_assoc, List.nil_append, List.append_nil, List.cons_append] using hm) (SlIs.of (own := []) (by simp) (hm.row (i := 0) rfl).l (by simp [List.take_of_length_le, hr32]) (by simp [hr32]) (by omega)) (one_map8 _) (by omega) ?_
        intro vv21 r22 w24 hv23 hm
        refine ⟨.inl (by kernel_rfl), ?_⟩
        replace hm : Mem w [] ([(b19, row ((rootP (ss.drop (cut n))).map v8) 50)] ++ (r22 ++ [])) w24 := by simpa only [List.append_assoc, List.nil_append, List.append_nil, List.cons_append] using hm
        refine rp_vale rfl rfl (v := vv21) (val_assign (v := vv21) rfl) (.inl (by kernel_rfl)) ?_
        refine rp_nil ?_
        refine WP.ret ?_
        repeat (first | with_reducible refine ret_pass ?_ | with_reducible refine ret_blk ?_ | with_reducible refine scope_ret ?_)
        exact post_rets rfl (vs := [vv21]) ⟨rfl, trivial⟩ rfl ⟨vv21, r22, rfl, by rw [linkT_t hss hlt hn2 hside, List.reverse_cons, sumsC_app, List.length_cons]; simpa [sumsC] using hv23, hm.sub (l2 := r22) (by ((try (simp only [List.append_assoc, List.nil_append, List.append_nil, List.cons_append])); repeat (first | exact List.nil_sublist _ | exact List.Sublist.refl _ | with_reducible refine List.Sublist.cons_cons _ ?_ | with_reducible refine List.Sublist.append (List.Sublist.refl _) ?_ | with_reducible exact List.sublist_append_left _ _ | refine List.Sublist.cons _ ?_ | refine List.Sublist.trans ?_ (List.sublist_append_right _ _))))⟩
      ·
        have hq25 := of_decide_eq_false hb
        have hside : cut n < at0 := by omega
        have hr32 : (rootP (ss.take (cut n))).length = 32 := rootP_len _ (by simp; omega) (fun x hx => h32 x (List.mem_of_mem_take hx))
        have hpl := linkT_le (ss.drop (cut n)) (at0 - cut n) false
        simp only [List.length_take, List.length_drop] at hpl
        refine WP.skip ?_
        refine wp_sd (E := noPanic) [(0, true), (1, true), (2, true), (3, true), (4, true), (5, true), (7, true), (8, true), (9, true), (6, false), (10, false), (11, false), (12, false), (13, false)] mixed (by kernel_rfl) (by kernel_rfl) rfl (fun w' => Mem w [] [] w') noPanic_imp hm.drew ?_
        have hm := hm.drew
        refine rp_val rfl rfl (v := (.slice (some ⟨b, off, none⟩) n c)) (fun w' hs => val_move (v := (.slice (some ⟨b, off, none⟩) n c)) rfl) ?_
        refine rp_val rfl rfl (v := (vI (cut n : Int))) (fun w' hs => val_move (v := (vI (cut n : Int))) rfl) ?_
        refine rp_val rfl rfl (v := (.slice (some ⟨b, (slo off (cut n) c 32), none⟩) (n - cut n) (c - cut n))) (fun w' hs => val_slice (b := b) (off := off) (n := n) (cap := c) (l := cut n) (h := n) (m := c) rfl us_53 es_53 ⟨_, _, rfl, by omega, by omega⟩ ⟨rfl, rfl⟩ rfl (by omega) (by omega) (by omega)) ?_
        refine rp_val rfl rfl (v := (vI (at0 : Int))) (fun w' hs => val_move (v := (vI (at0 : Int))) rfl) ?_
        refine rp_val rfl rfl (v := (vI (cut n : Int))) (fun w' hs => val_move (v := (vI (cut n : Int))) rfl) ?_
        refine rp_val rfl rfl (v := (vI ((at0 - cut n : Nat) : Int))) (fun w' hs => val_cast (val_subI (p := (at0 : Int)) (q := (cut n : Int)) rfl rfl (by omega)) (int_eq (by omega))) ?_
        refine rp_val rfl rfl (v := (.slice (some ⟨b, off, none⟩) n c)) (fun w' hs => val_move (v := (.slice (some ⟨b, off, none⟩) n c)) rfl) ?_
        refine rp_val rfl rfl (v := (vI (cut n : Int))) (fun w' hs => val_move (v := (vI (cut n : Int))) rfl) ?_
        refine rp_val rfl rfl (v := (.slice (some ⟨b, off, none⟩) (cut n) c)) (fun w' hs => val_cast (val_slice (b := b) (off := off) (n := n) (cap := c) (l := 0) (h := cut n) (m := c) rfl us_53 es_53 rfl ⟨_, _, rfl, by omega, by omega⟩ rfl (by omega) (by omega) (by omega)) (by simp [slo])) ?_
        refine rp_call rfl rfl (ent_static (args := [(.slice (some ⟨b, (slo off (cut n) c 32), none⟩) (n - cut n) (c - cut n)), (vI ((at0 - cut n : Nat) : Int)), (.bool false)]) Tryz.func211 rfl rfl rfl rfl) (ih (ss.drop (cut n)) _ _ (n - cut n) (at0 - cut n) false _ (by omega) (by simp <;> omega) (by omega) (by omega) (by omega) (fun x hx => h32 x (List.mem_of_mem_drop hx)) (by rw [sumsC_drop h32]; exact (hs.drop (k := cut n) (by omega)).mem (own2 := []) hm (by simp)) (by omega)) ?_
        rintro _ w26 ⟨vv28, r29, rfl, hv30, h27⟩
        refine callQ_ret ?_
        refine ⟨.inr ((hm.call h27).sub (by ((try (simp only [List.append_assoc, List.nil_append, List.append_nil, List.cons_append])); repeat (first | exact List.nil_sublist _ | exact List.Sublist.refl _ | with_reducible refine List.Sublist.cons_cons _ ?_ | with_reducible refine List.Sublist.append (List.Sublist.refl _) ?_ | with_reducible exact List.sublist_append_left _ _ | refine List.Sublist.cons _ ?_ | refine List.Sublist.trans ?_ (List.sublist_append_right _ _))))), ?_⟩
        replace hm := (hm.call h27).comm
        replace hm : Mem w [] ([] ++ (r29 ++ [])) w26 := by simpa only [List.append_assoc, List.nil_append, List.append_nil, List.cons_append] using hm
        refine rp_call rfl rfl (ent_static (args := [(.slice (some ⟨b, off, none⟩) (cut n) c)]) Tryz.func106 rfl rfl rfl rfl) (rrootp_ok (ss.take (cut n)) _ _ (cut n) _ (by simp <;> omega) (by omega) (fun x hx => h32 x (List.mem_of_mem_take hx)) (by rw [sumsC_take h32]; exact (hs.takeHi (k := cut n) (by omega)).mem (own2 := []) hm (by simp)) (by omega)) ?_
        rintro _ w31 ⟨rfl, h32⟩
        refine callQ_ret ?_
        refine ⟨.inl (by kernel_rfl), ?_⟩
        replace hm : Mem w [] ([] ++ (r29 ++ [])) w31 := hm.call h32
        refine rp_buildSlice (vs := [(.agg ((rootP (ss.take (cut n))).map v8).toArray)]) (cs := ((rootP (ss.take (cut n))).map v8)) rfl rfl ez_53 rfl (parts_cons rfl (parts_nil)) rfl (by decide) (by intro v hv; simp only [List.mem_singleton] at hv; subst hv; simp [Value.cells, hr32]) (by simp [Value.cells]) hm (fun b w' h => .inl (by kernel_rfl)) ?_
        intro b33 w34 hm
        refine rp_appendS (l1 := ([(b33, row ((rootP (ss.take (cut n))).map v8) 50)] ++ [])) (l2 := []) (r := r29) (v := vv28) (xs := (sumsC (linkT (ss.drop (cut n)) (at0 - cut n) false).reverse)) (news := ((rootP (ss.take (cut n))).map v8)) rfl rfl ez_53 rfl (by decide) (by decide) rfl rfl hv30 (by simpa only [List.append_assoc, List.nil_append, List.append_nil, List.cons_append] using hm) (SlIs.of (own := []) (by simp) (hm.row (i := 0) rfl).l (by simp [List.take_of_length_le, hr32]) (by simp [hr32]) (by omega)) (one_map8 _) (by omega) ?_
        intro vv35 r36 w38 hv37 hm
        refine ⟨.inl (by kernel_rfl), ?_⟩
        replace hm : Mem w [] ([(b33, row ((rootP (ss.take (cut n))).map v8) 50)] ++ (r36 ++ [])) w38 := by simpa only [List.append_assoc, List.nil_append, List.append_nil, List.cons_append] using hm
        refine rp_vale rfl rfl (v := vv35) (val_assign (v := vv35) rfl) (.inl (by kernel_rfl)) ?_
        refine rp_nil ?_
        refine WP.ret ?_
        repeat (first | with_reducible refine ret_pass ?_ | with_reducible refine ret_blk ?_ | with_reducible refine scope_ret ?_)
        exact post_rets rfl (vs := [vv35]) ⟨rfl, trivial⟩ rfl ⟨vv35, r36, rfl, by rw [linkT_d hss hlt hn2 hside, List.reverse_cons, sumsC_app, List.length_cons]; simpa [sumsC] using hv37, hm.sub (l2 := r36) (by ((try (simp only [List.append_assoc, List.nil_append, List.append_nil, List.cons_append])); repeat (first | exact List.nil_sublist _ | exact List.Sublist.refl _ | with_reducible refine List.Sublist.cons_cons _ ?_ | with_reducible refine List.Sublist.append (List.Sublist.refl _) ?_ | with_reducible exact List.sublist_append_left _ _ | refine List.Sublist.cons _ ?_ | refine List.Sublist.trans ?_ (List.sublist_append_right _ _))))⟩
theorem rpathof_t (ss : Sums) (a : Option Addr) (c n at0 : Nat) (w : World) (hss : ss.length = n) (h32 : All32 ss) (hs : SlIs w [] (.slice a n c) 32 n (sumsC ss)) (hb : n ≤ 1000000) (hat : at0 < n) (hat2 : at0 ≤ 1000000) :
    Calls Tryz.prog 101 [.slice a n c, vI (at0 : Int)].toArray w (fun e w' => ∃ v r, e = .returned (.tuple #[v, vI 0]) ∧ VecIs v (pathT ss at0).length 32 50 (sumsC (pathT ss at0).reverse) r ∧ Mem w [] r w') := by
  have hm := Mem.init w
  refine calls_enter (n := 17) Tryz.func101 rfl rfl rfl ?_
  refine wp_sr (E := noPanic) noPanic_imp ?_
  refine rl_val rfl (v := (.slice none 0 0)) (val_assign (v := (.slice none 0 0)) rfl) ?_
  refine rl_val rfl (v := (vI 0)) (val_assign (v := (vI 0)) rfl) ?_
  refine rl_nil ?_
  refine WP.seq ?_
  refine wp_sr (E := noPanic) noPanic_imp ?_
  refine rl_val rfl (v := (vI (at0 : Int))) (val_move (v := (vI (at0 : Int))) rfl) ?_
  refine rl_val rfl (v := (.bool false)) (val_cast (val_lt (p := (at0 : Int)) (q := 0) rfl rfl) (by rw [decide_eq_false (by omega)])) ?_
  refine rl_val rfl (v := (.bool false)) (val_move (v := (.bool false)) rfl) ?_
  refine rl_valg ⟨8, false, rfl, .inl ⟨rfl, rfl⟩⟩ rfl (v := (vI (at0 : Int))) (val_move (v := (vI (at0 : Int))) rfl) ?_
  refine rl_valg ⟨8, false, rfl, .inl ⟨rfl, rfl⟩⟩ rfl (v := (.slice a n c)) (val_move (v := (.slice a n c)) rfl) ?_
  refine rl_valg ⟨8, false, rfl, .inl ⟨rfl, rfl⟩⟩ rfl (v := (vI (n : Nat))) (val_lenSl (t := 53) rfl us_53 rfl) ?_
  refine rl_valg ⟨8, false, rfl, .inl ⟨rfl, rfl⟩⟩ rfl (v := (.bool false)) (val_cast (val_ge (p := (at0 : Int)) (q := (n : Int)) rfl rfl) (by rw [decide_eq_false (by omega)])) ?_
  refine rl_val rfl (v := (.bool false)) (val_pick_f (v := .bool false) rfl rfl) ?_
  refine rl_nil ?_
  refine WP.cond_f rfl ?_
  refine WP.skip ?_
  refine wp_sr (E := noPanic) noPanic_imp ?_
  refine rl_val rfl (v := (.slice a n c)) (val_move (v := (.slice a n c)) rfl) ?_
  refine rl_val rfl (v := (vI (at0 : Int))) (val_move (v := (vI (at0 : Int))) rfl) ?_
  refine rl_call rfl (ent_static (args := [(.slice a n c), (vI (at0 : Int))]) Tryz.func210 rfl rfl rfl rfl) (rpathN_ok n ss a c n at0 _ (Nat.le_refl _) hss (by omega) (by omega) h32 (hs.mem (own2 := []) hm (by simp)) hb) ?_
  rintro _ w1 ⟨vv3, r4, rfl, hv5, h2⟩
  refine callQ_ret ?_
  replace hm := (hm.call h2).comm
  replace hm : Mem w [] ([] ++ (r4 ++ [])) w1 := by simpa only [List.append_assoc, List.nil_append, List.append_nil, List.cons_append] using hm
  refine rl_val rfl (v := vv3) (val_assign (v := vv3) rfl) ?_
  refine rl_val rfl (v := (vI 0)) (val_assign (v := (vI 0)) rfl) ?_
  refine rl_nil ?_
  refine WP.ret ?_
  repeat (first | with_reducible refine ret_pass ?_ | with_reducible refine ret_blk ?_ | with_reducible refine scope_ret ?_)
  exact post_rets rfl (vs := [vv3, vI 0]) ⟨rfl, rfl, trivial⟩ rfl ⟨_, _, rfl, hv5, by simpa using hm⟩
theorem rlinkof_t (ss : Sums) (a : Option Addr) (c n at0 : Nat) (w : World) (hss : ss.length = n) (h32 : All32 ss) (hs : SlIs w [] (.slice a n c) 32 n (sumsC ss)) (hb : n ≤ 1000000) (hat : 1 ≤ at0 ∧ at0 ≤ n) (hat2 : at0 ≤ 1000000) :
    Calls Tryz.prog 103 [.slice a n c, vI (at0 : Int)].toArray w (fun e w' => ∃ v r, e = .returned (.tuple #[v, vI 0]) ∧ VecIs v (linkT ss at0 true).length 32 50 (sumsC (linkT ss at0 true).reverse) r ∧ Mem w [] r w') := by
  have hm := Mem.init w
  refine calls_enter (n := 17) Tryz.func103 rfl rfl rfl ?_
  refine wp_sr (E := noPanic) noPanic_imp ?_
  refine rl_val rfl (v := (.slice none 0 0)) (val_assign (v := (.slice none 0 0)) rfl) ?_
  refine rl_val rfl (v := (vI 0)) (val_assign (v := (vI 0)) rfl) ?_
  refine rl_nil ?_
  refine WP.seq ?_
  refine wp_sr (E := noPanic) noPanic_imp ?_
  refine rl_val rfl (v := (vI (at0 : Int))) (val_move (v := (vI (at0 : Int))) rfl) ?_
  refine rl_val rfl (v := (.bool false)) (val_cast (val_lt (p := (at0 : Int)) (q := 1) rfl rfl) (by rw [decide_eq_false (by omega)])) ?_
  refine rl_val rfl (v := (.bool false)) (val_move (v := (.bool false)) rfl) ?_
  refine rl_valg ⟨8, false, rfl, .inl ⟨rfl, rfl⟩⟩ rfl (v := (vI (at0 : Int))) (val_move (v := (vI (at0 : Int))) rfl) ?_
  refine rl_valg ⟨8, false, rfl, .inl ⟨rfl, rfl⟩⟩ rfl (v := (.slice a n c)) (val_move (v := (.slice a n c)) rfl) ?_
  refine rl_valg ⟨8, false, rfl, .inl ⟨rfl, rfl⟩⟩ rfl (v := (vI (n : Nat))) (val_lenSl (t := 53) rfl us_53 rfl) ?_
  refine rl_valg ⟨8, false, rfl, .inl ⟨rfl, rfl⟩⟩ rfl (v := (.bool false)) (val_cast (val_gt (p := (at0 : Int)) (q := (n : Int)) rfl rfl) (by rw [decide_eq_false (by omega)])) ?_
  refine rl_val rfl (v := (.bool false)) (val_pick_f (v := .bool false) rfl rfl) ?_
  refine rl_nil ?_
  refine WP.cond_f rfl ?_
  refine WP.skip ?_
  refine wp_sr (E := noPanic) noPanic_imp ?_
  refine rl_val rfl (v := (.slice a n c)) (val_move (v := (.slice a n c)) rfl) ?_
  refine rl_val rfl (v := (vI (at0 : Int))) (val_move (v := (vI (at0 : Int))) rfl) ?_
  refine rl_call rfl (ent_static (args := [(.slice a n c), (vI (at0 : Int)), (.bool true)]) Tryz.func211 rfl rfl rfl rfl) (rlinkN_ok n ss a c n at0 true _ (Nat.le_refl _) hss (by omega) (by omega) (by omega) h32 (hs.mem (own2 := []) hm (by simp)) hb) ?_
  rintro _ w1 ⟨vv3, r4, rfl, hv5, h2⟩
  refine callQ_ret ?_
  replace hm := (hm.call h2).comm
  replace hm : Mem w [] ([] ++ (r4 ++ [])) w1 := by simpa only [List.append_assoc, List.nil_append, List.append_nil, List.cons_append] using hm
  refine rl_val rfl (v := vv3) (val_assign (v := vv3) rfl) ?_
  refine rl_val rfl (v := (vI 0)) (val_assign (v := (vI 0)) rfl) ?_
  refine rl_nil ?_
  refine WP.ret ?_
  repeat (first | with_reducible refine ret_pass ?_ | with_reducible refine ret_blk ?_ | with_reducible refine scope_ret ?_)
  exact post_rets rfl (vs := [vv3, vI 0]) ⟨rfl, rfl, trivial⟩ rfl ⟨_, _, rfl, hv5, by simpa using hm⟩
theorem rlinkof_z (ss : Sums) (a : Option Addr) (c n at0 : Nat) (w : World) (hss : ss.length = n) (h32 : All32 ss) (hs : SlIs w [] (.slice a n c) 32 n (sumsC ss)) (hb : n ≤ 1000000) (hat : at0 = 0) (hat2 : at0 ≤ 1000000) :
    Calls Tryz.prog 103 [.slice a n c, vI (at0 : Int)].toArray w (Ret w (.tuple #[.slice none 0 0, vI 1])) := by
  have hm := Mem.init w
  refine calls_enter (n := 17) Tryz.func103 rfl rfl rfl ?_
  refine wp_sr (E := noPanic) noPanic_imp ?_
  refine rl_val rfl (v := (.slice none 0 0)) (val_assign (v := (.slice none 0 0)) rfl) ?_
  refine rl_val rfl (v := (vI 0)) (val_assign (v := (vI 0)) rfl) ?_
  refine rl_nil ?_
  refine WP.seq ?_
  refine wp_sr (E := noPanic) noPanic_imp ?_
  refine rl_val rfl (v := (vI (at0 : Int))) (val_move (v := (vI (at0 : Int))) rfl) ?_
  refine rl_val rfl (v := (.bool true)) (val_cast (val_lt (p := (at0 : Int)) (q := 1) rfl rfl) (by rw [decide_eq_true (by omega)])) ?_
  refine rl_val rfl (v := (.bool true)) (val_move (v := (.bool true)) rfl) ?_
  refine rl_off ⟨8, true, rfl, .inl ⟨rfl, rfl⟩⟩ rfl ?_
  refine rl_off ⟨8, true, rfl, .inl ⟨rfl, rfl⟩⟩ rfl ?_
  refine rl_off ⟨8, true, rfl, .inl ⟨rfl, rfl⟩⟩ rfl ?_
  refine rl_off ⟨8, true, rfl, .inl ⟨rfl, rfl⟩⟩ rfl ?_
  refine rl_val rfl (v := (.bool true)) (val_pick_t (v := .bool true) rfl rfl) ?_
  refine rl_nil ?_
  refine WP.cond_t rfl ?_
  refine wp_sr (E := noPanic) noPanic_imp ?_
  refine rl_val rfl (v := (.slice none 0 0)) (val_assign (v := (.slice none 0 0)) rfl) ?_
  refine rl_val rfl (v := (vI 1)) (val_assign (v := (vI 1)) rfl) ?_
  refine rl_nil ?_
  refine WP.ret ?_
  repeat (first | with_reducible refine ret_pass ?_ | with_reducible refine ret_blk ?_ | with_reducible refine scope_ret ?_)
  exact post_rets rfl (vs := [.slice none 0 0, vI 1]) ⟨rfl, rfl, trivial⟩ rfl ⟨rfl, hm⟩
theorem rcpath_t (bs : List Bytes) (vs : List Value) (a : Option Addr) (c : Nat) (w : World) (hs : SlIs w [] (.slice a bs.length c) 1 bs.length vs) (hok : SlsOk w vs bs) (hbl : ∀ b ∈ bs, b.length ≤ 100000) (hn : bs.length ≤ 1000) (at0 k : Nat) (hnc : bs.length ≤ c) (hat : k ≤ bs.length ∧ at0 < k) :
    Calls Tryz.prog 20 [.slice a bs.length c, vU (at0 : Int), vU (k : Int)].toArray w (fun e w' => ∃ v r, e = .returned (.tuple #[v, vI 0]) ∧ VecIs v (pathT ((bs.take k).map leafP) at0).length 32 50 (sumsC (pathT ((bs.take k).map leafP) at0).reverse) r ∧ Mem w [] r w') := by
  have hm := Mem.init w
  refine calls_enter (n := 30) Tryz.func20 rfl rfl rfl ?_
  refine wp_sr (E := noPanic) noPanic_imp ?_
  refine rl_val rfl (v := (.slice none 0 0)) (val_assign (v := (.slice none 0 0)) rfl) ?_
  refine rl_val rfl (v := (vI 0)) (val_assign (v := (vI 0)) rfl) ?_
  refine rl_nil ?_
  refine wp_sr (E := noPanic) noPanic_imp ?_
  refine rl_val rfl (v := (.slice a bs.length c)) (val_move (v := (.slice a bs.length c)) rfl) ?_
  refine rl_val rfl (v := (vU (k : Int))) (val_move (v := (vU (k : Int))) rfl) ?_
  refine rl_call rfl (ent_static (args := [(.slice a bs.length c), (vU (k : Int))]) Tryz.func100 rfl rfl rfl rfl) (rfirstt_ok a bs.length c k _ hnc (by omega) (by omega)) ?_
  rintro _ w1 ⟨rfl, h2⟩
  refine callQ_ret ?_
  replace hm : Mem w [] [] w1 := hm.call h2
  refine rl_val rfl (v := (.tuple #[(.slice a k c), (.bool true)])) (val_move (v := (.tuple #[(.slice a k c), (.bool true)])) rfl) ?_
  refine rl_val rfl (v := (.slice a k c)) (val_extract (v := (.slice a k c)) rfl rfl) ?_
  refine rl_val rfl (v := (.bool true)) (val_extract (v := (.bool true)) rfl rfl) ?_
  refine rl_val rfl (v := (.slice a k c)) (val_assign (v := (.slice a k c)) rfl) ?_
  refine rl_val rfl (v := (.bool true)) (val_assign (v := (.bool true)) rfl) ?_
  refine rl_nil ?_
  refine WP.seq ?_
  refine wp_sr (E := noPanic) noPanic_imp ?_
  refine rl_val rfl (v := (.bool true)) (val_move (v := (.bool true)) rfl) ?_
  refine rl_val rfl (v := (.bool false)) (val_not (b := true) rfl) ?_
  refine rl_val rfl (v := (.bool false)) (val_move (v := (.bool false)) rfl) ?_
  refine rl_valg ⟨18, false, rfl, .inl ⟨rfl, rfl⟩⟩ rfl (v := (vU (at0 : Int))) (val_move (v := (vU (at0 : Int))) rfl) ?_
  refine rl_valg ⟨18, false, rfl, .inl ⟨rfl, rfl⟩⟩ rfl (v := (vU (k : Int))) (val_move (v := (vU (k : Int))) rfl) ?_
  refine rl_valg ⟨18, false, rfl, .inl ⟨rfl, rfl⟩⟩ rfl (v := (.bool false)) (val_cast (val_ge (p := (at0 : Int)) (q := (k : Int)) rfl rfl) (by rw [decide_eq_false (by omega)])) ?_
  refine rl_val rfl (v := (.bool false)) (val_pick_f (v := .bool false) rfl rfl) ?_
  refine rl_nil ?_
  refine WP.cond_f rfl ?_
  refine WP.skip ?_
  refine wp_sr (E := noPanic) noPanic_imp ?_
  refine rl_val rfl (v := (.slice a ((bs.take k).length) c)) (val_cast (v' := .slice a (bs.take k).length c) (val_move (v := .slice a k c) rfl) (by congr 1; simp; omega)) ?_
  have htl : (bs.take k).length = k := by simp; omega
  have hst : SlIs w [] (.slice a k c) 1 k (vs.take k) := by have := hs.takeHi (k := k) (by omega); rwa [Nat.mul_one] at this
  refine rl_call rfl (ent_static (args := [(.slice a ((bs.take k).length) c)]) Tryz.func102 rfl rfl rfl rfl) (rsums_ok (bs.take k) (vs.take k) a c _ (by rw [htl]; exact hst.mem (own2 := []) hm (by simp)) (hok.take.mem hm) (fun b hb => hbl b (List.mem_of_mem_take hb)) (by omega)) ?_
  rintro _ w3 ⟨vv5, r6, rfl, hv7, h4⟩
  refine callQ_ret ?_
  replace hm := (hm.call h4).comm
  replace hm : Mem w [] ([] ++ (r6 ++ [])) w3 := by simpa only [List.append_assoc, List.nil_append, List.append_nil, List.cons_append] using hm
  refine rl_val rfl (v := (vU (at0 : Int))) (val_move (v := (vU (at0 : Int))) rfl) ?_
  refine rl_val rfl (v := (vI (at0 : Int))) (val_cast (val_conv ut_44 ui_3 rfl) (by rw [wrapI (by omega) (by omega)])) ?_
  obtain ⟨ap, cp, rfl, hcp, _⟩ := hv7.form
  refine rl_call rfl (ent_static (args := [.slice ap (bs.take k).length cp, (vI (at0 : Int))]) Tryz.func101 rfl rfl rfl rfl) (rpathof_t ((bs.take k).map leafP) _ _ (bs.take k).length at0 _ (by simp) (leaves_32 _) (hv7.sl (own2 := []) hm (by intro p hp; exact ⟨by simp [hp], by simp⟩)) (by omega) (by omega) (by omega)) ?_
  rintro _ w8 ⟨vq, rq, rfl, hvq, hmq⟩
  refine callQ_ret ?_
  replace hm := (hm.call hmq).comm
  replace hm : Mem w [] ([] ++ (r6 ++ (rq ++ []))) w8 := by simpa only [List.append_assoc, List.nil_append, List.append_nil, List.cons_append] using hm
  refine rl_val rfl (v := vq) (val_extract (v := vq) rfl rfl) ?_
  refine rl_val rfl (v := (vI 0)) (val_extract (v := (vI 0)) rfl rfl) ?_
  refine rl_val rfl (v := vq) (val_assign (v := vq) rfl) ?_
  refine rl_val rfl (v := (vI 0)) (val_assign (v := (vI 0)) rfl) ?_
  refine rl_nil ?_
  refine WP.ret ?_
  repeat (first | with_reducible refine ret_pass ?_ | with_reducible refine ret_blk ?_ | with_reducible refine scope_ret ?_)
  exact post_rets rfl (vs := [vq, vI 0]) ⟨rfl, rfl, trivial⟩ rfl ⟨_, _, rfl, hvq, hm.sub (l2 := rq) (by ((try (simp only [List.append_assoc, List.nil_append, List.append_nil, List.cons_append])); repeat (first | exact List.nil_sublist _ | exact List.Sublist.refl _ | with_reducible refine List.Sublist.cons_cons _ ?_ | with_reducible refine List.Sublist.append (List.Sublist.refl _) ?_ | with_reducible exact List.sublist_append_left _ _ | refine List.Sublist.cons _ ?_ | refine List.Sublist.trans ?_ (List.sublist_append_right _ _))))⟩
theorem rcpath_b (bs : List Bytes) (vs : List Value) (a : Option Addr) (c : Nat) (w : World) (hs : SlIs w [] (.slice a bs.length c) 1 bs.length vs) (hok : SlsOk w vs bs) (hbl : ∀ b ∈ bs, b.length ≤ 100000) (hn : bs.length ≤ 1000) (at0 k : Nat) (hnc : bs.length ≤ c) (hat : bs.length < k) :
    Calls Tryz.prog 20 [.slice a bs.length c, vU (at0 : Int), vU (k : Int)].toArray w (Ret w (.tuple #[.slice none 0 0, vI 1])) := by
  have hm := Mem.init w
  refine calls_enter (n := 30) Tryz.func20 rfl rfl rfl ?_
  refine wp_sr (E := noPanic) noPanic_imp ?_
  refine rl_val rfl (v := (.slice none 0 0)) (val_assign (v := (.slice none 0 0)) rfl) ?_
  refine rl_val rfl (v := (vI 0)) (val_assign (v := (vI 0)) rfl) ?_
  refine rl_nil ?_
  refine wp_sr (E := noPanic) noPanic_imp ?_
  refine rl_val rfl (v := (.slice a bs.length c)) (val_move (v := (.slice a bs.length c)) rfl) ?_
  refine rl_val rfl (v := (vU (k : Int))) (val_move (v := (vU (k : Int))) rfl) ?_
  refine rl_call rfl (ent_static (args := [(.slice a bs.length c), (vU (k : Int))]) Tryz.func100 rfl rfl rfl rfl) (rfirstf_ok a bs.length c k _ hnc (by omega) (by omega)) ?_
  rintro _ w1 ⟨rfl, h2⟩
  refine callQ_ret ?_
  replace hm : Mem w [] [] w1 := hm.call h2
  refine rl_val rfl (v := (.tuple #[(.slice none 0 0), (.bool false)])) (val_move (v := (.tuple #[(.slice none 0 0), (.bool false)])) rfl) ?_
  refine rl_val rfl (v := (.slice none 0 0)) (val_extract (v := (.slice none 0 0)) rfl rfl) ?_
  refine rl_val rfl (v := (.bool false)) (val_extract (v := (.bool false)) rfl rfl) ?_
  refine rl_val rfl (v := (.slice none 0 0)) (val_assign (v := (.slice none 0 0)) rfl) ?_
  refine rl_val rfl (v := (.bool false)) (val_assign (v := (.bool false)) rfl) ?_
  refine rl_nil ?_
  refine WP.seq ?_
  refine wp_sr (E := noPanic) noPanic_imp ?_
  refine rl_val rfl (v := (.bool false)) (val_move (v := (.bool false)) rfl) ?_
  refine rl_val rfl (v := (.bool true)) (val_not (b := false) rfl) ?_
  refine rl_val rfl (v := (.bool true)) (val_move (v := (.bool true)) rfl) ?_
  refine rl_off ⟨18, true, rfl, .inl ⟨rfl, rfl⟩⟩ rfl ?_
  refine rl_off ⟨18, true, rfl, .inl ⟨rfl, rfl⟩⟩ rfl ?_
  refine rl_off ⟨18, true, rfl, .inl ⟨rfl, rfl⟩⟩ rfl ?_
  refine rl_val rfl (v := (.bool true)) (val_pick_t (v := .bool true) rfl rfl) ?_
  refine rl_nil ?_
  refine WP.cond_t rfl ?_
  refine wp_sr (E := noPanic) noPanic_imp ?_
  refine rl_val rfl (v := (.slice none 0 0)) (val_assign (v := (.slice none 0 0)) rfl) ?_
  refine rl_val rfl (v := (vI 1)) (val_assign (v := (vI 1)) rfl) ?_
  refine rl_nil ?_
  refine WP.ret ?_
  repeat (first | with_reducible refine ret_pass ?_ | with_reducible refine ret_blk ?_ | with_reducible refine scope_ret ?_)
  exact post_rets rfl (vs := [.slice none 0 0, vI 1]) ⟨rfl, rfl, trivial⟩ rfl ⟨rfl, hm.nil⟩
theorem rcpath_f (bs : List Bytes) (vs : List Value) (a : Option Addr) (c : Nat) (w : World) (hs : SlIs w [] (.slice a bs.length c) 1 bs.length vs) (hok : SlsOk w vs bs) (hbl : ∀ b ∈ bs, b.length ≤ 100000) (hn : bs.length ≤ 1000) (at0 k : Nat) (hnc : bs.length ≤ c) (hat : k ≤ bs.length ∧ k ≤ at0) :
    Calls Tryz.prog 20 [.slice a bs.length c, vU (at0 : Int), vU (k : Int)].toArray w (Ret w (.tuple #[.slice none 0 0, vI 1])) := by
  have hm := Mem.init w
  refine calls_enter (n := 30) Tryz.func20 rfl rfl rfl ?_
  refine wp_sr (E := noPanic) noPanic_imp ?_
  refine rl_val rfl (v := (.slice none 0 0)) (val_assign (v := (.slice none 0 0)) rfl) ?_
  refine rl_val rfl (v := (vI 0)) (val_assign (v := (vI 0)) rfl) ?_
  refine rl_nil ?_
  refine wp_sr (E := noPanic) noPanic_imp ?_
  refine rl_val rfl (v := (.slice a bs.length c)) (val_move (v := (.slice a bs.length c)) rfl) ?_
  refine rl_val rfl (v := (vU (k : Int))) (val_move (v := (vU (k : Int))) rfl) ?_
  refine rl_call rfl (ent_static (args := [(.slice a bs.length c), (vU (k : Int))]) Tryz.func100 rfl rfl rfl rfl) (rfirstt_ok a bs.length c k _ hnc (by omega) (by omega)) ?_
  rintro _ w1 ⟨rfl, h2⟩
  refine callQ_ret ?_
  replace hm : Mem w [] [] w1 := hm.call h2
  refine rl_val rfl (v := (.tuple #[(.slice a k c), (.bool true)])) (val_move (v := (.tuple #[(.slice a k c), (.bool true)])) rfl) ?_
  refine rl_val rfl (v := (.slice a k c)) (val_extract (v := (.slice a k c)) rfl rfl) ?_
  refine rl_val rfl (v := (.bool true)) (val_extract (v := (.bool true)) rfl rfl) ?_
  refine rl_val rfl (v := (.slice a k c)) (val_assign (v := (.slice a k c)) rfl) ?_
  refine rl_val rfl (v := (.bool true)) (val_assign (v := (.bool true)) rfl) ?_
  refine rl_nil ?_
  refine WP.seq ?_
  refine wp_sr (E := noPanic) noPanic_imp ?_
  refine rl_val rfl (v := (.bool true)) (val_move (v := (.bool true)) rfl) ?_
  refine rl_val rfl (v := (.bool false)) (val_not (b := true) rfl) ?_
  refine rl_val rfl (v := (.bool false)) (val_move (v := (.bool false)) rfl) ?_
  refine rl_valg ⟨18, false, rfl, .inl ⟨rfl, rfl⟩⟩ rfl (v := (vU (at0 : Int))) (val_move (v := (vU (at0 : Int))) rfl) ?_
  refine rl_valg ⟨18, false, rfl, .inl ⟨rfl, rfl⟩⟩ rfl (v := (vU (k : Int))) (val_move (v := (vU (k : Int))) rfl) ?_
  refine rl_valg ⟨18, false, rfl, .inl ⟨rfl, rfl⟩⟩ rfl (v := (.bool true)) (val_cast (val_ge (p := (at0 : Int)) (q := (k : Int)) rfl rfl) (by rw [decide_eq_true (by omega)])) ?_
  refine rl_val rfl (v := (.bool true)) (val_pick_f (v := .bool true) rfl rfl) ?_
  refine rl_nil ?_
  refine WP.cond_t rfl ?_
  refine wp_sr (E := noPanic) noPanic_imp ?_
  refine rl_val rfl (v := (.slice none 0 0)) (val_assign (v := (.slice none 0 0)) rfl) ?_
  refine rl_val rfl (v := (vI 1)) (val_assign (v := (vI 1)) rfl) ?_
  refine rl_nil ?_
  refine WP.ret ?_
  repeat (first | with_reducible refine ret_pass ?_ | with_reducible refine ret_blk ?_ | with_reducible refine scope_ret ?_)
  exact post_rets rfl (vs := [.slice none 0 0, vI 1]) ⟨rfl, rfl, trivial⟩ rfl ⟨rfl, hm.nil⟩
theorem rclink_t (bs : List Bytes) (vs : List Value) (a : Option Addr) (c : Nat) (w : World) (hs : SlIs w [] (.slice a bs.length c) 1 bs.length vs) (hok : SlsOk w vs bs) (hbl : ∀ b ∈ bs, b.length ≤ 100000) (hn : bs.length ≤ 1000) (at0 k : Nat) (hnc : bs.length ≤ c) (hat : k ≤ bs.length ∧ 1 ≤ at0 ∧ at0 ≤ k) :
    Calls Tryz.prog 21 [.slice a bs.length c, vU (at0 : Int), vU (k : Int)].toArray w (fun e w' => ∃ v r, e = .returned (.tuple #[v, vI 0]) ∧ VecIs v (linkT ((bs.take k).map leafP) at0 true).length 32 50 (sumsC (linkT ((bs.take k).map leafP) at0 true).reverse) r ∧ Mem w [] r w') := by
  have hm := Mem.init w
  refine calls_enter (n := 30) Tryz.func21 rfl rfl rfl ?_
  refine wp_sr (E := noPanic) noPanic_imp ?_
  refine rl_val rfl (v := (.slice none 0 0)) (val_assign (v := (.slice none 0 0)) rfl) ?_
  refine rl_val rfl (v := (vI 0)) (val_assign (v := (vI 0)) rfl) ?_
  refine rl_nil ?_
  refine wp_sr (E := noPanic) noPanic_imp ?_
  refine rl_val rfl (v := (.slice a bs.length c)) (val_move (v := (.slice a bs.length c)) rfl) ?_
  refine rl_val rfl (v := (vU (k : Int))) (val_move (v := (vU (k : Int))) rfl) ?_
  refine rl_call rfl (ent_static (args := [(.slice a bs.length c), (vU (k : Int))]) Tryz.func100 rfl rfl rfl rfl) (rfirstt_ok a bs.length c k _ hnc (by omega) (by omega)) ?_
  rintro _ w1 ⟨rfl, h2⟩
  refine callQ_ret ?_
  replace hm : Mem w [] [] w1 := hm.call h2
  refine rl_val rfl (v := (.tuple #[(.slice a k c), (.bool true)])) (val_move (v := (.tuple #[(.slice a k c), (.bool true)])) rfl) ?_
  refine rl_val rfl (v := (.slice a k c)) (val_extract (v := (.slice a k c)) rfl rfl) ?_
  refine rl_val rfl (v := (.bool true)) (val_extract (v := (.bool true)) rfl rfl) ?_
  refine rl_val rfl (v := (.slice a k c)) (val_assign (v := (.slice a k c)) rfl) ?_
  refine rl_val rfl (v := (.bool true)) (val_assign (v := (.bool true)) rfl) ?_
  refine rl_nil ?_
  refine WP.seq ?_
  refine wp_sr (E := noPanic) noPanic_imp ?_
  refine rl_val rfl (v := (.bool true)) (val_move (v := (.bool true)) rfl) ?_
  refine rl_val rfl (v := (.bool false)) (val_not (b := true) rfl) ?_
  refine rl_val rfl (v := (.bool false)) (val_move (v := (.bool false)) rfl) ?_
  refine rl_valg ⟨18, false, rfl, .inl ⟨rfl, rfl⟩⟩ rfl (v := (vU (at0 : Int))) (val_move (v := (vU (at0 : Int))) rfl) ?_
  refine rl_valg ⟨18, false, rfl, .inl ⟨rfl, rfl⟩⟩ rfl (v := (vU (k : Int))) (val_move (v := (vU (k : Int))) rfl) ?_
  refine rl_valg ⟨18, false, rfl, .inl ⟨rfl, rfl⟩⟩ rfl (v := (.bool false)) (val_cast (val_gt (p := (at0 : Int)) (q := (k : Int)) rfl rfl) (by rw [decide_eq_false (by omega)])) ?_
  refine rl_val rfl (v := (.bool false)) (val_pick_f (v := .bool false) rfl rfl) ?_
  refine rl_nil ?_
  refine WP.cond_f rfl ?_
  refine WP.skip ?_
  refine wp_sr (E := noPanic) noPanic_imp ?_
  refine rl_val rfl (v := (.slice a ((bs.take k).length) c)) (val_cast (v' := .slice a (bs.take k).length c) (val_move (v := .slice a k c) rfl) (by congr 1; simp; omega)) ?_
  have htl : (bs.take k).length = k := by simp; omega
  have hst : SlIs w [] (.slice a k c) 1 k (vs.take k) := by have := hs.takeHi (k := k) (by omega); rwa [Nat.mul_one] at this
  refine rl_call rfl (ent_static (args := [(.slice a ((bs.take k).length) c)]) Tryz.func102 rfl rfl rfl rfl) (rsums_ok (bs.take k) (vs.take k) a c _ (by rw [htl]; exact hst.mem (own2 := []) hm (by simp)) (hok.take.mem hm) (fun b hb => hbl b (List.mem_of_mem_take hb)) (by omega)) ?_
  rintro _ w3 ⟨vv5, r6, rfl, hv7, h4⟩
  refine callQ_ret ?_
  replace hm := (hm.call h4).comm
  replace hm : Mem w [] ([] ++ (r6 ++ [])) w3 := by simpa only [List.append_assoc, List.nil_append, List.append_nil, List.cons_append] using hm
  refine rl_val rfl (v := (vU (at0 : Int))) (val_move (v := (vU (at0 : Int))) rfl) ?_
  refine rl_val rfl (v := (vI (at0 : Int))) (val_cast (val_conv ut_44 ui_3 rfl) (by rw [wrapI (by omega) (by omega)])) ?_
  obtain ⟨ap, cp, rfl, hcp, _⟩ := hv7.form
  refine rl_call rfl (ent_static (args := [.slice ap (bs.take k).length cp, (vI (at0 : Int))]) Tryz.func103 rfl rfl rfl rfl) (rlinkof_t ((bs.take k).map leafP) _ _ (bs.take k).length at0 _ (by simp) (leaves_32 _) (hv7.sl (own2 := []) hm (by intro p hp; exact ⟨by simp [hp], by simp⟩)) (by omega) (by omega) (by omega)) ?_
  rintro _ w8 ⟨vq, rq, rfl, hvq, hmq⟩
  refine callQ_ret ?_
  replace hm := (hm.call hmq).comm
  replace hm : Mem w [] ([] ++ (r6 ++ (rq ++ []))) w8 := by simpa only [List.append_assoc, List.nil_append, List.append_nil, List.cons_append] using hm
  refine rl_val rfl (v := vq) (val_extract (v := vq) rfl rfl) ?_
  refine rl_val rfl (v := (vI 0)) (val_extract (v := (vI 0)) rfl rfl) ?_
  refine rl_val rfl (v := vq) (val_assign (v := vq) rfl) ?_
  refine rl_val rfl (v := (vI 0)) (val_assign (v := (vI 0)) rfl) ?_
  refine rl_nil ?_
  refine WP.ret ?_
  repeat (first | with_reducible refine ret_pass ?_ | with_reducible refine ret_blk ?_ | with_reducible refine scope_ret ?_)
  exact post_rets rfl (vs := [vq, vI 0]) ⟨rfl, rfl, trivial⟩ rfl ⟨_, _, rfl, hvq, hm.sub (l2 := rq) (by ((try (simp only [List.append_assoc, List.nil_append, List.append_nil, List.cons_append])); repeat (first | exact List.nil_sublist _ | exact List.Sublist.refl _ | with_reducible refine List.Sublist.cons_cons _ ?_ | with_reducible refine List.Sublist.append (List.Sublist.refl _) ?_ | with_reducible exact List.sublist_append_left _ _ | refine List.Sublist.cons _ ?_ | refine List.Sublist.trans ?_ (List.sublist_append_right _ _))))⟩
theorem rclink_b (bs : List Bytes) (vs : List Value) (a : Option Addr) (c : Nat) (w : World) (hs : SlIs w [] (.slice a bs.length c) 1 bs.length vs) (hok : SlsOk w vs bs) (hbl : ∀ b ∈ bs, b.length ≤ 100000) (hn : bs.length ≤ 1000) (at0 k : Nat) (hnc : bs.length ≤ c) (hat : bs.length < k) :
    Calls Tryz.prog 21 [.slice a bs.length c, vU (at0 : Int), vU (k : Int)].toArray w (Ret w (.tuple #[.slice none 0 0, vI 1])) := by
  have hm := Mem.init w
  refine calls_enter (n := 30) Tryz.func21 rfl rfl rfl ?_
  refine wp_sr (E := noPanic) noPanic_imp ?_
  refine rl_val rfl (v := (.slice none 0 0)) (val_assign (v := (.slice none 0 0)) rfl) ?_
  refine rl_val rfl (v := (vI 0)) (val_assign (v := (vI 0)) rfl) ?_
  refine rl_nil ?_
  refine wp_sr (E := noPanic) noPanic_imp ?_
  refine rl_val rfl (v := (.slice a bs.length c)) (val_move (v := (.slice a bs.length c)) rfl) ?_
  refine rl_val rfl (v := (vU (k : Int))) (val_move (v := (vU (k : Int))) rfl) ?_
  refine rl_call rfl (ent_static (args := [(.slice a bs.length c), (vU (k : Int))]) Tryz.func100 rfl rfl rfl rfl) (rfirstf_ok a bs.length c k _ hnc (by omega) (by omega)) ?_
  rintro _ w1 ⟨rfl, h2⟩
  refine callQ_ret ?_
  replace hm : Mem w [] [] w1 := hm.call h2
  refine rl_val rfl (v := (.tuple #[(.slice none 0 0), (.bool false)])) (val_move (v := (.tuple #[(.slice none 0 0), (.bool false)])) rfl) ?_
  refine rl_val rfl (v := (.slice none 0 0)) (val_extract (v := (.slice none 0 0)) rfl rfl) ?_
  refine rl_val rfl (v := (.bool false)) (val_extract (v := (.bool false)) rfl rfl) ?_
  refine rl_val rfl (v := (.slice none 0 0)) (val_assign (v := (.slice none 0 0)) rfl) ?_
  refine rl_val rfl (v := (.bool false)) (val_assign (v := (.bool false)) rfl) ?_
  refine rl_nil ?_
  refine WP.seq ?_
  refine wp_sr (E := noPanic) noPanic_imp ?_
  refine rl_val rfl (v := (.bool false)) (val_move (v := (.bool false)) rfl) ?_
  refine rl_val rfl (v := (.bool true)) (val_not (b := false) rfl) ?_
  refine rl_val rfl (v := (.bool true)) (val_move (v := (.bool true)) rfl) ?_
  refine rl_off ⟨18, true, rfl, .inl ⟨rfl, rfl⟩⟩ rfl ?_
  refine rl_off ⟨18, true, rfl, .inl ⟨rfl, rfl⟩⟩ rfl ?_
  refine rl_off ⟨18, true, rfl, .inl ⟨rfl, rfl⟩⟩ rfl ?_
  refine rl_val rfl (v := (.bool true)) (val_pick_t (v := .bool true) rfl rfl) ?_
  refine rl_nil ?_
  refine WP.cond_t rfl ?_
  refine wp_sr (E := noPanic) noPanic_imp ?_
  refine rl_val rfl (v := (.slice none 0 0)) (val_assign (v := (.slice none 0 0)) rfl) ?_
  refine rl_val rfl (v := (vI 1)) (val_assign (v := (vI 1)) rfl) ?_
  refine rl_nil ?_
  refine WP.ret ?_
  repeat (first | with_reducible refine ret_pass ?_ | with_reducible refine ret_blk ?_ | with_reducible refine scope_ret ?_)
  exact post_rets rfl (vs := [.slice none 0 0, vI 1]) ⟨rfl, rfl, trivial⟩ rfl ⟨rfl, hm.nil⟩
theorem rclink_f (bs : List Bytes) (vs : List Value) (a : Option Addr) (c : Nat) (w : World) (hs : SlIs w [] (.slice a bs.length c) 1 bs.length vs) (hok : SlsOk w vs bs) (hbl : ∀ b ∈ bs, b.length ≤ 100000) (hn : bs.length ≤ 1000) (at0 k : Nat) (hnc : bs.length ≤ c) (hat : k ≤ bs.length ∧ k < at0) :
    Calls Tryz.prog 21 [.slice a bs.length c, vU (at0 : Int), vU (k : Int)].toArray w (Ret w (.tuple #[.slice none 0 0, vI 1])) := by
  have hm := Mem.init w
  refine calls_enter (n := 30) Tryz.func21 rfl rfl rfl ?_
  refine wp_sr (E := noPanic) noPanic_imp ?_
  refine rl_val rfl (v := (.slice none 0 0)) (val_assign (v := (.slice none 0 0)) rfl) ?_
  refine rl_val rfl (v := (vI 0)) (val_assign (v := (vI 0)) rfl) ?_
  refine rl_nil ?_
  refine wp_sr (E := noPanic) noPanic_imp ?_
  refine rl_val rfl (v := (.slice a bs.length c)) (val_move (v := (.slice a bs.length c)) rfl) ?_
  refine rl_val rfl (v := (vU (k : Int))) (val_move (v := (vU (k : Int))) rfl) ?_
  refine rl_call rfl (ent_static (args := [(.slice a bs.length c), (vU (k : Int))]) Tryz.func100 rfl rfl rfl rfl) (rfirstt_ok a bs.length c k _ hnc (by omega) (by omega)) ?_
  rintro _ w1 ⟨rfl, h2⟩
  refine callQ_ret ?_
  replace hm : Mem w [] [] w1 := hm.call h2
  refine rl_val rfl (v := (.tuple #[(.slice a k c), (.bool true)])) (val_move (v := (.tuple #[(.slice a k c), (.bool true)])) rfl) ?_
  refine rl_val rfl (v := (.slice a k c)) (val_extract (v := (.slice a k c)) rfl rfl) ?_
  refine rl_val rfl (v := (.bool true)) (val_extract (v := (.bool true)) rfl rfl) ?_
  refine rl_val rfl (v := (.slice a k c)) (val_assign (v := (.slice a k c)) rfl) ?_
  refine rl_val rfl (v := (.bool true)) (val_assign (v := (.bool true)) rfl) ?_
  refine rl_nil ?_
  refine WP.seq ?_
  refine wp_sr (E := noPanic) noPanic_imp ?_
  refine rl_val rfl (v := (.bool true)) (val_move (v := (.bool true)) rfl) ?_
  refine rl_val rfl (v := (.bool false)) (val_not (b := true) rfl) ?_
  refine rl_val rfl (v := (.bool false)) (val_move (v := (.bool false)) rfl) ?_
  refine rl_valg ⟨18, false, rfl, .inl ⟨rfl, rfl⟩⟩ rfl (v := (vU (at0 : Int))) (val_move (v := (vU (at0 : Int))) rfl) ?_
  refine rl_valg ⟨18, false, rfl, .inl ⟨rfl, rfl⟩⟩ rfl (v := (vU (k : Int))) (val_move (v := (vU (k : Int))) rfl) ?_
  refine rl_valg ⟨18, false, rfl, .inl ⟨rfl, rfl⟩⟩ rfl (v := (.bool true)) (val_cast (val_gt (p := (at0 : Int)) (q := (k : Int)) rfl rfl) (by rw [decide_eq_true (by omega)])) ?_
  refine rl_val rfl (v := (.bool true)) (val_pick_f (v := .bool true) rfl rfl) ?_
  refine rl_nil ?_
  refine WP.cond_t rfl ?_
  refine wp_sr (E := noPanic) noPanic_imp ?_
  refine rl_val rfl (v := (.slice none 0 0)) (val_assign (v := (.slice none 0 0)) rfl) ?_
  refine rl_val rfl (v := (vI 1)) (val_assign (v := (vI 1)) rfl) ?_
  refine rl_nil ?_
  refine WP.ret ?_
  repeat (first | with_reducible refine ret_pass ?_ | with_reducible refine ret_blk ?_ | with_reducible refine scope_ret ?_)
  exact post_rets rfl (vs := [.slice none 0 0, vI 1]) ⟨rfl, rfl, trivial⟩ rfl ⟨rfl, hm.nil⟩
theorem rclink_z (bs : List Bytes) (vs : List Value) (a : Option Addr) (c : Nat) (w : World) (hs : SlIs w [] (.slice a bs.length c) 1 bs.length vs) (hok : SlsOk w vs bs) (hbl : ∀ b ∈ bs, b.length ≤ 100000) (hn : bs.length ≤ 1000) (at0 k : Nat) (hnc : bs.length ≤ c) (hat : k ≤ bs.length ∧ at0 = 0) :
    Calls Tryz.prog 21 [.slice a bs.length c, vU (at0 : Int), vU (k : Int)].toArray w (Ret w (.tuple #[.slice none 0 0, vI 1])) := by
  have hm := Mem.init w
  refine calls_enter (n := 30) Tryz.func21 rfl rfl rfl ?_
  refine wp_sr (E := noPanic) noPanic_imp ?_
  refine rl_val rfl (v := (.slice none 0 0)) (val_assign (v := (.slice none 0 0)) rfl) ?_
  refine rl_val rfl (v := (vI 0)) (val_assign (v := (vI 0)) rfl) ?_
  refine rl_nil ?_
  refine wp_sr (E := noPanic) noPanic_imp ?_
  refine rl_val rfl (v := (.slice a bs.length c)) (val_move (v := (.slice a bs.length c)) rfl) ?_
  refine rl_val rfl (v := (vU (k : Int))) (val_move (v := (vU (k : Int))) rfl) ?_
  refine rl_call rfl (ent_static (args := [(.slice a bs.length c), (vU (k : Int))]) Tryz.func100 rfl rfl rfl rfl) (rfirstt_ok a bs.length c k _ hnc (by omega) (by omega)) ?_
  rintro _ w1 ⟨rfl, h2⟩
  refine callQ_ret ?_
  replace hm : Mem w [] [] w1 := hm.call h2
  refine rl_val rfl (v := (.tuple #[(.slice a k c), (.bool true)])) (val_move (v := (.tuple #[(.slice a k c), (.bool true)])) rfl) ?_
  refine rl_val rfl (v := (.slice a k c)) (val_extract (v := (.slice a k c)) rfl rfl) ?_
  refine rl_val rfl (v := (.bool true)) (val_extract (v := (.bool true)) rfl rfl) ?_
  refine rl_val rfl (v := (.slice a k c)) (val_assign (v := (.slice a k c)) rfl) ?_
  refine rl_val rfl (v := (.bool true)) (val_assign (v := (.bool true)) rfl) ?_
  refine rl_nil ?_
  refine WP.seq ?_
  refine wp_sr (E := noPanic) noPanic_imp ?_
  refine rl_val rfl (v := (.bool true)) (val_move (v := (.bool true)) rfl) ?_
  refine rl_val rfl (v := (.bool false)) (val_not (b := true) rfl) ?_
  refine rl_val rfl (v := (.bool false)) (val_move (v := (.bool false)) rfl) ?_
  refine rl_valg ⟨18, false, rfl, .inl ⟨rfl, rfl⟩⟩ rfl (v := (vU (at0 : Int))) (val_move (v := (vU (at0 : Int))) rfl) ?_
  refine rl_valg ⟨18, false, rfl, .inl ⟨rfl, rfl⟩⟩ rfl (v := (vU (k : Int))) (val_move (v := (vU (k : Int))) rfl) ?_
  refine rl_valg ⟨18, false, rfl, .inl ⟨rfl, rfl⟩⟩ rfl (v := (.bool false)) (val_cast (val_gt (p := (at0 : Int)) (q := (k : Int)) rfl rfl) (by rw [decide_eq_false (by omega)])) ?_
  refine rl_val rfl (v := (.bool false)) (val_pick_f (v := .bool false) rfl rfl) ?_
  refine rl_nil ?_
  refine WP.cond_f rfl ?_
  refine WP.skip ?_
  refine wp_sr (E := noPanic) noPanic_imp ?_
  refine rl_val rfl (v := (.slice a ((bs.take k).length) c)) (val_cast (v' := .slice a (bs.take k).length c) (val_move (v := .slice a k c) rfl) (by congr 1; simp; omega)) ?_
  have htl : (bs.take k).length = k := by simp; omega
  have hst : SlIs w [] (.slice a k c) 1 k (vs.take k) := by have := hs.takeHi (k := k) (by omega); rwa [Nat.mul_one] at this
  refine rl_call rfl (ent_static (args := [(.slice a ((bs.take k).length) c)]) Tryz.func102 rfl rfl rfl rfl) (rsums_ok (bs.take k) (vs.take k) a c _ (by rw [htl]; exact hst.mem (own2 := []) hm (by simp)) (hok.take.mem hm) (fun b hb => hbl b (List.mem_of_mem_take hb)) (by omega)) ?_
  rintro _ w3 ⟨vv5, r6, rfl, hv7, h4⟩
  refine callQ_ret ?_
  replace hm := (hm.call h4).comm
  replace hm : Mem w [] ([] ++ (r6 ++ [])) w3 := by simpa only [List.append_assoc, List.nil_append, List.append_nil, List.cons_append] using hm
  refine rl_val rfl (v := (vU (at0 : Int))) (val_move (v := (vU (at0 : Int))) rfl) ?_
  refine rl_val rfl (v := (vI (at0 : Int))) (val_cast (val_conv ut_44 ui_3 rfl) (by rw [wrapI (by omega) (by omega)])) ?_
  obtain ⟨ap, cp, rfl, hcp, _⟩ := hv7.form
  refine rl_call rfl (ent_static (args := [.slice ap (bs.take k).length cp, (vI (at0 : Int))]) Tryz.func103 rfl rfl rfl rfl) (rlinkof_z ((bs.take k).map leafP) _ _ (bs.take k).length at0 _ (by simp) (leaves_32 _) (hv7.sl (own2 := []) hm (by intro p hp; exact ⟨by simp [hp], by simp⟩)) (by omega) (by omega) (by omega)) ?_
  rintro _ w10 ⟨rfl, h11⟩
  refine callQ_ret ?_
  replace hm : Mem w [] ([] ++ (r6 ++ [])) w10 := hm.call h11
  refine rl_val rfl (v := (.slice none 0 0)) (val_extract (v := (.slice none 0 0)) rfl rfl) ?_
  refine rl_val rfl (v := (vI 1)) (val_extract (v := (vI 1)) rfl rfl) ?_
  refine rl_val rfl (v := (.slice none 0 0)) (val_assign (v := (.slice none 0 0)) rfl) ?_
  refine rl_val rfl (v := (vI 1)) (val_assign (v := (vI 1)) rfl) ?_
  refine rl_nil ?_
  refine WP.ret ?_
  repeat (first | with_reducible refine ret_pass ?_ | with_reducible refine ret_blk ?_ | with_reducible refine scope_ret ?_)
  exact post_rets rfl (vs := [.slice none 0 0, vI 1]) ⟨rfl, rfl, trivial⟩ rfl ⟨rfl, hm.nil⟩
theorem rcpath_ok (bs : List Bytes) (vs : List Value) (a : Option Addr) (c : Nat) (w : World) (hs : SlIs w [] (.slice a bs.length c) 1 bs.length vs) (hok : SlsOk w vs bs) (hbl : ∀ b ∈ bs, b.length ≤ 100000) (hn : bs.length ≤ 1000) (at0 k : Nat) :
    Calls Tryz.prog 20 [.slice a bs.length c, vU (at0 : Int), vU (k : Int)].toArray w (fun e w' => (k ≤ bs.length ∧ (at0 < (bs.take k).length) → ∃ v r, e = .returned (.tuple #[v, vI 0]) ∧ VecIs v (pathT ((bs.take k).map leafP) at0).length 32 50 (sumsC (pathT ((bs.take k).map leafP) at0).reverse) r ∧ Mem w [] r w') ∧ (¬ (k ≤ bs.length ∧ (at0 < (bs.take k).length)) → e = .returned (.tuple #[.slice none 0 0, vI 1]) ∧ Mem w [] [] w')) := by
  have hnc : bs.length ≤ c := by obtain ⟨a', c', he, h1, _⟩ := hs; cases he; exact h1
  by_cases hk : k ≤ bs.length ∧ (at0 < (bs.take k).length)
  · refine (rcpath_t bs vs a c w hs hok hbl hn at0 k hnc (by simp at hk; omega)).mono ?_
    intro e w' h
    exact ⟨fun _ => h, fun h2 => absurd hk h2⟩
  · have htl : k ≤ bs.length → (bs.take k).length = k := fun h => by simp; omega
    have hbad : Calls Tryz.prog 20 [.slice a bs.length c, vU (at0 : Int), vU (k : Int)].toArray w (Ret w (.tuple #[.slice none 0 0, vI 1])) := by
      by_cases h2 : bs.length < k
      exact rcpath_b bs vs a c w hs hok hbl hn at0 k hnc h2
      exact rcpath_f bs vs a c w hs hok hbl hn at0 k hnc ⟨by omega, by omega⟩
    refine hbad.mono ?_
    intro e w' h
    exact ⟨fun h2 => absurd h2 hk, fun _ => h⟩
theorem rclink_ok (bs : List Bytes) (vs : List Value) (a : Option Addr) (c : Nat) (w : World) (hs : SlIs w [] (.slice a bs.length c) 1 bs.length vs) (hok : SlsOk w vs bs) (hbl : ∀ b ∈ bs, b.length ≤ 100000) (hn : bs.length ≤ 1000) (at0 k : Nat) :
    Calls Tryz.prog 21 [.slice a bs.length c, vU (at0 : Int), vU (k : Int)].toArray w (fun e w' => (k ≤ bs.length ∧ (1 ≤ at0 ∧ at0 ≤ (bs.take k).length) → ∃ v r, e = .returned (.tuple #[v, vI 0]) ∧ VecIs v (linkT ((bs.take k).map leafP) at0 true).length 32 50 (sumsC (linkT ((bs.take k).map leafP) at0 true).reverse) r ∧ Mem w [] r w') ∧ (¬ (k ≤ bs.length ∧ (1 ≤ at0 ∧ at0 ≤ (bs.take k).length)) → e = .returned (.tuple #[.slice none 0 0, vI 1]) ∧ Mem w [] [] w')) := by
  have hnc : bs.length ≤ c := by obtain ⟨a', c', he, h1, _⟩ := hs; cases he; exact h1
  by_cases hk : k ≤ bs.length ∧ (1 ≤ at0 ∧ at0 ≤ (bs.take k).length)
  · refine (rclink_t bs vs a c w hs hok hbl hn at0 k hnc (by simp at hk; omega)).mono ?_
    intro e w' h
    exact ⟨fun _ => h, fun h2 => absurd hk h2⟩
  · have htl : k ≤ bs.length → (bs.take k).length = k := fun h => by simp; omega
    have hbad : Calls Tryz.prog 21 [.slice a bs.length c, vU (at0 : Int), vU (k : Int)].toArray w (Ret w (.tuple #[.slice none 0 0, vI 1])) := by
      by_cases h2 : bs.length < k
      exact rclink_b bs vs a c w hs hok hbl hn at0 k hnc h2
      by_cases h3 : at0 = 0
      exact rclink_z bs vs a c w hs hok hbl hn at0 k hnc ⟨by omega, h3⟩
      exact rclink_f bs vs a c w hs hok hbl hn at0 k hnc ⟨by omega, by omega⟩
    refine hbad.mono ?_
    intro e w' h
    exact ⟨fun h2 => absurd h2 hk, fun _ => h⟩
end Go.Al
namespace Go.Al
open Go Go.RowKit Go.Proofs
set_option linter.unusedVariables false
set_option linter.unusedSimpArgs false
theorem run_part8 (l : List UInt8) {i : Nat} {x : UInt8} (h : l[i]? = some x) (w : World) : (part 5 (l.map v8).toArray (i * Tryz.prog.cellsOf 5)).run Tryz.prog w = .ok (v8 x) w := by
  have hc : Tryz.prog.cellsOf 5 = 1 := by kernel_rfl
  rw [hc, Nat.mul_one]
  unfold part
  rw [run_bind' (run_isAgg ag_5 w)]
  simp [h, pure, Sem.run]
theorem run_eq8 (d : Nat) (x y : UInt8) (w : World) : (Op.equalIn (d + 1) 5 (v8 x) (v8 y)).run Tryz.prog w = .ok (decide (x = y)) w := by
  rw [Op.equalIn, run_bind' (run_under ui_5 w)]
  simp only [if_true]
  show Result.ok _ _ = _
  congr 1
  by_cases h : x = y
  · subst h; simp
  · rw [decide_eq_false h]
    have : (x.toNat : Int) ≠ (y.toNat : Int) := fun e => h (UInt8.toNat_inj.1 (by omega))
    simpa using this
theorem run_eqItems8 (d : Nat) (a b : List UInt8) (w : World) : ∀ is : List Nat, (∀ i ∈ is, i < a.length ∧ i < b.length) →
    (Op.eqItems (d + 1) 5 (Tryz.prog.cellsOf 5) (a.map v8).toArray (b.map v8).toArray is).run Tryz.prog w = .ok (is.all fun i => decide (a[i]? = b[i]?)) w := by
  intro is
  induction is with
  | nil => intro _; rfl
  | cons i is ih =>
    intro h
    obtain ⟨h1, h2⟩ := h i (by simp)
    have e1 : a[i]? = some a[i] := by simp
    have e2 : b[i]? = some b[i] := by simp
    unfold Op.eqItems
    rw [run_bind' (run_part8 a e1 w), run_bind' (run_part8 b e2 w), run_bind' (run_eq8 d a[i] b[i] w)]
    by_cases e : a[i] = b[i]
    · simp only [e, decide_true, Bool.not_true, Bool.false_eq_true, if_false]
      rw [ih (fun j hj => h j (by simp [hj]))]
      simp [e1, e2, e]
    · simp only [e, decide_false, Bool.not_false, if_true]
      simp [e1, e2, e, pure, Sem.run]
theorem run_eqSum (d : Nat) {a b : List UInt8} (ha : a.length = 32) (hb : b.length = 32) (w : World) : (Op.equalIn (d + 2) 50 (.agg (a.map v8).toArray) (.agg (b.map v8).toArray)).run Tryz.prog w = .ok (decide (a = b)) w := by
  obtain ⟨i, hi⟩ : ∃ i, Tryz.prog.info? 5 = some i := by
    cases h : Tryz.prog.info? 5 with
    | some i => exact ⟨i, rfl⟩
    | none => have := ag_5; unfold aggB at this; rw [h] at this; cases hu : Tryz.prog.underlying 5 with
      | none => rw [hu] at this; simp at this
      | some d => rw [hu] at this; cases d <;> simp at this
  rw [run_equalIn_array w (d + 1) _ _ ua_50 hi, run_eqItems8 d a b w (List.range 32) (by intro i hi; rw [List.mem_range] at hi; omega)]
  refine congrArg (fun b => Result.ok b w) ?_
  by_cases e : a = b
  · subst e; simp
  · rw [decide_eq_false e]
    rw [List.all_eq_false]
    apply Classical.byContradiction
    intro hc
    apply e
    apply List.ext_getElem?
    intro i
    by_cases hi : i < 32
    · apply Classical.byContradiction
      intro hne
      exact hc ⟨i, by simpa using hi, by simpa using hne⟩
    · rw [List.getElem?_eq_none (by omega), List.getElem?_eq_none (by omega)]
theorem guard50 : Tryz.prog.eqGuardType Tryz.prog.depth 50 = false := by kernel_rfl
section
variable {ρ : Operand → Value} {w : World} {ty : TypeId} {x y : Operand} {t' : TypeId} {a b : List UInt8}
theorem val_eqSum (ha : a.length = 32) (hb : b.length = 32) (hx : ρ x = .agg (a.map v8).toArray) (hy : ρ y = .agg (b.map v8).toArray) : Val Tryz.prog ρ w (.binOp .eql 50 x y t') ty (.bool (decide (a = b))) := by
  intro o ho ht
  simp only [execOp, ho, hx, hy]
  have h1 : (eqGuard .eql 50 x y (.agg (a.map v8).toArray) (.agg (b.map v8).toArray)).run Tryz.prog w = .ok () w := run_eqGuard_agg w _ _ _ _ _ _ guard50
  have h2 : (binOp .eql 50 (.agg (a.map v8).toArray) (.agg (b.map v8).toArray)).run Tryz.prog w = .ok (.bool (decide (a = b))) w := by
    rw [run_eql_struct, run_eqSum 9998 ha hb]; rfl
  rw [run_bind' (show (eqGuard BinOp.eql 50 x y (Value.agg (a.map v8).toArray) (Value.agg (b.map v8).toArray) >>= fun _ => binOp BinOp.eql 50 (Value.agg (a.map v8).toArray) (Value.agg (b.map v8).toArray)).run Tryz.prog w = .ok (.bool (decide (a = b))) w from by rw [run_bind' h1, h2])]
  rfl
theorem val_neSum (ha : a.length = 32) (hb : b.length = 32) (hx : ρ x = .agg (a.map v8).toArray) (hy : ρ y = .agg (b.map v8).toArray) : Val Tryz.prog ρ w (.binOp .neq 50 x y t') ty (.bool (!decide (a = b))) := by
  intro o ho ht
  simp only [execOp, ho, hx, hy]
  have h1 : (eqGuard .neq 50 x y (.agg (a.map v8).toArray) (.agg (b.map v8).toArray)).run Tryz.prog w = .ok () w := run_eqGuard_agg w _ _ _ _ _ _ guard50
  have h2 : (binOp .neq 50 (.agg (a.map v8).toArray) (.agg (b.map v8).toArray)).run Tryz.prog w = .ok (.bool (!decide (a = b))) w := by
    rw [run_neq_struct, run_eqSum 9998 ha hb]; rfl
  rw [run_bind' (show (eqGuard BinOp.neq 50 x y (Value.agg (a.map v8).toArray) (Value.agg (b.map v8).toArray) >>= fun _ => binOp BinOp.neq 50 (Value.agg (a.map v8).toArray) (Value.agg (b.map v8).toArray)).run Tryz.prog w = .ok (.bool (!decide (a = b))) w from by rw [run_bind' h1, h2])]
  rfl
end
section
variable {P : Program} {E : List PanicEntry → World → Prop} {n : Nat} {ops : Array Oper} {K : Fr → World → Prop} {τ : Fr} {w0 w : World} {own : List Nat} {l : List (Nat × Obj)}
variable {rest : List Oper} {ty : TypeId} {pos : String} {after : Array Edge} {d : Nat} {x y : Operand} {ρ : Operand → Value}
theorem eff_makeSliceC {t e : TypeId} {by_ m n : Nat} {z : Value} {x y : Operand} {k k2 : IntKind} (ht : elemZ P t = some (e, 1, by_, [z])) (hx : ρ x = .int k m) (hy : ρ y = .int k2 n) (hmn : m ≤ n) (hn : n ≤ 1099511627776) (hb : by_ ≤ 64) :
    Eff P ρ w (.makeSlice t x y) ty (.slice (some ⟨w.heap.size, 0, none⟩) m n) (w.alloc (row (List.replicate n z) e)) := by
  obtain ⟨hu, i, zv, hi, hzz, h1, rfl, h3⟩ := elemZ_spec ht
  intro o ho hty
  simp only [execOp, ho]
  refine fin_eff ?_
  unfold Instr.makeSlice
  rw [run_bind' (run_under hu w)]
  simp only [hx, hy]
  have hw : IntKind.i64.wrap (n : Int) = n := wrapI (by omega) (by omega)
  have hw2 : IntKind.i64.wrap (m : Int) = m := wrapI (by omega) (by omega)
  have e1 : (asInt (.int k m) : Sem Int).run P w = .ok (m : Int) w := rfl
  have e2 : (asInt (.int k2 n) : Sem Int).run P w = .ok (n : Int) w := rfl
  rw [run_bind' e1, run_bind' e2, run_bind' (run_info hi w)]
  have hb2 : (i.bytes : Int) * n ≤ 64 * 1099511627776 := by
    have : i.bytes * n ≤ 64 * 1099511627776 := Nat.mul_le_mul hb hn
    rw [← Int.natCast_mul]; omega
  have hb4 : (i.bytes : Int) * m ≤ 64 * 1099511627776 := by
    have : i.bytes * m ≤ 64 * 1099511627776 := Nat.mul_le_mul hb (by omega)
    rw [← Int.natCast_mul]; omega
  have hnn : ¬ ((n : Int) < 0) := by omega
  have hmm : ¬ ((m : Int) < 0) := by omega
  have hb3 : ¬ ((i.bytes : Int) * n > 2 ^ 48) := by omega
  have hb5 : ¬ ((i.bytes : Int) * m > 2 ^ 48) := by omega
  rw [hw, hw2]
  have hmn2 : ¬ ((m : Int) > n) := by omega
  have hr : (askRoom ((n : Int).toNat * i.bytes)).run P w = .ok () w := by
    unfold askRoom
    rw [if_neg (by
      have : i.bytes * n ≤ 64 * 1099511627776 := Nat.mul_le_mul hb hn
      simp only [roomBytes, Int.toNat_natCast]
      rw [Nat.mul_comm]; omega)]
    rfl
  have hcond : ∀ (A B C D E : Bool), A = false → B = false → C = false → D = false → E = false → ¬ (((A || B) || C || D || E) = true) := by intro A B C D E h1 h2 h3 h4 h5; subst h1; subst h2; subst h3; subst h4; subst h5; simp
  simp only [hnn, hmm, hb3, hb5, hmn2, decide_false, Bool.or_self, Bool.false_eq_true, if_false, pure_bind]
  rw [run_bind' hr, run_bind' (run_size' hi w)]
  simp only [h1, Int.toNat_natCast, Nat.mul_one]
  have hzv : (zeroValue e : Sem Value).run P w = .ok zv w := by simp [zeroValue, go_sem, run_info hi, hzz]
  have hzc : zv.cells = #[z] := by apply Array.toList_inj.1; rw [h3]
  by_cases h0 : n = 0
  · subst h0
    obtain rfl : m = 0 := by omega
    simp [newRow, go_sem]
  · simp only [h0, if_false]
    rw [run_bind' hzv]
    have : (Array.range n).map (fun j => zv.cells[j % zv.cells.size]!) = (List.replicate n z).toArray := by
      apply Array.ext
      · simp
      · intro j h1 h2; simp [hzc, Nat.mod_one]
    rw [this]
    simp [newRow, go_sem, row]
theorem rl_makeSliceC {t e : TypeId} {by_ m k : Nat} {z : Value} {k1 k2 : IntKind} (hd : Nat.blt d n = true) (ht : elemZ P t = some (e, 1, by_, [z])) (hx : ev τ x = .int k1 m) (hy : ev τ y = .int k2 k) (hmk : m ≤ k) (hn : k ≤ 1099511627776) (hb : by_ ≤ 64) (hm : Mem w0 own l w)
    (h : ∀ b w', Mem w0 own ((b, row (List.replicate k z) e) :: l) w' → RL P E n ops rest K (upd τ d (.slice (some ⟨b, 0, none⟩) m k)) w') : RL P E n ops (⟨some d, .makeSlice t x y, ty, pos, after, none⟩ :: rest) K τ w :=
  rl_eff hd (eff_makeSliceC ht hx hy hmk hn hb) (h _ _ (hm.alloc _))
end
end Go.Al
namespace Go.Al
open Go Go.RowKit Go.Proofs
set_option linter.unusedVariables false
set_option linter.unusedSimpArgs false
theorem part_at {xs : List Value} {ss : Sums} {off n i : Nat} {x : List UInt8} (h : (xs.drop off).take (n * 32) = sumsC ss) (h32 : All32 ss) (hx : ss[i]? = some x) (hi : i < n) : (xs.drop (off + i * 32)).take 32 = x.map v8 := by
  have h1 := sums_at (rest := []) h32 hx
  rw [List.append_nil, ← h, List.drop_take, List.drop_drop, List.take_take] at h1
  rw [← h1]
  congr 1
  omega
theorem bsize_ok (a : Option Addr) (n c : Nat) (w : World) : Calls Tryz.prog 81 [.slice a n c].toArray w (Ret w (vI (n : Int))) := by
  have hm := Mem.init w
  refine calls_enter (n := 5) Tryz.func81 rfl rfl rfl ?_
  refine wp_sr (E := noPanic) noPanic_imp ?_
  refine rl_val rfl (v := (vI 0)) (val_assign (v := (vI 0)) rfl) ?_
  refine rl_nil ?_
  refine wp_sr (E := noPanic) noPanic_imp ?_
  refine rl_val rfl (v := (.slice a n c)) (val_move (v := (.slice a n c)) rfl) ?_
  refine rl_val rfl (v := (vI (n : Nat))) (val_lenSl (t := 38) rfl us_38 rfl) ?_
  refine rl_val rfl (v := (vI (n : Nat))) (val_assign (v := (vI (n : Nat))) rfl) ?_
  refine rl_nil ?_
  exact WP.ret (post_rets rfl (vs := [vI (n : Int)]) ⟨rfl, trivial⟩ rfl ⟨rfl, hm⟩)
theorem blsize_ok (bs : List Bytes) (vs : List Value) (a : Option Addr) (c : Nat) (w : World) (hs : SlIs w [] (.slice a bs.length c) 1 bs.length vs) (hok : SlsOk w vs bs) (hbl : ∀ b ∈ bs, b.length ≤ 281474976710656) (hn : bs.length ≤ 1000) :
    Calls Tryz.prog 8 [.slice a bs.length c].toArray w (fun e w' => ∃ m : Nat, e = .returned (vI (m : Int)) ∧ (m = bs.length + bs.flatten.length ∨ 1048576 < m) ∧ Mem w [] [] w') := by
  have hm := Mem.init w
  refine calls_enter (n := 25) Tryz.func8 rfl rfl rfl ?_
  refine wp_sr (E := noPanic) noPanic_imp ?_
  refine rl_val rfl (v := (vI 0)) (val_assign (v := (vI 0)) rfl) ?_
  refine rl_nil ?_
  refine wp_sr (E := noPanic) noPanic_imp ?_
  refine rl_val rfl (v := (.slice a bs.length c)) (val_move (v := (.slice a bs.length c)) rfl) ?_
  refine rl_val rfl (v := (vI (bs.length : Nat))) (val_lenSl (t := 22) rfl us_22 rfl) ?_
  refine rl_val rfl (v := (vI (bs.length : Nat))) (val_assign (v := (vI (bs.length : Nat))) rfl) ?_
  refine rl_nil ?_
  refine WP.seq ?_
  refine wp_sr (E := noPanic) noPanic_imp ?_
  refine rl_val rfl (v := (vI 0)) (val_assign (v := (vI 0)) rfl) ?_
  refine rl_nil ?_
  refine WP.block ?_
  refine WP.loop (fun mz τ w' => ∃ (i : Nat), bs.length - i = mz ∧ i ≤ bs.length ∧ (bs.length + ((bs.take i).flatten).length) ≤ 562949953421312 ∧ Mem w [] [] w' ∧ τ 0 = (.slice a bs.length c) ∧ τ 3 = (vI (((bs.length + ((bs.take i).flatten).length) : Nat) : Int)) ∧ τ 4 = (vI (i : Int))) (bs.length) ?_ ?_
  · exact ⟨0, rfl, by omega, by simp; omega, hm, rfl, (by first | rfl | (refine int_eq ?_; simp; try omega) | (refine int_eq ?_; omega)), (by first | rfl | (refine int_eq ?_; simp; try omega) | (refine int_eq ?_; omega))⟩
  · rintro kk2 τ wl1 ⟨i, hk3, hi, hmb, hm, hs4, hs5, hs6⟩
    refine WP.seq ?_
    have hcase : (i < bs.length ∧ (bs.length + ((bs.take i).flatten).length) ≤ 1048576) ∨ i = bs.length ∨ (i < bs.length ∧ 1048576 < (bs.length + ((bs.take i).flatten).length)) := by omega
    rcases hcase with ⟨hlt, hle0⟩ | hend | ⟨hlt, hgt⟩
    ·
      refine wp_sr (E := noPanic) noPanic_imp ?_
      refine rl_val rfl (v := (vI (i : Int))) (val_move (v := (vI (i : Int))) hs6) ?_
      refine rl_val rfl (v := (.slice a bs.length c)) (val_move (v := (.slice a bs.length c)) hs4) ?_
      refine rl_val rfl (v := (vI (bs.length : Nat))) (val_lenSl (t := 22) rfl us_22 rfl) ?_
      refine rl_val rfl (v := (.bool true)) (val_cast (val_lt (p := (i : Int)) (q := (bs.length : Int)) rfl rfl) (by rw [decide_eq_true (by omega)])) ?_
      refine rl_val rfl (v := (.bool true)) (val_move (v := (.bool true)) rfl) ?_
      refine rl_valg ⟨11, true, rfl, .inl ⟨rfl, rfl⟩⟩ rfl (v := (vI (((bs.length + ((bs.take i).flatten).length) : Nat) : Int))) (val_move (v := (vI (((bs.length + ((bs.take i).flatten).length) : Nat) : Int))) hs5) ?_
      refine rl_valg ⟨11, true, rfl, .inl ⟨rfl, rfl⟩⟩ rfl (v := (.bool true)) (val_cast (val_le (p := ((bs.length + ((bs.take i).flatten).length) : Nat)) (q := 1048576) rfl rfl) (by rw [decide_eq_true (by omega)])) ?_
      refine rl_val rfl (v := (.bool true)) (val_pick_t rfl rfl) ?_
      refine rl_nil ?_
      refine WP.cond_t rfl ?_
      refine WP.skip ?_
      refine WP.seq (WP.block ?_)
      have hin : i < bs.length := by omega
      obtain ⟨b, off, xs, rfl, hbn, hr, hcs, hle, hnc⟩ := hs.pos (by omega)
      obtain ⟨l, hli⟩ : ∃ l, bs[i]? = some l := ⟨bs[i]'(by omega), by simp⟩
      obtain ⟨v, hvi⟩ : ∃ v, vs[i]? = some v := ⟨vs[i]'(by have := hs.len; omega), by simp⟩
      have hsv := hok i v l hvi hli
      obtain ⟨a1, c1, rfl, hn1⟩ := hsv.form
      have hlb := hbl l (List.mem_of_getElem? hli)
      have hsum : ((bs.take (i + 1)).flatten).length = ((bs.take i).flatten).length + l.length := by rw [List.take_add_one, hli]; simp
      refine wp_r (E := noPanic) noPanic_imp ?_
      refine rl_val rfl (v := (vI (((bs.length + ((bs.take i).flatten).length) : Nat) : Int))) (val_move (v := (vI (((bs.length + ((bs.take i).flatten).length) : Nat) : Int))) hs5) ?_
      refine rl_val rfl (v := (.slice (some ⟨b, off, none⟩) bs.length c)) (val_move (v := (.slice (some ⟨b, off, none⟩) bs.length c)) hs4) ?_
      refine rl_val rfl (v := (vI (i : Int))) (val_move (v := (vI (i : Int))) hs6) ?_
      refine rl_val rfl (v := (.pointer (some ⟨b, off + i, none⟩))) (val_cast (val_indexSl (i := (i : Int)) (sz := 1) rfl rfl es_22 (by omega)) (ptr_eq (by omega))) ?_
      refine rl_val rfl (v := (.slice a1 l.length c1)) (val_load1 (v := .slice a1 l.length c1) (off := off + i) rfl ag_38 (hm.getL hr (by simp)) (by rw [take_at hcs (by omega)]; exact hvi)) ?_
      refine rl_call rfl (ent_static (args := [(.slice a1 l.length c1)]) Tryz.func81 rfl rfl rfl rfl) (bsize_ok _ _ _ _) ?_
      rintro _ w7 ⟨rfl, h8⟩
      refine callQ_ret ?_
      replace hm : Mem w [] [] w7 := hm.call h8
      refine rl_val rfl (v := (vI ((bs.length + ((bs.take (i + 1)).flatten).length) : Nat))) (val_cast (val_addI (p := ((bs.length + ((bs.take i).flatten).length) : Nat)) (q := ((l.length : Nat) : Int)) rfl rfl (by omega)) (int_eq (by rw [hsum]; omega))) ?_
      refine rl_val rfl (v := (vI ((bs.length + ((bs.take (i + 1)).flatten).length) : Nat))) (val_assign (v := (vI ((bs.length + ((bs.take (i + 1)).flatten).length) : Nat))) rfl) ?_
      refine rl_nil ?_
      refine wp_r (E := noPanic) noPanic_imp ?_
      refine rl_val rfl (v := (vI (i : Int))) (val_move (v := (vI (i : Int))) hs6) ?_
      refine rl_val rfl (v := (vI ((i : Int) + 1))) (val_addI (p := (i : Int)) (q := 1) rfl rfl (by omega)) ?_
      refine rl_val rfl (v := (vI ((i : Int) + 1))) (val_assign (v := (vI ((i : Int) + 1))) rfl) ?_
      refine rl_nil ?_
      exact ⟨bs.length - (i + 1), by omega, ⟨i + 1, rfl, by omega, by rw [hsum]; omega, hm, hs4, (by first | rfl | (refine int_eq ?_; simp; try omega) | (refine int_eq ?_; omega)), (by first | rfl | (refine int_eq ?_; simp; try omega) | (refine int_eq ?_; omega))⟩⟩
    ·
      refine wp_sr (E := noPanic) noPanic_imp ?_
      refine rl_val rfl (v := (vI (i : Int))) (val_move (v := (vI (i : Int))) hs6) ?_
      refine rl_val rfl (v := (.slice a bs.length c)) (val_move (v := (.slice a bs.length c)) hs4) ?_
      refine rl_val rfl (v := (vI (bs.length : Nat))) (val_lenSl (t := 22) rfl us_22 rfl) ?_
      refine rl_val rfl (v := (.bool false)) (val_cast (val_lt (p := (i : Int)) (q := (bs.length : Int)) rfl rfl) (by rw [decide_eq_false (by omega)])) ?_
      refine rl_val rfl (v := (.bool false)) (val_move (v := (.bool false)) rfl) ?_
      refine rl_off ⟨11, false, rfl, .inl ⟨rfl, rfl⟩⟩ rfl ?_
      refine rl_off ⟨11, false, rfl, .inl ⟨rfl, rfl⟩⟩ rfl ?_
      refine rl_val rfl (v := (.bool false)) (val_pick_f (v := .bool false) rfl rfl) ?_
      refine rl_nil ?_
      refine WP.cond_f rfl ?_
      refine WP.exit ?_
      repeat (first | with_reducible refine exit_pass ?_ | with_reducible refine exit_other rfl ?_)
      refine blk_here ?_
      refine wp_sr (E := noPanic) noPanic_imp ?_
      refine rl_val rfl (v := (vI (((bs.length + ((bs.take i).flatten).length) : Nat) : Int))) (val_move (v := (vI (((bs.length + ((bs.take i).flatten).length) : Nat) : Int))) hs5) ?_
      refine rl_val rfl (v := (vI (((bs.length + ((bs.take i).flatten).length) : Nat) : Int))) (val_assign (v := (vI (((bs.length + ((bs.take i).flatten).length) : Nat) : Int))) rfl) ?_
      refine rl_nil ?_
      refine WP.ret ?_
      repeat (first | with_reducible refine ret_pass ?_ | with_reducible refine ret_blk ?_ | with_reducible refine scope_ret ?_)
      exact post_rets rfl (vs := [vI (((bs.length + ((bs.take i).flatten).length) : Nat) : Int)]) ⟨rfl, trivial⟩ rfl ⟨_, rfl, .inl (by rw [hend, List.take_length]), hm⟩
    ·
      refine wp_sr (E := noPanic) noPanic_imp ?_
      refine rl_val rfl (v := (vI (i : Int))) (val_move (v := (vI (i : Int))) hs6) ?_
      refine rl_val rfl (v := (.slice a bs.length c)) (val_move (v := (.slice a bs.length c)) hs4) ?_
      refine rl_val rfl (v := (vI (bs.length : Nat))) (val_lenSl (t := 22) rfl us_22 rfl) ?_
      refine rl_val rfl (v := (.bool true)) (val_cast (val_lt (p := (i : Int)) (q := (bs.length : Int)) rfl rfl) (by rw [decide_eq_true (by omega)])) ?_
      refine rl_val rfl (v := (.bool true)) (val_move (v := (.bool true)) rfl) ?_
      refine rl_valg ⟨11, true, rfl, .inl ⟨rfl, rfl⟩⟩ rfl (v := (vI (((bs.length + ((bs.take i).flatten).length) : Nat) : Int))) (val_move (v := (vI (((bs.length + ((bs.take i).flatten).length) : Nat) : Int))) hs5) ?_
      refine rl_valg ⟨11, true, rfl, .inl ⟨rfl, rfl⟩⟩ rfl (v := (.bool false)) (val_cast (val_le (p := ((bs.length + ((bs.take i).flatten).length) : Nat)) (q := 1048576) rfl rfl) (by rw [decide_eq_false (by omega)])) ?_
      refine rl_val rfl (v := (.bool false)) (val_pick_t rfl rfl) ?_
      refine rl_nil ?_
      refine WP.cond_f rfl ?_
      refine WP.exit ?_
      repeat (first | with_reducible refine exit_pass ?_ | with_reducible refine exit_other rfl ?_)
      refine blk_here ?_
      refine wp_sr (E := noPanic) noPanic_imp ?_
      refine rl_val rfl (v := (vI (((bs.length + ((bs.take i).flatten).length) : Nat) : Int))) (val_move (v := (vI (((bs.length + ((bs.take i).flatten).length) : Nat) : Int))) hs5) ?_
      refine rl_val rfl (v := (vI (((bs.length + ((bs.take i).flatten).length) : Nat) : Int))) (val_assign (v := (vI (((bs.length + ((bs.take i).flatten).length) : Nat) : Int))) rfl) ?_
      refine rl_nil ?_
      refine WP.ret ?_
      repeat (first | with_reducible refine ret_pass ?_ | with_reducible refine ret_blk ?_ | with_reducible refine scope_ret ?_)
      exact post_rets rfl (vs := [vI (((bs.length + ((bs.take i).flatten).length) : Nat) : Int)]) ⟨rfl, trivial⟩ rfl ⟨_, rfl, .inr (by omega), hm⟩
theorem twin_ok (l : Bytes) (a : Option Addr) (c : Nat) (w : World) (hs : SlIs w [] (.slice a l.length c) 1 l.length (l.map v8)) (hb : l.length ≤ 1000000) :
    Calls Tryz.prog 10 [.slice a l.length c].toArray w (fun e w' => ∃ a c r, e = .returned (.slice a l.length c) ∧ VecIs (.slice a (l.length + 1) c) (l.length + 1) 1 5 (l.map v8 ++ [v8 77]) r ∧ Mem w [] r w') := by
  have hm := Mem.init w
  refine calls_enter (n := 28) Tryz.func10 rfl rfl rfl ?_
  refine wp_sr (E := noPanic) noPanic_imp ?_
  refine rl_val rfl (v := (.slice none 0 0)) (val_assign (v := (.slice none 0 0)) rfl) ?_
  refine rl_nil ?_
  refine wp_sr (E := noPanic) noPanic_imp ?_
  refine rl_val rfl (v := (.slice a l.length c)) (val_move (v := (.slice a l.length c)) rfl) ?_
  refine rl_val rfl (v := (vI (l.length : Nat))) (val_lenSl (t := 38) rfl us_38 rfl) ?_
  refine rl_val rfl (v := (vI ((l.length : Nat) + 1))) (val_addI (p := (l.length : Nat)) (q := 1) rfl rfl (by omega)) ?_
  refine rl_makeSliceC (m := 0) (k := l.length + 1) rfl ez_38 rfl (by first | exact rfl | (refine Eq.trans rfl (int_eq ?_); simp)) (by omega) (by omega) (by decide) hm ?_
  intro b1 w2 hm
  have hv0 : VecIs (.slice (some ⟨b1, 0, none⟩) 0 (l.length + 1)) 0 1 5 [] [(b1, row (List.replicate (l.length + 1) (v8 0)) 5)] := VecIs.mk (rest := List.replicate (l.length + 1) (v8 0)) (by omega) (by rw [maxLen_val]; omega) (by simp) (by simp)
  have hr0 : ∃ r0, r0 = [(b1, row (List.replicate (l.length + 1) (v8 0)) 5)] := ⟨_, rfl⟩
  obtain ⟨r0, hr0⟩ := hr0
  rw [← hr0] at hv0
  replace hm : Mem w [] ([] ++ (r0 ++ [])) w2 := by rw [hr0]; simpa using hm
  refine rl_val rfl (v := (.slice (some ⟨b1, 0, none⟩) 0 (l.length + 1))) (val_assign (v := (.slice (some ⟨b1, 0, none⟩) 0 (l.length + 1))) rfl) ?_
  refine rl_nil ?_
  refine WP.seq ?_
  refine wp_sr (E := noPanic) noPanic_imp ?_
  refine rl_val rfl (v := (vI 0)) (val_assign (v := (vI 0)) rfl) ?_
  refine rl_nil ?_
  refine WP.block ?_
  refine WP.loop (fun mz τ w' => ∃ (i : Nat) (vp : Value) (rp : List (Nat × Obj)), l.length - i = mz ∧ i ≤ l.length ∧ VecIs vp i 1 5 ((l.take i).map v8) rp ∧ Mem w [] ([] ++ (rp ++ [])) w' ∧ τ 0 = (.slice a l.length c) ∧ τ 3 = vp ∧ τ 4 = (vI (i : Int))) (l.length) ?_ ?_
  · exact ⟨0, (.slice (some ⟨b1, 0, none⟩) 0 (l.length + 1)), r0, rfl, by omega, by simpa using hv0, hm, rfl, rfl, (by first | rfl | (refine int_eq ?_; simp; try omega) | (refine int_eq ?_; omega))⟩
  · rintro kk4 τ wl3 ⟨i, vp, rp, hk5, hi, hvp, hm, hs6, hs7, hs8⟩
    refine WP.seq ?_
    refine wp_sr (E := noPanic) noPanic_imp ?_
    refine rl_val rfl (v := (vI (i : Int))) (val_move (v := (vI (i : Int))) hs8) ?_
    refine rl_val rfl (v := (.slice a l.length c)) (val_move (v := (.slice a l.length c)) hs6) ?_
    refine rl_val rfl (v := (vI (l.length : Nat))) (val_lenSl (t := 38) rfl us_38 rfl) ?_
    refine rl_val rfl (v := (.bool (decide (((i : Int) : Int) < (l.length : Nat))))) (val_lt (p := (i : Int)) (q := (l.length : Nat)) rfl rfl) ?_
    refine rl_nil ?_
    refine WP.cond (b := decide (((i : Int) : Int) < (l.length : Nat))) rfl (fun hb => ?_) (fun hb => ?_)
    ·
      have hq9 := of_decide_eq_true hb
      have hil : i < l.length := by omega
      obtain ⟨b, off, xs, rfl, hbn, hr, hcs, hle, hnc⟩ := hs.pos (by omega)
      obtain ⟨x, hx⟩ : ∃ x, l[i]? = some x := ⟨l[i], by simp⟩
      have hsn : (l.take (i + 1)).map v8 = (l.take i).map v8 ++ [v8 x] := by rw [List.take_add_one, hx]; simp
      refine WP.skip ?_
      refine WP.seq (WP.block ?_)
      refine wp_r (E := noPanic) noPanic_imp ?_
      refine rl_val rfl (v := vp) (val_move (v := vp) hs7) ?_
      refine rl_val rfl (v := (.slice (some ⟨b, off, none⟩) l.length c)) (val_move (v := (.slice (some ⟨b, off, none⟩) l.length c)) hs6) ?_
      refine rl_val rfl (v := (vI (i : Int))) (val_move (v := (vI (i : Int))) hs8) ?_
      refine rl_val rfl (v := (.pointer (some ⟨b, off + i, none⟩))) (val_cast (val_indexSl (i := (i : Int)) (sz := 1) rfl rfl es_38 (by omega)) (ptr_eq (by omega))) ?_
      refine rl_val rfl (v := (v8 x)) (val_load1 (v := v8 x) (off := off + i) rfl ag_5 (hm.getL hr (by simp)) (by rw [take_at hcs (by omega), List.getElem?_map, hx]; rfl)) ?_
      refine rl_buildSlice (vs := [(v8 x)]) (cs := [(v8 x)]) rfl ez_38 rfl (parts_cons rfl (parts_nil)) rfl (by decide) (ones_size (ones_cons rfl (ones_nil))) (ones_flat (ones_cons rfl (ones_nil))) hm ?_
      intro b10 w11 hm
      refine rl_appendS (l1 := ([(b10, row ([(v8 x)]) 5)] ++ [])) (l2 := []) (r := rp) (v := vp) (xs := ((l.take i).map v8)) (news := [(v8 x)]) rfl ez_38 rfl (by decide) (by decide) rfl rfl hvp (by simpa only [List.append_assoc, List.nil_append, List.append_nil, List.cons_append] using hm) (SlIs.of (own := []) (by simp) (hm.row (i := 0) rfl).l (by simp) (by simp) (by omega)) (ones_cons rfl ones_nil) (by omega) ?_
      intro vv12 r13 w15 hv14 hm
      replace hm : Mem w [] ([(b10, row ([(v8 x)]) 5)] ++ (r13 ++ [])) w15 := by simpa only [List.append_assoc, List.nil_append, List.append_nil, List.cons_append] using hm
      refine rl_val rfl (v := vv12) (val_assign (v := vv12) rfl) ?_
      refine rl_nil ?_
      replace hm := hm.sub (l2 := ([] ++ (r13 ++ []))) (by ((try (simp only [List.append_assoc, List.nil_append, List.append_nil, List.cons_append])); repeat (first | exact List.nil_sublist _ | exact List.Sublist.refl _ | with_reducible refine List.Sublist.cons_cons _ ?_ | with_reducible refine List.Sublist.append (List.Sublist.refl _) ?_ | with_reducible exact List.sublist_append_left _ _ | refine List.Sublist.cons _ ?_ | refine List.Sublist.trans ?_ (List.sublist_append_right _ _))))
      refine wp_r (E := noPanic) noPanic_imp ?_
      refine rl_val rfl (v := (vI (i : Int))) (val_move (v := (vI (i : Int))) hs8) ?_
      refine rl_val rfl (v := (vI ((i : Int) + 1))) (val_addI (p := (i : Int)) (q := 1) rfl rfl (by omega)) ?_
      refine rl_val rfl (v := (vI ((i : Int) + 1))) (val_assign (v := (vI ((i : Int) + 1))) rfl) ?_
      refine rl_nil ?_
      exact ⟨l.length - (i + 1), by omega, ⟨i + 1, vv12, r13, rfl, by omega, by rw [hsn]; exact hv14, hm, hs6, rfl, (by first | rfl | (refine int_eq ?_; simp; try omega) | (refine int_eq ?_; omega))⟩⟩
    ·
      have hq16 := of_decide_eq_false hb
      obtain rfl : i = l.length := by omega
      rw [List.take_length] at hvp
      refine WP.exit ?_
      repeat (first | with_reducible refine exit_pass ?_ | with_reducible refine exit_other rfl ?_)
      refine blk_here ?_
      refine wp_sr (E := noPanic) noPanic_imp ?_
      refine rl_val rfl (v := vp) (val_move (v := vp) hs7) ?_
      refine rl_buildSlice (vs := [(v8 77)]) (cs := [(v8 77)]) rfl ez_38 rfl (parts_cons rfl (parts_nil)) rfl (by decide) (ones_size (ones_cons rfl (ones_nil))) (ones_flat (ones_cons rfl (ones_nil))) hm ?_
      intro b17 w18 hm
      refine rl_appendS (l1 := ([(b17, row ([(v8 77)]) 5)] ++ [])) (l2 := []) (r := rp) (v := vp) (xs := (l.map v8)) (news := [(v8 77)]) rfl ez_38 rfl (by decide) (by decide) rfl rfl hvp (by simpa only [List.append_assoc, List.nil_append, List.append_nil, List.cons_append] using hm) (SlIs.of (own := []) (by simp) (hm.row (i := 0) rfl).l (by simp) (by simp) (by omega)) (ones_cons rfl ones_nil) (by omega) ?_
      intro vv19 r20 w22 hv21 hm
      replace hm : Mem w [] ([(b17, row ([(v8 77)]) 5)] ++ (r20 ++ [])) w22 := by simpa only [List.append_assoc, List.nil_append, List.append_nil, List.cons_append] using hm
      refine rl_val rfl (v := (.slice a l.length c)) (val_move (v := (.slice a l.length c)) hs6) ?_
      refine rl_val rfl (v := (vI (l.length : Nat))) (val_lenSl (t := 38) rfl us_38 rfl) ?_
      obtain ⟨ap, cp, rfl, hcp, hcm⟩ := hv21.form
      refine rl_val rfl (v := (.slice ap l.length cp)) (val_sliceHi (h := l.length) rfl us_38 es_38 rfl (by omega)) ?_
      refine rl_val rfl (v := (.slice ap l.length cp)) (val_assign (v := (.slice ap l.length cp)) rfl) ?_
      refine rl_nil ?_
      exact WP.ret (post_rets rfl (vs := [.slice ap l.length cp]) ⟨rfl, trivial⟩ rfl ⟨ap, cp, _, rfl, hv21, hm.sub (l2 := r20) (by ((try (simp only [List.append_assoc, List.nil_append, List.append_nil, List.cons_append])); repeat (first | exact List.nil_sublist _ | exact List.Sublist.refl _ | with_reducible refine List.Sublist.cons_cons _ ?_ | with_reducible refine List.Sublist.append (List.Sublist.refl _) ?_ | with_reducible exact List.sublist_append_left _ _ | refine List.Sublist.cons _ ?_ | refine List.Sublist.trans ?_ (List.sublist_append_right _ _))))⟩)
theorem left_ok (l : Bytes) (g ct : Nat) (rest : List Value) (a : Option Addr) (c : Nat) (w : World) (hg : RowL w g ((l.map v8 ++ [v8 77]) ++ rest)) (hct : l.length < ct) (hs : SlIs w [] (.slice a l.length c) 1 l.length (l.map v8)) (hb : l.length ≤ 1000000) :
    Calls Tryz.prog 12 [.slice (some ⟨g, 0, none⟩) l.length ct, .slice a l.length c].toArray w (Ret w (.bool true)) := by
  have hm := Mem.init w
  refine calls_enter (n := 45) Tryz.func12 rfl rfl rfl ?_
  refine wp_sr (E := noPanic) noPanic_imp ?_
  refine rl_val rfl (v := (.bool false)) (val_assign (v := (.bool false)) rfl) ?_
  refine rl_nil ?_
  refine WP.seq ?_
  refine wp_sr (E := noPanic) noPanic_imp ?_
  refine rl_val rfl (v := (.slice (some ⟨g, 0, none⟩) l.length ct)) (val_move (v := (.slice (some ⟨g, 0, none⟩) l.length ct)) rfl) ?_
  refine rl_val rfl (v := (vI (l.length : Nat))) (val_lenSl (t := 38) rfl us_38 rfl) ?_
  refine rl_val rfl (v := (.slice a l.length c)) (val_move (v := (.slice a l.length c)) rfl) ?_
  refine rl_val rfl (v := (vI (l.length : Nat))) (val_lenSl (t := 38) rfl us_38 rfl) ?_
  refine rl_val rfl (v := (.bool false)) (val_cast (val_ne (p := (l.length : Nat)) (q := (l.length : Nat)) rfl rfl) (by simp)) ?_
  refine rl_val rfl (v := (.bool false)) (val_move (v := (.bool false)) rfl) ?_
  refine rl_valg ⟨12, false, rfl, .inl ⟨rfl, rfl⟩⟩ rfl (v := (.slice (some ⟨g, 0, none⟩) l.length ct)) (val_move (v := (.slice (some ⟨g, 0, none⟩) l.length ct)) rfl) ?_
  refine rl_valg ⟨12, false, rfl, .inl ⟨rfl, rfl⟩⟩ rfl (v := (vI (ct : Nat))) (val_capSl (t := 38) rfl us_38 rfl) ?_
  refine rl_valg ⟨12, false, rfl, .inl ⟨rfl, rfl⟩⟩ rfl (v := (.slice a l.length c)) (val_move (v := (.slice a l.length c)) rfl) ?_
  refine rl_valg ⟨12, false, rfl, .inl ⟨rfl, rfl⟩⟩ rfl (v := (vI (l.length : Nat))) (val_lenSl (t := 38) rfl us_38 rfl) ?_
  refine rl_valg ⟨12, false, rfl, .inl ⟨rfl, rfl⟩⟩ rfl (v := (.bool false)) (val_cast (val_le (p := (ct : Nat)) (q := (l.length : Nat)) rfl rfl) (by rw [decide_eq_false (by omega)])) ?_
  refine rl_val rfl (v := (.bool false)) (val_pick_f rfl rfl) ?_
  refine rl_nil ?_
  refine WP.cond_f rfl ?_
  refine WP.skip ?_
  refine WP.seq ?_
  refine wp_sr (E := noPanic) noPanic_imp ?_
  refine rl_val rfl (v := (vI 0)) (val_assign (v := (vI 0)) rfl) ?_
  refine rl_nil ?_
  refine WP.block ?_
  refine WP.loop (fun mz τ w' => ∃ (i : Nat), l.length - i = mz ∧ i ≤ l.length ∧ Mem w [] [] w' ∧ τ 0 = (.slice (some ⟨g, 0, none⟩) l.length ct) ∧ τ 1 = (.slice a l.length c) ∧ τ 5 = (vI (i : Int))) (l.length) ?_ ?_
  · exact ⟨0, rfl, by omega, hm, rfl, rfl, (by first | rfl | (refine int_eq ?_; simp; try omega) | (refine int_eq ?_; omega))⟩
  · rintro kk2 τ wl1 ⟨i, hk3, hi, hm, hs4, hs5, hs6⟩
    refine WP.seq ?_
    refine wp_sr (E := noPanic) noPanic_imp ?_
    refine rl_val rfl (v := (vI (i : Int))) (val_move (v := (vI (i : Int))) hs6) ?_
    refine rl_val rfl (v := (.slice a l.length c)) (val_move (v := (.slice a l.length c)) hs5) ?_
    refine rl_val rfl (v := (vI (l.length : Nat))) (val_lenSl (t := 38) rfl us_38 rfl) ?_
    refine rl_val rfl (v := (.bool (decide (((i : Int) : Int) < (l.length : Nat))))) (val_lt (p := (i : Int)) (q := (l.length : Nat)) rfl rfl) ?_
    refine rl_nil ?_
    refine WP.cond (b := decide (((i : Int) : Int) < (l.length : Nat))) rfl (fun hb => ?_) (fun hb => ?_)
    ·
      have hq7 := of_decide_eq_true hb
      have hil : i < l.length := by omega
      obtain ⟨b, off, xs, rfl, hbn, hr, hcs, hle, hnc⟩ := hs.pos (by omega)
      obtain ⟨x, hx⟩ : ∃ x, l[i]? = some x := ⟨l[i], by simp⟩
      refine WP.skip ?_
      refine WP.seq (WP.block ?_)
      refine wp_sd (E := noPanic) [(0, true), (1, true), (2, true), (3, true), (4, true), (5, true), (6, true), (7, true), (8, true)] mixed (by kernel_rfl) (by kernel_rfl) rfl (fun w' => Mem w [] [] w') noPanic_imp hm.drew ?_
      have hm := hm.drew
      refine rp_val rfl rfl (v := (.slice (some ⟨g, 0, none⟩) l.length ct)) (fun w' hs => val_move (v := (.slice (some ⟨g, 0, none⟩) l.length ct)) hs4) ?_
      refine rp_val rfl rfl (v := (vI (i : Int))) (fun w' hs => val_move (v := (vI (i : Int))) hs6) ?_
      refine rp_val rfl rfl (v := (.pointer (some ⟨g, i, none⟩))) (fun w' hs => val_cast (val_indexSl (i := (i : Int)) (sz := 1) rfl rfl es_38 (by omega)) (ptr_eq (by omega))) ?_
      refine rp_val rfl rfl (v := (v8 x)) (fun w' hs => val_load1 (v := v8 x) (off := i) rfl ag_5 (hs.getL hg (by simp)) (by rw [List.append_assoc, List.getElem?_append_left (by simpa using hil), List.getElem?_map, hx]; rfl)) ?_
      refine rp_val rfl rfl (v := (.slice (some ⟨b, off, none⟩) l.length c)) (fun w' hs => val_move (v := (.slice (some ⟨b, off, none⟩) l.length c)) hs5) ?_
      refine rp_val rfl rfl (v := (vI (i : Int))) (fun w' hs => val_move (v := (vI (i : Int))) hs6) ?_
      refine rp_val rfl rfl (v := (.pointer (some ⟨b, off + i, none⟩))) (fun w' hs => val_cast (val_indexSl (i := (i : Int)) (sz := 1) rfl rfl es_38 (by omega)) (ptr_eq (by omega))) ?_
      refine rp_val rfl rfl (v := (v8 x)) (fun w' hs => val_load1 (v := v8 x) (off := off + i) rfl ag_5 (hs.getL hr (by simp)) (by rw [take_at hcs (by omega), List.getElem?_map, hx]; rfl)) ?_
      refine rp_val rfl rfl (v := (.bool false)) (fun w' hs => val_cast (val_ne (p := (x.toNat : Int)) (q := (x.toNat : Int)) rfl rfl) (by simp)) ?_
      refine rp_nil ?_
      refine WP.cond_f rfl ?_
      refine WP.skip ?_
      refine wp_r (E := noPanic) noPanic_imp ?_
      refine rl_val rfl (v := (vI (i : Int))) (val_move (v := (vI (i : Int))) hs6) ?_
      refine rl_val rfl (v := (vI ((i : Int) + 1))) (val_addI (p := (i : Int)) (q := 1) rfl rfl (by omega)) ?_
      refine rl_val rfl (v := (vI ((i : Int) + 1))) (val_assign (v := (vI ((i : Int) + 1))) rfl) ?_
      refine rl_nil ?_
      exact ⟨l.length - (i + 1), by omega, ⟨i + 1, rfl, by omega, hm, hs4, hs5, (by first | rfl | (refine int_eq ?_; simp; try omega) | (refine int_eq ?_; omega))⟩⟩
    ·
      have hq8 := of_decide_eq_false hb
      obtain rfl : i = l.length := by omega
      refine WP.exit ?_
      repeat (first | with_reducible refine exit_pass ?_ | with_reducible refine exit_other rfl ?_)
      refine blk_here ?_
      refine wp_sr (E := noPanic) noPanic_imp ?_
      refine rl_val rfl (v := (.slice (some ⟨g, 0, none⟩) l.length ct)) (val_move (v := (.slice (some ⟨g, 0, none⟩) l.length ct)) hs4) ?_
      refine rl_val rfl (v := (.slice a l.length c)) (val_move (v := (.slice a l.length c)) hs5) ?_
      refine rl_val rfl (v := (vI (l.length : Nat))) (val_lenSl (t := 38) rfl us_38 rfl) ?_
      refine rl_val rfl (v := (vI ((l.length : Nat) + 1))) (val_addI (p := (l.length : Nat)) (q := 1) rfl rfl (by omega)) ?_
      refine rl_val rfl (v := (.slice (some ⟨g, 0, none⟩) (l.length + 1) ct)) (val_sliceHi (h := l.length + 1) rfl us_38 es_38 (by refine Eq.trans rfl (int_eq (by omega))) (by omega)) ?_
      refine rl_val rfl (v := (.slice a l.length c)) (val_move (v := (.slice a l.length c)) hs5) ?_
      refine rl_val rfl (v := (vI (l.length : Nat))) (val_lenSl (t := 38) rfl us_38 rfl) ?_
      refine rl_val rfl (v := (.pointer (some ⟨g, l.length, none⟩))) (val_cast (val_indexSl (i := ((l.length : Nat) : Int)) (sz := 1) rfl rfl es_38 (by omega)) (ptr_eq (by omega))) ?_
      refine rl_val rfl (v := (v8 77)) (val_load1 (v := v8 77) (off := l.length) rfl ag_5 (hm.getL hg (by simp)) (by rw [List.append_assoc, List.getElem?_append_right (by simp)]; simp)) ?_
      refine rl_val rfl (v := (v8 77)) (val_assign (v := (v8 77)) rfl) ?_
      refine rl_nil ?_
      refine wp_sr (E := noPanic) noPanic_imp ?_
      refine rl_val rfl (v := (v8 77)) (val_move (v := (v8 77)) rfl) ?_
      refine rl_val rfl (v := (.bool true)) (val_cast (val_eq (p := 77) (q := 77) rfl rfl) rfl) ?_
      refine rl_val rfl (v := (.bool true)) (val_assign (v := (.bool true)) rfl) ?_
      refine rl_nil ?_
      exact WP.ret (post_rets rfl (vs := [.bool true]) ⟨rfl, trivial⟩ rfl ⟨rfl, hm⟩)
theorem same8_ok (l : Bytes) (n : Nat) (a a2 : Option Addr) (c c2 : Nat) (w : World) (hn : l.length = n) (hs : SlIs w [] (.slice a n c) 1 n (l.map v8)) (hs2 : SlIs w [] (.slice a2 n c2) 1 n (l.map v8)) (hb : n ≤ 1000000) :
    Calls Tryz.prog 23 [.slice a n c, .slice a2 n c2].toArray w (Ret w (.bool true)) := by
  have hm := Mem.init w
  refine calls_enter (n := 26) Tryz.func23 rfl rfl rfl ?_
  refine wp_sr (E := noPanic) noPanic_imp ?_
  refine rl_val rfl (v := (.bool false)) (val_assign (v := (.bool false)) rfl) ?_
  refine rl_nil ?_
  refine WP.seq ?_
  refine wp_sr (E := noPanic) noPanic_imp ?_
  refine rl_val rfl (v := (.slice a n c)) (val_move (v := (.slice a n c)) rfl) ?_
  refine rl_val rfl (v := (vI (n : Nat))) (val_lenSl (t := 38) rfl us_38 rfl) ?_
  refine rl_val rfl (v := (.slice a2 n c2)) (val_move (v := (.slice a2 n c2)) rfl) ?_
  refine rl_val rfl (v := (vI (n : Nat))) (val_lenSl (t := 38) rfl us_38 rfl) ?_
  refine rl_val rfl (v := (.bool false)) (val_cast (val_ne (p := (n : Nat)) (q := (n : Nat)) rfl rfl) (by simp)) ?_
  refine rl_nil ?_
  refine WP.cond_f rfl ?_
  refine WP.skip ?_
  refine WP.seq ?_
  refine wp_sr (E := noPanic) noPanic_imp ?_
  refine rl_val rfl (v := (vI 0)) (val_assign (v := (vI 0)) rfl) ?_
  refine rl_nil ?_
  refine WP.block ?_
  refine WP.loop (fun mz τ w' => ∃ (i : Nat), n - i = mz ∧ i ≤ n ∧ Mem w [] [] w' ∧ τ 0 = (.slice a n c) ∧ τ 1 = (.slice a2 n c2) ∧ τ 5 = (vI (i : Int))) (n) ?_ ?_
  · exact ⟨0, rfl, by omega, hm, rfl, rfl, (by first | rfl | (refine int_eq ?_; simp; try omega) | (refine int_eq ?_; omega))⟩
  · rintro kk2 τ wl1 ⟨i, hk3, hi, hm, hs4, hs5, hs6⟩
    refine WP.seq ?_
    refine wp_sr (E := noPanic) noPanic_imp ?_
    refine rl_val rfl (v := (vI (i : Int))) (val_move (v := (vI (i : Int))) hs6) ?_
    refine rl_val rfl (v := (.slice a n c)) (val_move (v := (.slice a n c)) hs4) ?_
    refine rl_val rfl (v := (vI (n : Nat))) (val_lenSl (t := 38) rfl us_38 rfl) ?_
    refine rl_val rfl (v := (.bool (decide (((i : Int) : Int) < (n : Nat))))) (val_lt (p := (i : Int)) (q := (n : Nat)) rfl rfl) ?_
    refine rl_nil ?_
    refine WP.cond (b := decide (((i : Int) : Int) < (n : Nat))) rfl (fun hb => ?_) (fun hb => ?_)
    ·
      have hq7 := of_decide_eq_true hb
      have hil : i < n := by omega
      obtain ⟨b, off, xs, rfl, hbn, hr, hcs, hle, hnc⟩ := hs.pos (by omega)
      obtain ⟨b2, off2, xs2, rfl, hbn2, hr2, hcs2, hle2, hnc2⟩ := hs2.pos (by omega)
      obtain ⟨x, hx⟩ : ∃ x, l[i]? = some x := ⟨l[i]'(by omega), by simp⟩
      refine WP.skip ?_
      refine WP.seq (WP.block ?_)
      refine wp_sd (E := noPanic) [(0, true), (1, true), (2, true), (3, true), (4, true), (5, true), (6, true), (7, true), (8, true)] mixed (by kernel_rfl) (by kernel_rfl) rfl (fun w' => Mem w [] [] w') noPanic_imp hm.drew ?_
      have hm := hm.drew
      refine rp_val rfl rfl (v := (.slice (some ⟨b, off, none⟩) n c)) (fun w' hs => val_move (v := (.slice (some ⟨b, off, none⟩) n c)) hs4) ?_
      refine rp_val rfl rfl (v := (vI (i : Int))) (fun w' hs => val_move (v := (vI (i : Int))) hs6) ?_
      refine rp_val rfl rfl (v := (.pointer (some ⟨b, off + i, none⟩))) (fun w' hs => val_cast (val_indexSl (i := (i : Int)) (sz := 1) rfl rfl es_38 (by omega)) (ptr_eq (by omega))) ?_
      refine rp_val rfl rfl (v := (v8 x)) (fun w' hs => val_load1 (v := v8 x) (off := off + i) rfl ag_5 (hs.getL hr (by simp)) (by rw [take_at hcs (by omega), List.getElem?_map, hx]; rfl)) ?_
      refine rp_val rfl rfl (v := (.slice (some ⟨b2, off2, none⟩) n c2)) (fun w' hs => val_move (v := (.slice (some ⟨b2, off2, none⟩) n c2)) hs5) ?_
      refine rp_val rfl rfl (v := (vI (i : Int))) (fun w' hs => val_move (v := (vI (i : Int))) hs6) ?_
      refine rp_val rfl rfl (v := (.pointer (some ⟨b2, off2 + i, none⟩))) (fun w' hs => val_cast (val_indexSl (i := (i : Int)) (sz := 1) rfl rfl es_38 (by omega)) (ptr_eq (by omega))) ?_
      refine rp_val rfl rfl (v := (v8 x)) (fun w' hs => val_load1 (v := v8 x) (off := off2 + i) rfl ag_5 (hs.getL hr2 (by simp)) (by rw [take_at hcs2 (by omega), List.getElem?_map, hx]; rfl)) ?_
      refine rp_val rfl rfl (v := (.bool false)) (fun w' hs => val_cast (val_ne (p := (x.toNat : Int)) (q := (x.toNat : Int)) rfl rfl) (by simp)) ?_
      refine rp_nil ?_
      refine WP.cond_f rfl ?_
      refine WP.skip ?_
      refine wp_r (E := noPanic) noPanic_imp ?_
      refine rl_val rfl (v := (vI (i : Int))) (val_move (v := (vI (i : Int))) hs6) ?_
      refine rl_val rfl (v := (vI ((i : Int) + 1))) (val_addI (p := (i : Int)) (q := 1) rfl rfl (by omega)) ?_
      refine rl_val rfl (v := (vI ((i : Int) + 1))) (val_assign (v := (vI ((i : Int) + 1))) rfl) ?_
      refine rl_nil ?_
      exact ⟨n - (i + 1), by omega, ⟨i + 1, rfl, by omega, hm, hs4, hs5, (by first | rfl | (refine int_eq ?_; simp; try omega) | (refine int_eq ?_; omega))⟩⟩
    ·
      have hq8 := of_decide_eq_false hb
      obtain rfl : i = n := by omega
      refine WP.exit ?_
      repeat (first | with_reducible refine exit_pass ?_ | with_reducible refine exit_other rfl ?_)
      refine blk_here ?_
      refine wp_sr (E := noPanic) noPanic_imp ?_
      refine rl_val rfl (v := (.bool true)) (val_assign (v := (.bool true)) rfl) ?_
      refine rl_nil ?_
      exact WP.ret (post_rets rfl (vs := [.bool true]) ⟨rfl, trivial⟩ rfl ⟨rfl, hm⟩)
theorem sameS_ok (ss : Sums) (n : Nat) (a a2 : Option Addr) (c c2 : Nat) (w : World) (hn : ss.length = n) (h32 : All32 ss) (hs : SlIs w [] (.slice a n c) 32 n (sumsC ss)) (hs2 : SlIs w [] (.slice a2 n c2) 32 n (sumsC ss)) (hb : n ≤ 1000000) :
    Calls Tryz.prog 22 [.slice a n c, .slice a2 n c2].toArray w (Ret w (.bool true)) := by
  have hm := Mem.init w
  refine calls_enter (n := 26) Tryz.func22 rfl rfl rfl ?_
  refine wp_sr (E := noPanic) noPanic_imp ?_
  refine rl_val rfl (v := (.bool false)) (val_assign (v := (.bool false)) rfl) ?_
  refine rl_nil ?_
  refine WP.seq ?_
  refine wp_sr (E := noPanic) noPanic_imp ?_
  refine rl_val rfl (v := (.slice a n c)) (val_move (v := (.slice a n c)) rfl) ?_
  refine rl_val rfl (v := (vI (n : Nat))) (val_lenSl (t := 53) rfl us_53 rfl) ?_
  refine rl_val rfl (v := (.slice a2 n c2)) (val_move (v := (.slice a2 n c2)) rfl) ?_
  refine rl_val rfl (v := (vI (n : Nat))) (val_lenSl (t := 53) rfl us_53 rfl) ?_
  refine rl_val rfl (v := (.bool false)) (val_cast (val_ne (p := (n : Nat)) (q := (n : Nat)) rfl rfl) (by simp)) ?_
  refine rl_nil ?_
  refine WP.cond_f rfl ?_
  refine WP.skip ?_
  refine WP.seq ?_
  refine wp_sr (E := noPanic) noPanic_imp ?_
  refine rl_val rfl (v := (vI 0)) (val_assign (v := (vI 0)) rfl) ?_
  refine rl_nil ?_
  refine WP.block ?_
  refine WP.loop (fun mz τ w' => ∃ (i : Nat), n - i = mz ∧ i ≤ n ∧ Mem w [] [] w' ∧ τ 0 = (.slice a n c) ∧ τ 1 = (.slice a2 n c2) ∧ τ 5 = (vI (i : Int))) (n) ?_ ?_
  · exact ⟨0, rfl, by omega, hm, rfl, rfl, (by first | rfl | (refine int_eq ?_; simp; try omega) | (refine int_eq ?_; omega))⟩
  · rintro kk2 τ wl1 ⟨i, hk3, hi, hm, hs4, hs5, hs6⟩
    refine WP.seq ?_
    refine wp_sr (E := noPanic) noPanic_imp ?_
    refine rl_val rfl (v := (vI (i : Int))) (val_move (v := (vI (i : Int))) hs6) ?_
    refine rl_val rfl (v := (.slice a n c)) (val_move (v := (.slice a n c)) hs4) ?_
    refine rl_val rfl (v := (vI (n : Nat))) (val_lenSl (t := 53) rfl us_53 rfl) ?_
    refine rl_val rfl (v := (.bool (decide (((i : Int) : Int) < (n : Nat))))) (val_lt (p := (i : Int)) (q := (n : Nat)) rfl rfl) ?_
    refine rl_nil ?_
    refine WP.cond (b := decide (((i : Int) : Int) < (n : Nat))) rfl (fun hb => ?_) (fun hb => ?_)
    ·
      have hq7 := of_decide_eq_true hb
      have hil : i < n := by omega
      obtain ⟨b, off, xs, rfl, hbn, hr, hcs, hle, hnc⟩ := hs.pos (by omega)
      obtain ⟨b2, off2, xs2, rfl, hbn2, hr2, hcs2, hle2, hnc2⟩ := hs2.pos (by omega)
      obtain ⟨x, hx⟩ : ∃ x, ss[i]? = some x := ⟨ss[i]'(by omega), by simp⟩
      have hx32 : x.length = 32 := h32 x (List.mem_of_getElem? hx)
      refine WP.skip ?_
      refine WP.seq (WP.block ?_)
      refine wp_sd (E := noPanic) [(0, true), (1, true), (2, true), (3, true), (4, true), (5, true), (6, true), (7, true), (8, true)] mixed (by kernel_rfl) (by kernel_rfl) rfl (fun w' => Mem w [] [] w') noPanic_imp hm.drew ?_
      have hm := hm.drew
      refine rp_val rfl rfl (v := (.slice (some ⟨b, off, none⟩) n c)) (fun w' hs => val_move (v := (.slice (some ⟨b, off, none⟩) n c)) hs4) ?_
      refine rp_val rfl rfl (v := (vI (i : Int))) (fun w' hs => val_move (v := (vI (i : Int))) hs6) ?_
      refine rp_val rfl rfl (v := (.pointer (some ⟨b, off + (i * 32), none⟩))) (fun w' hs => val_cast (val_indexSl (i := (i : Int)) (sz := 32) rfl rfl es_53 (by omega)) (ptr_eq (by omega))) ?_
      refine rp_val rfl rfl (v := (.agg (x.map v8).toArray)) (fun w' hs => val_loadA (m := x.map v8) (off := off + i * 32) rfl ag_50 (hs.getL hr (by simp)) (part_at hcs h32 hx (by omega)) (by omega) (by decide)) ?_
      refine rp_val rfl rfl (v := (.slice (some ⟨b2, off2, none⟩) n c2)) (fun w' hs => val_move (v := (.slice (some ⟨b2, off2, none⟩) n c2)) hs5) ?_
      refine rp_val rfl rfl (v := (vI (i : Int))) (fun w' hs => val_move (v := (vI (i : Int))) hs6) ?_
      refine rp_val rfl rfl (v := (.pointer (some ⟨b2, off2 + (i * 32), none⟩))) (fun w' hs => val_cast (val_indexSl (i := (i : Int)) (sz := 32) rfl rfl es_53 (by omega)) (ptr_eq (by omega))) ?_
      refine rp_val rfl rfl (v := (.agg (x.map v8).toArray)) (fun w' hs => val_loadA (m := x.map v8) (off := off2 + i * 32) rfl ag_50 (hs.getL hr2 (by simp)) (part_at hcs2 h32 hx (by omega)) (by omega) (by decide)) ?_
      refine rp_val rfl rfl (v := (.bool false)) (fun w' hs => val_cast (val_neSum (a := x) (b := x) hx32 hx32 rfl rfl) (by simp)) ?_
      refine rp_nil ?_
      refine WP.cond_f rfl ?_
      refine WP.skip ?_
      refine wp_r (E := noPanic) noPanic_imp ?_
      refine rl_val rfl (v := (vI (i : Int))) (val_move (v := (vI (i : Int))) hs6) ?_
      refine rl_val rfl (v := (vI ((i : Int) + 1))) (val_addI (p := (i : Int)) (q := 1) rfl rfl (by omega)) ?_
      refine rl_val rfl (v := (vI ((i : Int) + 1))) (val_assign (v := (vI ((i : Int) + 1))) rfl) ?_
      refine rl_nil ?_
      exact ⟨n - (i + 1), by omega, ⟨i + 1, rfl, by omega, hm, hs4, hs5, (by first | rfl | (refine int_eq ?_; simp; try omega) | (refine int_eq ?_; omega))⟩⟩
    ·
      have hq8 := of_decide_eq_false hb
      obtain rfl : i = n := by omega
      refine WP.exit ?_
      repeat (first | with_reducible refine exit_pass ?_ | with_reducible refine exit_other rfl ?_)
      refine blk_here ?_
      refine wp_sr (E := noPanic) noPanic_imp ?_
      refine rl_val rfl (v := (.bool true)) (val_assign (v := (.bool true)) rfl) ?_
      refine rl_nil ?_
      exact WP.ret (post_rets rfl (vs := [.bool true]) ⟨rfl, trivial⟩ rfl ⟨rfl, hm⟩)
end Go.Al
namespace Go.Al
open Go Go.RowKit Go.Proofs
set_option linter.unusedVariables false
set_option linter.unusedSimpArgs false
theorem keepB_ok (bk n m k c : Nat) (u1 u2 u3 u4 u5 u6 u7 u8 u9 : Value) (u : Value) (a : Option Addr) (xs : List Value) (r : List (Nat × Obj)) (w : World) (hf : w.heap[bk]? = some (row [vI (n : Int), u, u2, u3, u4, u5, u6, u7, u8, u9] 37)) (hv : VecIs u m 3 213 xs r) (hr : ∀ p ∈ r, w.heap[p.1]? = some p.2) (hne : ∀ p ∈ r, p.1 ≠ bk) (hn : n ≤ 1000000) (hb : m ≤ 1000000) :
    Calls Tryz.prog 91 [.pointer (some ⟨bk, 0, none⟩), .slice a k c].toArray w (fun e w' => e = .returned (.tuple #[]) ∧ ∃ u' r', VecIs u' (m + 1) 3 213 (xs ++ [.slice a k c, .slice none 0 0, vI ((n + 1 : Nat) : Int)]) r' ∧ Mem w (bk :: r.map (·.1)) ((bk, row [vI ((n + 1 : Nat) : Int), u', u2, u3, u4, u5, u6, u7, u8, u9] 37) :: r') w') := by
  have hm := Mem.initFR hv hf hr hne
  refine calls_enter (n := 26) Tryz.func91 rfl rfl rfl ?_
  refine wp_sr (E := noPanic) noPanic_imp ?_
  refine rl_val rfl (v := (.pointer (some ⟨bk, 0, none⟩))) (val_move (v := (.pointer (some ⟨bk, 0, none⟩))) rfl) ?_
  refine rl_val rfl (v := (.pointer (some ⟨bk, 0, none⟩))) (val_nilCheck rfl) ?_
  refine rl_val rfl (v := (.pointer (some ⟨bk, 0, none⟩))) (val_fieldAddr (d := 0) rfl fo_37_0) ?_
  refine rl_val rfl (v := (vI (n : Int))) (val_load1 (v := (vI (n : Int))) (off := 0) rfl ag_3 (hm.row (i := 0) rfl).l rfl) ?_
  refine rl_val rfl (v := (vI ((n + 1 : Nat) : Int))) (val_cast (val_addI (p := (n : Int)) (q := 1) rfl rfl (by omega)) (int_eq (by omega))) ?_
  refine rl_val rfl (v := (.pointer (some ⟨bk, 0, none⟩))) (val_nilCheck rfl) ?_
  refine rl_val rfl (v := (.pointer (some ⟨bk, 0, none⟩))) (val_fieldAddr (d := 0) rfl fo_37_0) ?_
  refine rl_store (i := 0) (off := 0) (xs := ([(vI (n : Int)), u, u2, u3, u4, u5, u6, u7, u8, u9])) (vs := [(vI ((n + 1 : Nat) : Int))]) rfl rfl rfl ag_3 hm rfl rfl rfl (by simp) (by simp [Value.one]) ?_
  intro w1 hm
  replace hm : Mem w (bk :: r.map (·.1)) ([(bk, row ([(vI ((n + 1 : Nat) : Int)), u, u2, u3, u4, u5, u6, u7, u8, u9]) 37)] ++ (r ++ [])) w1 := hm
  refine rl_nil ?_
  refine wp_df (E := noPanic) [(0, true), (1, true), (2, true), (3, true), (4, true), (5, true), (6, true), (7, true), (8, true), (9, true), (10, true), (11, false), (12, false), (13, false), (14, false), (15, false)] [4, 9] mixed (by kernel_rfl) (by kernel_rfl) rfl (fun w' => Mem w (bk :: r.map (·.1)) [(bk, row ([(vI ((n + 1 : Nat) : Int)), u, u2, u3, u4, u5, u6, u7, u8, u9]) 37)] w') noPanic_imp (hm.sub (by ((try (simp only [List.append_assoc, List.nil_append, List.append_nil, List.cons_append])); repeat (first | exact List.nil_sublist _ | exact List.Sublist.refl _ | with_reducible refine List.Sublist.cons_cons _ ?_ | with_reducible refine List.Sublist.append (List.Sublist.refl _) ?_ | with_reducible exact List.sublist_append_left _ _ | refine List.Sublist.cons _ ?_ | refine List.Sublist.trans ?_ (List.sublist_append_right _ _))))).drew ?_
  have hm := hm.drew
  refine rp_valp rfl rfl (v := (.pointer (some ⟨bk, 0, none⟩))) (fun w' => val_move (v := (.pointer (some ⟨bk, 0, none⟩))) rfl) ?_
  refine rp_valp rfl rfl (v := (.pointer (some ⟨bk, 0, none⟩))) (fun w' => val_move (v := (.pointer (some ⟨bk, 0, none⟩))) rfl) ?_
  refine rp_valp rfl rfl (v := (.pointer (some ⟨bk, 0, none⟩))) (fun w' => val_nilCheck rfl) ?_
  refine rp_valp rfl rfl (v := (.pointer (some ⟨bk, 1, none⟩))) (fun w' => val_fieldAddr (d := 1) rfl fo_37_1) ?_
  refine rp_val rfl rfl (v := u) (fun w' hs => val_load1 (v := u) (off := 1) rfl ag_27 (hs.row (i := 0) rfl).l rfl) ?_
  refine rp_valp rfl rfl (v := (.slice a k c)) (fun w' => val_move (v := (.slice a k c)) rfl) ?_
  refine rp_valp rfl rfl (v := (.pointer (some ⟨bk, 0, none⟩))) (fun w' => val_move (v := (.pointer (some ⟨bk, 0, none⟩))) rfl) ?_
  refine rp_valp rfl rfl (v := (.pointer (some ⟨bk, 0, none⟩))) (fun w' => val_nilCheck rfl) ?_
  refine rp_valp rfl rfl (v := (.pointer (some ⟨bk, 0, none⟩))) (fun w' => val_fieldAddr (d := 0) rfl fo_37_0) ?_
  refine rp_val rfl rfl (v := (vI ((n + 1 : Nat) : Int))) (fun w' hs => val_load1 (v := (vI ((n + 1 : Nat) : Int))) (off := 0) rfl ag_3 (hs.row (i := 0) rfl).l rfl) ?_
  refine rp_valp rfl rfl (v := (.agg ([(.slice a k c), (.slice none 0 0), (vI ((n + 1 : Nat) : Int))]).toArray)) (fun w' => val_build (ps := [(0, (.slice a k c)), (2, (vI ((n + 1 : Nat) : Int)))]) pl_213 zo_213 (plc_cons rfl (plc_cons rfl (plc_nil))) (bok_cons rfl rfl (by decide) (bok_cons rfl rfl (by decide) (bok_nil))) (cs := [(.slice a k c), (.slice none 0 0), (vI ((n + 1 : Nat) : Int))]) rfl) ?_
  refine rp_buildSlice (vs := [(.agg ([(.slice a k c), (.slice none 0 0), (vI ((n + 1 : Nat) : Int))]).toArray)]) (cs := ([(.slice a k c), (.slice none 0 0), (vI ((n + 1 : Nat) : Int))])) rfl rfl ez_27 rfl (parts_cons rfl (parts_nil)) rfl (by decide) (by intro v hv; simp only [List.mem_singleton] at hv; subst hv; simp [Value.cells]) (by simp [Value.cells]) hm (fun b w' h => .inr (h.sub (by ((try (simp only [List.append_assoc, List.nil_append, List.append_nil, List.cons_append])); repeat (first | exact List.nil_sublist _ | exact List.Sublist.refl _ | with_reducible refine List.Sublist.cons_cons _ ?_ | with_reducible refine List.Sublist.append (List.Sublist.refl _) ?_ | with_reducible exact List.sublist_append_left _ _ | refine List.Sublist.cons _ ?_ | refine List.Sublist.trans ?_ (List.sublist_append_right _ _)))))) ?_
  intro b2 w3 hm
  refine rp_appendS (l1 := ([(b2, row ([(.slice a k c), (.slice none 0 0), (vI ((n + 1 : Nat) : Int))]) 213), (bk, row ([(vI ((n + 1 : Nat) : Int)), u, u2, u3, u4, u5, u6, u7, u8, u9]) 37)] ++ [])) (l2 := []) (r := r) (v := u) (xs := xs) (news := ([(.slice a k c), (.slice none 0 0), (vI ((n + 1 : Nat) : Int))])) rfl rfl ez_27 rfl (by decide) (by decide) rfl rfl hv (by simpa only [List.append_assoc, List.nil_append, List.append_nil, List.cons_append] using hm) (SlIs.of (own := []) (by simp) (hm.row (i := 0) rfl).l rfl (by simp) (by omega)) (ones_cons rfl (ones_cons rfl (ones_cons rfl ones_nil))) (by omega) ?_
  intro vv4 r5 w7 hv6 hm
  refine ⟨.inl (by kernel_rfl), ?_⟩
  replace hm : Mem w (bk :: r.map (·.1)) ([(b2, row ([(.slice a k c), (.slice none 0 0), (vI ((n + 1 : Nat) : Int))]) 213), (bk, row ([(vI ((n + 1 : Nat) : Int)), u, u2, u3, u4, u5, u6, u7, u8, u9]) 37)] ++ (r5 ++ [])) w7 := by simpa only [List.append_assoc, List.nil_append, List.append_nil, List.cons_append] using hm
  refine rp_vale rfl rfl (v := (.pointer (some ⟨bk, 0, none⟩))) (val_nilCheck rfl) (.inl (by kernel_rfl)) ?_
  refine rp_vale rfl rfl (v := (.pointer (some ⟨bk, 1, none⟩))) (val_fieldAddr (d := 1) rfl fo_37_1) (.inl (by kernel_rfl)) ?_
  refine rp_store (i := 1) (off := 1) (xs := ([(vI ((n + 1 : Nat) : Int)), u, u2, u3, u4, u5, u6, u7, u8, u9])) (vs := [vv4]) rfl rfl rfl rfl ag_27 hm rfl (cells_one1 hv6.isOne) rfl (by simp) (ones_cons hv6.isOne ones_nil) (by kernel_rfl) ?_
  intro w8 hm
  replace hm : Mem w (bk :: r.map (·.1)) ([(b2, row ([(.slice a k c), (.slice none 0 0), (vI ((n + 1 : Nat) : Int))]) 213), (bk, row ([(vI ((n + 1 : Nat) : Int)), vv4, u2, u3, u4, u5, u6, u7, u8, u9]) 37)] ++ (r5 ++ [])) w8 := hm
  refine rp_nil ?_
  exact ret_nil_post rfl ⟨rfl, _, _, hv6, hm.sub (l2 := (bk, row ([(vI ((n + 1 : Nat) : Int)), vv4, u2, u3, u4, u5, u6, u7, u8, u9]) 37) :: r5) (by ((try (simp only [List.append_assoc, List.nil_append, List.append_nil, List.cons_append])); repeat (first | exact List.nil_sublist _ | exact List.Sublist.refl _ | with_reducible refine List.Sublist.cons_cons _ ?_ | with_reducible refine List.Sublist.append (List.Sublist.refl _) ?_ | with_reducible exact List.sublist_append_left _ _ | refine List.Sublist.cons _ ?_ | refine List.Sublist.trans ?_ (List.sublist_append_right _ _))))⟩
theorem putB_ok (bk n m k c : Nat) (u1 u2 u3 u4 u5 u6 u7 u8 u9 : Value) (u : Value) (a : Option Addr) (xs : List Value) (r : List (Nat × Obj)) (w : World) (hf : w.heap[bk]? = some (row [vI (n : Int), u, u2, u3, u4, u5, u6, u7, u8, u9] 37)) (hv : VecIs u m 3 213 xs r) (hr : ∀ p ∈ r, w.heap[p.1]? = some p.2) (hne : ∀ p ∈ r, p.1 ≠ bk) (hn : n ≤ 1000000) (hb : m ≤ 1000000) :
    Calls Tryz.prog 13 [.pointer (some ⟨bk, 0, none⟩), .slice a k c].toArray w (fun e w' => e = .returned (.tuple #[]) ∧ ∃ u' r', VecIs u' (m + 1) 3 213 (xs ++ [.slice a k c, .slice none 0 0, vI ((n + 1 : Nat) : Int)]) r' ∧ Mem w (bk :: r.map (·.1)) ((bk, row [vI ((n + 1 : Nat) : Int), u', u2, u3, u4, u5, u6, u7, u8, u9] 37) :: r') w') := by
  have hm := Mem.initFR hv hf hr hne
  refine calls_enter (n := 7) Tryz.func13 rfl rfl rfl ?_
  refine wp_r (E := noPanic) noPanic_imp ?_
  refine rl_val rfl (v := (.pointer (some ⟨bk, 0, none⟩))) (val_move (v := (.pointer (some ⟨bk, 0, none⟩))) rfl) ?_
  refine rl_val rfl (v := (.slice a k c)) (val_move (v := (.slice a k c)) rfl) ?_
  refine rl_call rfl (ent_static (args := [(.pointer (some ⟨bk, 0, none⟩)), (.slice a k c)]) Tryz.func91 rfl rfl rfl rfl) (keepB_ok bk n m k c u1 u2 u3 u4 u5 u6 u7 u8 u9 u a xs r w hf hv hr hne hn hb) ?_
  rintro _ w1 ⟨rfl, hq⟩
  refine callQ_ret ?_
  refine rl_nil ?_
  exact ret_nil_post rfl ⟨rfl, hq⟩
theorem keepS_ok (bk n m k c : Nat) (u1 u2 u3 u4 u5 u6 u7 u8 u9 : Value) (u : Value) (a : Option Addr) (xs : List Value) (r : List (Nat × Obj)) (w : World) (hf : w.heap[bk]? = some (row [vI (n : Int), u1, u2, u3, u4, u, u6, u7, u8, u9] 37)) (hv : VecIs u m 3 226 xs r) (hr : ∀ p ∈ r, w.heap[p.1]? = some p.2) (hne : ∀ p ∈ r, p.1 ≠ bk) (hn : n ≤ 1000000) (hb : m ≤ 1000000) :
    Calls Tryz.prog 107 [.pointer (some ⟨bk, 0, none⟩), .slice a k c].toArray w (fun e w' => e = .returned (.tuple #[]) ∧ ∃ u' r', VecIs u' (m + 1) 3 226 (xs ++ [.slice a k c, .slice none 0 0, vI ((n + 1 : Nat) : Int)]) r' ∧ Mem w (bk :: r.map (·.1)) ((bk, row [vI ((n + 1 : Nat) : Int), u1, u2, u3, u4, u', u6, u7, u8, u9] 37) :: r') w') := by
  have hm := Mem.initFR hv hf hr hne
  refine calls_enter (n := 26) Tryz.func107 rfl rfl rfl ?_
  refine wp_sr (E := noPanic) noPanic_imp ?_
  refine rl_val rfl (v := (.pointer (some ⟨bk, 0, none⟩))) (val_move (v := (.pointer (some ⟨bk, 0, none⟩))) rfl) ?_
  refine rl_val rfl (v := (.pointer (some ⟨bk, 0, none⟩))) (val_nilCheck rfl) ?_
  refine rl_val rfl (v := (.pointer (some ⟨bk, 0, none⟩))) (val_fieldAddr (d := 0) rfl fo_37_0) ?_
  refine rl_val rfl (v := (vI (n : Int))) (val_load1 (v := (vI (n : Int))) (off := 0) rfl ag_3 (hm.row (i := 0) rfl).l rfl) ?_
  refine rl_val rfl (v := (vI ((n + 1 : Nat) : Int))) (val_cast (val_addI (p := (n : Int)) (q := 1) rfl rfl (by omega)) (int_eq (by omega))) ?_
  refine rl_val rfl (v := (.pointer (some ⟨bk, 0, none⟩))) (val_nilCheck rfl) ?_
  refine rl_val rfl (v := (.pointer (some ⟨bk, 0, none⟩))) (val_fieldAddr (d := 0) rfl fo_37_0) ?_
  refine rl_store (i := 0) (off := 0) (xs := ([(vI (n : Int)), u1, u2, u3, u4, u, u6, u7, u8, u9])) (vs := [(vI ((n + 1 : Nat) : Int))]) rfl rfl rfl ag_3 hm rfl rfl rfl (by simp) (by simp [Value.one]) ?_
  intro w1 hm
  replace hm : Mem w (bk :: r.map (·.1)) ([(bk, row ([(vI ((n + 1 : Nat) : Int)), u1, u2, u3, u4, u, u6, u7, u8, u9]) 37)] ++ (r ++ [])) w1 := hm
  refine rl_nil ?_
  refine wp_df (E := noPanic) [(0, true), (1, true), (2, true), (3, true), (4, true), (5, true), (6, true), (7, true), (8, true), (9, true), (10, true), (11, false), (12, false), (13, false), (14, false), (15, false)] [4, 9] mixed (by kernel_rfl) (by kernel_rfl) rfl (fun w' => Mem w (bk :: r.map (·.1)) [(bk, row ([(vI ((n + 1 : Nat) : Int)), u1, u2, u3, u4, u, u6, u7, u8, u9]) 37)] w') noPanic_imp (hm.sub (by ((try (simp only [List.append_assoc, List.nil_append, List.append_nil, List.cons_append])); repeat (first | exact List.nil_sublist _ | exact List.Sublist.refl _ | with_reducible refine List.Sublist.cons_cons _ ?_ | with_reducible refine List.Sublist.append (List.Sublist.refl _) ?_ | with_reducible exact List.sublist_append_left _ _ | refine List.Sublist.cons _ ?_ | refine List.Sublist.trans ?_ (List.sublist_append_right _ _))))).drew ?_
  have hm := hm.drew
  refine rp_valp rfl rfl (v := (.pointer (some ⟨bk, 0, none⟩))) (fun w' => val_move (v := (.pointer (some ⟨bk, 0, none⟩))) rfl) ?_
  refine rp_valp rfl rfl (v := (.pointer (some ⟨bk, 0, none⟩))) (fun w' => val_move (v := (.pointer (some ⟨bk, 0, none⟩))) rfl) ?_
  refine rp_valp rfl rfl (v := (.pointer (some ⟨bk, 0, none⟩))) (fun w' => val_nilCheck rfl) ?_
  refine rp_valp rfl rfl (v := (.pointer (some ⟨bk, 5, none⟩))) (fun w' => val_fieldAddr (d := 5) rfl fo_37_5) ?_
  refine rp_val rfl rfl (v := u) (fun w' hs => val_load1 (v := u) (off := 5) rfl ag_31 (hs.row (i := 0) rfl).l rfl) ?_
  refine rp_valp rfl rfl (v := (.slice a k c)) (fun w' => val_move (v := (.slice a k c)) rfl) ?_
  refine rp_valp rfl rfl (v := (.pointer (some ⟨bk, 0, none⟩))) (fun w' => val_move (v := (.pointer (some ⟨bk, 0, none⟩))) rfl) ?_
  refine rp_valp rfl rfl (v := (.pointer (some ⟨bk, 0, none⟩))) (fun w' => val_nilCheck rfl) ?_
  refine rp_valp rfl rfl (v := (.pointer (some ⟨bk, 0, none⟩))) (fun w' => val_fieldAddr (d := 0) rfl fo_37_0) ?_
  refine rp_val rfl rfl (v := (vI ((n + 1 : Nat) : Int))) (fun w' hs => val_load1 (v := (vI ((n + 1 : Nat) : Int))) (off := 0) rfl ag_3 (hs.row (i := 0) rfl).l rfl) ?_
  refine rp_valp rfl rfl (v := (.agg ([(.slice a k c), (.slice none 0 0), (vI ((n + 1 : Nat) : Int))]).toArray)) (fun w' => val_build (ps := [(0, (.slice a k c)), (2, (vI ((n + 1 : Nat) : Int)))]) pl_226 zo_226 (plc_cons rfl (plc_cons rfl (plc_nil))) (bok_cons rfl rfl (by decide) (bok_cons rfl rfl (by decide) (bok_nil))) (cs := [(.slice a k c), (.slice none 0 0), (vI ((n + 1 : Nat) : Int))]) rfl) ?_
  refine rp_buildSlice (vs := [(.agg ([(.slice a k c), (.slice none 0 0), (vI ((n + 1 : Nat) : Int))]).toArray)]) (cs := ([(.slice a k c), (.slice none 0 0), (vI ((n + 1 : Nat) : Int))])) rfl rfl ez_31 rfl (parts_cons rfl (parts_nil)) rfl (by decide) (by intro v hv; simp only [List.mem_singleton] at hv; subst hv; simp [Value.cells]) (by simp [Value.cells]) hm (fun b w' h => .inr (h.sub (by ((try (simp only [List.append_assoc, List.nil_append, List.append_nil, List.cons_append])); repeat (first | exact List.nil_sublist _ | exact List.Sublist.refl _ | with_reducible refine List.Sublist.cons_cons _ ?_ | with_reducible refine List.Sublist.append (List.Sublist.refl _) ?_ | with_reducible exact List.sublist_append_left _ _ | refine List.Sublist.cons _ ?_ | refine List.Sublist.trans ?_ (List.sublist_append_right _ _)))))) ?_
  intro b2 w3 hm
  refine rp_appendS (l1 := ([(b2, row ([(.slice a k c), (.slice none 0 0), (vI ((n + 1 : Nat) : Int))]) 226), (bk, row ([(vI ((n + 1 : Nat) : Int)), u1, u2, u3, u4, u, u6, u7, u8, u9]) 37)] ++ [])) (l2 := []) (r := r) (v := u) (xs := xs) (news := ([(.slice a k c), (.slice none 0 0), (vI ((n + 1 : Nat) : Int))])) rfl rfl ez_31 rfl (by decide) (by decide) rfl rfl hv (by simpa only [List.append_assoc, List.nil_append, List.append_nil, List.cons_append] using hm) (SlIs.of (own := []) (by simp) (hm.row (i := 0) rfl).l rfl (by simp) (by omega)) (ones_cons rfl (ones_cons rfl (ones_cons rfl ones_nil))) (by omega) ?_
  intro vv4 r5 w7 hv6 hm
  refine ⟨.inl (by kernel_rfl), ?_⟩
  replace hm : Mem w (bk :: r.map (·.1)) ([(b2, row ([(.slice a k c), (.slice none 0 0), (vI ((n + 1 : Nat) : Int))]) 226), (bk, row ([(vI ((n + 1 : Nat) : Int)), u1, u2, u3, u4, u, u6, u7, u8, u9]) 37)] ++ (r5 ++ [])) w7 := by simpa only [List.append_assoc, List.nil_append, List.append_nil, List.cons_append] using hm
  refine rp_vale rfl rfl (v := (.pointer (some ⟨bk, 0, none⟩))) (val_nilCheck rfl) (.inl (by kernel_rfl)) ?_
  refine rp_vale rfl rfl (v := (.pointer (some ⟨bk, 5, none⟩))) (val_fieldAddr (d := 5) rfl fo_37_5) (.inl (by kernel_rfl)) ?_
  refine rp_store (i := 1) (off := 5) (xs := ([(vI ((n + 1 : Nat) : Int)), u1, u2, u3, u4, u, u6, u7, u8, u9])) (vs := [vv4]) rfl rfl rfl rfl ag_31 hm rfl (cells_one1 hv6.isOne) rfl (by simp) (ones_cons hv6.isOne ones_nil) (by kernel_rfl) ?_
  intro w8 hm
  replace hm : Mem w (bk :: r.map (·.1)) ([(b2, row ([(.slice a k c), (.slice none 0 0), (vI ((n + 1 : Nat) : Int))]) 226), (bk, row ([(vI ((n + 1 : Nat) : Int)), u1, u2, u3, u4, vv4, u6, u7, u8, u9]) 37)] ++ (r5 ++ [])) w8 := hm
  refine rp_nil ?_
  exact ret_nil_post rfl ⟨rfl, _, _, hv6, hm.sub (l2 := (bk, row ([(vI ((n + 1 : Nat) : Int)), u1, u2, u3, u4, vv4, u6, u7, u8, u9]) 37) :: r5) (by ((try (simp only [List.append_assoc, List.nil_append, List.append_nil, List.cons_append])); repeat (first | exact List.nil_sublist _ | exact List.Sublist.refl _ | with_reducible refine List.Sublist.cons_cons _ ?_ | with_reducible refine List.Sublist.append (List.Sublist.refl _) ?_ | with_reducible exact List.sublist_append_left _ _ | refine List.Sublist.cons _ ?_ | refine List.Sublist.trans ?_ (List.sublist_append_right _ _))))⟩
theorem putS_ok (bk n m k c : Nat) (u1 u2 u3 u4 u5 u6 u7 u8 u9 : Value) (u : Value) (a : Option Addr) (xs : List Value) (r : List (Nat × Obj)) (w : World) (hf : w.heap[bk]? = some (row [vI (n : Int), u1, u2, u3, u4, u, u6, u7, u8, u9] 37)) (hv : VecIs u m 3 226 xs r) (hr : ∀ p ∈ r, w.heap[p.1]? = some p.2) (hne : ∀ p ∈ r, p.1 ≠ bk) (hn : n ≤ 1000000) (hb : m ≤ 1000000) :
    Calls Tryz.prog 26 [.pointer (some ⟨bk, 0, none⟩), .slice a k c].toArray w (fun e w' => e = .returned (.tuple #[]) ∧ ∃ u' r', VecIs u' (m + 1) 3 226 (xs ++ [.slice a k c, .slice none 0 0, vI ((n + 1 : Nat) : Int)]) r' ∧ Mem w (bk :: r.map (·.1)) ((bk, row [vI ((n + 1 : Nat) : Int), u1, u2, u3, u4, u', u6, u7, u8, u9] 37) :: r') w') := by
  have hm := Mem.initFR hv hf hr hne
  refine calls_enter (n := 7) Tryz.func26 rfl rfl rfl ?_
  refine wp_r (E := noPanic) noPanic_imp ?_
  refine rl_val rfl (v := (.pointer (some ⟨bk, 0, none⟩))) (val_move (v := (.pointer (some ⟨bk, 0, none⟩))) rfl) ?_
  refine rl_val rfl (v := (.slice a k c)) (val_move (v := (.slice a k c)) rfl) ?_
  refine rl_call rfl (ent_static (args := [(.pointer (some ⟨bk, 0, none⟩)), (.slice a k c)]) Tryz.func107 rfl rfl rfl rfl) (keepS_ok bk n m k c u1 u2 u3 u4 u5 u6 u7 u8 u9 u a xs r w hf hv hr hne hn hb) ?_
  rintro _ w1 ⟨rfl, hq⟩
  refine callQ_ret ?_
  refine rl_nil ?_
  exact ret_nil_post rfl ⟨rfl, hq⟩
end Go.Al
namespace Go.Al
open Go Go.RowKit Go.Proofs
set_option linter.unusedVariables false
set_option linter.unusedSimpArgs false
theorem val_buildSum {ρ : Operand → Value} {w : World} {ty : TypeId} {x : Operand} {a : UInt8} (hx : ρ x = v8 a) : Val Tryz.prog ρ w (.build 50 #[(0, x)]) ty (.agg ((a :: List.replicate 31 0).map v8).toArray) := by
  intro o ho hty
  simp only [execOp, ho]
  refine fin_val ?_
  have hz := zo_50
  unfold zeroOf at hz
  cases hi : Tryz.prog.info? 50 with
  | none => rw [hi] at hz; simp at hz
  | some inf =>
    rw [hi] at hz
    simp only [Option.bind_some] at hz
    cases hzz : inf.zero with
    | none => rw [hzz] at hz; simp at hz
    | some z =>
      rw [hzz] at hz
      simp only [Option.map_some, Option.some.injEq] at hz
      have hzc : z.cells = (List.replicate 32 (v8 0)).toArray := by apply Array.toList_inj.1; rw [hz]
      have hzv : (zeroValue 50 : Sem Value).run Tryz.prog w = .ok z w := by simp [zeroValue, go_sem, run_info hi, hzz]
      unfold Instr.build
      simp only [bind_assoc, pure_bind]
      rw [run_bind' hzv, run_bind' (run_under ua_50 w)]
      simp only
      rw [run_bind' (run_sizeOf ag_5 w)]
      simp only [List.map_toArray, List.map_cons, List.map_nil, hx, hzc]
      rfl
section
variable {P : Program} {E : List PanicEntry → World → Prop} {n : Nat} {ds : List Deferred} {ops : Array Oper} {K : Fr → World → Prop} {τ : Fr} {w0 w : World} {own : List Nat} {l l1 l2 r : List (Nat × Obj)}
variable {rest : List Oper} {ty : TypeId} {pos : String} {after : Array Edge} {d : Nat} {v v2 : Value} {S : World → Prop} {fl : List Nat} {plan : List (Nat × Bool)} {i j : Nat} {x y : Operand}
theorem eff_appendK {t e : TypeId} {sz by_ m k b off c : Nat} {zs xs news ls : List Value} (ht : elemZ P t = some (e, sz, by_, zs)) (hz : zs.length = sz) (hsz : 0 < sz) (hx : ev τ x = v) (hv : VecIs v m sz e xs r) (hm : Mem w0 own (l1 ++ (r ++ l2)) w)
    (hy : ev τ y = .slice (some ⟨b, off, none⟩) k c) (hb : RowL w b ls) (hnews : (ls.drop off).take (k * sz) = news) (hl : news.length = k * sz) (h1 : ∀ u ∈ news, u.one = true) (h63 : m + k ≤ 1099511627776) (hby : by_ ≤ 128) :
    ∃ v' r' w', Eff P (ev τ) w (.call { callee := .builtin .append, args := #[x, y], argTypes := #[t, t] }) ty v' w' ∧ VecIs v' (m + k) sz e (xs ++ news) r' ∧ ((∃ a c, v = .slice a m c ∧ v' = .slice a (m + k) c ∧ Mem w0 own (l1 ++ (r' ++ l2)) w') ∨ Mem w0 own (l1 ++ (r ++ (r' ++ l2))) w') := by
  by_cases hk0 : k = 0
  · subst hk0
    have hn0 : news = [] := List.eq_nil_of_length_eq_zero (by rw [hl]; simp)
    subst hn0
    obtain ⟨a0, cc, rfl, _⟩ := hv.form
    exact ⟨_, r, w, eff_append0 ht hx hv hy, by simpa using hv, .inl ⟨a0, cc, rfl, rfl, hm⟩⟩
  obtain ⟨hu, i, z, hi, hzz, hs, hbb, hzc⟩ := elemZ_spec ht
  subst hs
  subst hbb
  have hbytes : (m + k) * i.bytes ≤ 140737488355328 := Nat.le_trans (Nat.mul_le_mul h63 hby) (by decide)
  have hzs : z.cells.size = i.size := by rw [← hz, ← hzc]; simp
  have hnw := run_firstCellsSl (c := c) hb hnews hl
  have h1' : ∀ u ∈ news, u.oneCell' = true := fun u hu => by rw [one_eq]; exact h1 u hu
  have heff : ∀ v' w', (Builtin.append_ #[t, t] ty #[v, .slice (some ⟨b, off, none⟩) k c]).run P w = .ok v' w' → Eff P (ev τ) w (.call { callee := .builtin .append, args := #[x, y], argTypes := #[t, t] }) ty v' w' := by
    intro v' w' hr o hop hty
    simp only [execOp, hop, resolve]
    simp only [List.map_toArray, List.map_cons, List.map_nil, hx, hy, pure_bind, invoke, builtin]
    refine fin_eff ?_
    rw [hty]; exact hr
  have hdrew : ∀ o : Obj, Mem w [] [(w.heap.size, o)] (w.drew.alloc o) := fun o => by
    have := (Mem.init w).drew.alloc o
    exact this
  rcases hv with ⟨rfl, rfl, rfl, rfl⟩ | ⟨g, cap, rs, rfl, h2, h3, h4, h5, rfl⟩
  · have hr := run_append_nil (P := P) w t ty e i z hu hi hzz ⟨b, off, none⟩ k c news hl hnw (by omega) (by omega) (by have hb := hbytes; simp only [Nat.zero_add] at hb; omega)
    have harr : ∀ Z : Array Value, news.toArray ++ Z = (news ++ Z.toList).toArray := fun Z => by apply Array.ext'; simp
    rw [harr] at hr
    have hge := grownCap_ge w k 0 e
    have hcm := grownCap_le_maxLen w k 0 e (by rw [maxLen_val]; omega)
    refine ⟨_, [(w.heap.size, row (news ++ (Builtin.zeroCells z.cells (grownCap w k 0 e - k)).toList) e)], _, heff _ _ hr, .inr ⟨w.heap.size, grownCap w k 0 e, (Builtin.zeroCells z.cells (grownCap w k 0 e - k)).toList, by simp, by omega, hcm, by simpa using hl, ?_, by simp⟩, ?_⟩
    · simp only [List.nil_append, List.length_append, Array.length_toList, size_zeroCells, hzs, hl, ← Nat.add_mul]
      exact Nat.mul_le_mul_right _ (by omega)
    · have := hm.callNil (hdrew (row (news ++ (Builtin.zeroCells z.cells (grownCap w k 0 e - k)).toList) e))
      exact .inr (by simpa [row] using this)
  · have hg : w.heap[g]? = some (row (xs ++ rs) e) := hm.rows (g, row (xs ++ rs) e) (by simp)
    by_cases hroom : m + k ≤ cap
    · have hmk := Nat.mul_le_mul_right i.size hroom
      rw [Nat.add_mul] at hmk
      have hr := run_append_room (P := P) w t ty e i hu hi g m cap (xs ++ rs).toArray hg ⟨b, off, none⟩ k c news hl hnw h1' hroom (by rw [hl]; simp only [List.size_toArray]; omega)
      have hrow : (((xs ++ rs).toArray.toList.take (m * i.size) ++ news ++ (xs ++ rs).toArray.toList.drop (m * i.size + news.length)).toArray) = ((xs ++ news) ++ (xs ++ rs).drop (m * i.size + news.length)).toArray := by
        simp only [List.append_assoc]
        congr 2
        rw [← h4, List.take_left]
      rw [hrow] at hr
      refine ⟨_, [(g, row ((xs ++ news) ++ (xs ++ rs).drop (m * i.size + news.length)) e)], _, heff _ _ hr, .inr ⟨g, cap, _, rfl, hroom, h3, by rw [List.length_append, h4, hl, Nat.add_mul], ?_, rfl⟩, ?_⟩
      · simp only [List.length_append, List.length_drop, h4, hl] at h5 ⊢
        omega
      · refine .inl ⟨_, _, rfl, rfl, ?_⟩
        refine Mem.callMid (w := w) (b := g) (o := row (xs ++ rs) e) (l3 := [(g, _)]) (by simpa using hm) ⟨rfl, rfl, rfl, by simp, fun j hj hn => setRow_other w g j _ (by intro h; exact hn (by simp [h])), ?_, by simp, by simp⟩
        intro p hp
        simp only [List.mem_singleton] at hp
        subst hp
        exact setRow_heap w g _ _ e _ hg
    · have hold : ∀ j u, xs[j]? = some u → w.cell? ((⟨g, 0, none⟩ : Addr).add j) = some u := by
        intro j u hj
        have hjl := (List.getElem?_eq_some_iff.1 hj).1
        rw [add_mk, RowF.cell (⟨e, (0, 0), hg⟩ : RowF w g (xs ++ rs).toArray)]
        simp only [Nat.zero_add, List.getElem?_toArray]
        rw [List.getElem?_append_left hjl]; exact hj
      have hr := run_append_grow (P := P) w t ty e i z hu hi hzz ⟨g, 0, none⟩ m cap xs h4 hold ⟨b, off, none⟩ k c news hl hnw (by omega) (by omega) (growslice_fits (by omega) hbytes)
      have harr : ∀ Z : Array Value, xs.toArray ++ news.toArray ++ Z = ((xs ++ news) ++ Z.toList).toArray := fun Z => by apply Array.ext'; simp
      rw [harr] at hr
      have hge := grownCap_ge w (m + k) cap e
      have hcm := grownCap_le_maxLen w (m + k) cap e (by rw [maxLen_val]; omega)
      refine ⟨_, [(w.heap.size, row ((xs ++ news) ++ (Builtin.zeroCells z.cells (grownCap w (m + k) cap e - (m + k))).toList) e)], _, heff _ _ hr, .inr ⟨w.heap.size, grownCap w (m + k) cap e, _, rfl, hge, hcm, by rw [List.length_append, h4, hl, Nat.add_mul], ?_, rfl⟩, ?_⟩
      · simp only [List.length_append, Array.length_toList, size_zeroCells, hzs, h4, hl, ← Nat.add_mul]
        exact Nat.mul_le_mul_right _ (by omega)
      · have h6 := (hm.cast (l2 := (l1 ++ [(g, row (xs ++ rs) e)]) ++ l2) (by simp)).callNil (hdrew (row ((xs ++ news) ++ (Builtin.zeroCells z.cells (grownCap w (m + k) cap e - (m + k))).toList) e))
        exact .inr (by simpa [row] using h6)
/-- m elements that are all mk. -/
def repM (mk : List Value) (m : Nat) : List Value := (List.replicate m mk).flatten
theorem repM_len (mk : List Value) (m : Nat) : (repM mk m).length = m * mk.length := by simp [repM]
theorem repM_succ (mk : List Value) (m : Nat) : repM mk (m + 1) = repM mk m ++ mk := by simp [repM, List.replicate_succ']
theorem repM_add (mk : List Value) (m k : Nat) : repM mk (m + k) = repM mk m ++ repM mk k := by unfold repM; rw [← List.flatten_append, List.replicate_append_replicate]
theorem repM_take {mk : List Value} {sz : Nat} (h : mk.length = sz) (m k : Nat) : (repM mk (m + k)).take (m * sz) = repM mk m := by
  rw [repM_add, ← h, ← repM_len, List.take_left]
theorem repM_at {mk : List Value} {sz m i : Nat} (h : mk.length = sz) (hi : i < m) : ((repM mk m).drop (i * sz)).take sz = mk := by
  obtain ⟨k, rfl⟩ : ∃ k, m = i + (1 + k) := ⟨m - i - 1, by omega⟩
  rw [repM_add, ← h, ← repM_len, List.drop_left, repM_add]
  simp [repM]
/-- A list that is held, and what has grown of it. -/
def GrowQ (sz : Nat) (e : TypeId) (mk : List Value) (m q : Nat) (v lg : Value) (r : List (Nat × Obj)) : Prop :=
  (∃ a c, v = .slice a m c ∧ lg = .slice a (m + q) c ∧ VecIs lg (m + q) sz e (repM mk (m + q)) r) ∨
  (∃ r0 rk, r = r0 ++ rk ∧ VecIs v m sz e (repM mk m) r0 ∧ VecIs lg (m + q) sz e (repM mk (m + q)) rk)
theorem GrowQ.zero {sz : Nat} {e : TypeId} {mk : List Value} {m : Nat} {v : Value} (h : VecIs v m sz e (repM mk m) r) : GrowQ sz e mk m 0 v v r := by
  obtain ⟨a, c, rfl, _⟩ := h.form
  exact .inl ⟨a, c, rfl, rfl, h⟩
theorem GrowQ.form {sz : Nat} {e : TypeId} {mk : List Value} {m q : Nat} {v lg : Value} (h : GrowQ sz e mk m q v lg r) : ∃ a c, lg = .slice a (m + q) c := by
  rcases h with ⟨a, c, _, rfl, _⟩ | ⟨r0, rk, _, _, h⟩
  · exact ⟨a, c, rfl⟩
  · obtain ⟨a, c, rfl, _⟩ := h.form; exact ⟨a, c, rfl⟩
/-- What is held and what has grown of it read so. -/
theorem GrowQ.reads {sz : Nat} {e : TypeId} {mk : List Value} {m q : Nat} {v lg : Value} (hk : mk.length = sz) (h : GrowQ sz e mk m q v lg r) (hm : Mem w0 own l w) (hs : ∀ p ∈ r, p ∈ l) : SlIs w [] v sz m (repM mk m) ∧ SlIs w [] lg sz (m + q) (repM mk (m + q)) := by
  rcases h with ⟨a, c, rfl, rfl, h⟩ | ⟨r0, rk, rfl, h1, h2⟩
  · have hc := h.cut (m := m) rfl (by omega)
    rw [repM_take hk] at hc
    exact ⟨hc.sl hm (fun p hp => ⟨hs p hp, by simp⟩), h.sl hm (fun p hp => ⟨hs p hp, by simp⟩)⟩
  · exact ⟨h1.sl hm (fun p hp => ⟨hs p (by simp [hp]), by simp⟩), h2.sl hm (fun p hp => ⟨hs p (by simp [hp]), by simp⟩)⟩
theorem eff_grow {t e : TypeId} {sz by_ m q b off c : Nat} {zs mk ls : List Value} (ht : elemZ P t = some (e, sz, by_, zs)) (hz : zs.length = sz) (hsz : 0 < sz) {lg : Value} (hx : ev τ x = lg) (hG : GrowQ sz e mk m q v lg r) (hm : Mem w0 own (l1 ++ (r ++ l2)) w)
    (hy : ev τ y = .slice (some ⟨b, off, none⟩) 1 c) (hb : RowL w b ls) (hnews : (ls.drop off).take sz = mk) (hk : mk.length = sz) (h1 : ∀ u ∈ mk, u.one = true) (h63 : m + q + 1 ≤ 1099511627776) (hby : by_ ≤ 128) :
    ∃ lg' r' w', Eff P (ev τ) w (.call { callee := .builtin .append, args := #[x, y], argTypes := #[t, t] }) ty lg' w' ∧ GrowQ sz e mk m (q + 1) v lg' r' ∧ Mem w0 own (l1 ++ (r' ++ l2)) w' := by
  rcases hG with ⟨a, cc, rfl, rfl, hv⟩ | ⟨r0, rk, rfl, hv0, hv⟩
  · obtain ⟨v', r', w', he, hv', hcase⟩ := eff_appendK (P := P) (ty := ty) ht hz hsz hx hv hm hy hb (news := mk) (by simpa using hnews) (by simp [hk]) h1 h63 hby
    rw [← repM_succ] at hv'
    rcases hcase with ⟨a2, c2, h2, rfl, hm'⟩ | hm'
    · cases h2
      exact ⟨_, r', w', he, .inl ⟨_, _, rfl, rfl, hv'⟩, hm'⟩
    · have hc := hv.cut (m := m) rfl (by omega)
      rw [repM_take hk] at hc
      exact ⟨_, r ++ r', w', he, .inr ⟨r, r', rfl, hc, hv'⟩, by simpa only [List.append_assoc] using hm'⟩
  · obtain ⟨v', r', w', he, hv', hcase⟩ := eff_appendK (P := P) (ty := ty) (l1 := l1 ++ r0) ht hz hsz hx hv (by simpa only [List.append_assoc] using hm) hy hb (news := mk) (by simpa using hnews) (by simp [hk]) h1 h63 hby
    rw [← repM_succ] at hv'
    rcases hcase with ⟨a2, c2, h2, rfl, hm'⟩ | hm'
    · exact ⟨_, r0 ++ r', w', he, .inr ⟨r0, r', rfl, hv0, hv'⟩, by simpa only [List.append_assoc] using hm'⟩
    · refine ⟨_, r0 ++ r', w', he, .inr ⟨r0, r', rfl, hv0, hv'⟩, ?_⟩
      have := hm'.sub (l2 := (l1 ++ r0) ++ (r' ++ l2)) ((List.Sublist.refl _).append (List.sublist_append_right _ _))
      simpa only [List.append_assoc] using this
theorem rl_grow {t e : TypeId} {sz by_ m q b off c : Nat} {zs mk ls : List Value} {lg : Value} (hd : Nat.blt d n = true) (ht : elemZ P t = some (e, sz, by_, zs)) (hz : zs.length = sz) (hsz : 0 < sz) (hby : by_ ≤ 128) (hx : ev τ x = lg) (hy : ev τ y = .slice (some ⟨b, off, none⟩) 1 c) (hG : GrowQ sz e mk m q v lg r) (hm : Mem w0 own (l1 ++ (r ++ l2)) w)
    (hb : RowL w b ls) (hnews : (ls.drop off).take sz = mk) (hk : mk.length = sz) (h1 : ∀ u ∈ mk, u.one = true) (h63 : m + q + 1 ≤ 1099511627776)
    (h : ∀ lg' r' w', GrowQ sz e mk m (q + 1) v lg' r' → Mem w0 own (l1 ++ (r' ++ l2)) w' → RL P E n ops rest K (upd τ d lg') w') :
    RL P E n ops (⟨some d, .call { callee := .builtin .append, args := #[x, y], argTypes := #[t, t] }, ty, pos, after, none⟩ :: rest) K τ w := by
  obtain ⟨lg', r', w', h2, h3, h4⟩ := eff_grow (P := P) (ty := ty) ht hz hsz hx hG hm hy hb hnews hk h1 h63 hby
  exact rl_eff hd h2 (h _ _ _ h3 h4)
end
/-- Held: the list, what has grown of it, how many, its number, what it reads, its rows. -/
structure HP where
  v : Value
  lg : Value
  n : Nat
  k : Nat
  xs : List Value
  r : List (Nat × Obj)
def heldC (ps : List HP) : List Value := ps.flatMap fun p => [p.v, p.lg, vI (p.k : Int)]
def rowsC (ps : List HP) : List (Nat × Obj) := ps.flatMap (·.r)
theorem heldC_app (a b : List HP) : heldC (a ++ b) = heldC a ++ heldC b := by simp [heldC]
theorem heldC_cons (p : HP) (b : List HP) : heldC (p :: b) = [p.v, p.lg, vI (p.k : Int)] ++ heldC b := rfl
theorem rowsC_cons (p : HP) (b : List HP) : rowsC (p :: b) = p.r ++ rowsC b := by simp [rowsC]
@[simp] theorem heldC_len (ps : List HP) : (heldC ps).length = ps.length * 3 := by
  induction ps with
  | nil => rfl
  | cons p ps ih => rw [heldC_cons, List.length_append, ih]; simp; omega
theorem held_cell {D E : List HP} {p : HP} {xs : List Value} {off m i : Nat} (h : (xs.drop off).take (m * 3) = heldC (D ++ p :: E)) (hi : D.length = i) (him : i < m) : (xs.drop (off + i * 3)).take 3 = [p.v, p.lg, vI (p.k : Int)] := by
  subst hi
  have h2 : (((xs.drop off).take (m * 3)).drop (D.length * 3)).take 3 = [p.v, p.lg, vI (p.k : Int)] := by
    rw [h, heldC_app, ← heldC_len, List.drop_left, heldC_cons]; rfl
  rw [List.drop_take, List.take_take, List.drop_drop] at h2
  rw [← h2]
  congr 1
  omega
theorem held_put {D E : List HP} {p : HP} {rest : List Value} {i : Nat} {x : Value} (hi : D.length = i) : spl (heldC (D ++ p :: E) ++ rest) (i * 3 + 1) [x] = heldC (D ++ ⟨p.v, x, p.n, p.k, p.xs, p.r⟩ :: E) ++ rest := by
  subst hi
  rw [heldC_app, heldC_app, heldC_cons, heldC_cons]
  have e : ((heldC D ++ ([p.v, p.lg, vI (p.k : Int)] ++ heldC E)) ++ rest) = (heldC D ++ [p.v]) ++ (p.lg :: (vI (p.k : Int) :: (heldC E ++ rest))) := by simp
  rw [e]
  unfold spl
  have e2 : D.length * 3 + 1 = (heldC D ++ [p.v]).length := by simp
  rw [e2, List.take_left, List.length_singleton, ← List.drop_drop, List.drop_left]
  simp
def fillC (mk : List Value) (q sz : Nat) (xs : List Value) : List Value := repM mk q ++ xs.drop (q * sz)
theorem fillC_zero (mk : List Value) (sz : Nat) (xs : List Value) : fillC mk 0 sz xs = xs := by simp [fillC, repM]
theorem fillC_len {mk : List Value} {q sz m : Nat} {xs : List Value} (hk : mk.length = sz) (hx : xs.length = m * sz) (hq : q ≤ m) : (fillC mk q sz xs).length = m * sz := by
  have := Nat.mul_le_mul_right sz hq
  simp [fillC, repM_len, hk, hx]; omega
theorem fillC_done {mk : List Value} {sz m : Nat} {xs : List Value} (hx : xs.length = m * sz) : fillC mk m sz xs = repM mk m := by
  unfold fillC; rw [List.drop_of_length_le (by omega), List.append_nil]
theorem fillC_put {mk : List Value} {q sz m off : Nat} {xs rest : List Value} (hk : mk.length = sz) (hx : xs.length = m * sz) (hq : q < m) (ho : off = q * sz) : spl (fillC mk q sz xs ++ rest) off mk = fillC mk (q + 1) sz xs ++ rest := by
  subst ho
  have h1 : (repM mk q).length = q * sz := by rw [repM_len, hk]
  have h2 := Nat.mul_le_mul_right sz (show q + 1 ≤ m from hq)
  have h3 : (xs.drop (q * sz)).drop sz = xs.drop ((q + 1) * sz) := by rw [List.drop_drop, Nat.succ_mul]
  have h4 : sz ≤ (xs.drop (q * sz)).length := by rw [List.length_drop, hx]; rw [Nat.succ_mul] at h2; omega
  unfold spl fillC
  rw [repM_succ, ← h3]
  generalize xs.drop (q * sz) = D at h4
  rw [← h1, List.append_assoc (repM mk q) D rest, List.take_left, ← List.drop_drop, List.drop_left, hk, List.drop_append_of_le_length h4]
  simp only [List.append_assoc]
theorem perm_pull {α : Type} (l1 a b : List α) (x : α) : (l1 ++ (a ++ ([x] ++ (b ++ [])))).Perm ((l1 ++ [x]) ++ (a ++ (b ++ []))) := by
  simp only [List.append_nil, List.append_assoc]
  refine List.Perm.append_left l1 ?_
  rw [← List.append_assoc, ← List.append_assoc]
  exact List.perm_append_comm.append_right b
end Go.Al
namespace Go.Al
open Go Go.RowKit Go.Proofs
set_option linter.unusedVariables false
set_option linter.unusedSimpArgs false
def sumM (k : Nat) : List UInt8 := UInt8.ofNat k :: List.replicate 31 0
@[simp] theorem sumM_len (k : Nat) : (sumM k).length = 32 := by simp [sumM]
theorem mark8_ok (k : Nat) (w : World) : Calls Tryz.prog 217 [vI (k : Int)].toArray w (Ret w (v8 (UInt8.ofNat k))) := by
  have hm := Mem.init w
  refine calls_enter (n := 5) Tryz.func217 rfl rfl rfl ?_
  refine wp_sr (E := noPanic) noPanic_imp ?_
  refine rl_val rfl (v := (v8 0)) (val_assign (v := (v8 0)) rfl) ?_
  refine rl_nil ?_
  refine wp_sr (E := noPanic) noPanic_imp ?_
  refine rl_val rfl (v := (vI (k : Int))) (val_move (v := (vI (k : Int))) rfl) ?_
  refine rl_val rfl (v := (v8 (UInt8.ofNat k))) (val_cast (val_conv ut_3 ui_5 rfl) (by rw [u8_nat])) ?_
  refine rl_val rfl (v := (v8 (UInt8.ofNat k))) (val_assign (v := (v8 (UInt8.ofNat k))) rfl) ?_
  refine rl_nil ?_
  exact WP.ret (post_rets rfl (vs := [v8 (UInt8.ofNat k)]) ⟨rfl, trivial⟩ rfl ⟨rfl, hm⟩)
theorem is8_ok (k : Nat) (w : World) : Calls Tryz.prog 226 [v8 (UInt8.ofNat k), vI (k : Int)].toArray w (Ret w (.bool true)) := by
  have hm := Mem.init w
  refine calls_enter (n := 9) Tryz.func226 rfl rfl rfl ?_
  refine wp_sr (E := noPanic) noPanic_imp ?_
  refine rl_val rfl (v := (.bool false)) (val_assign (v := (.bool false)) rfl) ?_
  refine rl_nil ?_
  refine wp_sr (E := noPanic) noPanic_imp ?_
  refine rl_val rfl (v := (v8 (UInt8.ofNat k))) (val_move (v := (v8 (UInt8.ofNat k))) rfl) ?_
  refine rl_val rfl (v := (vI (k : Int))) (val_move (v := (vI (k : Int))) rfl) ?_
  refine rl_val rfl (v := (v8 (UInt8.ofNat k))) (val_cast (val_conv ut_3 ui_5 rfl) (by rw [u8_nat])) ?_
  refine rl_val rfl (v := (.bool true)) (val_cast (val_eq (p := ((UInt8.ofNat k).toNat : Int)) (q := ((UInt8.ofNat k).toNat : Int)) rfl rfl) (by simp)) ?_
  refine rl_val rfl (v := (.bool true)) (val_assign (v := (.bool true)) rfl) ?_
  refine rl_nil ?_
  exact WP.ret (post_rets rfl (vs := [.bool true]) ⟨rfl, trivial⟩ rfl ⟨rfl, hm⟩)
theorem markS_ok (k : Nat) (w : World) : Calls Tryz.prog 221 [vI (k : Int)].toArray w (Ret w (.agg ((sumM k).map v8).toArray)) := by
  have hm := Mem.init w
  refine calls_enter (n := 6) Tryz.func221 rfl rfl rfl ?_
  refine wp_sr (E := noPanic) noPanic_imp ?_
  refine rl_alloc (xs := List.replicate 32 (v8 0)) rfl zo_50 hm ?_
  intro b1 w2 hm
  refine rl_nil ?_
  refine wp_sr (E := noPanic) noPanic_imp ?_
  refine rl_val rfl (v := (vI (k : Int))) (val_move (v := (vI (k : Int))) rfl) ?_
  refine rl_val rfl (v := (v8 (UInt8.ofNat k))) (val_cast (val_conv ut_3 ui_5 rfl) (by rw [u8_nat])) ?_
  refine rl_val rfl (v := (.agg ((sumM k).map v8).toArray)) (val_buildSum (a := UInt8.ofNat k) rfl) ?_
  refine rl_store (i := 0) (off := 0) (xs := (List.replicate 32 (v8 0))) (vs := (sumM k).map v8) rfl rfl rfl ag_50 hm rfl rfl (by simp) (by simp) (one_map8 _) ?_
  intro w3 hm
  rw [spl_all (n := 32) (by simp) (by simp)] at hm
  replace hm : Mem w [] [(b1, row ((sumM k).map v8) 50)] w3 := hm
  refine rl_nil ?_
  exact WP.ret (post_rets rfl (vs := [.agg ((sumM k).map v8).toArray]) ⟨⟨true, 32, _, 0, _, rfl, ag_50, (hm.row (i := 0) rfl).l, by simp, by decide, by simp [rd, List.take_of_length_le]⟩, trivial⟩ rfl ⟨rfl, hm.nil⟩)
theorem isS_ok (k : Nat) (w : World) : Calls Tryz.prog 230 [.agg ((sumM k).map v8).toArray, vI (k : Int)].toArray w (Ret w (.bool true)) := by
  have hm := Mem.init w
  refine calls_enter (n := 10) Tryz.func230 rfl rfl rfl ?_
  refine wp_sr (E := noPanic) noPanic_imp ?_
  refine rl_box (v := (.agg ((sumM k).map v8).toArray)) (xs := (sumM k).map v8) rfl rfl rfl hm ?_
  intro b1 w2 hm
  refine rl_val rfl (v := (.bool false)) (val_assign (v := (.bool false)) rfl) ?_
  refine rl_nil ?_
  refine wp_sr (E := noPanic) noPanic_imp ?_
  refine rl_val rfl (v := (.agg ((sumM k).map v8).toArray)) (val_loadAll rfl ag_50 (hm.row (i := 0) rfl).l (by simp) (by decide)) ?_
  refine rl_val rfl (v := (vI (k : Int))) (val_move (v := (vI (k : Int))) rfl) ?_
  refine rl_val rfl (v := (v8 (UInt8.ofNat k))) (val_cast (val_conv ut_3 ui_5 rfl) (by rw [u8_nat])) ?_
  refine rl_val rfl (v := (.agg ((sumM k).map v8).toArray)) (val_buildSum (a := UInt8.ofNat k) rfl) ?_
  refine rl_val rfl (v := (.bool true)) (val_cast (val_eqSum (a := sumM k) (b := sumM k) (by simp) (by simp) rfl rfl) (by simp)) ?_
  refine rl_val rfl (v := (.bool true)) (val_assign (v := (.bool true)) rfl) ?_
  refine rl_nil ?_
  exact WP.ret (post_rets rfl (vs := [.bool true]) ⟨rfl, trivial⟩ rfl ⟨rfl, hm.nil⟩)
end Go.Al
namespace Go.Al
open Go Go.RowKit Go.Proofs
set_option linter.unusedVariables false
set_option linter.unusedSimpArgs false
def mkB (k : Nat) : List Value := [v8 (UInt8.ofNat k)]
def mkS (k : Nat) : List Value := (sumM k).map v8
def HOk (sz : Nat) (e : TypeId) (p : HP) : Prop := VecIs p.v p.n sz e p.xs p.r ∧ p.lg.one = true ∧ p.n ≤ 1000000 ∧ p.k ≤ 1000000
def HFill (sz : Nat) (e : TypeId) (mk : Nat → List Value) (p : HP) : Prop := HOk sz e p ∧ p.xs = repM (mk p.k) p.n
def HGrown (sz : Nat) (e : TypeId) (mk : Nat → List Value) (p : HP) : Prop := GrowQ sz e (mk p.k) p.n 40 p.v p.lg p.r ∧ p.n ≤ 1000000 ∧ p.k ≤ 1000000
theorem list_split {α : Type} {l : List α} {i : Nat} (h : i < l.length) : ∃ D p E, l = D ++ p :: E ∧ D.length = i :=
  ⟨l.take i, l[i], l.drop (i + 1), by simp, by simp; omega⟩
theorem held_row {D E : List HP} {p : HP} {rest : List Value} {i : Nat} (hi : D.length = i) : ((heldC (D ++ p :: E) ++ rest).drop (i * 3)).take 3 = [p.v, p.lg, vI (p.k : Int)] := by
  subst hi
  rw [heldC_app, heldC_cons, List.append_assoc, ← heldC_len, List.drop_left]; rfl
theorem rep_at1 {xs : List Value} {off m q k : Nat} (h : (xs.drop off).take (m * 1) = repM (mkB k) m) (hq : q < m) : xs[off + q]? = some (v8 (UInt8.ofNat k)) := by
  rw [take_at h hq]
  have h2 := repM_at (mk := mkB k) (sz := 1) rfl hq
  rw [Nat.mul_one] at h2
  have h3 := congrArg (fun l => l[0]?) h2
  simpa [mkB] using h3
theorem rep_atS {xs : List Value} {off m q k : Nat} (h : (xs.drop off).take (m * 32) = repM (mkS k) m) (hq : q < m) : (xs.drop (off + q * 32)).take 32 = (sumM k).map v8 := by
  have h2 := repM_at (mk := mkS k) (sz := 32) (by simp [mkS]) hq
  rw [← h, List.drop_take, List.drop_drop, List.take_take] at h2
  rw [show (sumM k).map v8 = mkS k from rfl, ← h2]
  congr 1
  omega
theorem fillB_ok (bk n : Nat) (u1 u2 u3 u4 u5 u6 u7 u8 u9 : Value) (a : Option Addr) (c : Nat) (ps : List HP) (own0 : List Nat) (w : World) (hbk : RowL w bk [vI (n : Int), (.slice a ps.length c), u2, u3, u4, u5, u6, u7, u8, u9]) (hbn : bk ∉ own0) (ho : (rowsC ps).map (·.1) = own0)
    (hs : SlIs w own0 (.slice a ps.length c) 3 ps.length (heldC ps)) (hnd : ((rowsC ps).map (·.1)).Nodup) (hl : ∀ p ∈ rowsC ps, w.heap[p.1]? = some p.2) (hP : ∀ p ∈ ps, HOk 1 5 p) (hlen : ps.length ≤ 1000) :
    Calls Tryz.prog 108 [.pointer (some ⟨bk, 0, none⟩)].toArray w (fun e w' => e = .returned (.tuple #[]) ∧ ∃ qs, heldC qs = heldC ps ∧ (∀ p ∈ qs, HFill 1 5 mkB p) ∧ qs.length = ps.length ∧ Mem w own0 (rowsC qs) w') := by
  have hm := ho ▸ Mem.initL hnd hl
  refine calls_enter (n := 35) Tryz.func108 rfl rfl rfl ?_
  refine wp_sr (E := noPanic) noPanic_imp ?_
  refine rl_val rfl (v := (vI 0)) (val_assign (v := (vI 0)) rfl) ?_
  refine rl_nil ?_
  refine WP.block ?_
  refine WP.loop (fun mz τ w' => ∃ (i : Nat) (D : List HP) (E : List HP), ps.length - i = mz ∧ heldC (D ++ E) = heldC ps ∧ D.length = i ∧ (D ++ E).length = ps.length ∧ (∀ p ∈ D, HFill 1 5 mkB p) ∧ (∀ p ∈ E, HOk 1 5 p) ∧ Mem w own0 ([] ++ ((rowsC D) ++ ((rowsC E) ++ []))) w' ∧ τ 0 = (.pointer (some ⟨bk, 0, none⟩)) ∧ τ 2 = (vI (i : Int))) (ps.length) ?_ ?_
  · exact ⟨0, [], ps, rfl, rfl, rfl, rfl, by intro p hp; simp at hp, hP, (by simpa [rowsC] using hm), rfl, (by first | rfl | (refine int_eq ?_; simp; try omega) | (refine int_eq ?_; omega))⟩
  · rintro kk2 τ wl1 ⟨i, D, E, hk3, hDE, hlD, hlE, hD, hE, hm, hs4, hs5⟩
    refine WP.seq ?_
    refine wp_sr (E := noPanic) noPanic_imp ?_
    refine rl_val rfl (v := (vI (i : Int))) (val_move (v := (vI (i : Int))) hs5) ?_
    refine rl_val rfl (v := (.pointer (some ⟨bk, 0, none⟩))) (val_move (v := (.pointer (some ⟨bk, 0, none⟩))) hs4) ?_
    refine rl_val rfl (v := (.pointer (some ⟨bk, 0, none⟩))) (val_nilCheck rfl) ?_
    refine rl_val rfl (v := (.pointer (some ⟨bk, 1, none⟩))) (val_fieldAddr (d := 1) rfl fo_37_1) ?_
    refine rl_val rfl (v := (.slice a ps.length c)) (val_load1 (v := (.slice a ps.length c)) (off := 1) rfl ag_27 (hm.getL hbk hbn) rfl) ?_
    refine rl_val rfl (v := (vI (ps.length : Nat))) (val_lenSl (t := 27) rfl us_27 rfl) ?_
    refine rl_val rfl (v := (.bool (decide (((i : Int) : Int) < (ps.length : Nat))))) (val_lt (p := (i : Int)) (q := (ps.length : Nat)) rfl rfl) ?_
    refine rl_nil ?_
    refine WP.cond (b := decide (((i : Int) : Int) < (ps.length : Nat))) rfl (fun hb => ?_) (fun hb => ?_)
    ·
      have hq6 := of_decide_eq_true hb
      have hil : i < ps.length := by omega
      obtain ⟨p, E', rfl⟩ : ∃ p E', E = p :: E' := by cases E with | nil => (simp at hlE; omega) | cons p E' => exact ⟨p, E', rfl⟩
      obtain ⟨v1, lg1, n1, k1, xs1, r1⟩ := p
      obtain ⟨hv1, hg1, hn1, hk1⟩ := hE _ List.mem_cons_self
      dsimp only at hv1 hg1 hn1 hk1
      obtain ⟨av, cv, rfl, hcv, _⟩ := hv1.form
      have hxl := hv1.len
      replace hm : Mem w own0 ([] ++ ((rowsC D) ++ (r1 ++ ((rowsC E') ++ [])))) wl1 := by simpa only [rowsC_cons, List.append_assoc] using hm
      obtain ⟨b, off, xs, rfl, hbn2, hr, hcs, hle, hnc⟩ := hs.pos (by omega)
      rw [← hDE] at hcs
      refine WP.skip ?_
      refine WP.seq (WP.block ?_)
      refine wp_sr (E := noPanic) noPanic_imp ?_
      refine rl_val rfl (v := (.pointer (some ⟨bk, 0, none⟩))) (val_move (v := (.pointer (some ⟨bk, 0, none⟩))) hs4) ?_
      refine rl_val rfl (v := (.pointer (some ⟨bk, 0, none⟩))) (val_nilCheck rfl) ?_
      refine rl_val rfl (v := (.pointer (some ⟨bk, 1, none⟩))) (val_fieldAddr (d := 1) rfl fo_37_1) ?_
      refine rl_val rfl (v := (.slice (some ⟨b, off, none⟩) ps.length c)) (val_load1 (v := (.slice (some ⟨b, off, none⟩) ps.length c)) (off := 1) rfl ag_27 (hm.getL hbk hbn) rfl) ?_
      refine rl_val rfl (v := (vI (i : Int))) (val_move (v := (vI (i : Int))) hs5) ?_
      refine rl_val rfl (v := (.pointer (some ⟨b, off + (i * 3), none⟩))) (val_cast (val_indexSl (i := (i : Int)) (sz := 3) rfl rfl es_27 (by omega)) (ptr_eq (by omega))) ?_
      refine rl_val rfl (v := (.agg ([(.slice av n1 cv), lg1, (vI (k1 : Int))]).toArray)) (val_loadA (m := [(.slice av n1 cv), lg1, (vI (k1 : Int))]) (off := off + i * 3) rfl ag_213 (hm.getL hr hbn2) (held_cell hcs hlD hil) (by omega) (by decide)) ?_
      refine rl_alloc (xs := [(.slice none 0 0), (.slice none 0 0), (vI 0)]) rfl zo_213 hm ?_
      intro b7 w8 hm
      refine rl_store (i := 0) (off := 0) (xs := ([(.slice none 0 0), (.slice none 0 0), (vI 0)])) (vs := [(.slice av n1 cv), lg1, (vI (k1 : Int))]) rfl rfl rfl ag_213 hm rfl rfl (by simp) (by simp) (ones_cons rfl (ones_cons hg1 (ones_cons rfl ones_nil))) ?_
      intro w9 hm
      rw [spl_all (n := 3) (by simp) (by simp)] at hm
      replace hm : Mem w own0 ([(b7, row ([(.slice av n1 cv), lg1, (vI (k1 : Int))]) 213)] ++ ((rowsC D) ++ (r1 ++ ((rowsC E') ++ [])))) w9 := hm
      refine rl_nil ?_
      refine wp_sr (E := noPanic) noPanic_imp ?_
      refine rl_val rfl (v := (vI 0)) (val_assign (v := (vI 0)) rfl) ?_
      refine rl_nil ?_
      refine WP.block ?_
      refine WP.loop (fun mz τ w' => ∃ (q : Nat) (rq : List (Nat × Obj)), n1 - q = mz ∧ q ≤ n1 ∧ VecIs (.slice av n1 cv) n1 1 5 (fillC (mkB k1) q 1 xs1) rq ∧ Mem w own0 ([(b7, row ([(.slice av n1 cv), lg1, (vI (k1 : Int))]) 213)] ++ ((rowsC D) ++ (rq ++ ((rowsC E') ++ [])))) w' ∧ τ 0 = (.pointer (some ⟨bk, 0, none⟩)) ∧ τ 2 = (vI (i : Int)) ∧ τ 3 = (.pointer (some ⟨b7, 0, none⟩)) ∧ τ 4 = (vI (q : Int))) (n1) ?_ ?_
      · exact ⟨0, r1, rfl, by omega, by rw [fillC_zero]; exact hv1, hm, hs4, hs5, rfl, (by first | rfl | (refine int_eq ?_; simp; try omega) | (refine int_eq ?_; omega))⟩
      · rintro kk11 τ wl10 ⟨q, rq, hk12, hq, hvq, hm, hs13, hs14, hs15, hs16⟩
        refine WP.seq ?_
        refine wp_sr (E := noPanic) noPanic_imp ?_
        refine rl_val rfl (v := (vI (q : Int))) (val_move (v := (vI (q : Int))) hs16) ?_
        refine rl_val rfl (v := (.pointer (some ⟨b7, 0, none⟩))) (val_fieldAddr (d := 0) hs15 fo_213_0) ?_
        refine rl_val rfl (v := (.slice av n1 cv)) (val_load1 (v := (.slice av n1 cv)) (off := 0) rfl ag_38 (hm.row (i := 0) rfl).l rfl) ?_
        refine rl_val rfl (v := (vI (n1 : Nat))) (val_lenSl (t := 38) rfl us_38 rfl) ?_
        refine rl_val rfl (v := (.bool (decide (((q : Int) : Int) < (n1 : Nat))))) (val_lt (p := (q : Int)) (q := (n1 : Nat)) rfl rfl) ?_
        refine rl_nil ?_
        refine WP.cond (b := decide (((q : Int) : Int) < (n1 : Nat))) rfl (fun hb => ?_) (fun hb => ?_)
        ·
          have hq17 := of_decide_eq_true hb
          have hqn : q < n1 := by omega
          obtain ⟨g, cap, rest, heq, hc1, hc2, hc3, hc4, rfl⟩ := hvq.pos (by omega)
          obtain rfl : av = some ⟨g, 0, none⟩ := by cases heq; rfl
          have hcc : cv = cap := by cases heq; rfl
          subst hcc
          have hfl := fillC_len (mk := (mkB k1)) (by simp [mkB]) hxl (Nat.le_of_lt hqn)
          replace hm := hm.perm (perm_pull [(b7, row ([(.slice (some ⟨g, 0, none⟩) n1 cv), lg1, (vI (k1 : Int))]) 213)] (rowsC D) (rowsC E') _)
          replace hm : Mem w own0 ([(b7, row ([(.slice (some ⟨g, 0, none⟩) n1 cv), lg1, (vI (k1 : Int))]) 213), (g, row (fillC (mkB k1) q 1 xs1 ++ rest) 5)] ++ ((rowsC D) ++ ((rowsC E') ++ []))) wl10 := by simpa only [List.append_assoc, List.nil_append, List.append_nil, List.cons_append] using hm
          refine WP.skip ?_
          refine WP.seq (WP.block ?_)
          refine wp_df (E := noPanic) [(0, true), (1, true), (2, true), (3, true), (4, true), (5, false), (6, false), (7, false)] [1, 4] mixed (by kernel_rfl) (by kernel_rfl) rfl (fun w' => Mem w own0 ([(b7, row ([(.slice (some ⟨g, 0, none⟩) n1 cv), lg1, (vI (k1 : Int))]) 213), (g, row (fillC (mkB k1) q 1 xs1 ++ rest) 5)] ++ ((rowsC D) ++ ((rowsC E') ++ []))) w') noPanic_imp hm.drew ?_
          have hm := hm.drew
          refine rp_valp rfl rfl (v := (.pointer (some ⟨b7, 0, none⟩))) (fun w' => val_fieldAddr (d := 0) hs15 fo_213_0) ?_
          refine rp_val rfl rfl (v := (.slice (some ⟨g, 0, none⟩) n1 cv)) (fun w' hs => val_load1 (v := (.slice (some ⟨g, 0, none⟩) n1 cv)) (off := 0) rfl ag_38 (hs.row (i := 0) rfl).l rfl) ?_
          refine rp_valp rfl rfl (v := (vI (q : Int))) (fun w' => val_move (v := (vI (q : Int))) hs16) ?_
          refine rp_valp rfl rfl (v := (.pointer (some ⟨b7, 2, none⟩))) (fun w' => val_fieldAddr (d := 2) hs15 fo_213_2) ?_
          refine rp_val rfl rfl (v := (vI (k1 : Int))) (fun w' hs => val_load1 (v := (vI (k1 : Int))) (off := 2) rfl ag_3 (hs.row (i := 0) rfl).l rfl) ?_
          refine rp_call rfl rfl (ent_static (args := [(vI (k1 : Int))]) Tryz.func217 rfl rfl rfl rfl) (mark8_ok k1 _) ?_
          rintro _ w18 ⟨rfl, h19⟩
          refine callQ_ret ?_
          refine ⟨.inr ((hm.call h19).sub (by ((try (simp only [List.append_assoc, List.nil_append, List.append_nil, List.cons_append])); repeat (first | exact List.nil_sublist _ | exact List.Sublist.refl _ | with_reducible refine List.Sublist.cons_cons _ ?_ | with_reducible refine List.Sublist.append (List.Sublist.refl _) ?_ | with_reducible exact List.sublist_append_left _ _ | refine List.Sublist.cons _ ?_ | refine List.Sublist.trans ?_ (List.sublist_append_right _ _))))), ?_⟩
          replace hm : Mem w own0 ([(b7, row ([(.slice (some ⟨g, 0, none⟩) n1 cv), lg1, (vI (k1 : Int))]) 213), (g, row (fillC (mkB k1) q 1 xs1 ++ rest) 5)] ++ ((rowsC D) ++ ((rowsC E') ++ []))) w18 := hm.call h19
          refine rp_vale rfl rfl (v := (.pointer (some ⟨g, q, none⟩))) (val_cast (val_indexSl (i := (q : Int)) (sz := 1) rfl rfl es_38 (by omega)) (ptr_eq (by omega))) (.inl (by kernel_rfl)) ?_
          refine rp_store (i := 1) (off := q) (xs := (fillC (mkB k1) q 1 xs1 ++ rest)) (vs := [(v8 (UInt8.ofNat k1))]) rfl rfl rfl rfl ag_5 hm rfl rfl rfl (by rw [List.length_append, hfl]; omega) (by simp [Value.one]) (by kernel_rfl) ?_
          intro w20 hm
          rw [(show spl (fillC (mkB k1) q 1 xs1 ++ rest) (q) ([(v8 (UInt8.ofNat k1))]) = fillC (mkB k1) (q + 1) 1 xs1 ++ rest from fillC_put (mk := (mkB k1)) (by simp [mkB]) hxl hqn (by omega))] at hm
          replace hm : Mem w own0 ([(b7, row ([(.slice (some ⟨g, 0, none⟩) n1 cv), lg1, (vI (k1 : Int))]) 213), (g, row (fillC (mkB k1) (q + 1) 1 xs1 ++ rest) 5)] ++ ((rowsC D) ++ ((rowsC E') ++ []))) w20 := hm
          refine rp_nil ?_
          refine wp_r (E := noPanic) noPanic_imp ?_
          refine rl_val rfl (v := (vI (q : Int))) (val_move (v := (vI (q : Int))) hs16) ?_
          refine rl_val rfl (v := (vI ((q : Int) + 1))) (val_addI (p := (q : Int)) (q := 1) rfl rfl (by omega)) ?_
          refine rl_val rfl (v := (vI ((q : Int) + 1))) (val_assign (v := (vI ((q : Int) + 1))) rfl) ?_
          refine rl_nil ?_
          exact ⟨n1 - (q + 1), by omega, ⟨q + 1, [(g, row (fillC (mkB k1) (q + 1) 1 xs1 ++ rest) 5)], rfl, by omega, VecIs.mk hc1 hc2 (fillC_len (by simp [mkB]) hxl (by omega)) (by rw [List.length_append, fillC_len (by simp [mkB]) hxl (by omega)]; rw [List.length_append, hfl] at hc4; omega), (by simpa only [List.append_assoc, List.nil_append, List.append_nil, List.cons_append] using hm.perm (perm_pull [(b7, row ([(.slice (some ⟨g, 0, none⟩) n1 cv), lg1, (vI (k1 : Int))]) 213)] (rowsC D) (rowsC E') _).symm), hs13, hs14, hs15, (by first | rfl | (refine int_eq ?_; simp; try omega) | (refine int_eq ?_; omega))⟩⟩
        ·
          have hq21 := of_decide_eq_false hb
          have hqe : n1 = q := by omega
          subst hqe
          rw [fillC_done hxl] at hvq
          replace hm := hm.sub (l2 := ([] ++ ((rowsC D) ++ (rq ++ ((rowsC E') ++ []))))) (by ((try (simp only [List.append_assoc, List.nil_append, List.append_nil, List.cons_append])); repeat (first | exact List.nil_sublist _ | exact List.Sublist.refl _ | with_reducible refine List.Sublist.cons_cons _ ?_ | with_reducible refine List.Sublist.append (List.Sublist.refl _) ?_ | with_reducible exact List.sublist_append_left _ _ | refine List.Sublist.cons _ ?_ | refine List.Sublist.trans ?_ (List.sublist_append_right _ _))))
          refine WP.exit ?_
          repeat (first | with_reducible refine exit_pass ?_ | with_reducible refine exit_other rfl ?_)
          refine blk_here ?_
          refine wp_r (E := noPanic) noPanic_imp ?_
          refine rl_val rfl (v := (vI (i : Int))) (val_move (v := (vI (i : Int))) hs14) ?_
          refine rl_val rfl (v := (vI ((i : Int) + 1))) (val_addI (p := (i : Int)) (q := 1) rfl rfl (by omega)) ?_
          refine rl_val rfl (v := (vI ((i : Int) + 1))) (val_assign (v := (vI ((i : Int) + 1))) rfl) ?_
          refine rl_nil ?_
          exact ⟨ps.length - (i + 1), by omega, ⟨i + 1, (D ++ [⟨.slice av n1 cv, lg1, n1, k1, repM (mkB k1) n1, rq⟩]), E', rfl, by rw [← hDE]; simp [heldC], by simp [hlD], by simpa [Nat.add_assoc, Nat.add_comm] using hlE, by intro p hp; rcases List.mem_append.1 hp with hp | hp; exact hD p hp; rw [List.mem_singleton.1 hp]; exact ⟨⟨hvq, hg1, hn1, hk1⟩, rfl⟩, fun p hp => hE p (List.mem_cons_of_mem _ hp), (by simpa [rowsC] using hm), hs13, (by first | rfl | (refine int_eq ?_; simp; try omega) | (refine int_eq ?_; omega))⟩⟩
    ·
      have hq22 := of_decide_eq_false hb
      obtain rfl : E = [] := List.eq_nil_of_length_eq_zero (by simp at hlE; omega)
      refine WP.exit ?_
      repeat (first | with_reducible refine exit_pass ?_ | with_reducible refine exit_other rfl ?_)
      refine blk_here ?_
      exact ret_nil_post rfl ⟨rfl, D, by simpa using hDE, hD, by simpa using hlE, by simpa [rowsC] using hm⟩
theorem growB_ok (bk n : Nat) (u1 u2 u3 u4 u5 u6 u7 u8 u9 : Value) (a : Option Addr) (c : Nat) (ps : List HP) (own0 : List Nat) (w : World) (r0 : List (Nat × Obj)) (hbk : RowL w bk [vI (n : Int), (.slice a ps.length c), u2, u3, u4, u5, u6, u7, u8, u9]) (hbn : bk ∉ own0) (ho : (r0 ++ rowsC ps).map (·.1) = own0)
    (hv0 : VecIs (.slice a ps.length c) ps.length 3 213 (heldC ps) r0) (hnd : ((r0 ++ rowsC ps).map (·.1)).Nodup) (hl : ∀ p ∈ r0 ++ rowsC ps, w.heap[p.1]? = some p.2) (hP : ∀ p ∈ ps, HFill 1 5 mkB p) (hlen : ps.length ≤ 1000) :
    Calls Tryz.prog 117 [.pointer (some ⟨bk, 0, none⟩)].toArray w (fun e w' => e = .returned (.tuple #[]) ∧ ∃ qs rB, VecIs (.slice a ps.length c) ps.length 3 213 (heldC qs) rB ∧ qs.length = ps.length ∧ (∀ p ∈ qs, HGrown 1 5 mkB p) ∧ Mem w own0 (rB ++ rowsC qs) w') := by
  have hm := ho ▸ Mem.initL hnd hl
  refine calls_enter (n := 42) Tryz.func117 rfl rfl rfl ?_
  refine wp_sr (E := noPanic) noPanic_imp ?_
  refine rl_val rfl (v := (vI 0)) (val_assign (v := (vI 0)) rfl) ?_
  refine rl_nil ?_
  refine WP.block ?_
  refine WP.loop (fun mz τ w' => ∃ (i : Nat) (D : List HP) (E : List HP) (rB : List (Nat × Obj)), ps.length - i = mz ∧ D.length = i ∧ (D ++ E).length = ps.length ∧ (∀ p ∈ D, HGrown 1 5 mkB p) ∧ (∀ p ∈ E, HFill 1 5 mkB p) ∧ VecIs (.slice a ps.length c) ps.length 3 213 (heldC (D ++ E)) rB ∧ Mem w own0 ([] ++ (rB ++ ((rowsC D) ++ ((rowsC E) ++ [])))) w' ∧ τ 0 = (.pointer (some ⟨bk, 0, none⟩)) ∧ τ 2 = (vI (i : Int))) (ps.length) ?_ ?_
  · exact ⟨0, [], ps, r0, rfl, rfl, rfl, by intro p hp; simp at hp, hP, hv0, (by simpa [rowsC] using hm), rfl, (by first | rfl | (refine int_eq ?_; simp; try omega) | (refine int_eq ?_; omega))⟩
  · rintro kk2 τ wl1 ⟨i, D, E, rB, hk3, hlD, hlE, hD, hE, hvB, hm, hs4, hs5⟩
    refine WP.seq ?_
    refine wp_sr (E := noPanic) noPanic_imp ?_
    refine rl_val rfl (v := (vI (i : Int))) (val_move (v := (vI (i : Int))) hs5) ?_
    refine rl_val rfl (v := (.pointer (some ⟨bk, 0, none⟩))) (val_move (v := (.pointer (some ⟨bk, 0, none⟩))) hs4) ?_
    refine rl_val rfl (v := (.pointer (some ⟨bk, 0, none⟩))) (val_nilCheck rfl) ?_
    refine rl_val rfl (v := (.pointer (some ⟨bk, 1, none⟩))) (val_fieldAddr (d := 1) rfl fo_37_1) ?_
    refine rl_val rfl (v := (.slice a ps.length c)) (val_load1 (v := (.slice a ps.length c)) (off := 1) rfl ag_27 (hm.getL hbk hbn) rfl) ?_
    refine rl_val rfl (v := (vI (ps.length : Nat))) (val_lenSl (t := 27) rfl us_27 rfl) ?_
    refine rl_val rfl (v := (.bool (decide (((i : Int) : Int) < (ps.length : Nat))))) (val_lt (p := (i : Int)) (q := (ps.length : Nat)) rfl rfl) ?_
    refine rl_nil ?_
    refine WP.cond (b := decide (((i : Int) : Int) < (ps.length : Nat))) rfl (fun hb => ?_) (fun hb => ?_)
    ·
      have hq6 := of_decide_eq_true hb
      have hil : i < ps.length := by omega
      obtain ⟨p, E', rfl⟩ : ∃ p E', E = p :: E' := by cases E with | nil => (simp at hlE; omega) | cons p E' => exact ⟨p, E', rfl⟩
      obtain ⟨v1, lg1, n1, k1, xs1, r1⟩ := p
      obtain ⟨⟨hv1, hg1, hn1, hk1⟩, hx1⟩ := hE _ List.mem_cons_self
      dsimp only at hv1 hg1 hn1 hk1 hx1
      subst hx1
      obtain ⟨av, cv, rfl, hcv, _⟩ := hv1.form
      have hxl := hv1.len
      obtain ⟨g0, cap0, rest0, heq0, hcB1, hcB2, hcB3, hcB4, rfl⟩ := hvB.pos (by omega)
      obtain rfl : a = some ⟨g0, 0, none⟩ := by cases heq0; rfl
      have hcc0 : c = cap0 := by cases heq0; rfl
      subst hcc0
      replace hm : Mem w own0 ([(g0, row (heldC (D ++ ⟨.slice av n1 cv, lg1, n1, k1, repM (mkB k1) n1, r1⟩ :: E') ++ rest0) 213)] ++ ((rowsC D) ++ (r1 ++ ((rowsC E') ++ [])))) wl1 := by simpa only [rowsC_cons, List.append_assoc, List.nil_append, List.append_nil, List.cons_append] using hm
      refine WP.skip ?_
      refine WP.seq (WP.block ?_)
      refine wp_sr (E := noPanic) noPanic_imp ?_
      refine rl_val rfl (v := (.pointer (some ⟨bk, 0, none⟩))) (val_move (v := (.pointer (some ⟨bk, 0, none⟩))) hs4) ?_
      refine rl_val rfl (v := (.pointer (some ⟨bk, 0, none⟩))) (val_nilCheck rfl) ?_
      refine rl_val rfl (v := (.pointer (some ⟨bk, 1, none⟩))) (val_fieldAddr (d := 1) rfl fo_37_1) ?_
      refine rl_val rfl (v := (.slice (some ⟨g0, 0, none⟩) ps.length c)) (val_load1 (v := (.slice (some ⟨g0, 0, none⟩) ps.length c)) (off := 1) rfl ag_27 (hm.getL hbk hbn) rfl) ?_
      refine rl_val rfl (v := (vI (i : Int))) (val_move (v := (vI (i : Int))) hs5) ?_
      refine rl_val rfl (v := (.pointer (some ⟨g0, i * 3, none⟩))) (val_cast (val_indexSl (i := (i : Int)) (sz := 3) rfl rfl es_27 (by omega)) (ptr_eq (by omega))) ?_
      refine rl_val rfl (v := (.agg ([(.slice av n1 cv), lg1, (vI (k1 : Int))]).toArray)) (val_loadA (m := [(.slice av n1 cv), lg1, (vI (k1 : Int))]) (off := i * 3) rfl ag_213 (hm.row (i := 0) rfl).l (held_row hlD) (by have := hcB4; simp at this hlE ⊢; omega) (by decide)) ?_
      refine rl_alloc (xs := [(.slice none 0 0), (.slice none 0 0), (vI 0)]) rfl zo_213 hm ?_
      intro b7 w8 hm
      refine rl_store (i := 0) (off := 0) (xs := ([(.slice none 0 0), (.slice none 0 0), (vI 0)])) (vs := [(.slice av n1 cv), lg1, (vI (k1 : Int))]) rfl rfl rfl ag_213 hm rfl rfl (by simp) (by simp) (ones_cons rfl (ones_cons hg1 (ones_cons rfl ones_nil))) ?_
      intro w9 hm
      rw [spl_all (n := 3) (by simp) (by simp)] at hm
      replace hm : Mem w own0 ([(b7, row ([(.slice av n1 cv), lg1, (vI (k1 : Int))]) 213), (g0, row (heldC (D ++ ⟨.slice av n1 cv, lg1, n1, k1, repM (mkB k1) n1, r1⟩ :: E') ++ rest0) 213)] ++ ((rowsC D) ++ (r1 ++ ((rowsC E') ++ [])))) w9 := hm
      refine rl_nil ?_
      refine wp_sr (E := noPanic) noPanic_imp ?_
      refine rl_val rfl (v := (.pointer (some ⟨b7, 0, none⟩))) (val_fieldAddr (d := 0) rfl fo_213_0) ?_
      refine rl_val rfl (v := (.slice av n1 cv)) (val_load1 (v := (.slice av n1 cv)) (off := 0) rfl ag_38 (hm.row (i := 0) rfl).l rfl) ?_
      refine rl_val rfl (v := (.slice av n1 cv)) (val_assign (v := (.slice av n1 cv)) rfl) ?_
      refine rl_nil ?_
      refine WP.seq ?_
      refine wp_sr (E := noPanic) noPanic_imp ?_
      refine rl_val rfl (v := (vI 0)) (val_assign (v := (vI 0)) rfl) ?_
      refine rl_nil ?_
      refine WP.block ?_
      refine WP.loop (fun mz τ w' => ∃ (q : Nat) (lgq : Value) (rq : List (Nat × Obj)), 40 - q = mz ∧ q ≤ 40 ∧ GrowQ 1 5 (mkB k1) n1 q (.slice av n1 cv) lgq rq ∧ Mem w own0 ([(b7, row ([(.slice av n1 cv), lg1, (vI (k1 : Int))]) 213), (g0, row (heldC (D ++ ⟨.slice av n1 cv, lg1, n1, k1, repM (mkB k1) n1, r1⟩ :: E') ++ rest0) 213)] ++ ((rowsC D) ++ (rq ++ ((rowsC E') ++ [])))) w' ∧ τ 0 = (.pointer (some ⟨bk, 0, none⟩)) ∧ τ 2 = (vI (i : Int)) ∧ τ 3 = (.pointer (some ⟨b7, 0, none⟩)) ∧ τ 4 = lgq ∧ τ 5 = (vI (q : Int))) (40) ?_ ?_
      · exact ⟨0, (.slice av n1 cv), r1, rfl, by omega, GrowQ.zero hv1, hm, hs4, hs5, rfl, rfl, (by first | rfl | (refine int_eq ?_; simp; try omega) | (refine int_eq ?_; omega))⟩
      · rintro kk11 τ wl10 ⟨q, lgq, rq, hk12, hq, hG, hm, hs13, hs14, hs15, hs16, hs17⟩
        refine WP.seq ?_
        refine wp_sr (E := noPanic) noPanic_imp ?_
        refine rl_val rfl (v := (vI (q : Int))) (val_move (v := (vI (q : Int))) hs17) ?_
        refine rl_val rfl (v := (.bool (decide (((q : Int) : Int) < 40)))) (val_lt (p := (q : Int)) (q := 40) rfl rfl) ?_
        refine rl_nil ?_
        refine WP.cond (b := decide (((q : Int) : Int) < 40)) rfl (fun hb => ?_) (fun hb => ?_)
        ·
          have hq18 := of_decide_eq_true hb
          have hq40 : q < 40 := by omega
          refine WP.skip ?_
          refine WP.seq (WP.block ?_)
          refine wp_r (E := noPanic) noPanic_imp ?_
          refine rl_val rfl (v := lgq) (val_move (v := lgq) hs16) ?_
          refine rl_val rfl (v := (.pointer (some ⟨b7, 2, none⟩))) (val_fieldAddr (d := 2) hs15 fo_213_2) ?_
          refine rl_val rfl (v := (vI (k1 : Int))) (val_load1 (v := (vI (k1 : Int))) (off := 2) rfl ag_3 (hm.row (i := 0) rfl).l rfl) ?_
          refine rl_call rfl (ent_static (args := [(vI (k1 : Int))]) Tryz.func217 rfl rfl rfl rfl) (mark8_ok k1 _) ?_
          rintro _ w19 ⟨rfl, h20⟩
          refine callQ_ret ?_
          replace hm : Mem w own0 ([(b7, row ([(.slice av n1 cv), lg1, (vI (k1 : Int))]) 213), (g0, row (heldC (D ++ ⟨.slice av n1 cv, lg1, n1, k1, repM (mkB k1) n1, r1⟩ :: E') ++ rest0) 213)] ++ ((rowsC D) ++ (rq ++ ((rowsC E') ++ [])))) w19 := hm.call h20
          refine rl_buildSlice (vs := [(v8 (UInt8.ofNat k1))]) (cs := [(v8 (UInt8.ofNat k1))]) rfl ez_38 rfl (parts_cons rfl (parts_nil)) rfl (by decide) (ones_size (ones_cons rfl (ones_nil))) (ones_flat (ones_cons rfl (ones_nil))) hm ?_
          intro b21 w22 hm
          refine rl_grow (mk := (mkB k1)) (l1 := [(b21, row ([(v8 (UInt8.ofNat k1))]) 5), (b7, row ([(.slice av n1 cv), lg1, (vI (k1 : Int))]) 213), (g0, row (heldC (D ++ ⟨.slice av n1 cv, lg1, n1, k1, repM (mkB k1) n1, r1⟩ :: E') ++ rest0) 213)] ++ (rowsC D)) (l2 := (rowsC E') ++ []) (r := rq) (b := b21) (off := 0) rfl ez_38 rfl (by decide) (by decide) rfl rfl hG (by simpa only [List.append_assoc, List.nil_append, List.append_nil, List.cons_append] using hm) (hm.row (i := 0) rfl).l rfl (by simp [mkB]) (ones_cons rfl ones_nil) (by omega) ?_
          intro vv23 r24 w26 hG25 hm
          replace hm : Mem w own0 ([(b7, row ([(.slice av n1 cv), lg1, (vI (k1 : Int))]) 213), (g0, row (heldC (D ++ ⟨.slice av n1 cv, lg1, n1, k1, repM (mkB k1) n1, r1⟩ :: E') ++ rest0) 213)] ++ ((rowsC D) ++ (r24 ++ ((rowsC E') ++ [])))) w26 := (by simpa only [List.append_assoc, List.nil_append, List.append_nil, List.cons_append] using hm : Mem w own0 ((b21, row ([(v8 (UInt8.ofNat k1))]) 5) :: ([(b7, row ([(.slice av n1 cv), lg1, (vI (k1 : Int))]) 213), (g0, row (heldC (D ++ ⟨.slice av n1 cv, lg1, n1, k1, repM (mkB k1) n1, r1⟩ :: E') ++ rest0) 213)] ++ ((rowsC D) ++ (r24 ++ ((rowsC E') ++ []))))) w26).drop 1
          refine rl_val rfl (v := vv23) (val_assign (v := vv23) rfl) ?_
          refine rl_nil ?_
          refine wp_r (E := noPanic) noPanic_imp ?_
          refine rl_val rfl (v := (vI (q : Int))) (val_move (v := (vI (q : Int))) hs17) ?_
          refine rl_val rfl (v := (vI ((q : Int) + 1))) (val_addI (p := (q : Int)) (q := 1) rfl rfl (by omega)) ?_
          refine rl_val rfl (v := (vI ((q : Int) + 1))) (val_assign (v := (vI ((q : Int) + 1))) rfl) ?_
          refine rl_nil ?_
          exact ⟨40 - (q + 1), by omega, ⟨q + 1, vv23, r24, rfl, by omega, hG25, hm, hs13, hs14, hs15, rfl, (by first | rfl | (refine int_eq ?_; simp; try omega) | (refine int_eq ?_; omega))⟩⟩
        ·
          have hq27 := of_decide_eq_false hb
          have hqe : q = 40 := by omega
          subst hqe
          obtain ⟨al, cl, rfl⟩ := hG.form
          replace hm := hm.sub (l2 := ([(g0, row (heldC (D ++ ⟨.slice av n1 cv, lg1, n1, k1, repM (mkB k1) n1, r1⟩ :: E') ++ rest0) 213)] ++ ((rowsC D) ++ (rq ++ ((rowsC E') ++ []))))) (by ((try (simp only [List.append_assoc, List.nil_append, List.append_nil, List.cons_append])); repeat (first | exact List.nil_sublist _ | exact List.Sublist.refl _ | with_reducible refine List.Sublist.cons_cons _ ?_ | with_reducible refine List.Sublist.append (List.Sublist.refl _) ?_ | with_reducible exact List.sublist_append_left _ _ | refine List.Sublist.cons _ ?_ | refine List.Sublist.trans ?_ (List.sublist_append_right _ _))))
          refine WP.exit ?_
          repeat (first | with_reducible refine exit_pass ?_ | with_reducible refine exit_other rfl ?_)
          refine blk_here ?_
          refine wp_r (E := noPanic) noPanic_imp ?_
          refine rl_val rfl (v := (.pointer (some ⟨bk, 0, none⟩))) (val_move (v := (.pointer (some ⟨bk, 0, none⟩))) hs13) ?_
          refine rl_val rfl (v := (.pointer (some ⟨bk, 0, none⟩))) (val_nilCheck rfl) ?_
          refine rl_val rfl (v := (.pointer (some ⟨bk, 1, none⟩))) (val_fieldAddr (d := 1) rfl fo_37_1) ?_
          refine rl_val rfl (v := (.slice (some ⟨g0, 0, none⟩) ps.length c)) (val_load1 (v := (.slice (some ⟨g0, 0, none⟩) ps.length c)) (off := 1) rfl ag_27 (hm.getL hbk hbn) rfl) ?_
          refine rl_val rfl (v := (vI (i : Int))) (val_move (v := (vI (i : Int))) hs14) ?_
          refine rl_val rfl (v := (.slice al (n1 + 40) cl)) (val_move (v := (.slice al (n1 + 40) cl)) hs16) ?_
          refine rl_val rfl (v := (.pointer (some ⟨g0, i * 3, none⟩))) (val_cast (val_indexSl (i := (i : Int)) (sz := 3) rfl rfl es_27 (by omega)) (ptr_eq (by omega))) ?_
          refine rl_val rfl (v := (.pointer (some ⟨g0, i * 3 + 1, none⟩))) (val_fieldAddr (d := 1) rfl fo_213_1) ?_
          refine rl_store (i := 0) (off := i * 3 + 1) (xs := (heldC (D ++ ⟨.slice av n1 cv, lg1, n1, k1, repM (mkB k1) n1, r1⟩ :: E') ++ rest0)) (vs := [(.slice al (n1 + 40) cl)]) rfl rfl rfl ag_38 hm rfl rfl rfl (by simp at hlE ⊢; omega) (by simp [Value.one]) ?_
          intro w28 hm
          rw [held_put hlD] at hm
          replace hm : Mem w own0 ([(g0, row (heldC (D ++ ⟨.slice av n1 cv, .slice al (n1 + 40) cl, n1, k1, repM (mkB k1) n1, r1⟩ :: E') ++ rest0) 213)] ++ ((rowsC D) ++ (rq ++ ((rowsC E') ++ [])))) w28 := hm
          refine rl_nil ?_
          refine wp_r (E := noPanic) noPanic_imp ?_
          refine rl_val rfl (v := (vI (i : Int))) (val_move (v := (vI (i : Int))) hs14) ?_
          refine rl_val rfl (v := (vI ((i : Int) + 1))) (val_addI (p := (i : Int)) (q := 1) rfl rfl (by omega)) ?_
          refine rl_val rfl (v := (vI ((i : Int) + 1))) (val_assign (v := (vI ((i : Int) + 1))) rfl) ?_
          refine rl_nil ?_
          exact ⟨ps.length - (i + 1), by omega, ⟨i + 1, (D ++ [⟨.slice av n1 cv, .slice al (n1 + 40) cl, n1, k1, repM (mkB k1) n1, rq⟩]), E', [(g0, row (heldC (D ++ ⟨.slice av n1 cv, .slice al (n1 + 40) cl, n1, k1, repM (mkB k1) n1, r1⟩ :: E') ++ rest0) 213)], rfl, by simp [hlD], by simpa [Nat.add_assoc, Nat.add_comm] using hlE, by intro p hp; rcases List.mem_append.1 hp with hp | hp; exact hD p hp; rw [List.mem_singleton.1 hp]; exact ⟨hG, hn1, hk1⟩, fun p hp => hE p (List.mem_cons_of_mem _ hp), by have := VecIs.mk (g := g0) (e := 213) (rest := rest0) (xs := heldC ((D ++ [⟨.slice av n1 cv, .slice al (n1 + 40) cl, n1, k1, repM (mkB k1) n1, rq⟩]) ++ E')) hcB1 hcB2 (sz := 3) (by rw [heldC_len]; simp; simp at hlE; omega) (by simp at hcB4 ⊢; omega); simpa [heldC] using this, (by simpa [rowsC, heldC] using hm), hs13, (by first | rfl | (refine int_eq ?_; simp; try omega) | (refine int_eq ?_; omega))⟩⟩
    ·
      have hq29 := of_decide_eq_false hb
      obtain rfl : E = [] := List.eq_nil_of_length_eq_zero (by simp at hlE; omega)
      refine WP.exit ?_
      repeat (first | with_reducible refine exit_pass ?_ | with_reducible refine exit_other rfl ?_)
      refine blk_here ?_
      exact ret_nil_post rfl ⟨rfl, D, rB, by simpa using hvB, by simpa using hlE, hD, by simpa [rowsC] using hm⟩
theorem lookB_ok (bk n : Nat) (u1 u2 u3 u4 u5 u6 u7 u8 u9 : Value) (a : Option Addr) (c : Nat) (ps : List HP) (w : World) (hbk : RowL w bk [vI (n : Int), (.slice a ps.length c), u2, u3, u4, u5, u6, u7, u8, u9])
    (hs : SlIs w [] (.slice a ps.length c) 3 ps.length (heldC ps)) (hP : ∀ p ∈ ps, SlIs w [] p.v 1 p.n (repM (mkB p.k) p.n) ∧ SlIs w [] p.lg 1 (p.n + 40) (repM (mkB p.k) (p.n + 40)) ∧ p.n ≤ 1000000 ∧ p.k ≤ 1000000) (hlen : ps.length ≤ 1000) :
    Calls Tryz.prog 126 [.pointer (some ⟨bk, 0, none⟩)].toArray w (Ret w (.bool true)) := by
  have hm := Mem.init w
  refine calls_enter (n := 64) Tryz.func126 rfl rfl rfl ?_
  refine wp_sr (E := noPanic) noPanic_imp ?_
  refine rl_val rfl (v := (.bool false)) (val_assign (v := (.bool false)) rfl) ?_
  refine rl_nil ?_
  refine WP.seq ?_
  refine wp_sr (E := noPanic) noPanic_imp ?_
  refine rl_val rfl (v := (vI 0)) (val_assign (v := (vI 0)) rfl) ?_
  refine rl_nil ?_
  refine WP.block ?_
  refine WP.loop (fun mz τ w' => ∃ (i : Nat), ps.length - i = mz ∧ i ≤ ps.length ∧ Mem w [] [] w' ∧ τ 0 = (.pointer (some ⟨bk, 0, none⟩)) ∧ τ 3 = (vI (i : Int))) (ps.length) ?_ ?_
  · exact ⟨0, rfl, by omega, hm, rfl, (by first | rfl | (refine int_eq ?_; simp; try omega) | (refine int_eq ?_; omega))⟩
  · rintro kk2 τ wl1 ⟨i, hk3, hi, hm, hs4, hs5⟩
    refine WP.seq ?_
    refine wp_sr (E := noPanic) noPanic_imp ?_
    refine rl_val rfl (v := (vI (i : Int))) (val_move (v := (vI (i : Int))) hs5) ?_
    refine rl_val rfl (v := (.pointer (some ⟨bk, 0, none⟩))) (val_move (v := (.pointer (some ⟨bk, 0, none⟩))) hs4) ?_
    refine rl_val rfl (v := (.pointer (some ⟨bk, 0, none⟩))) (val_nilCheck rfl) ?_
    refine rl_val rfl (v := (.pointer (some ⟨bk, 1, none⟩))) (val_fieldAddr (d := 1) rfl fo_37_1) ?_
    refine rl_val rfl (v := (.slice a ps.length c)) (val_load1 (v := (.slice a ps.length c)) (off := 1) rfl ag_27 (hm.getL hbk (by simp)) rfl) ?_
    refine rl_val rfl (v := (vI (ps.length : Nat))) (val_lenSl (t := 27) rfl us_27 rfl) ?_
    refine rl_val rfl (v := (.bool (decide (((i : Int) : Int) < (ps.length : Nat))))) (val_lt (p := (i : Int)) (q := (ps.length : Nat)) rfl rfl) ?_
    refine rl_nil ?_
    refine WP.cond (b := decide (((i : Int) : Int) < (ps.length : Nat))) rfl (fun hb => ?_) (fun hb => ?_)
    ·
      have hq6 := of_decide_eq_true hb
      have hil : i < ps.length := by omega
      obtain ⟨D, p, E', hps, hlD⟩ := list_split hil
      obtain ⟨hs1, hs2, hn1, hk1⟩ := hP p (by rw [hps]; simp)
      obtain ⟨v1, lg1, n1, k1, xs1, r1⟩ := p
      dsimp only at hs1 hs2 hn1 hk1
      obtain ⟨av, cv, rfl, hcv⟩ := hs1.form
      obtain ⟨al, cl, rfl, hcl⟩ := hs2.form
      obtain ⟨b, off, xs, rfl, hbn2, hr, hcs, hle, hnc⟩ := hs.pos (by omega)
      have hcs2 := hcs
      rw [hps] at hcs2
      refine WP.skip ?_
      refine WP.seq (WP.block ?_)
      refine wp_sr (E := noPanic) noPanic_imp ?_
      refine rl_val rfl (v := (.pointer (some ⟨bk, 0, none⟩))) (val_move (v := (.pointer (some ⟨bk, 0, none⟩))) hs4) ?_
      refine rl_val rfl (v := (.pointer (some ⟨bk, 0, none⟩))) (val_nilCheck rfl) ?_
      refine rl_val rfl (v := (.pointer (some ⟨bk, 1, none⟩))) (val_fieldAddr (d := 1) rfl fo_37_1) ?_
      refine rl_val rfl (v := (.slice (some ⟨b, off, none⟩) ps.length c)) (val_load1 (v := (.slice (some ⟨b, off, none⟩) ps.length c)) (off := 1) rfl ag_27 (hm.getL hbk (by simp)) rfl) ?_
      refine rl_val rfl (v := (vI (i : Int))) (val_move (v := (vI (i : Int))) hs5) ?_
      refine rl_val rfl (v := (.pointer (some ⟨b, off + (i * 3), none⟩))) (val_cast (val_indexSl (i := (i : Int)) (sz := 3) rfl rfl es_27 (by omega)) (ptr_eq (by omega))) ?_
      refine rl_val rfl (v := (.agg ([(.slice av n1 cv), (.slice al (n1 + 40) cl), (vI (k1 : Int))]).toArray)) (val_loadA (m := [(.slice av n1 cv), (.slice al (n1 + 40) cl), (vI (k1 : Int))]) (off := off + i * 3) rfl ag_213 (hm.getL hr (by simp)) (held_cell (m := ps.length) (by rw [← hps]; exact hcs) hlD hil) (by omega) (by decide)) ?_
      refine rl_alloc (xs := [(.slice none 0 0), (.slice none 0 0), (vI 0)]) rfl zo_213 hm ?_
      intro b7 w8 hm
      refine rl_store (i := 0) (off := 0) (xs := ([(.slice none 0 0), (.slice none 0 0), (vI 0)])) (vs := [(.slice av n1 cv), (.slice al (n1 + 40) cl), (vI (k1 : Int))]) rfl rfl rfl ag_213 hm rfl rfl (by simp) (by simp) (ones_cons rfl (ones_cons rfl (ones_cons rfl ones_nil))) ?_
      intro w9 hm
      rw [spl_all (n := 3) (by simp) (by simp)] at hm
      replace hm : Mem w [] [(b7, row ([(.slice av n1 cv), (.slice al (n1 + 40) cl), (vI (k1 : Int))]) 213)] w9 := hm
      refine rl_nil ?_
      refine WP.seq ?_
      refine wp_sr (E := noPanic) noPanic_imp ?_
      refine rl_val rfl (v := (.pointer (some ⟨b7, 1, none⟩))) (val_fieldAddr (d := 1) rfl fo_213_1) ?_
      refine rl_val rfl (v := (.slice al (n1 + 40) cl)) (val_load1 (v := (.slice al (n1 + 40) cl)) (off := 1) rfl ag_38 (hm.row (i := 0) rfl).l rfl) ?_
      refine rl_val rfl (v := (vI ((n1 + 40) : Nat))) (val_lenSl (t := 38) rfl us_38 rfl) ?_
      refine rl_val rfl (v := (.pointer (some ⟨b7, 0, none⟩))) (val_fieldAddr (d := 0) rfl fo_213_0) ?_
      refine rl_val rfl (v := (.slice av n1 cv)) (val_load1 (v := (.slice av n1 cv)) (off := 0) rfl ag_38 (hm.row (i := 0) rfl).l rfl) ?_
      refine rl_val rfl (v := (vI (n1 : Nat))) (val_lenSl (t := 38) rfl us_38 rfl) ?_
      refine rl_val rfl (v := (vI ((n1 + 40 : Nat) : Int))) (val_cast (val_addI (p := (n1 : Nat)) (q := 40) rfl rfl (by omega)) (int_eq (by omega))) ?_
      refine rl_val rfl (v := (.bool false)) (val_cast (val_ne (p := ((n1 + 40 : Nat) : Int)) (q := ((n1 + 40 : Nat) : Int)) rfl rfl) (by simp)) ?_
      refine rl_nil ?_
      refine WP.cond_f rfl ?_
      refine WP.skip ?_
      refine wp_sr (E := noPanic) noPanic_imp ?_
      refine rl_val rfl (v := (vI 0)) (val_assign (v := (vI 0)) rfl) ?_
      refine rl_nil ?_
      refine WP.block ?_
      refine WP.loop (fun mz τ w' => ∃ (q : Nat), n1 + 40 - q = mz ∧ q ≤ n1 + 40 ∧ Mem w [] [(b7, row ([(.slice av n1 cv), (.slice al (n1 + 40) cl), (vI (k1 : Int))]) 213)] w' ∧ τ 0 = (.pointer (some ⟨bk, 0, none⟩)) ∧ τ 3 = (vI (i : Int)) ∧ τ 4 = (.pointer (some ⟨b7, 0, none⟩)) ∧ τ 5 = (vI (q : Int))) (n1 + 40) ?_ ?_
      · exact ⟨0, rfl, by omega, hm, hs4, hs5, rfl, (by first | rfl | (refine int_eq ?_; simp; try omega) | (refine int_eq ?_; omega))⟩
      · rintro kk11 τ wl10 ⟨q, hk12, hq, hm, hs13, hs14, hs15, hs16⟩
        refine WP.seq ?_
        refine wp_sr (E := noPanic) noPanic_imp ?_
        refine rl_val rfl (v := (vI (q : Int))) (val_move (v := (vI (q : Int))) hs16) ?_
        refine rl_val rfl (v := (.pointer (some ⟨b7, 1, none⟩))) (val_fieldAddr (d := 1) hs15 fo_213_1) ?_
        refine rl_val rfl (v := (.slice al (n1 + 40) cl)) (val_load1 (v := (.slice al (n1 + 40) cl)) (off := 1) rfl ag_38 (hm.row (i := 0) rfl).l rfl) ?_
        refine rl_val rfl (v := (vI ((n1 + 40) : Nat))) (val_lenSl (t := 38) rfl us_38 rfl) ?_
        refine rl_val rfl (v := (.bool (decide (((q : Int) : Int) < ((n1 + 40) : Nat))))) (val_lt (p := (q : Int)) (q := ((n1 + 40) : Nat)) rfl rfl) ?_
        refine rl_nil ?_
        refine WP.cond (b := decide (((q : Int) : Int) < ((n1 + 40) : Nat))) rfl (fun hb => ?_) (fun hb => ?_)
        ·
          have hq17 := of_decide_eq_true hb
          have hqn : q < n1 + 40 := by omega
          obtain ⟨bl, ol, xl, rfl, hbl, hrl, hcl1, hcl2, hcl3⟩ := hs2.pos (by omega)
          refine WP.skip ?_
          refine WP.seq (WP.block ?_)
          by_cases hqa : q < n1
          ·
            obtain ⟨ba, oa, xa, rfl, hba, hra, hca1, hca2, hca3⟩ := hs1.pos (by omega)
            refine wp_sd (E := noPanic) [(0, true), (1, true), (2, true), (3, true), (4, true), (5, true), (6, true), (7, false), (8, true), (9, true), (10, true), (11, true), (12, true), (13, true), (14, true), (15, true), (16, true), (17, true), (18, true), (19, true), (20, true), (21, true), (22, true), (23, false), (24, true), (25, true), (26, true)] mixed (by kernel_rfl) (by kernel_rfl) rfl (fun w' => Mem w [] [(b7, row ([(.slice (some ⟨ba, oa, none⟩) n1 cv), (.slice (some ⟨bl, ol, none⟩) (n1 + 40) cl), (vI (k1 : Int))]) 213)] w') noPanic_imp hm.drew ?_
            have hm := hm.drew
            refine rp_val rfl rfl (v := (.pointer (some ⟨b7, 1, none⟩))) (fun w' hs => val_fieldAddr (d := 1) hs15 fo_213_1) ?_
            refine rp_val rfl rfl (v := (.slice (some ⟨bl, ol, none⟩) (n1 + 40) cl)) (fun w' hs => val_load1 (v := (.slice (some ⟨bl, ol, none⟩) (n1 + 40) cl)) (off := 1) rfl ag_38 (hs.row (i := 0) rfl).l rfl) ?_
            refine rp_val rfl rfl (v := (vI (q : Int))) (fun w' hs => val_move (v := (vI (q : Int))) hs16) ?_
            refine rp_val rfl rfl (v := (.pointer (some ⟨bl, ol + q, none⟩))) (fun w' hs => val_cast (val_indexSl (i := (q : Int)) (sz := 1) rfl rfl es_38 (by omega)) (ptr_eq (by omega))) ?_
            refine rp_val rfl rfl (v := (v8 (UInt8.ofNat k1))) (fun w' hs => val_load1 (v := v8 (UInt8.ofNat k1)) (off := ol + q) rfl ag_5 (hs.getL hrl (by simp)) (rep_at1 hcl1 (by omega))) ?_
            refine rp_val rfl rfl (v := (.pointer (some ⟨b7, 2, none⟩))) (fun w' hs => val_fieldAddr (d := 2) hs15 fo_213_2) ?_
            refine rp_val rfl rfl (v := (vI (k1 : Int))) (fun w' hs => val_load1 (v := (vI (k1 : Int))) (off := 2) rfl ag_3 (hs.row (i := 0) rfl).l rfl) ?_
            refine rp_call rfl rfl (ent_static (args := [(v8 (UInt8.ofNat k1)), (vI (k1 : Int))]) Tryz.func226 rfl rfl rfl rfl) (is8_ok k1 _) ?_
            rintro _ w18 ⟨rfl, h19⟩
            refine callQ_ret ?_
            refine ⟨.inr ((hm.call h19).sub (by ((try (simp only [List.append_assoc, List.nil_append, List.append_nil, List.cons_append])); repeat (first | exact List.nil_sublist _ | exact List.Sublist.refl _ | with_reducible refine List.Sublist.cons_cons _ ?_ | with_reducible refine List.Sublist.append (List.Sublist.refl _) ?_ | with_reducible exact List.sublist_append_left _ _ | refine List.Sublist.cons _ ?_ | refine List.Sublist.trans ?_ (List.sublist_append_right _ _))))), ?_⟩
            replace hm : Mem w [] [(b7, row ([(.slice (some ⟨ba, oa, none⟩) n1 cv), (.slice (some ⟨bl, ol, none⟩) (n1 + 40) cl), (vI (k1 : Int))]) 213)] w18 := hm.call h19
            refine rp_val rfl rfl (v := (.bool false)) (fun w' hs => val_not (b := true) rfl) ?_
            refine rp_val rfl rfl (v := (.bool false)) (fun w' hs => val_move (v := (.bool false)) rfl) ?_
            refine rp_valg (g := some (9, false)) ⟨46, false, rfl, .inl ⟨rfl, rfl⟩⟩ rfl rfl (v := (vI (q : Int))) (fun w' hs => val_move (v := (vI (q : Int))) hs16) ?_
            refine rp_valg (g := some (9, false)) ⟨46, false, rfl, .inl ⟨rfl, rfl⟩⟩ rfl rfl (v := (.pointer (some ⟨b7, 0, none⟩))) (fun w' hs => val_fieldAddr (d := 0) hs15 fo_213_0) ?_
            refine rp_valg (g := some (9, false)) ⟨46, false, rfl, .inl ⟨rfl, rfl⟩⟩ rfl rfl (v := (.slice (some ⟨ba, oa, none⟩) n1 cv)) (fun w' hs => val_load1 (v := (.slice (some ⟨ba, oa, none⟩) n1 cv)) (off := 0) rfl ag_38 (hs.row (i := 0) rfl).l rfl) ?_
            refine rp_valg (g := some (9, false)) ⟨46, false, rfl, .inl ⟨rfl, rfl⟩⟩ rfl rfl (v := (vI (n1 : Nat))) (fun w' hs => val_lenSl (t := 38) rfl us_38 rfl) ?_
            refine rp_valg (g := some (9, false)) ⟨46, false, rfl, .inl ⟨rfl, rfl⟩⟩ rfl rfl (v := (.bool true)) (fun w' hs => val_cast (val_lt (p := (q : Int)) (q := (n1 : Nat)) rfl rfl) (by rw [decide_eq_true (by omega)])) ?_
            refine rp_valg (g := some (9, false)) ⟨46, false, rfl, .inl ⟨rfl, rfl⟩⟩ rfl rfl (v := (.bool true)) (fun w' hs => val_move (v := (.bool true)) rfl) ?_
            refine rp_valg (g := some (15, true)) ⟨52, true, rfl, .inl ⟨rfl, rfl⟩⟩ rfl rfl (v := (.pointer (some ⟨b7, 0, none⟩))) (fun w' hs => val_fieldAddr (d := 0) hs15 fo_213_0) ?_
            refine rp_valg (g := some (15, true)) ⟨52, true, rfl, .inl ⟨rfl, rfl⟩⟩ rfl rfl (v := (.slice (some ⟨ba, oa, none⟩) n1 cv)) (fun w' hs => val_load1 (v := (.slice (some ⟨ba, oa, none⟩) n1 cv)) (off := 0) rfl ag_38 (hs.row (i := 0) rfl).l rfl) ?_
            refine rp_valg (g := some (15, true)) ⟨52, true, rfl, .inl ⟨rfl, rfl⟩⟩ rfl rfl (v := (vI (q : Int))) (fun w' hs => val_move (v := (vI (q : Int))) hs16) ?_
            refine rp_valg (g := some (15, true)) ⟨52, true, rfl, .inl ⟨rfl, rfl⟩⟩ rfl rfl (v := (.pointer (some ⟨ba, oa + q, none⟩))) (fun w' hs => val_cast (val_indexSl (i := (q : Int)) (sz := 1) rfl rfl es_38 (by omega)) (ptr_eq (by omega))) ?_
            refine rp_valg (g := some (15, true)) ⟨52, true, rfl, .inl ⟨rfl, rfl⟩⟩ rfl rfl (v := (v8 (UInt8.ofNat k1))) (fun w' hs => val_load1 (v := v8 (UInt8.ofNat k1)) (off := oa + q) rfl ag_5 (hs.getL hra (by simp)) (rep_at1 hca1 (by omega))) ?_
            refine rp_valg (g := some (15, true)) ⟨52, true, rfl, .inl ⟨rfl, rfl⟩⟩ rfl rfl (v := (.pointer (some ⟨b7, 2, none⟩))) (fun w' hs => val_fieldAddr (d := 2) hs15 fo_213_2) ?_
            refine rp_valg (g := some (15, true)) ⟨52, true, rfl, .inl ⟨rfl, rfl⟩⟩ rfl rfl (v := (vI (k1 : Int))) (fun w' hs => val_load1 (v := (vI (k1 : Int))) (off := 2) rfl ag_3 (hs.row (i := 0) rfl).l rfl) ?_
            refine rp_callg (g := some (15, true)) ⟨52, true, rfl, .inl ⟨rfl, rfl⟩⟩ rfl rfl (ent_static (args := [(v8 (UInt8.ofNat k1)), (vI (k1 : Int))]) Tryz.func226 rfl rfl rfl rfl) (is8_ok k1 _) ?_
            rintro _ w20 ⟨rfl, h21⟩
            refine callQ_ret ?_
            refine ⟨.inr ((hm.call h21).sub (by ((try (simp only [List.append_assoc, List.nil_append, List.append_nil, List.cons_append])); repeat (first | exact List.nil_sublist _ | exact List.Sublist.refl _ | with_reducible refine List.Sublist.cons_cons _ ?_ | with_reducible refine List.Sublist.append (List.Sublist.refl _) ?_ | with_reducible exact List.sublist_append_left _ _ | refine List.Sublist.cons _ ?_ | refine List.Sublist.trans ?_ (List.sublist_append_right _ _))))), ?_⟩
            replace hm : Mem w [] [(b7, row ([(.slice (some ⟨ba, oa, none⟩) n1 cv), (.slice (some ⟨bl, ol, none⟩) (n1 + 40) cl), (vI (k1 : Int))]) 213)] w20 := hm.call h21
            refine rp_valg (g := some (15, true)) ⟨52, true, rfl, .inl ⟨rfl, rfl⟩⟩ rfl rfl (v := (.bool false)) (fun w' hs => val_not (b := true) rfl) ?_
            refine rp_valg (g := some (9, false)) ⟨46, false, rfl, .inl ⟨rfl, rfl⟩⟩ rfl rfl (v := (.bool false)) (fun w' hs => val_pick_t (v := .bool false) rfl rfl) ?_
            refine rp_val rfl rfl (v := (.bool false)) (fun w' hs => val_pick_f (v := .bool false) rfl rfl) ?_
            refine rp_nil ?_
            refine WP.cond_f rfl ?_
            refine WP.skip ?_
            refine wp_r (E := noPanic) noPanic_imp ?_
            refine rl_val rfl (v := (vI (q : Int))) (val_move (v := (vI (q : Int))) hs16) ?_
            refine rl_val rfl (v := (vI ((q : Int) + 1))) (val_addI (p := (q : Int)) (q := 1) rfl rfl (by omega)) ?_
            refine rl_val rfl (v := (vI ((q : Int) + 1))) (val_assign (v := (vI ((q : Int) + 1))) rfl) ?_
            refine rl_nil ?_
            exact ⟨n1 + 40 - (q + 1), by omega, ⟨q + 1, rfl, by omega, hm, hs13, hs14, hs15, (by first | rfl | (refine int_eq ?_; simp; try omega) | (refine int_eq ?_; omega))⟩⟩
          ·
            refine wp_sd (E := noPanic) [(0, true), (1, true), (2, true), (3, true), (4, true), (5, true), (6, true), (7, false), (8, true), (9, true), (10, true), (11, true), (12, true), (13, true), (14, true), (15, true), (16, true), (17, true), (18, true), (19, true), (20, true), (21, true), (22, true), (23, true), (24, true), (25, true), (26, true)] mixed (by kernel_rfl) (by kernel_rfl) rfl (fun w' => Mem w [] [(b7, row ([(.slice av n1 cv), (.slice (some ⟨bl, ol, none⟩) (n1 + 40) cl), (vI (k1 : Int))]) 213)] w') noPanic_imp hm.drew ?_
            have hm := hm.drew
            refine rp_val rfl rfl (v := (.pointer (some ⟨b7, 1, none⟩))) (fun w' hs => val_fieldAddr (d := 1) hs15 fo_213_1) ?_
            refine rp_val rfl rfl (v := (.slice (some ⟨bl, ol, none⟩) (n1 + 40) cl)) (fun w' hs => val_load1 (v := (.slice (some ⟨bl, ol, none⟩) (n1 + 40) cl)) (off := 1) rfl ag_38 (hs.row (i := 0) rfl).l rfl) ?_
            refine rp_val rfl rfl (v := (vI (q : Int))) (fun w' hs => val_move (v := (vI (q : Int))) hs16) ?_
            refine rp_val rfl rfl (v := (.pointer (some ⟨bl, ol + q, none⟩))) (fun w' hs => val_cast (val_indexSl (i := (q : Int)) (sz := 1) rfl rfl es_38 (by omega)) (ptr_eq (by omega))) ?_
            refine rp_val rfl rfl (v := (v8 (UInt8.ofNat k1))) (fun w' hs => val_load1 (v := v8 (UInt8.ofNat k1)) (off := ol + q) rfl ag_5 (hs.getL hrl (by simp)) (rep_at1 hcl1 (by omega))) ?_
            refine rp_val rfl rfl (v := (.pointer (some ⟨b7, 2, none⟩))) (fun w' hs => val_fieldAddr (d := 2) hs15 fo_213_2) ?_
            refine rp_val rfl rfl (v := (vI (k1 : Int))) (fun w' hs => val_load1 (v := (vI (k1 : Int))) (off := 2) rfl ag_3 (hs.row (i := 0) rfl).l rfl) ?_
            refine rp_call rfl rfl (ent_static (args := [(v8 (UInt8.ofNat k1)), (vI (k1 : Int))]) Tryz.func226 rfl rfl rfl rfl) (is8_ok k1 _) ?_
            rintro _ w22 ⟨rfl, h23⟩
            refine callQ_ret ?_
            refine ⟨.inr ((hm.call h23).sub (by ((try (simp only [List.append_assoc, List.nil_append, List.append_nil, List.cons_append])); repeat (first | exact List.nil_sublist _ | exact List.Sublist.refl _ | with_reducible refine List.Sublist.cons_cons _ ?_ | with_reducible refine List.Sublist.append (List.Sublist.refl _) ?_ | with_reducible exact List.sublist_append_left _ _ | refine List.Sublist.cons _ ?_ | refine List.Sublist.trans ?_ (List.sublist_append_right _ _))))), ?_⟩
            replace hm : Mem w [] [(b7, row ([(.slice av n1 cv), (.slice (some ⟨bl, ol, none⟩) (n1 + 40) cl), (vI (k1 : Int))]) 213)] w22 := hm.call h23
            refine rp_val rfl rfl (v := (.bool false)) (fun w' hs => val_not (b := true) rfl) ?_
            refine rp_val rfl rfl (v := (.bool false)) (fun w' hs => val_move (v := (.bool false)) rfl) ?_
            refine rp_valg (g := some (9, false)) ⟨46, false, rfl, .inl ⟨rfl, rfl⟩⟩ rfl rfl (v := (vI (q : Int))) (fun w' hs => val_move (v := (vI (q : Int))) hs16) ?_
            refine rp_valg (g := some (9, false)) ⟨46, false, rfl, .inl ⟨rfl, rfl⟩⟩ rfl rfl (v := (.pointer (some ⟨b7, 0, none⟩))) (fun w' hs => val_fieldAddr (d := 0) hs15 fo_213_0) ?_
            refine rp_valg (g := some (9, false)) ⟨46, false, rfl, .inl ⟨rfl, rfl⟩⟩ rfl rfl (v := (.slice av n1 cv)) (fun w' hs => val_load1 (v := (.slice av n1 cv)) (off := 0) rfl ag_38 (hs.row (i := 0) rfl).l rfl) ?_
            refine rp_valg (g := some (9, false)) ⟨46, false, rfl, .inl ⟨rfl, rfl⟩⟩ rfl rfl (v := (vI (n1 : Nat))) (fun w' hs => val_lenSl (t := 38) rfl us_38 rfl) ?_
            refine rp_valg (g := some (9, false)) ⟨46, false, rfl, .inl ⟨rfl, rfl⟩⟩ rfl rfl (v := (.bool false)) (fun w' hs => val_cast (val_lt (p := (q : Int)) (q := (n1 : Nat)) rfl rfl) (by rw [decide_eq_false (by omega)])) ?_
            refine rp_valg (g := some (9, false)) ⟨46, false, rfl, .inl ⟨rfl, rfl⟩⟩ rfl rfl (v := (.bool false)) (fun w' hs => val_move (v := (.bool false)) rfl) ?_
            refine rp_off (g := some (15, true)) ⟨52, false, rfl, .inl ⟨rfl, rfl⟩⟩ rfl rfl ?_
            refine rp_off (g := some (15, true)) ⟨52, false, rfl, .inl ⟨rfl, rfl⟩⟩ rfl rfl ?_
            refine rp_off (g := some (15, true)) ⟨52, false, rfl, .inl ⟨rfl, rfl⟩⟩ rfl rfl ?_
            refine rp_off (g := some (15, true)) ⟨52, false, rfl, .inl ⟨rfl, rfl⟩⟩ rfl rfl ?_
            refine rp_off (g := some (15, true)) ⟨52, false, rfl, .inl ⟨rfl, rfl⟩⟩ rfl rfl ?_
            refine rp_off (g := some (15, true)) ⟨52, false, rfl, .inl ⟨rfl, rfl⟩⟩ rfl rfl ?_
            refine rp_off (g := some (15, true)) ⟨52, false, rfl, .inl ⟨rfl, rfl⟩⟩ rfl rfl ?_
            refine rp_off (g := some (15, true)) ⟨52, false, rfl, .inl ⟨rfl, rfl⟩⟩ rfl rfl ?_
            refine rp_off (g := some (15, true)) ⟨52, false, rfl, .inl ⟨rfl, rfl⟩⟩ rfl rfl ?_
            refine rp_valg (g := some (9, false)) ⟨46, false, rfl, .inl ⟨rfl, rfl⟩⟩ rfl rfl (v := (.bool false)) (fun w' hs => val_pick_f (v := .bool false) rfl rfl) ?_
            refine rp_val rfl rfl (v := (.bool false)) (fun w' hs => val_pick_f (v := .bool false) rfl rfl) ?_
            refine rp_nil ?_
            refine WP.cond_f rfl ?_
            refine WP.skip ?_
            refine wp_r (E := noPanic) noPanic_imp ?_
            refine rl_val rfl (v := (vI (q : Int))) (val_move (v := (vI (q : Int))) hs16) ?_
            refine rl_val rfl (v := (vI ((q : Int) + 1))) (val_addI (p := (q : Int)) (q := 1) rfl rfl (by omega)) ?_
            refine rl_val rfl (v := (vI ((q : Int) + 1))) (val_assign (v := (vI ((q : Int) + 1))) rfl) ?_
            refine rl_nil ?_
            exact ⟨n1 + 40 - (q + 1), by omega, ⟨q + 1, rfl, by omega, hm, hs13, hs14, hs15, (by first | rfl | (refine int_eq ?_; simp; try omega) | (refine int_eq ?_; omega))⟩⟩
        ·
          have hq24 := of_decide_eq_false hb
          have hqe : q = n1 + 40 := by omega
          replace hm := hm.nil
          refine WP.exit ?_
          repeat (first | with_reducible refine exit_pass ?_ | with_reducible refine exit_other rfl ?_)
          refine blk_here ?_
          refine wp_r (E := noPanic) noPanic_imp ?_
          refine rl_val rfl (v := (vI (i : Int))) (val_move (v := (vI (i : Int))) hs14) ?_
          refine rl_val rfl (v := (vI ((i : Int) + 1))) (val_addI (p := (i : Int)) (q := 1) rfl rfl (by omega)) ?_
          refine rl_val rfl (v := (vI ((i : Int) + 1))) (val_assign (v := (vI ((i : Int) + 1))) rfl) ?_
          refine rl_nil ?_
          exact ⟨ps.length - (i + 1), by omega, ⟨i + 1, rfl, by omega, hm, hs13, (by first | rfl | (refine int_eq ?_; simp; try omega) | (refine int_eq ?_; omega))⟩⟩
    ·
      have hq25 := of_decide_eq_false hb
      refine WP.exit ?_
      repeat (first | with_reducible refine exit_pass ?_ | with_reducible refine exit_other rfl ?_)
      refine blk_here ?_
      refine wp_sr (E := noPanic) noPanic_imp ?_
      refine rl_val rfl (v := (.bool true)) (val_assign (v := (.bool true)) rfl) ?_
      refine rl_nil ?_
      exact WP.ret (post_rets rfl (vs := [.bool true]) ⟨rfl, trivial⟩ rfl ⟨rfl, hm.nil⟩)
end Go.Al
namespace Go.Al
open Go Go.RowKit Go.Proofs
set_option linter.unusedVariables false
set_option linter.unusedSimpArgs false
theorem fillS_ok (bk n : Nat) (u1 u2 u3 u4 u5 u6 u7 u8 u9 : Value) (a : Option Addr) (c : Nat) (ps : List HP) (own0 : List Nat) (w : World) (hbk : RowL w bk [vI (n : Int), u1, u2, u3, u4, (.slice a ps.length c), u6, u7, u8, u9]) (hbn : bk ∉ own0) (ho : (rowsC ps).map (·.1) = own0)
    (hs : SlIs w own0 (.slice a ps.length c) 3 ps.length (heldC ps)) (hnd : ((rowsC ps).map (·.1)).Nodup) (hl : ∀ p ∈ rowsC ps, w.heap[p.1]? = some p.2) (hP : ∀ p ∈ ps, HOk 32 50 p) (hlen : ps.length ≤ 1000) :
    Calls Tryz.prog 112 [.pointer (some ⟨bk, 0, none⟩)].toArray w (fun e w' => e = .returned (.tuple #[]) ∧ ∃ qs, heldC qs = heldC ps ∧ (∀ p ∈ qs, HFill 32 50 mkS p) ∧ qs.length = ps.length ∧ Mem w own0 (rowsC qs) w') := by
  have hm := ho ▸ Mem.initL hnd hl
  refine calls_enter (n := 35) Tryz.func112 rfl rfl rfl ?_
  refine wp_sr (E := noPanic) noPanic_imp ?_
  refine rl_val rfl (v := (vI 0)) (val_assign (v := (vI 0)) rfl) ?_
  refine rl_nil ?_
  refine WP.block ?_
  refine WP.loop (fun mz τ w' => ∃ (i : Nat) (D : List HP) (E : List HP), ps.length - i = mz ∧ heldC (D ++ E) = heldC ps ∧ D.length = i ∧ (D ++ E).length = ps.length ∧ (∀ p ∈ D, HFill 32 50 mkS p) ∧ (∀ p ∈ E, HOk 32 50 p) ∧ Mem w own0 ([] ++ ((rowsC D) ++ ((rowsC E) ++ []))) w' ∧ τ 0 = (.pointer (some ⟨bk, 0, none⟩)) ∧ τ 2 = (vI (i : Int))) (ps.length) ?_ ?_
  · exact ⟨0, [], ps, rfl, rfl, rfl, rfl, by intro p hp; simp at hp, hP, (by simpa [rowsC] using hm), rfl, (by first | rfl | (refine int_eq ?_; simp; try omega) | (refine int_eq ?_; omega))⟩
  · rintro kk2 τ wl1 ⟨i, D, E, hk3, hDE, hlD, hlE, hD, hE, hm, hs4, hs5⟩
    refine WP.seq ?_
    refine wp_sr (E := noPanic) noPanic_imp ?_
    refine rl_val rfl (v := (vI (i : Int))) (val_move (v := (vI (i : Int))) hs5) ?_
    refine rl_val rfl (v := (.pointer (some ⟨bk, 0, none⟩))) (val_move (v := (.pointer (some ⟨bk, 0, none⟩))) hs4) ?_
    refine rl_val rfl (v := (.pointer (some ⟨bk, 0, none⟩))) (val_nilCheck rfl) ?_
    refine rl_val rfl (v := (.pointer (some ⟨bk, 5, none⟩))) (val_fieldAddr (d := 5) rfl fo_37_5) ?_
    refine rl_val rfl (v := (.slice a ps.length c)) (val_load1 (v := (.slice a ps.length c)) (off := 5) rfl ag_31 (hm.getL hbk hbn) rfl) ?_
    refine rl_val rfl (v := (vI (ps.length : Nat))) (val_lenSl (t := 31) rfl us_31 rfl) ?_
    refine rl_val rfl (v := (.bool (decide (((i : Int) : Int) < (ps.length : Nat))))) (val_lt (p := (i : Int)) (q := (ps.length : Nat)) rfl rfl) ?_
    refine rl_nil ?_
    refine WP.cond (b := decide (((i : Int) : Int) < (ps.length : Nat))) rfl (fun hb => ?_) (fun hb => ?_)
    ·
      have hq6 := of_decide_eq_true hb
      have hil : i < ps.length := by omega
      obtain ⟨p, E', rfl⟩ : ∃ p E', E = p :: E' := by cases E with | nil => (simp at hlE; omega) | cons p E' => exact ⟨p, E', rfl⟩
      obtain ⟨v1, lg1, n1, k1, xs1, r1⟩ := p
      obtain ⟨hv1, hg1, hn1, hk1⟩ := hE _ List.mem_cons_self
      dsimp only at hv1 hg1 hn1 hk1
      obtain ⟨av, cv, rfl, hcv, _⟩ := hv1.form
      have hxl := hv1.len
      replace hm : Mem w own0 ([] ++ ((rowsC D) ++ (r1 ++ ((rowsC E') ++ [])))) wl1 := by simpa only [rowsC_cons, List.append_assoc] using hm
      obtain ⟨b, off, xs, rfl, hbn2, hr, hcs, hle, hnc⟩ := hs.pos (by omega)
      rw [← hDE] at hcs
      refine WP.skip ?_
      refine WP.seq (WP.block ?_)
      refine wp_sr (E := noPanic) noPanic_imp ?_
      refine rl_val rfl (v := (.pointer (some ⟨bk, 0, none⟩))) (val_move (v := (.pointer (some ⟨bk, 0, none⟩))) hs4) ?_
      refine rl_val rfl (v := (.pointer (some ⟨bk, 0, none⟩))) (val_nilCheck rfl) ?_
      refine rl_val rfl (v := (.pointer (some ⟨bk, 5, none⟩))) (val_fieldAddr (d := 5) rfl fo_37_5) ?_
      refine rl_val rfl (v := (.slice (some ⟨b, off, none⟩) ps.length c)) (val_load1 (v := (.slice (some ⟨b, off, none⟩) ps.length c)) (off := 5) rfl ag_31 (hm.getL hbk hbn) rfl) ?_
      refine rl_val rfl (v := (vI (i : Int))) (val_move (v := (vI (i : Int))) hs5) ?_
      refine rl_val rfl (v := (.pointer (some ⟨b, off + (i * 3), none⟩))) (val_cast (val_indexSl (i := (i : Int)) (sz := 3) rfl rfl es_31 (by omega)) (ptr_eq (by omega))) ?_
      refine rl_val rfl (v := (.agg ([(.slice av n1 cv), lg1, (vI (k1 : Int))]).toArray)) (val_loadA (m := [(.slice av n1 cv), lg1, (vI (k1 : Int))]) (off := off + i * 3) rfl ag_226 (hm.getL hr hbn2) (held_cell hcs hlD hil) (by omega) (by decide)) ?_
      refine rl_alloc (xs := [(.slice none 0 0), (.slice none 0 0), (vI 0)]) rfl zo_226 hm ?_
      intro b7 w8 hm
      refine rl_store (i := 0) (off := 0) (xs := ([(.slice none 0 0), (.slice none 0 0), (vI 0)])) (vs := [(.slice av n1 cv), lg1, (vI (k1 : Int))]) rfl rfl rfl ag_226 hm rfl rfl (by simp) (by simp) (ones_cons rfl (ones_cons hg1 (ones_cons rfl ones_nil))) ?_
      intro w9 hm
      rw [spl_all (n := 3) (by simp) (by simp)] at hm
      replace hm : Mem w own0 ([(b7, row ([(.slice av n1 cv), lg1, (vI (k1 : Int))]) 226)] ++ ((rowsC D) ++ (r1 ++ ((rowsC E') ++ [])))) w9 := hm
      refine rl_nil ?_
      refine wp_sr (E := noPanic) noPanic_imp ?_
      refine rl_val rfl (v := (vI 0)) (val_assign (v := (vI 0)) rfl) ?_
      refine rl_nil ?_
      refine WP.block ?_
      refine WP.loop (fun mz τ w' => ∃ (q : Nat) (rq : List (Nat × Obj)), n1 - q = mz ∧ q ≤ n1 ∧ VecIs (.slice av n1 cv) n1 32 50 (fillC (mkS k1) q 32 xs1) rq ∧ Mem w own0 ([(b7, row ([(.slice av n1 cv), lg1, (vI (k1 : Int))]) 226)] ++ ((rowsC D) ++ (rq ++ ((rowsC E') ++ [])))) w' ∧ τ 0 = (.pointer (some ⟨bk, 0, none⟩)) ∧ τ 2 = (vI (i : Int)) ∧ τ 3 = (.pointer (some ⟨b7, 0, none⟩)) ∧ τ 4 = (vI (q : Int))) (n1) ?_ ?_
      · exact ⟨0, r1, rfl, by omega, by rw [fillC_zero]; exact hv1, hm, hs4, hs5, rfl, (by first | rfl | (refine int_eq ?_; simp; try omega) | (refine int_eq ?_; omega))⟩
      · rintro kk11 τ wl10 ⟨q, rq, hk12, hq, hvq, hm, hs13, hs14, hs15, hs16⟩
        refine WP.seq ?_
        refine wp_sr (E := noPanic) noPanic_imp ?_
        refine rl_val rfl (v := (vI (q : Int))) (val_move (v := (vI (q : Int))) hs16) ?_
        refine rl_val rfl (v := (.pointer (some ⟨b7, 0, none⟩))) (val_fieldAddr (d := 0) hs15 fo_226_0) ?_
        refine rl_val rfl (v := (.slice av n1 cv)) (val_load1 (v := (.slice av n1 cv)) (off := 0) rfl ag_53 (hm.row (i := 0) rfl).l rfl) ?_
        refine rl_val rfl (v := (vI (n1 : Nat))) (val_lenSl (t := 53) rfl us_53 rfl) ?_
        refine rl_val rfl (v := (.bool (decide (((q : Int) : Int) < (n1 : Nat))))) (val_lt (p := (q : Int)) (q := (n1 : Nat)) rfl rfl) ?_
        refine rl_nil ?_
        refine WP.cond (b := decide (((q : Int) : Int) < (n1 : Nat))) rfl (fun hb => ?_) (fun hb => ?_)
        ·
          have hq17 := of_decide_eq_true hb
          have hqn : q < n1 := by omega
          obtain ⟨g, cap, rest, heq, hc1, hc2, hc3, hc4, rfl⟩ := hvq.pos (by omega)
          obtain rfl : av = some ⟨g, 0, none⟩ := by cases heq; rfl
          have hcc : cv = cap := by cases heq; rfl
          subst hcc
          have hfl := fillC_len (mk := (mkS k1)) (by simp [mkS]) hxl (Nat.le_of_lt hqn)
          replace hm := hm.perm (perm_pull [(b7, row ([(.slice (some ⟨g, 0, none⟩) n1 cv), lg1, (vI (k1 : Int))]) 226)] (rowsC D) (rowsC E') _)
          replace hm : Mem w own0 ([(b7, row ([(.slice (some ⟨g, 0, none⟩) n1 cv), lg1, (vI (k1 : Int))]) 226), (g, row (fillC (mkS k1) q 32 xs1 ++ rest) 50)] ++ ((rowsC D) ++ ((rowsC E') ++ []))) wl10 := by simpa only [List.append_assoc, List.nil_append, List.append_nil, List.cons_append] using hm
          refine WP.skip ?_
          refine WP.seq (WP.block ?_)
          refine wp_df (E := noPanic) [(0, true), (1, true), (2, true), (3, true), (4, true), (5, false), (6, false), (7, false)] [1, 4] mixed (by kernel_rfl) (by kernel_rfl) rfl (fun w' => Mem w own0 ([(b7, row ([(.slice (some ⟨g, 0, none⟩) n1 cv), lg1, (vI (k1 : Int))]) 226), (g, row (fillC (mkS k1) q 32 xs1 ++ rest) 50)] ++ ((rowsC D) ++ ((rowsC E') ++ []))) w') noPanic_imp hm.drew ?_
          have hm := hm.drew
          refine rp_valp rfl rfl (v := (.pointer (some ⟨b7, 0, none⟩))) (fun w' => val_fieldAddr (d := 0) hs15 fo_226_0) ?_
          refine rp_val rfl rfl (v := (.slice (some ⟨g, 0, none⟩) n1 cv)) (fun w' hs => val_load1 (v := (.slice (some ⟨g, 0, none⟩) n1 cv)) (off := 0) rfl ag_53 (hs.row (i := 0) rfl).l rfl) ?_
          refine rp_valp rfl rfl (v := (vI (q : Int))) (fun w' => val_move (v := (vI (q : Int))) hs16) ?_
          refine rp_valp rfl rfl (v := (.pointer (some ⟨b7, 2, none⟩))) (fun w' => val_fieldAddr (d := 2) hs15 fo_226_2) ?_
          refine rp_val rfl rfl (v := (vI (k1 : Int))) (fun w' hs => val_load1 (v := (vI (k1 : Int))) (off := 2) rfl ag_3 (hs.row (i := 0) rfl).l rfl) ?_
          refine rp_call rfl rfl (ent_static (args := [(vI (k1 : Int))]) Tryz.func221 rfl rfl rfl rfl) (markS_ok k1 _) ?_
          rintro _ w18 ⟨rfl, h19⟩
          refine callQ_ret ?_
          refine ⟨.inr ((hm.call h19).sub (by ((try (simp only [List.append_assoc, List.nil_append, List.append_nil, List.cons_append])); repeat (first | exact List.nil_sublist _ | exact List.Sublist.refl _ | with_reducible refine List.Sublist.cons_cons _ ?_ | with_reducible refine List.Sublist.append (List.Sublist.refl _) ?_ | with_reducible exact List.sublist_append_left _ _ | refine List.Sublist.cons _ ?_ | refine List.Sublist.trans ?_ (List.sublist_append_right _ _))))), ?_⟩
          replace hm : Mem w own0 ([(b7, row ([(.slice (some ⟨g, 0, none⟩) n1 cv), lg1, (vI (k1 : Int))]) 226), (g, row (fillC (mkS k1) q 32 xs1 ++ rest) 50)] ++ ((rowsC D) ++ ((rowsC E') ++ []))) w18 := hm.call h19
          refine rp_vale rfl rfl (v := (.pointer (some ⟨g, q * 32, none⟩))) (val_cast (val_indexSl (i := (q : Int)) (sz := 32) rfl rfl es_53 (by omega)) (ptr_eq (by omega))) (.inl (by kernel_rfl)) ?_
          refine rp_store (i := 1) (off := q * 32) (xs := (fillC (mkS k1) q 32 xs1 ++ rest)) (vs := (sumM k1).map v8) rfl rfl rfl rfl ag_50 hm rfl rfl (by simp) (by rw [List.length_append, hfl]; omega) (one_map8 _) (by kernel_rfl) ?_
          intro w20 hm
          rw [(show spl (fillC (mkS k1) q 32 xs1 ++ rest) (q * 32) ((sumM k1).map v8) = fillC (mkS k1) (q + 1) 32 xs1 ++ rest from fillC_put (mk := (mkS k1)) (by simp [mkS]) hxl hqn (by omega))] at hm
          replace hm : Mem w own0 ([(b7, row ([(.slice (some ⟨g, 0, none⟩) n1 cv), lg1, (vI (k1 : Int))]) 226), (g, row (fillC (mkS k1) (q + 1) 32 xs1 ++ rest) 50)] ++ ((rowsC D) ++ ((rowsC E') ++ []))) w20 := hm
          refine rp_nil ?_
          refine wp_r (E := noPanic) noPanic_imp ?_
          refine rl_val rfl (v := (vI (q : Int))) (val_move (v := (vI (q : Int))) hs16) ?_
          refine rl_val rfl (v := (vI ((q : Int) + 1))) (val_addI (p := (q : Int)) (q := 1) rfl rfl (by omega)) ?_
          refine rl_val rfl (v := (vI ((q : Int) + 1))) (val_assign (v := (vI ((q : Int) + 1))) rfl) ?_
          refine rl_nil ?_
          exact ⟨n1 - (q + 1), by omega, ⟨q + 1, [(g, row (fillC (mkS k1) (q + 1) 32 xs1 ++ rest) 50)], rfl, by omega, VecIs.mk hc1 hc2 (fillC_len (by simp [mkS]) hxl (by omega)) (by rw [List.length_append, fillC_len (by simp [mkS]) hxl (by omega)]; rw [List.length_append, hfl] at hc4; omega), (by simpa only [List.append_assoc, List.nil_append, List.append_nil, List.cons_append] using hm.perm (perm_pull [(b7, row ([(.slice (some ⟨g, 0, none⟩) n1 cv), lg1, (vI (k1 : Int))]) 226)] (rowsC D) (rowsC E') _).symm), hs13, hs14, hs15, (by first | rfl | (refine int_eq ?_; simp; try omega) | (refine int_eq ?_; omega))⟩⟩
        ·
          have hq21 := of_decide_eq_false hb
          have hqe : n1 = q := by omega
          subst hqe
          rw [fillC_done hxl] at hvq
          replace hm := hm.sub (l2 := ([] ++ ((rowsC D) ++ (rq ++ ((rowsC E') ++ []))))) (by ((try (simp only [List.append_assoc, List.nil_append, List.append_nil, List.cons_append])); repeat (first | exact List.nil_sublist _ | exact List.Sublist.refl _ | with_reducible refine List.Sublist.cons_cons _ ?_ | with_reducible refine List.Sublist.append (List.Sublist.refl _) ?_ | with_reducible exact List.sublist_append_left _ _ | refine List.Sublist.cons _ ?_ | refine List.Sublist.trans ?_ (List.sublist_append_right _ _))))
          refine WP.exit ?_
          repeat (first | with_reducible refine exit_pass ?_ | with_reducible refine exit_other rfl ?_)
          refine blk_here ?_
          refine wp_r (E := noPanic) noPanic_imp ?_
          refine rl_val rfl (v := (vI (i : Int))) (val_move (v := (vI (i : Int))) hs14) ?_
          refine rl_val rfl (v := (vI ((i : Int) + 1))) (val_addI (p := (i : Int)) (q := 1) rfl rfl (by omega)) ?_
          refine rl_val rfl (v := (vI ((i : Int) + 1))) (val_assign (v := (vI ((i : Int) + 1))) rfl) ?_
          refine rl_nil ?_
          exact ⟨ps.length - (i + 1), by omega, ⟨i + 1, (D ++ [⟨.slice av n1 cv, lg1, n1, k1, repM (mkS k1) n1, rq⟩]), E', rfl, by rw [← hDE]; simp [heldC], by simp [hlD], by simpa [Nat.add_assoc, Nat.add_comm] using hlE, by intro p hp; rcases List.mem_append.1 hp with hp | hp; exact hD p hp; rw [List.mem_singleton.1 hp]; exact ⟨⟨hvq, hg1, hn1, hk1⟩, rfl⟩, fun p hp => hE p (List.mem_cons_of_mem _ hp), (by simpa [rowsC] using hm), hs13, (by first | rfl | (refine int_eq ?_; simp; try omega) | (refine int_eq ?_; omega))⟩⟩
    ·
      have hq22 := of_decide_eq_false hb
      obtain rfl : E = [] := List.eq_nil_of_length_eq_zero (by simp at hlE; omega)
      refine WP.exit ?_
      repeat (first | with_reducible refine exit_pass ?_ | with_reducible refine exit_other rfl ?_)
      refine blk_here ?_
      exact ret_nil_post rfl ⟨rfl, D, by simpa using hDE, hD, by simpa using hlE, by simpa [rowsC] using hm⟩
theorem growS_ok (bk n : Nat) (u1 u2 u3 u4 u5 u6 u7 u8 u9 : Value) (a : Option Addr) (c : Nat) (ps : List HP) (own0 : List Nat) (w : World) (r0 : List (Nat × Obj)) (hbk : RowL w bk [vI (n : Int), u1, u2, u3, u4, (.slice a ps.length c), u6, u7, u8, u9]) (hbn : bk ∉ own0) (ho : (r0 ++ rowsC ps).map (·.1) = own0)
    (hv0 : VecIs (.slice a ps.length c) ps.length 3 226 (heldC ps) r0) (hnd : ((r0 ++ rowsC ps).map (·.1)).Nodup) (hl : ∀ p ∈ r0 ++ rowsC ps, w.heap[p.1]? = some p.2) (hP : ∀ p ∈ ps, HFill 32 50 mkS p) (hlen : ps.length ≤ 1000) :
    Calls Tryz.prog 121 [.pointer (some ⟨bk, 0, none⟩)].toArray w (fun e w' => e = .returned (.tuple #[]) ∧ ∃ qs rB, VecIs (.slice a ps.length c) ps.length 3 226 (heldC qs) rB ∧ qs.length = ps.length ∧ (∀ p ∈ qs, HGrown 32 50 mkS p) ∧ Mem w own0 (rB ++ rowsC qs) w') := by
  have hm := ho ▸ Mem.initL hnd hl
  refine calls_enter (n := 42) Tryz.func121 rfl rfl rfl ?_
  refine wp_sr (E := noPanic) noPanic_imp ?_
  refine rl_val rfl (v := (vI 0)) (val_assign (v := (vI 0)) rfl) ?_
  refine rl_nil ?_
  refine WP.block ?_
  refine WP.loop (fun mz τ w' => ∃ (i : Nat) (D : List HP) (E : List HP) (rB : List (Nat × Obj)), ps.length - i = mz ∧ D.length = i ∧ (D ++ E).length = ps.length ∧ (∀ p ∈ D, HGrown 32 50 mkS p) ∧ (∀ p ∈ E, HFill 32 50 mkS p) ∧ VecIs (.slice a ps.length c) ps.length 3 226 (heldC (D ++ E)) rB ∧ Mem w own0 ([] ++ (rB ++ ((rowsC D) ++ ((rowsC E) ++ [])))) w' ∧ τ 0 = (.pointer (some ⟨bk, 0, none⟩)) ∧ τ 2 = (vI (i : Int))) (ps.length) ?_ ?_
  · exact ⟨0, [], ps, r0, rfl, rfl, rfl, by intro p hp; simp at hp, hP, hv0, (by simpa [rowsC] using hm), rfl, (by first | rfl | (refine int_eq ?_; simp; try omega) | (refine int_eq ?_; omega))⟩
  · rintro kk2 τ wl1 ⟨i, D, E, rB, hk3, hlD, hlE, hD, hE, hvB, hm, hs4, hs5⟩
    refine WP.seq ?_
    refine wp_sr (E := noPanic) noPanic_imp ?_
    refine rl_val rfl (v := (vI (i : Int))) (val_move (v := (vI (i : Int))) hs5) ?_
    refine rl_val rfl (v := (.pointer (some ⟨bk, 0, none⟩))) (val_move (v := (.pointer (some ⟨bk, 0, none⟩))) hs4) ?_
    refine rl_val rfl (v := (.pointer (some ⟨bk, 0, none⟩))) (val_nilCheck rfl) ?_
    refine rl_val rfl (v := (.pointer (some ⟨bk, 5, none⟩))) (val_fieldAddr (d := 5) rfl fo_37_5) ?_
    refine rl_val rfl (v := (.slice a ps.length c)) (val_load1 (v := (.slice a ps.length c)) (off := 5) rfl ag_31 (hm.getL hbk hbn) rfl) ?_
    refine rl_val rfl (v := (vI (ps.length : Nat))) (val_lenSl (t := 31) rfl us_31 rfl) ?_
    refine rl_val rfl (v := (.bool (decide (((i : Int) : Int) < (ps.length : Nat))))) (val_lt (p := (i : Int)) (q := (ps.length : Nat)) rfl rfl) ?_
    refine rl_nil ?_
    refine WP.cond (b := decide (((i : Int) : Int) < (ps.length : Nat))) rfl (fun hb => ?_) (fun hb => ?_)
    ·
      have hq6 := of_decide_eq_true hb
      have hil : i < ps.length := by omega
      obtain ⟨p, E', rfl⟩ : ∃ p E', E = p :: E' := by cases E with | nil => (simp at hlE; omega) | cons p E' => exact ⟨p, E', rfl⟩
      obtain ⟨v1, lg1, n1, k1, xs1, r1⟩ := p
      obtain ⟨⟨hv1, hg1, hn1, hk1⟩, hx1⟩ := hE _ List.mem_cons_self
      dsimp only at hv1 hg1 hn1 hk1 hx1
      subst hx1
      obtain ⟨av, cv, rfl, hcv, _⟩ := hv1.form
      have hxl := hv1.len
      obtain ⟨g0, cap0, rest0, heq0, hcB1, hcB2, hcB3, hcB4, rfl⟩ := hvB.pos (by omega)
      obtain rfl : a = some ⟨g0, 0, none⟩ := by cases heq0; rfl
      have hcc0 : c = cap0 := by cases heq0; rfl
      subst hcc0
      replace hm : Mem w own0 ([(g0, row (heldC (D ++ ⟨.slice av n1 cv, lg1, n1, k1, repM (mkS k1) n1, r1⟩ :: E') ++ rest0) 226)] ++ ((rowsC D) ++ (r1 ++ ((rowsC E') ++ [])))) wl1 := by simpa only [rowsC_cons, List.append_assoc, List.nil_append, List.append_nil, List.cons_append] using hm
      refine WP.skip ?_
      refine WP.seq (WP.block ?_)
      refine wp_sr (E := noPanic) noPanic_imp ?_
      refine rl_val rfl (v := (.pointer (some ⟨bk, 0, none⟩))) (val_move (v := (.pointer (some ⟨bk, 0, none⟩))) hs4) ?_
      refine rl_val rfl (v := (.pointer (some ⟨bk, 0, none⟩))) (val_nilCheck rfl) ?_
      refine rl_val rfl (v := (.pointer (some ⟨bk, 5, none⟩))) (val_fieldAddr (d := 5) rfl fo_37_5) ?_
      refine rl_val rfl (v := (.slice (some ⟨g0, 0, none⟩) ps.length c)) (val_load1 (v := (.slice (some ⟨g0, 0, none⟩) ps.length c)) (off := 5) rfl ag_31 (hm.getL hbk hbn) rfl) ?_
      refine rl_val rfl (v := (vI (i : Int))) (val_move (v := (vI (i : Int))) hs5) ?_
      refine rl_val rfl (v := (.pointer (some ⟨g0, i * 3, none⟩))) (val_cast (val_indexSl (i := (i : Int)) (sz := 3) rfl rfl es_31 (by omega)) (ptr_eq (by omega))) ?_
      refine rl_val rfl (v := (.agg ([(.slice av n1 cv), lg1, (vI (k1 : Int))]).toArray)) (val_loadA (m := [(.slice av n1 cv), lg1, (vI (k1 : Int))]) (off := i * 3) rfl ag_226 (hm.row (i := 0) rfl).l (held_row hlD) (by have := hcB4; simp at this hlE ⊢; omega) (by decide)) ?_
      refine rl_alloc (xs := [(.slice none 0 0), (.slice none 0 0), (vI 0)]) rfl zo_226 hm ?_
      intro b7 w8 hm
      refine rl_store (i := 0) (off := 0) (xs := ([(.slice none 0 0), (.slice none 0 0), (vI 0)])) (vs := [(.slice av n1 cv), lg1, (vI (k1 : Int))]) rfl rfl rfl ag_226 hm rfl rfl (by simp) (by simp) (ones_cons rfl (ones_cons hg1 (ones_cons rfl ones_nil))) ?_
      intro w9 hm
      rw [spl_all (n := 3) (by simp) (by simp)] at hm
      replace hm : Mem w own0 ([(b7, row ([(.slice av n1 cv), lg1, (vI (k1 : Int))]) 226), (g0, row (heldC (D ++ ⟨.slice av n1 cv, lg1, n1, k1, repM (mkS k1) n1, r1⟩ :: E') ++ rest0) 226)] ++ ((rowsC D) ++ (r1 ++ ((rowsC E') ++ [])))) w9 := hm
      refine rl_nil ?_
      refine wp_sr (E := noPanic) noPanic_imp ?_
      refine rl_val rfl (v := (.pointer (some ⟨b7, 0, none⟩))) (val_fieldAddr (d := 0) rfl fo_226_0) ?_
      refine rl_val rfl (v := (.slice av n1 cv)) (val_load1 (v := (.slice av n1 cv)) (off := 0) rfl ag_53 (hm.row (i := 0) rfl).l rfl) ?_
      refine rl_val rfl (v := (.slice av n1 cv)) (val_assign (v := (.slice av n1 cv)) rfl) ?_
      refine rl_nil ?_
      refine WP.seq ?_
      refine wp_sr (E := noPanic) noPanic_imp ?_
      refine rl_val rfl (v := (vI 0)) (val_assign (v := (vI 0)) rfl) ?_
      refine rl_nil ?_
      refine WP.block ?_
      refine WP.loop (fun mz τ w' => ∃ (q : Nat) (lgq : Value) (rq : List (Nat × Obj)), 40 - q = mz ∧ q ≤ 40 ∧ GrowQ 32 50 (mkS k1) n1 q (.slice av n1 cv) lgq rq ∧ Mem w own0 ([(b7, row ([(.slice av n1 cv), lg1, (vI (k1 : Int))]) 226), (g0, row (heldC (D ++ ⟨.slice av n1 cv, lg1, n1, k1, repM (mkS k1) n1, r1⟩ :: E') ++ rest0) 226)] ++ ((rowsC D) ++ (rq ++ ((rowsC E') ++ [])))) w' ∧ τ 0 = (.pointer (some ⟨bk, 0, none⟩)) ∧ τ 2 = (vI (i : Int)) ∧ τ 3 = (.pointer (some ⟨b7, 0, none⟩)) ∧ τ 4 = lgq ∧ τ 5 = (vI (q : Int))) (40) ?_ ?_
      · exact ⟨0, (.slice av n1 cv), r1, rfl, by omega, GrowQ.zero hv1, hm, hs4, hs5, rfl, rfl, (by first | rfl | (refine int_eq ?_; simp; try omega) | (refine int_eq ?_; omega))⟩
      · rintro kk11 τ wl10 ⟨q, lgq, rq, hk12, hq, hG, hm, hs13, hs14, hs15, hs16, hs17⟩
        refine WP.seq ?_
        refine wp_sr (E := noPanic) noPanic_imp ?_
        refine rl_val rfl (v := (vI (q : Int))) (val_move (v := (vI (q : Int))) hs17) ?_
        refine rl_val rfl (v := (.bool (decide (((q : Int) : Int) < 40)))) (val_lt (p := (q : Int)) (q := 40) rfl rfl) ?_
        refine rl_nil ?_
        refine WP.cond (b := decide (((q : Int) : Int) < 40)) rfl (fun hb => ?_) (fun hb => ?_)
        ·
          have hq18 := of_decide_eq_true hb
          have hq40 : q < 40 := by omega
          refine WP.skip ?_
          refine WP.seq (WP.block ?_)
          refine wp_r (E := noPanic) noPanic_imp ?_
          refine rl_val rfl (v := lgq) (val_move (v := lgq) hs16) ?_
          refine rl_val rfl (v := (.pointer (some ⟨b7, 2, none⟩))) (val_fieldAddr (d := 2) hs15 fo_226_2) ?_
          refine rl_val rfl (v := (vI (k1 : Int))) (val_load1 (v := (vI (k1 : Int))) (off := 2) rfl ag_3 (hm.row (i := 0) rfl).l rfl) ?_
          refine rl_call rfl (ent_static (args := [(vI (k1 : Int))]) Tryz.func221 rfl rfl rfl rfl) (markS_ok k1 _) ?_
          rintro _ w19 ⟨rfl, h20⟩
          refine callQ_ret ?_
          replace hm : Mem w own0 ([(b7, row ([(.slice av n1 cv), lg1, (vI (k1 : Int))]) 226), (g0, row (heldC (D ++ ⟨.slice av n1 cv, lg1, n1, k1, repM (mkS k1) n1, r1⟩ :: E') ++ rest0) 226)] ++ ((rowsC D) ++ (rq ++ ((rowsC E') ++ [])))) w19 := hm.call h20
          refine rl_buildSlice (vs := [(.agg ((sumM k1).map v8).toArray)]) (cs := ((sumM k1).map v8)) rfl ez_53 rfl (parts_cons rfl (parts_nil)) rfl (by decide) (by intro v hv; simp only [List.mem_singleton] at hv; subst hv; simp [Value.cells]) (by simp [Value.cells]) hm ?_
          intro b21 w22 hm
          refine rl_grow (mk := (mkS k1)) (l1 := [(b21, row ((sumM k1).map v8) 50), (b7, row ([(.slice av n1 cv), lg1, (vI (k1 : Int))]) 226), (g0, row (heldC (D ++ ⟨.slice av n1 cv, lg1, n1, k1, repM (mkS k1) n1, r1⟩ :: E') ++ rest0) 226)] ++ (rowsC D)) (l2 := (rowsC E') ++ []) (r := rq) (b := b21) (off := 0) rfl ez_53 rfl (by decide) (by decide) rfl rfl hG (by simpa only [List.append_assoc, List.nil_append, List.append_nil, List.cons_append] using hm) (hm.row (i := 0) rfl).l (by simp [mkS, List.take_of_length_le]) (by simp [mkS]) (one_map8 _) (by omega) ?_
          intro vv23 r24 w26 hG25 hm
          replace hm : Mem w own0 ([(b7, row ([(.slice av n1 cv), lg1, (vI (k1 : Int))]) 226), (g0, row (heldC (D ++ ⟨.slice av n1 cv, lg1, n1, k1, repM (mkS k1) n1, r1⟩ :: E') ++ rest0) 226)] ++ ((rowsC D) ++ (r24 ++ ((rowsC E') ++ [])))) w26 := (by simpa only [List.append_assoc, List.nil_append, List.append_nil, List.cons_append] using hm : Mem w own0 ((b21, row ((sumM k1).map v8) 50) :: ([(b7, row ([(.slice av n1 cv), lg1, (vI (k1 : Int))]) 226), (g0, row (heldC (D ++ ⟨.slice av n1 cv, lg1, n1, k1, repM (mkS k1) n1, r1⟩ :: E') ++ rest0) 226)] ++ ((rowsC D) ++ (r24 ++ ((rowsC E') ++ []))))) w26).drop 1
          refine rl_val rfl (v := vv23) (val_assign (v := vv23) rfl) ?_
          refine rl_nil ?_
          refine wp_r (E := noPanic) noPanic_imp ?_
          refine rl_val rfl (v := (vI (q : Int))) (val_move (v := (vI (q : Int))) hs17) ?_
          refine rl_val rfl (v := (vI ((q : Int) + 1))) (val_addI (p := (q : Int)) (q := 1) rfl rfl (by omega)) ?_
          refine rl_val rfl (v := (vI ((q : Int) + 1))) (val_assign (v := (vI ((q : Int) + 1))) rfl) ?_
          refine rl_nil ?_
          exact ⟨40 - (q + 1), by omega, ⟨q + 1, vv23, r24, rfl, by omega, hG25, hm, hs13, hs14, hs15, rfl, (by first | rfl | (refine int_eq ?_; simp; try omega) | (refine int_eq ?_; omega))⟩⟩
        ·
          have hq27 := of_decide_eq_false hb
          have hqe : q = 40 := by omega
          subst hqe
          obtain ⟨al, cl, rfl⟩ := hG.form
          replace hm := hm.sub (l2 := ([(g0, row (heldC (D ++ ⟨.slice av n1 cv, lg1, n1, k1, repM (mkS k1) n1, r1⟩ :: E') ++ rest0) 226)] ++ ((rowsC D) ++ (rq ++ ((rowsC E') ++ []))))) (by ((try (simp only [List.append_assoc, List.nil_append, List.append_nil, List.cons_append])); repeat (first | exact List.nil_sublist _ | exact List.Sublist.refl _ | with_reducible refine List.Sublist.cons_cons _ ?_ | with_reducible refine List.Sublist.append (List.Sublist.refl _) ?_ | with_reducible exact List.sublist_append_left _ _ | refine List.Sublist.cons _ ?_ | refine List.Sublist.trans ?_ (List.sublist_append_right _ _))))
          refine WP.exit ?_
          repeat (first | with_reducible refine exit_pass ?_ | with_reducible refine exit_other rfl ?_)
          refine blk_here ?_
          refine wp_r (E := noPanic) noPanic_imp ?_
          refine rl_val rfl (v := (.pointer (some ⟨bk, 0, none⟩))) (val_move (v := (.pointer (some ⟨bk, 0, none⟩))) hs13) ?_
          refine rl_val rfl (v := (.pointer (some ⟨bk, 0, none⟩))) (val_nilCheck rfl) ?_
          refine rl_val rfl (v := (.pointer (some ⟨bk, 5, none⟩))) (val_fieldAddr (d := 5) rfl fo_37_5) ?_
          refine rl_val rfl (v := (.slice (some ⟨g0, 0, none⟩) ps.length c)) (val_load1 (v := (.slice (some ⟨g0, 0, none⟩) ps.length c)) (off := 5) rfl ag_31 (hm.getL hbk hbn) rfl) ?_
          refine rl_val rfl (v := (vI (i : Int))) (val_move (v := (vI (i : Int))) hs14) ?_
          refine rl_val rfl (v := (.slice al (n1 + 40) cl)) (val_move (v := (.slice al (n1 + 40) cl)) hs16) ?_
          refine rl_val rfl (v := (.pointer (some ⟨g0, i * 3, none⟩))) (val_cast (val_indexSl (i := (i : Int)) (sz := 3) rfl rfl es_31 (by omega)) (ptr_eq (by omega))) ?_
          refine rl_val rfl (v := (.pointer (some ⟨g0, i * 3 + 1, none⟩))) (val_fieldAddr (d := 1) rfl fo_226_1) ?_
          refine rl_store (i := 0) (off := i * 3 + 1) (xs := (heldC (D ++ ⟨.slice av n1 cv, lg1, n1, k1, repM (mkS k1) n1, r1⟩ :: E') ++ rest0)) (vs := [(.slice al (n1 + 40) cl)]) rfl rfl rfl ag_53 hm rfl rfl rfl (by simp at hlE ⊢; omega) (by simp [Value.one]) ?_
          intro w28 hm
          rw [held_put hlD] at hm
          replace hm : Mem w own0 ([(g0, row (heldC (D ++ ⟨.slice av n1 cv, .slice al (n1 + 40) cl, n1, k1, repM (mkS k1) n1, r1⟩ :: E') ++ rest0) 226)] ++ ((rowsC D) ++ (rq ++ ((rowsC E') ++ [])))) w28 := hm
          refine rl_nil ?_
          refine wp_r (E := noPanic) noPanic_imp ?_
          refine rl_val rfl (v := (vI (i : Int))) (val_move (v := (vI (i : Int))) hs14) ?_
          refine rl_val rfl (v := (vI ((i : Int) + 1))) (val_addI (p := (i : Int)) (q := 1) rfl rfl (by omega)) ?_
          refine rl_val rfl (v := (vI ((i : Int) + 1))) (val_assign (v := (vI ((i : Int) + 1))) rfl) ?_
          refine rl_nil ?_
          exact ⟨ps.length - (i + 1), by omega, ⟨i + 1, (D ++ [⟨.slice av n1 cv, .slice al (n1 + 40) cl, n1, k1, repM (mkS k1) n1, rq⟩]), E', [(g0, row (heldC (D ++ ⟨.slice av n1 cv, .slice al (n1 + 40) cl, n1, k1, repM (mkS k1) n1, r1⟩ :: E') ++ rest0) 226)], rfl, by simp [hlD], by simpa [Nat.add_assoc, Nat.add_comm] using hlE, by intro p hp; rcases List.mem_append.1 hp with hp | hp; exact hD p hp; rw [List.mem_singleton.1 hp]; exact ⟨hG, hn1, hk1⟩, fun p hp => hE p (List.mem_cons_of_mem _ hp), by have := VecIs.mk (g := g0) (e := 226) (rest := rest0) (xs := heldC ((D ++ [⟨.slice av n1 cv, .slice al (n1 + 40) cl, n1, k1, repM (mkS k1) n1, rq⟩]) ++ E')) hcB1 hcB2 (sz := 3) (by rw [heldC_len]; simp; simp at hlE; omega) (by simp at hcB4 ⊢; omega); simpa [heldC] using this, (by simpa [rowsC, heldC] using hm), hs13, (by first | rfl | (refine int_eq ?_; simp; try omega) | (refine int_eq ?_; omega))⟩⟩
    ·
      have hq29 := of_decide_eq_false hb
      obtain rfl : E = [] := List.eq_nil_of_length_eq_zero (by simp at hlE; omega)
      refine WP.exit ?_
      repeat (first | with_reducible refine exit_pass ?_ | with_reducible refine exit_other rfl ?_)
      refine blk_here ?_
      exact ret_nil_post rfl ⟨rfl, D, rB, by simpa using hvB, by simpa using hlE, hD, by simpa [rowsC] using hm⟩
theorem lookS_ok (bk n : Nat) (u1 u2 u3 u4 u5 u6 u7 u8 u9 : Value) (a : Option Addr) (c : Nat) (ps : List HP) (w : World) (hbk : RowL w bk [vI (n : Int), u1, u2, u3, u4, (.slice a ps.length c), u6, u7, u8, u9])
    (hs : SlIs w [] (.slice a ps.length c) 3 ps.length (heldC ps)) (hP : ∀ p ∈ ps, SlIs w [] p.v 32 p.n (repM (mkS p.k) p.n) ∧ SlIs w [] p.lg 32 (p.n + 40) (repM (mkS p.k) (p.n + 40)) ∧ p.n ≤ 1000000 ∧ p.k ≤ 1000000) (hlen : ps.length ≤ 1000) :
    Calls Tryz.prog 130 [.pointer (some ⟨bk, 0, none⟩)].toArray w (Ret w (.bool true)) := by
  have hm := Mem.init w
  refine calls_enter (n := 64) Tryz.func130 rfl rfl rfl ?_
  refine wp_sr (E := noPanic) noPanic_imp ?_
  refine rl_val rfl (v := (.bool false)) (val_assign (v := (.bool false)) rfl) ?_
  refine rl_nil ?_
  refine WP.seq ?_
  refine wp_sr (E := noPanic) noPanic_imp ?_
  refine rl_val rfl (v := (vI 0)) (val_assign (v := (vI 0)) rfl) ?_
  refine rl_nil ?_
  refine WP.block ?_
  refine WP.loop (fun mz τ w' => ∃ (i : Nat), ps.length - i = mz ∧ i ≤ ps.length ∧ Mem w [] [] w' ∧ τ 0 = (.pointer (some ⟨bk, 0, none⟩)) ∧ τ 3 = (vI (i : Int))) (ps.length) ?_ ?_
  · exact ⟨0, rfl, by omega, hm, rfl, (by first | rfl | (refine int_eq ?_; simp; try omega) | (refine int_eq ?_; omega))⟩
  · rintro kk2 τ wl1 ⟨i, hk3, hi, hm, hs4, hs5⟩
    refine WP.seq ?_
    refine wp_sr (E := noPanic) noPanic_imp ?_
    refine rl_val rfl (v := (vI (i : Int))) (val_move (v := (vI (i : Int))) hs5) ?_
    refine rl_val rfl (v := (.pointer (some ⟨bk, 0, none⟩))) (val_move (v := (.pointer (some ⟨bk, 0, none⟩))) hs4) ?_
    refine rl_val rfl (v := (.pointer (some ⟨bk, 0, none⟩))) (val_nilCheck rfl) ?_
    refine rl_val rfl (v := (.pointer (some ⟨bk, 5, none⟩))) (val_fieldAddr (d := 5) rfl fo_37_5) ?_
    refine rl_val rfl (v := (.slice a ps.length c)) (val_load1 (v := (.slice a ps.length c)) (off := 5) rfl ag_31 (hm.getL hbk (by simp)) rfl) ?_
    refine rl_val rfl (v := (vI (ps.length : Nat))) (val_lenSl (t := 31) rfl us_31 rfl) ?_
    refine rl_val rfl (v := (.bool (decide (((i : Int) : Int) < (ps.length : Nat))))) (val_lt (p := (i : Int)) (q := (ps.length : Nat)) rfl rfl) ?_
    refine rl_nil ?_
    refine WP.cond (b := decide (((i : Int) : Int) < (ps.length : Nat))) rfl (fun hb => ?_) (fun hb => ?_)
    ·
      have hq6 := of_decide_eq_true hb
      have hil : i < ps.length := by omega
      obtain ⟨D, p, E', hps, hlD⟩ := list_split hil
      obtain ⟨hs1, hs2, hn1, hk1⟩ := hP p (by rw [hps]; simp)
      obtain ⟨v1, lg1, n1, k1, xs1, r1⟩ := p
      dsimp only at hs1 hs2 hn1 hk1
      obtain ⟨av, cv, rfl, hcv⟩ := hs1.form
      obtain ⟨al, cl, rfl, hcl⟩ := hs2.form
      obtain ⟨b, off, xs, rfl, hbn2, hr, hcs, hle, hnc⟩ := hs.pos (by omega)
      have hcs2 := hcs
      rw [hps] at hcs2
      refine WP.skip ?_
      refine WP.seq (WP.block ?_)
      refine wp_sr (E := noPanic) noPanic_imp ?_
      refine rl_val rfl (v := (.pointer (some ⟨bk, 0, none⟩))) (val_move (v := (.pointer (some ⟨bk, 0, none⟩))) hs4) ?_
      refine rl_val rfl (v := (.pointer (some ⟨bk, 0, none⟩))) (val_nilCheck rfl) ?_
      refine rl_val rfl (v := (.pointer (some ⟨bk, 5, none⟩))) (val_fieldAddr (d := 5) rfl fo_37_5) ?_
      refine rl_val rfl (v := (.slice (some ⟨b, off, none⟩) ps.length c)) (val_load1 (v := (.slice (some ⟨b, off, none⟩) ps.length c)) (off := 5) rfl ag_31 (hm.getL hbk (by simp)) rfl) ?_
      refine rl_val rfl (v := (vI (i : Int))) (val_move (v := (vI (i : Int))) hs5) ?_
      refine rl_val rfl (v := (.pointer (some ⟨b, off + (i * 3), none⟩))) (val_cast (val_indexSl (i := (i : Int)) (sz := 3) rfl rfl es_31 (by omega)) (ptr_eq (by omega))) ?_
      refine rl_val rfl (v := (.agg ([(.slice av n1 cv), (.slice al (n1 + 40) cl), (vI (k1 : Int))]).toArray)) (val_loadA (m := [(.slice av n1 cv), (.slice al (n1 + 40) cl), (vI (k1 : Int))]) (off := off + i * 3) rfl ag_226 (hm.getL hr (by simp)) (held_cell (m := ps.length) (by rw [← hps]; exact hcs) hlD hil) (by omega) (by decide)) ?_
      refine rl_alloc (xs := [(.slice none 0 0), (.slice none 0 0), (vI 0)]) rfl zo_226 hm ?_
      intro b7 w8 hm
      refine rl_store (i := 0) (off := 0) (xs := ([(.slice none 0 0), (.slice none 0 0), (vI 0)])) (vs := [(.slice av n1 cv), (.slice al (n1 + 40) cl), (vI (k1 : Int))]) rfl rfl rfl ag_226 hm rfl rfl (by simp) (by simp) (ones_cons rfl (ones_cons rfl (ones_cons rfl ones_nil))) ?_
      intro w9 hm
      rw [spl_all (n := 3) (by simp) (by simp)] at hm
      replace hm : Mem w [] [(b7, row ([(.slice av n1 cv), (.slice al (n1 + 40) cl), (vI (k1 : Int))]) 226)] w9 := hm
      refine rl_nil ?_
      refine WP.seq ?_
      refine wp_sr (E := noPanic) noPanic_imp ?_
      refine rl_val rfl (v := (.pointer (some ⟨b7, 1, none⟩))) (val_fieldAddr (d := 1) rfl fo_226_1) ?_
      refine rl_val rfl (v := (.slice al (n1 + 40) cl)) (val_load1 (v := (.slice al (n1 + 40) cl)) (off := 1) rfl ag_53 (hm.row (i := 0) rfl).l rfl) ?_
      refine rl_val rfl (v := (vI ((n1 + 40) : Nat))) (val_lenSl (t := 53) rfl us_53 rfl) ?_
      refine rl_val rfl (v := (.pointer (some ⟨b7, 0, none⟩))) (val_fieldAddr (d := 0) rfl fo_226_0) ?_
      refine rl_val rfl (v := (.slice av n1 cv)) (val_load1 (v := (.slice av n1 cv)) (off := 0) rfl ag_53 (hm.row (i := 0) rfl).l rfl) ?_
      refine rl_val rfl (v := (vI (n1 : Nat))) (val_lenSl (t := 53) rfl us_53 rfl) ?_
      refine rl_val rfl (v := (vI ((n1 + 40 : Nat) : Int))) (val_cast (val_addI (p := (n1 : Nat)) (q := 40) rfl rfl (by omega)) (int_eq (by omega))) ?_
      refine rl_val rfl (v := (.bool false)) (val_cast (val_ne (p := ((n1 + 40 : Nat) : Int)) (q := ((n1 + 40 : Nat) : Int)) rfl rfl) (by simp)) ?_
      refine rl_nil ?_
      refine WP.cond_f rfl ?_
      refine WP.skip ?_
      refine wp_sr (E := noPanic) noPanic_imp ?_
      refine rl_val rfl (v := (vI 0)) (val_assign (v := (vI 0)) rfl) ?_
      refine rl_nil ?_
      refine WP.block ?_
      refine WP.loop (fun mz τ w' => ∃ (q : Nat), n1 + 40 - q = mz ∧ q ≤ n1 + 40 ∧ Mem w [] [(b7, row ([(.slice av n1 cv), (.slice al (n1 + 40) cl), (vI (k1 : Int))]) 226)] w' ∧ τ 0 = (.pointer (some ⟨bk, 0, none⟩)) ∧ τ 3 = (vI (i : Int)) ∧ τ 4 = (.pointer (some ⟨b7, 0, none⟩)) ∧ τ 5 = (vI (q : Int))) (n1 + 40) ?_ ?_
      · exact ⟨0, rfl, by omega, hm, hs4, hs5, rfl, (by first | rfl | (refine int_eq ?_; simp; try omega) | (refine int_eq ?_; omega))⟩
      · rintro kk11 τ wl10 ⟨q, hk12, hq, hm, hs13, hs14, hs15, hs16⟩
        refine WP.seq ?_
        refine wp_sr (E := noPanic) noPanic_imp ?_
        refine rl_val rfl (v := (vI (q : Int))) (val_move (v := (vI (q : Int))) hs16) ?_
        refine rl_val rfl (v := (.pointer (some ⟨b7, 1, none⟩))) (val_fieldAddr (d := 1) hs15 fo_226_1) ?_
        refine rl_val rfl (v := (.slice al (n1 + 40) cl)) (val_load1 (v := (.slice al (n1 + 40) cl)) (off := 1) rfl ag_53 (hm.row (i := 0) rfl).l rfl) ?_
        refine rl_val rfl (v := (vI ((n1 + 40) : Nat))) (val_lenSl (t := 53) rfl us_53 rfl) ?_
        refine rl_val rfl (v := (.bool (decide (((q : Int) : Int) < ((n1 + 40) : Nat))))) (val_lt (p := (q : Int)) (q := ((n1 + 40) : Nat)) rfl rfl) ?_
        refine rl_nil ?_
        refine WP.cond (b := decide (((q : Int) : Int) < ((n1 + 40) : Nat))) rfl (fun hb => ?_) (fun hb => ?_)
        ·
          have hq17 := of_decide_eq_true hb
          have hqn : q < n1 + 40 := by omega
          obtain ⟨bl, ol, xl, rfl, hbl, hrl, hcl1, hcl2, hcl3⟩ := hs2.pos (by omega)
          refine WP.skip ?_
          refine WP.seq (WP.block ?_)
          by_cases hqa : q < n1
          ·
            obtain ⟨ba, oa, xa, rfl, hba, hra, hca1, hca2, hca3⟩ := hs1.pos (by omega)
            refine wp_sd (E := noPanic) [(0, true), (1, true), (2, true), (3, true), (4, true), (5, true), (6, true), (7, false), (8, true), (9, true), (10, true), (11, true), (12, true), (13, true), (14, true), (15, true), (16, true), (17, true), (18, true), (19, true), (20, true), (21, true), (22, true), (23, false), (24, true), (25, true), (26, true)] mixed (by kernel_rfl) (by kernel_rfl) rfl (fun w' => Mem w [] [(b7, row ([(.slice (some ⟨ba, oa, none⟩) n1 cv), (.slice (some ⟨bl, ol, none⟩) (n1 + 40) cl), (vI (k1 : Int))]) 226)] w') noPanic_imp hm.drew ?_
            have hm := hm.drew
            refine rp_val rfl rfl (v := (.pointer (some ⟨b7, 1, none⟩))) (fun w' hs => val_fieldAddr (d := 1) hs15 fo_226_1) ?_
            refine rp_val rfl rfl (v := (.slice (some ⟨bl, ol, none⟩) (n1 + 40) cl)) (fun w' hs => val_load1 (v := (.slice (some ⟨bl, ol, none⟩) (n1 + 40) cl)) (off := 1) rfl ag_53 (hs.row (i := 0) rfl).l rfl) ?_
            refine rp_val rfl rfl (v := (vI (q : Int))) (fun w' hs => val_move (v := (vI (q : Int))) hs16) ?_
            refine rp_val rfl rfl (v := (.pointer (some ⟨bl, ol + (q * 32), none⟩))) (fun w' hs => val_cast (val_indexSl (i := (q : Int)) (sz := 32) rfl rfl es_53 (by omega)) (ptr_eq (by omega))) ?_
            refine rp_val rfl rfl (v := (.agg ((sumM k1).map v8).toArray)) (fun w' hs => val_loadA (m := (sumM k1).map v8) (off := ol + q * 32) rfl ag_50 (hs.getL hrl (by simp)) (rep_atS hcl1 (by omega)) (by omega) (by decide)) ?_
            refine rp_val rfl rfl (v := (.pointer (some ⟨b7, 2, none⟩))) (fun w' hs => val_fieldAddr (d := 2) hs15 fo_226_2) ?_
            refine rp_val rfl rfl (v := (vI (k1 : Int))) (fun w' hs => val_load1 (v := (vI (k1 : Int))) (off := 2) rfl ag_3 (hs.row (i := 0) rfl).l rfl) ?_
            refine rp_call rfl rfl (ent_static (args := [(.agg ((sumM k1).map v8).toArray), (vI (k1 : Int))]) Tryz.func230 rfl rfl rfl rfl) (isS_ok k1 _) ?_
            rintro _ w18 ⟨rfl, h19⟩
            refine callQ_ret ?_
            refine ⟨.inr ((hm.call h19).sub (by ((try (simp only [List.append_assoc, List.nil_append, List.append_nil, List.cons_append])); repeat (first | exact List.nil_sublist _ | exact List.Sublist.refl _ | with_reducible refine List.Sublist.cons_cons _ ?_ | with_reducible refine List.Sublist.append (List.Sublist.refl _) ?_ | with_reducible exact List.sublist_append_left _ _ | refine List.Sublist.cons _ ?_ | refine List.Sublist.trans ?_ (List.sublist_append_right _ _))))), ?_⟩
            replace hm : Mem w [] [(b7, row ([(.slice (some ⟨ba, oa, none⟩) n1 cv), (.slice (some ⟨bl, ol, none⟩) (n1 + 40) cl), (vI (k1 : Int))]) 226)] w18 := hm.call h19
            refine rp_val rfl rfl (v := (.bool false)) (fun w' hs => val_not (b := true) rfl) ?_
            refine rp_val rfl rfl (v := (.bool false)) (fun w' hs => val_move (v := (.bool false)) rfl) ?_
            refine rp_valg (g := some (9, false)) ⟨46, false, rfl, .inl ⟨rfl, rfl⟩⟩ rfl rfl (v := (vI (q : Int))) (fun w' hs => val_move (v := (vI (q : Int))) hs16) ?_
            refine rp_valg (g := some (9, false)) ⟨46, false, rfl, .inl ⟨rfl, rfl⟩⟩ rfl rfl (v := (.pointer (some ⟨b7, 0, none⟩))) (fun w' hs => val_fieldAddr (d := 0) hs15 fo_226_0) ?_
            refine rp_valg (g := some (9, false)) ⟨46, false, rfl, .inl ⟨rfl, rfl⟩⟩ rfl rfl (v := (.slice (some ⟨ba, oa, none⟩) n1 cv)) (fun w' hs => val_load1 (v := (.slice (some ⟨ba, oa, none⟩) n1 cv)) (off := 0) rfl ag_53 (hs.row (i := 0) rfl).l rfl) ?_
            refine rp_valg (g := some (9, false)) ⟨46, false, rfl, .inl ⟨rfl, rfl⟩⟩ rfl rfl (v := (vI (n1 : Nat))) (fun w' hs => val_lenSl (t := 53) rfl us_53 rfl) ?_
            refine rp_valg (g := some (9, false)) ⟨46, false, rfl, .inl ⟨rfl, rfl⟩⟩ rfl rfl (v := (.bool true)) (fun w' hs => val_cast (val_lt (p := (q : Int)) (q := (n1 : Nat)) rfl rfl) (by rw [decide_eq_true (by omega)])) ?_
            refine rp_valg (g := some (9, false)) ⟨46, false, rfl, .inl ⟨rfl, rfl⟩⟩ rfl rfl (v := (.bool true)) (fun w' hs => val_move (v := (.bool true)) rfl) ?_
            refine rp_valg (g := some (15, true)) ⟨52, true, rfl, .inl ⟨rfl, rfl⟩⟩ rfl rfl (v := (.pointer (some ⟨b7, 0, none⟩))) (fun w' hs => val_fieldAddr (d := 0) hs15 fo_226_0) ?_
            refine rp_valg (g := some (15, true)) ⟨52, true, rfl, .inl ⟨rfl, rfl⟩⟩ rfl rfl (v := (.slice (some ⟨ba, oa, none⟩) n1 cv)) (fun w' hs => val_load1 (v := (.slice (some ⟨ba, oa, none⟩) n1 cv)) (off := 0) rfl ag_53 (hs.row (i := 0) rfl).l rfl) ?_
            refine rp_valg (g := some (15, true)) ⟨52, true, rfl, .inl ⟨rfl, rfl⟩⟩ rfl rfl (v := (vI (q : Int))) (fun w' hs => val_move (v := (vI (q : Int))) hs16) ?_
            refine rp_valg (g := some (15, true)) ⟨52, true, rfl, .inl ⟨rfl, rfl⟩⟩ rfl rfl (v := (.pointer (some ⟨ba, oa + (q * 32), none⟩))) (fun w' hs => val_cast (val_indexSl (i := (q : Int)) (sz := 32) rfl rfl es_53 (by omega)) (ptr_eq (by omega))) ?_
            refine rp_valg (g := some (15, true)) ⟨52, true, rfl, .inl ⟨rfl, rfl⟩⟩ rfl rfl (v := (.agg ((sumM k1).map v8).toArray)) (fun w' hs => val_loadA (m := (sumM k1).map v8) (off := oa + q * 32) rfl ag_50 (hs.getL hra (by simp)) (rep_atS hca1 (by omega)) (by omega) (by decide)) ?_
            refine rp_valg (g := some (15, true)) ⟨52, true, rfl, .inl ⟨rfl, rfl⟩⟩ rfl rfl (v := (.pointer (some ⟨b7, 2, none⟩))) (fun w' hs => val_fieldAddr (d := 2) hs15 fo_226_2) ?_
            refine rp_valg (g := some (15, true)) ⟨52, true, rfl, .inl ⟨rfl, rfl⟩⟩ rfl rfl (v := (vI (k1 : Int))) (fun w' hs => val_load1 (v := (vI (k1 : Int))) (off := 2) rfl ag_3 (hs.row (i := 0) rfl).l rfl) ?_
            refine rp_callg (g := some (15, true)) ⟨52, true, rfl, .inl ⟨rfl, rfl⟩⟩ rfl rfl (ent_static (args := [(.agg ((sumM k1).map v8).toArray), (vI (k1 : Int))]) Tryz.func230 rfl rfl rfl rfl) (isS_ok k1 _) ?_
            rintro _ w20 ⟨rfl, h21⟩
            refine callQ_ret ?_
            refine ⟨.inr ((hm.call h21).sub (by ((try (simp only [List.append_assoc, List.nil_append, List.append_nil, List.cons_append])); repeat (first | exact List.nil_sublist _ | exact List.Sublist.refl _ | with_reducible refine List.Sublist.cons_cons _ ?_ | with_reducible refine List.Sublist.append (List.Sublist.refl _) ?_ | with_reducible exact List.sublist_append_left _ _ | refine List.Sublist.cons _ ?_ | refine List.Sublist.trans ?_ (List.sublist_append_right _ _))))), ?_⟩
            replace hm : Mem w [] [(b7, row ([(.slice (some ⟨ba, oa, none⟩) n1 cv), (.slice (some ⟨bl, ol, none⟩) (n1 + 40) cl), (vI (k1 : Int))]) 226)] w20 := hm.call h21
            refine rp_valg (g := some (15, true)) ⟨52, true, rfl, .inl ⟨rfl, rfl⟩⟩ rfl rfl (v := (.bool false)) (fun w' hs => val_not (b := true) rfl) ?_
            refine rp_valg (g := some (9, false)) ⟨46, false, rfl, .inl ⟨rfl, rfl⟩⟩ rfl rfl (v := (.bool false)) (fun w' hs => val_pick_t (v := .bool false) rfl rfl) ?_
            refine rp_val rfl rfl (v := (.bool false)) (fun w' hs => val_pick_f (v := .bool false) rfl rfl) ?_
            refine rp_nil ?_
            refine WP.cond_f rfl ?_
            refine WP.skip ?_
            refine wp_r (E := noPanic) noPanic_imp ?_
            refine rl_val rfl (v := (vI (q : Int))) (val_move (v := (vI (q : Int))) hs16) ?_
            refine rl_val rfl (v := (vI ((q : Int) + 1))) (val_addI (p := (q : Int)) (q := 1) rfl rfl (by omega)) ?_
            refine rl_val rfl (v := (vI ((q : Int) + 1))) (val_assign (v := (vI ((q : Int) + 1))) rfl) ?_
            refine rl_nil ?_
            exact ⟨n1 + 40 - (q + 1), by omega, ⟨q + 1, rfl, by omega, hm, hs13, hs14, hs15, (by first | rfl | (refine int_eq ?_; simp; try omega) | (refine int_eq ?_; omega))⟩⟩
          ·
            refine wp_sd (E := noPanic) [(0, true), (1, true), (2, true), (3, true), (4, true), (5, true), (6, true), (7, false), (8, true), (9, true), (10, true), (11, true), (12, true), (13, true), (14, true), (15, true), (16, true), (17, true), (18, true), (19, true), (20, true), (21, true), (22, true), (23, true), (24, true), (25, true), (26, true)] mixed (by kernel_rfl) (by kernel_rfl) rfl (fun w' => Mem w [] [(b7, row ([(.slice av n1 cv), (.slice (some ⟨bl, ol, none⟩) (n1 + 40) cl), (vI (k1 : Int))]) 226)] w') noPanic_imp hm.drew ?_
            have hm := hm.drew
            refine rp_val rfl rfl (v := (.pointer (some ⟨b7, 1, none⟩))) (fun w' hs => val_fieldAddr (d := 1) hs15 fo_226_1) ?_
            refine rp_val rfl rfl (v := (.slice (some ⟨bl, ol, none⟩) (n1 + 40) cl)) (fun w' hs => val_load1 (v := (.slice (some ⟨bl, ol, none⟩) (n1 + 40) cl)) (off := 1) rfl ag_53 (hs.row (i := 0) rfl).l rfl) ?_
            refine rp_val rfl rfl (v := (vI (q : Int))) (fun w' hs => val_move (v := (vI (q : Int))) hs16) ?_
            refine rp_val rfl rfl (v := (.pointer (some ⟨bl, ol + (q * 32), none⟩))) (fun w' hs => val_cast (val_indexSl (i := (q : Int)) (sz := 32) rfl rfl es_53 (by omega)) (ptr_eq (by omega))) ?_
            refine rp_val rfl rfl (v := (.agg ((sumM k1).map v8).toArray)) (fun w' hs => val_loadA (m := (sumM k1).map v8) (off := ol + q * 32) rfl ag_50 (hs.getL hrl (by simp)) (rep_atS hcl1 (by omega)) (by omega) (by decide)) ?_
            refine rp_val rfl rfl (v := (.pointer (some ⟨b7, 2, none⟩))) (fun w' hs => val_fieldAddr (d := 2) hs15 fo_226_2) ?_
            refine rp_val rfl rfl (v := (vI (k1 : Int))) (fun w' hs => val_load1 (v := (vI (k1 : Int))) (off := 2) rfl ag_3 (hs.row (i := 0) rfl).l rfl) ?_
            refine rp_call rfl rfl (ent_static (args := [(.agg ((sumM k1).map v8).toArray), (vI (k1 : Int))]) Tryz.func230 rfl rfl rfl rfl) (isS_ok k1 _) ?_
            rintro _ w22 ⟨rfl, h23⟩
            refine callQ_ret ?_
            refine ⟨.inr ((hm.call h23).sub (by ((try (simp only [List.append_assoc, List.nil_append, List.append_nil, List.cons_append])); repeat (first | exact List.nil_sublist _ | exact List.Sublist.refl _ | with_reducible refine List.Sublist.cons_cons _ ?_ | with_reducible refine List.Sublist.append (List.Sublist.refl _) ?_ | with_reducible exact List.sublist_append_left _ _ | refine List.Sublist.cons _ ?_ | refine List.Sublist.trans ?_ (List.sublist_append_right _ _))))), ?_⟩
            replace hm : Mem w [] [(b7, row ([(.slice av n1 cv), (.slice (some ⟨bl, ol, none⟩) (n1 + 40) cl), (vI (k1 : Int))]) 226)] w22 := hm.call h23
            refine rp_val rfl rfl (v := (.bool false)) (fun w' hs => val_not (b := true) rfl) ?_
            refine rp_val rfl rfl (v := (.bool false)) (fun w' hs => val_move (v := (.bool false)) rfl) ?_
            refine rp_valg (g := some (9, false)) ⟨46, false, rfl, .inl ⟨rfl, rfl⟩⟩ rfl rfl (v := (vI (q : Int))) (fun w' hs => val_move (v := (vI (q : Int))) hs16) ?_
            refine rp_valg (g := some (9, false)) ⟨46, false, rfl, .inl ⟨rfl, rfl⟩⟩ rfl rfl (v := (.pointer (some ⟨b7, 0, none⟩))) (fun w' hs => val_fieldAddr (d := 0) hs15 fo_226_0) ?_
            refine rp_valg (g := some (9, false)) ⟨46, false, rfl, .inl ⟨rfl, rfl⟩⟩ rfl rfl (v := (.slice av n1 cv)) (fun w' hs => val_load1 (v := (.slice av n1 cv)) (off := 0) rfl ag_53 (hs.row (i := 0) rfl).l rfl) ?_
            refine rp_valg (g := some (9, false)) ⟨46, false, rfl, .inl ⟨rfl, rfl⟩⟩ rfl rfl (v := (vI (n1 : Nat))) (fun w' hs => val_lenSl (t := 53) rfl us_53 rfl) ?_
            refine rp_valg (g := some (9, false)) ⟨46, false, rfl, .inl ⟨rfl, rfl⟩⟩ rfl rfl (v := (.bool false)) (fun w' hs => val_cast (val_lt (p := (q : Int)) (q := (n1 : Nat)) rfl rfl) (by rw [decide_eq_false (by omega)])) ?_
            refine rp_valg (g := some (9, false)) ⟨46, false, rfl, .inl ⟨rfl, rfl⟩⟩ rfl rfl (v := (.bool false)) (fun w' hs => val_move (v := (.bool false)) rfl) ?_
            refine rp_off (g := some (15, true)) ⟨52, false, rfl, .inl ⟨rfl, rfl⟩⟩ rfl rfl ?_
            refine rp_off (g := some (15, true)) ⟨52, false, rfl, .inl ⟨rfl, rfl⟩⟩ rfl rfl ?_
            refine rp_off (g := some (15, true)) ⟨52, false, rfl, .inl ⟨rfl, rfl⟩⟩ rfl rfl ?_
            refine rp_off (g := some (15, true)) ⟨52, false, rfl, .inl ⟨rfl, rfl⟩⟩ rfl rfl ?_
            refine rp_off (g := some (15, true)) ⟨52, false, rfl, .inl ⟨rfl, rfl⟩⟩ rfl rfl ?_
            refine rp_off (g := some (15, true)) ⟨52, false, rfl, .inl ⟨rfl, rfl⟩⟩ rfl rfl ?_
            refine rp_off (g := some (15, true)) ⟨52, false, rfl, .inl ⟨rfl, rfl⟩⟩ rfl rfl ?_
            refine rp_off (g := some (15, true)) ⟨52, false, rfl, .inl ⟨rfl, rfl⟩⟩ rfl rfl ?_
            refine rp_off (g := some (15, true)) ⟨52, false, rfl, .inl ⟨rfl, rfl⟩⟩ rfl rfl ?_
            refine rp_valg (g := some (9, false)) ⟨46, false, rfl, .inl ⟨rfl, rfl⟩⟩ rfl rfl (v := (.bool false)) (fun w' hs => val_pick_f (v := .bool false) rfl rfl) ?_
            refine rp_val rfl rfl (v := (.bool false)) (fun w' hs => val_pick_f (v := .bool false) rfl rfl) ?_
            refine rp_nil ?_
            refine WP.cond_f rfl ?_
            refine WP.skip ?_
            refine wp_r (E := noPanic) noPanic_imp ?_
            refine rl_val rfl (v := (vI (q : Int))) (val_move (v := (vI (q : Int))) hs16) ?_
            refine rl_val rfl (v := (vI ((q : Int) + 1))) (val_addI (p := (q : Int)) (q := 1) rfl rfl (by omega)) ?_
            refine rl_val rfl (v := (vI ((q : Int) + 1))) (val_assign (v := (vI ((q : Int) + 1))) rfl) ?_
            refine rl_nil ?_
            exact ⟨n1 + 40 - (q + 1), by omega, ⟨q + 1, rfl, by omega, hm, hs13, hs14, hs15, (by first | rfl | (refine int_eq ?_; simp; try omega) | (refine int_eq ?_; omega))⟩⟩
        ·
          have hq24 := of_decide_eq_false hb
          have hqe : q = n1 + 40 := by omega
          replace hm := hm.nil
          refine WP.exit ?_
          repeat (first | with_reducible refine exit_pass ?_ | with_reducible refine exit_other rfl ?_)
          refine blk_here ?_
          refine wp_r (E := noPanic) noPanic_imp ?_
          refine rl_val rfl (v := (vI (i : Int))) (val_move (v := (vI (i : Int))) hs14) ?_
          refine rl_val rfl (v := (vI ((i : Int) + 1))) (val_addI (p := (i : Int)) (q := 1) rfl rfl (by omega)) ?_
          refine rl_val rfl (v := (vI ((i : Int) + 1))) (val_assign (v := (vI ((i : Int) + 1))) rfl) ?_
          refine rl_nil ?_
          exact ⟨ps.length - (i + 1), by omega, ⟨i + 1, rfl, by omega, hm, hs13, (by first | rfl | (refine int_eq ?_; simp; try omega) | (refine int_eq ?_; omega))⟩⟩
    ·
      have hq25 := of_decide_eq_false hb
      refine WP.exit ?_
      repeat (first | with_reducible refine exit_pass ?_ | with_reducible refine exit_other rfl ?_)
      refine blk_here ?_
      refine wp_sr (E := noPanic) noPanic_imp ?_
      refine rl_val rfl (v := (.bool true)) (val_assign (v := (.bool true)) rfl) ?_
      refine rl_nil ?_
      exact WP.ret (post_rets rfl (vs := [.bool true]) ⟨rfl, trivial⟩ rfl ⟨rfl, hm.nil⟩)
end Go.Al
