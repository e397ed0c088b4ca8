/- Lemmas and contracts for the claim, part 6: what each function of the road does, proved once. No condition beyond the hypotheses that stand. -/
import Derived.Test.YtmdohnabdlolkaaGreatDoorProg
import Derived.ProofKit
import Derived.SizedLaws
import Derived.OpenShut
import Derived.Test.YtmdohnabdlolkaaGreatDoorAl5
namespace Go.Al
open Go Go.RowKit Go.Proofs
set_option linter.unusedVariables false
set_option linter.unusedSimpArgs false
theorem take_sl {w0 w : World} {l r : List (Nat × Obj)} {a : Option Addr} {c n k : Nat} {ws : List Value} (hA : VecIs (.slice a n c) n 1 38 ws r) (hm : Mem w0 [] l w) (hs : ∀ p ∈ r, p ∈ l ∧ p.1 ∉ ([] : List Nat)) {bs : List Bytes} (htl : (bs.take k).length = k) (hk : k ≤ n) : SlIs w [] (.slice a (bs.take k).length c) 1 (bs.take k).length (ws.take k) := by
  rw [htl]
  have := (hA.sl hm hs).takeHi hk
  rwa [Nat.mul_one] at this
set_option maxRecDepth 100000 in
set_option maxHeartbeats 4000000 in
theorem chainsPlay_ok (L : List Bytes) (vs : List Value) (aL aA : Option Addr) (cL cA : Nat) (A : List (Nat × Nat)) (w : World) (hs : SlIs w [] (.slice aL L.length cL) 1 L.length vs) (hok : SlsOk w vs L) (hlb : ∀ b ∈ L, b.length ≤ 281474976710656) (hs2 : SlIs w [] (.slice aA A.length cA) 2 A.length (asksC A)) :
    Calls Tryz.prog 3 [.slice aL L.length cL, .slice aA A.length cA].toArray w (Ret w (.bool true)) := by
  have hm := Mem.init w
  refine calls_enter (n := 273) Tryz.func3 rfl rfl rfl ?_
  refine wp_sr (E := noPanic) noPanic_imp ?_
  refine rl_val rfl (v := (.bool false)) (val_assign (v := (.bool false)) rfl) ?_
  refine rl_nil ?_
  have hcases : 30 < L.length ∨ (L.length ≤ 30 ∧ 30 < A.length) ∨ (L.length ≤ 30 ∧ A.length ≤ 30) := by omega
  rcases hcases with h30 | ⟨h30, h30A⟩ | ⟨h30, h30A⟩
  ·
    refine WP.seq ?_
    refine wp_sr (E := noPanic) noPanic_imp ?_
    refine rl_val rfl (v := (.slice aL L.length cL)) (val_move (v := (.slice aL L.length cL)) rfl) ?_
    refine rl_val rfl (v := (vI (L.length : Nat))) (val_lenSl (t := 22) rfl us_22 rfl) ?_
    refine rl_val rfl (v := (.bool true)) (val_cast (val_gt (p := (L.length : Nat)) (q := 30) rfl rfl) (by rw [decide_eq_true (by omega)])) ?_
    refine rl_val rfl (v := (.bool true)) (val_move (v := (.bool true)) rfl) ?_
    refine rl_off ⟨32, true, rfl, .inl ⟨rfl, rfl⟩⟩ rfl ?_
    refine rl_off ⟨32, true, rfl, .inl ⟨rfl, rfl⟩⟩ rfl ?_
    refine rl_off ⟨32, true, rfl, .inl ⟨rfl, rfl⟩⟩ rfl ?_
    refine rl_val rfl (v := (.bool true)) (val_pick_t (v := (.bool true)) rfl rfl) ?_
    refine rl_val rfl (v := (.bool true)) (val_move (v := (.bool true)) rfl) ?_
    refine rl_off ⟨37, true, rfl, .inl ⟨rfl, rfl⟩⟩ rfl ?_
    refine rl_off ⟨37, true, rfl, .inl ⟨rfl, rfl⟩⟩ rfl ?_
    refine rl_off ⟨37, true, rfl, .inl ⟨rfl, rfl⟩⟩ rfl ?_
    refine rl_val rfl (v := (.bool true)) (val_pick_t (v := .bool true) rfl rfl) ?_
    refine rl_nil ?_
    refine WP.cond_t rfl ?_
    refine wp_sr (E := noPanic) noPanic_imp ?_
    refine rl_val rfl (v := (.bool true)) (val_assign (v := (.bool true)) rfl) ?_
    refine rl_nil ?_
    refine WP.ret ?_
    repeat (first | with_reducible refine ret_pass ?_ | with_reducible refine ret_blk ?_ | with_reducible refine scope_ret ?_)
    exact post_rets rfl (vs := [.bool true]) ⟨rfl, trivial⟩ rfl ⟨rfl, hm.nil⟩
  ·
    refine WP.seq ?_
    refine wp_sr (E := noPanic) noPanic_imp ?_
    refine rl_val rfl (v := (.slice aL L.length cL)) (val_move (v := (.slice aL L.length cL)) rfl) ?_
    refine rl_val rfl (v := (vI (L.length : Nat))) (val_lenSl (t := 22) rfl us_22 rfl) ?_
    refine rl_val rfl (v := (.bool false)) (val_cast (val_gt (p := (L.length : Nat)) (q := 30) rfl rfl) (by rw [decide_eq_false (by omega)])) ?_
    refine rl_val rfl (v := (.bool false)) (val_move (v := (.bool false)) rfl) ?_
    refine rl_valg ⟨32, false, rfl, .inl ⟨rfl, rfl⟩⟩ rfl (v := (.slice aA A.length cA)) (val_move (v := (.slice aA A.length cA)) rfl) ?_
    refine rl_valg ⟨32, false, rfl, .inl ⟨rfl, rfl⟩⟩ rfl (v := (vI (A.length : Nat))) (val_lenSl (t := 23) rfl us_23 rfl) ?_
    refine rl_valg ⟨32, false, rfl, .inl ⟨rfl, rfl⟩⟩ rfl (v := (.bool true)) (val_cast (val_gt (p := (A.length : Nat)) (q := 30) rfl rfl) (by rw [decide_eq_true (by omega)])) ?_
    refine rl_val rfl (v := (.bool true)) (val_pick_f (v := (.bool true)) rfl rfl) ?_
    refine rl_val rfl (v := (.bool true)) (val_move (v := (.bool true)) rfl) ?_
    refine rl_off ⟨37, true, rfl, .inl ⟨rfl, rfl⟩⟩ rfl ?_
    refine rl_off ⟨37, true, rfl, .inl ⟨rfl, rfl⟩⟩ rfl ?_
    refine rl_off ⟨37, true, rfl, .inl ⟨rfl, rfl⟩⟩ rfl ?_
    refine rl_val rfl (v := (.bool true)) (val_pick_t (v := .bool true) rfl rfl) ?_
    refine rl_nil ?_
    refine WP.cond_t rfl ?_
    refine wp_sr (E := noPanic) noPanic_imp ?_
    refine rl_val rfl (v := (.bool true)) (val_assign (v := (.bool true)) rfl) ?_
    refine rl_nil ?_
    refine WP.ret ?_
    repeat (first | with_reducible refine ret_pass ?_ | with_reducible refine ret_blk ?_ | with_reducible refine scope_ret ?_)
    exact post_rets rfl (vs := [.bool true]) ⟨rfl, trivial⟩ rfl ⟨rfl, hm.nil⟩
  ·
    refine WP.seq ?_
    refine wp_sr (E := noPanic) noPanic_imp ?_
    refine rl_val rfl (v := (.slice aL L.length cL)) (val_move (v := (.slice aL L.length cL)) rfl) ?_
    refine rl_val rfl (v := (vI (L.length : Nat))) (val_lenSl (t := 22) rfl us_22 rfl) ?_
    refine rl_val rfl (v := (.bool false)) (val_cast (val_gt (p := (L.length : Nat)) (q := 30) rfl rfl) (by rw [decide_eq_false (by omega)])) ?_
    refine rl_val rfl (v := (.bool false)) (val_move (v := (.bool false)) rfl) ?_
    refine rl_valg ⟨32, false, rfl, .inl ⟨rfl, rfl⟩⟩ rfl (v := (.slice aA A.length cA)) (val_move (v := (.slice aA A.length cA)) rfl) ?_
    refine rl_valg ⟨32, false, rfl, .inl ⟨rfl, rfl⟩⟩ rfl (v := (vI (A.length : Nat))) (val_lenSl (t := 23) rfl us_23 rfl) ?_
    refine rl_valg ⟨32, false, rfl, .inl ⟨rfl, rfl⟩⟩ rfl (v := (.bool false)) (val_cast (val_gt (p := (A.length : Nat)) (q := 30) rfl rfl) (by rw [decide_eq_false (by omega)])) ?_
    refine rl_val rfl (v := (.bool false)) (val_pick_f (v := (.bool false)) rfl rfl) ?_
    refine rl_val rfl (v := (.bool false)) (val_move (v := (.bool false)) rfl) ?_
    refine rl_valg ⟨37, false, rfl, .inl ⟨rfl, rfl⟩⟩ rfl (v := (.slice aL L.length cL)) (val_move (v := (.slice aL L.length cL)) rfl) ?_
    refine rl_callg ⟨37, false, rfl, .inl ⟨rfl, rfl⟩⟩ rfl (ent_static (args := [(.slice aL L.length cL)]) Tryz.func8 rfl rfl rfl rfl) (blsize_ok L vs _ _ _ (hs.mem (own2 := []) hm (by simp)) (hok.mem hm) hlb (by omega)) ?_
    rintro _ w1 ⟨m, rfl, hmq, h2⟩
    refine callQ_ret ?_
    replace hm : Mem w [] [] w1 := hm.call h2
    refine rl_valg ⟨37, false, rfl, .inl ⟨rfl, rfl⟩⟩ rfl (v := (.bool (decide ((40000 : Int) < (m : Int))))) (val_gt (p := (m : Int)) (q := 40000) rfl rfl) ?_
    refine rl_val rfl (v := (.bool (decide ((40000 : Int) < (m : Int))))) (val_pick_f (v := (.bool (decide ((40000 : Int) < (m : Int))))) rfl rfl) ?_
    refine rl_nil ?_
    refine WP.cond (b := decide ((40000 : Int) < (m : Int))) rfl (fun hb => ?_) (fun hb => ?_)
    ·
      have hq3 := of_decide_eq_true hb
      refine wp_sr (E := noPanic) noPanic_imp ?_
      refine rl_val rfl (v := (.bool true)) (val_assign (v := (.bool true)) rfl) ?_
      refine rl_nil ?_
      refine WP.ret ?_
      repeat (first | with_reducible refine ret_pass ?_ | with_reducible refine ret_blk ?_ | with_reducible refine scope_ret ?_)
      exact post_rets rfl (vs := [.bool true]) ⟨rfl, trivial⟩ rfl ⟨rfl, hm.nil⟩
    ·
      have hq4 := of_decide_eq_false hb
      have hm40 : m ≤ 40000 := by omega
      have hsz : L.flatten.length ≤ 40000 := by rcases hmq with hmq | hmq <;> omega
      refine WP.skip ?_
      refine wp_sr (E := noPanic) noPanic_imp ?_
      refine rl_call rfl (ent_static (args := []) Tryz.func9 rfl rfl rfl rfl) (cnew_ok _) ?_
      rintro _ w5 ⟨c, lc0, rfl, hC0, h6⟩
      refine callQ_ret ?_
      replace hm := (hm.call h6).comm
      replace hm : Mem w [] ([] ++ (lc0 ++ [])) w5 := by simpa only [List.append_assoc, List.nil_append, List.append_nil, List.cons_append] using hm
      refine rl_val rfl (v := (.pointer (some ⟨c, 0, none⟩))) (val_assign (v := (.pointer (some ⟨c, 0, none⟩))) rfl) ?_
      refine rl_nil ?_
      refine wp_sr (E := noPanic) noPanic_imp ?_
      refine rl_alloc (xs := [(vI 0), (.slice none 0 0), (.slice none 0 0), (.slice none 0 0), (.slice none 0 0), (.slice none 0 0), (.slice none 0 0), (.slice none 0 0), (.slice none 0 0), (.slice none 0 0)]) rfl zo_37 hm ?_
      intro bk w8 hm
      refine rl_nil ?_
      refine wp_sr (E := noPanic) noPanic_imp ?_
      refine rl_val rfl (v := (.slice none 0 0)) (val_assign (v := (.slice none 0 0)) rfl) ?_
      refine rl_nil ?_
      refine WP.seq ?_
      refine wp_sr (E := noPanic) noPanic_imp ?_
      refine rl_val rfl (v := (vI 0)) (val_assign (v := (vI 0)) rfl) ?_
      refine rl_nil ?_
      refine WP.block ?_
      refine WP.loop (fun mz τ w' => ∃ (i : Nat) (bs : List Bytes) (lc : List (Nat × Obj)) (vAll : Value) (ws : List Value) (rAll : List (Nat × Obj)) (nb : Nat) (pB : List HP) (uB : Value) (rB : List (Nat × Obj)), L.length - i = mz ∧ i ≤ L.length ∧ bs.length ≤ i ∧ (∀ b ∈ bs, b.length ≤ 16384) ∧ ChainIs c bs lc ∧ VecIs vAll bs.length 1 38 ws rAll ∧ SlsOk w ws bs ∧ ws.length = bs.length ∧ nb ≤ i ∧ pB.length ≤ i ∧ VecIs uB pB.length 3 213 (heldC pB) rB ∧ (∀ p ∈ pB, HOk 1 5 p) ∧ Mem w [] ([(bk, row ([(vI ((nb : Nat) : Int)), uB, (.slice none 0 0), (.slice none 0 0), (.slice none 0 0), (.slice none 0 0), (.slice none 0 0), (.slice none 0 0), (.slice none 0 0), (.slice none 0 0)]) 37)] ++ (lc ++ (rAll ++ (rB ++ ((rowsC pB) ++ []))))) w' ∧ τ 0 = (.slice aL L.length cL) ∧ τ 1 = (.slice aA A.length cA) ∧ τ 5 = (.pointer (some ⟨c, 0, none⟩)) ∧ τ 6 = (.pointer (some ⟨bk, 0, none⟩)) ∧ τ 7 = vAll ∧ τ 8 = (vI (i : Int))) (L.length) ?_ ?_
      · exact ⟨0, [], lc0, (.slice none 0 0), [], [], 0, [], (.slice none 0 0), [], rfl, by omega, by simp, by intro b hb; simp at hb, hC0, VecIs.nil, by intro i v l h; simp at h, rfl, by omega, by simp, VecIs.nil, by intro p hp; simp at hp, (by simpa [rowsC] using hm), rfl, rfl, rfl, rfl, rfl, (by first | rfl | (refine int_eq ?_; simp; try omega) | (refine int_eq ?_; omega))⟩
      · rintro kk10 τ wl9 ⟨i, bs, lc, vAll, ws, rAll, nb, pB, uB, rB, hk11, hi, hbi, hbb, hC, hA, hW, hwl, hnb, hpl, hB, hPB, hm, hs12, hs13, hs14, hs15, hs16, hs17⟩
        refine WP.seq ?_
        refine wp_sr (E := noPanic) noPanic_imp ?_
        refine rl_val rfl (v := (vI (i : Int))) (val_move (v := (vI (i : Int))) hs17) ?_
        refine rl_val rfl (v := (.slice aL L.length cL)) (val_move (v := (.slice aL L.length cL)) hs12) ?_
        refine rl_val rfl (v := (vI (L.length : Nat))) (val_lenSl (t := 22) rfl us_22 rfl) ?_
        refine rl_val rfl (v := (.bool (decide (((i : Int) : Int) < (L.length : Nat))))) (val_lt (p := (i : Int)) (q := (L.length : Nat)) rfl rfl) ?_
        refine rl_nil ?_
        refine WP.cond (b := decide (((i : Int) : Int) < (L.length : Nat))) rfl (fun hb => ?_) (fun hb => ?_)
        ·
          have hq18 := of_decide_eq_true hb
          have hiL : i < L.length := by omega
          refine WP.skip ?_
          refine WP.seq (WP.block ?_)
          have hin : i < L.length := by omega
          obtain ⟨b, off, xs, rfl, hbn, hr, hcs, hle, hnc⟩ := hs.pos (by omega)
          obtain ⟨l, hli⟩ : ∃ l, L[i]? = some l := ⟨L[i]'(by omega), by simp⟩
          obtain ⟨v, hvi⟩ : ∃ v, vs[i]? = some v := ⟨vs[i]'(by have := hs.len; omega), by simp⟩
          have hsv := hok i v l hvi hli
          obtain ⟨a1, c1, rfl, hn1⟩ := hsv.form
          have hlb := mem_flat_le (List.mem_of_getElem? hli)
          have hl40 : l.length ≤ 40000 := by omega
          refine wp_sr (E := noPanic) noPanic_imp ?_
          refine rl_val rfl (v := (.slice (some ⟨b, off, none⟩) L.length cL)) (val_move (v := (.slice (some ⟨b, off, none⟩) L.length cL)) hs12) ?_
          refine rl_val rfl (v := (vI (i : Int))) (val_move (v := (vI (i : Int))) hs17) ?_
          refine rl_val rfl (v := (.pointer (some ⟨b, off + i, none⟩))) (val_cast (val_indexSl (i := (i : Int)) (sz := 1) rfl rfl es_22 (by omega)) (ptr_eq (by omega))) ?_
          refine rl_val rfl (v := (.slice a1 l.length c1)) (val_load1 (v := .slice a1 l.length c1) (off := off + i) rfl ag_38 (hm.getL hr (by simp)) (by rw [take_at hcs (by omega)]; exact hvi)) ?_
          refine rl_call rfl (ent_static (args := [(.slice a1 l.length c1)]) Tryz.func10 rfl rfl rfl rfl) (twin_ok l a1 c1 _ (hsv.mem (own2 := []) hm (by simp)) (by omega)) ?_
          rintro _ w19 ⟨att, ct, rt, rfl, hvt, h20⟩
          refine callQ_ret ?_
          replace hm := (hm.call h20).comm
          replace hm : Mem w [] ([(bk, row ([(vI ((nb : Nat) : Int)), uB, (.slice none 0 0), (.slice none 0 0), (.slice none 0 0), (.slice none 0 0), (.slice none 0 0), (.slice none 0 0), (.slice none 0 0), (.slice none 0 0)]) 37)] ++ (lc ++ (rAll ++ (rB ++ ((rowsC pB) ++ (rt ++ [])))))) w19 := by simpa only [List.append_assoc, List.nil_append, List.append_nil, List.cons_append] using hm
          have hvc := twin_cut hvt
          refine rl_val rfl (v := (.slice att l.length ct)) (val_assign (v := (.slice att l.length ct)) rfl) ?_
          refine rl_nil ?_
          rcases Nat.lt_or_ge 16384 l.length with hlong | hshort
          ·
            refine wp_sr (E := noPanic) noPanic_imp ?_
            refine rl_val rfl (v := (.pointer (some ⟨c, 0, none⟩))) (val_move (v := (.pointer (some ⟨c, 0, none⟩))) hs14) ?_
            refine rl_val rfl (v := (.slice att l.length ct)) (val_move (v := (.slice att l.length ct)) rfl) ?_
            have hm2 : Mem w [] ([] ++ (lc ++ ([(bk, row ([(vI ((nb : Nat) : Int)), uB, (.slice none 0 0), (.slice none 0 0), (.slice none 0 0), (.slice none 0 0), (.slice none 0 0), (.slice none 0 0), (.slice none 0 0), (.slice none 0 0)]) 37)] ++ (rAll ++ (rB ++ ((rowsC pB) ++ (rt ++ []))))))) w19 := hm.perm (by classical exact List.perm_iff_count.2 (fun y => by simp only [List.count_append, List.count_cons, List.count_nil]; omega))
            have hap := hm2.apart
            refine rl_call rfl (ent_static (args := [(.pointer (some ⟨c, 0, none⟩)), (.slice att l.length ct)]) Tryz.func11 rfl rfl rfl rfl) (cadd_ok c ct bs l lc att _ hC hm2.see.1 hm2.see.2 (hvc.slIs (fun p hp => ⟨hm.rows p (by simp [hp]), hap p (.inr (by simp [hp]))⟩)) (by omega) (by omega)) ?_
            rintro _ w21 h22
            obtain ⟨rfl, hmc⟩ := h22.2 hlong
            refine callQ_ret ?_
            replace hm : Mem w [] ([(bk, row ([(vI ((nb : Nat) : Int)), uB, (.slice none 0 0), (.slice none 0 0), (.slice none 0 0), (.slice none 0 0), (.slice none 0 0), (.slice none 0 0), (.slice none 0 0), (.slice none 0 0)]) 37)] ++ (lc ++ (rAll ++ (rB ++ ((rowsC pB) ++ (rt ++ [])))))) w21 := (hm2.callL hmc).perm (by classical exact List.perm_iff_count.2 (fun y => by simp only [List.count_append, List.count_cons, List.count_nil]; omega))
            refine rl_val rfl (v := (vI 3)) (val_assign (v := (vI 3)) rfl) ?_
            refine rl_nil ?_
            refine WP.seq ?_
            refine wp_sr (E := noPanic) noPanic_imp ?_
            refine rl_val rfl (v := (vI 3)) (val_move (v := (vI 3)) rfl) ?_
            refine rl_val rfl (v := (.bool false)) (val_eq (p := 3) (q := 0) rfl rfl) ?_
            refine rl_val rfl (v := (.slice (some ⟨b, off, none⟩) L.length cL)) (val_move (v := (.slice (some ⟨b, off, none⟩) L.length cL)) hs12) ?_
            refine rl_val rfl (v := (vI (i : Int))) (val_move (v := (vI (i : Int))) hs17) ?_
            refine rl_val rfl (v := (.pointer (some ⟨b, off + i, none⟩))) (val_cast (val_indexSl (i := (i : Int)) (sz := 1) rfl rfl es_22 (by omega)) (ptr_eq (by omega))) ?_
            refine rl_val rfl (v := (.slice a1 l.length c1)) (val_load1 (v := .slice a1 l.length c1) (off := off + i) rfl ag_38 (hm.getL hr (by simp)) (by rw [take_at hcs (by omega)]; exact hvi)) ?_
            refine rl_val rfl (v := (vI (l.length : Nat))) (val_lenSl (t := 38) rfl us_38 rfl) ?_
            refine rl_val rfl (v := (.bool false)) (val_cast (val_le (p := (l.length : Nat)) (q := 16384) rfl rfl) (by rw [decide_eq_false (by omega)])) ?_
            refine rl_val rfl (v := (.bool false)) (val_neB (a := false) (b := false) rfl rfl ub_4) ?_
            refine rl_val rfl (v := (.bool false)) (val_move (v := (.bool false)) rfl) ?_
            refine rl_valg ⟨66, false, rfl, .inl ⟨rfl, rfl⟩⟩ rfl (v := (vI 3)) (val_move (v := (vI 3)) rfl) ?_
            refine rl_valg ⟨66, false, rfl, .inl ⟨rfl, rfl⟩⟩ rfl (v := (.bool true)) (val_ne (p := 3) (q := 0) rfl rfl) ?_
            refine rl_valg ⟨66, false, rfl, .inl ⟨rfl, rfl⟩⟩ rfl (v := (.bool true)) (val_move (v := (.bool true)) rfl) ?_
            refine rl_valg ⟨69, true, rfl, .inl ⟨rfl, rfl⟩⟩ rfl (v := (vI 3)) (val_move (v := (vI 3)) rfl) ?_
            refine rl_valg ⟨69, true, rfl, .inl ⟨rfl, rfl⟩⟩ rfl (v := (.bool false)) (val_ne (p := 3) (q := 3) rfl rfl) ?_
            refine rl_valg ⟨66, false, rfl, .inl ⟨rfl, rfl⟩⟩ rfl (v := (.bool false)) (val_pick_t (v := (.bool false)) rfl rfl) ?_
            refine rl_val rfl (v := (.bool false)) (val_pick_f (v := (.bool false)) rfl rfl) ?_
            refine rl_val rfl (v := (.bool false)) (val_move (v := (.bool false)) rfl) ?_
            refine rl_valg ⟨74, false, rfl, .inl ⟨rfl, rfl⟩⟩ rfl (v := (.slice att l.length ct)) (val_move (v := (.slice att l.length ct)) rfl) ?_
            refine rl_valg ⟨74, false, rfl, .inl ⟨rfl, rfl⟩⟩ rfl (v := (.slice (some ⟨b, off, none⟩) L.length cL)) (val_move (v := (.slice (some ⟨b, off, none⟩) L.length cL)) hs12) ?_
            refine rl_valg ⟨74, false, rfl, .inl ⟨rfl, rfl⟩⟩ rfl (v := (vI (i : Int))) (val_move (v := (vI (i : Int))) hs17) ?_
            refine rl_valg ⟨74, false, rfl, .inl ⟨rfl, rfl⟩⟩ rfl (v := (.pointer (some ⟨b, off + i, none⟩))) (val_cast (val_indexSl (i := (i : Int)) (sz := 1) rfl rfl es_22 (by omega)) (ptr_eq (by omega))) ?_
            refine rl_valg ⟨74, false, rfl, .inl ⟨rfl, rfl⟩⟩ rfl (v := (.slice a1 l.length c1)) (val_load1 (v := .slice a1 l.length c1) (off := off + i) rfl ag_38 (hm.getL hr (by simp)) (by rw [take_at hcs (by omega)]; exact hvi)) ?_
            refine rl_callg ⟨74, false, rfl, .inl ⟨rfl, rfl⟩⟩ rfl (ent_static (args := [(.slice att l.length ct), (.slice a1 l.length c1)]) Tryz.func12 rfl rfl rfl rfl) (left_okV l att ct rt a1 c1 _ hvt (fun p hp => hm.rows p (by simp [hp])) (hsv.mem (own2 := []) hm (by simp)) (by omega)) ?_
            rintro _ w23 ⟨rfl, h24⟩
            refine callQ_ret ?_
            replace hm : Mem w [] ([(bk, row ([(vI ((nb : Nat) : Int)), uB, (.slice none 0 0), (.slice none 0 0), (.slice none 0 0), (.slice none 0 0), (.slice none 0 0), (.slice none 0 0), (.slice none 0 0), (.slice none 0 0)]) 37)] ++ (lc ++ (rAll ++ (rB ++ ((rowsC pB) ++ (rt ++ [])))))) w23 := hm.call h24
            refine rl_valg ⟨74, false, rfl, .inl ⟨rfl, rfl⟩⟩ rfl (v := (.bool false)) (val_not (b := true) rfl) ?_
            refine rl_val rfl (v := (.bool false)) (val_pick_f (v := (.bool false)) rfl rfl) ?_
            refine rl_nil ?_
            refine WP.cond_f rfl ?_
            refine WP.skip ?_
            refine WP.seq ?_
            refine wp_sr (E := noPanic) noPanic_imp ?_
            refine rl_val rfl (v := (vI 3)) (val_move (v := (vI 3)) rfl) ?_
            refine rl_val rfl (v := (.bool false)) (val_eq (p := 3) (q := 0) rfl rfl) ?_
            refine rl_nil ?_
            refine WP.cond_f rfl ?_
            refine WP.skip ?_
            refine wp_r (E := noPanic) noPanic_imp ?_
            refine rl_val rfl (v := (.slice att l.length ct)) (val_move (v := (.slice att l.length ct)) rfl) ?_
            replace hm := hm.sub (l2 := ([(bk, row ([(vI ((nb : Nat) : Int)), uB, (.slice none 0 0), (.slice none 0 0), (.slice none 0 0), (.slice none 0 0), (.slice none 0 0), (.slice none 0 0), (.slice none 0 0), (.slice none 0 0)]) 37)] ++ (lc ++ (rAll ++ (rB ++ ((rowsC pB) ++ (rt ++ []))))))) (by ((try (simp only [List.append_assoc, List.nil_append, List.append_nil, List.cons_append])); repeat (first | exact List.nil_sublist _ | exact List.Sublist.refl _ | with_reducible refine List.Sublist.cons_cons _ ?_ | with_reducible refine List.Sublist.append (List.Sublist.refl _) ?_ | with_reducible exact List.sublist_append_left _ _ | refine List.Sublist.cons _ ?_ | refine List.Sublist.trans ?_ (List.sublist_append_right _ _))))
            have hm2 : Mem w [] ([] ++ (((bk, row ([(vI ((nb : Nat) : Int)), uB, (.slice none 0 0), (.slice none 0 0), (.slice none 0 0), (.slice none 0 0), (.slice none 0 0), (.slice none 0 0), (.slice none 0 0), (.slice none 0 0)]) 37) :: rB) ++ ([] ++ (lc ++ (rAll ++ ((rowsC pB) ++ (rt ++ []))))))) w23 := hm.perm (by classical exact List.perm_iff_count.2 (fun y => by simp only [List.count_append, List.count_cons, List.count_nil]; omega))
            refine rl_call rfl (ent_static (args := [(.pointer (some ⟨bk, 0, none⟩)), (.slice att l.length ct)]) Tryz.func13 rfl rfl rfl (args_cons hs15 (args_cons rfl (args_nil)))) (putB_ok bk nb (pB).length l.length ct uB (.slice none 0 0) (.slice none 0 0) (.slice none 0 0) (.slice none 0 0) (.slice none 0 0) (.slice none 0 0) (.slice none 0 0) (.slice none 0 0) uB att (heldC pB) rB _ (hm2.see.2 (bk, row ([(vI ((nb : Nat) : Int)), uB, (.slice none 0 0), (.slice none 0 0), (.slice none 0 0), (.slice none 0 0), (.slice none 0 0), (.slice none 0 0), (.slice none 0 0), (.slice none 0 0)]) 37) (by simp)) hB (fun p hp => hm2.see.2 p (by simp [hp])) (by intro p hp he; have h := hm2.see.1; simp only [List.map_cons, List.nodup_cons] at h; exact h.1 (List.mem_map.2 ⟨p, hp, he⟩)) (by omega) (by (try simp only [List.length_append, List.length_singleton]); omega)) ?_
            rintro _ w25 ⟨rfl, u27, rk28, hk29, h26⟩
            refine callQ_ret ?_
            have hw30 : VecIs u27 ((pB ++ [(⟨.slice att l.length ct, .slice none 0 0, l.length, nb + 1, l.map v8, rt⟩ : HP)])).length 3 213 (heldC (pB ++ [(⟨.slice att l.length ct, .slice none 0 0, l.length, nb + 1, l.map v8, rt⟩ : HP)])) rk28 := by rw [heldC_snoc]; simpa using hk29
            replace hm : Mem w [] ([(bk, row ([(vI ((nb + 1 : Nat) : Int)), u27, (.slice none 0 0), (.slice none 0 0), (.slice none 0 0), (.slice none 0 0), (.slice none 0 0), (.slice none 0 0), (.slice none 0 0), (.slice none 0 0)]) 37)] ++ (lc ++ (rAll ++ (rk28 ++ ((rowsC pB) ++ (rt ++ [])))))) w25 := (hm2.callL h26).perm (by classical exact List.perm_iff_count.2 (fun y => by simp only [List.count_append, List.count_cons, List.count_nil]; omega))
            refine rl_nil ?_
            refine wp_r (E := noPanic) noPanic_imp ?_
            refine rl_val rfl (v := (vI (i : Int))) (val_move (v := (vI (i : Int))) hs17) ?_
            refine rl_val rfl (v := (vI ((i : Int) + 1))) (val_addI (p := (i : Int)) (q := 1) rfl rfl (by omega)) ?_
            refine rl_val rfl (v := (vI ((i : Int) + 1))) (val_assign (v := (vI ((i : Int) + 1))) rfl) ?_
            refine rl_nil ?_
            exact ⟨L.length - (i + 1), by omega, ⟨i + 1, bs, lc, vAll, ws, rAll, nb + 1, (pB ++ [⟨.slice att l.length ct, .slice none 0 0, l.length, nb + 1, l.map v8, rt⟩]), u27, rk28, rfl, by omega, by omega, hbb, hC, hA, hW, hwl, by omega, by simp; omega, by rw [heldC_snoc]; simpa using hk29, by intro p hp; rcases List.mem_append.1 hp with hp | hp; exact hPB p hp; rw [List.mem_singleton.1 hp]; exact ⟨hvc, rfl, by show l.length ≤ _; omega, by show nb + 1 ≤ _; omega⟩, (by rw [rowsC_snoc]; exact hm.perm (by classical exact List.perm_iff_count.2 (fun y => by simp only [List.count_append, List.count_cons, List.count_nil]; omega))), hs12, hs13, hs14, hs15, hs16, (by first | rfl | (refine int_eq ?_; simp; try omega) | (refine int_eq ?_; omega))⟩⟩
          ·
            refine wp_sr (E := noPanic) noPanic_imp ?_
            refine rl_val rfl (v := (.pointer (some ⟨c, 0, none⟩))) (val_move (v := (.pointer (some ⟨c, 0, none⟩))) hs14) ?_
            refine rl_val rfl (v := (.slice att l.length ct)) (val_move (v := (.slice att l.length ct)) rfl) ?_
            have hm2 : Mem w [] ([] ++ (lc ++ ([(bk, row ([(vI ((nb : Nat) : Int)), uB, (.slice none 0 0), (.slice none 0 0), (.slice none 0 0), (.slice none 0 0), (.slice none 0 0), (.slice none 0 0), (.slice none 0 0), (.slice none 0 0)]) 37)] ++ (rAll ++ (rB ++ ((rowsC pB) ++ (rt ++ []))))))) w19 := hm.perm (by classical exact List.perm_iff_count.2 (fun y => by simp only [List.count_append, List.count_cons, List.count_nil]; omega))
            have hap := hm2.apart
            refine rl_call rfl (ent_static (args := [(.pointer (some ⟨c, 0, none⟩)), (.slice att l.length ct)]) Tryz.func11 rfl rfl rfl rfl) (cadd_ok c ct bs l lc att _ hC hm2.see.1 hm2.see.2 (hvc.slIs (fun p hp => ⟨hm.rows p (by simp [hp]), hap p (.inr (by simp [hp]))⟩)) (by omega) (by omega)) ?_
            rintro _ w31 h32
            obtain ⟨rfl, lc2, hC2, hmc⟩ := h32.1 hshort
            refine callQ_ret ?_
            replace hm : Mem w [] ([(bk, row ([(vI ((nb : Nat) : Int)), uB, (.slice none 0 0), (.slice none 0 0), (.slice none 0 0), (.slice none 0 0), (.slice none 0 0), (.slice none 0 0), (.slice none 0 0), (.slice none 0 0)]) 37)] ++ (lc2 ++ (rAll ++ (rB ++ ((rowsC pB) ++ (rt ++ [])))))) w31 := (hm2.callL hmc).perm (by classical exact List.perm_iff_count.2 (fun y => by simp only [List.count_append, List.count_cons, List.count_nil]; omega))
            refine rl_val rfl (v := (vI 0)) (val_assign (v := (vI 0)) rfl) ?_
            refine rl_nil ?_
            refine WP.seq ?_
            refine wp_sr (E := noPanic) noPanic_imp ?_
            refine rl_val rfl (v := (vI 0)) (val_move (v := (vI 0)) rfl) ?_
            refine rl_val rfl (v := (.bool true)) (val_eq (p := 0) (q := 0) rfl rfl) ?_
            refine rl_val rfl (v := (.slice (some ⟨b, off, none⟩) L.length cL)) (val_move (v := (.slice (some ⟨b, off, none⟩) L.length cL)) hs12) ?_
            refine rl_val rfl (v := (vI (i : Int))) (val_move (v := (vI (i : Int))) hs17) ?_
            refine rl_val rfl (v := (.pointer (some ⟨b, off + i, none⟩))) (val_cast (val_indexSl (i := (i : Int)) (sz := 1) rfl rfl es_22 (by omega)) (ptr_eq (by omega))) ?_
            refine rl_val rfl (v := (.slice a1 l.length c1)) (val_load1 (v := .slice a1 l.length c1) (off := off + i) rfl ag_38 (hm.getL hr (by simp)) (by rw [take_at hcs (by omega)]; exact hvi)) ?_
            refine rl_val rfl (v := (vI (l.length : Nat))) (val_lenSl (t := 38) rfl us_38 rfl) ?_
            refine rl_val rfl (v := (.bool true)) (val_cast (val_le (p := (l.length : Nat)) (q := 16384) rfl rfl) (by rw [decide_eq_true (by omega)])) ?_
            refine rl_val rfl (v := (.bool false)) (val_neB (a := true) (b := true) rfl rfl ub_4) ?_
            refine rl_val rfl (v := (.bool false)) (val_move (v := (.bool false)) rfl) ?_
            refine rl_valg ⟨66, false, rfl, .inl ⟨rfl, rfl⟩⟩ rfl (v := (vI 0)) (val_move (v := (vI 0)) rfl) ?_
            refine rl_valg ⟨66, false, rfl, .inl ⟨rfl, rfl⟩⟩ rfl (v := (.bool false)) (val_ne (p := 0) (q := 0) rfl rfl) ?_
            refine rl_valg ⟨66, false, rfl, .inl ⟨rfl, rfl⟩⟩ rfl (v := (.bool false)) (val_move (v := (.bool false)) rfl) ?_
            refine rl_off ⟨69, false, rfl, .inl ⟨rfl, rfl⟩⟩ rfl ?_
            refine rl_off ⟨69, false, rfl, .inl ⟨rfl, rfl⟩⟩ rfl ?_
            refine rl_valg ⟨66, false, rfl, .inl ⟨rfl, rfl⟩⟩ rfl (v := (.bool false)) (val_pick_f (v := (.bool false)) rfl rfl) ?_
            refine rl_val rfl (v := (.bool false)) (val_pick_f (v := (.bool false)) rfl rfl) ?_
            refine rl_val rfl (v := (.bool false)) (val_move (v := (.bool false)) rfl) ?_
            refine rl_valg ⟨74, false, rfl, .inl ⟨rfl, rfl⟩⟩ rfl (v := (.slice att l.length ct)) (val_move (v := (.slice att l.length ct)) rfl) ?_
            refine rl_valg ⟨74, false, rfl, .inl ⟨rfl, rfl⟩⟩ rfl (v := (.slice (some ⟨b, off, none⟩) L.length cL)) (val_move (v := (.slice (some ⟨b, off, none⟩) L.length cL)) hs12) ?_
            refine rl_valg ⟨74, false, rfl, .inl ⟨rfl, rfl⟩⟩ rfl (v := (vI (i : Int))) (val_move (v := (vI (i : Int))) hs17) ?_
            refine rl_valg ⟨74, false, rfl, .inl ⟨rfl, rfl⟩⟩ rfl (v := (.pointer (some ⟨b, off + i, none⟩))) (val_cast (val_indexSl (i := (i : Int)) (sz := 1) rfl rfl es_22 (by omega)) (ptr_eq (by omega))) ?_
            refine rl_valg ⟨74, false, rfl, .inl ⟨rfl, rfl⟩⟩ rfl (v := (.slice a1 l.length c1)) (val_load1 (v := .slice a1 l.length c1) (off := off + i) rfl ag_38 (hm.getL hr (by simp)) (by rw [take_at hcs (by omega)]; exact hvi)) ?_
            refine rl_callg ⟨74, false, rfl, .inl ⟨rfl, rfl⟩⟩ rfl (ent_static (args := [(.slice att l.length ct), (.slice a1 l.length c1)]) Tryz.func12 rfl rfl rfl rfl) (left_okV l att ct rt a1 c1 _ hvt (fun p hp => hm.rows p (by simp [hp])) (hsv.mem (own2 := []) hm (by simp)) (by omega)) ?_
            rintro _ w33 ⟨rfl, h34⟩
            refine callQ_ret ?_
            replace hm : Mem w [] ([(bk, row ([(vI ((nb : Nat) : Int)), uB, (.slice none 0 0), (.slice none 0 0), (.slice none 0 0), (.slice none 0 0), (.slice none 0 0), (.slice none 0 0), (.slice none 0 0), (.slice none 0 0)]) 37)] ++ (lc2 ++ (rAll ++ (rB ++ ((rowsC pB) ++ (rt ++ [])))))) w33 := hm.call h34
            refine rl_valg ⟨74, false, rfl, .inl ⟨rfl, rfl⟩⟩ rfl (v := (.bool false)) (val_not (b := true) rfl) ?_
            refine rl_val rfl (v := (.bool false)) (val_pick_f (v := (.bool false)) rfl rfl) ?_
            refine rl_nil ?_
            refine WP.cond_f rfl ?_
            refine WP.skip ?_
            refine WP.seq ?_
            refine wp_sr (E := noPanic) noPanic_imp ?_
            refine rl_val rfl (v := (vI 0)) (val_move (v := (vI 0)) rfl) ?_
            refine rl_val rfl (v := (.bool true)) (val_eq (p := 0) (q := 0) rfl rfl) ?_
            refine rl_nil ?_
            refine WP.cond_t rfl ?_
            refine wp_r (E := noPanic) noPanic_imp ?_
            refine rl_val rfl (v := vAll) (val_move (v := vAll) hs16) ?_
            refine rl_val rfl (v := (.slice (some ⟨b, off, none⟩) L.length cL)) (val_move (v := (.slice (some ⟨b, off, none⟩) L.length cL)) hs12) ?_
            refine rl_val rfl (v := (vI (i : Int))) (val_move (v := (vI (i : Int))) hs17) ?_
            refine rl_val rfl (v := (.pointer (some ⟨b, off + i, none⟩))) (val_cast (val_indexSl (i := (i : Int)) (sz := 1) rfl rfl es_22 (by omega)) (ptr_eq (by omega))) ?_
            refine rl_val rfl (v := (.slice a1 l.length c1)) (val_load1 (v := .slice a1 l.length c1) (off := off + i) rfl ag_38 (hm.getL hr (by simp)) (by rw [take_at hcs (by omega)]; exact hvi)) ?_
            refine rl_buildSlice (vs := [(.slice a1 l.length c1)]) (cs := [(.slice a1 l.length c1)]) rfl ez_22 rfl (parts_cons rfl (parts_nil)) rfl (by decide) (ones_size (ones_cons rfl (ones_nil))) (ones_flat (ones_cons rfl (ones_nil))) hm ?_
            intro b35 w36 hm
            refine rl_appendS (l1 := ([(b35, row ([(.slice a1 l.length c1)]) 38), (bk, row ([(vI ((nb : Nat) : Int)), uB, (.slice none 0 0), (.slice none 0 0), (.slice none 0 0), (.slice none 0 0), (.slice none 0 0), (.slice none 0 0), (.slice none 0 0), (.slice none 0 0)]) 37)] ++ (lc2 ++ []))) (l2 := (rB ++ ((rowsC pB) ++ (rt ++ [])))) (r := rAll) (v := vAll) (xs := ws) (news := [(.slice a1 l.length c1)]) rfl ez_22 rfl (by decide) (by decide) rfl rfl hA (by simpa only [List.append_assoc, List.nil_append, List.append_nil, List.cons_append] using hm) (SlIs.of (own := []) (by simp) (hm.row (i := 0) rfl).l rfl (by simp) (by omega)) (ones_cons rfl ones_nil) (by omega) ?_
            intro vv37 r38 w40 hv39 hm
            replace hm : Mem w [] ([(b35, row ([(.slice a1 l.length c1)]) 38), (bk, row ([(vI ((nb : Nat) : Int)), uB, (.slice none 0 0), (.slice none 0 0), (.slice none 0 0), (.slice none 0 0), (.slice none 0 0), (.slice none 0 0), (.slice none 0 0), (.slice none 0 0)]) 37)] ++ (lc2 ++ (r38 ++ (rB ++ ((rowsC pB) ++ (rt ++ [])))))) w40 := by simpa only [List.append_assoc, List.nil_append, List.append_nil, List.cons_append] using hm
            refine rl_val rfl (v := vv37) (val_assign (v := vv37) rfl) ?_
            refine rl_nil ?_
            refine wp_r (E := noPanic) noPanic_imp ?_
            refine rl_val rfl (v := (.slice att l.length ct)) (val_move (v := (.slice att l.length ct)) rfl) ?_
            replace hm := hm.sub (l2 := ([(bk, row ([(vI ((nb : Nat) : Int)), uB, (.slice none 0 0), (.slice none 0 0), (.slice none 0 0), (.slice none 0 0), (.slice none 0 0), (.slice none 0 0), (.slice none 0 0), (.slice none 0 0)]) 37)] ++ (lc2 ++ (r38 ++ (rB ++ ((rowsC pB) ++ (rt ++ []))))))) (by ((try (simp only [List.append_assoc, List.nil_append, List.append_nil, List.cons_append])); repeat (first | exact List.nil_sublist _ | exact List.Sublist.refl _ | with_reducible refine List.Sublist.cons_cons _ ?_ | with_reducible refine List.Sublist.append (List.Sublist.refl _) ?_ | with_reducible exact List.sublist_append_left _ _ | refine List.Sublist.cons _ ?_ | refine List.Sublist.trans ?_ (List.sublist_append_right _ _))))
            have hm2 : Mem w [] ([] ++ (((bk, row ([(vI ((nb : Nat) : Int)), uB, (.slice none 0 0), (.slice none 0 0), (.slice none 0 0), (.slice none 0 0), (.slice none 0 0), (.slice none 0 0), (.slice none 0 0), (.slice none 0 0)]) 37) :: rB) ++ ([] ++ (lc2 ++ (r38 ++ ((rowsC pB) ++ (rt ++ []))))))) w40 := hm.perm (by classical exact List.perm_iff_count.2 (fun y => by simp only [List.count_append, List.count_cons, List.count_nil]; omega))
            refine rl_call rfl (ent_static (args := [(.pointer (some ⟨bk, 0, none⟩)), (.slice att l.length ct)]) Tryz.func13 rfl rfl rfl (args_cons hs15 (args_cons rfl (args_nil)))) (putB_ok bk nb (pB).length l.length ct uB (.slice none 0 0) (.slice none 0 0) (.slice none 0 0) (.slice none 0 0) (.slice none 0 0) (.slice none 0 0) (.slice none 0 0) (.slice none 0 0) uB att (heldC pB) rB _ (hm2.see.2 (bk, row ([(vI ((nb : Nat) : Int)), uB, (.slice none 0 0), (.slice none 0 0), (.slice none 0 0), (.slice none 0 0), (.slice none 0 0), (.slice none 0 0), (.slice none 0 0), (.slice none 0 0)]) 37) (by simp)) hB (fun p hp => hm2.see.2 p (by simp [hp])) (by intro p hp he; have h := hm2.see.1; simp only [List.map_cons, List.nodup_cons] at h; exact h.1 (List.mem_map.2 ⟨p, hp, he⟩)) (by omega) (by (try simp only [List.length_append, List.length_singleton]); omega)) ?_
            rintro _ w41 ⟨rfl, u43, rk44, hk45, h42⟩
            refine callQ_ret ?_
            have hw46 : VecIs u43 ((pB ++ [(⟨.slice att l.length ct, .slice none 0 0, l.length, nb + 1, l.map v8, rt⟩ : HP)])).length 3 213 (heldC (pB ++ [(⟨.slice att l.length ct, .slice none 0 0, l.length, nb + 1, l.map v8, rt⟩ : HP)])) rk44 := by rw [heldC_snoc]; simpa using hk45
            replace hm : Mem w [] ([(bk, row ([(vI ((nb + 1 : Nat) : Int)), u43, (.slice none 0 0), (.slice none 0 0), (.slice none 0 0), (.slice none 0 0), (.slice none 0 0), (.slice none 0 0), (.slice none 0 0), (.slice none 0 0)]) 37)] ++ (lc2 ++ (r38 ++ (rk44 ++ ((rowsC pB) ++ (rt ++ [])))))) w41 := (hm2.callL h42).perm (by classical exact List.perm_iff_count.2 (fun y => by simp only [List.count_append, List.count_cons, List.count_nil]; omega))
            refine rl_nil ?_
            refine wp_r (E := noPanic) noPanic_imp ?_
            refine rl_val rfl (v := (vI (i : Int))) (val_move (v := (vI (i : Int))) hs17) ?_
            refine rl_val rfl (v := (vI ((i : Int) + 1))) (val_addI (p := (i : Int)) (q := 1) rfl rfl (by omega)) ?_
            refine rl_val rfl (v := (vI ((i : Int) + 1))) (val_assign (v := (vI ((i : Int) + 1))) rfl) ?_
            refine rl_nil ?_
            exact ⟨L.length - (i + 1), by omega, ⟨i + 1, (bs ++ [l]), lc2, vv37, (ws ++ [.slice a1 l.length c1]), r38, nb + 1, (pB ++ [⟨.slice att l.length ct, .slice none 0 0, l.length, nb + 1, l.map v8, rt⟩]), u43, rk44, rfl, by omega, by simp; omega, by intro z hz; rcases List.mem_append.1 hz with hz | hz; exact hbb z hz; rw [List.mem_singleton.1 hz]; exact hshort, hC2, by simpa using hv39, hW.snoc hwl hsv, by simp [hwl], by omega, by simp; omega, by rw [heldC_snoc]; simpa using hk45, by intro p hp; rcases List.mem_append.1 hp with hp | hp; exact hPB p hp; rw [List.mem_singleton.1 hp]; exact ⟨hvc, rfl, by show l.length ≤ _; omega, by show nb + 1 ≤ _; omega⟩, (by rw [rowsC_snoc]; exact hm.perm (by classical exact List.perm_iff_count.2 (fun y => by simp only [List.count_append, List.count_cons, List.count_nil]; omega))), hs12, hs13, hs14, hs15, rfl, (by first | rfl | (refine int_eq ?_; simp; try omega) | (refine int_eq ?_; omega))⟩⟩
        ·
          have hq47 := of_decide_eq_false hb
          obtain rfl : i = L.length := by omega
          obtain ⟨aAll, cAll, rfl, hcAll, _⟩ := hA.form
          refine WP.exit ?_
          repeat (first | with_reducible refine exit_pass ?_ | with_reducible refine exit_other rfl ?_)
          refine blk_here ?_
          refine wp_sr (E := noPanic) noPanic_imp ?_
          refine rl_val rfl (v := (.slice aAll bs.length cAll)) (val_move (v := (.slice aAll bs.length cAll)) hs16) ?_
          refine rl_val rfl (v := (vI (bs.length : Nat))) (val_lenSl (t := 22) rfl us_22 rfl) ?_
          refine rl_val rfl (v := (vU (bs.length : Nat))) (val_cast (val_conv ut_3 ui_44 rfl) (by rw [wrapU (by omega) (by omega)])) ?_
          refine rl_val rfl (v := (vU (bs.length : Nat))) (val_assign (v := (vU (bs.length : Nat))) rfl) ?_
          refine rl_nil ?_
          refine WP.seq ?_
          refine wp_sr (E := noPanic) noPanic_imp ?_
          refine rl_val rfl (v := (.pointer (some ⟨c, 0, none⟩))) (val_move (v := (.pointer (some ⟨c, 0, none⟩))) hs14) ?_
          refine rl_call rfl (ent_static (args := [(.pointer (some ⟨c, 0, none⟩))]) Tryz.func14 rfl rfl rfl rfl) (csizeV_ok c bs lc _ (by omega) hC (fun p hp => hm.rows p (by simp [hp]))) ?_
          rintro _ w48 ⟨rfl, h49⟩
          refine callQ_ret ?_
          replace hm : Mem w [] ([(bk, row ([(vI ((nb : Nat) : Int)), uB, (.slice none 0 0), (.slice none 0 0), (.slice none 0 0), (.slice none 0 0), (.slice none 0 0), (.slice none 0 0), (.slice none 0 0), (.slice none 0 0)]) 37)] ++ (lc ++ (rAll ++ (rB ++ ((rowsC pB) ++ []))))) w48 := hm.call h49
          refine rl_val rfl (v := (vU (bs.length : Nat))) (val_move (v := (vU (bs.length : Nat))) rfl) ?_
          refine rl_val rfl (v := (.bool false)) (val_cast (val_ne (p := (bs.length : Nat)) (q := (bs.length : Nat)) rfl rfl) (by simp)) ?_
          refine rl_nil ?_
          refine WP.cond_f rfl ?_
          refine WP.skip ?_
          refine WP.seq ?_
          refine wp_sr (E := noPanic) noPanic_imp ?_
          refine rl_val rfl (v := (vI 0)) (val_assign (v := (vI 0)) rfl) ?_
          refine rl_nil ?_
          refine WP.block ?_
          refine WP.loop (fun mz τ w' => ∃ (i : Nat) (nb : Nat) (pB : List HP) (uB : Value) (rB : List (Nat × Obj)) (pS : List HP) (uS : Value) (rS : List (Nat × Obj)), A.length - i = mz ∧ i ≤ A.length ∧ pB.length ≤ 30 + i ∧ pS.length ≤ 2 * i ∧ nb ≤ 30 + 3 * i ∧ VecIs uB pB.length 3 213 (heldC pB) rB ∧ VecIs uS pS.length 3 226 (heldC pS) rS ∧ (∀ p ∈ pB, HOk 1 5 p) ∧ (∀ p ∈ pS, HOk 32 50 p) ∧ Mem w [] ([(bk, row ([(vI ((nb : Nat) : Int)), uB, (.slice none 0 0), (.slice none 0 0), (.slice none 0 0), uS, (.slice none 0 0), (.slice none 0 0), (.slice none 0 0), (.slice none 0 0)]) 37)] ++ (lc ++ (rAll ++ (rB ++ ((rowsC pB) ++ (rS ++ ((rowsC pS) ++ []))))))) w' ∧ τ 1 = (.slice aA A.length cA) ∧ τ 5 = (.pointer (some ⟨c, 0, none⟩)) ∧ τ 6 = (.pointer (some ⟨bk, 0, none⟩)) ∧ τ 7 = (.slice aAll bs.length cAll) ∧ τ 11 = (vU (bs.length : Nat)) ∧ τ 12 = (vI (i : Int))) (A.length) ?_ ?_
          · exact ⟨0, nb, pB, uB, rB, [], (.slice none 0 0), [], rfl, by omega, by omega, by simp, by omega, hB, VecIs.nil, hPB, by intro p hp; simp at hp, (by simpa [rowsC] using hm), hs13, hs14, hs15, hs16, rfl, (by first | rfl | (refine int_eq ?_; simp; try omega) | (refine int_eq ?_; omega))⟩
          · rintro kk51 τ wl50 ⟨i, nb, pB, uB, rB, pS, uS, rS, hk52, hi, hpl, hsl, hnb, hB, hS, hPB, hPS, hm, hs53, hs54, hs55, hs56, hs57, hs58⟩
            refine WP.seq ?_
            refine wp_sr (E := noPanic) noPanic_imp ?_
            refine rl_val rfl (v := (vI (i : Int))) (val_move (v := (vI (i : Int))) hs58) ?_
            refine rl_val rfl (v := (.slice aA A.length cA)) (val_move (v := (.slice aA A.length cA)) hs53) ?_
            refine rl_val rfl (v := (vI (A.length : Nat))) (val_lenSl (t := 23) rfl us_23 rfl) ?_
            refine rl_val rfl (v := (.bool (decide (((i : Int) : Int) < (A.length : Nat))))) (val_lt (p := (i : Int)) (q := (A.length : Nat)) rfl rfl) ?_
            refine rl_nil ?_
            refine WP.cond (b := decide (((i : Int) : Int) < (A.length : Nat))) rfl (fun hb => ?_) (fun hb => ?_)
            ·
              have hq59 := of_decide_eq_true hb
              have hiA : i < A.length := by omega
              obtain ⟨bA, offA, xsA, rfl, hbnA, hrA, hcsA, hleA, hncA⟩ := hs2.pos (by omega)
              obtain ⟨⟨qa, qb⟩, hqab⟩ : ∃ q, A[i]? = some q := ⟨A[i], by simp⟩
              obtain ⟨hask1, hask2⟩ := ask_at hcsA hqab rfl
              have hpr := pathR_le bs qb qa
              have hlr := linkR_le bs qb qa
              refine WP.skip ?_
              refine WP.seq (WP.block ?_)
              refine wp_sr (E := noPanic) noPanic_imp ?_
              refine rl_val rfl (v := (.slice (some ⟨bA, offA, none⟩) A.length cA)) (val_move (v := (.slice (some ⟨bA, offA, none⟩) A.length cA)) hs53) ?_
              refine rl_val rfl (v := (vI (i : Int))) (val_move (v := (vI (i : Int))) hs58) ?_
              refine rl_val rfl (v := (.pointer (some ⟨bA, offA + (i * 2), none⟩))) (val_cast (val_indexSl (i := (i : Int)) (sz := 2) rfl rfl es_23 (by omega)) (ptr_eq (by omega))) ?_
              refine rl_val rfl (v := (.pointer (some ⟨bA, offA + i * 2, none⟩))) (val_cast (val_indexAr (i := 0) (n := 2) (sz := 1) rfl rfl ea_46 (by omega)) (ptr_eq (by simp))) ?_
              refine rl_val rfl (v := (vU (qa : Int))) (val_load1 (v := vU (qa : Int)) (off := offA + i * 2) rfl ag_44 (hm.getL hrA (by simp)) hask1) ?_
              refine rl_val rfl (v := (vU (qa : Int))) (val_assign (v := (vU (qa : Int))) rfl) ?_
              refine rl_nil ?_
              refine wp_sr (E := noPanic) noPanic_imp ?_
              refine rl_val rfl (v := (.slice (some ⟨bA, offA, none⟩) A.length cA)) (val_move (v := (.slice (some ⟨bA, offA, none⟩) A.length cA)) hs53) ?_
              refine rl_val rfl (v := (vI (i : Int))) (val_move (v := (vI (i : Int))) hs58) ?_
              refine rl_val rfl (v := (.pointer (some ⟨bA, offA + (i * 2), none⟩))) (val_cast (val_indexSl (i := (i : Int)) (sz := 2) rfl rfl es_23 (by omega)) (ptr_eq (by omega))) ?_
              refine rl_val rfl (v := (.pointer (some ⟨bA, offA + (i * 2 + 1), none⟩))) (val_cast (val_indexAr (i := 1) (n := 2) (sz := 1) rfl rfl ea_46 (by omega)) (ptr_eq (by simp; omega))) ?_
              refine rl_val rfl (v := (vU (qb : Int))) (val_load1 (v := vU (qb : Int)) (off := offA + (i * 2 + 1)) rfl ag_44 (hm.getL hrA (by simp)) hask2) ?_
              refine rl_val rfl (v := (vU (qb : Int))) (val_assign (v := (vU (qb : Int))) rfl) ?_
              refine rl_nil ?_
              have hcase : qa < bs.length ∨ qa = bs.length ∨ bs.length < qa := by omega
              rcases hcase with hqa | hqa | hqa
              ·
                have hF : errAt bs qa = 0 := by unfold errAt; rw [if_pos (by omega)]
                have hMk : sumAt markP bs qa = markP (bs.take qa) := by unfold sumAt; rw [if_pos (by omega)]
                have hRt : sumAt rootsP bs qa = rootsP (bs.take qa) := by unfold sumAt; rw [if_pos (by omega)]
                have htl : (bs.take qa).length = qa := by simp; omega
                obtain ⟨b0, hb0⟩ : ∃ b0, bs[qa]? = some b0 := ⟨bs[qa], by simp⟩
                obtain ⟨vw, hvw⟩ : ∃ v, ws[qa]? = some v := ⟨ws[qa]'(by rw [hwl]; exact hqa), by simp⟩
                have hsw := hW qa vw b0 hvw hb0
                obtain ⟨a1, c1, rfl, hn1⟩ := hsw.form
                have hb0l := hbb b0 (List.mem_of_getElem? hb0)
                obtain ⟨gA, capA, restA, heqA, hA1, hA2, hA3, hA4, rfl⟩ := hA.pos (by omega)
                obtain rfl : aAll = some ⟨gA, 0, none⟩ := by cases heqA; rfl
                have hccA : cAll = capA := by cases heqA; rfl
                subst hccA
                refine wp_sr (E := noPanic) noPanic_imp ?_
                refine rl_val rfl (v := (.pointer (some ⟨c, 0, none⟩))) (val_move (v := (.pointer (some ⟨c, 0, none⟩))) hs54) ?_
                refine rl_val rfl (v := (vU (qa : Int))) (val_move (v := (vU (qa : Int))) rfl) ?_
                refine rl_call rfl (ent_static (args := [(.pointer (some ⟨c, 0, none⟩)), (vU (qa : Int))]) Tryz.func15 rfl rfl rfl rfl) (centry_ok c qa bs lc _ (by omega) hbb hC (fun p hp => hm.rows p (by simp [hp]))) ?_
                rintro _ w60 h61
                obtain ⟨vx, rx, rfl, hvx, hmx⟩ := h61.1 b0 hb0
                obtain ⟨ax, cx, rfl, _⟩ := hvx.form
                refine callQ_ret ?_
                replace hm := (hm.call hmx).comm
                replace hm : Mem w [] ([(bk, row ([(vI ((nb : Nat) : Int)), uB, (.slice none 0 0), (.slice none 0 0), (.slice none 0 0), uS, (.slice none 0 0), (.slice none 0 0), (.slice none 0 0), (.slice none 0 0)]) 37)] ++ (lc ++ ([(gA, row (ws ++ restA) 38)] ++ (rB ++ ((rowsC pB) ++ (rS ++ ((rowsC pS) ++ (rx ++ [])))))))) w60 := by simpa only [List.append_assoc, List.nil_append, List.append_nil, List.cons_append] using hm
                refine rl_val rfl (v := (.tuple #[(.slice ax b0.length cx), (vI 0)])) (val_move (v := (.tuple #[(.slice ax b0.length cx), (vI 0)])) rfl) ?_
                refine rl_val rfl (v := (.slice ax b0.length cx)) (val_extract (v := (.slice ax b0.length cx)) rfl rfl) ?_
                refine rl_val rfl (v := (vI 0)) (val_extract (v := (vI 0)) rfl rfl) ?_
                refine rl_val rfl (v := (.slice ax b0.length cx)) (val_assign (v := (.slice ax b0.length cx)) rfl) ?_
                refine rl_val rfl (v := (vI 0)) (val_assign (v := (vI 0)) rfl) ?_
                refine rl_nil ?_
                refine wp_sr (E := noPanic) noPanic_imp ?_
                refine rl_val rfl (v := (.pointer (some ⟨c, 0, none⟩))) (val_move (v := (.pointer (some ⟨c, 0, none⟩))) hs54) ?_
                refine rl_val rfl (v := (vU (qa : Int))) (val_move (v := (vU (qa : Int))) rfl) ?_
                refine rl_call rfl (ent_static (args := [(.pointer (some ⟨c, 0, none⟩)), (vU (qa : Int))]) Tryz.func16 rfl rfl rfl rfl) (cmarkC_ok c qa bs lc _ (by omega) hC (fun p hp => hm.rows p (by simp [hp])) hMk hF) ?_
                rintro _ w62 ⟨rfl, h63⟩
                refine callQ_ret ?_
                replace hm : Mem w [] ([(bk, row ([(vI ((nb : Nat) : Int)), uB, (.slice none 0 0), (.slice none 0 0), (.slice none 0 0), uS, (.slice none 0 0), (.slice none 0 0), (.slice none 0 0), (.slice none 0 0)]) 37)] ++ (lc ++ ([(gA, row (ws ++ restA) 38)] ++ (rB ++ ((rowsC pB) ++ (rS ++ ((rowsC pS) ++ (rx ++ [])))))))) w62 := hm.call h63
                refine rl_val rfl (v := (.tuple #[(.agg ((markP (bs.take qa)).map v8).toArray), (vI 0)])) (val_move (v := (.tuple #[(.agg ((markP (bs.take qa)).map v8).toArray), (vI 0)])) rfl) ?_
                refine rl_val rfl (v := (.agg ((markP (bs.take qa)).map v8).toArray)) (val_extract (v := (.agg ((markP (bs.take qa)).map v8).toArray)) rfl rfl) ?_
                refine rl_val rfl (v := (vI 0)) (val_extract (v := (vI 0)) rfl rfl) ?_
                refine rl_alloc (xs := List.replicate 32 (v8 0)) rfl zo_50 hm ?_
                intro b64 w65 hm
                refine rl_store (i := 0) (off := 0) (xs := (List.replicate 32 (v8 0))) (vs := (markP (bs.take qa)).map v8) rfl rfl rfl ag_50 hm rfl rfl (by simp) (by simp) (one_map8 _) ?_
                intro w66 hm
                rw [spl_all (n := 32) (by simp) (by simp)] at hm
                replace hm : Mem w [] ([(b64, row ((markP (bs.take qa)).map v8) 50), (bk, row ([(vI ((nb : Nat) : Int)), uB, (.slice none 0 0), (.slice none 0 0), (.slice none 0 0), uS, (.slice none 0 0), (.slice none 0 0), (.slice none 0 0), (.slice none 0 0)]) 37)] ++ (lc ++ ([(gA, row (ws ++ restA) 38)] ++ (rB ++ ((rowsC pB) ++ (rS ++ ((rowsC pS) ++ (rx ++ [])))))))) w66 := hm
                refine rl_val rfl (v := (vI 0)) (val_assign (v := (vI 0)) rfl) ?_
                refine rl_nil ?_
                refine wp_sr (E := noPanic) noPanic_imp ?_
                refine rl_val rfl (v := (.pointer (some ⟨c, 0, none⟩))) (val_move (v := (.pointer (some ⟨c, 0, none⟩))) hs54) ?_
                refine rl_val rfl (v := (vU (qa : Int))) (val_move (v := (vU (qa : Int))) rfl) ?_
                refine rl_call rfl (ent_static (args := [(.pointer (some ⟨c, 0, none⟩)), (vU (qa : Int))]) Tryz.func17 rfl rfl rfl rfl) (crootC_ok c qa bs lc _ (by omega) hC (fun p hp => hm.rows p (by simp [hp])) hRt hF) ?_
                rintro _ w67 ⟨rfl, h68⟩
                refine callQ_ret ?_
                replace hm : Mem w [] ([(b64, row ((markP (bs.take qa)).map v8) 50), (bk, row ([(vI ((nb : Nat) : Int)), uB, (.slice none 0 0), (.slice none 0 0), (.slice none 0 0), uS, (.slice none 0 0), (.slice none 0 0), (.slice none 0 0), (.slice none 0 0)]) 37)] ++ (lc ++ ([(gA, row (ws ++ restA) 38)] ++ (rB ++ ((rowsC pB) ++ (rS ++ ((rowsC pS) ++ (rx ++ [])))))))) w67 := hm.call h68
                refine rl_val rfl (v := (.tuple #[(.agg ((rootsP (bs.take qa)).map v8).toArray), (vI 0)])) (val_move (v := (.tuple #[(.agg ((rootsP (bs.take qa)).map v8).toArray), (vI 0)])) rfl) ?_
                refine rl_val rfl (v := (.agg ((rootsP (bs.take qa)).map v8).toArray)) (val_extract (v := (.agg ((rootsP (bs.take qa)).map v8).toArray)) rfl rfl) ?_
                refine rl_val rfl (v := (vI 0)) (val_extract (v := (vI 0)) rfl rfl) ?_
                refine rl_alloc (xs := List.replicate 32 (v8 0)) rfl zo_50 hm ?_
                intro b69 w70 hm
                refine rl_store (i := 0) (off := 0) (xs := (List.replicate 32 (v8 0))) (vs := (rootsP (bs.take qa)).map v8) rfl rfl rfl ag_50 hm rfl rfl (by simp) (by simp) (one_map8 _) ?_
                intro w71 hm
                rw [spl_all (n := 32) (by simp) (by simp)] at hm
                replace hm : Mem w [] ([(b69, row ((rootsP (bs.take qa)).map v8) 50), (b64, row ((markP (bs.take qa)).map v8) 50), (bk, row ([(vI ((nb : Nat) : Int)), uB, (.slice none 0 0), (.slice none 0 0), (.slice none 0 0), uS, (.slice none 0 0), (.slice none 0 0), (.slice none 0 0), (.slice none 0 0)]) 37)] ++ (lc ++ ([(gA, row (ws ++ restA) 38)] ++ (rB ++ ((rowsC pB) ++ (rS ++ ((rowsC pS) ++ (rx ++ [])))))))) w71 := hm
                refine rl_val rfl (v := (vI 0)) (val_assign (v := (vI 0)) rfl) ?_
                refine rl_nil ?_
                refine wp_sr (E := noPanic) noPanic_imp ?_
                refine rl_val rfl (v := (.pointer (some ⟨c, 0, none⟩))) (val_move (v := (.pointer (some ⟨c, 0, none⟩))) hs54) ?_
                refine rl_val rfl (v := (vU (qa : Int))) (val_move (v := (vU (qa : Int))) rfl) ?_
                refine rl_val rfl (v := (vU (qb : Int))) (val_move (v := (vU (qb : Int))) rfl) ?_
                refine rl_call rfl (ent_static (args := [(.pointer (some ⟨c, 0, none⟩)), (vU (qa : Int)), (vU (qb : Int))]) Tryz.func18 rfl rfl rfl rfl) (cpathR_ok c qb qa bs lc _ (by omega) hC (fun p hp => hm.rows p (by simp [hp]))) ?_
                rintro _ w72 ⟨ap, cp, rp, rfl, hvp, h73⟩
                refine callQ_ret ?_
                replace hm := (hm.call h73).comm
                replace hm : Mem w [] ([(b69, row ((rootsP (bs.take qa)).map v8) 50), (b64, row ((markP (bs.take qa)).map v8) 50), (bk, row ([(vI ((nb : Nat) : Int)), uB, (.slice none 0 0), (.slice none 0 0), (.slice none 0 0), uS, (.slice none 0 0), (.slice none 0 0), (.slice none 0 0), (.slice none 0 0)]) 37)] ++ (lc ++ ([(gA, row (ws ++ restA) 38)] ++ (rB ++ ((rowsC pB) ++ (rS ++ ((rowsC pS) ++ (rx ++ (rp ++ []))))))))) w72 := by simpa only [List.append_assoc, List.nil_append, List.append_nil, List.cons_append] using hm
                refine rl_val rfl (v := (.tuple #[(.slice ap (pathR bs qb qa).length cp), (vI (pathE bs qb qa))])) (val_move (v := (.tuple #[(.slice ap (pathR bs qb qa).length cp), (vI (pathE bs qb qa))])) rfl) ?_
                refine rl_val rfl (v := (.slice ap (pathR bs qb qa).length cp)) (val_extract (v := (.slice ap (pathR bs qb qa).length cp)) rfl rfl) ?_
                refine rl_val rfl (v := (vI (pathE bs qb qa))) (val_extract (v := (vI (pathE bs qb qa))) rfl rfl) ?_
                refine rl_val rfl (v := (.slice ap (pathR bs qb qa).length cp)) (val_assign (v := (.slice ap (pathR bs qb qa).length cp)) rfl) ?_
                refine rl_val rfl (v := (vI (pathE bs qb qa))) (val_assign (v := (vI (pathE bs qb qa))) rfl) ?_
                refine rl_nil ?_
                refine wp_sr (E := noPanic) noPanic_imp ?_
                refine rl_val rfl (v := (.pointer (some ⟨c, 0, none⟩))) (val_move (v := (.pointer (some ⟨c, 0, none⟩))) hs54) ?_
                refine rl_val rfl (v := (vU (qa : Int))) (val_move (v := (vU (qa : Int))) rfl) ?_
                refine rl_val rfl (v := (vU (qb : Int))) (val_move (v := (vU (qb : Int))) rfl) ?_
                refine rl_call rfl (ent_static (args := [(.pointer (some ⟨c, 0, none⟩)), (vU (qa : Int)), (vU (qb : Int))]) Tryz.func19 rfl rfl rfl rfl) (clinkR_ok c qb qa bs lc _ (by omega) hC (fun p hp => hm.rows p (by simp [hp]))) ?_
                rintro _ w74 ⟨aq, cq, rq, rfl, hvq, h75⟩
                refine callQ_ret ?_
                replace hm := (hm.call h75).comm
                replace hm : Mem w [] ([(b69, row ((rootsP (bs.take qa)).map v8) 50), (b64, row ((markP (bs.take qa)).map v8) 50), (bk, row ([(vI ((nb : Nat) : Int)), uB, (.slice none 0 0), (.slice none 0 0), (.slice none 0 0), uS, (.slice none 0 0), (.slice none 0 0), (.slice none 0 0), (.slice none 0 0)]) 37)] ++ (lc ++ ([(gA, row (ws ++ restA) 38)] ++ (rB ++ ((rowsC pB) ++ (rS ++ ((rowsC pS) ++ (rx ++ (rp ++ (rq ++ [])))))))))) w74 := by simpa only [List.append_assoc, List.nil_append, List.append_nil, List.cons_append] using hm
                refine rl_val rfl (v := (.tuple #[(.slice aq (linkR bs qb qa).length cq), (vI (linkE bs qb qa))])) (val_move (v := (.tuple #[(.slice aq (linkR bs qb qa).length cq), (vI (linkE bs qb qa))])) rfl) ?_
                refine rl_val rfl (v := (.slice aq (linkR bs qb qa).length cq)) (val_extract (v := (.slice aq (linkR bs qb qa).length cq)) rfl rfl) ?_
                refine rl_val rfl (v := (vI (linkE bs qb qa))) (val_extract (v := (vI (linkE bs qb qa))) rfl rfl) ?_
                refine rl_val rfl (v := (.slice aq (linkR bs qb qa).length cq)) (val_assign (v := (.slice aq (linkR bs qb qa).length cq)) rfl) ?_
                refine rl_val rfl (v := (vI (linkE bs qb qa))) (val_assign (v := (vI (linkE bs qb qa))) rfl) ?_
                refine rl_nil ?_
                refine wp_sr (E := noPanic) noPanic_imp ?_
                refine rl_val rfl (v := (.slice (some ⟨gA, 0, none⟩) bs.length cAll)) (val_move (v := (.slice (some ⟨gA, 0, none⟩) bs.length cAll)) hs56) ?_
                refine rl_val rfl (v := (vU (qa : Int))) (val_move (v := (vU (qa : Int))) rfl) ?_
                refine rl_val rfl (v := (vU (qb : Int))) (val_move (v := (vU (qb : Int))) rfl) ?_
                refine rl_call rfl (ent_static (args := [(.slice (some ⟨gA, 0, none⟩) bs.length cAll), (vU (qa : Int)), (vU (qb : Int))]) Tryz.func20 rfl rfl rfl rfl) (rcpathR_ok bs ws (some ⟨gA, 0, none⟩) cAll _ (hA.sl (own2 := []) hm (by intro p hp; exact ⟨by simp at hp ⊢; simp [hp], by simp⟩)) (hW.mem hm) (fun b hb => Nat.le_trans (hbb b hb) (by decide)) (by omega) qa qb) ?_
                rintro _ w76 ⟨ay, cy, ry, rfl, hvy, h77⟩
                refine callQ_ret ?_
                replace hm := (hm.call h77).comm
                replace hm : Mem w [] ([(b69, row ((rootsP (bs.take qa)).map v8) 50), (b64, row ((markP (bs.take qa)).map v8) 50), (bk, row ([(vI ((nb : Nat) : Int)), uB, (.slice none 0 0), (.slice none 0 0), (.slice none 0 0), uS, (.slice none 0 0), (.slice none 0 0), (.slice none 0 0), (.slice none 0 0)]) 37)] ++ (lc ++ ([(gA, row (ws ++ restA) 38)] ++ (rB ++ ((rowsC pB) ++ (rS ++ ((rowsC pS) ++ (rx ++ (rp ++ (rq ++ (ry ++ []))))))))))) w76 := by simpa only [List.append_assoc, List.nil_append, List.append_nil, List.cons_append] using hm
                refine rl_val rfl (v := (.tuple #[(.slice ay (pathR bs qb qa).length cy), (vI (pathE bs qb qa))])) (val_move (v := (.tuple #[(.slice ay (pathR bs qb qa).length cy), (vI (pathE bs qb qa))])) rfl) ?_
                refine rl_val rfl (v := (.slice ay (pathR bs qb qa).length cy)) (val_extract (v := (.slice ay (pathR bs qb qa).length cy)) rfl rfl) ?_
                refine rl_val rfl (v := (vI (pathE bs qb qa))) (val_extract (v := (vI (pathE bs qb qa))) rfl rfl) ?_
                refine rl_val rfl (v := (.slice ay (pathR bs qb qa).length cy)) (val_assign (v := (.slice ay (pathR bs qb qa).length cy)) rfl) ?_
                refine rl_val rfl (v := (vI (pathE bs qb qa))) (val_assign (v := (vI (pathE bs qb qa))) rfl) ?_
                refine rl_nil ?_
                refine wp_sr (E := noPanic) noPanic_imp ?_
                refine rl_val rfl (v := (.slice (some ⟨gA, 0, none⟩) bs.length cAll)) (val_move (v := (.slice (some ⟨gA, 0, none⟩) bs.length cAll)) hs56) ?_
                refine rl_val rfl (v := (vU (qa : Int))) (val_move (v := (vU (qa : Int))) rfl) ?_
                refine rl_val rfl (v := (vU (qb : Int))) (val_move (v := (vU (qb : Int))) rfl) ?_
                refine rl_call rfl (ent_static (args := [(.slice (some ⟨gA, 0, none⟩) bs.length cAll), (vU (qa : Int)), (vU (qb : Int))]) Tryz.func21 rfl rfl rfl rfl) (rclinkR_ok bs ws (some ⟨gA, 0, none⟩) cAll _ (hA.sl (own2 := []) hm (by intro p hp; exact ⟨by simp at hp ⊢; simp [hp], by simp⟩)) (hW.mem hm) (fun b hb => Nat.le_trans (hbb b hb) (by decide)) (by omega) qa qb) ?_
                rintro _ w78 ⟨az, cz, rz, rfl, hvz, h79⟩
                refine callQ_ret ?_
                replace hm := (hm.call h79).comm
                replace hm : Mem w [] ([(b69, row ((rootsP (bs.take qa)).map v8) 50), (b64, row ((markP (bs.take qa)).map v8) 50), (bk, row ([(vI ((nb : Nat) : Int)), uB, (.slice none 0 0), (.slice none 0 0), (.slice none 0 0), uS, (.slice none 0 0), (.slice none 0 0), (.slice none 0 0), (.slice none 0 0)]) 37)] ++ (lc ++ ([(gA, row (ws ++ restA) 38)] ++ (rB ++ ((rowsC pB) ++ (rS ++ ((rowsC pS) ++ (rx ++ (rp ++ (rq ++ (ry ++ (rz ++ [])))))))))))) w78 := by simpa only [List.append_assoc, List.nil_append, List.append_nil, List.cons_append] using hm
                refine rl_val rfl (v := (.tuple #[(.slice az (linkR bs qb qa).length cz), (vI (linkE bs qb qa))])) (val_move (v := (.tuple #[(.slice az (linkR bs qb qa).length cz), (vI (linkE bs qb qa))])) rfl) ?_
                refine rl_val rfl (v := (.slice az (linkR bs qb qa).length cz)) (val_extract (v := (.slice az (linkR bs qb qa).length cz)) rfl rfl) ?_
                refine rl_val rfl (v := (vI (linkE bs qb qa))) (val_extract (v := (vI (linkE bs qb qa))) rfl rfl) ?_
                refine rl_val rfl (v := (.slice az (linkR bs qb qa).length cz)) (val_assign (v := (.slice az (linkR bs qb qa).length cz)) rfl) ?_
                refine rl_val rfl (v := (vI (linkE bs qb qa))) (val_assign (v := (vI (linkE bs qb qa))) rfl) ?_
                refine rl_nil ?_
                refine WP.seq ?_
                refine wp_sr (E := noPanic) noPanic_imp ?_
                refine rl_val rfl (v := (vI 0)) (val_move (v := (vI 0)) rfl) ?_
                refine rl_val rfl (v := (.bool true)) (val_eq (p := 0) (q := 0) rfl rfl) ?_
                refine rl_val rfl (v := (vU (qa : Int))) (val_move (v := (vU (qa : Int))) rfl) ?_
                refine rl_val rfl (v := (vU (bs.length : Nat))) (val_move (v := (vU (bs.length : Nat))) hs57) ?_
                refine rl_val rfl (v := (.bool true)) (val_cast (val_lt (p := (qa : Int)) (q := (bs.length : Nat)) rfl rfl) (by rw [decide_eq_true (by omega)])) ?_
                refine rl_val rfl (v := (.bool false)) (val_neB (a := true) (b := true) rfl rfl ub_4) ?_
                refine rl_val rfl (v := (.bool false)) (val_move (v := (.bool false)) rfl) ?_
                refine rl_valg ⟨169, false, rfl, .inl ⟨rfl, rfl⟩⟩ rfl (v := (vI 0)) (val_move (v := (vI 0)) rfl) ?_
                refine rl_valg ⟨169, false, rfl, .inl ⟨rfl, rfl⟩⟩ rfl (v := (.bool true)) (val_eq (p := 0) (q := 0) rfl rfl) ?_
                refine rl_valg ⟨169, false, rfl, .inl ⟨rfl, rfl⟩⟩ rfl (v := (vU (qa : Int))) (val_move (v := (vU (qa : Int))) rfl) ?_
                refine rl_valg ⟨169, false, rfl, .inl ⟨rfl, rfl⟩⟩ rfl (v := (vU (bs.length : Nat))) (val_move (v := (vU (bs.length : Nat))) hs57) ?_
                refine rl_valg ⟨169, false, rfl, .inl ⟨rfl, rfl⟩⟩ rfl (v := (.bool true)) (val_cast (val_le (p := (qa : Int)) (q := (bs.length : Nat)) rfl rfl) (by rw [decide_eq_true (by omega)])) ?_
                refine rl_valg ⟨169, false, rfl, .inl ⟨rfl, rfl⟩⟩ rfl (v := (.bool false)) (val_neB (a := true) (b := true) rfl rfl ub_4) ?_
                refine rl_val rfl (v := (.bool false)) (val_pick_f (v := (.bool false)) rfl rfl) ?_
                refine rl_val rfl (v := (.bool false)) (val_move (v := (.bool false)) rfl) ?_
                refine rl_valg ⟨177, false, rfl, .inl ⟨rfl, rfl⟩⟩ rfl (v := (vI 0)) (val_move (v := (vI 0)) rfl) ?_
                refine rl_valg ⟨177, false, rfl, .inl ⟨rfl, rfl⟩⟩ rfl (v := (vI 0)) (val_move (v := (vI 0)) rfl) ?_
                refine rl_valg ⟨177, false, rfl, .inl ⟨rfl, rfl⟩⟩ rfl (v := (.bool false)) (val_ne (p := 0) (q := 0) rfl rfl) ?_
                refine rl_val rfl (v := (.bool false)) (val_pick_f (v := (.bool false)) rfl rfl) ?_
                refine rl_val rfl (v := (.bool false)) (val_move (v := (.bool false)) rfl) ?_
                refine rl_valg ⟨182, false, rfl, .inl ⟨rfl, rfl⟩⟩ rfl (v := (vI (pathE bs qb qa))) (val_move (v := (vI (pathE bs qb qa))) rfl) ?_
                refine rl_valg ⟨182, false, rfl, .inl ⟨rfl, rfl⟩⟩ rfl (v := (vI (pathE bs qb qa))) (val_move (v := (vI (pathE bs qb qa))) rfl) ?_
                refine rl_valg ⟨182, false, rfl, .inl ⟨rfl, rfl⟩⟩ rfl (v := (.bool false)) (val_cast (val_ne (p := pathE bs qb qa) (q := pathE bs qb qa) rfl rfl) (by simp)) ?_
                refine rl_val rfl (v := (.bool false)) (val_pick_f (v := (.bool false)) rfl rfl) ?_
                refine rl_val rfl (v := (.bool false)) (val_move (v := (.bool false)) rfl) ?_
                refine rl_valg ⟨187, false, rfl, .inl ⟨rfl, rfl⟩⟩ rfl (v := (vI (linkE bs qb qa))) (val_move (v := (vI (linkE bs qb qa))) rfl) ?_
                refine rl_valg ⟨187, false, rfl, .inl ⟨rfl, rfl⟩⟩ rfl (v := (vI (linkE bs qb qa))) (val_move (v := (vI (linkE bs qb qa))) rfl) ?_
                refine rl_valg ⟨187, false, rfl, .inl ⟨rfl, rfl⟩⟩ rfl (v := (.bool false)) (val_cast (val_ne (p := linkE bs qb qa) (q := linkE bs qb qa) rfl rfl) (by simp)) ?_
                refine rl_val rfl (v := (.bool false)) (val_pick_f (v := (.bool false)) rfl rfl) ?_
                refine rl_val rfl (v := (.bool false)) (val_move (v := (.bool false)) rfl) ?_
                refine rl_valg ⟨192, false, rfl, .inl ⟨rfl, rfl⟩⟩ rfl (v := (.slice ap (pathR bs qb qa).length cp)) (val_move (v := (.slice ap (pathR bs qb qa).length cp)) rfl) ?_
                refine rl_valg ⟨192, false, rfl, .inl ⟨rfl, rfl⟩⟩ rfl (v := (.slice ay (pathR bs qb qa).length cy)) (val_move (v := (.slice ay (pathR bs qb qa).length cy)) rfl) ?_
                refine rl_callg ⟨192, false, rfl, .inl ⟨rfl, rfl⟩⟩ rfl (ent_static (args := [(.slice ap (pathR bs qb qa).length cp), (.slice ay (pathR bs qb qa).length cy)]) Tryz.func22 rfl rfl rfl rfl) (sameS_ok (pathR bs qb qa) _ _ _ _ _ _ rfl (pathR_32 _ _ _) (hvp.sl (own2 := []) hm (by intro p hp; exact ⟨by simp [hp], by simp⟩)) (hvy.sl (own2 := []) hm (by intro p hp; exact ⟨by simp [hp], by simp⟩)) (by omega)) ?_
                rintro _ w80 ⟨rfl, h81⟩
                refine callQ_ret ?_
                replace hm : Mem w [] ([(b69, row ((rootsP (bs.take qa)).map v8) 50), (b64, row ((markP (bs.take qa)).map v8) 50), (bk, row ([(vI ((nb : Nat) : Int)), uB, (.slice none 0 0), (.slice none 0 0), (.slice none 0 0), uS, (.slice none 0 0), (.slice none 0 0), (.slice none 0 0), (.slice none 0 0)]) 37)] ++ (lc ++ ([(gA, row (ws ++ restA) 38)] ++ (rB ++ ((rowsC pB) ++ (rS ++ ((rowsC pS) ++ (rx ++ (rp ++ (rq ++ (ry ++ (rz ++ [])))))))))))) w80 := hm.call h81
                refine rl_valg ⟨192, false, rfl, .inl ⟨rfl, rfl⟩⟩ rfl (v := (.bool false)) (val_not (b := true) rfl) ?_
                refine rl_val rfl (v := (.bool false)) (val_pick_f (v := (.bool false)) rfl rfl) ?_
                refine rl_val rfl (v := (.bool false)) (val_move (v := (.bool false)) rfl) ?_
                refine rl_valg ⟨198, false, rfl, .inl ⟨rfl, rfl⟩⟩ rfl (v := (.slice aq (linkR bs qb qa).length cq)) (val_move (v := (.slice aq (linkR bs qb qa).length cq)) rfl) ?_
                refine rl_valg ⟨198, false, rfl, .inl ⟨rfl, rfl⟩⟩ rfl (v := (.slice az (linkR bs qb qa).length cz)) (val_move (v := (.slice az (linkR bs qb qa).length cz)) rfl) ?_
                refine rl_callg ⟨198, false, rfl, .inl ⟨rfl, rfl⟩⟩ rfl (ent_static (args := [(.slice aq (linkR bs qb qa).length cq), (.slice az (linkR bs qb qa).length cz)]) Tryz.func22 rfl rfl rfl rfl) (sameS_ok (linkR bs qb qa) _ _ _ _ _ _ rfl (linkR_32 _ _ _) (hvq.sl (own2 := []) hm (by intro p hp; exact ⟨by simp [hp], by simp⟩)) (hvz.sl (own2 := []) hm (by intro p hp; exact ⟨by simp [hp], by simp⟩)) (by omega)) ?_
                rintro _ w82 ⟨rfl, h83⟩
                refine callQ_ret ?_
                replace hm : Mem w [] ([(b69, row ((rootsP (bs.take qa)).map v8) 50), (b64, row ((markP (bs.take qa)).map v8) 50), (bk, row ([(vI ((nb : Nat) : Int)), uB, (.slice none 0 0), (.slice none 0 0), (.slice none 0 0), uS, (.slice none 0 0), (.slice none 0 0), (.slice none 0 0), (.slice none 0 0)]) 37)] ++ (lc ++ ([(gA, row (ws ++ restA) 38)] ++ (rB ++ ((rowsC pB) ++ (rS ++ ((rowsC pS) ++ (rx ++ (rp ++ (rq ++ (ry ++ (rz ++ [])))))))))))) w82 := hm.call h83
                refine rl_valg ⟨198, false, rfl, .inl ⟨rfl, rfl⟩⟩ rfl (v := (.bool false)) (val_not (b := true) rfl) ?_
                refine rl_val rfl (v := (.bool false)) (val_pick_f (v := (.bool false)) rfl rfl) ?_
                refine rl_nil ?_
                refine WP.cond_f rfl ?_
                refine WP.skip ?_
                refine WP.seq ?_
                refine wp_sd (E := noPanic) [(0, true), (1, true), (2, true), (3, true), (4, true), (5, true), (6, true), (7, true), (8, false), (9, true), (10, true), (11, true), (12, true), (13, true), (14, true), (15, true), (16, true), (17, true), (18, true), (19, false), (20, true), (21, true), (22, true), (23, true), (24, true), (25, true), (26, false), (27, true), (28, true), (29, true), (30, true), (31, true), (32, true), (33, true), (34, true), (35, true), (36, true), (37, true), (38, true), (39, true), (40, true), (41, true), (42, true), (43, true), (44, true), (45, true), (46, true), (47, true), (48, true), (49, true), (50, true), (51, true), (52, true), (53, true), (54, true), (55, true), (56, true), (57, true), (58, true), (59, true), (60, true), (61, true)] mixed (by kernel_rfl) (by kernel_rfl) rfl (fun w' => Mem w [] ([(b69, row ((rootsP (bs.take qa)).map v8) 50), (b64, row ((markP (bs.take qa)).map v8) 50), (bk, row ([(vI ((nb : Nat) : Int)), uB, (.slice none 0 0), (.slice none 0 0), (.slice none 0 0), uS, (.slice none 0 0), (.slice none 0 0), (.slice none 0 0), (.slice none 0 0)]) 37)] ++ (lc ++ ([(gA, row (ws ++ restA) 38)] ++ (rB ++ ((rowsC pB) ++ (rS ++ ((rowsC pS) ++ (rx ++ (rp ++ (rq ++ (ry ++ (rz ++ [])))))))))))) w') noPanic_imp hm.drew ?_
                have hm := hm.drew
                refine rp_val rfl rfl (v := (vI 0)) (fun w' hs => val_move (v := (vI 0)) rfl) ?_
                refine rp_val rfl rfl (v := (.bool true)) (fun w' hs => val_eq (p := 0) (q := 0) rfl rfl) ?_
                refine rp_val rfl rfl (v := (.bool true)) (fun w' hs => val_move (v := (.bool true)) rfl) ?_
                refine rp_valg (g := some (2, true)) ⟨206, true, rfl, .inl ⟨rfl, rfl⟩⟩ rfl rfl (v := (.slice ax b0.length cx)) (fun w' hs => val_move (v := (.slice ax b0.length cx)) rfl) ?_
                refine rp_valg (g := some (2, true)) ⟨206, true, rfl, .inl ⟨rfl, rfl⟩⟩ rfl rfl (v := (.slice (some ⟨gA, 0, none⟩) bs.length cAll)) (fun w' hs => val_move (v := (.slice (some ⟨gA, 0, none⟩) bs.length cAll)) hs56) ?_
                refine rp_valg (g := some (2, true)) ⟨206, true, rfl, .inl ⟨rfl, rfl⟩⟩ rfl rfl (v := (vU (qa : Int))) (fun w' hs => val_move (v := (vU (qa : Int))) rfl) ?_
                refine rp_valg (g := some (2, true)) ⟨206, true, rfl, .inl ⟨rfl, rfl⟩⟩ rfl rfl (v := (.pointer (some ⟨gA, qa, none⟩))) (fun w' hs => val_cast (val_indexSl (i := (qa : Int)) (sz := 1) rfl rfl es_22 (by omega)) (ptr_eq (by omega))) ?_
                refine rp_valg (g := some (2, true)) ⟨206, true, rfl, .inl ⟨rfl, rfl⟩⟩ rfl rfl (v := (.slice a1 b0.length c1)) (fun w' hs => val_load1 (v := .slice a1 b0.length c1) (off := qa) rfl ag_38 (⟨38, (0, 0), hs.rows (gA, row (ws ++ restA) 38) (by simp)⟩ : RowL _ gA (ws ++ restA)) (by rw [List.getElem?_append_left (by omega)]; exact hvw)) ?_
                refine rp_callg (g := some (2, true)) ⟨206, true, rfl, .inl ⟨rfl, rfl⟩⟩ rfl rfl (ent_static (args := [(.slice ax b0.length cx), (.slice a1 b0.length c1)]) Tryz.func23 rfl rfl rfl rfl) (same8_ok b0 _ _ _ _ _ _ rfl (hvx.sl (own2 := []) hm (by intro p hp; exact ⟨by simp [hp], by simp⟩)) (hsw.mem (own2 := []) hm (by simp)) (by omega)) ?_
                rintro _ w84 ⟨rfl, h85⟩
                refine callQ_ret ?_
                refine ⟨.inr ((hm.call h85).sub (by ((try (simp only [List.append_assoc, List.nil_append, List.append_nil, List.cons_append])); repeat (first | exact List.nil_sublist _ | exact List.Sublist.refl _ | with_reducible refine List.Sublist.cons_cons _ ?_ | with_reducible refine List.Sublist.append (List.Sublist.refl _) ?_ | with_reducible exact List.sublist_append_left _ _ | refine List.Sublist.cons _ ?_ | refine List.Sublist.trans ?_ (List.sublist_append_right _ _))))), ?_⟩
                replace hm : Mem w [] ([(b69, row ((rootsP (bs.take qa)).map v8) 50), (b64, row ((markP (bs.take qa)).map v8) 50), (bk, row ([(vI ((nb : Nat) : Int)), uB, (.slice none 0 0), (.slice none 0 0), (.slice none 0 0), uS, (.slice none 0 0), (.slice none 0 0), (.slice none 0 0), (.slice none 0 0)]) 37)] ++ (lc ++ ([(gA, row (ws ++ restA) 38)] ++ (rB ++ ((rowsC pB) ++ (rS ++ ((rowsC pS) ++ (rx ++ (rp ++ (rq ++ (ry ++ (rz ++ [])))))))))))) w84 := hm.call h85
                refine rp_valg (g := some (2, true)) ⟨206, true, rfl, .inl ⟨rfl, rfl⟩⟩ rfl rfl (v := (.bool false)) (fun w' hs => val_not (b := true) rfl) ?_
                refine rp_val rfl rfl (v := (.bool false)) (fun w' hs => val_pick_t (v := (.bool false)) rfl rfl) ?_
                refine rp_val rfl rfl (v := (.bool false)) (fun w' hs => val_move (v := (.bool false)) rfl) ?_
                refine rp_valg (g := some (11, false)) ⟨215, false, rfl, .inl ⟨rfl, rfl⟩⟩ rfl rfl (v := (vI 0)) (fun w' hs => val_move (v := (vI 0)) rfl) ?_
                refine rp_valg (g := some (11, false)) ⟨215, false, rfl, .inl ⟨rfl, rfl⟩⟩ rfl rfl (v := (.bool true)) (fun w' hs => val_eq (p := 0) (q := 0) rfl rfl) ?_
                refine rp_valg (g := some (11, false)) ⟨215, false, rfl, .inl ⟨rfl, rfl⟩⟩ rfl rfl (v := (.bool true)) (fun w' hs => val_move (v := (.bool true)) rfl) ?_
                refine rp_valg (g := some (14, true)) ⟨218, true, rfl, .inl ⟨rfl, rfl⟩⟩ rfl rfl (v := (.agg ((markP (bs.take qa)).map v8).toArray)) (fun w' hs => val_loadAll rfl ag_50 (hs.row (i := 1) rfl).l (by simp) (by decide)) ?_
                refine rp_valg (g := some (14, true)) ⟨218, true, rfl, .inl ⟨rfl, rfl⟩⟩ rfl rfl (v := (.slice (some ⟨gA, 0, none⟩) bs.length cAll)) (fun w' hs => val_move (v := (.slice (some ⟨gA, 0, none⟩) bs.length cAll)) hs56) ?_
                refine rp_valg (g := some (14, true)) ⟨218, true, rfl, .inl ⟨rfl, rfl⟩⟩ rfl rfl (v := (vU (qa : Int))) (fun w' hs => val_move (v := (vU (qa : Int))) rfl) ?_
                refine rp_valg (g := some (14, true)) ⟨218, true, rfl, .inl ⟨rfl, rfl⟩⟩ rfl rfl (v := (.slice (some ⟨gA, 0, none⟩) ((bs.take qa).length) cAll)) (fun w' hs => val_cast (v' := .slice (some ⟨gA, 0, none⟩) (bs.take qa).length cAll) (val_sliceHi (h := qa) rfl us_22 es_22 rfl (by omega)) (by rw [htl])) ?_
                refine rp_callg (g := some (14, true)) ⟨218, true, rfl, .inl ⟨rfl, rfl⟩⟩ rfl rfl (ent_static (args := [(.slice (some ⟨gA, 0, none⟩) ((bs.take qa).length) cAll)]) Tryz.func24 rfl rfl rfl rfl) (rmark_ok (bs.take qa) (ws.take qa) (some ⟨gA, 0, none⟩) cAll _ (take_sl hA hm (by intro p hp; exact ⟨by simp at hp ⊢; simp [hp], by simp⟩) htl (by omega)) ((hW.mem hm).take) (fun b hb => Nat.le_trans (hbb b (List.mem_of_mem_take hb)) (by decide)) (by omega)) ?_
                rintro _ w86 ⟨rfl, h87⟩
                refine callQ_ret ?_
                refine ⟨.inr ((hm.call h87).sub (by ((try (simp only [List.append_assoc, List.nil_append, List.append_nil, List.cons_append])); repeat (first | exact List.nil_sublist _ | exact List.Sublist.refl _ | with_reducible refine List.Sublist.cons_cons _ ?_ | with_reducible refine List.Sublist.append (List.Sublist.refl _) ?_ | with_reducible exact List.sublist_append_left _ _ | refine List.Sublist.cons _ ?_ | refine List.Sublist.trans ?_ (List.sublist_append_right _ _))))), ?_⟩
                replace hm : Mem w [] ([(b69, row ((rootsP (bs.take qa)).map v8) 50), (b64, row ((markP (bs.take qa)).map v8) 50), (bk, row ([(vI ((nb : Nat) : Int)), uB, (.slice none 0 0), (.slice none 0 0), (.slice none 0 0), uS, (.slice none 0 0), (.slice none 0 0), (.slice none 0 0), (.slice none 0 0)]) 37)] ++ (lc ++ ([(gA, row (ws ++ restA) 38)] ++ (rB ++ ((rowsC pB) ++ (rS ++ ((rowsC pS) ++ (rx ++ (rp ++ (rq ++ (ry ++ (rz ++ [])))))))))))) w86 := hm.call h87
                refine rp_valg (g := some (14, true)) ⟨218, true, rfl, .inl ⟨rfl, rfl⟩⟩ rfl rfl (v := (.bool false)) (fun w' hs => val_cast (val_neSum (a := markP (bs.take qa)) (b := markP (bs.take qa)) (by simp) (by simp) rfl rfl) (by simp)) ?_
                refine rp_valg (g := some (14, true)) ⟨218, true, rfl, .inl ⟨rfl, rfl⟩⟩ rfl rfl (v := (.bool false)) (fun w' hs => val_move (v := (.bool false)) rfl) ?_
                refine rp_valg (g := some (21, false)) ⟨225, false, rfl, .inl ⟨rfl, rfl⟩⟩ rfl rfl (v := (.agg ((rootsP (bs.take qa)).map v8).toArray)) (fun w' hs => val_loadAll rfl ag_50 (hs.row (i := 0) rfl).l (by simp) (by decide)) ?_
                refine rp_valg (g := some (21, false)) ⟨225, false, rfl, .inl ⟨rfl, rfl⟩⟩ rfl rfl (v := (.slice (some ⟨gA, 0, none⟩) bs.length cAll)) (fun w' hs => val_move (v := (.slice (some ⟨gA, 0, none⟩) bs.length cAll)) hs56) ?_
                refine rp_valg (g := some (21, false)) ⟨225, false, rfl, .inl ⟨rfl, rfl⟩⟩ rfl rfl (v := (vU (qa : Int))) (fun w' hs => val_move (v := (vU (qa : Int))) rfl) ?_
                refine rp_valg (g := some (21, false)) ⟨225, false, rfl, .inl ⟨rfl, rfl⟩⟩ rfl rfl (v := (.slice (some ⟨gA, 0, none⟩) ((bs.take qa).length) cAll)) (fun w' hs => val_cast (v' := .slice (some ⟨gA, 0, none⟩) (bs.take qa).length cAll) (val_sliceHi (h := qa) rfl us_22 es_22 rfl (by omega)) (by rw [htl])) ?_
                refine rp_callg (g := some (21, false)) ⟨225, false, rfl, .inl ⟨rfl, rfl⟩⟩ rfl rfl (ent_static (args := [(.slice (some ⟨gA, 0, none⟩) ((bs.take qa).length) cAll)]) Tryz.func25 rfl rfl rfl rfl) (rrootc_ok (bs.take qa) (ws.take qa) (some ⟨gA, 0, none⟩) cAll _ (take_sl hA hm (by intro p hp; exact ⟨by simp at hp ⊢; simp [hp], by simp⟩) htl (by omega)) ((hW.mem hm).take) (fun b hb => Nat.le_trans (hbb b (List.mem_of_mem_take hb)) (by decide)) (by omega)) ?_
                rintro _ w88 ⟨rfl, h89⟩
                refine callQ_ret ?_
                refine ⟨.inr ((hm.call h89).sub (by ((try (simp only [List.append_assoc, List.nil_append, List.append_nil, List.cons_append])); repeat (first | exact List.nil_sublist _ | exact List.Sublist.refl _ | with_reducible refine List.Sublist.cons_cons _ ?_ | with_reducible refine List.Sublist.append (List.Sublist.refl _) ?_ | with_reducible exact List.sublist_append_left _ _ | refine List.Sublist.cons _ ?_ | refine List.Sublist.trans ?_ (List.sublist_append_right _ _))))), ?_⟩
                replace hm : Mem w [] ([(b69, row ((rootsP (bs.take qa)).map v8) 50), (b64, row ((markP (bs.take qa)).map v8) 50), (bk, row ([(vI ((nb : Nat) : Int)), uB, (.slice none 0 0), (.slice none 0 0), (.slice none 0 0), uS, (.slice none 0 0), (.slice none 0 0), (.slice none 0 0), (.slice none 0 0)]) 37)] ++ (lc ++ ([(gA, row (ws ++ restA) 38)] ++ (rB ++ ((rowsC pB) ++ (rS ++ ((rowsC pS) ++ (rx ++ (rp ++ (rq ++ (ry ++ (rz ++ [])))))))))))) w88 := hm.call h89
                refine rp_valg (g := some (21, false)) ⟨225, false, rfl, .inl ⟨rfl, rfl⟩⟩ rfl rfl (v := (.bool false)) (fun w' hs => val_cast (val_neSum (a := rootsP (bs.take qa)) (b := rootsP (bs.take qa)) (by simp) (by simp) rfl rfl) (by simp)) ?_
                refine rp_valg (g := some (14, true)) ⟨218, true, rfl, .inl ⟨rfl, rfl⟩⟩ rfl rfl (v := (.bool false)) (fun w' hs => val_pick_f (v := (.bool false)) rfl rfl) ?_
                refine rp_valg (g := some (11, false)) ⟨215, false, rfl, .inl ⟨rfl, rfl⟩⟩ rfl rfl (v := (.bool false)) (fun w' hs => val_pick_t (v := (.bool false)) rfl rfl) ?_
                refine rp_val rfl rfl (v := (.bool false)) (fun w' hs => val_pick_f (v := (.bool false)) rfl rfl) ?_
                refine rp_val rfl rfl (v := (.bool false)) (fun w' hs => val_move (v := (.bool false)) rfl) ?_
                refine rp_valg (g := some (31, false)) ⟨235, false, rfl, .inl ⟨rfl, rfl⟩⟩ rfl rfl (v := (vI 0)) (fun w' hs => val_move (v := (vI 0)) rfl) ?_
                refine rp_valg (g := some (31, false)) ⟨235, false, rfl, .inl ⟨rfl, rfl⟩⟩ rfl rfl (v := (.bool false)) (fun w' hs => val_ne (p := 0) (q := 0) rfl rfl) ?_
                refine rp_valg (g := some (31, false)) ⟨235, false, rfl, .inl ⟨rfl, rfl⟩⟩ rfl rfl (v := (.bool false)) (fun w' hs => val_move (v := (.bool false)) rfl) ?_
                refine rp_off (g := some (34, true)) ⟨238, false, rfl, .inl ⟨rfl, rfl⟩⟩ rfl rfl ?_
                refine rp_off (g := some (34, true)) ⟨238, false, rfl, .inl ⟨rfl, rfl⟩⟩ rfl rfl ?_
                refine rp_off (g := some (34, true)) ⟨238, false, rfl, .inl ⟨rfl, rfl⟩⟩ rfl rfl ?_
                refine rp_off (g := some (37, false)) ⟨241, true, rfl, .inr ⟨rfl, rfl⟩⟩ rfl rfl ?_
                refine rp_off (g := some (37, false)) ⟨241, true, rfl, .inr ⟨rfl, rfl⟩⟩ rfl rfl ?_
                refine rp_off (g := some (37, false)) ⟨241, true, rfl, .inr ⟨rfl, rfl⟩⟩ rfl rfl ?_
                refine rp_off (g := some (34, true)) ⟨238, false, rfl, .inl ⟨rfl, rfl⟩⟩ rfl rfl ?_
                refine rp_valg (g := some (31, false)) ⟨235, false, rfl, .inl ⟨rfl, rfl⟩⟩ rfl rfl (v := (.bool false)) (fun w' hs => val_pick_f (v := (.bool false)) rfl rfl) ?_
                refine rp_val rfl rfl (v := (.bool false)) (fun w' hs => val_pick_f (v := (.bool false)) rfl rfl) ?_
                refine rp_val rfl rfl (v := (.bool false)) (fun w' hs => val_move (v := (.bool false)) rfl) ?_
                refine rp_valg (g := some (44, false)) ⟨248, false, rfl, .inl ⟨rfl, rfl⟩⟩ rfl rfl (v := (vI 0)) (fun w' hs => val_move (v := (vI 0)) rfl) ?_
                refine rp_valg (g := some (44, false)) ⟨248, false, rfl, .inl ⟨rfl, rfl⟩⟩ rfl rfl (v := (.bool false)) (fun w' hs => val_ne (p := 0) (q := 0) rfl rfl) ?_
                refine rp_valg (g := some (44, false)) ⟨248, false, rfl, .inl ⟨rfl, rfl⟩⟩ rfl rfl (v := (.bool false)) (fun w' hs => val_move (v := (.bool false)) rfl) ?_
                refine rp_off (g := some (47, true)) ⟨251, false, rfl, .inl ⟨rfl, rfl⟩⟩ rfl rfl ?_
                refine rp_off (g := some (47, true)) ⟨251, false, rfl, .inl ⟨rfl, rfl⟩⟩ rfl rfl ?_
                refine rp_off (g := some (47, true)) ⟨251, false, rfl, .inl ⟨rfl, rfl⟩⟩ rfl rfl ?_
                refine rp_off (g := some (50, false)) ⟨254, true, rfl, .inr ⟨rfl, rfl⟩⟩ rfl rfl ?_
                refine rp_off (g := some (50, false)) ⟨254, true, rfl, .inr ⟨rfl, rfl⟩⟩ rfl rfl ?_
                refine rp_off (g := some (50, false)) ⟨254, true, rfl, .inr ⟨rfl, rfl⟩⟩ rfl rfl ?_
                refine rp_off (g := some (47, true)) ⟨251, false, rfl, .inl ⟨rfl, rfl⟩⟩ rfl rfl ?_
                refine rp_off (g := some (47, true)) ⟨251, false, rfl, .inl ⟨rfl, rfl⟩⟩ rfl rfl ?_
                refine rp_off (g := some (55, false)) ⟨259, true, rfl, .inr ⟨rfl, rfl⟩⟩ rfl rfl ?_
                refine rp_off (g := some (55, false)) ⟨259, true, rfl, .inr ⟨rfl, rfl⟩⟩ rfl rfl ?_
                refine rp_off (g := some (55, false)) ⟨259, true, rfl, .inr ⟨rfl, rfl⟩⟩ rfl rfl ?_
                refine rp_off (g := some (47, true)) ⟨251, false, rfl, .inl ⟨rfl, rfl⟩⟩ rfl rfl ?_
                refine rp_valg (g := some (44, false)) ⟨248, false, rfl, .inl ⟨rfl, rfl⟩⟩ rfl rfl (v := (.bool false)) (fun w' hs => val_pick_f (v := (.bool false)) rfl rfl) ?_
                refine rp_val rfl rfl (v := (.bool false)) (fun w' hs => val_pick_f (v := (.bool false)) rfl rfl) ?_
                refine rp_nil ?_
                refine WP.cond_f rfl ?_
                refine WP.skip ?_
                refine wp_sr (E := noPanic) noPanic_imp ?_
                refine rl_val rfl (v := (.slice ax b0.length cx)) (val_move (v := (.slice ax b0.length cx)) rfl) ?_
                have hm2 : Mem w [] ([] ++ (((bk, row ([(vI ((nb : Nat) : Int)), uB, (.slice none 0 0), (.slice none 0 0), (.slice none 0 0), uS, (.slice none 0 0), (.slice none 0 0), (.slice none 0 0), (.slice none 0 0)]) 37) :: rB) ++ ([(b69, row ((rootsP (bs.take qa)).map v8) 50), (b64, row ((markP (bs.take qa)).map v8) 50)] ++ (lc ++ ([(gA, row (ws ++ restA) 38)] ++ ((rowsC pB) ++ (rS ++ ((rowsC pS) ++ (rx ++ (rp ++ (rq ++ (ry ++ (rz ++ []))))))))))))) w88 := hm.perm (by classical exact List.perm_iff_count.2 (fun y => by simp only [List.count_append, List.count_cons, List.count_nil]; omega))
                refine rl_call rfl (ent_static (args := [(.pointer (some ⟨bk, 0, none⟩)), (.slice ax b0.length cx)]) Tryz.func13 rfl rfl rfl (args_cons hs55 (args_cons rfl (args_nil)))) (putB_ok bk nb (pB).length b0.length cx uB (.slice none 0 0) (.slice none 0 0) (.slice none 0 0) uS (.slice none 0 0) (.slice none 0 0) (.slice none 0 0) (.slice none 0 0) uB ax (heldC pB) rB _ (hm2.see.2 (bk, row ([(vI ((nb : Nat) : Int)), uB, (.slice none 0 0), (.slice none 0 0), (.slice none 0 0), uS, (.slice none 0 0), (.slice none 0 0), (.slice none 0 0), (.slice none 0 0)]) 37) (by simp)) hB (fun p hp => hm2.see.2 p (by simp [hp])) (by intro p hp he; have h := hm2.see.1; simp only [List.map_cons, List.nodup_cons] at h; exact h.1 (List.mem_map.2 ⟨p, hp, he⟩)) (by omega) (by (try simp only [List.length_append, List.length_singleton]); omega)) ?_
                rintro _ w90 ⟨rfl, u92, rk93, hk94, h91⟩
                refine callQ_ret ?_
                have hw95 : VecIs u92 ((pB ++ [(⟨.slice ax b0.length cx, .slice none 0 0, b0.length, nb + 1, b0.map v8, rx⟩ : HP)])).length 3 213 (heldC (pB ++ [(⟨.slice ax b0.length cx, .slice none 0 0, b0.length, nb + 1, b0.map v8, rx⟩ : HP)])) rk93 := by rw [heldC_snoc]; simpa using hk94
                replace hm : Mem w [] ([(b69, row ((rootsP (bs.take qa)).map v8) 50), (b64, row ((markP (bs.take qa)).map v8) 50), (bk, row ([(vI ((nb + 1 : Nat) : Int)), u92, (.slice none 0 0), (.slice none 0 0), (.slice none 0 0), uS, (.slice none 0 0), (.slice none 0 0), (.slice none 0 0), (.slice none 0 0)]) 37)] ++ (lc ++ ([(gA, row (ws ++ restA) 38)] ++ (rk93 ++ ((rowsC pB) ++ (rS ++ ((rowsC pS) ++ (rx ++ (rp ++ (rq ++ (ry ++ (rz ++ [])))))))))))) w90 := (hm2.callL h91).perm (by classical exact List.perm_iff_count.2 (fun y => by simp only [List.count_append, List.count_cons, List.count_nil]; omega))
                refine rl_nil ?_
                refine wp_sr (E := noPanic) noPanic_imp ?_
                refine rl_val rfl (v := (.slice ap (pathR bs qb qa).length cp)) (val_move (v := (.slice ap (pathR bs qb qa).length cp)) rfl) ?_
                have hm2 : Mem w [] ([] ++ (((bk, row ([(vI ((nb + 1 : Nat) : Int)), u92, (.slice none 0 0), (.slice none 0 0), (.slice none 0 0), uS, (.slice none 0 0), (.slice none 0 0), (.slice none 0 0), (.slice none 0 0)]) 37) :: rS) ++ ([(b69, row ((rootsP (bs.take qa)).map v8) 50), (b64, row ((markP (bs.take qa)).map v8) 50)] ++ (lc ++ ([(gA, row (ws ++ restA) 38)] ++ (rk93 ++ ((rowsC pB) ++ ((rowsC pS) ++ (rx ++ (rp ++ (rq ++ (ry ++ (rz ++ []))))))))))))) w90 := hm.perm (by classical exact List.perm_iff_count.2 (fun y => by simp only [List.count_append, List.count_cons, List.count_nil]; omega))
                refine rl_call rfl (ent_static (args := [(.pointer (some ⟨bk, 0, none⟩)), (.slice ap (pathR bs qb qa).length cp)]) Tryz.func26 rfl rfl rfl (args_cons hs55 (args_cons rfl (args_nil)))) (putS_ok bk (nb + 1) (pS).length ((pathR bs qb qa).length) cp u92 (.slice none 0 0) (.slice none 0 0) (.slice none 0 0) uS (.slice none 0 0) (.slice none 0 0) (.slice none 0 0) (.slice none 0 0) uS ap (heldC pS) rS _ (hm2.see.2 (bk, row ([(vI ((nb + 1 : Nat) : Int)), u92, (.slice none 0 0), (.slice none 0 0), (.slice none 0 0), uS, (.slice none 0 0), (.slice none 0 0), (.slice none 0 0), (.slice none 0 0)]) 37) (by simp)) hS (fun p hp => hm2.see.2 p (by simp [hp])) (by intro p hp he; have h := hm2.see.1; simp only [List.map_cons, List.nodup_cons] at h; exact h.1 (List.mem_map.2 ⟨p, hp, he⟩)) (by omega) (by (try simp only [List.length_append, List.length_singleton]); omega)) ?_
                rintro _ w96 ⟨rfl, u98, rk99, hk100, h97⟩
                refine callQ_ret ?_
                have hw101 : VecIs u98 ((pS ++ [(⟨.slice ap ((pathR bs qb qa).length) cp, .slice none 0 0, (pathR bs qb qa).length, (nb + 1) + 1, sumsC (pathR bs qb qa), rp⟩ : HP)])).length 3 226 (heldC (pS ++ [(⟨.slice ap ((pathR bs qb qa).length) cp, .slice none 0 0, (pathR bs qb qa).length, (nb + 1) + 1, sumsC (pathR bs qb qa), rp⟩ : HP)])) rk99 := by rw [heldC_snoc]; simpa using hk100
                replace hm : Mem w [] ([(b69, row ((rootsP (bs.take qa)).map v8) 50), (b64, row ((markP (bs.take qa)).map v8) 50), (bk, row ([(vI (((nb + 1) + 1 : Nat) : Int)), u92, (.slice none 0 0), (.slice none 0 0), (.slice none 0 0), u98, (.slice none 0 0), (.slice none 0 0), (.slice none 0 0), (.slice none 0 0)]) 37)] ++ (lc ++ ([(gA, row (ws ++ restA) 38)] ++ (rk93 ++ ((rowsC pB) ++ (rk99 ++ ((rowsC pS) ++ (rx ++ (rp ++ (rq ++ (ry ++ (rz ++ [])))))))))))) w96 := (hm2.callL h97).perm (by classical exact List.perm_iff_count.2 (fun y => by simp only [List.count_append, List.count_cons, List.count_nil]; omega))
                refine rl_nil ?_
                refine wp_r (E := noPanic) noPanic_imp ?_
                refine rl_val rfl (v := (.slice aq (linkR bs qb qa).length cq)) (val_move (v := (.slice aq (linkR bs qb qa).length cq)) rfl) ?_
                have hm2 : Mem w [] ([] ++ (((bk, row ([(vI (((nb + 1) + 1 : Nat) : Int)), u92, (.slice none 0 0), (.slice none 0 0), (.slice none 0 0), u98, (.slice none 0 0), (.slice none 0 0), (.slice none 0 0), (.slice none 0 0)]) 37) :: rk99) ++ ([(b69, row ((rootsP (bs.take qa)).map v8) 50), (b64, row ((markP (bs.take qa)).map v8) 50)] ++ (lc ++ ([(gA, row (ws ++ restA) 38)] ++ (rk93 ++ ((rowsC pB) ++ ((rowsC pS) ++ (rx ++ (rp ++ (rq ++ (ry ++ (rz ++ []))))))))))))) w96 := hm.perm (by classical exact List.perm_iff_count.2 (fun y => by simp only [List.count_append, List.count_cons, List.count_nil]; omega))
                refine rl_call rfl (ent_static (args := [(.pointer (some ⟨bk, 0, none⟩)), (.slice aq (linkR bs qb qa).length cq)]) Tryz.func26 rfl rfl rfl (args_cons hs55 (args_cons rfl (args_nil)))) (putS_ok bk ((nb + 1) + 1) ((pS ++ [(⟨.slice ap ((pathR bs qb qa).length) cp, .slice none 0 0, (pathR bs qb qa).length, (nb + 1) + 1, sumsC (pathR bs qb qa), rp⟩ : HP)])).length ((linkR bs qb qa).length) cq u92 (.slice none 0 0) (.slice none 0 0) (.slice none 0 0) u98 (.slice none 0 0) (.slice none 0 0) (.slice none 0 0) (.slice none 0 0) u98 aq (heldC (pS ++ [(⟨.slice ap ((pathR bs qb qa).length) cp, .slice none 0 0, (pathR bs qb qa).length, (nb + 1) + 1, sumsC (pathR bs qb qa), rp⟩ : HP)])) rk99 _ (hm2.see.2 (bk, row ([(vI (((nb + 1) + 1 : Nat) : Int)), u92, (.slice none 0 0), (.slice none 0 0), (.slice none 0 0), u98, (.slice none 0 0), (.slice none 0 0), (.slice none 0 0), (.slice none 0 0)]) 37) (by simp)) hw101 (fun p hp => hm2.see.2 p (by simp [hp])) (by intro p hp he; have h := hm2.see.1; simp only [List.map_cons, List.nodup_cons] at h; exact h.1 (List.mem_map.2 ⟨p, hp, he⟩)) (by omega) (by (try simp only [List.length_append, List.length_singleton]); omega)) ?_
                rintro _ w102 ⟨rfl, u104, rk105, hk106, h103⟩
                refine callQ_ret ?_
                have hw107 : VecIs u104 (((pS ++ [(⟨.slice ap ((pathR bs qb qa).length) cp, .slice none 0 0, (pathR bs qb qa).length, (nb + 1) + 1, sumsC (pathR bs qb qa), rp⟩ : HP)]) ++ [(⟨.slice aq ((linkR bs qb qa).length) cq, .slice none 0 0, (linkR bs qb qa).length, ((nb + 1) + 1) + 1, sumsC (linkR bs qb qa), rq⟩ : HP)])).length 3 226 (heldC ((pS ++ [(⟨.slice ap ((pathR bs qb qa).length) cp, .slice none 0 0, (pathR bs qb qa).length, (nb + 1) + 1, sumsC (pathR bs qb qa), rp⟩ : HP)]) ++ [(⟨.slice aq ((linkR bs qb qa).length) cq, .slice none 0 0, (linkR bs qb qa).length, ((nb + 1) + 1) + 1, sumsC (linkR bs qb qa), rq⟩ : HP)])) rk105 := by rw [heldC_snoc]; simpa using hk106
                replace hm : Mem w [] ([(b69, row ((rootsP (bs.take qa)).map v8) 50), (b64, row ((markP (bs.take qa)).map v8) 50), (bk, row ([(vI ((((nb + 1) + 1) + 1 : Nat) : Int)), u92, (.slice none 0 0), (.slice none 0 0), (.slice none 0 0), u104, (.slice none 0 0), (.slice none 0 0), (.slice none 0 0), (.slice none 0 0)]) 37)] ++ (lc ++ ([(gA, row (ws ++ restA) 38)] ++ (rk93 ++ ((rowsC pB) ++ (rk105 ++ ((rowsC pS) ++ (rx ++ (rp ++ (rq ++ (ry ++ (rz ++ [])))))))))))) w102 := (hm2.callL h103).perm (by classical exact List.perm_iff_count.2 (fun y => by simp only [List.count_append, List.count_cons, List.count_nil]; omega))
                refine rl_nil ?_
                refine wp_r (E := noPanic) noPanic_imp ?_
                refine rl_val rfl (v := (vI (i : Int))) (val_move (v := (vI (i : Int))) hs58) ?_
                refine rl_val rfl (v := (vI ((i : Int) + 1))) (val_addI (p := (i : Int)) (q := 1) rfl rfl (by omega)) ?_
                refine rl_val rfl (v := (vI ((i : Int) + 1))) (val_assign (v := (vI ((i : Int) + 1))) rfl) ?_
                refine rl_nil ?_
                have hx1 : HOk 1 5 ⟨.slice ax b0.length cx, .slice none 0 0, b0.length, nb + 1, b0.map v8, rx⟩ := ⟨hvx, rfl, by show b0.length ≤ _; omega, by show nb + 1 ≤ _; omega⟩
                have hx2 : HOk 32 50 ⟨.slice ap (pathR bs qb qa).length cp, .slice none 0 0, (pathR bs qb qa).length, nb + 1 + 1, sumsC (pathR bs qb qa), rp⟩ := ⟨hvp, rfl, by show (pathR bs qb qa).length ≤ _; omega, by show nb + 1 + 1 ≤ _; omega⟩
                have hx3 : HOk 32 50 ⟨.slice aq (linkR bs qb qa).length cq, .slice none 0 0, (linkR bs qb qa).length, nb + 1 + 1 + 1, sumsC (linkR bs qb qa), rq⟩ := ⟨hvq, rfl, by show (linkR bs qb qa).length ≤ _; omega, by show nb + 1 + 1 + 1 ≤ _; omega⟩
                exact ⟨A.length - (i + 1), by omega, ⟨i + 1, nb + 1 + 1 + 1, (pB ++ [(⟨.slice ax b0.length cx, .slice none 0 0, b0.length, nb + 1, b0.map v8, rx⟩ : HP)]), u92, rk93, ((pS ++ [(⟨.slice ap ((pathR bs qb qa).length) cp, .slice none 0 0, (pathR bs qb qa).length, (nb + 1) + 1, sumsC (pathR bs qb qa), rp⟩ : HP)]) ++ [(⟨.slice aq ((linkR bs qb qa).length) cq, .slice none 0 0, (linkR bs qb qa).length, ((nb + 1) + 1) + 1, sumsC (linkR bs qb qa), rq⟩ : HP)]), u104, rk105, rfl, by omega, by simp only [List.length_append, List.length_singleton]; omega, by simp only [List.length_append, List.length_singleton]; omega, by omega, hw95, hw107, by intro p hp; rcases List.mem_append.1 hp with hp | hp; exact hPB p hp; rw [List.mem_singleton.1 hp]; exact hx1, by intro p hp; rcases List.mem_append.1 hp with hp | hp; rcases List.mem_append.1 hp with hp | hp; exact hPS p hp; rw [List.mem_singleton.1 hp]; exact hx2; rw [List.mem_singleton.1 hp]; exact hx3, (by simp only [rowsC_snoc]; exact (hm.sub (l2 := ([(bk, row ([(vI ((((nb + 1) + 1) + 1 : Nat) : Int)), u92, (.slice none 0 0), (.slice none 0 0), (.slice none 0 0), u104, (.slice none 0 0), (.slice none 0 0), (.slice none 0 0), (.slice none 0 0)]) 37)] ++ (lc ++ ([(gA, row (ws ++ restA) 38)] ++ (rk93 ++ ((rowsC pB) ++ (rk105 ++ ((rowsC pS) ++ (rx ++ (rp ++ (rq ++ []))))))))))) (by ((try (simp only [List.append_assoc, List.nil_append, List.append_nil, List.cons_append])); repeat (first | exact List.nil_sublist _ | exact List.Sublist.refl _ | with_reducible refine List.Sublist.cons_cons _ ?_ | with_reducible refine List.Sublist.append (List.Sublist.refl _) ?_ | with_reducible exact List.sublist_append_left _ _ | refine List.Sublist.cons _ ?_ | refine List.Sublist.trans ?_ (List.sublist_append_right _ _))))).perm (by classical exact List.perm_iff_count.2 (fun y => by simp only [List.count_append, List.count_cons, List.count_nil]; omega))), hs53, hs54, hs55, hs56, hs57, (by first | rfl | (refine int_eq ?_; simp; try omega) | (refine int_eq ?_; omega))⟩⟩
              ·
                have hF : errAt bs qa = 0 := by unfold errAt; rw [if_pos (by omega)]
                have hMk : sumAt markP bs qa = markP (bs.take qa) := by unfold sumAt; rw [if_pos (by omega)]
                have hRt : sumAt rootsP bs qa = rootsP (bs.take qa) := by unfold sumAt; rw [if_pos (by omega)]
                have htl : (bs.take qa).length = qa := by simp; omega
                refine wp_sr (E := noPanic) noPanic_imp ?_
                refine rl_val rfl (v := (.pointer (some ⟨c, 0, none⟩))) (val_move (v := (.pointer (some ⟨c, 0, none⟩))) hs54) ?_
                refine rl_val rfl (v := (vU (qa : Int))) (val_move (v := (vU (qa : Int))) rfl) ?_
                refine rl_call rfl (ent_static (args := [(.pointer (some ⟨c, 0, none⟩)), (vU (qa : Int))]) Tryz.func15 rfl rfl rfl rfl) (centry_ok c qa bs lc _ (by omega) hbb hC (fun p hp => hm.rows p (by simp [hp]))) ?_
                rintro _ w108 h109
                obtain ⟨rfl, hmx⟩ := h109.2 (by omega)
                refine callQ_ret ?_
                replace hm := hm.call hmx
                refine rl_val rfl (v := (.tuple #[(.slice none 0 0), (vI 1)])) (val_move (v := (.tuple #[(.slice none 0 0), (vI 1)])) rfl) ?_
                refine rl_val rfl (v := (.slice none 0 0)) (val_extract (v := (.slice none 0 0)) rfl rfl) ?_
                refine rl_val rfl (v := (vI 1)) (val_extract (v := (vI 1)) rfl rfl) ?_
                refine rl_val rfl (v := (.slice none 0 0)) (val_assign (v := (.slice none 0 0)) rfl) ?_
                refine rl_val rfl (v := (vI 1)) (val_assign (v := (vI 1)) rfl) ?_
                refine rl_nil ?_
                refine wp_sr (E := noPanic) noPanic_imp ?_
                refine rl_val rfl (v := (.pointer (some ⟨c, 0, none⟩))) (val_move (v := (.pointer (some ⟨c, 0, none⟩))) hs54) ?_
                refine rl_val rfl (v := (vU (qa : Int))) (val_move (v := (vU (qa : Int))) rfl) ?_
                refine rl_call rfl (ent_static (args := [(.pointer (some ⟨c, 0, none⟩)), (vU (qa : Int))]) Tryz.func16 rfl rfl rfl rfl) (cmarkC_ok c qa bs lc _ (by omega) hC (fun p hp => hm.rows p (by simp [hp])) hMk hF) ?_
                rintro _ w110 ⟨rfl, h111⟩
                refine callQ_ret ?_
                replace hm : Mem w [] ([(bk, row ([(vI ((nb : Nat) : Int)), uB, (.slice none 0 0), (.slice none 0 0), (.slice none 0 0), uS, (.slice none 0 0), (.slice none 0 0), (.slice none 0 0), (.slice none 0 0)]) 37)] ++ (lc ++ (rAll ++ (rB ++ ((rowsC pB) ++ (rS ++ ((rowsC pS) ++ []))))))) w110 := hm.call h111
                refine rl_val rfl (v := (.tuple #[(.agg ((markP (bs.take qa)).map v8).toArray), (vI 0)])) (val_move (v := (.tuple #[(.agg ((markP (bs.take qa)).map v8).toArray), (vI 0)])) rfl) ?_
                refine rl_val rfl (v := (.agg ((markP (bs.take qa)).map v8).toArray)) (val_extract (v := (.agg ((markP (bs.take qa)).map v8).toArray)) rfl rfl) ?_
                refine rl_val rfl (v := (vI 0)) (val_extract (v := (vI 0)) rfl rfl) ?_
                refine rl_alloc (xs := List.replicate 32 (v8 0)) rfl zo_50 hm ?_
                intro b112 w113 hm
                refine rl_store (i := 0) (off := 0) (xs := (List.replicate 32 (v8 0))) (vs := (markP (bs.take qa)).map v8) rfl rfl rfl ag_50 hm rfl rfl (by simp) (by simp) (one_map8 _) ?_
                intro w114 hm
                rw [spl_all (n := 32) (by simp) (by simp)] at hm
                replace hm : Mem w [] ([(b112, row ((markP (bs.take qa)).map v8) 50), (bk, row ([(vI ((nb : Nat) : Int)), uB, (.slice none 0 0), (.slice none 0 0), (.slice none 0 0), uS, (.slice none 0 0), (.slice none 0 0), (.slice none 0 0), (.slice none 0 0)]) 37)] ++ (lc ++ (rAll ++ (rB ++ ((rowsC pB) ++ (rS ++ ((rowsC pS) ++ []))))))) w114 := hm
                refine rl_val rfl (v := (vI 0)) (val_assign (v := (vI 0)) rfl) ?_
                refine rl_nil ?_
                refine wp_sr (E := noPanic) noPanic_imp ?_
                refine rl_val rfl (v := (.pointer (some ⟨c, 0, none⟩))) (val_move (v := (.pointer (some ⟨c, 0, none⟩))) hs54) ?_
                refine rl_val rfl (v := (vU (qa : Int))) (val_move (v := (vU (qa : Int))) rfl) ?_
                refine rl_call rfl (ent_static (args := [(.pointer (some ⟨c, 0, none⟩)), (vU (qa : Int))]) Tryz.func17 rfl rfl rfl rfl) (crootC_ok c qa bs lc _ (by omega) hC (fun p hp => hm.rows p (by simp [hp])) hRt hF) ?_
                rintro _ w115 ⟨rfl, h116⟩
                refine callQ_ret ?_
                replace hm : Mem w [] ([(b112, row ((markP (bs.take qa)).map v8) 50), (bk, row ([(vI ((nb : Nat) : Int)), uB, (.slice none 0 0), (.slice none 0 0), (.slice none 0 0), uS, (.slice none 0 0), (.slice none 0 0), (.slice none 0 0), (.slice none 0 0)]) 37)] ++ (lc ++ (rAll ++ (rB ++ ((rowsC pB) ++ (rS ++ ((rowsC pS) ++ []))))))) w115 := hm.call h116
                refine rl_val rfl (v := (.tuple #[(.agg ((rootsP (bs.take qa)).map v8).toArray), (vI 0)])) (val_move (v := (.tuple #[(.agg ((rootsP (bs.take qa)).map v8).toArray), (vI 0)])) rfl) ?_
                refine rl_val rfl (v := (.agg ((rootsP (bs.take qa)).map v8).toArray)) (val_extract (v := (.agg ((rootsP (bs.take qa)).map v8).toArray)) rfl rfl) ?_
                refine rl_val rfl (v := (vI 0)) (val_extract (v := (vI 0)) rfl rfl) ?_
                refine rl_alloc (xs := List.replicate 32 (v8 0)) rfl zo_50 hm ?_
                intro b117 w118 hm
                refine rl_store (i := 0) (off := 0) (xs := (List.replicate 32 (v8 0))) (vs := (rootsP (bs.take qa)).map v8) rfl rfl rfl ag_50 hm rfl rfl (by simp) (by simp) (one_map8 _) ?_
                intro w119 hm
                rw [spl_all (n := 32) (by simp) (by simp)] at hm
                replace hm : Mem w [] ([(b117, row ((rootsP (bs.take qa)).map v8) 50), (b112, row ((markP (bs.take qa)).map v8) 50), (bk, row ([(vI ((nb : Nat) : Int)), uB, (.slice none 0 0), (.slice none 0 0), (.slice none 0 0), uS, (.slice none 0 0), (.slice none 0 0), (.slice none 0 0), (.slice none 0 0)]) 37)] ++ (lc ++ (rAll ++ (rB ++ ((rowsC pB) ++ (rS ++ ((rowsC pS) ++ []))))))) w119 := hm
                refine rl_val rfl (v := (vI 0)) (val_assign (v := (vI 0)) rfl) ?_
                refine rl_nil ?_
                refine wp_sr (E := noPanic) noPanic_imp ?_
                refine rl_val rfl (v := (.pointer (some ⟨c, 0, none⟩))) (val_move (v := (.pointer (some ⟨c, 0, none⟩))) hs54) ?_
                refine rl_val rfl (v := (vU (qa : Int))) (val_move (v := (vU (qa : Int))) rfl) ?_
                refine rl_val rfl (v := (vU (qb : Int))) (val_move (v := (vU (qb : Int))) rfl) ?_
                refine rl_call rfl (ent_static (args := [(.pointer (some ⟨c, 0, none⟩)), (vU (qa : Int)), (vU (qb : Int))]) Tryz.func18 rfl rfl rfl rfl) (cpathR_ok c qb qa bs lc _ (by omega) hC (fun p hp => hm.rows p (by simp [hp]))) ?_
                rintro _ w120 ⟨ap, cp, rp, rfl, hvp, h121⟩
                refine callQ_ret ?_
                replace hm := (hm.call h121).comm
                replace hm : Mem w [] ([(b117, row ((rootsP (bs.take qa)).map v8) 50), (b112, row ((markP (bs.take qa)).map v8) 50), (bk, row ([(vI ((nb : Nat) : Int)), uB, (.slice none 0 0), (.slice none 0 0), (.slice none 0 0), uS, (.slice none 0 0), (.slice none 0 0), (.slice none 0 0), (.slice none 0 0)]) 37)] ++ (lc ++ (rAll ++ (rB ++ ((rowsC pB) ++ (rS ++ ((rowsC pS) ++ (rp ++ [])))))))) w120 := by simpa only [List.append_assoc, List.nil_append, List.append_nil, List.cons_append] using hm
                refine rl_val rfl (v := (.tuple #[(.slice ap (pathR bs qb qa).length cp), (vI (pathE bs qb qa))])) (val_move (v := (.tuple #[(.slice ap (pathR bs qb qa).length cp), (vI (pathE bs qb qa))])) rfl) ?_
                refine rl_val rfl (v := (.slice ap (pathR bs qb qa).length cp)) (val_extract (v := (.slice ap (pathR bs qb qa).length cp)) rfl rfl) ?_
                refine rl_val rfl (v := (vI (pathE bs qb qa))) (val_extract (v := (vI (pathE bs qb qa))) rfl rfl) ?_
                refine rl_val rfl (v := (.slice ap (pathR bs qb qa).length cp)) (val_assign (v := (.slice ap (pathR bs qb qa).length cp)) rfl) ?_
                refine rl_val rfl (v := (vI (pathE bs qb qa))) (val_assign (v := (vI (pathE bs qb qa))) rfl) ?_
                refine rl_nil ?_
                refine wp_sr (E := noPanic) noPanic_imp ?_
                refine rl_val rfl (v := (.pointer (some ⟨c, 0, none⟩))) (val_move (v := (.pointer (some ⟨c, 0, none⟩))) hs54) ?_
                refine rl_val rfl (v := (vU (qa : Int))) (val_move (v := (vU (qa : Int))) rfl) ?_
                refine rl_val rfl (v := (vU (qb : Int))) (val_move (v := (vU (qb : Int))) rfl) ?_
                refine rl_call rfl (ent_static (args := [(.pointer (some ⟨c, 0, none⟩)), (vU (qa : Int)), (vU (qb : Int))]) Tryz.func19 rfl rfl rfl rfl) (clinkR_ok c qb qa bs lc _ (by omega) hC (fun p hp => hm.rows p (by simp [hp]))) ?_
                rintro _ w122 ⟨aq, cq, rq, rfl, hvq, h123⟩
                refine callQ_ret ?_
                replace hm := (hm.call h123).comm
                replace hm : Mem w [] ([(b117, row ((rootsP (bs.take qa)).map v8) 50), (b112, row ((markP (bs.take qa)).map v8) 50), (bk, row ([(vI ((nb : Nat) : Int)), uB, (.slice none 0 0), (.slice none 0 0), (.slice none 0 0), uS, (.slice none 0 0), (.slice none 0 0), (.slice none 0 0), (.slice none 0 0)]) 37)] ++ (lc ++ (rAll ++ (rB ++ ((rowsC pB) ++ (rS ++ ((rowsC pS) ++ (rp ++ (rq ++ []))))))))) w122 := by simpa only [List.append_assoc, List.nil_append, List.append_nil, List.cons_append] using hm
                refine rl_val rfl (v := (.tuple #[(.slice aq (linkR bs qb qa).length cq), (vI (linkE bs qb qa))])) (val_move (v := (.tuple #[(.slice aq (linkR bs qb qa).length cq), (vI (linkE bs qb qa))])) rfl) ?_
                refine rl_val rfl (v := (.slice aq (linkR bs qb qa).length cq)) (val_extract (v := (.slice aq (linkR bs qb qa).length cq)) rfl rfl) ?_
                refine rl_val rfl (v := (vI (linkE bs qb qa))) (val_extract (v := (vI (linkE bs qb qa))) rfl rfl) ?_
                refine rl_val rfl (v := (.slice aq (linkR bs qb qa).length cq)) (val_assign (v := (.slice aq (linkR bs qb qa).length cq)) rfl) ?_
                refine rl_val rfl (v := (vI (linkE bs qb qa))) (val_assign (v := (vI (linkE bs qb qa))) rfl) ?_
                refine rl_nil ?_
                refine wp_sr (E := noPanic) noPanic_imp ?_
                refine rl_val rfl (v := (.slice aAll bs.length cAll)) (val_move (v := (.slice aAll bs.length cAll)) hs56) ?_
                refine rl_val rfl (v := (vU (qa : Int))) (val_move (v := (vU (qa : Int))) rfl) ?_
                refine rl_val rfl (v := (vU (qb : Int))) (val_move (v := (vU (qb : Int))) rfl) ?_
                refine rl_call rfl (ent_static (args := [(.slice aAll bs.length cAll), (vU (qa : Int)), (vU (qb : Int))]) Tryz.func20 rfl rfl rfl rfl) (rcpathR_ok bs ws aAll cAll _ (hA.sl (own2 := []) hm (by intro p hp; exact ⟨by simp at hp ⊢; simp [hp], by simp⟩)) (hW.mem hm) (fun b hb => Nat.le_trans (hbb b hb) (by decide)) (by omega) qa qb) ?_
                rintro _ w124 ⟨ay, cy, ry, rfl, hvy, h125⟩
                refine callQ_ret ?_
                replace hm := (hm.call h125).comm
                replace hm : Mem w [] ([(b117, row ((rootsP (bs.take qa)).map v8) 50), (b112, row ((markP (bs.take qa)).map v8) 50), (bk, row ([(vI ((nb : Nat) : Int)), uB, (.slice none 0 0), (.slice none 0 0), (.slice none 0 0), uS, (.slice none 0 0), (.slice none 0 0), (.slice none 0 0), (.slice none 0 0)]) 37)] ++ (lc ++ (rAll ++ (rB ++ ((rowsC pB) ++ (rS ++ ((rowsC pS) ++ (rp ++ (rq ++ (ry ++ [])))))))))) w124 := by simpa only [List.append_assoc, List.nil_append, List.append_nil, List.cons_append] using hm
                refine rl_val rfl (v := (.tuple #[(.slice ay (pathR bs qb qa).length cy), (vI (pathE bs qb qa))])) (val_move (v := (.tuple #[(.slice ay (pathR bs qb qa).length cy), (vI (pathE bs qb qa))])) rfl) ?_
                refine rl_val rfl (v := (.slice ay (pathR bs qb qa).length cy)) (val_extract (v := (.slice ay (pathR bs qb qa).length cy)) rfl rfl) ?_
                refine rl_val rfl (v := (vI (pathE bs qb qa))) (val_extract (v := (vI (pathE bs qb qa))) rfl rfl) ?_
                refine rl_val rfl (v := (.slice ay (pathR bs qb qa).length cy)) (val_assign (v := (.slice ay (pathR bs qb qa).length cy)) rfl) ?_
                refine rl_val rfl (v := (vI (pathE bs qb qa))) (val_assign (v := (vI (pathE bs qb qa))) rfl) ?_
                refine rl_nil ?_
                refine wp_sr (E := noPanic) noPanic_imp ?_
                refine rl_val rfl (v := (.slice aAll bs.length cAll)) (val_move (v := (.slice aAll bs.length cAll)) hs56) ?_
                refine rl_val rfl (v := (vU (qa : Int))) (val_move (v := (vU (qa : Int))) rfl) ?_
                refine rl_val rfl (v := (vU (qb : Int))) (val_move (v := (vU (qb : Int))) rfl) ?_
                refine rl_call rfl (ent_static (args := [(.slice aAll bs.length cAll), (vU (qa : Int)), (vU (qb : Int))]) Tryz.func21 rfl rfl rfl rfl) (rclinkR_ok bs ws aAll cAll _ (hA.sl (own2 := []) hm (by intro p hp; exact ⟨by simp at hp ⊢; simp [hp], by simp⟩)) (hW.mem hm) (fun b hb => Nat.le_trans (hbb b hb) (by decide)) (by omega) qa qb) ?_
                rintro _ w126 ⟨az, cz, rz, rfl, hvz, h127⟩
                refine callQ_ret ?_
                replace hm := (hm.call h127).comm
                replace hm : Mem w [] ([(b117, row ((rootsP (bs.take qa)).map v8) 50), (b112, row ((markP (bs.take qa)).map v8) 50), (bk, row ([(vI ((nb : Nat) : Int)), uB, (.slice none 0 0), (.slice none 0 0), (.slice none 0 0), uS, (.slice none 0 0), (.slice none 0 0), (.slice none 0 0), (.slice none 0 0)]) 37)] ++ (lc ++ (rAll ++ (rB ++ ((rowsC pB) ++ (rS ++ ((rowsC pS) ++ (rp ++ (rq ++ (ry ++ (rz ++ []))))))))))) w126 := by simpa only [List.append_assoc, List.nil_append, List.append_nil, List.cons_append] using hm
                refine rl_val rfl (v := (.tuple #[(.slice az (linkR bs qb qa).length cz), (vI (linkE bs qb qa))])) (val_move (v := (.tuple #[(.slice az (linkR bs qb qa).length cz), (vI (linkE bs qb qa))])) rfl) ?_
                refine rl_val rfl (v := (.slice az (linkR bs qb qa).length cz)) (val_extract (v := (.slice az (linkR bs qb qa).length cz)) rfl rfl) ?_
                refine rl_val rfl (v := (vI (linkE bs qb qa))) (val_extract (v := (vI (linkE bs qb qa))) rfl rfl) ?_
                refine rl_val rfl (v := (.slice az (linkR bs qb qa).length cz)) (val_assign (v := (.slice az (linkR bs qb qa).length cz)) rfl) ?_
                refine rl_val rfl (v := (vI (linkE bs qb qa))) (val_assign (v := (vI (linkE bs qb qa))) rfl) ?_
                refine rl_nil ?_
                refine WP.seq ?_
                refine wp_sr (E := noPanic) noPanic_imp ?_
                refine rl_val rfl (v := (vI 1)) (val_move (v := (vI 1)) rfl) ?_
                refine rl_val rfl (v := (.bool false)) (val_eq (p := 1) (q := 0) rfl rfl) ?_
                refine rl_val rfl (v := (vU (qa : Int))) (val_move (v := (vU (qa : Int))) rfl) ?_
                refine rl_val rfl (v := (vU (bs.length : Nat))) (val_move (v := (vU (bs.length : Nat))) hs57) ?_
                refine rl_val rfl (v := (.bool false)) (val_cast (val_lt (p := (qa : Int)) (q := (bs.length : Nat)) rfl rfl) (by rw [decide_eq_false (by omega)])) ?_
                refine rl_val rfl (v := (.bool false)) (val_neB (a := false) (b := false) rfl rfl ub_4) ?_
                refine rl_val rfl (v := (.bool false)) (val_move (v := (.bool false)) rfl) ?_
                refine rl_valg ⟨169, false, rfl, .inl ⟨rfl, rfl⟩⟩ rfl (v := (vI 0)) (val_move (v := (vI 0)) rfl) ?_
                refine rl_valg ⟨169, false, rfl, .inl ⟨rfl, rfl⟩⟩ rfl (v := (.bool true)) (val_eq (p := 0) (q := 0) rfl rfl) ?_
                refine rl_valg ⟨169, false, rfl, .inl ⟨rfl, rfl⟩⟩ rfl (v := (vU (qa : Int))) (val_move (v := (vU (qa : Int))) rfl) ?_
                refine rl_valg ⟨169, false, rfl, .inl ⟨rfl, rfl⟩⟩ rfl (v := (vU (bs.length : Nat))) (val_move (v := (vU (bs.length : Nat))) hs57) ?_
                refine rl_valg ⟨169, false, rfl, .inl ⟨rfl, rfl⟩⟩ rfl (v := (.bool true)) (val_cast (val_le (p := (qa : Int)) (q := (bs.length : Nat)) rfl rfl) (by rw [decide_eq_true (by omega)])) ?_
                refine rl_valg ⟨169, false, rfl, .inl ⟨rfl, rfl⟩⟩ rfl (v := (.bool false)) (val_neB (a := true) (b := true) rfl rfl ub_4) ?_
                refine rl_val rfl (v := (.bool false)) (val_pick_f (v := (.bool false)) rfl rfl) ?_
                refine rl_val rfl (v := (.bool false)) (val_move (v := (.bool false)) rfl) ?_
                refine rl_valg ⟨177, false, rfl, .inl ⟨rfl, rfl⟩⟩ rfl (v := (vI 0)) (val_move (v := (vI 0)) rfl) ?_
                refine rl_valg ⟨177, false, rfl, .inl ⟨rfl, rfl⟩⟩ rfl (v := (vI 0)) (val_move (v := (vI 0)) rfl) ?_
                refine rl_valg ⟨177, false, rfl, .inl ⟨rfl, rfl⟩⟩ rfl (v := (.bool false)) (val_ne (p := 0) (q := 0) rfl rfl) ?_
                refine rl_val rfl (v := (.bool false)) (val_pick_f (v := (.bool false)) rfl rfl) ?_
                refine rl_val rfl (v := (.bool false)) (val_move (v := (.bool false)) rfl) ?_
                refine rl_valg ⟨182, false, rfl, .inl ⟨rfl, rfl⟩⟩ rfl (v := (vI (pathE bs qb qa))) (val_move (v := (vI (pathE bs qb qa))) rfl) ?_
                refine rl_valg ⟨182, false, rfl, .inl ⟨rfl, rfl⟩⟩ rfl (v := (vI (pathE bs qb qa))) (val_move (v := (vI (pathE bs qb qa))) rfl) ?_
                refine rl_valg ⟨182, false, rfl, .inl ⟨rfl, rfl⟩⟩ rfl (v := (.bool false)) (val_cast (val_ne (p := pathE bs qb qa) (q := pathE bs qb qa) rfl rfl) (by simp)) ?_
                refine rl_val rfl (v := (.bool false)) (val_pick_f (v := (.bool false)) rfl rfl) ?_
                refine rl_val rfl (v := (.bool false)) (val_move (v := (.bool false)) rfl) ?_
                refine rl_valg ⟨187, false, rfl, .inl ⟨rfl, rfl⟩⟩ rfl (v := (vI (linkE bs qb qa))) (val_move (v := (vI (linkE bs qb qa))) rfl) ?_
                refine rl_valg ⟨187, false, rfl, .inl ⟨rfl, rfl⟩⟩ rfl (v := (vI (linkE bs qb qa))) (val_move (v := (vI (linkE bs qb qa))) rfl) ?_
                refine rl_valg ⟨187, false, rfl, .inl ⟨rfl, rfl⟩⟩ rfl (v := (.bool false)) (val_cast (val_ne (p := linkE bs qb qa) (q := linkE bs qb qa) rfl rfl) (by simp)) ?_
                refine rl_val rfl (v := (.bool false)) (val_pick_f (v := (.bool false)) rfl rfl) ?_
                refine rl_val rfl (v := (.bool false)) (val_move (v := (.bool false)) rfl) ?_
                refine rl_valg ⟨192, false, rfl, .inl ⟨rfl, rfl⟩⟩ rfl (v := (.slice ap (pathR bs qb qa).length cp)) (val_move (v := (.slice ap (pathR bs qb qa).length cp)) rfl) ?_
                refine rl_valg ⟨192, false, rfl, .inl ⟨rfl, rfl⟩⟩ rfl (v := (.slice ay (pathR bs qb qa).length cy)) (val_move (v := (.slice ay (pathR bs qb qa).length cy)) rfl) ?_
                refine rl_callg ⟨192, false, rfl, .inl ⟨rfl, rfl⟩⟩ rfl (ent_static (args := [(.slice ap (pathR bs qb qa).length cp), (.slice ay (pathR bs qb qa).length cy)]) Tryz.func22 rfl rfl rfl rfl) (sameS_ok (pathR bs qb qa) _ _ _ _ _ _ rfl (pathR_32 _ _ _) (hvp.sl (own2 := []) hm (by intro p hp; exact ⟨by simp [hp], by simp⟩)) (hvy.sl (own2 := []) hm (by intro p hp; exact ⟨by simp [hp], by simp⟩)) (by omega)) ?_
                rintro _ w128 ⟨rfl, h129⟩
                refine callQ_ret ?_
                replace hm : Mem w [] ([(b117, row ((rootsP (bs.take qa)).map v8) 50), (b112, row ((markP (bs.take qa)).map v8) 50), (bk, row ([(vI ((nb : Nat) : Int)), uB, (.slice none 0 0), (.slice none 0 0), (.slice none 0 0), uS, (.slice none 0 0), (.slice none 0 0), (.slice none 0 0), (.slice none 0 0)]) 37)] ++ (lc ++ (rAll ++ (rB ++ ((rowsC pB) ++ (rS ++ ((rowsC pS) ++ (rp ++ (rq ++ (ry ++ (rz ++ []))))))))))) w128 := hm.call h129
                refine rl_valg ⟨192, false, rfl, .inl ⟨rfl, rfl⟩⟩ rfl (v := (.bool false)) (val_not (b := true) rfl) ?_
                refine rl_val rfl (v := (.bool false)) (val_pick_f (v := (.bool false)) rfl rfl) ?_
                refine rl_val rfl (v := (.bool false)) (val_move (v := (.bool false)) rfl) ?_
                refine rl_valg ⟨198, false, rfl, .inl ⟨rfl, rfl⟩⟩ rfl (v := (.slice aq (linkR bs qb qa).length cq)) (val_move (v := (.slice aq (linkR bs qb qa).length cq)) rfl) ?_
                refine rl_valg ⟨198, false, rfl, .inl ⟨rfl, rfl⟩⟩ rfl (v := (.slice az (linkR bs qb qa).length cz)) (val_move (v := (.slice az (linkR bs qb qa).length cz)) rfl) ?_
                refine rl_callg ⟨198, false, rfl, .inl ⟨rfl, rfl⟩⟩ rfl (ent_static (args := [(.slice aq (linkR bs qb qa).length cq), (.slice az (linkR bs qb qa).length cz)]) Tryz.func22 rfl rfl rfl rfl) (sameS_ok (linkR bs qb qa) _ _ _ _ _ _ rfl (linkR_32 _ _ _) (hvq.sl (own2 := []) hm (by intro p hp; exact ⟨by simp [hp], by simp⟩)) (hvz.sl (own2 := []) hm (by intro p hp; exact ⟨by simp [hp], by simp⟩)) (by omega)) ?_
                rintro _ w130 ⟨rfl, h131⟩
                refine callQ_ret ?_
                replace hm : Mem w [] ([(b117, row ((rootsP (bs.take qa)).map v8) 50), (b112, row ((markP (bs.take qa)).map v8) 50), (bk, row ([(vI ((nb : Nat) : Int)), uB, (.slice none 0 0), (.slice none 0 0), (.slice none 0 0), uS, (.slice none 0 0), (.slice none 0 0), (.slice none 0 0), (.slice none 0 0)]) 37)] ++ (lc ++ (rAll ++ (rB ++ ((rowsC pB) ++ (rS ++ ((rowsC pS) ++ (rp ++ (rq ++ (ry ++ (rz ++ []))))))))))) w130 := hm.call h131
                refine rl_valg ⟨198, false, rfl, .inl ⟨rfl, rfl⟩⟩ rfl (v := (.bool false)) (val_not (b := true) rfl) ?_
                refine rl_val rfl (v := (.bool false)) (val_pick_f (v := (.bool false)) rfl rfl) ?_
                refine rl_nil ?_
                refine WP.cond_f rfl ?_
                refine WP.skip ?_
                refine WP.seq ?_
                refine wp_sd (E := noPanic) [(0, true), (1, true), (2, true), (3, true), (4, true), (5, true), (6, true), (7, true), (8, true), (9, true), (10, true), (11, true), (12, true), (13, true), (14, true), (15, true), (16, true), (17, true), (18, true), (19, false), (20, true), (21, true), (22, true), (23, true), (24, true), (25, true), (26, false), (27, true), (28, true), (29, true), (30, true), (31, true), (32, true), (33, true), (34, true), (35, true), (36, true), (37, true), (38, true), (39, true), (40, true), (41, true), (42, true), (43, true), (44, true), (45, true), (46, true), (47, true), (48, true), (49, true), (50, true), (51, true), (52, true), (53, true), (54, true), (55, true), (56, true), (57, true), (58, true), (59, true), (60, true), (61, true)] mixed (by kernel_rfl) (by kernel_rfl) rfl (fun w' => Mem w [] ([(b117, row ((rootsP (bs.take qa)).map v8) 50), (b112, row ((markP (bs.take qa)).map v8) 50), (bk, row ([(vI ((nb : Nat) : Int)), uB, (.slice none 0 0), (.slice none 0 0), (.slice none 0 0), uS, (.slice none 0 0), (.slice none 0 0), (.slice none 0 0), (.slice none 0 0)]) 37)] ++ (lc ++ (rAll ++ (rB ++ ((rowsC pB) ++ (rS ++ ((rowsC pS) ++ (rp ++ (rq ++ (ry ++ (rz ++ []))))))))))) w') noPanic_imp hm.drew ?_
                have hm := hm.drew
                refine rp_val rfl rfl (v := (vI 1)) (fun w' hs => val_move (v := (vI 1)) rfl) ?_
                refine rp_val rfl rfl (v := (.bool false)) (fun w' hs => val_eq (p := 1) (q := 0) rfl rfl) ?_
                refine rp_val rfl rfl (v := (.bool false)) (fun w' hs => val_move (v := (.bool false)) rfl) ?_
                refine rp_off (g := some (2, true)) ⟨206, false, rfl, .inl ⟨rfl, rfl⟩⟩ rfl rfl ?_
                refine rp_off (g := some (2, true)) ⟨206, false, rfl, .inl ⟨rfl, rfl⟩⟩ rfl rfl ?_
                refine rp_off (g := some (2, true)) ⟨206, false, rfl, .inl ⟨rfl, rfl⟩⟩ rfl rfl ?_
                refine rp_off (g := some (2, true)) ⟨206, false, rfl, .inl ⟨rfl, rfl⟩⟩ rfl rfl ?_
                refine rp_off (g := some (2, true)) ⟨206, false, rfl, .inl ⟨rfl, rfl⟩⟩ rfl rfl ?_
                refine rp_off (g := some (2, true)) ⟨206, false, rfl, .inl ⟨rfl, rfl⟩⟩ rfl rfl ?_
                refine rp_off (g := some (2, true)) ⟨206, false, rfl, .inl ⟨rfl, rfl⟩⟩ rfl rfl ?_
                refine rp_val rfl rfl (v := (.bool false)) (fun w' hs => val_pick_f (v := (.bool false)) rfl rfl) ?_
                refine rp_val rfl rfl (v := (.bool false)) (fun w' hs => val_move (v := (.bool false)) rfl) ?_
                refine rp_valg (g := some (11, false)) ⟨215, false, rfl, .inl ⟨rfl, rfl⟩⟩ rfl rfl (v := (vI 0)) (fun w' hs => val_move (v := (vI 0)) rfl) ?_
                refine rp_valg (g := some (11, false)) ⟨215, false, rfl, .inl ⟨rfl, rfl⟩⟩ rfl rfl (v := (.bool true)) (fun w' hs => val_eq (p := 0) (q := 0) rfl rfl) ?_
                refine rp_valg (g := some (11, false)) ⟨215, false, rfl, .inl ⟨rfl, rfl⟩⟩ rfl rfl (v := (.bool true)) (fun w' hs => val_move (v := (.bool true)) rfl) ?_
                refine rp_valg (g := some (14, true)) ⟨218, true, rfl, .inl ⟨rfl, rfl⟩⟩ rfl rfl (v := (.agg ((markP (bs.take qa)).map v8).toArray)) (fun w' hs => val_loadAll rfl ag_50 (hs.row (i := 1) rfl).l (by simp) (by decide)) ?_
                refine rp_valg (g := some (14, true)) ⟨218, true, rfl, .inl ⟨rfl, rfl⟩⟩ rfl rfl (v := (.slice aAll bs.length cAll)) (fun w' hs => val_move (v := (.slice aAll bs.length cAll)) hs56) ?_
                refine rp_valg (g := some (14, true)) ⟨218, true, rfl, .inl ⟨rfl, rfl⟩⟩ rfl rfl (v := (vU (qa : Int))) (fun w' hs => val_move (v := (vU (qa : Int))) rfl) ?_
                refine rp_valg (g := some (14, true)) ⟨218, true, rfl, .inl ⟨rfl, rfl⟩⟩ rfl rfl (v := (.slice aAll ((bs.take qa).length) cAll)) (fun w' hs => val_cast (v' := .slice aAll (bs.take qa).length cAll) (val_sliceHi (h := qa) rfl us_22 es_22 rfl (by omega)) (by rw [htl])) ?_
                refine rp_callg (g := some (14, true)) ⟨218, true, rfl, .inl ⟨rfl, rfl⟩⟩ rfl rfl (ent_static (args := [(.slice aAll ((bs.take qa).length) cAll)]) Tryz.func24 rfl rfl rfl rfl) (rmark_ok (bs.take qa) (ws.take qa) aAll cAll _ (take_sl hA hm (by intro p hp; exact ⟨by simp at hp ⊢; simp [hp], by simp⟩) htl (by omega)) ((hW.mem hm).take) (fun b hb => Nat.le_trans (hbb b (List.mem_of_mem_take hb)) (by decide)) (by omega)) ?_
                rintro _ w132 ⟨rfl, h133⟩
                refine callQ_ret ?_
                refine ⟨.inr ((hm.call h133).sub (by ((try (simp only [List.append_assoc, List.nil_append, List.append_nil, List.cons_append])); repeat (first | exact List.nil_sublist _ | exact List.Sublist.refl _ | with_reducible refine List.Sublist.cons_cons _ ?_ | with_reducible refine List.Sublist.append (List.Sublist.refl _) ?_ | with_reducible exact List.sublist_append_left _ _ | refine List.Sublist.cons _ ?_ | refine List.Sublist.trans ?_ (List.sublist_append_right _ _))))), ?_⟩
                replace hm : Mem w [] ([(b117, row ((rootsP (bs.take qa)).map v8) 50), (b112, row ((markP (bs.take qa)).map v8) 50), (bk, row ([(vI ((nb : Nat) : Int)), uB, (.slice none 0 0), (.slice none 0 0), (.slice none 0 0), uS, (.slice none 0 0), (.slice none 0 0), (.slice none 0 0), (.slice none 0 0)]) 37)] ++ (lc ++ (rAll ++ (rB ++ ((rowsC pB) ++ (rS ++ ((rowsC pS) ++ (rp ++ (rq ++ (ry ++ (rz ++ []))))))))))) w132 := hm.call h133
                refine rp_valg (g := some (14, true)) ⟨218, true, rfl, .inl ⟨rfl, rfl⟩⟩ rfl rfl (v := (.bool false)) (fun w' hs => val_cast (val_neSum (a := markP (bs.take qa)) (b := markP (bs.take qa)) (by simp) (by simp) rfl rfl) (by simp)) ?_
                refine rp_valg (g := some (14, true)) ⟨218, true, rfl, .inl ⟨rfl, rfl⟩⟩ rfl rfl (v := (.bool false)) (fun w' hs => val_move (v := (.bool false)) rfl) ?_
                refine rp_valg (g := some (21, false)) ⟨225, false, rfl, .inl ⟨rfl, rfl⟩⟩ rfl rfl (v := (.agg ((rootsP (bs.take qa)).map v8).toArray)) (fun w' hs => val_loadAll rfl ag_50 (hs.row (i := 0) rfl).l (by simp) (by decide)) ?_
                refine rp_valg (g := some (21, false)) ⟨225, false, rfl, .inl ⟨rfl, rfl⟩⟩ rfl rfl (v := (.slice aAll bs.length cAll)) (fun w' hs => val_move (v := (.slice aAll bs.length cAll)) hs56) ?_
                refine rp_valg (g := some (21, false)) ⟨225, false, rfl, .inl ⟨rfl, rfl⟩⟩ rfl rfl (v := (vU (qa : Int))) (fun w' hs => val_move (v := (vU (qa : Int))) rfl) ?_
                refine rp_valg (g := some (21, false)) ⟨225, false, rfl, .inl ⟨rfl, rfl⟩⟩ rfl rfl (v := (.slice aAll ((bs.take qa).length) cAll)) (fun w' hs => val_cast (v' := .slice aAll (bs.take qa).length cAll) (val_sliceHi (h := qa) rfl us_22 es_22 rfl (by omega)) (by rw [htl])) ?_
                refine rp_callg (g := some (21, false)) ⟨225, false, rfl, .inl ⟨rfl, rfl⟩⟩ rfl rfl (ent_static (args := [(.slice aAll ((bs.take qa).length) cAll)]) Tryz.func25 rfl rfl rfl rfl) (rrootc_ok (bs.take qa) (ws.take qa) aAll cAll _ (take_sl hA hm (by intro p hp; exact ⟨by simp at hp ⊢; simp [hp], by simp⟩) htl (by omega)) ((hW.mem hm).take) (fun b hb => Nat.le_trans (hbb b (List.mem_of_mem_take hb)) (by decide)) (by omega)) ?_
                rintro _ w134 ⟨rfl, h135⟩
                refine callQ_ret ?_
                refine ⟨.inr ((hm.call h135).sub (by ((try (simp only [List.append_assoc, List.nil_append, List.append_nil, List.cons_append])); repeat (first | exact List.nil_sublist _ | exact List.Sublist.refl _ | with_reducible refine List.Sublist.cons_cons _ ?_ | with_reducible refine List.Sublist.append (List.Sublist.refl _) ?_ | with_reducible exact List.sublist_append_left _ _ | refine List.Sublist.cons _ ?_ | refine List.Sublist.trans ?_ (List.sublist_append_right _ _))))), ?_⟩
                replace hm : Mem w [] ([(b117, row ((rootsP (bs.take qa)).map v8) 50), (b112, row ((markP (bs.take qa)).map v8) 50), (bk, row ([(vI ((nb : Nat) : Int)), uB, (.slice none 0 0), (.slice none 0 0), (.slice none 0 0), uS, (.slice none 0 0), (.slice none 0 0), (.slice none 0 0), (.slice none 0 0)]) 37)] ++ (lc ++ (rAll ++ (rB ++ ((rowsC pB) ++ (rS ++ ((rowsC pS) ++ (rp ++ (rq ++ (ry ++ (rz ++ []))))))))))) w134 := hm.call h135
                refine rp_valg (g := some (21, false)) ⟨225, false, rfl, .inl ⟨rfl, rfl⟩⟩ rfl rfl (v := (.bool false)) (fun w' hs => val_cast (val_neSum (a := rootsP (bs.take qa)) (b := rootsP (bs.take qa)) (by simp) (by simp) rfl rfl) (by simp)) ?_
                refine rp_valg (g := some (14, true)) ⟨218, true, rfl, .inl ⟨rfl, rfl⟩⟩ rfl rfl (v := (.bool false)) (fun w' hs => val_pick_f (v := (.bool false)) rfl rfl) ?_
                refine rp_valg (g := some (11, false)) ⟨215, false, rfl, .inl ⟨rfl, rfl⟩⟩ rfl rfl (v := (.bool false)) (fun w' hs => val_pick_t (v := (.bool false)) rfl rfl) ?_
                refine rp_val rfl rfl (v := (.bool false)) (fun w' hs => val_pick_f (v := (.bool false)) rfl rfl) ?_
                refine rp_val rfl rfl (v := (.bool false)) (fun w' hs => val_move (v := (.bool false)) rfl) ?_
                refine rp_valg (g := some (31, false)) ⟨235, false, rfl, .inl ⟨rfl, rfl⟩⟩ rfl rfl (v := (vI 1)) (fun w' hs => val_move (v := (vI 1)) rfl) ?_
                refine rp_valg (g := some (31, false)) ⟨235, false, rfl, .inl ⟨rfl, rfl⟩⟩ rfl rfl (v := (.bool true)) (fun w' hs => val_ne (p := 1) (q := 0) rfl rfl) ?_
                refine rp_valg (g := some (31, false)) ⟨235, false, rfl, .inl ⟨rfl, rfl⟩⟩ rfl rfl (v := (.bool true)) (fun w' hs => val_move (v := (.bool true)) rfl) ?_
                refine rp_valg (g := some (34, true)) ⟨238, true, rfl, .inl ⟨rfl, rfl⟩⟩ rfl rfl (v := (vI 1)) (fun w' hs => val_move (v := (vI 1)) rfl) ?_
                refine rp_valg (g := some (34, true)) ⟨238, true, rfl, .inl ⟨rfl, rfl⟩⟩ rfl rfl (v := (.bool false)) (fun w' hs => val_ne (p := 1) (q := 1) rfl rfl) ?_
                refine rp_valg (g := some (34, true)) ⟨238, true, rfl, .inl ⟨rfl, rfl⟩⟩ rfl rfl (v := (.bool false)) (fun w' hs => val_move (v := (.bool false)) rfl) ?_
                refine rp_valg (g := some (37, false)) ⟨241, false, rfl, .inl ⟨rfl, rfl⟩⟩ rfl rfl (v := (.slice none 0 0)) (fun w' hs => val_move (v := (.slice none 0 0)) rfl) ?_
                refine rp_valg (g := some (37, false)) ⟨241, false, rfl, .inl ⟨rfl, rfl⟩⟩ rfl rfl (v := (vI 0)) (fun w' hs => val_lenSl (t := 38) rfl us_38 rfl) ?_
                refine rp_valg (g := some (37, false)) ⟨241, false, rfl, .inl ⟨rfl, rfl⟩⟩ rfl rfl (v := (.bool false)) (fun w' hs => val_gt (p := 0) (q := 0) rfl rfl) ?_
                refine rp_valg (g := some (34, true)) ⟨238, true, rfl, .inl ⟨rfl, rfl⟩⟩ rfl rfl (v := (.bool false)) (fun w' hs => val_pick_f (v := (.bool false)) rfl rfl) ?_
                refine rp_valg (g := some (31, false)) ⟨235, false, rfl, .inl ⟨rfl, rfl⟩⟩ rfl rfl (v := (.bool false)) (fun w' hs => val_pick_t (v := (.bool false)) rfl rfl) ?_
                refine rp_val rfl rfl (v := (.bool false)) (fun w' hs => val_pick_f (v := (.bool false)) rfl rfl) ?_
                refine rp_val rfl rfl (v := (.bool false)) (fun w' hs => val_move (v := (.bool false)) rfl) ?_
                refine rp_valg (g := some (44, false)) ⟨248, false, rfl, .inl ⟨rfl, rfl⟩⟩ rfl rfl (v := (vI 0)) (fun w' hs => val_move (v := (vI 0)) rfl) ?_
                refine rp_valg (g := some (44, false)) ⟨248, false, rfl, .inl ⟨rfl, rfl⟩⟩ rfl rfl (v := (.bool false)) (fun w' hs => val_ne (p := 0) (q := 0) rfl rfl) ?_
                refine rp_valg (g := some (44, false)) ⟨248, false, rfl, .inl ⟨rfl, rfl⟩⟩ rfl rfl (v := (.bool false)) (fun w' hs => val_move (v := (.bool false)) rfl) ?_
                refine rp_off (g := some (47, true)) ⟨251, false, rfl, .inl ⟨rfl, rfl⟩⟩ rfl rfl ?_
                refine rp_off (g := some (47, true)) ⟨251, false, rfl, .inl ⟨rfl, rfl⟩⟩ rfl rfl ?_
                refine rp_off (g := some (47, true)) ⟨251, false, rfl, .inl ⟨rfl, rfl⟩⟩ rfl rfl ?_
                refine rp_off (g := some (50, false)) ⟨254, true, rfl, .inr ⟨rfl, rfl⟩⟩ rfl rfl ?_
                refine rp_off (g := some (50, false)) ⟨254, true, rfl, .inr ⟨rfl, rfl⟩⟩ rfl rfl ?_
                refine rp_off (g := some (50, false)) ⟨254, true, rfl, .inr ⟨rfl, rfl⟩⟩ rfl rfl ?_
                refine rp_off (g := some (47, true)) ⟨251, false, rfl, .inl ⟨rfl, rfl⟩⟩ rfl rfl ?_
                refine rp_off (g := some (47, true)) ⟨251, false, rfl, .inl ⟨rfl, rfl⟩⟩ rfl rfl ?_
                refine rp_off (g := some (55, false)) ⟨259, true, rfl, .inr ⟨rfl, rfl⟩⟩ rfl rfl ?_
                refine rp_off (g := some (55, false)) ⟨259, true, rfl, .inr ⟨rfl, rfl⟩⟩ rfl rfl ?_
                refine rp_off (g := some (55, false)) ⟨259, true, rfl, .inr ⟨rfl, rfl⟩⟩ rfl rfl ?_
                refine rp_off (g := some (47, true)) ⟨251, false, rfl, .inl ⟨rfl, rfl⟩⟩ rfl rfl ?_
                refine rp_valg (g := some (44, false)) ⟨248, false, rfl, .inl ⟨rfl, rfl⟩⟩ rfl rfl (v := (.bool false)) (fun w' hs => val_pick_f (v := (.bool false)) rfl rfl) ?_
                refine rp_val rfl rfl (v := (.bool false)) (fun w' hs => val_pick_f (v := (.bool false)) rfl rfl) ?_
                refine rp_nil ?_
                refine WP.cond_f rfl ?_
                refine WP.skip ?_
                refine wp_sr (E := noPanic) noPanic_imp ?_
                refine rl_val rfl (v := (.slice none 0 0)) (val_move (v := (.slice none 0 0)) rfl) ?_
                have hm2 : Mem w [] ([] ++ (((bk, row ([(vI ((nb : Nat) : Int)), uB, (.slice none 0 0), (.slice none 0 0), (.slice none 0 0), uS, (.slice none 0 0), (.slice none 0 0), (.slice none 0 0), (.slice none 0 0)]) 37) :: rB) ++ ([(b117, row ((rootsP (bs.take qa)).map v8) 50), (b112, row ((markP (bs.take qa)).map v8) 50)] ++ (lc ++ (rAll ++ ((rowsC pB) ++ (rS ++ ((rowsC pS) ++ (rp ++ (rq ++ (ry ++ (rz ++ [])))))))))))) w134 := hm.perm (by classical exact List.perm_iff_count.2 (fun y => by simp only [List.count_append, List.count_cons, List.count_nil]; omega))
                refine rl_call rfl (ent_static (args := [(.pointer (some ⟨bk, 0, none⟩)), (.slice none 0 0)]) Tryz.func13 rfl rfl rfl (args_cons hs55 (args_cons rfl (args_nil)))) (putB_ok bk nb (pB).length 0 0 uB (.slice none 0 0) (.slice none 0 0) (.slice none 0 0) uS (.slice none 0 0) (.slice none 0 0) (.slice none 0 0) (.slice none 0 0) uB none (heldC pB) rB _ (hm2.see.2 (bk, row ([(vI ((nb : Nat) : Int)), uB, (.slice none 0 0), (.slice none 0 0), (.slice none 0 0), uS, (.slice none 0 0), (.slice none 0 0), (.slice none 0 0), (.slice none 0 0)]) 37) (by simp)) hB (fun p hp => hm2.see.2 p (by simp [hp])) (by intro p hp he; have h := hm2.see.1; simp only [List.map_cons, List.nodup_cons] at h; exact h.1 (List.mem_map.2 ⟨p, hp, he⟩)) (by omega) (by (try simp only [List.length_append, List.length_singleton]); omega)) ?_
                rintro _ w136 ⟨rfl, u138, rk139, hk140, h137⟩
                refine callQ_ret ?_
                have hw141 : VecIs u138 ((pB ++ [(⟨.slice none 0 0, .slice none 0 0, 0, nb + 1, [], []⟩ : HP)])).length 3 213 (heldC (pB ++ [(⟨.slice none 0 0, .slice none 0 0, 0, nb + 1, [], []⟩ : HP)])) rk139 := by rw [heldC_snoc]; simpa using hk140
                replace hm : Mem w [] ([(b117, row ((rootsP (bs.take qa)).map v8) 50), (b112, row ((markP (bs.take qa)).map v8) 50), (bk, row ([(vI ((nb + 1 : Nat) : Int)), u138, (.slice none 0 0), (.slice none 0 0), (.slice none 0 0), uS, (.slice none 0 0), (.slice none 0 0), (.slice none 0 0), (.slice none 0 0)]) 37)] ++ (lc ++ (rAll ++ (rk139 ++ ((rowsC pB) ++ (rS ++ ((rowsC pS) ++ (rp ++ (rq ++ (ry ++ (rz ++ []))))))))))) w136 := (hm2.callL h137).perm (by classical exact List.perm_iff_count.2 (fun y => by simp only [List.count_append, List.count_cons, List.count_nil]; omega))
                refine rl_nil ?_
                refine wp_sr (E := noPanic) noPanic_imp ?_
                refine rl_val rfl (v := (.slice ap (pathR bs qb qa).length cp)) (val_move (v := (.slice ap (pathR bs qb qa).length cp)) rfl) ?_
                have hm2 : Mem w [] ([] ++ (((bk, row ([(vI ((nb + 1 : Nat) : Int)), u138, (.slice none 0 0), (.slice none 0 0), (.slice none 0 0), uS, (.slice none 0 0), (.slice none 0 0), (.slice none 0 0), (.slice none 0 0)]) 37) :: rS) ++ ([(b117, row ((rootsP (bs.take qa)).map v8) 50), (b112, row ((markP (bs.take qa)).map v8) 50)] ++ (lc ++ (rAll ++ (rk139 ++ ((rowsC pB) ++ ((rowsC pS) ++ (rp ++ (rq ++ (ry ++ (rz ++ [])))))))))))) w136 := hm.perm (by classical exact List.perm_iff_count.2 (fun y => by simp only [List.count_append, List.count_cons, List.count_nil]; omega))
                refine rl_call rfl (ent_static (args := [(.pointer (some ⟨bk, 0, none⟩)), (.slice ap (pathR bs qb qa).length cp)]) Tryz.func26 rfl rfl rfl (args_cons hs55 (args_cons rfl (args_nil)))) (putS_ok bk (nb + 1) (pS).length ((pathR bs qb qa).length) cp u138 (.slice none 0 0) (.slice none 0 0) (.slice none 0 0) uS (.slice none 0 0) (.slice none 0 0) (.slice none 0 0) (.slice none 0 0) uS ap (heldC pS) rS _ (hm2.see.2 (bk, row ([(vI ((nb + 1 : Nat) : Int)), u138, (.slice none 0 0), (.slice none 0 0), (.slice none 0 0), uS, (.slice none 0 0), (.slice none 0 0), (.slice none 0 0), (.slice none 0 0)]) 37) (by simp)) hS (fun p hp => hm2.see.2 p (by simp [hp])) (by intro p hp he; have h := hm2.see.1; simp only [List.map_cons, List.nodup_cons] at h; exact h.1 (List.mem_map.2 ⟨p, hp, he⟩)) (by omega) (by (try simp only [List.length_append, List.length_singleton]); omega)) ?_
                rintro _ w142 ⟨rfl, u144, rk145, hk146, h143⟩
                refine callQ_ret ?_
                have hw147 : VecIs u144 ((pS ++ [(⟨.slice ap ((pathR bs qb qa).length) cp, .slice none 0 0, (pathR bs qb qa).length, (nb + 1) + 1, sumsC (pathR bs qb qa), rp⟩ : HP)])).length 3 226 (heldC (pS ++ [(⟨.slice ap ((pathR bs qb qa).length) cp, .slice none 0 0, (pathR bs qb qa).length, (nb + 1) + 1, sumsC (pathR bs qb qa), rp⟩ : HP)])) rk145 := by rw [heldC_snoc]; simpa using hk146
                replace hm : Mem w [] ([(b117, row ((rootsP (bs.take qa)).map v8) 50), (b112, row ((markP (bs.take qa)).map v8) 50), (bk, row ([(vI (((nb + 1) + 1 : Nat) : Int)), u138, (.slice none 0 0), (.slice none 0 0), (.slice none 0 0), u144, (.slice none 0 0), (.slice none 0 0), (.slice none 0 0), (.slice none 0 0)]) 37)] ++ (lc ++ (rAll ++ (rk139 ++ ((rowsC pB) ++ (rk145 ++ ((rowsC pS) ++ (rp ++ (rq ++ (ry ++ (rz ++ []))))))))))) w142 := (hm2.callL h143).perm (by classical exact List.perm_iff_count.2 (fun y => by simp only [List.count_append, List.count_cons, List.count_nil]; omega))
                refine rl_nil ?_
                refine wp_r (E := noPanic) noPanic_imp ?_
                refine rl_val rfl (v := (.slice aq (linkR bs qb qa).length cq)) (val_move (v := (.slice aq (linkR bs qb qa).length cq)) rfl) ?_
                have hm2 : Mem w [] ([] ++ (((bk, row ([(vI (((nb + 1) + 1 : Nat) : Int)), u138, (.slice none 0 0), (.slice none 0 0), (.slice none 0 0), u144, (.slice none 0 0), (.slice none 0 0), (.slice none 0 0), (.slice none 0 0)]) 37) :: rk145) ++ ([(b117, row ((rootsP (bs.take qa)).map v8) 50), (b112, row ((markP (bs.take qa)).map v8) 50)] ++ (lc ++ (rAll ++ (rk139 ++ ((rowsC pB) ++ ((rowsC pS) ++ (rp ++ (rq ++ (ry ++ (rz ++ [])))))))))))) w142 := hm.perm (by classical exact List.perm_iff_count.2 (fun y => by simp only [List.count_append, List.count_cons, List.count_nil]; omega))
                refine rl_call rfl (ent_static (args := [(.pointer (some ⟨bk, 0, none⟩)), (.slice aq (linkR bs qb qa).length cq)]) Tryz.func26 rfl rfl rfl (args_cons hs55 (args_cons rfl (args_nil)))) (putS_ok bk ((nb + 1) + 1) ((pS ++ [(⟨.slice ap ((pathR bs qb qa).length) cp, .slice none 0 0, (pathR bs qb qa).length, (nb + 1) + 1, sumsC (pathR bs qb qa), rp⟩ : HP)])).length ((linkR bs qb qa).length) cq u138 (.slice none 0 0) (.slice none 0 0) (.slice none 0 0) u144 (.slice none 0 0) (.slice none 0 0) (.slice none 0 0) (.slice none 0 0) u144 aq (heldC (pS ++ [(⟨.slice ap ((pathR bs qb qa).length) cp, .slice none 0 0, (pathR bs qb qa).length, (nb + 1) + 1, sumsC (pathR bs qb qa), rp⟩ : HP)])) rk145 _ (hm2.see.2 (bk, row ([(vI (((nb + 1) + 1 : Nat) : Int)), u138, (.slice none 0 0), (.slice none 0 0), (.slice none 0 0), u144, (.slice none 0 0), (.slice none 0 0), (.slice none 0 0), (.slice none 0 0)]) 37) (by simp)) hw147 (fun p hp => hm2.see.2 p (by simp [hp])) (by intro p hp he; have h := hm2.see.1; simp only [List.map_cons, List.nodup_cons] at h; exact h.1 (List.mem_map.2 ⟨p, hp, he⟩)) (by omega) (by (try simp only [List.length_append, List.length_singleton]); omega)) ?_
                rintro _ w148 ⟨rfl, u150, rk151, hk152, h149⟩
                refine callQ_ret ?_
                have hw153 : VecIs u150 (((pS ++ [(⟨.slice ap ((pathR bs qb qa).length) cp, .slice none 0 0, (pathR bs qb qa).length, (nb + 1) + 1, sumsC (pathR bs qb qa), rp⟩ : HP)]) ++ [(⟨.slice aq ((linkR bs qb qa).length) cq, .slice none 0 0, (linkR bs qb qa).length, ((nb + 1) + 1) + 1, sumsC (linkR bs qb qa), rq⟩ : HP)])).length 3 226 (heldC ((pS ++ [(⟨.slice ap ((pathR bs qb qa).length) cp, .slice none 0 0, (pathR bs qb qa).length, (nb + 1) + 1, sumsC (pathR bs qb qa), rp⟩ : HP)]) ++ [(⟨.slice aq ((linkR bs qb qa).length) cq, .slice none 0 0, (linkR bs qb qa).length, ((nb + 1) + 1) + 1, sumsC (linkR bs qb qa), rq⟩ : HP)])) rk151 := by rw [heldC_snoc]; simpa using hk152
                replace hm : Mem w [] ([(b117, row ((rootsP (bs.take qa)).map v8) 50), (b112, row ((markP (bs.take qa)).map v8) 50), (bk, row ([(vI ((((nb + 1) + 1) + 1 : Nat) : Int)), u138, (.slice none 0 0), (.slice none 0 0), (.slice none 0 0), u150, (.slice none 0 0), (.slice none 0 0), (.slice none 0 0), (.slice none 0 0)]) 37)] ++ (lc ++ (rAll ++ (rk139 ++ ((rowsC pB) ++ (rk151 ++ ((rowsC pS) ++ (rp ++ (rq ++ (ry ++ (rz ++ []))))))))))) w148 := (hm2.callL h149).perm (by classical exact List.perm_iff_count.2 (fun y => by simp only [List.count_append, List.count_cons, List.count_nil]; omega))
                refine rl_nil ?_
                refine wp_r (E := noPanic) noPanic_imp ?_
                refine rl_val rfl (v := (vI (i : Int))) (val_move (v := (vI (i : Int))) hs58) ?_
                refine rl_val rfl (v := (vI ((i : Int) + 1))) (val_addI (p := (i : Int)) (q := 1) rfl rfl (by omega)) ?_
                refine rl_val rfl (v := (vI ((i : Int) + 1))) (val_assign (v := (vI ((i : Int) + 1))) rfl) ?_
                refine rl_nil ?_
                have hx1 : HOk 1 5 ⟨.slice none 0 0, .slice none 0 0, 0, nb + 1, [], []⟩ := ⟨VecIs.nil, rfl, by show 0 ≤ _; omega, by show nb + 1 ≤ _; omega⟩
                have hx2 : HOk 32 50 ⟨.slice ap (pathR bs qb qa).length cp, .slice none 0 0, (pathR bs qb qa).length, nb + 1 + 1, sumsC (pathR bs qb qa), rp⟩ := ⟨hvp, rfl, by show (pathR bs qb qa).length ≤ _; omega, by show nb + 1 + 1 ≤ _; omega⟩
                have hx3 : HOk 32 50 ⟨.slice aq (linkR bs qb qa).length cq, .slice none 0 0, (linkR bs qb qa).length, nb + 1 + 1 + 1, sumsC (linkR bs qb qa), rq⟩ := ⟨hvq, rfl, by show (linkR bs qb qa).length ≤ _; omega, by show nb + 1 + 1 + 1 ≤ _; omega⟩
                exact ⟨A.length - (i + 1), by omega, ⟨i + 1, nb + 1 + 1 + 1, (pB ++ [(⟨.slice none 0 0, .slice none 0 0, 0, nb + 1, [], []⟩ : HP)]), u138, rk139, ((pS ++ [(⟨.slice ap ((pathR bs qb qa).length) cp, .slice none 0 0, (pathR bs qb qa).length, (nb + 1) + 1, sumsC (pathR bs qb qa), rp⟩ : HP)]) ++ [(⟨.slice aq ((linkR bs qb qa).length) cq, .slice none 0 0, (linkR bs qb qa).length, ((nb + 1) + 1) + 1, sumsC (linkR bs qb qa), rq⟩ : HP)]), u150, rk151, rfl, by omega, by simp only [List.length_append, List.length_singleton]; omega, by simp only [List.length_append, List.length_singleton]; omega, by omega, hw141, hw153, by intro p hp; rcases List.mem_append.1 hp with hp | hp; exact hPB p hp; rw [List.mem_singleton.1 hp]; exact hx1, by intro p hp; rcases List.mem_append.1 hp with hp | hp; rcases List.mem_append.1 hp with hp | hp; exact hPS p hp; rw [List.mem_singleton.1 hp]; exact hx2; rw [List.mem_singleton.1 hp]; exact hx3, (by simp only [rowsC_snoc]; exact (hm.sub (l2 := ([(bk, row ([(vI ((((nb + 1) + 1) + 1 : Nat) : Int)), u138, (.slice none 0 0), (.slice none 0 0), (.slice none 0 0), u150, (.slice none 0 0), (.slice none 0 0), (.slice none 0 0), (.slice none 0 0)]) 37)] ++ (lc ++ (rAll ++ (rk139 ++ ((rowsC pB) ++ (rk151 ++ ((rowsC pS) ++ (rp ++ (rq ++ [])))))))))) (by ((try (simp only [List.append_assoc, List.nil_append, List.append_nil, List.cons_append])); repeat (first | exact List.nil_sublist _ | exact List.Sublist.refl _ | with_reducible refine List.Sublist.cons_cons _ ?_ | with_reducible refine List.Sublist.append (List.Sublist.refl _) ?_ | with_reducible exact List.sublist_append_left _ _ | refine List.Sublist.cons _ ?_ | refine List.Sublist.trans ?_ (List.sublist_append_right _ _))))).perm (by classical exact List.perm_iff_count.2 (fun y => by simp only [List.count_append, List.count_cons, List.count_nil]; omega))), hs53, hs54, hs55, hs56, hs57, (by first | rfl | (refine int_eq ?_; simp; try omega) | (refine int_eq ?_; omega))⟩⟩
              ·
                have hF : errAt bs qa = 1 := by unfold errAt; rw [if_neg (by omega)]
                have hMk : sumAt markP bs qa = z32 := by unfold sumAt; rw [if_neg (by omega)]
                have hRt : sumAt rootsP bs qa = z32 := by unfold sumAt; rw [if_neg (by omega)]
                refine wp_sr (E := noPanic) noPanic_imp ?_
                refine rl_val rfl (v := (.pointer (some ⟨c, 0, none⟩))) (val_move (v := (.pointer (some ⟨c, 0, none⟩))) hs54) ?_
                refine rl_val rfl (v := (vU (qa : Int))) (val_move (v := (vU (qa : Int))) rfl) ?_
                refine rl_call rfl (ent_static (args := [(.pointer (some ⟨c, 0, none⟩)), (vU (qa : Int))]) Tryz.func15 rfl rfl rfl rfl) (centry_ok c qa bs lc _ (by omega) hbb hC (fun p hp => hm.rows p (by simp [hp]))) ?_
                rintro _ w154 h155
                obtain ⟨rfl, hmx⟩ := h155.2 (by omega)
                refine callQ_ret ?_
                replace hm := hm.call hmx
                refine rl_val rfl (v := (.tuple #[(.slice none 0 0), (vI 1)])) (val_move (v := (.tuple #[(.slice none 0 0), (vI 1)])) rfl) ?_
                refine rl_val rfl (v := (.slice none 0 0)) (val_extract (v := (.slice none 0 0)) rfl rfl) ?_
                refine rl_val rfl (v := (vI 1)) (val_extract (v := (vI 1)) rfl rfl) ?_
                refine rl_val rfl (v := (.slice none 0 0)) (val_assign (v := (.slice none 0 0)) rfl) ?_
                refine rl_val rfl (v := (vI 1)) (val_assign (v := (vI 1)) rfl) ?_
                refine rl_nil ?_
                refine wp_sr (E := noPanic) noPanic_imp ?_
                refine rl_val rfl (v := (.pointer (some ⟨c, 0, none⟩))) (val_move (v := (.pointer (some ⟨c, 0, none⟩))) hs54) ?_
                refine rl_val rfl (v := (vU (qa : Int))) (val_move (v := (vU (qa : Int))) rfl) ?_
                refine rl_call rfl (ent_static (args := [(.pointer (some ⟨c, 0, none⟩)), (vU (qa : Int))]) Tryz.func16 rfl rfl rfl rfl) (cmarkC_ok c qa bs lc _ (by omega) hC (fun p hp => hm.rows p (by simp [hp])) hMk hF) ?_
                rintro _ w156 ⟨rfl, h157⟩
                refine callQ_ret ?_
                replace hm : Mem w [] ([(bk, row ([(vI ((nb : Nat) : Int)), uB, (.slice none 0 0), (.slice none 0 0), (.slice none 0 0), uS, (.slice none 0 0), (.slice none 0 0), (.slice none 0 0), (.slice none 0 0)]) 37)] ++ (lc ++ (rAll ++ (rB ++ ((rowsC pB) ++ (rS ++ ((rowsC pS) ++ []))))))) w156 := hm.call h157
                refine rl_val rfl (v := (.tuple #[(.agg ((z32).map v8).toArray), (vI 1)])) (val_move (v := (.tuple #[(.agg ((z32).map v8).toArray), (vI 1)])) rfl) ?_
                refine rl_val rfl (v := (.agg ((z32).map v8).toArray)) (val_extract (v := (.agg ((z32).map v8).toArray)) rfl rfl) ?_
                refine rl_val rfl (v := (vI 1)) (val_extract (v := (vI 1)) rfl rfl) ?_
                refine rl_alloc (xs := List.replicate 32 (v8 0)) rfl zo_50 hm ?_
                intro b158 w159 hm
                refine rl_store (i := 0) (off := 0) (xs := (List.replicate 32 (v8 0))) (vs := (z32).map v8) rfl rfl rfl ag_50 hm rfl rfl (by simp) (by simp) (one_map8 _) ?_
                intro w160 hm
                rw [spl_all (n := 32) (by simp) (by simp)] at hm
                replace hm : Mem w [] ([(b158, row ((z32).map v8) 50), (bk, row ([(vI ((nb : Nat) : Int)), uB, (.slice none 0 0), (.slice none 0 0), (.slice none 0 0), uS, (.slice none 0 0), (.slice none 0 0), (.slice none 0 0), (.slice none 0 0)]) 37)] ++ (lc ++ (rAll ++ (rB ++ ((rowsC pB) ++ (rS ++ ((rowsC pS) ++ []))))))) w160 := hm
                refine rl_val rfl (v := (vI 1)) (val_assign (v := (vI 1)) rfl) ?_
                refine rl_nil ?_
                refine wp_sr (E := noPanic) noPanic_imp ?_
                refine rl_val rfl (v := (.pointer (some ⟨c, 0, none⟩))) (val_move (v := (.pointer (some ⟨c, 0, none⟩))) hs54) ?_
                refine rl_val rfl (v := (vU (qa : Int))) (val_move (v := (vU (qa : Int))) rfl) ?_
                refine rl_call rfl (ent_static (args := [(.pointer (some ⟨c, 0, none⟩)), (vU (qa : Int))]) Tryz.func17 rfl rfl rfl rfl) (crootC_ok c qa bs lc _ (by omega) hC (fun p hp => hm.rows p (by simp [hp])) hRt hF) ?_
                rintro _ w161 ⟨rfl, h162⟩
                refine callQ_ret ?_
                replace hm : Mem w [] ([(b158, row ((z32).map v8) 50), (bk, row ([(vI ((nb : Nat) : Int)), uB, (.slice none 0 0), (.slice none 0 0), (.slice none 0 0), uS, (.slice none 0 0), (.slice none 0 0), (.slice none 0 0), (.slice none 0 0)]) 37)] ++ (lc ++ (rAll ++ (rB ++ ((rowsC pB) ++ (rS ++ ((rowsC pS) ++ []))))))) w161 := hm.call h162
                refine rl_val rfl (v := (.tuple #[(.agg ((z32).map v8).toArray), (vI 1)])) (val_move (v := (.tuple #[(.agg ((z32).map v8).toArray), (vI 1)])) rfl) ?_
                refine rl_val rfl (v := (.agg ((z32).map v8).toArray)) (val_extract (v := (.agg ((z32).map v8).toArray)) rfl rfl) ?_
                refine rl_val rfl (v := (vI 1)) (val_extract (v := (vI 1)) rfl rfl) ?_
                refine rl_alloc (xs := List.replicate 32 (v8 0)) rfl zo_50 hm ?_
                intro b163 w164 hm
                refine rl_store (i := 0) (off := 0) (xs := (List.replicate 32 (v8 0))) (vs := (z32).map v8) rfl rfl rfl ag_50 hm rfl rfl (by simp) (by simp) (one_map8 _) ?_
                intro w165 hm
                rw [spl_all (n := 32) (by simp) (by simp)] at hm
                replace hm : Mem w [] ([(b163, row ((z32).map v8) 50), (b158, row ((z32).map v8) 50), (bk, row ([(vI ((nb : Nat) : Int)), uB, (.slice none 0 0), (.slice none 0 0), (.slice none 0 0), uS, (.slice none 0 0), (.slice none 0 0), (.slice none 0 0), (.slice none 0 0)]) 37)] ++ (lc ++ (rAll ++ (rB ++ ((rowsC pB) ++ (rS ++ ((rowsC pS) ++ []))))))) w165 := hm
                refine rl_val rfl (v := (vI 1)) (val_assign (v := (vI 1)) rfl) ?_
                refine rl_nil ?_
                refine wp_sr (E := noPanic) noPanic_imp ?_
                refine rl_val rfl (v := (.pointer (some ⟨c, 0, none⟩))) (val_move (v := (.pointer (some ⟨c, 0, none⟩))) hs54) ?_
                refine rl_val rfl (v := (vU (qa : Int))) (val_move (v := (vU (qa : Int))) rfl) ?_
                refine rl_val rfl (v := (vU (qb : Int))) (val_move (v := (vU (qb : Int))) rfl) ?_
                refine rl_call rfl (ent_static (args := [(.pointer (some ⟨c, 0, none⟩)), (vU (qa : Int)), (vU (qb : Int))]) Tryz.func18 rfl rfl rfl rfl) (cpathR_ok c qb qa bs lc _ (by omega) hC (fun p hp => hm.rows p (by simp [hp]))) ?_
                rintro _ w166 ⟨ap, cp, rp, rfl, hvp, h167⟩
                refine callQ_ret ?_
                replace hm := (hm.call h167).comm
                replace hm : Mem w [] ([(b163, row ((z32).map v8) 50), (b158, row ((z32).map v8) 50), (bk, row ([(vI ((nb : Nat) : Int)), uB, (.slice none 0 0), (.slice none 0 0), (.slice none 0 0), uS, (.slice none 0 0), (.slice none 0 0), (.slice none 0 0), (.slice none 0 0)]) 37)] ++ (lc ++ (rAll ++ (rB ++ ((rowsC pB) ++ (rS ++ ((rowsC pS) ++ (rp ++ [])))))))) w166 := by simpa only [List.append_assoc, List.nil_append, List.append_nil, List.cons_append] using hm
                refine rl_val rfl (v := (.tuple #[(.slice ap (pathR bs qb qa).length cp), (vI (pathE bs qb qa))])) (val_move (v := (.tuple #[(.slice ap (pathR bs qb qa).length cp), (vI (pathE bs qb qa))])) rfl) ?_
                refine rl_val rfl (v := (.slice ap (pathR bs qb qa).length cp)) (val_extract (v := (.slice ap (pathR bs qb qa).length cp)) rfl rfl) ?_
                refine rl_val rfl (v := (vI (pathE bs qb qa))) (val_extract (v := (vI (pathE bs qb qa))) rfl rfl) ?_
                refine rl_val rfl (v := (.slice ap (pathR bs qb qa).length cp)) (val_assign (v := (.slice ap (pathR bs qb qa).length cp)) rfl) ?_
                refine rl_val rfl (v := (vI (pathE bs qb qa))) (val_assign (v := (vI (pathE bs qb qa))) rfl) ?_
                refine rl_nil ?_
                refine wp_sr (E := noPanic) noPanic_imp ?_
                refine rl_val rfl (v := (.pointer (some ⟨c, 0, none⟩))) (val_move (v := (.pointer (some ⟨c, 0, none⟩))) hs54) ?_
                refine rl_val rfl (v := (vU (qa : Int))) (val_move (v := (vU (qa : Int))) rfl) ?_
                refine rl_val rfl (v := (vU (qb : Int))) (val_move (v := (vU (qb : Int))) rfl) ?_
                refine rl_call rfl (ent_static (args := [(.pointer (some ⟨c, 0, none⟩)), (vU (qa : Int)), (vU (qb : Int))]) Tryz.func19 rfl rfl rfl rfl) (clinkR_ok c qb qa bs lc _ (by omega) hC (fun p hp => hm.rows p (by simp [hp]))) ?_
                rintro _ w168 ⟨aq, cq, rq, rfl, hvq, h169⟩
                refine callQ_ret ?_
                replace hm := (hm.call h169).comm
                replace hm : Mem w [] ([(b163, row ((z32).map v8) 50), (b158, row ((z32).map v8) 50), (bk, row ([(vI ((nb : Nat) : Int)), uB, (.slice none 0 0), (.slice none 0 0), (.slice none 0 0), uS, (.slice none 0 0), (.slice none 0 0), (.slice none 0 0), (.slice none 0 0)]) 37)] ++ (lc ++ (rAll ++ (rB ++ ((rowsC pB) ++ (rS ++ ((rowsC pS) ++ (rp ++ (rq ++ []))))))))) w168 := by simpa only [List.append_assoc, List.nil_append, List.append_nil, List.cons_append] using hm
                refine rl_val rfl (v := (.tuple #[(.slice aq (linkR bs qb qa).length cq), (vI (linkE bs qb qa))])) (val_move (v := (.tuple #[(.slice aq (linkR bs qb qa).length cq), (vI (linkE bs qb qa))])) rfl) ?_
                refine rl_val rfl (v := (.slice aq (linkR bs qb qa).length cq)) (val_extract (v := (.slice aq (linkR bs qb qa).length cq)) rfl rfl) ?_
                refine rl_val rfl (v := (vI (linkE bs qb qa))) (val_extract (v := (vI (linkE bs qb qa))) rfl rfl) ?_
                refine rl_val rfl (v := (.slice aq (linkR bs qb qa).length cq)) (val_assign (v := (.slice aq (linkR bs qb qa).length cq)) rfl) ?_
                refine rl_val rfl (v := (vI (linkE bs qb qa))) (val_assign (v := (vI (linkE bs qb qa))) rfl) ?_
                refine rl_nil ?_
                refine wp_sr (E := noPanic) noPanic_imp ?_
                refine rl_val rfl (v := (.slice aAll bs.length cAll)) (val_move (v := (.slice aAll bs.length cAll)) hs56) ?_
                refine rl_val rfl (v := (vU (qa : Int))) (val_move (v := (vU (qa : Int))) rfl) ?_
                refine rl_val rfl (v := (vU (qb : Int))) (val_move (v := (vU (qb : Int))) rfl) ?_
                refine rl_call rfl (ent_static (args := [(.slice aAll bs.length cAll), (vU (qa : Int)), (vU (qb : Int))]) Tryz.func20 rfl rfl rfl rfl) (rcpathR_ok bs ws aAll cAll _ (hA.sl (own2 := []) hm (by intro p hp; exact ⟨by simp at hp ⊢; simp [hp], by simp⟩)) (hW.mem hm) (fun b hb => Nat.le_trans (hbb b hb) (by decide)) (by omega) qa qb) ?_
                rintro _ w170 ⟨ay, cy, ry, rfl, hvy, h171⟩
                refine callQ_ret ?_
                replace hm := (hm.call h171).comm
                replace hm : Mem w [] ([(b163, row ((z32).map v8) 50), (b158, row ((z32).map v8) 50), (bk, row ([(vI ((nb : Nat) : Int)), uB, (.slice none 0 0), (.slice none 0 0), (.slice none 0 0), uS, (.slice none 0 0), (.slice none 0 0), (.slice none 0 0), (.slice none 0 0)]) 37)] ++ (lc ++ (rAll ++ (rB ++ ((rowsC pB) ++ (rS ++ ((rowsC pS) ++ (rp ++ (rq ++ (ry ++ [])))))))))) w170 := by simpa only [List.append_assoc, List.nil_append, List.append_nil, List.cons_append] using hm
                refine rl_val rfl (v := (.tuple #[(.slice ay (pathR bs qb qa).length cy), (vI (pathE bs qb qa))])) (val_move (v := (.tuple #[(.slice ay (pathR bs qb qa).length cy), (vI (pathE bs qb qa))])) rfl) ?_
                refine rl_val rfl (v := (.slice ay (pathR bs qb qa).length cy)) (val_extract (v := (.slice ay (pathR bs qb qa).length cy)) rfl rfl) ?_
                refine rl_val rfl (v := (vI (pathE bs qb qa))) (val_extract (v := (vI (pathE bs qb qa))) rfl rfl) ?_
                refine rl_val rfl (v := (.slice ay (pathR bs qb qa).length cy)) (val_assign (v := (.slice ay (pathR bs qb qa).length cy)) rfl) ?_
                refine rl_val rfl (v := (vI (pathE bs qb qa))) (val_assign (v := (vI (pathE bs qb qa))) rfl) ?_
                refine rl_nil ?_
                refine wp_sr (E := noPanic) noPanic_imp ?_
                refine rl_val rfl (v := (.slice aAll bs.length cAll)) (val_move (v := (.slice aAll bs.length cAll)) hs56) ?_
                refine rl_val rfl (v := (vU (qa : Int))) (val_move (v := (vU (qa : Int))) rfl) ?_
                refine rl_val rfl (v := (vU (qb : Int))) (val_move (v := (vU (qb : Int))) rfl) ?_
                refine rl_call rfl (ent_static (args := [(.slice aAll bs.length cAll), (vU (qa : Int)), (vU (qb : Int))]) Tryz.func21 rfl rfl rfl rfl) (rclinkR_ok bs ws aAll cAll _ (hA.sl (own2 := []) hm (by intro p hp; exact ⟨by simp at hp ⊢; simp [hp], by simp⟩)) (hW.mem hm) (fun b hb => Nat.le_trans (hbb b hb) (by decide)) (by omega) qa qb) ?_
                rintro _ w172 ⟨az, cz, rz, rfl, hvz, h173⟩
                refine callQ_ret ?_
                replace hm := (hm.call h173).comm
                replace hm : Mem w [] ([(b163, row ((z32).map v8) 50), (b158, row ((z32).map v8) 50), (bk, row ([(vI ((nb : Nat) : Int)), uB, (.slice none 0 0), (.slice none 0 0), (.slice none 0 0), uS, (.slice none 0 0), (.slice none 0 0), (.slice none 0 0), (.slice none 0 0)]) 37)] ++ (lc ++ (rAll ++ (rB ++ ((rowsC pB) ++ (rS ++ ((rowsC pS) ++ (rp ++ (rq ++ (ry ++ (rz ++ []))))))))))) w172 := by simpa only [List.append_assoc, List.nil_append, List.append_nil, List.cons_append] using hm
                refine rl_val rfl (v := (.tuple #[(.slice az (linkR bs qb qa).length cz), (vI (linkE bs qb qa))])) (val_move (v := (.tuple #[(.slice az (linkR bs qb qa).length cz), (vI (linkE bs qb qa))])) rfl) ?_
                refine rl_val rfl (v := (.slice az (linkR bs qb qa).length cz)) (val_extract (v := (.slice az (linkR bs qb qa).length cz)) rfl rfl) ?_
                refine rl_val rfl (v := (vI (linkE bs qb qa))) (val_extract (v := (vI (linkE bs qb qa))) rfl rfl) ?_
                refine rl_val rfl (v := (.slice az (linkR bs qb qa).length cz)) (val_assign (v := (.slice az (linkR bs qb qa).length cz)) rfl) ?_
                refine rl_val rfl (v := (vI (linkE bs qb qa))) (val_assign (v := (vI (linkE bs qb qa))) rfl) ?_
                refine rl_nil ?_
                refine WP.seq ?_
                refine wp_sr (E := noPanic) noPanic_imp ?_
                refine rl_val rfl (v := (vI 1)) (val_move (v := (vI 1)) rfl) ?_
                refine rl_val rfl (v := (.bool false)) (val_eq (p := 1) (q := 0) rfl rfl) ?_
                refine rl_val rfl (v := (vU (qa : Int))) (val_move (v := (vU (qa : Int))) rfl) ?_
                refine rl_val rfl (v := (vU (bs.length : Nat))) (val_move (v := (vU (bs.length : Nat))) hs57) ?_
                refine rl_val rfl (v := (.bool false)) (val_cast (val_lt (p := (qa : Int)) (q := (bs.length : Nat)) rfl rfl) (by rw [decide_eq_false (by omega)])) ?_
                refine rl_val rfl (v := (.bool false)) (val_neB (a := false) (b := false) rfl rfl ub_4) ?_
                refine rl_val rfl (v := (.bool false)) (val_move (v := (.bool false)) rfl) ?_
                refine rl_valg ⟨169, false, rfl, .inl ⟨rfl, rfl⟩⟩ rfl (v := (vI 1)) (val_move (v := (vI 1)) rfl) ?_
                refine rl_valg ⟨169, false, rfl, .inl ⟨rfl, rfl⟩⟩ rfl (v := (.bool false)) (val_eq (p := 1) (q := 0) rfl rfl) ?_
                refine rl_valg ⟨169, false, rfl, .inl ⟨rfl, rfl⟩⟩ rfl (v := (vU (qa : Int))) (val_move (v := (vU (qa : Int))) rfl) ?_
                refine rl_valg ⟨169, false, rfl, .inl ⟨rfl, rfl⟩⟩ rfl (v := (vU (bs.length : Nat))) (val_move (v := (vU (bs.length : Nat))) hs57) ?_
                refine rl_valg ⟨169, false, rfl, .inl ⟨rfl, rfl⟩⟩ rfl (v := (.bool false)) (val_cast (val_le (p := (qa : Int)) (q := (bs.length : Nat)) rfl rfl) (by rw [decide_eq_false (by omega)])) ?_
                refine rl_valg ⟨169, false, rfl, .inl ⟨rfl, rfl⟩⟩ rfl (v := (.bool false)) (val_neB (a := false) (b := false) rfl rfl ub_4) ?_
                refine rl_val rfl (v := (.bool false)) (val_pick_f (v := (.bool false)) rfl rfl) ?_
                refine rl_val rfl (v := (.bool false)) (val_move (v := (.bool false)) rfl) ?_
                refine rl_valg ⟨177, false, rfl, .inl ⟨rfl, rfl⟩⟩ rfl (v := (vI 1)) (val_move (v := (vI 1)) rfl) ?_
                refine rl_valg ⟨177, false, rfl, .inl ⟨rfl, rfl⟩⟩ rfl (v := (vI 1)) (val_move (v := (vI 1)) rfl) ?_
                refine rl_valg ⟨177, false, rfl, .inl ⟨rfl, rfl⟩⟩ rfl (v := (.bool false)) (val_ne (p := 1) (q := 1) rfl rfl) ?_
                refine rl_val rfl (v := (.bool false)) (val_pick_f (v := (.bool false)) rfl rfl) ?_
                refine rl_val rfl (v := (.bool false)) (val_move (v := (.bool false)) rfl) ?_
                refine rl_valg ⟨182, false, rfl, .inl ⟨rfl, rfl⟩⟩ rfl (v := (vI (pathE bs qb qa))) (val_move (v := (vI (pathE bs qb qa))) rfl) ?_
                refine rl_valg ⟨182, false, rfl, .inl ⟨rfl, rfl⟩⟩ rfl (v := (vI (pathE bs qb qa))) (val_move (v := (vI (pathE bs qb qa))) rfl) ?_
                refine rl_valg ⟨182, false, rfl, .inl ⟨rfl, rfl⟩⟩ rfl (v := (.bool false)) (val_cast (val_ne (p := pathE bs qb qa) (q := pathE bs qb qa) rfl rfl) (by simp)) ?_
                refine rl_val rfl (v := (.bool false)) (val_pick_f (v := (.bool false)) rfl rfl) ?_
                refine rl_val rfl (v := (.bool false)) (val_move (v := (.bool false)) rfl) ?_
                refine rl_valg ⟨187, false, rfl, .inl ⟨rfl, rfl⟩⟩ rfl (v := (vI (linkE bs qb qa))) (val_move (v := (vI (linkE bs qb qa))) rfl) ?_
                refine rl_valg ⟨187, false, rfl, .inl ⟨rfl, rfl⟩⟩ rfl (v := (vI (linkE bs qb qa))) (val_move (v := (vI (linkE bs qb qa))) rfl) ?_
                refine rl_valg ⟨187, false, rfl, .inl ⟨rfl, rfl⟩⟩ rfl (v := (.bool false)) (val_cast (val_ne (p := linkE bs qb qa) (q := linkE bs qb qa) rfl rfl) (by simp)) ?_
                refine rl_val rfl (v := (.bool false)) (val_pick_f (v := (.bool false)) rfl rfl) ?_
                refine rl_val rfl (v := (.bool false)) (val_move (v := (.bool false)) rfl) ?_
                refine rl_valg ⟨192, false, rfl, .inl ⟨rfl, rfl⟩⟩ rfl (v := (.slice ap (pathR bs qb qa).length cp)) (val_move (v := (.slice ap (pathR bs qb qa).length cp)) rfl) ?_
                refine rl_valg ⟨192, false, rfl, .inl ⟨rfl, rfl⟩⟩ rfl (v := (.slice ay (pathR bs qb qa).length cy)) (val_move (v := (.slice ay (pathR bs qb qa).length cy)) rfl) ?_
                refine rl_callg ⟨192, false, rfl, .inl ⟨rfl, rfl⟩⟩ rfl (ent_static (args := [(.slice ap (pathR bs qb qa).length cp), (.slice ay (pathR bs qb qa).length cy)]) Tryz.func22 rfl rfl rfl rfl) (sameS_ok (pathR bs qb qa) _ _ _ _ _ _ rfl (pathR_32 _ _ _) (hvp.sl (own2 := []) hm (by intro p hp; exact ⟨by simp [hp], by simp⟩)) (hvy.sl (own2 := []) hm (by intro p hp; exact ⟨by simp [hp], by simp⟩)) (by omega)) ?_
                rintro _ w174 ⟨rfl, h175⟩
                refine callQ_ret ?_
                replace hm : Mem w [] ([(b163, row ((z32).map v8) 50), (b158, row ((z32).map v8) 50), (bk, row ([(vI ((nb : Nat) : Int)), uB, (.slice none 0 0), (.slice none 0 0), (.slice none 0 0), uS, (.slice none 0 0), (.slice none 0 0), (.slice none 0 0), (.slice none 0 0)]) 37)] ++ (lc ++ (rAll ++ (rB ++ ((rowsC pB) ++ (rS ++ ((rowsC pS) ++ (rp ++ (rq ++ (ry ++ (rz ++ []))))))))))) w174 := hm.call h175
                refine rl_valg ⟨192, false, rfl, .inl ⟨rfl, rfl⟩⟩ rfl (v := (.bool false)) (val_not (b := true) rfl) ?_
                refine rl_val rfl (v := (.bool false)) (val_pick_f (v := (.bool false)) rfl rfl) ?_
                refine rl_val rfl (v := (.bool false)) (val_move (v := (.bool false)) rfl) ?_
                refine rl_valg ⟨198, false, rfl, .inl ⟨rfl, rfl⟩⟩ rfl (v := (.slice aq (linkR bs qb qa).length cq)) (val_move (v := (.slice aq (linkR bs qb qa).length cq)) rfl) ?_
                refine rl_valg ⟨198, false, rfl, .inl ⟨rfl, rfl⟩⟩ rfl (v := (.slice az (linkR bs qb qa).length cz)) (val_move (v := (.slice az (linkR bs qb qa).length cz)) rfl) ?_
                refine rl_callg ⟨198, false, rfl, .inl ⟨rfl, rfl⟩⟩ rfl (ent_static (args := [(.slice aq (linkR bs qb qa).length cq), (.slice az (linkR bs qb qa).length cz)]) Tryz.func22 rfl rfl rfl rfl) (sameS_ok (linkR bs qb qa) _ _ _ _ _ _ rfl (linkR_32 _ _ _) (hvq.sl (own2 := []) hm (by intro p hp; exact ⟨by simp [hp], by simp⟩)) (hvz.sl (own2 := []) hm (by intro p hp; exact ⟨by simp [hp], by simp⟩)) (by omega)) ?_
                rintro _ w176 ⟨rfl, h177⟩
                refine callQ_ret ?_
                replace hm : Mem w [] ([(b163, row ((z32).map v8) 50), (b158, row ((z32).map v8) 50), (bk, row ([(vI ((nb : Nat) : Int)), uB, (.slice none 0 0), (.slice none 0 0), (.slice none 0 0), uS, (.slice none 0 0), (.slice none 0 0), (.slice none 0 0), (.slice none 0 0)]) 37)] ++ (lc ++ (rAll ++ (rB ++ ((rowsC pB) ++ (rS ++ ((rowsC pS) ++ (rp ++ (rq ++ (ry ++ (rz ++ []))))))))))) w176 := hm.call h177
                refine rl_valg ⟨198, false, rfl, .inl ⟨rfl, rfl⟩⟩ rfl (v := (.bool false)) (val_not (b := true) rfl) ?_
                refine rl_val rfl (v := (.bool false)) (val_pick_f (v := (.bool false)) rfl rfl) ?_
                refine rl_nil ?_
                refine WP.cond_f rfl ?_
                refine WP.skip ?_
                refine WP.seq ?_
                refine wp_sd (E := noPanic) [(0, true), (1, true), (2, true), (3, true), (4, true), (5, true), (6, true), (7, true), (8, true), (9, true), (10, true), (11, true), (12, true), (13, true), (14, true), (15, true), (16, true), (17, true), (18, true), (19, true), (20, true), (21, true), (22, true), (23, true), (24, true), (25, true), (26, true), (27, true), (28, true), (29, true), (30, true), (31, true), (32, true), (33, true), (34, true), (35, true), (36, true), (37, true), (38, true), (39, true), (40, true), (41, true), (42, true), (43, true), (44, true), (45, true), (46, true), (47, true), (48, true), (49, true), (50, true), (51, true), (52, true), (53, true), (54, true), (55, true), (56, true), (57, true), (58, true), (59, true), (60, true), (61, true)] mixed (by kernel_rfl) (by kernel_rfl) rfl (fun w' => Mem w [] ([(b163, row ((z32).map v8) 50), (b158, row ((z32).map v8) 50), (bk, row ([(vI ((nb : Nat) : Int)), uB, (.slice none 0 0), (.slice none 0 0), (.slice none 0 0), uS, (.slice none 0 0), (.slice none 0 0), (.slice none 0 0), (.slice none 0 0)]) 37)] ++ (lc ++ (rAll ++ (rB ++ ((rowsC pB) ++ (rS ++ ((rowsC pS) ++ (rp ++ (rq ++ (ry ++ (rz ++ []))))))))))) w') noPanic_imp hm.drew ?_
                have hm := hm.drew
                refine rp_val rfl rfl (v := (vI 1)) (fun w' hs => val_move (v := (vI 1)) rfl) ?_
                refine rp_val rfl rfl (v := (.bool false)) (fun w' hs => val_eq (p := 1) (q := 0) rfl rfl) ?_
                refine rp_val rfl rfl (v := (.bool false)) (fun w' hs => val_move (v := (.bool false)) rfl) ?_
                refine rp_off (g := some (2, true)) ⟨206, false, rfl, .inl ⟨rfl, rfl⟩⟩ rfl rfl ?_
                refine rp_off (g := some (2, true)) ⟨206, false, rfl, .inl ⟨rfl, rfl⟩⟩ rfl rfl ?_
                refine rp_off (g := some (2, true)) ⟨206, false, rfl, .inl ⟨rfl, rfl⟩⟩ rfl rfl ?_
                refine rp_off (g := some (2, true)) ⟨206, false, rfl, .inl ⟨rfl, rfl⟩⟩ rfl rfl ?_
                refine rp_off (g := some (2, true)) ⟨206, false, rfl, .inl ⟨rfl, rfl⟩⟩ rfl rfl ?_
                refine rp_off (g := some (2, true)) ⟨206, false, rfl, .inl ⟨rfl, rfl⟩⟩ rfl rfl ?_
                refine rp_off (g := some (2, true)) ⟨206, false, rfl, .inl ⟨rfl, rfl⟩⟩ rfl rfl ?_
                refine rp_val rfl rfl (v := (.bool false)) (fun w' hs => val_pick_f (v := (.bool false)) rfl rfl) ?_
                refine rp_val rfl rfl (v := (.bool false)) (fun w' hs => val_move (v := (.bool false)) rfl) ?_
                refine rp_valg (g := some (11, false)) ⟨215, false, rfl, .inl ⟨rfl, rfl⟩⟩ rfl rfl (v := (vI 1)) (fun w' hs => val_move (v := (vI 1)) rfl) ?_
                refine rp_valg (g := some (11, false)) ⟨215, false, rfl, .inl ⟨rfl, rfl⟩⟩ rfl rfl (v := (.bool false)) (fun w' hs => val_eq (p := 1) (q := 0) rfl rfl) ?_
                refine rp_valg (g := some (11, false)) ⟨215, false, rfl, .inl ⟨rfl, rfl⟩⟩ rfl rfl (v := (.bool false)) (fun w' hs => val_move (v := (.bool false)) rfl) ?_
                refine rp_off (g := some (14, true)) ⟨218, false, rfl, .inl ⟨rfl, rfl⟩⟩ rfl rfl ?_
                refine rp_off (g := some (14, true)) ⟨218, false, rfl, .inl ⟨rfl, rfl⟩⟩ rfl rfl ?_
                refine rp_off (g := some (14, true)) ⟨218, false, rfl, .inl ⟨rfl, rfl⟩⟩ rfl rfl ?_
                refine rp_off (g := some (14, true)) ⟨218, false, rfl, .inl ⟨rfl, rfl⟩⟩ rfl rfl ?_
                refine rp_off (g := some (14, true)) ⟨218, false, rfl, .inl ⟨rfl, rfl⟩⟩ rfl rfl ?_
                refine rp_off (g := some (14, true)) ⟨218, false, rfl, .inl ⟨rfl, rfl⟩⟩ rfl rfl ?_
                refine rp_off (g := some (14, true)) ⟨218, false, rfl, .inl ⟨rfl, rfl⟩⟩ rfl rfl ?_
                refine rp_off (g := some (21, false)) ⟨225, true, rfl, .inr ⟨rfl, rfl⟩⟩ rfl rfl ?_
                refine rp_off (g := some (21, false)) ⟨225, true, rfl, .inr ⟨rfl, rfl⟩⟩ rfl rfl ?_
                refine rp_off (g := some (21, false)) ⟨225, true, rfl, .inr ⟨rfl, rfl⟩⟩ rfl rfl ?_
                refine rp_off (g := some (21, false)) ⟨225, true, rfl, .inr ⟨rfl, rfl⟩⟩ rfl rfl ?_
                refine rp_off (g := some (21, false)) ⟨225, true, rfl, .inr ⟨rfl, rfl⟩⟩ rfl rfl ?_
                refine rp_off (g := some (21, false)) ⟨225, true, rfl, .inr ⟨rfl, rfl⟩⟩ rfl rfl ?_
                refine rp_off (g := some (14, true)) ⟨218, false, rfl, .inl ⟨rfl, rfl⟩⟩ rfl rfl ?_
                refine rp_valg (g := some (11, false)) ⟨215, false, rfl, .inl ⟨rfl, rfl⟩⟩ rfl rfl (v := (.bool false)) (fun w' hs => val_pick_f (v := (.bool false)) rfl rfl) ?_
                refine rp_val rfl rfl (v := (.bool false)) (fun w' hs => val_pick_f (v := (.bool false)) rfl rfl) ?_
                refine rp_val rfl rfl (v := (.bool false)) (fun w' hs => val_move (v := (.bool false)) rfl) ?_
                refine rp_valg (g := some (31, false)) ⟨235, false, rfl, .inl ⟨rfl, rfl⟩⟩ rfl rfl (v := (vI 1)) (fun w' hs => val_move (v := (vI 1)) rfl) ?_
                refine rp_valg (g := some (31, false)) ⟨235, false, rfl, .inl ⟨rfl, rfl⟩⟩ rfl rfl (v := (.bool true)) (fun w' hs => val_ne (p := 1) (q := 0) rfl rfl) ?_
                refine rp_valg (g := some (31, false)) ⟨235, false, rfl, .inl ⟨rfl, rfl⟩⟩ rfl rfl (v := (.bool true)) (fun w' hs => val_move (v := (.bool true)) rfl) ?_
                refine rp_valg (g := some (34, true)) ⟨238, true, rfl, .inl ⟨rfl, rfl⟩⟩ rfl rfl (v := (vI 1)) (fun w' hs => val_move (v := (vI 1)) rfl) ?_
                refine rp_valg (g := some (34, true)) ⟨238, true, rfl, .inl ⟨rfl, rfl⟩⟩ rfl rfl (v := (.bool false)) (fun w' hs => val_ne (p := 1) (q := 1) rfl rfl) ?_
                refine rp_valg (g := some (34, true)) ⟨238, true, rfl, .inl ⟨rfl, rfl⟩⟩ rfl rfl (v := (.bool false)) (fun w' hs => val_move (v := (.bool false)) rfl) ?_
                refine rp_valg (g := some (37, false)) ⟨241, false, rfl, .inl ⟨rfl, rfl⟩⟩ rfl rfl (v := (.slice none 0 0)) (fun w' hs => val_move (v := (.slice none 0 0)) rfl) ?_
                refine rp_valg (g := some (37, false)) ⟨241, false, rfl, .inl ⟨rfl, rfl⟩⟩ rfl rfl (v := (vI 0)) (fun w' hs => val_lenSl (t := 38) rfl us_38 rfl) ?_
                refine rp_valg (g := some (37, false)) ⟨241, false, rfl, .inl ⟨rfl, rfl⟩⟩ rfl rfl (v := (.bool false)) (fun w' hs => val_gt (p := 0) (q := 0) rfl rfl) ?_
                refine rp_valg (g := some (34, true)) ⟨238, true, rfl, .inl ⟨rfl, rfl⟩⟩ rfl rfl (v := (.bool false)) (fun w' hs => val_pick_f (v := (.bool false)) rfl rfl) ?_
                refine rp_valg (g := some (31, false)) ⟨235, false, rfl, .inl ⟨rfl, rfl⟩⟩ rfl rfl (v := (.bool false)) (fun w' hs => val_pick_t (v := (.bool false)) rfl rfl) ?_
                refine rp_val rfl rfl (v := (.bool false)) (fun w' hs => val_pick_f (v := (.bool false)) rfl rfl) ?_
                refine rp_val rfl rfl (v := (.bool false)) (fun w' hs => val_move (v := (.bool false)) rfl) ?_
                refine rp_valg (g := some (44, false)) ⟨248, false, rfl, .inl ⟨rfl, rfl⟩⟩ rfl rfl (v := (vI 1)) (fun w' hs => val_move (v := (vI 1)) rfl) ?_
                refine rp_valg (g := some (44, false)) ⟨248, false, rfl, .inl ⟨rfl, rfl⟩⟩ rfl rfl (v := (.bool true)) (fun w' hs => val_ne (p := 1) (q := 0) rfl rfl) ?_
                refine rp_valg (g := some (44, false)) ⟨248, false, rfl, .inl ⟨rfl, rfl⟩⟩ rfl rfl (v := (.bool true)) (fun w' hs => val_move (v := (.bool true)) rfl) ?_
                refine rp_valg (g := some (47, true)) ⟨251, true, rfl, .inl ⟨rfl, rfl⟩⟩ rfl rfl (v := (vI 1)) (fun w' hs => val_move (v := (vI 1)) rfl) ?_
                refine rp_valg (g := some (47, true)) ⟨251, true, rfl, .inl ⟨rfl, rfl⟩⟩ rfl rfl (v := (.bool false)) (fun w' hs => val_ne (p := 1) (q := 1) rfl rfl) ?_
                refine rp_valg (g := some (47, true)) ⟨251, true, rfl, .inl ⟨rfl, rfl⟩⟩ rfl rfl (v := (.bool false)) (fun w' hs => val_move (v := (.bool false)) rfl) ?_
                refine rp_valg (g := some (50, false)) ⟨254, false, rfl, .inl ⟨rfl, rfl⟩⟩ rfl rfl (v := (.agg ((z32).map v8).toArray)) (fun w' hs => val_loadAll rfl ag_50 (hs.row (i := 1) rfl).l (by simp) (by decide)) ?_
                refine rp_valg (g := some (50, false)) ⟨254, false, rfl, .inl ⟨rfl, rfl⟩⟩ rfl rfl (v := (.agg (z32.map v8).toArray)) (fun w' hs => val_buildSum0) ?_
                refine rp_valg (g := some (50, false)) ⟨254, false, rfl, .inl ⟨rfl, rfl⟩⟩ rfl rfl (v := (.bool false)) (fun w' hs => val_cast (val_neSum (a := z32) (b := z32) (by simp) (by simp) rfl rfl) (by simp)) ?_
                refine rp_valg (g := some (47, true)) ⟨251, true, rfl, .inl ⟨rfl, rfl⟩⟩ rfl rfl (v := (.bool false)) (fun w' hs => val_pick_f (v := (.bool false)) rfl rfl) ?_
                refine rp_valg (g := some (47, true)) ⟨251, true, rfl, .inl ⟨rfl, rfl⟩⟩ rfl rfl (v := (.bool false)) (fun w' hs => val_move (v := (.bool false)) rfl) ?_
                refine rp_valg (g := some (55, false)) ⟨259, false, rfl, .inl ⟨rfl, rfl⟩⟩ rfl rfl (v := (.agg ((z32).map v8).toArray)) (fun w' hs => val_loadAll rfl ag_50 (hs.row (i := 0) rfl).l (by simp) (by decide)) ?_
                refine rp_valg (g := some (55, false)) ⟨259, false, rfl, .inl ⟨rfl, rfl⟩⟩ rfl rfl (v := (.agg (z32.map v8).toArray)) (fun w' hs => val_buildSum0) ?_
                refine rp_valg (g := some (55, false)) ⟨259, false, rfl, .inl ⟨rfl, rfl⟩⟩ rfl rfl (v := (.bool false)) (fun w' hs => val_cast (val_neSum (a := z32) (b := z32) (by simp) (by simp) rfl rfl) (by simp)) ?_
                refine rp_valg (g := some (47, true)) ⟨251, true, rfl, .inl ⟨rfl, rfl⟩⟩ rfl rfl (v := (.bool false)) (fun w' hs => val_pick_f (v := (.bool false)) rfl rfl) ?_
                refine rp_valg (g := some (44, false)) ⟨248, false, rfl, .inl ⟨rfl, rfl⟩⟩ rfl rfl (v := (.bool false)) (fun w' hs => val_pick_t (v := (.bool false)) rfl rfl) ?_
                refine rp_val rfl rfl (v := (.bool false)) (fun w' hs => val_pick_f (v := (.bool false)) rfl rfl) ?_
                refine rp_nil ?_
                refine WP.cond_f rfl ?_
                refine WP.skip ?_
                refine wp_sr (E := noPanic) noPanic_imp ?_
                refine rl_val rfl (v := (.slice none 0 0)) (val_move (v := (.slice none 0 0)) rfl) ?_
                have hm2 : Mem w [] ([] ++ (((bk, row ([(vI ((nb : Nat) : Int)), uB, (.slice none 0 0), (.slice none 0 0), (.slice none 0 0), uS, (.slice none 0 0), (.slice none 0 0), (.slice none 0 0), (.slice none 0 0)]) 37) :: rB) ++ ([(b163, row ((z32).map v8) 50), (b158, row ((z32).map v8) 50)] ++ (lc ++ (rAll ++ ((rowsC pB) ++ (rS ++ ((rowsC pS) ++ (rp ++ (rq ++ (ry ++ (rz ++ [])))))))))))) _ := hm.perm (by classical exact List.perm_iff_count.2 (fun y => by simp only [List.count_append, List.count_cons, List.count_nil]; omega))
                refine rl_call rfl (ent_static (args := [(.pointer (some ⟨bk, 0, none⟩)), (.slice none 0 0)]) Tryz.func13 rfl rfl rfl (args_cons hs55 (args_cons rfl (args_nil)))) (putB_ok bk nb (pB).length 0 0 uB (.slice none 0 0) (.slice none 0 0) (.slice none 0 0) uS (.slice none 0 0) (.slice none 0 0) (.slice none 0 0) (.slice none 0 0) uB none (heldC pB) rB _ (hm2.see.2 (bk, row ([(vI ((nb : Nat) : Int)), uB, (.slice none 0 0), (.slice none 0 0), (.slice none 0 0), uS, (.slice none 0 0), (.slice none 0 0), (.slice none 0 0), (.slice none 0 0)]) 37) (by simp)) hB (fun p hp => hm2.see.2 p (by simp [hp])) (by intro p hp he; have h := hm2.see.1; simp only [List.map_cons, List.nodup_cons] at h; exact h.1 (List.mem_map.2 ⟨p, hp, he⟩)) (by omega) (by (try simp only [List.length_append, List.length_singleton]); omega)) ?_
                rintro _ w178 ⟨rfl, u180, rk181, hk182, h179⟩
                refine callQ_ret ?_
                have hw183 : VecIs u180 ((pB ++ [(⟨.slice none 0 0, .slice none 0 0, 0, nb + 1, [], []⟩ : HP)])).length 3 213 (heldC (pB ++ [(⟨.slice none 0 0, .slice none 0 0, 0, nb + 1, [], []⟩ : HP)])) rk181 := by rw [heldC_snoc]; simpa using hk182
                replace hm : Mem w [] ([(b163, row ((z32).map v8) 50), (b158, row ((z32).map v8) 50), (bk, row ([(vI ((nb + 1 : Nat) : Int)), u180, (.slice none 0 0), (.slice none 0 0), (.slice none 0 0), uS, (.slice none 0 0), (.slice none 0 0), (.slice none 0 0), (.slice none 0 0)]) 37)] ++ (lc ++ (rAll ++ (rk181 ++ ((rowsC pB) ++ (rS ++ ((rowsC pS) ++ (rp ++ (rq ++ (ry ++ (rz ++ []))))))))))) w178 := (hm2.callL h179).perm (by classical exact List.perm_iff_count.2 (fun y => by simp only [List.count_append, List.count_cons, List.count_nil]; omega))
                refine rl_nil ?_
                refine wp_sr (E := noPanic) noPanic_imp ?_
                refine rl_val rfl (v := (.slice ap (pathR bs qb qa).length cp)) (val_move (v := (.slice ap (pathR bs qb qa).length cp)) rfl) ?_
                have hm2 : Mem w [] ([] ++ (((bk, row ([(vI ((nb + 1 : Nat) : Int)), u180, (.slice none 0 0), (.slice none 0 0), (.slice none 0 0), uS, (.slice none 0 0), (.slice none 0 0), (.slice none 0 0), (.slice none 0 0)]) 37) :: rS) ++ ([(b163, row ((z32).map v8) 50), (b158, row ((z32).map v8) 50)] ++ (lc ++ (rAll ++ (rk181 ++ ((rowsC pB) ++ ((rowsC pS) ++ (rp ++ (rq ++ (ry ++ (rz ++ [])))))))))))) w178 := hm.perm (by classical exact List.perm_iff_count.2 (fun y => by simp only [List.count_append, List.count_cons, List.count_nil]; omega))
                refine rl_call rfl (ent_static (args := [(.pointer (some ⟨bk, 0, none⟩)), (.slice ap (pathR bs qb qa).length cp)]) Tryz.func26 rfl rfl rfl (args_cons hs55 (args_cons rfl (args_nil)))) (putS_ok bk (nb + 1) (pS).length ((pathR bs qb qa).length) cp u180 (.slice none 0 0) (.slice none 0 0) (.slice none 0 0) uS (.slice none 0 0) (.slice none 0 0) (.slice none 0 0) (.slice none 0 0) uS ap (heldC pS) rS _ (hm2.see.2 (bk, row ([(vI ((nb + 1 : Nat) : Int)), u180, (.slice none 0 0), (.slice none 0 0), (.slice none 0 0), uS, (.slice none 0 0), (.slice none 0 0), (.slice none 0 0), (.slice none 0 0)]) 37) (by simp)) hS (fun p hp => hm2.see.2 p (by simp [hp])) (by intro p hp he; have h := hm2.see.1; simp only [List.map_cons, List.nodup_cons] at h; exact h.1 (List.mem_map.2 ⟨p, hp, he⟩)) (by omega) (by (try simp only [List.length_append, List.length_singleton]); omega)) ?_
                rintro _ w184 ⟨rfl, u186, rk187, hk188, h185⟩
                refine callQ_ret ?_
                have hw189 : VecIs u186 ((pS ++ [(⟨.slice ap ((pathR bs qb qa).length) cp, .slice none 0 0, (pathR bs qb qa).length, (nb + 1) + 1, sumsC (pathR bs qb qa), rp⟩ : HP)])).length 3 226 (heldC (pS ++ [(⟨.slice ap ((pathR bs qb qa).length) cp, .slice none 0 0, (pathR bs qb qa).length, (nb + 1) + 1, sumsC (pathR bs qb qa), rp⟩ : HP)])) rk187 := by rw [heldC_snoc]; simpa using hk188
                replace hm : Mem w [] ([(b163, row ((z32).map v8) 50), (b158, row ((z32).map v8) 50), (bk, row ([(vI (((nb + 1) + 1 : Nat) : Int)), u180, (.slice none 0 0), (.slice none 0 0), (.slice none 0 0), u186, (.slice none 0 0), (.slice none 0 0), (.slice none 0 0), (.slice none 0 0)]) 37)] ++ (lc ++ (rAll ++ (rk181 ++ ((rowsC pB) ++ (rk187 ++ ((rowsC pS) ++ (rp ++ (rq ++ (ry ++ (rz ++ []))))))))))) w184 := (hm2.callL h185).perm (by classical exact List.perm_iff_count.2 (fun y => by simp only [List.count_append, List.count_cons, List.count_nil]; omega))
                refine rl_nil ?_
                refine wp_r (E := noPanic) noPanic_imp ?_
                refine rl_val rfl (v := (.slice aq (linkR bs qb qa).length cq)) (val_move (v := (.slice aq (linkR bs qb qa).length cq)) rfl) ?_
                have hm2 : Mem w [] ([] ++ (((bk, row ([(vI (((nb + 1) + 1 : Nat) : Int)), u180, (.slice none 0 0), (.slice none 0 0), (.slice none 0 0), u186, (.slice none 0 0), (.slice none 0 0), (.slice none 0 0), (.slice none 0 0)]) 37) :: rk187) ++ ([(b163, row ((z32).map v8) 50), (b158, row ((z32).map v8) 50)] ++ (lc ++ (rAll ++ (rk181 ++ ((rowsC pB) ++ ((rowsC pS) ++ (rp ++ (rq ++ (ry ++ (rz ++ [])))))))))))) w184 := hm.perm (by classical exact List.perm_iff_count.2 (fun y => by simp only [List.count_append, List.count_cons, List.count_nil]; omega))
                refine rl_call rfl (ent_static (args := [(.pointer (some ⟨bk, 0, none⟩)), (.slice aq (linkR bs qb qa).length cq)]) Tryz.func26 rfl rfl rfl (args_cons hs55 (args_cons rfl (args_nil)))) (putS_ok bk ((nb + 1) + 1) ((pS ++ [(⟨.slice ap ((pathR bs qb qa).length) cp, .slice none 0 0, (pathR bs qb qa).length, (nb + 1) + 1, sumsC (pathR bs qb qa), rp⟩ : HP)])).length ((linkR bs qb qa).length) cq u180 (.slice none 0 0) (.slice none 0 0) (.slice none 0 0) u186 (.slice none 0 0) (.slice none 0 0) (.slice none 0 0) (.slice none 0 0) u186 aq (heldC (pS ++ [(⟨.slice ap ((pathR bs qb qa).length) cp, .slice none 0 0, (pathR bs qb qa).length, (nb + 1) + 1, sumsC (pathR bs qb qa), rp⟩ : HP)])) rk187 _ (hm2.see.2 (bk, row ([(vI (((nb + 1) + 1 : Nat) : Int)), u180, (.slice none 0 0), (.slice none 0 0), (.slice none 0 0), u186, (.slice none 0 0), (.slice none 0 0), (.slice none 0 0), (.slice none 0 0)]) 37) (by simp)) hw189 (fun p hp => hm2.see.2 p (by simp [hp])) (by intro p hp he; have h := hm2.see.1; simp only [List.map_cons, List.nodup_cons] at h; exact h.1 (List.mem_map.2 ⟨p, hp, he⟩)) (by omega) (by (try simp only [List.length_append, List.length_singleton]); omega)) ?_
                rintro _ w190 ⟨rfl, u192, rk193, hk194, h191⟩
                refine callQ_ret ?_
                have hw195 : VecIs u192 (((pS ++ [(⟨.slice ap ((pathR bs qb qa).length) cp, .slice none 0 0, (pathR bs qb qa).length, (nb + 1) + 1, sumsC (pathR bs qb qa), rp⟩ : HP)]) ++ [(⟨.slice aq ((linkR bs qb qa).length) cq, .slice none 0 0, (linkR bs qb qa).length, ((nb + 1) + 1) + 1, sumsC (linkR bs qb qa), rq⟩ : HP)])).length 3 226 (heldC ((pS ++ [(⟨.slice ap ((pathR bs qb qa).length) cp, .slice none 0 0, (pathR bs qb qa).length, (nb + 1) + 1, sumsC (pathR bs qb qa), rp⟩ : HP)]) ++ [(⟨.slice aq ((linkR bs qb qa).length) cq, .slice none 0 0, (linkR bs qb qa).length, ((nb + 1) + 1) + 1, sumsC (linkR bs qb qa), rq⟩ : HP)])) rk193 := by rw [heldC_snoc]; simpa using hk194
                replace hm : Mem w [] ([(b163, row ((z32).map v8) 50), (b158, row ((z32).map v8) 50), (bk, row ([(vI ((((nb + 1) + 1) + 1 : Nat) : Int)), u180, (.slice none 0 0), (.slice none 0 0), (.slice none 0 0), u192, (.slice none 0 0), (.slice none 0 0), (.slice none 0 0), (.slice none 0 0)]) 37)] ++ (lc ++ (rAll ++ (rk181 ++ ((rowsC pB) ++ (rk193 ++ ((rowsC pS) ++ (rp ++ (rq ++ (ry ++ (rz ++ []))))))))))) w190 := (hm2.callL h191).perm (by classical exact List.perm_iff_count.2 (fun y => by simp only [List.count_append, List.count_cons, List.count_nil]; omega))
                refine rl_nil ?_
                refine wp_r (E := noPanic) noPanic_imp ?_
                refine rl_val rfl (v := (vI (i : Int))) (val_move (v := (vI (i : Int))) hs58) ?_
                refine rl_val rfl (v := (vI ((i : Int) + 1))) (val_addI (p := (i : Int)) (q := 1) rfl rfl (by omega)) ?_
                refine rl_val rfl (v := (vI ((i : Int) + 1))) (val_assign (v := (vI ((i : Int) + 1))) rfl) ?_
                refine rl_nil ?_
                have hx1 : HOk 1 5 ⟨.slice none 0 0, .slice none 0 0, 0, nb + 1, [], []⟩ := ⟨VecIs.nil, rfl, by show 0 ≤ _; omega, by show nb + 1 ≤ _; omega⟩
                have hx2 : HOk 32 50 ⟨.slice ap (pathR bs qb qa).length cp, .slice none 0 0, (pathR bs qb qa).length, nb + 1 + 1, sumsC (pathR bs qb qa), rp⟩ := ⟨hvp, rfl, by show (pathR bs qb qa).length ≤ _; omega, by show nb + 1 + 1 ≤ _; omega⟩
                have hx3 : HOk 32 50 ⟨.slice aq (linkR bs qb qa).length cq, .slice none 0 0, (linkR bs qb qa).length, nb + 1 + 1 + 1, sumsC (linkR bs qb qa), rq⟩ := ⟨hvq, rfl, by show (linkR bs qb qa).length ≤ _; omega, by show nb + 1 + 1 + 1 ≤ _; omega⟩
                exact ⟨A.length - (i + 1), by omega, ⟨i + 1, nb + 1 + 1 + 1, (pB ++ [(⟨.slice none 0 0, .slice none 0 0, 0, nb + 1, [], []⟩ : HP)]), u180, rk181, ((pS ++ [(⟨.slice ap ((pathR bs qb qa).length) cp, .slice none 0 0, (pathR bs qb qa).length, (nb + 1) + 1, sumsC (pathR bs qb qa), rp⟩ : HP)]) ++ [(⟨.slice aq ((linkR bs qb qa).length) cq, .slice none 0 0, (linkR bs qb qa).length, ((nb + 1) + 1) + 1, sumsC (linkR bs qb qa), rq⟩ : HP)]), u192, rk193, rfl, by omega, by simp only [List.length_append, List.length_singleton]; omega, by simp only [List.length_append, List.length_singleton]; omega, by omega, hw183, hw195, by intro p hp; rcases List.mem_append.1 hp with hp | hp; exact hPB p hp; rw [List.mem_singleton.1 hp]; exact hx1, by intro p hp; rcases List.mem_append.1 hp with hp | hp; rcases List.mem_append.1 hp with hp | hp; exact hPS p hp; rw [List.mem_singleton.1 hp]; exact hx2; rw [List.mem_singleton.1 hp]; exact hx3, (by simp only [rowsC_snoc]; exact (hm.sub (l2 := ([(bk, row ([(vI ((((nb + 1) + 1) + 1 : Nat) : Int)), u180, (.slice none 0 0), (.slice none 0 0), (.slice none 0 0), u192, (.slice none 0 0), (.slice none 0 0), (.slice none 0 0), (.slice none 0 0)]) 37)] ++ (lc ++ (rAll ++ (rk181 ++ ((rowsC pB) ++ (rk193 ++ ((rowsC pS) ++ (rp ++ (rq ++ [])))))))))) (by ((try (simp only [List.append_assoc, List.nil_append, List.append_nil, List.cons_append])); repeat (first | exact List.nil_sublist _ | exact List.Sublist.refl _ | with_reducible refine List.Sublist.cons_cons _ ?_ | with_reducible refine List.Sublist.append (List.Sublist.refl _) ?_ | with_reducible exact List.sublist_append_left _ _ | refine List.Sublist.cons _ ?_ | refine List.Sublist.trans ?_ (List.sublist_append_right _ _))))).perm (by classical exact List.perm_iff_count.2 (fun y => by simp only [List.count_append, List.count_cons, List.count_nil]; omega))), hs53, hs54, hs55, hs56, hs57, (by first | rfl | (refine int_eq ?_; simp; try omega) | (refine int_eq ?_; omega))⟩⟩
            ·
              have hq196 := of_decide_eq_false hb
              obtain rfl : i = A.length := by omega
              obtain ⟨aB, cB, rfl, _⟩ := hB.form
              obtain ⟨aS, cS, rfl, _⟩ := hS.form
              refine WP.exit ?_
              repeat (first | with_reducible refine exit_pass ?_ | with_reducible refine exit_other rfl ?_)
              refine blk_here ?_
              refine wp_sr (E := noPanic) noPanic_imp ?_
              have hm2 : Mem w [] ([] ++ (((bk, row ([(vI ((nb : Nat) : Int)), (.slice aB pB.length cB), (.slice none 0 0), (.slice none 0 0), (.slice none 0 0), (.slice aS pS.length cS), (.slice none 0 0), (.slice none 0 0), (.slice none 0 0), (.slice none 0 0)]) 37) :: (rB ++ (rowsC pB ++ (rS ++ rowsC pS)))) ++ (lc ++ rAll))) wl50 := hm.perm (by classical exact List.perm_iff_count.2 (fun y => by simp only [List.count_append, List.count_cons, List.count_nil]; omega))
              refine rl_call rfl (ent_static (args := [(.pointer (some ⟨bk, 0, none⟩))]) Tryz.func27 rfl rfl rfl (args_cons hs55 (args_nil))) (apart_ok bk nb cB cS aB aS pB pS rB rS _ _ rfl hm2.see.1 hm2.see.2 hB hS hPB hPS (by omega) (by omega)) ?_
              rintro _ w197 ⟨rfl, h198⟩
              refine callQ_ret ?_
              replace hm := (hm2.callL h198).nil
              refine rl_val rfl (v := (.bool true)) (val_assign (v := (.bool true)) rfl) ?_
              refine rl_nil ?_
              refine WP.ret ?_
              repeat (first | with_reducible refine ret_pass ?_ | with_reducible refine ret_blk ?_ | with_reducible refine scope_ret ?_)
              exact post_rets rfl (vs := [.bool true]) ⟨rfl, trivial⟩ rfl ⟨rfl, hm.nil⟩
end Go.Al
namespace Go.Al
open Go Go.RowKit Go.Proofs
set_option linter.unusedVariables false
set_option linter.unusedSimpArgs false
set_option maxRecDepth 100000
theorem exists_list {α : Type} {Q : Nat → α → Prop} : ∀ n, (∀ i, i < n → ∃ x, Q i x) → ∃ l : List α, l.length = n ∧ ∀ i x, l[i]? = some x → Q i x := by
  intro n
  induction n with
  | zero => intro _; exact ⟨[], rfl, fun i x h => by simp at h⟩
  | succ n ih =>
    intro h
    obtain ⟨l, hl, hq⟩ := ih (fun i hi => h i (by omega))
    obtain ⟨x, hx⟩ := h n (by omega)
    refine ⟨l ++ [x], by simp [hl], fun i y hy => ?_⟩
    by_cases hi : i < l.length
    · rw [List.getElem?_append_left hi] at hy; exact hq i y hy
    · have hlt := (List.getElem?_eq_some_iff.1 hy).1
      simp at hlt
      have : i = l.length := by omega
      subst this
      simp at hy
      subst hy
      rw [hl]; exact hx
theorem slIs_cells {w : World} {a : Addr} {n c k : Nat} {cs : List Value} (hl : cs.length = n * k) (hk : 0 < k) (hc : n ≤ c) (h : ∀ i, i < n * k → w.cell? (a.add i) = cs[i]?) : SlIs w [] (.slice (some a) n c) k n cs := by
  refine ⟨_, _, rfl, hc, hl, fun hn => ?_⟩
  have hpos : 0 < n * k := Nat.mul_pos hn hk
  have h0 := h 0 hpos
  rw [addr_add0] at h0
  obtain ⟨x, hx⟩ : ∃ x, cs[0]? = some x := ⟨cs[0]'(by omega), by simp⟩
  rw [hx] at h0
  obtain ⟨b, off, spot⟩ := a
  have hspot : spot = none := by
    unfold World.cell? at h0
    simp only at h0
    split at h0
    · split at h0
      · cases h0
      · rename_i hs; simpa using hs
    · cases h0
  subst hspot
  unfold World.cell? at h0
  simp only at h0
  split at h0
  · rename_i cc t fr hh
    refine ⟨b, off, cc.toList, rfl, by simp, ⟨t, fr, by simpa using hh⟩, ?_, ?_⟩
    · apply List.ext_getElem?
      intro i
      by_cases hi : i < n * k
      · rw [List.getElem?_take, if_pos hi, List.getElem?_drop, ← h i hi, add_mk]
        simp [World.cell?, hh]
      · rw [List.getElem?_eq_none (by simp; omega), List.getElem?_eq_none (by omega)]
    · have hlast := h (n * k - 1) (by omega)
      rw [add_mk] at hlast
      obtain ⟨y, hy⟩ : ∃ y, cs[n * k - 1]? = some y := ⟨cs[n * k - 1]'(by omega), by simp⟩
      rw [hy] at hlast
      simp [World.cell?, hh] at hlast
      have := (Array.getElem?_eq_some_iff.1 hlast).1
      simp
      omega
  · cases h0
section
variable {H : Type} {enc : TypeId × Value → H} {w : World}
theorem wf_u8 {z : Int} (h : (Lit.int .u8 z).wf = true) : 0 ≤ z ∧ z ≤ 255 := by
  simp [Lit.wf, IntKind.min, IntKind.max, IntKind.signed, IntKind.bits] at h
  omega
theorem wf_u64 {z : Int} (h : (Lit.int .u64 z).wf = true) : 0 ≤ z := by
  simp [Lit.wf, IntKind.min, IntKind.max, IntKind.signed, IntKind.bits] at h
  omega
theorem v8_of {z : Int} (h : 0 ≤ z ∧ z ≤ 255) : v8 (UInt8.ofNat z.toNat) = .int .u8 z := by
  refine int_eq ?_
  rw [UInt8.toNat_ofNat']
  omega
theorem cells1 : Tryz.prog.cellsOf 5 = 1 := by kernel_rfl
theorem cells38 : Tryz.prog.cellsOf 38 = 1 := by kernel_rfl
theorem cells46 : Tryz.prog.cellsOf 46 = 2 := by kernel_rfl
theorem cells44 : Tryz.prog.cellsOf 44 = 1 := by kernel_rfl
theorem bytes5 : Tryz.prog.bytesOf 5 = 1 := by kernel_rfl
theorem mem_weightsAll {P : Program} {e : TypeId} {d : DataW H} {ds : List (DataW H)} {m : Nat} (h : d ∈ ds) (hm : m ∈ d.weights P e) : m ∈ DataW.weightsAll P e ds := by
  induction ds with
  | nil => simp at h
  | cons x ds ih =>
    rw [DataW.weightsAll, List.mem_append]
    rcases List.mem_cons.1 h with rfl | h
    · exact .inl hm
    · exact .inr (ih h)
/-- Bytes. -/
theorem open_bytes {fuel : Nat} {cs : List Value} {x : DataW H × List MemPlace} (h : DataW.trod enc Tryz.prog w 0 (fun _ => true) true fuel 38 cs = some x) :
    ∃ (l : Bytes) (a : Option Addr) (c : Nat), cs = [.slice a l.length c] ∧ SlIs w [] (.slice a l.length c) 1 l.length (l.map v8) ∧ ∀ B, (∀ m ∈ x.1.weights Tryz.prog 38, m ≤ B) → l.length ≤ B := by
  rcases ChangeShapes.open_ints us_38 ui_5 cells1 h with ⟨rfl, rfl⟩ | ⟨a, len, cap, zs, rfl, _, hlc, _, hzl, rfl, hcell, hwf⟩
  · exact ⟨[], none, 0, rfl, SlIs.nil, fun B _ => by simp⟩
  · simp only [if_true] at hzl
    have hl : ((zs.take len).map fun z => UInt8.ofNat z.toNat).length = len := by simp; omega
    refine ⟨(zs.take len).map fun z => UInt8.ofNat z.toNat, some a, cap, by rw [hl], ?_, ?_⟩
    · rw [hl]
      refine slIs_cells (by simp; omega) (by decide) hlc ?_
      intro i hi
      rw [hcell i (by omega)]
      have hz : (zs.take len)[i]? = some (zs.getD i 0) := by
        rw [List.getElem?_take, if_pos (by omega)]
        simp [show i < zs.length from by omega]
      rw [List.getElem?_map, List.getElem?_map, hz]
      have hmem : zs.getD i 0 ∈ zs := by
        rw [List.getD_eq_getElem?_getD, List.getElem?_eq_getElem (show i < zs.length by omega)]; simp
      simp only [Option.map_some]
      rw [v8_of (wf_u8 (hwf _ hmem))]
    · intro B hB
      have := hB (((zs.take len).length + (zs.drop len).length) * Tryz.prog.bytesOf 5) (by simp [DataW.weights, us_38, ChangeShapes.lits])
      rw [bytes5] at this
      simp at this ⊢
      omega
/-- A list of lists of bytes. -/
theorem open_lists {v : Value} {d : DataW H} {ps : List MemPlace} {r : Reach} {b0 : Nat} (hval : Value.okWide Tryz.prog w r b0 22 v) (h : DataW.Trod enc Tryz.prog w 0 (fun _ => true) true 22 v d ps) (hB : ∀ m ∈ d.weights Tryz.prog 22, m ≤ reachBytes) :
    ∃ (L : List Bytes) (vs : List Value) (a : Option Addr) (c : Nat), v = .slice a L.length c ∧ SlIs w [] (.slice a L.length c) 1 L.length vs ∧ SlsOk w vs L ∧ ∀ b ∈ L, b.length ≤ 281474976710656 := by
  obtain ⟨a0, len, cap, rfl⟩ := WideShapes.okWide_slice us_22 hval
  obtain ⟨fuel, hf⟩ := h
  rcases DataW.trod_slice us_22 hf with ⟨hc, hx⟩ | ⟨a, len', cap', elems, rest, n, _, hc, hx, _, hlc, _, hlen, hel, _, _⟩
  · simp [Value.cells] at hc
    obtain ⟨rfl, rfl, rfl⟩ := hc
    exact ⟨[], [], none, 0, rfl, SlIs.nil, fun i v l h => by simp at h, fun b hb => by simp at hb⟩
  · simp [Value.cells] at hc
    obtain ⟨rfl, rfl, rfl⟩ := hc
    simp only [Prod.mk.injEq] at hx
    obtain ⟨rfl, rfl⟩ := hx
    have key : ∀ i, i < len → ∃ p : Bytes × Value, w.cell? (a.add i) = some p.2 ∧ SlIs w [] p.2 1 p.1.length (p.1.map v8) ∧ p.1.length ≤ 281474976710656 := by
      intro i hi
      have h1 := hel i hi
      obtain ⟨y, hy⟩ : ∃ y, elems[i]? = some y := ⟨elems[i]'(by omega), by simp⟩
      rw [hy, cells38, Nat.mul_one, Option.bind_eq_some_iff] at h1
      obtain ⟨cs, hcs, ht⟩ := h1
      obtain ⟨l, a1, c1, rfl, hs, hw⟩ := open_bytes ht
      refine ⟨(l, .slice a1 l.length c1), ?_, hs, ?_⟩
      · have := (World.cells?_some hcs).2.2 0 (by omega)
        rw [addr_add0] at this
        simpa using this
      · have := hw reachBytes (fun m hm => hB m (by
          simp only [DataW.weights, us_22]
          refine List.mem_cons_of_mem _ (List.mem_append_left _ ?_)
          exact mem_weightsAll (List.mem_map.2 ⟨y, List.mem_of_getElem? hy, rfl⟩) hm))
        exact Nat.le_trans this (by decide)
    obtain ⟨P, hPl, hP⟩ := exists_list len key
    have hL : (P.map (·.1)).length = len := by simp [hPl]
    refine ⟨P.map (·.1), P.map (·.2), some a, cap, by rw [hL], ?_, ?_, ?_⟩
    · rw [hL]
      refine slIs_cells (by simp [hPl]) (by decide) hlc ?_
      intro i hi
      obtain ⟨p, hp⟩ : ∃ p, P[i]? = some p := ⟨P[i]'(by omega), by simp⟩
      rw [(hP i p hp).1, List.getElem?_map, hp]; rfl
    · intro i v l h1 h2
      rw [List.getElem?_map] at h1 h2
      cases hp : P[i]? with
      | none => rw [hp] at h1; cases h1
      | some p =>
        rw [hp] at h1 h2
        simp at h1 h2
        subst h1; subst h2
        exact (hP i p hp).2.1
    · intro b hb
      obtain ⟨p, hp, rfl⟩ := List.mem_map.1 hb
      obtain ⟨i, hi⟩ := List.mem_iff_getElem?.1 hp
      exact (hP i p hi).2.2
/-- A list of pairs of numbers. -/
theorem open_asks {v : Value} {d : DataW H} {ps : List MemPlace} {r : Reach} {b0 : Nat} (hval : Value.okWide Tryz.prog w r b0 23 v) (h : DataW.Trod enc Tryz.prog w 0 (fun _ => true) true 23 v d ps) :
    ∃ (A : List (Nat × Nat)) (a : Option Addr) (c : Nat), v = .slice a A.length c ∧ SlIs w [] (.slice a A.length c) 2 A.length (asksC A) := by
  obtain ⟨a0, len, cap, rfl⟩ := WideShapes.okWide_slice us_23 hval
  obtain ⟨fuel, hf⟩ := h
  rcases DataW.trod_slice us_23 hf with ⟨hc, hx⟩ | ⟨a, len', cap', elems, rest, n, _, hc, hx, _, hlc, _, hlen, hel, _, _⟩
  · simp [Value.cells] at hc
    obtain ⟨rfl, rfl, rfl⟩ := hc
    exact ⟨[], none, 0, rfl, SlIs.nil⟩
  · simp [Value.cells] at hc
    obtain ⟨rfl, rfl, rfl⟩ := hc
    have key : ∀ i, i < len → ∃ p : Nat × Nat, w.cell? (a.add (i * 2)) = some (vU (p.1 : Int)) ∧ w.cell? (a.add (i * 2 + 1)) = some (vU (p.2 : Int)) := by
      intro i hi
      have h1 := hel i hi
      obtain ⟨y, hy⟩ : ∃ y, elems[i]? = some y := ⟨elems[i]'(by omega), by simp⟩
      rw [hy, cells46, Option.bind_eq_some_iff] at h1
      obtain ⟨cs, hcs, ht⟩ := h1
      obtain ⟨xs, m, _, _, hcl, hxl, hxe⟩ := DataW.trod_array ua_46 ht
      rw [cells46] at hcl
      have g : ∀ j, j < 2 → ∃ z : Nat, cs[j]? = some (vU (z : Int)) := by
        intro j hj
        have h2 := hxe j hj
        rw [cells44, Nat.mul_one] at h2
        obtain ⟨q, hq⟩ : ∃ q, xs[j]? = some q := ⟨xs[j]'(by omega), by simp⟩
        rw [hq] at h2
        obtain ⟨z, hz, _, hwf⟩ := DataW.trod_int ui_44 h2
        refine ⟨z.toNat, ?_⟩
        have h3 := congrArg (fun l => l[0]?) hz
        simp at h3
        rw [show ((z.toNat : Nat) : Int) = z from Int.toNat_of_nonneg (wf_u64 hwf)]
        exact h3
      obtain ⟨z0, hz0⟩ := g 0 (by decide)
      obtain ⟨z1, hz1⟩ := g 1 (by decide)
      refine ⟨(z0, z1), ?_, ?_⟩
      · have := (World.cells?_some hcs).2.2 0 (by omega)
        rw [addr_add0, hz0] at this
        exact this
      · have := (World.cells?_some hcs).2.2 1 (by omega)
        rw [hz1] at this
        rw [← this]
        congr 1
        unfold Addr.add
        by_cases hi0 : i * 2 = 0 <;> simp [hi0] <;> omega
    obtain ⟨A, hAl, hA⟩ := exists_list len key
    refine ⟨A, some a, cap, by rw [hAl], ?_⟩
    rw [hAl]
    refine slIs_cells (by rw [asksC_len, hAl]) (by decide) hlc ?_
    intro j hj
    have hjd : j / 2 < len := by omega
    obtain ⟨p, hp⟩ : ∃ p, A[j / 2]? = some p := ⟨A[j / 2]'(by omega), by simp⟩
    obtain ⟨z0, z1⟩ := p
    obtain ⟨h1, h2⟩ := hA _ _ hp
    obtain ⟨e1, e2⟩ := ask_at (xs := asksC A) (off := 0) (m := A.length) (by rw [List.drop_zero, List.take_of_length_le (by rw [asksC_len]; exact Nat.le_refl _)]) hp rfl
    rw [Nat.zero_add] at e1 e2
    rcases Nat.mod_two_eq_zero_or_one j with hm | hm
    · rw [show j = j / 2 * 2 from by omega, h1, e1]
    · rw [show j = j / 2 * 2 + 1 from by omega, h2, e2]
end
end Go.Al
