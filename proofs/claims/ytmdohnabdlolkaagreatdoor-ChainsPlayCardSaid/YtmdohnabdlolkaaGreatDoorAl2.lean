/- Lemmas and contracts for the claim, part 2: what each function of the road does, proved once. No condition beyond the hypotheses that stand. -/
import Derived.Test.YtmdohnabdlolkaaGreatDoorProg
import Derived.Scope
import Derived.Test.YtmdohnabdlolkaaGreatDoorAl1
namespace Go.Al
open Go Go.RowKit Go.Proofs
set_option linter.unusedVariables false
set_option linter.unusedSimpArgs false
theorem flat_take_le (ls : List (List UInt8)) (i : Nat) : (ls.take i).flatten.length ≤ ls.flatten.length := by
  have h : ls.flatten = (ls.take i).flatten ++ (ls.drop i).flatten := by rw [← List.flatten_append, List.take_append_drop]
  rw [h, List.length_append]; omega
theorem take_at {xs vs : List Value} {off n i : Nat} (h : (xs.drop off).take (n * 1) = vs) (hi : i < n) : xs[off + i]? = vs[i]? := by
  subst h
  rw [List.getElem?_take, if_pos (by omega), List.getElem?_drop]
theorem SlIs.form {w : World} {own : List Nat} {v : Value} {k n : Nat} {cs : List Value} (h : SlIs w own v k n cs) : ∃ a c, v = .slice a n c ∧ n ≤ c := by
  obtain ⟨a, c, h1, h2, _⟩ := h; exact ⟨a, c, h1, h2⟩
theorem concat_ok (vs : List Value) (ls : List (List UInt8)) (a : Option Addr) (c : Nat) (w : World) (hs : SlIs w [] (.slice a vs.length c) 1 vs.length vs) (hl : vs.length = ls.length)
    (hv : ∀ (i : Nat) (v : Value) (l : List UInt8), vs[i]? = some v → ls[i]? = some l → SlIs w [] v 1 l.length (l.map v8)) (hbig : ls.flatten.length ≤ 1099511627776) (hvb : vs.length ≤ 1099511627776) : Calls Tryz.prog 88 [.slice a vs.length c].toArray w (RetV w ls.flatten.length 1 5 (ls.flatten.map v8)) := by
  have hm := Mem.init w
  refine calls_enter (n := 36) Tryz.func88 rfl rfl rfl ?_
  refine wp_sr (E := noPanic) noPanic_imp ?_
  refine rl_val rfl (v := (.slice none 0 0)) (val_assign (v := (.slice none 0 0)) rfl) ?_
  refine rl_nil ?_
  refine wp_sr (E := noPanic) noPanic_imp ?_
  refine rl_val rfl (v := (vI 0)) (val_assign (v := (vI 0)) rfl) ?_
  refine rl_nil ?_
  refine WP.seq ?_
  refine wp_sr (E := noPanic) noPanic_imp ?_
  refine rl_val rfl (v := (.slice a vs.length c)) (val_move (v := (.slice a vs.length c)) rfl) ?_
  refine rl_val rfl (v := (vI (vs.length : Nat))) (val_lenSl (t := 22) rfl us_22 rfl) ?_
  refine rl_val rfl (v := (vI 0)) (val_move (v := (vI 0)) rfl) ?_
  refine rl_nil ?_
  refine WP.block ?_
  refine WP.loop (fun k τ w' => ∃ (i : Nat), vs.length - i = k ∧ i ≤ vs.length ∧ Mem w [] [] w' ∧ τ 3 = (vI ((ls.take i).flatten.length : Int)) ∧ τ 9 = (.slice a vs.length c) ∧ τ 10 = (vI (vs.length : Int)) ∧ τ 11 = (vI (i : Int)) ∧ τ 0 = (.slice a vs.length c)) (vs.length) ?_ ?_
  · exact ⟨0, rfl, by omega, hm, (by first | rfl | (refine int_eq ?_; simp; try omega) | (refine int_eq ?_; omega)), rfl, (by first | rfl | (refine int_eq ?_; simp; try omega) | (refine int_eq ?_; omega)), (by first | rfl | (refine int_eq ?_; simp; try omega) | (refine int_eq ?_; omega)), rfl⟩
  · rintro kk2 τ wl1 ⟨i, hk3, hi, hm, hs4, hs5, hs6, hs7, hs8⟩
    refine wp_sr (E := noPanic) noPanic_imp ?_
    refine rl_val rfl (v := (.bool (decide (((i : Int) : Int) < (vs.length : Int))))) (val_lt (p := (i : Int)) (q := (vs.length : Int)) hs7 hs6) ?_
    refine rl_nil ?_
    refine WP.seq (WP.cond (b := decide (((i : Int) : Int) < (vs.length : Int))) rfl (fun hb => ?_) (fun hb => ?_))
    ·
      have hq9 := of_decide_eq_true hb
      have hin : i < vs.length := by omega
      obtain ⟨b, off, xs, rfl, hbn, hr, hcs, hle, hnc⟩ := hs.pos (by omega)
      obtain ⟨l, hli⟩ : ∃ l, ls[i]? = some l := ⟨ls[i]'(by omega), by simp⟩
      obtain ⟨v, hvi⟩ : ∃ v, vs[i]? = some v := ⟨vs[i], by simp⟩
      have hsv := hv i v l hvi hli
      obtain ⟨a1, c1, rfl, hn1⟩ := hsv.form
      have hsum : (ls.take (i + 1)).flatten.length = (ls.take i).flatten.length + l.length := by rw [List.take_add_one, hli]; simp
      have hsb := flat_take_le ls (i + 1)
      refine WP.skip ?_
      refine WP.seq (WP.block ?_)
      refine wp_sr (E := noPanic) noPanic_imp ?_
      refine rl_val rfl (v := (.pointer (some ⟨b, off + i, none⟩))) (val_cast (val_indexSl (i := (i : Int)) (sz := 1) hs5 hs7 es_22 (by omega)) (ptr_eq (by omega))) ?_
      refine rl_val rfl (v := (.slice a1 l.length c1)) (val_load1 (v := .slice a1 l.length c1) (off := off + i) rfl ag_38 (hm.getL hr (by simp)) (by rw [take_at hcs (by omega)]; exact hvi)) ?_
      refine rl_val rfl (v := (.slice a1 l.length c1)) (val_assign (v := (.slice a1 l.length c1)) rfl) ?_
      refine rl_nil ?_
      refine wp_sr (E := noPanic) noPanic_imp ?_
      refine rl_val rfl (v := (vI ((ls.take i).flatten.length : Int))) (val_move (v := (vI ((ls.take i).flatten.length : Int))) hs4) ?_
      refine rl_val rfl (v := (.slice a1 l.length c1)) (val_move (v := (.slice a1 l.length c1)) rfl) ?_
      refine rl_val rfl (v := (vI (l.length : Nat))) (val_lenSl (t := 38) rfl us_38 rfl) ?_
      refine rl_val rfl (v := (vI ((ls.take (i + 1)).flatten.length : Int))) (val_cast (val_addI (p := ((ls.take i).flatten.length : Int)) (q := (l.length : Int)) rfl rfl (by omega)) (int_eq (by omega))) ?_
      refine rl_val rfl (v := (vI ((ls.take (i + 1)).flatten.length : Int))) (val_assign (v := (vI ((ls.take (i + 1)).flatten.length : Int))) rfl) ?_
      refine rl_nil ?_
      refine wp_sr (E := noPanic) noPanic_imp ?_
      refine rl_val rfl (v := (vI ((ls.take (i + 1)).flatten.length : Int))) (val_move (v := (vI ((ls.take (i + 1)).flatten.length : Int))) rfl) ?_
      refine rl_val rfl (v := (.bool (decide ((((ls.take (i + 1)).flatten.length : Int) : Int) < 0)))) (val_lt (p := ((ls.take (i + 1)).flatten.length : Int)) (q := 0) rfl rfl) ?_
      refine rl_nil ?_
      refine WP.cond (b := decide ((((ls.take (i + 1)).flatten.length : Int) : Int) < 0)) rfl (fun hb => ?_) (fun hb => ?_)
      ·
        have hq10 := of_decide_eq_true hb
        omega
      ·
        have hq11 := of_decide_eq_false hb
        refine WP.skip ?_
        refine wp_r (E := noPanic) noPanic_imp ?_
        refine rl_val rfl (v := (vI ((i : Int) + 1))) (val_addI (p := (i : Int)) (q := 1) hs7 rfl (by omega)) ?_
        refine rl_val rfl (v := (vI ((i : Int) + 1))) (val_move (v := (vI ((i : Int) + 1))) rfl) ?_
        refine rl_nil ?_
        exact ⟨vs.length - (i + 1), by omega, ⟨i + 1, rfl, by omega, hm, rfl, hs5, hs6, (by first | rfl | (refine int_eq ?_; simp; try omega) | (refine int_eq ?_; omega)), hs8⟩⟩
    ·
      have hq12 := of_decide_eq_false hb
      obtain rfl : i = vs.length := by omega
      have hall : (ls.take vs.length).flatten = ls.flatten := by rw [hl, List.take_length]
      refine WP.exit ?_
      repeat (first | with_reducible refine exit_pass ?_ | with_reducible refine exit_other rfl ?_)
      refine blk_here ?_
      refine wp_sr (E := noPanic) noPanic_imp ?_
      refine rl_val rfl (v := (vI (ls.flatten.length : Int))) (val_cast (val_move (v := vI ((ls.take vs.length).flatten.length : Int)) hs4) (by rw [hall])) ?_
      refine rl_call rfl (ent_static (args := [(.slice none 0 0), (vI (ls.flatten.length : Int))]) Tryz.func200 rfl rfl rfl rfl) (grow_ok ls.flatten.length _ hbig) ?_
      rintro _ w13 ⟨v15, r16, rfl, hv17, h14⟩
      refine callQ_ret ?_
      replace hm := (hm.call h14).comm
      replace hm : Mem w [] ([] ++ (r16 ++ [])) w13 := by simpa only [List.append_assoc, List.nil_append, List.append_nil, List.cons_append] using hm
      refine rl_val rfl (v := v15) (val_assign (v := v15) rfl) ?_
      refine rl_nil ?_
      refine WP.seq ?_
      refine wp_sr (E := noPanic) noPanic_imp ?_
      refine rl_val rfl (v := (.slice a vs.length c)) (val_move (v := (.slice a vs.length c)) hs8) ?_
      refine rl_val rfl (v := (vI (vs.length : Nat))) (val_lenSl (t := 22) rfl us_22 rfl) ?_
      refine rl_val rfl (v := (vI 0)) (val_move (v := (vI 0)) rfl) ?_
      refine rl_nil ?_
      refine WP.block ?_
      refine WP.loop (fun k τ w' => ∃ (j : Nat) (v2 : Value) (r2 : List (Nat × Obj)), vs.length - j = k ∧ j ≤ vs.length ∧ VecIs v2 (ls.take j).flatten.length 1 5 ((ls.take j).flatten.map v8) r2 ∧ Mem w [] ([] ++ (r2 ++ [])) w' ∧ τ 6 = v2 ∧ τ 25 = (.slice a vs.length c) ∧ τ 26 = (vI (vs.length : Int)) ∧ τ 27 = (vI (j : Int))) (vs.length) ?_ ?_
      · exact ⟨0, v15, r16, rfl, by omega, by simpa using hv17, hm, rfl, rfl, (by first | rfl | (refine int_eq ?_; simp; try omega) | (refine int_eq ?_; omega)), (by first | rfl | (refine int_eq ?_; simp; try omega) | (refine int_eq ?_; omega))⟩
      · rintro kk19 τ wl18 ⟨j, v2, r2, hk20, hj, hv2, hm, hs21, hs22, hs23, hs24⟩
        refine wp_sr (E := noPanic) noPanic_imp ?_
        refine rl_val rfl (v := (.bool (decide (((j : Int) : Int) < (vs.length : Int))))) (val_lt (p := (j : Int)) (q := (vs.length : Int)) hs24 hs23) ?_
        refine rl_nil ?_
        refine WP.seq (WP.cond (b := decide (((j : Int) : Int) < (vs.length : Int))) rfl (fun hb => ?_) (fun hb => ?_))
        ·
          have hq25 := of_decide_eq_true hb
          have hin : j < vs.length := by omega
          obtain ⟨b, off, xs, rfl, hbn, hr, hcs, hle, hnc⟩ := hs.pos (by omega)
          obtain ⟨l, hli⟩ : ∃ l, ls[j]? = some l := ⟨ls[j]'(by omega), by simp⟩
          obtain ⟨v, hvi⟩ : ∃ v, vs[j]? = some v := ⟨vs[j], by simp⟩
          have hsv := hv j v l hvi hli
          obtain ⟨a1, c1, rfl, hn1⟩ := hsv.form
          have hsum : (ls.take (j + 1)).flatten = (ls.take j).flatten ++ l := by rw [List.take_add_one, hli]; simp
          have hsb := flat_take_le ls (j + 1)
          rw [hsum] at hsb
          simp only [List.length_append] at hsb
          refine WP.skip ?_
          refine WP.seq (WP.block ?_)
          refine wp_sr (E := noPanic) noPanic_imp ?_
          refine rl_val rfl (v := (.pointer (some ⟨b, off + j, none⟩))) (val_cast (val_indexSl (i := (j : Int)) (sz := 1) hs22 hs24 es_22 (by omega)) (ptr_eq (by omega))) ?_
          refine rl_val rfl (v := (.slice a1 l.length c1)) (val_load1 (v := .slice a1 l.length c1) (off := off + j) rfl ag_38 (hm.getL hr (by simp)) (by rw [take_at hcs (by omega)]; exact hvi)) ?_
          refine rl_val rfl (v := (.slice a1 l.length c1)) (val_assign (v := (.slice a1 l.length c1)) rfl) ?_
          refine rl_nil ?_
          refine wp_r (E := noPanic) noPanic_imp ?_
          refine rl_val rfl (v := v2) (val_move (v := v2) hs21) ?_
          refine rl_val rfl (v := (.slice a1 l.length c1)) (val_move (v := (.slice a1 l.length c1)) rfl) ?_
          refine rl_appendS (l1 := ([] ++ [])) (l2 := []) (r := r2) (v := v2) (xs := ((ls.take j).flatten.map v8)) (news := (l.map v8)) rfl ez_38 rfl (by decide) (by decide) rfl rfl hv2 (by simpa only [List.append_assoc, List.nil_append, List.append_nil, List.cons_append] using hm) (hsv.mem (own2 := []) hm (by simp)) (one_map8 _) (by omega) ?_
          intro v26 r27 w29 hv28 hm
          replace hm : Mem w [] ([] ++ (r27 ++ [])) w29 := by simpa only [List.append_assoc, List.nil_append, List.append_nil, List.cons_append] using hm
          refine rl_val rfl (v := v26) (val_assign (v := v26) rfl) ?_
          refine rl_nil ?_
          refine wp_r (E := noPanic) noPanic_imp ?_
          refine rl_val rfl (v := (vI ((j : Int) + 1))) (val_addI (p := (j : Int)) (q := 1) hs24 rfl (by omega)) ?_
          refine rl_val rfl (v := (vI ((j : Int) + 1))) (val_move (v := (vI ((j : Int) + 1))) rfl) ?_
          refine rl_nil ?_
          exact ⟨vs.length - (j + 1), by omega, ⟨j + 1, v26, r27, rfl, by omega, by rw [hsum]; simpa only [List.length_append, List.map_append] using hv28, hm, rfl, hs22, hs23, (by first | rfl | (refine int_eq ?_; simp; try omega) | (refine int_eq ?_; omega))⟩⟩
        ·
          have hq30 := of_decide_eq_false hb
          obtain rfl : j = vs.length := by omega
          refine WP.exit ?_
          repeat (first | with_reducible refine exit_pass ?_ | with_reducible refine exit_other rfl ?_)
          refine blk_here ?_
          refine wp_sr (E := noPanic) noPanic_imp ?_
          refine rl_val rfl (v := v2) (val_move (v := v2) hs21) ?_
          refine rl_val rfl (v := v2) (val_assign (v := v2) rfl) ?_
          refine rl_nil ?_
          exact WP.ret (post_rets rfl (vs := [v2]) ⟨rfl, trivial⟩ rfl ⟨_, _, rfl, by rw [hall] at hv2; exact hv2, by simpa using hm⟩)
end Go.Al
namespace Go.Al
open Go Go.RowKit Go.Proofs
set_option linter.unusedVariables false
set_option linter.unusedSimpArgs false
theorem val_build_run {τ : Fr} {w : World} {ty : TypeId} {x : Operand} (hx : ev τ x = .agg (c8 sha0).toArray) : Val Tryz.prog (ev τ) w (.build 305 #[(0, .const (.bool true)), (1, x)]) ty (.agg (runC st0).toArray) := by
  refine val_build (ps := [(0, .bool true), (1, .agg (c8 sha0).toArray)]) pl_305 zo_305 (plc_cons rfl (plc_cons hx plc_nil)) (bok_cons rfl rfl (by simp) (bok_cons rfl (by simp [Value.cells]) (by simp) bok_nil)) ?_
  kernel_rfl
theorem new_ok (w : World) : Calls Tryz.prog 197 [].toArray w (fun e w' => ∃ b, e = .returned (.pointer (some ⟨b, 0, none⟩)) ∧ Mem w [] [(b, row (runC st0) 305)] w') := by
  have hm := Mem.init w
  refine calls_enter (n := 4) Tryz.func197 rfl rfl rfl ?_
  refine wp_sr (E := noPanic) noPanic_imp ?_
  refine rl_val rfl (v := (.pointer none)) (val_assign (v := (.pointer none)) rfl) ?_
  refine rl_nil ?_
  refine wp_sr (E := noPanic) noPanic_imp ?_
  refine rl_call rfl (ent_static (args := []) Tryz.func266 rfl rfl rfl rfl) (begin_ok _) ?_
  rintro _ w1 ⟨rfl, h2⟩
  refine callQ_ret ?_
  replace hm : Mem w [] [] w1 := hm.call h2
  refine rl_val rfl (v := (.agg (runC st0).toArray)) (val_build_run rfl) ?_
  refine rl_box (v := (.agg (runC st0).toArray)) (xs := runC st0) rfl rfl rfl hm ?_
  intro b3 w4 hm
  refine rl_val rfl (v := (.pointer (some ⟨b3, 0, none⟩))) (val_assign (v := (.pointer (some ⟨b3, 0, none⟩))) rfl) ?_
  refine rl_nil ?_
  exact WP.ret (post_rets rfl (vs := [.pointer (some ⟨b3, 0, none⟩)]) ⟨rfl, trivial⟩ rfl ⟨_, rfl, hm⟩)
theorem ended_ok (st : St) (w : World) (hb : st.m < 1152921504606846976) : Calls Tryz.prog 199 [.agg (runC st).toArray].toArray w (Ret w (.agg ((sumRun st).map v8).toArray)) := by
  have hm := Mem.init w
  refine calls_enter (n := 48) Tryz.func199 rfl rfl rfl ?_
  refine wp_sr (E := noPanic) noPanic_imp ?_
  refine rl_box (v := (.agg (runC st).toArray)) (xs := runC st) rfl rfl rfl hm ?_
  intro b1 w2 hm
  refine rl_alloc (xs := List.replicate 32 (v8 0)) rfl zo_50 hm ?_
  intro b3 w4 hm
  refine rl_nil ?_
  refine wp_sr (E := noPanic) noPanic_imp ?_
  refine rl_val rfl (v := (.pointer (some ⟨b1, 73, none⟩))) (val_fieldAddr (d := 73) rfl fo_305_3) ?_
  refine rl_val rfl (v := (vU ((st.m : Nat) : Int))) (val_load1 (v := (vU ((st.m : Nat) : Int))) (off := 73) rfl ag_44 (hm.row (i := 1) rfl).l (runC_m _)) ?_
  refine rl_val rfl (v := (vU (((st.m : Nat) : Int) * 8))) (val_mulU (p := ((st.m : Nat) : Int)) (q := 8) rfl rfl (by omega)) ?_
  refine rl_val rfl (v := (vU (((st.m : Nat) : Int) * 8))) (val_assign (v := (vU (((st.m : Nat) : Int) * 8))) rfl) ?_
  refine rl_nil ?_
  refine wp_sr (E := noPanic) noPanic_imp ?_
  refine rl_buildSlice (vs := [(v8 128)]) (cs := [(v8 128)]) rfl ez_38 rfl (parts_cons rfl (parts_nil)) rfl (by decide) (ones_size (ones_cons rfl (ones_nil))) (ones_flat (ones_cons rfl (ones_nil))) hm ?_
  intro b5 w6 hm
  have p9 := puts_okN st ([128]) 1 (some ⟨b5, 0, none⟩) 1 b1 w6 (by simp) (hm.row (i := 2) rfl) (slAllB (l := ([128])) (by simpa using (hm.ne (i := 0) (j := 2) rfl rfl (by decide))) (hm.row (i := 0) rfl).l rfl) (by simp; omega)
  refine rl_call rfl (ent_static (args := [(.pointer (some ⟨b1, 0, none⟩)), (.slice (some ⟨b5, 0, none⟩) 1 1)]) Tryz.func198 rfl rfl rfl rfl) (p9) ?_
  rintro _ w7 ⟨rfl, h8⟩
  refine callQ_ret ?_
  replace hm : Mem w [] [(b1, row (runC (putL st ([128]))) 305), (b5, row ([(v8 128)]) 5), (b3, row (List.replicate 32 (v8 0)) 50)] w7 := hm.callOwn (i := 2) rfl h8
  refine rl_nil ?_
  refine wp_sr (E := noPanic) noPanic_imp ?_
  refine rl_val rfl (v := (.pointer (some ⟨b1, 73, none⟩))) (val_fieldAddr (d := 73) rfl fo_305_3) ?_
  refine rl_val rfl (v := (vU ((st.m + 1 : Nat) : Int))) (val_load1 (v := vU ((st.m + 1 : Nat) : Int)) (off := 73) rfl ag_44 (hm.row (i := 0) rfl).l (by rw [runC_m, putL_m]; rfl)) ?_
  refine rl_val rfl (v := (vU (((st.m + 1 : Nat) : Int) % 64))) (val_remU (p := ((st.m + 1 : Nat) : Int)) (q := 64) rfl rfl (by omega)) ?_
  refine rl_val rfl (v := (vU (((st.m + 1 : Nat) : Int) % 64))) (val_assign (v := (vU (((st.m + 1 : Nat) : Int) % 64))) rfl) ?_
  refine rl_nil ?_
  refine wp_sr (E := noPanic) noPanic_imp ?_
  have hm1 : (putL st [128]).m = st.m + 1 := by rw [putL_m]; rfl
  refine rl_val rfl (v := (vU (((st.m + 1 : Nat) : Int) % 64))) (val_move (v := (vU (((st.m + 1 : Nat) : Int) % 64))) rfl) ?_
  refine rl_val rfl (v := (vU ((120 - (st.m + 1) % 64 : Nat) : Int))) (val_cast (val_subU (p := 120) (q := ((st.m + 1 : Nat) : Int) % 64) rfl rfl (by omega)) (int_eq (by omega))) ?_
  refine rl_val rfl (v := (vU (((120 - (st.m + 1) % 64) % 64 : Nat) : Int))) (val_cast (val_remU (p := ((120 - (st.m + 1) % 64 : Nat) : Int)) (q := 64) rfl rfl (by omega)) (by simp)) ?_
  refine rl_makeSlice (k := ((120 - (st.m + 1) % 64) % 64)) rfl ez_38 rfl rfl (by omega) (by decide) hm ?_
  intro b10 w11 hm
  have p14 := puts_okN (putL st [128]) (pads st.m) ((120 - (st.m + 1) % 64) % 64) (some ⟨b10, 0, none⟩) ((120 - (st.m + 1) % 64) % 64) b1 w11 (by simp) (hm.row (i := 1) rfl) (slAllB (l := pads st.m) (by simpa using (hm.ne (i := 0) (j := 1) rfl rfl (by decide))) (by have h := (hm.row (i := 0) rfl).l; rw [map_rep8] at h; exact h) (by simp)) (by rw [hm1]; simp; omega)
  refine rl_call rfl (ent_static (args := [(.pointer (some ⟨b1, 0, none⟩)), (.slice (some ⟨b10, 0, none⟩) ((120 - (st.m + 1) % 64) % 64) ((120 - (st.m + 1) % 64) % 64))]) Tryz.func198 rfl rfl rfl rfl) (p14) ?_
  rintro _ w12 ⟨rfl, h13⟩
  refine callQ_ret ?_
  replace hm : Mem w [] [(b1, row (runC (putL (putL st [128]) (pads st.m))) 305), (b10, row (List.replicate ((120 - (st.m + 1) % 64) % 64) (v8 0)) 5), (b5, row ([(v8 128)]) 5), (b3, row (List.replicate 32 (v8 0)) 50)] w12 := hm.callOwn (i := 1) rfl h13
  refine rl_nil ?_
  refine WP.seq ?_
  refine wp_sr (E := noPanic) noPanic_imp ?_
  refine rl_val rfl (v := (vI 56)) (val_assign (v := (vI 56)) rfl) ?_
  refine rl_nil ?_
  refine WP.block ?_
  refine WP.loop (fun k τ w' => ∃ (j : Nat), 8 - j = k ∧ j ≤ 8 ∧ Mem w [] [(b1, row (runC (putL (putL (putL st [128]) (pads st.m)) (lens st.m j))) 305), (b3, row (List.replicate 32 (v8 0)) 50)] w' ∧ τ 1 = (.pointer (some ⟨b1, 0, none⟩)) ∧ τ 2 = (.pointer (some ⟨b3, 0, none⟩)) ∧ τ 3 = (vU (((st.m : Nat) : Int) * 8)) ∧ τ 5 = (vI (56 - 8 * (j : Int)))) (8) ?_ ?_
  · exact ⟨0, rfl, by omega, (by simpa [lens] using hm.sub (l2 := [(b1, row (runC (putL (putL st [128]) (pads st.m))) 305), (b3, row (List.replicate 32 (v8 0)) 50)]) (by simp)), rfl, rfl, rfl, (by first | rfl | (refine int_eq ?_; simp; try omega) | (refine int_eq ?_; omega))⟩
  · rintro kk16 τ wl15 ⟨j, hk17, hj, hm, hs18, hs19, hs20, hs21⟩
    refine WP.seq ?_
    refine wp_sr (E := noPanic) noPanic_imp ?_
    refine rl_val rfl (v := (vI (56 - 8 * (j : Int)))) (val_move (v := (vI (56 - 8 * (j : Int)))) hs21) ?_
    refine rl_val rfl (v := (.bool (decide ((0 : Int) ≤ 56 - 8 * (j : Int))))) (val_ge (p := 56 - 8 * (j : Int)) (q := 0) rfl rfl) ?_
    refine rl_nil ?_
    refine WP.cond (b := decide ((0 : Int) ≤ 56 - 8 * (j : Int))) rfl (fun hb => ?_) (fun hb => ?_)
    ·
      have hq22 := of_decide_eq_true hb
      have hj8 : j < 8 := by omega
      refine WP.skip ?_
      refine WP.seq (WP.block ?_)
      refine wp_r (E := noPanic) noPanic_imp ?_
      refine rl_val rfl (v := (vU (((st.m : Nat) : Int) * 8))) (val_move (v := (vU (((st.m : Nat) : Int) * 8))) hs20) ?_
      refine rl_val rfl (v := (vI (56 - 8 * (j : Int)))) (val_move (v := (vI (56 - 8 * (j : Int)))) hs21) ?_
      refine rl_val rfl (v := (vU ((8 * st.m / 2 ^ (56 - 8 * j) : Nat) : Int))) (val_cast (val_shr (p := ((8 * st.m : Nat) : Int)) (q := ((56 - 8 * j : Nat) : Int)) (by first | exact rfl | (refine Eq.trans rfl (int_eq ?_); omega)) (by first | exact rfl | (refine Eq.trans rfl (int_eq ?_); omega)) (by omega)) (by rw [shr_nat _ _ (by omega)])) ?_
      refine rl_val rfl (v := (v8 (lenB st.m j))) (val_cast (val_conv ut_44 ui_5 rfl) (by rw [u8_nat]; rfl)) ?_
      refine rl_buildSlice (vs := [(v8 (lenB st.m j))]) (cs := [(v8 (lenB st.m j))]) rfl ez_38 rfl (parts_cons rfl (parts_nil)) rfl (by decide) (ones_size (ones_cons rfl (ones_nil))) (ones_flat (ones_cons rfl (ones_nil))) hm ?_
      intro b23 w24 hm
      have p27 := puts_okN (putL (putL (putL st [128]) (pads st.m)) (lens st.m j)) ([lenB st.m j]) 1 (some ⟨b23, 0, none⟩) 1 b1 w24 (by simp) (hm.row (i := 1) rfl) (slAllB (l := ([lenB st.m j])) (by simpa using (hm.ne (i := 0) (j := 1) rfl rfl (by decide))) (hm.row (i := 0) rfl).l rfl) (by simp [putL_m]; omega)
      refine rl_call rfl (ent_static (args := [(.pointer (some ⟨b1, 0, none⟩)), (.slice (some ⟨b23, 0, none⟩) 1 1)]) Tryz.func198 rfl rfl rfl (args_cons hs18 (args_cons rfl (args_nil)))) (p27) ?_
      rintro _ w25 ⟨rfl, h26⟩
      refine callQ_ret ?_
      replace hm : Mem w [] [(b1, row (runC (putL (putL (putL (putL st [128]) (pads st.m)) (lens st.m j)) ([lenB st.m j]))) 305), (b23, row ([(v8 (lenB st.m j))]) 5), (b3, row (List.replicate 32 (v8 0)) 50)] w25 := hm.callOwn (i := 1) rfl h26
      refine rl_nil ?_
      refine wp_r (E := noPanic) noPanic_imp ?_
      refine rl_val rfl (v := (vI (56 - 8 * (j : Int)))) (val_move (v := (vI (56 - 8 * (j : Int)))) hs21) ?_
      refine rl_val rfl (v := (vI ((56 - 8 * (j : Int)) - 8))) (val_subI (p := 56 - 8 * (j : Int)) (q := 8) rfl rfl (by omega)) ?_
      refine rl_val rfl (v := (vI ((56 - 8 * (j : Int)) - 8))) (val_assign (v := (vI ((56 - 8 * (j : Int)) - 8))) rfl) ?_
      refine rl_nil ?_
      exact ⟨8 - (j + 1), by omega, ⟨j + 1, rfl, by omega, (by rw [lens_succ, putL_app]; exact hm.sub (by simp)), hs18, hs19, hs20, (by first | rfl | (refine int_eq ?_; simp; try omega) | (refine int_eq ?_; omega))⟩⟩
    ·
      have hq28 := of_decide_eq_false hb
      have hj8 : j = 8 := by omega
      subst hj8
      refine WP.exit ?_
      repeat (first | with_reducible refine exit_pass ?_ | with_reducible refine exit_other rfl ?_)
      refine blk_here ?_
      refine WP.seq ?_
      refine wp_sr (E := noPanic) noPanic_imp ?_
      refine rl_val rfl (v := (vI 0)) (val_move (v := (vI 0)) rfl) ?_
      refine rl_nil ?_
      refine WP.block ?_
      refine WP.loop (fun k τ w' => ∃ (i : Nat), 32 - i = k ∧ i ≤ 32 ∧ Mem w [] [(b1, row (runC (putL (putL (putL st [128]) (pads st.m)) (lens st.m 8))) 305), (b3, row (outRow (putL (putL (putL st [128]) (pads st.m)) (lens st.m 8)).s i) 50)] w' ∧ τ 1 = (.pointer (some ⟨b1, 0, none⟩)) ∧ τ 2 = (.pointer (some ⟨b3, 0, none⟩)) ∧ τ 30 = (vI (i : Int))) (32) ?_ ?_
      · exact ⟨0, rfl, by omega, (by rw [← outRow0]; exact hm), hs18, hs19, (by first | rfl | (refine int_eq ?_; simp; try omega) | (refine int_eq ?_; omega))⟩
      · rintro kk30 τ wl29 ⟨i, hk31, hi, hm, hs32, hs33, hs34⟩
        refine wp_sr (E := noPanic) noPanic_imp ?_
        refine rl_val rfl (v := (.bool (decide (((i : Int) : Int) < 32)))) (val_lt (p := (i : Int)) (q := 32) hs34 rfl) ?_
        refine rl_nil ?_
        refine WP.seq (WP.cond (b := decide (((i : Int) : Int) < 32)) rfl (fun hb => ?_) (fun hb => ?_))
        ·
          have hq35 := of_decide_eq_true hb
          have hi32 : i < 32 := by omega
          refine WP.skip ?_
          refine WP.seq (WP.block ?_)
          refine wp_sr (E := noPanic) noPanic_imp ?_
          refine rl_val rfl (v := (vI (i : Int))) (val_move (v := (vI (i : Int))) hs34) ?_
          refine rl_val rfl (v := (vI (i : Int))) (val_assign (v := (vI (i : Int))) rfl) ?_
          refine rl_nil ?_
          refine wp_r (E := noPanic) noPanic_imp ?_
          refine rl_val rfl (v := (vI (i : Int))) (val_move (v := (vI (i : Int))) rfl) ?_
          refine rl_val rfl (v := (vI (i : Int))) (val_move (v := (vI (i : Int))) rfl) ?_
          refine rl_val rfl (v := (vI ((i : Int) / 4))) (val_quoI (p := (i : Int)) (q := 4) rfl rfl (by omega)) ?_
          refine rl_val rfl (v := (.pointer (some ⟨b1, 1, none⟩))) (val_fieldAddr (d := 1) hs32 fo_305_1) ?_
          refine rl_val rfl (v := (.pointer (some ⟨b1, 1 + (i / 4), none⟩))) (val_cast (val_indexAr (i := (i : Int) / 4) (n := 8) (sz := 1) rfl rfl ea_301 (by omega)) (ptr_eq (by omega))) ?_
          refine rl_val rfl (v := (v32 (((putL (putL (putL st [128]) (pads st.m)) (lens st.m 8)).s).get (i / 4)))) (val_load1 (v := (v32 (((putL (putL (putL st [128]) (pads st.m)) (lens st.m 8)).s).get (i / 4)))) (off := 1 + (i / 4)) rfl ag_219 (hm.row (i := 0) rfl).l (runC_at _ (by omega))) ?_
          refine rl_val rfl (v := (vI (i : Int))) (val_move (v := (vI (i : Int))) rfl) ?_
          refine rl_val rfl (v := (vI ((i : Int) % 4))) (val_remI (p := (i : Int)) (q := 4) rfl rfl (by omega)) ?_
          refine rl_val rfl (v := (vI (3 - ((i : Int) % 4)))) (val_subI (p := 3) (q := (i : Int) % 4) rfl rfl (by omega)) ?_
          refine rl_val rfl (v := (vI (8 * (3 - ((i : Int) % 4))))) (val_mulI (p := 8) (q := 3 - ((i : Int) % 4)) rfl rfl (by omega)) ?_
          refine rl_val rfl (v := (v32 (((putL (putL (putL st [128]) (pads st.m)) (lens st.m 8)).s.get (i / 4)) >>> (UInt32.ofNat (8 * (3 - i % 4)))))) (val_shr32 (a := (putL (putL (putL st [128]) (pads st.m)) (lens st.m 8)).s.get (i / 4)) (UInt32.ofNat (8 * (3 - i % 4))) (by first | exact rfl | (refine Eq.trans rfl ?_; congr 1; omega)) rfl (by rw [UInt32.toNat_ofNat_of_lt' (by show _ < 4294967296; omega)]; omega) (by rw [UInt32.lt_iff_toNat_lt, UInt32.toNat_ofNat_of_lt' (by show _ < 4294967296; omega)]; show _ < 32; omega)) ?_
          refine rl_val rfl (v := (v8 (outB (putL (putL (putL st [128]) (pads st.m)) (lens st.m 8)).s i))) (val_cast (val_conv ut_219 ui_5 rfl) (by rw [u8_of32]; rfl)) ?_
          refine rl_val rfl (v := (.pointer (some ⟨b3, i, none⟩))) (val_cast (val_indexAr (i := (i : Int)) (n := 32) (sz := 1) hs33 rfl ea_50 (by omega)) (ptr_eq (by omega))) ?_
          refine rl_store (i := 1) (off := i) (xs := (outRow (putL (putL (putL st [128]) (pads st.m)) (lens st.m 8)).s i)) (vs := [(v8 (outB (putL (putL (putL st [128]) (pads st.m)) (lens st.m 8)).s i))]) rfl rfl rfl ag_5 hm rfl rfl rfl (by simp; try omega) (by simp [Value.one]) ?_
          intro w36 hm
          rw [outRow_put _ hi32] at hm
          replace hm : Mem w [] [(b1, row (runC (putL (putL (putL st [128]) (pads st.m)) (lens st.m 8))) 305), (b3, row (outRow (putL (putL (putL st [128]) (pads st.m)) (lens st.m 8)).s (i + 1)) 50)] w36 := hm
          refine rl_nil ?_
          refine wp_r (E := noPanic) noPanic_imp ?_
          refine rl_val rfl (v := (vI ((i : Int) + 1))) (val_addI (p := (i : Int)) (q := 1) hs34 rfl (by omega)) ?_
          refine rl_val rfl (v := (vI ((i : Int) + 1))) (val_move (v := (vI ((i : Int) + 1))) rfl) ?_
          refine rl_nil ?_
          exact ⟨32 - (i + 1), by omega, ⟨i + 1, rfl, by omega, hm, hs32, hs33, (by first | rfl | (refine int_eq ?_; simp; try omega) | (refine int_eq ?_; omega))⟩⟩
        ·
          have hq37 := of_decide_eq_false hb
          have hi32 : i = 32 := by omega
          refine WP.exit ?_
          repeat (first | with_reducible refine exit_pass ?_ | with_reducible refine exit_other rfl ?_)
          refine blk_here ?_
          refine wp_sr (E := noPanic) noPanic_imp ?_
          refine rl_val rfl (v := (.agg (outRow (putL (putL (putL st [128]) (pads st.m)) (lens st.m 8)).s i).toArray)) (val_loadAll hs33 ag_50 (hm.row (i := 1) rfl).l (by simp) (by decide)) ?_
          refine rl_store (i := 1) (off := 0) (xs := (outRow (putL (putL (putL st [128]) (pads st.m)) (lens st.m 8)).s i)) (vs := outRow (putL (putL (putL st [128]) (pads st.m)) (lens st.m 8)).s i) rfl hs33 rfl ag_50 hm rfl rfl (by simp) (by simp; try omega) (outRow_one _ _) ?_
          intro w38 hm
          rw [spl_all (n := 32) (by simp) (by simp)] at hm
          replace hm : Mem w [] [(b1, row (runC (putL (putL (putL st [128]) (pads st.m)) (lens st.m 8))) 305), (b3, row (outRow (putL (putL (putL st [128]) (pads st.m)) (lens st.m 8)).s i) 50)] w38 := hm
          refine rl_nil ?_
          have hfin : outRow (putL (putL (putL st [128]) (pads st.m)) (lens st.m 8)).s 32 = (sumRun st).map v8 := by rw [outRow32]; unfold sumRun endL; rw [putL_app, putL_app]
          subst hi32
          exact WP.ret (post_rets rfl (vs := [.agg ((sumRun st).map v8).toArray]) ⟨⟨true, 32, _, 0, _, hs33, ag_50, (hm.row (i := 1) rfl).l, by simp, by decide, by rw [← hfin]; simp [rd, List.take_of_length_le]⟩, trivial⟩ rfl ⟨rfl, hm.nil⟩)
theorem ended_sha (l : List UInt8) (w : World) (hb : (putL st0 l).m < 1152921504606846976) : Calls Tryz.prog 199 [.agg (runC (putL st0 l)).toArray].toArray w (Ret w (.agg ((sha l).map v8).toArray)) := by
  rw [sha_def]; exact ended_ok _ _ hb
theorem of_ok (l : List UInt8) (a0 : Option Addr) (c0 : Nat) (w : World) (hs : SlIs w [] (.slice a0 l.length c0) 1 l.length (l.map v8)) (hb : l.length < 1099511627776) : Calls Tryz.prog 87 [.slice a0 l.length c0].toArray w (Ret w (.agg ((sha l).map v8).toArray)) := by
  have hm := Mem.init w
  refine calls_enter (n := 12) Tryz.func87 rfl rfl rfl ?_
  refine wp_sr (E := noPanic) noPanic_imp ?_
  refine rl_alloc (xs := List.replicate 32 (v8 0)) rfl zo_50 hm ?_
  intro b1 w2 hm
  refine rl_nil ?_
  refine wp_sr (E := noPanic) noPanic_imp ?_
  refine rl_call rfl (ent_static (args := []) Tryz.func197 rfl rfl rfl rfl) (new_ok _) ?_
  rintro _ w3 ⟨b5, rfl, h4⟩
  refine callQ_ret ?_
  replace hm : Mem w [] [(b5, row (runC st0) 305), (b1, row (List.replicate 32 (v8 0)) 50)] w3 := hm.call h4
  refine rl_val rfl (v := (.pointer (some ⟨b5, 0, none⟩))) (val_assign (v := (.pointer (some ⟨b5, 0, none⟩))) rfl) ?_
  refine rl_nil ?_
  refine wp_sr (E := noPanic) noPanic_imp ?_
  refine rl_val rfl (v := (.pointer (some ⟨b5, 0, none⟩))) (val_move (v := (.pointer (some ⟨b5, 0, none⟩))) rfl) ?_
  refine rl_val rfl (v := (.slice a0 l.length c0)) (val_move (v := (.slice a0 l.length c0)) rfl) ?_
  have p8 := puts_okN st0 l l.length a0 c0 b5 w3 (by simp) (hm.row (i := 0) rfl) (hs.mem hm (by intro c _ hc; have := hm.fresh (i := 0) rfl; simp only [List.mem_singleton]; omega)) (by simp [st0]; omega)
  refine rl_call rfl (ent_static (args := [(.pointer (some ⟨b5, 0, none⟩)), (.slice a0 l.length c0)]) Tryz.func198 rfl rfl rfl rfl) (p8) ?_
  rintro _ w6 ⟨rfl, h7⟩
  refine callQ_ret ?_
  replace hm : Mem w [] [(b5, row (runC (putL st0 l)) 305), (b1, row (List.replicate 32 (v8 0)) 50)] w6 := hm.callOwn (i := 0) rfl h7
  refine rl_nil ?_
  refine wp_sr (E := noPanic) noPanic_imp ?_
  refine rl_val rfl (v := (.pointer (some ⟨b5, 0, none⟩))) (val_move (v := (.pointer (some ⟨b5, 0, none⟩))) rfl) ?_
  refine rl_val rfl (v := (.pointer (some ⟨b5, 0, none⟩))) (val_nilCheck rfl) ?_
  refine rl_val rfl (v := (.agg (runC (putL st0 l)).toArray)) (val_loadAll rfl ag_305 (hm.row (i := 0) rfl).l (by simp) (by decide)) ?_
  refine rl_call rfl (ent_static (args := [(.agg (runC (putL st0 l)).toArray)]) Tryz.func199 rfl rfl rfl rfl) (ended_sha l _ (by rw [putL_m]; simp [st0]; omega)) ?_
  rintro _ w9 ⟨rfl, h10⟩
  refine callQ_ret ?_
  replace hm : Mem w [] [(b5, row (runC (putL st0 l)) 305), (b1, row (List.replicate 32 (v8 0)) 50)] w9 := hm.call h10
  refine rl_store (i := 1) (off := 0) (xs := (List.replicate 32 (v8 0))) (vs := (sha l).map v8) rfl rfl rfl ag_50 hm rfl rfl (by simp) (by simp) (one_map8 _) ?_
  intro w11 hm
  rw [spl_all (n := 32) (by simp) (by simp)] at hm
  replace hm : Mem w [] [(b5, row (runC (putL st0 l)) 305), (b1, row ((sha l).map v8) 50)] w11 := hm
  refine rl_nil ?_
  exact WP.ret (post_rets rfl (vs := [.agg ((sha l).map v8).toArray]) ⟨⟨true, 32, _, 0, _, rfl, ag_50, (hm.row (i := 1) rfl).l, by simp, by decide, by simp [rd, List.take_of_length_le]⟩, trivial⟩ rfl ⟨rfl, hm.nil⟩)
end Go.Al
namespace Go.Al
open Go Go.RowKit Go.Proofs
set_option linter.unusedVariables false
set_option linter.unusedSimpArgs false
theorem slAllN {w : World} {own : List Nat} {b n : Nat} {l : List UInt8} (hb : b ∉ own) (hr : RowL w b (l.map v8)) (hl : l.length = n) : SlIs w own (.slice (some ⟨b, 0, none⟩) n n) 1 l.length (l.map v8) := by
  subst hl; exact SlIs.all hb hr (by simp)
abbrev SlsOk (w : World) (vs : List Value) (ls : List (List UInt8)) : Prop := ∀ (i : Nat) (v : Value) (l : List UInt8), vs[i]? = some v → ls[i]? = some l → SlIs w [] v 1 l.length (l.map v8)
theorem sls_nil {w : World} : SlsOk w [] [] := by intro i v l h; simp at h
theorem sls_cons {w : World} {v : Value} {l : List UInt8} {vs : List Value} {ls : List (List UInt8)} (h : SlIs w [] v 1 l.length (l.map v8)) (h2 : SlsOk w vs ls) : SlsOk w (v :: vs) (l :: ls) := by
  intro i v' l' h3 h4
  cases i with
  | zero => simp at h3 h4; subst h3; subst h4; exact h
  | succ i => exact h2 i v' l' (by simpa using h3) (by simpa using h4)
theorem of_okV (l : List UInt8) (v : Value) (n : Nat) (w : World) {cs : List Value} (hs : SlIs w [] v 1 n cs) (hc : cs = l.map v8) (hb : l.length < 1099511627776) : Calls Tryz.prog 87 [v].toArray w (Ret w (.agg ((sha l).map v8).toArray)) := by
  subst hc
  obtain ⟨a, c, rfl, _⟩ := hs.form
  have hn : n = l.length := by obtain ⟨_, _, _, _, h, _⟩ := hs; simpa using h.symm
  subst hn
  exact of_ok l a c w hs hb
theorem leaf_ok (l : List UInt8) (a : Option Addr) (c : Nat) (w : World) (hs : SlIs w [] (.slice a l.length c) 1 l.length (l.map v8)) (hb : l.length < 1099511627) : Calls Tryz.prog 85 [.slice a l.length c].toArray w (Ret w (.agg ((sha (0 :: l)).map v8).toArray)) := by
  have hm := Mem.init w
  refine calls_enter (n := 8) Tryz.func85 rfl rfl rfl ?_
  refine wp_sr (E := noPanic) noPanic_imp ?_
  refine rl_alloc (xs := List.replicate 32 (v8 0)) rfl zo_50 hm ?_
  intro b1 w2 hm
  refine rl_nil ?_
  refine wp_sr (E := noPanic) noPanic_imp ?_
  refine rl_buildSlice (vs := [(v8 0)]) (cs := [(v8 0)]) rfl ez_38 rfl (parts_cons rfl (parts_nil)) rfl (by decide) (ones_size (ones_cons rfl (ones_nil))) (ones_flat (ones_cons rfl (ones_nil))) hm ?_
  intro b3 w4 hm
  refine rl_val rfl (v := (.slice a l.length c)) (val_move (v := (.slice a l.length c)) rfl) ?_
  refine rl_buildSlice (vs := [(.slice (some ⟨b3, 0, none⟩) 1 1), (.slice a l.length c)]) (cs := [(.slice (some ⟨b3, 0, none⟩) 1 1), (.slice a l.length c)]) rfl ez_22 rfl (parts_cons rfl (parts_cons rfl (parts_nil))) rfl (by decide) (ones_size (ones_cons rfl (ones_cons rfl (ones_nil)))) (ones_flat (ones_cons rfl (ones_cons rfl (ones_nil)))) hm ?_
  intro b5 w6 hm
  refine rl_call rfl (ent_static (args := [(.slice (some ⟨b5, 0, none⟩) 2 2)]) Tryz.func88 rfl rfl rfl rfl) (concat_ok [(.slice (some ⟨b3, 0, none⟩) 1 1), (.slice a l.length c)] [[0], l] (some ⟨b5, 0, none⟩) 2 _ (SlIs.all (by simp) (hm.row (i := 0) rfl).l rfl) rfl (sls_cons (slAllN (l := [0]) (by simp) (hm.row (i := 1) rfl).l rfl) (sls_cons (hs.mem (own2 := []) hm (by simp)) (sls_nil))) (by simp; omega) (by simp)) ?_
  rintro _ w7 ⟨v9, r10, rfl, hv11, h8⟩
  refine callQ_ret ?_
  replace hm := (hm.call h8).comm
  replace hm : Mem w [] ([(b5, row ([(.slice (some ⟨b3, 0, none⟩) 1 1), (.slice a l.length c)]) 38), (b3, row ([(v8 0)]) 5), (b1, row (List.replicate 32 (v8 0)) 50)] ++ (r10 ++ [])) w7 := by simpa only [List.append_assoc, List.nil_append, List.append_nil, List.cons_append] using hm
  refine rl_call rfl (ent_static (args := [v9]) Tryz.func87 rfl rfl rfl rfl) (of_okV (0 :: l) _ _ _ (hv11.sl (own2 := []) hm (by intro p hp; exact ⟨by simp [hp], by simp⟩)) (by simp) (by simp; omega)) ?_
  rintro _ w12 ⟨rfl, h13⟩
  refine callQ_ret ?_
  replace hm : Mem w [] ([(b5, row ([(.slice (some ⟨b3, 0, none⟩) 1 1), (.slice a l.length c)]) 38), (b3, row ([(v8 0)]) 5), (b1, row (List.replicate 32 (v8 0)) 50)] ++ (r10 ++ [])) w12 := hm.call h13
  refine rl_store (i := 2) (off := 0) (xs := (List.replicate 32 (v8 0))) (vs := (sha (0 :: l)).map v8) rfl rfl rfl ag_50 hm rfl rfl (by simp) (by simp) (one_map8 _) ?_
  intro w14 hm
  rw [spl_all (n := 32) (by simp) (by simp)] at hm
  replace hm : Mem w [] ([(b5, row ([(.slice (some ⟨b3, 0, none⟩) 1 1), (.slice a l.length c)]) 38), (b3, row ([(v8 0)]) 5), (b1, row ((sha (0 :: l)).map v8) 50)] ++ (r10 ++ [])) w14 := hm
  refine rl_nil ?_
  exact WP.ret (post_rets rfl (vs := [.agg ((sha (0 :: l)).map v8).toArray]) ⟨⟨true, 32, _, 0, _, rfl, ag_50, (hm.row (i := 2) rfl).l, by simp, by decide, by simp [rd, List.take_of_length_le]⟩, trivial⟩ rfl ⟨rfl, hm.nil⟩)
theorem node_ok (s1 s2 : List UInt8) (h1 : s1.length = 32) (h2 : s2.length = 32) (w : World) : Calls Tryz.prog 203 [.agg (s1.map v8).toArray, .agg (s2.map v8).toArray].toArray w (Ret w (.agg ((sha (1 :: (s1 ++ s2))).map v8).toArray)) := by
  have hm := Mem.init w
  refine calls_enter (n := 11) Tryz.func203 rfl rfl rfl ?_
  refine wp_sr (E := noPanic) noPanic_imp ?_
  refine rl_box (v := (.agg (s1.map v8).toArray)) (xs := s1.map v8) rfl rfl rfl hm ?_
  intro b1 w2 hm
  refine rl_box (v := (.agg (s2.map v8).toArray)) (xs := s2.map v8) rfl rfl rfl hm ?_
  intro b3 w4 hm
  refine rl_alloc (xs := List.replicate 32 (v8 0)) rfl zo_50 hm ?_
  intro b5 w6 hm
  refine rl_nil ?_
  refine wp_sd (E := noPanic) [(1, true), (2, true), (0, false), (3, false), (4, false), (5, false), (6, false)] mixed (by kernel_rfl) (by kernel_rfl) rfl (fun w' => Mem w [] [(b5, row (List.replicate 32 (v8 0)) 50), (b3, row (s2.map v8) 50), (b1, row (s1.map v8) 50)] w') noPanic_imp hm.drew ?_
  have hm := hm.drew
  refine rp_val rfl rfl (v := (.slice (some ⟨b1, 0, none⟩) 32 32)) (fun w' hs => val_cast (val_sliceAr (b := b1) (off := 0) (n := 32) (sz := 1) (l := 0) (h := 32) rfl ua_50 ea_50 rfl rfl (by omega) (by omega)) (by simp [slo])) ?_
  refine rp_val rfl rfl (v := (.slice (some ⟨b3, 0, none⟩) 32 32)) (fun w' hs => val_cast (val_sliceAr (b := b3) (off := 0) (n := 32) (sz := 1) (l := 0) (h := 32) rfl ua_50 ea_50 rfl rfl (by omega) (by omega)) (by simp [slo])) ?_
  refine rp_buildSlice (vs := [(v8 1)]) (cs := [(v8 1)]) rfl rfl ez_38 rfl (parts_cons rfl (parts_nil)) rfl (by decide) (ones_size (ones_cons rfl (ones_nil))) (ones_flat (ones_cons rfl (ones_nil))) hm (fun b w' h => .inr (h.drop 1)) ?_
  intro b7 w8 hm
  refine rp_buildSlice (vs := [(.slice (some ⟨b7, 0, none⟩) 1 1), (.slice (some ⟨b1, 0, none⟩) 32 32), (.slice (some ⟨b3, 0, none⟩) 32 32)]) (cs := [(.slice (some ⟨b7, 0, none⟩) 1 1), (.slice (some ⟨b1, 0, none⟩) 32 32), (.slice (some ⟨b3, 0, none⟩) 32 32)]) rfl rfl ez_22 rfl (parts_cons rfl (parts_cons rfl (parts_cons rfl (parts_nil)))) rfl (by decide) (ones_size (ones_cons rfl (ones_cons rfl (ones_cons rfl (ones_nil))))) (ones_flat (ones_cons rfl (ones_cons rfl (ones_cons rfl (ones_nil))))) hm (fun b w' h => .inl (by kernel_rfl)) ?_
  intro b9 w10 hm
  refine rp_call rfl rfl (ent_static (args := [(.slice (some ⟨b9, 0, none⟩) 3 3)]) Tryz.func88 rfl rfl rfl rfl) (concat_ok [(.slice (some ⟨b7, 0, none⟩) 1 1), (.slice (some ⟨b1, 0, none⟩) 32 32), (.slice (some ⟨b3, 0, none⟩) 32 32)] [[1], s1, s2] (some ⟨b9, 0, none⟩) 3 _ (SlIs.all (by simp) (hm.row (i := 0) rfl).l rfl) rfl (sls_cons (slAllN (l := [1]) (by simp) (hm.row (i := 1) rfl).l rfl) (sls_cons (slAllN (l := s1) (by simp) (hm.row (i := 4) rfl).l h1) (sls_cons (slAllN (l := s2) (by simp) (hm.row (i := 3) rfl).l h2) (sls_nil)))) (by simp; omega) (by simp)) ?_
  rintro _ w11 ⟨v13, r14, rfl, hv15, h12⟩
  refine callQ_ret ?_
  refine ⟨.inl (by kernel_rfl), ?_⟩
  replace hm := (hm.call h12).comm
  replace hm : Mem w [] ([(b9, row ([(.slice (some ⟨b7, 0, none⟩) 1 1), (.slice (some ⟨b1, 0, none⟩) 32 32), (.slice (some ⟨b3, 0, none⟩) 32 32)]) 38), (b7, row ([(v8 1)]) 5), (b5, row (List.replicate 32 (v8 0)) 50), (b3, row (s2.map v8) 50), (b1, row (s1.map v8) 50)] ++ (r14 ++ [])) w11 := by simpa only [List.append_assoc, List.nil_append, List.append_nil, List.cons_append] using hm
  refine rp_call rfl rfl (ent_static (args := [v13]) Tryz.func87 rfl rfl rfl rfl) (of_okV (1 :: (s1 ++ s2)) _ _ _ (hv15.sl (own2 := []) hm (by intro p hp; exact ⟨by simp [hp], by simp⟩)) (by simp) (by simp; omega)) ?_
  rintro _ w16 ⟨rfl, h17⟩
  refine callQ_ret ?_
  refine ⟨.inl (by kernel_rfl), ?_⟩
  replace hm : Mem w [] ([(b9, row ([(.slice (some ⟨b7, 0, none⟩) 1 1), (.slice (some ⟨b1, 0, none⟩) 32 32), (.slice (some ⟨b3, 0, none⟩) 32 32)]) 38), (b7, row ([(v8 1)]) 5), (b5, row (List.replicate 32 (v8 0)) 50), (b3, row (s2.map v8) 50), (b1, row (s1.map v8) 50)] ++ (r14 ++ [])) w16 := hm.call h17
  refine rp_store (i := 2) (off := 0) (xs := (List.replicate 32 (v8 0))) (vs := (sha (1 :: (s1 ++ s2))).map v8) rfl rfl rfl rfl ag_50 hm rfl rfl (by simp) (by simp) (one_map8 _) (by kernel_rfl) ?_
  intro w18 hm
  rw [spl_all (n := 32) (by simp) (by simp)] at hm
  replace hm : Mem w [] ([(b9, row ([(.slice (some ⟨b7, 0, none⟩) 1 1), (.slice (some ⟨b1, 0, none⟩) 32 32), (.slice (some ⟨b3, 0, none⟩) 32 32)]) 38), (b7, row ([(v8 1)]) 5), (b5, row ((sha (1 :: (s1 ++ s2))).map v8) 50), (b3, row (s2.map v8) 50), (b1, row (s1.map v8) 50)] ++ (r14 ++ [])) w18 := hm
  refine rp_nil ?_
  exact WP.ret (post_rets rfl (vs := [.agg ((sha (1 :: (s1 ++ s2))).map v8).toArray]) ⟨⟨true, 32, _, 0, _, rfl, ag_50, (hm.row (i := 2) rfl).l, by simp, by decide, by simp [rd, List.take_of_length_le]⟩, trivial⟩ rfl ⟨rfl, hm.nil⟩)
end Go.Al
namespace Go.Al
open Go Go.RowKit Go.Proofs
set_option linter.unusedVariables false
set_option linter.unusedSimpArgs false
def lenN (x : Nat) : Nat := if x = 0 then 0 else Nat.log2 x + 1
def lenT (x : Nat) : UInt8 := UInt8.ofNat (lenN x)
theorem lenN_le (x : Nat) (hx : x < 256) : lenN x ≤ 8 := by revert x; decide +kernel
theorem lenT_i {x : Nat} (hx : x < 256) : IntKind.i64.wrap ((lenT x).toNat : Int) = (lenN x : Int) := by
  have h := lenN_le x hx
  have : (lenT x).toNat = lenN x := by unfold lenT; rw [UInt8.toNat_ofNat']; omega
  rw [this, wrapI (by omega) (by omega)]
theorem lenT_idx {x : Nat} (hx : x < 256) : ((UInt8.ofNat x).toNat : Int).toNat = x := by rw [Int.toNat_natCast, UInt8.toNat_ofNat']; omega
theorem all256 (s : ByteArray) (h : ∀ y, y < 256 → s[y]? = some (lenT y)) (x : Nat) (hx : x < 256) : s[x]? = some (lenT x) := h x hx
theorem len64_ok (x : Nat) (hx : x < 256) (w : World) : Calls Tryz.prog 269 [vU (x : Int)].toArray w (Ret w (vI (lenN x : Int))) := by
  have hm := Mem.init w
  refine calls_enter (n := 25) Tryz.func269 rfl rfl rfl ?_
  refine wp_sr (E := noPanic) noPanic_imp ?_
  refine rl_val rfl (v := (vI 0)) (val_assign (v := (vI 0)) rfl) ?_
  refine rl_nil ?_
  refine WP.seq ?_
  refine wp_sr (E := noPanic) noPanic_imp ?_
  refine rl_val rfl (v := (vU (x : Int))) (val_move (v := (vU (x : Int))) rfl) ?_
  refine rl_val rfl (v := (.bool (decide ((4294967296 : Int) ≤ (x : Int))))) (val_ge (p := (x : Int)) (q := 4294967296) rfl rfl) ?_
  refine rl_nil ?_
  refine WP.cond (b := decide ((4294967296 : Int) ≤ (x : Int))) rfl (fun hb => ?_) (fun hb => ?_)
  ·
    have hq1 := of_decide_eq_true hb
    omega
  ·
    have hq2 := of_decide_eq_false hb
    refine WP.skip ?_
    refine WP.seq ?_
    refine wp_sr (E := noPanic) noPanic_imp ?_
    refine rl_val rfl (v := (vU (x : Int))) (val_move (v := (vU (x : Int))) rfl) ?_
    refine rl_val rfl (v := (.bool (decide ((65536 : Int) ≤ (x : Int))))) (val_ge (p := (x : Int)) (q := 65536) rfl rfl) ?_
    refine rl_nil ?_
    refine WP.cond (b := decide ((65536 : Int) ≤ (x : Int))) rfl (fun hb => ?_) (fun hb => ?_)
    ·
      have hq3 := of_decide_eq_true hb
      omega
    ·
      have hq4 := of_decide_eq_false hb
      refine WP.skip ?_
      refine WP.seq ?_
      refine wp_sr (E := noPanic) noPanic_imp ?_
      refine rl_val rfl (v := (vU (x : Int))) (val_move (v := (vU (x : Int))) rfl) ?_
      refine rl_val rfl (v := (.bool (decide ((256 : Int) ≤ (x : Int))))) (val_ge (p := (x : Int)) (q := 256) rfl rfl) ?_
      refine rl_nil ?_
      refine WP.cond (b := decide ((256 : Int) ≤ (x : Int))) rfl (fun hb => ?_) (fun hb => ?_)
      ·
        have hq5 := of_decide_eq_true hb
        omega
      ·
        have hq6 := of_decide_eq_false hb
        refine WP.skip ?_
        refine wp_sr (E := noPanic) noPanic_imp ?_
        refine rl_val rfl (v := (vI 0)) (val_move (v := (vI 0)) rfl) ?_
        refine rl_val rfl (v := (vU (x : Int))) (val_move (v := (vU (x : Int))) rfl) ?_
        refine rl_val rfl (v := (v8 (UInt8.ofNat x))) (val_cast (val_conv ut_44 ui_5 rfl) (by rw [u8_nat])) ?_
        refine rl_val rfl (v := (v8 (lenT x))) (val_indexStr (i := ((UInt8.ofNat x).toNat : Int)) (c := lenT x) rfl rfl ust_9 (by omega) (by rw [lenT_idx hx]; exact all256 _ (by decide +kernel) x hx)) ?_
        refine rl_val rfl (v := (vI (lenN x : Int))) (val_cast (val_conv ut_5 ui_3 rfl) (by rw [lenT_i hx])) ?_
        refine rl_val rfl (v := (vI (lenN x : Int))) (val_cast (val_addI (p := 0) (q := (lenN x : Int)) rfl rfl (by have := lenN_le x hx; omega)) (int_eq (by omega))) ?_
        refine rl_val rfl (v := (vI (lenN x : Int))) (val_assign (v := (vI (lenN x : Int))) rfl) ?_
        refine rl_nil ?_
        exact WP.ret (post_rets rfl (vs := [vI (lenN x : Int)]) ⟨rfl, trivial⟩ rfl ⟨rfl, hm⟩)
theorem len_ok (x : Nat) (hx : x < 256) (w : World) : Calls Tryz.prog 206 [vU (x : Int)].toArray w (Ret w (vI (lenN x : Int))) := by
  have hm := Mem.init w
  refine calls_enter (n := 8) Tryz.func206 rfl rfl rfl ?_
  refine wp_sr (E := noPanic) noPanic_imp ?_
  refine rl_val rfl (v := (vI 0)) (val_assign (v := (vI 0)) rfl) ?_
  refine rl_nil ?_
  refine WP.seq (WP.cond_f rfl ?_)
  refine WP.skip ?_
  refine wp_sr (E := noPanic) noPanic_imp ?_
  refine rl_val rfl (v := (vU (x : Int))) (val_move (v := (vU (x : Int))) rfl) ?_
  refine rl_call rfl (ent_static (args := [(vU (x : Int))]) Tryz.func269 rfl rfl rfl rfl) (len64_ok x hx _) ?_
  rintro _ w1 ⟨rfl, h2⟩
  refine callQ_ret ?_
  replace hm : Mem w [] [] w1 := hm.call h2
  refine rl_val rfl (v := (vI (lenN x : Int))) (val_assign (v := (vI (lenN x : Int))) rfl) ?_
  refine rl_nil ?_
  exact WP.ret (post_rets rfl (vs := [vI (lenN x : Int)]) ⟨rfl, trivial⟩ rfl ⟨rfl, hm⟩)
end Go.Al
namespace Go.Al
open Go Go.RowKit Go.Proofs
set_option linter.unusedVariables false
set_option linter.unusedSimpArgs false
/-- The greatest power of two below n. -/
def cut (n : Nat) : Nat := 2 ^ Nat.log2 (n - 1)
theorem cut_lt {n : Nat} (h : 2 ≤ n) : 1 ≤ cut n ∧ cut n < n := by
  unfold cut
  refine ⟨Nat.one_le_two_pow, ?_⟩
  have := Nat.log2_self_le (n := n - 1) (by omega)
  omega
theorem lenN_pred {m : Nat} (h : m ≠ 0) : ((lenN m : Int) - 1) = (Nat.log2 m : Int) := by unfold lenN; rw [if_neg h]; omega
theorem cut_shl {n : Nat} (h : 2 ≤ n) (h2 : n ≤ 256) : Value.int .i64 (IntKind.i64.wrap (1 * 2 ^ min ((Nat.log2 (n - 1) : Int)).toNat IntKind.i64.bits)) = vI (cut n : Int) := by
  have h3 : Nat.log2 (n - 1) < 8 := (Nat.log2_lt (by omega)).2 (by omega)
  have h4 := (cut_lt h).2
  rw [Int.toNat_natCast, show IntKind.i64.bits = 64 from rfl, Nat.min_eq_left (by omega)]
  have h5 : (1 : Int) * 2 ^ Nat.log2 (n - 1) = (cut n : Int) := by unfold cut; simp
  rw [h5, wrapI (by omega) (by omega)]
def sumsC (ss : List (List UInt8)) : List Value := ss.flatMap fun s => s.map v8
abbrev All32 (ss : List (List UInt8)) : Prop := ∀ x ∈ ss, x.length = 32
theorem sumsC_len {ss : List (List UInt8)} (h : All32 ss) : (sumsC ss).length = ss.length * 32 := by
  induction ss with
  | nil => rfl
  | cons x ss ih =>
    unfold sumsC at ih ⊢
    rw [List.flatMap_cons, List.length_append, ih (fun y hy => h y (by simp [hy])), List.length_map, h x (by simp)]; simp; omega
theorem sumsC_app (a b : List (List UInt8)) : sumsC (a ++ b) = sumsC a ++ sumsC b := by simp [sumsC]
theorem sumsC_take {ss : List (List UInt8)} (h : All32 ss) {k : Nat} : sumsC (ss.take k) = (sumsC ss).take (k * 32) := by
  rcases Nat.le_total ss.length k with hk | hk
  · rw [List.take_of_length_le hk, List.take_of_length_le]; rw [sumsC_len h]; exact Nat.mul_le_mul_right _ hk
  · have h1 : (sumsC (ss.take k)).length = k * 32 := by rw [sumsC_len (fun x hx => h x (List.mem_of_mem_take hx))]; simp; omega
    have h2 : sumsC ss = sumsC (ss.take k) ++ sumsC (ss.drop k) := by rw [← sumsC_app, List.take_append_drop]
    rw [h2, ← h1, List.take_left]
theorem sumsC_drop {ss : List (List UInt8)} (h : All32 ss) {k : Nat} : sumsC (ss.drop k) = (sumsC ss).drop (k * 32) := by
  rcases Nat.le_total ss.length k with hk | hk
  · rw [List.drop_of_length_le hk, List.drop_of_length_le]; · rfl
    rw [sumsC_len h]; exact Nat.mul_le_mul_right _ hk
  · have h1 : (sumsC (ss.take k)).length = k * 32 := by rw [sumsC_len (fun x hx => h x (List.mem_of_mem_take hx))]; simp; omega
    have h2 : sumsC ss = sumsC (ss.take k) ++ sumsC (ss.drop k) := by rw [← sumsC_app, List.take_append_drop]
    rw [h2, ← h1, List.drop_left]
theorem sumsC_one {ss : List (List UInt8)} : Ones (sumsC ss) := by
  intro v hv; unfold sumsC at hv; obtain ⟨s, _, h⟩ := List.mem_flatMap.1 hv; exact one_map8 s v h
/-- The root of some leaves. -/
def rootF : Nat → List (List UInt8) → List UInt8
  | 0, _ => []
  | f + 1, l => if l.length ≤ 1 then l.headD [] else sha (1 :: (rootF f (l.take (cut l.length)) ++ rootF f (l.drop (cut l.length))))
theorem rootF_more : ∀ (f g : Nat) (l : List (List UInt8)), l.length ≤ f → l.length ≤ g → 1 ≤ l.length → rootF f l = rootF g l := by
  intro f
  induction f with
  | zero => intro g l h1 _ h3; omega
  | succ f ih =>
    intro g l h1 h2 h3
    cases g with
    | zero => omega
    | succ g =>
      unfold rootF
      by_cases hl : l.length ≤ 1
      · rw [if_pos hl, if_pos hl]
      · have hc := cut_lt (n := l.length) (by omega)
        rw [if_neg hl, if_neg hl, ih g _ (by simp; omega) (by simp; omega) (by simp; omega), ih g _ (by simp; omega) (by simp; omega) (by simp; omega)]
def rootP (l : List (List UInt8)) : List UInt8 := rootF l.length l
def rootE (l : List (List UInt8)) : List UInt8 := if l = [] then sha [] else rootP l
theorem rootP_one (x : List UInt8) : rootP [x] = x := rfl
theorem rootP_two {n : Nat} {l : List (List UInt8)} (hn : l.length = n) (h : 2 ≤ n) : rootP l = sha (1 :: (rootP (l.take (cut n)) ++ rootP (l.drop (cut n)))) := by
  subst hn
  have hc := cut_lt h
  unfold rootP
  obtain ⟨f, hf⟩ : ∃ f, l.length = f + 1 := ⟨l.length - 1, by omega⟩
  conv => lhs; rw [hf]; unfold rootF
  rw [if_neg (by omega), rootF_more f _ _ (by simp; omega) (Nat.le_refl _) (by simp; omega), rootF_more f _ (l.drop (cut l.length)) (by simp; omega) (Nat.le_refl _) (by simp; omega)]
theorem rootP_len (l : List (List UInt8)) (h1 : 1 ≤ l.length) (h : All32 l) : (rootP l).length = 32 := by
  by_cases h2 : 2 ≤ l.length
  · rw [rootP_two rfl h2]; simp
  · obtain ⟨x, rfl⟩ : ∃ x, l = [x] := List.length_eq_one_iff.1 (by omega)
    exact h x (by simp)
theorem rootE_len {l : List (List UInt8)} (h : All32 l) : (rootE l).length = 32 := by
  unfold rootE
  by_cases e : l = []
  · rw [if_pos e]; simp
  · rw [if_neg e]; exact rootP_len l (by have := List.length_pos_iff.2 e; omega) h
theorem SlIs.takeMax {w : World} {own : List Nat} {b off n c sz k : Nat} {cs : List Value} (h : SlIs w own (.slice (some ⟨b, off, none⟩) n c) sz n cs) (hk : k ≤ n) :
    SlIs w own (.slice (some ⟨b, off, none⟩) k k) sz k (cs.take (k * sz)) := by
  obtain ⟨a', c', he, h1, h2, h3⟩ := h
  cases he
  have hkk := Nat.mul_le_mul_right sz hk
  refine ⟨_, _, rfl, by omega, by rw [List.length_take, h2]; omega, fun hn => ?_⟩
  obtain ⟨b', off', xs, h4, h5, h6, h7, h8⟩ := h3 (by omega)
  cases h4
  refine ⟨b, off, xs, rfl, h5, h6, ?_, by omega⟩
  rw [← h7, List.take_take]; congr 1; omega
theorem val_mkfunc {P : Program} {ρ : Operand → Value} {w : World} {ty : TypeId} {f : Fn} {xs ys : List Operand} {fst caps : List Value} {fn : Fn} (hf : fn = f) (h1 : xs.map ρ = fst) (h2 : ys.map ρ = caps) : Val P ρ w (.makeFunc f xs.toArray ys.toArray) ty (.func fn fst.toArray caps.toArray) := by
  subst hf; subst h1; subst h2
  intro o ho hty
  simp only [execOp, ho]
  refine fin_val ?_
  simp [Instr.makeFunc, pure, Sem.run]
theorem root1_ok (N : Nat) : ∀ (ss : List (List UInt8)) (a : Option Addr) (c n bf : Nat) (w : World), n ≤ N → ss.length = n → 1 ≤ n → All32 ss → RowL w bf [(.func (.func 205) #[] #[(.pointer (some ⟨bf, 0, none⟩))])] → SlIs w [] (.slice a n c) 32 n (sumsC ss) → n ≤ 256 →
    Calls Tryz.prog 205 [.slice a n c, .pointer (some ⟨bf, 0, none⟩)].toArray w (Ret w (.agg ((rootP ss).map v8).toArray)) := by
  induction N with
  | zero => intro ss a c n bf w h1 h2 h3; omega
  | succ N ih =>
  intro ss a c n bf w hN hn h1 h32 hbf hs hn256
  replace ih := fun (ss : List (List UInt8)) (a : Option Addr) (c n : Nat) {w : World} h1 h2 h3 h4 h5 h6 h7 => ih ss a c n bf w h2 h1 h3 h4 h5 h6 h7
  have hm := Mem.init w
  refine calls_enter (n := 30) Tryz.func205 rfl rfl rfl ?_
  refine wp_sr (E := noPanic) noPanic_imp ?_
  refine rl_alloc (xs := List.replicate 32 (v8 0)) rfl zo_50 hm ?_
  intro b1 w2 hm
  refine rl_nil ?_
  refine WP.seq ?_
  refine wp_sr (E := noPanic) noPanic_imp ?_
  refine rl_val rfl (v := (.slice a n c)) (val_move (v := (.slice a n c)) rfl) ?_
  refine rl_val rfl (v := (vI (n : Nat))) (val_lenSl (t := 53) rfl us_53 rfl) ?_
  refine rl_val rfl (v := (.bool (decide (((n : Nat) : Int) = 1)))) (val_eq (p := (n : Nat)) (q := 1) rfl rfl) ?_
  refine rl_nil ?_
  refine WP.cond (b := decide (((n : Nat) : Int) = 1)) rfl (fun hb => ?_) (fun hb => ?_)
  ·
    have hq3 := of_decide_eq_true hb
    obtain rfl : n = 1 := by omega
    obtain ⟨x, rfl⟩ : ∃ x, ss = [x] := List.length_eq_one_iff.1 hn
    have hx32 : x.length = 32 := h32 x (by simp)
    obtain ⟨b, off, xs, rfl, hbn, hr, hcs, hle, hnc⟩ := hs.pos (by omega)
    refine wp_sr (E := noPanic) noPanic_imp ?_
    refine rl_val rfl (v := (.slice (some ⟨b, off, none⟩) 1 c)) (val_move (v := (.slice (some ⟨b, off, none⟩) 1 c)) rfl) ?_
    refine rl_val rfl (v := (.pointer (some ⟨b, off, none⟩))) (val_cast (val_indexSl (i := 0) (sz := 32) rfl rfl es_53 (by omega)) (ptr_eq (by omega))) ?_
    refine rl_val rfl (v := (.agg (x.map v8).toArray)) (val_loadA (m := x.map v8) rfl ag_50 (hm.getL hr (by simp)) (by simpa [sumsC] using hcs) (by omega) (by decide)) ?_
    refine rl_store (i := 0) (off := 0) (xs := (List.replicate 32 (v8 0))) (vs := x.map v8) rfl rfl rfl ag_50 hm rfl rfl (by simp [hx32]) (by simp) (one_map8 _) ?_
    intro w4 hm
    rw [spl_all (n := 32) (by simp) (by simp [hx32])] at hm
    replace hm : Mem w [] [(b1, row (x.map v8) 50)] w4 := hm
    refine rl_nil ?_
    exact WP.ret (post_rets rfl (vs := [.agg ((rootP [x]).map v8).toArray]) ⟨⟨true, 32, _, 0, _, rfl, ag_50, (hm.row (i := 0) rfl).l, by simp [hx32], by decide, by rw [rootP_one]; simp [rd, List.take_of_length_le, hx32]⟩, trivial⟩ rfl ⟨rfl, hm.nil⟩)
  ·
    have hq5 := of_decide_eq_false hb
    have hn2 : 2 ≤ n := by omega
    have hcut := cut_lt hn2
    obtain ⟨b, off, xs, rfl, hbn, hr, hcs, hle, hnc⟩ := hs.pos (by omega)
    refine WP.skip ?_
    refine wp_sr (E := noPanic) noPanic_imp ?_
    refine rl_val rfl (v := (.slice (some ⟨b, off, none⟩) n c)) (val_move (v := (.slice (some ⟨b, off, none⟩) n c)) rfl) ?_
    refine rl_val rfl (v := (vI (n : Nat))) (val_lenSl (t := 53) rfl us_53 rfl) ?_
    refine rl_val rfl (v := (vI ((n : Nat) - 1))) (val_subI (p := (n : Nat)) (q := 1) rfl rfl (by omega)) ?_
    refine rl_val rfl (v := (vU ((n - 1 : Nat) : Int))) (val_cast (val_conv ut_3 ui_190 rfl) (by rw [wrapU (by omega) (by omega)]; exact int_eq (by omega))) ?_
    refine rl_call rfl (ent_static (args := [(vU ((n - 1 : Nat) : Int))]) Tryz.func206 rfl rfl rfl rfl) (len_ok (n - 1) (by omega) _) ?_
    rintro _ w6 ⟨rfl, h7⟩
    refine callQ_ret ?_
    replace hm : Mem w [] [(b1, row (List.replicate 32 (v8 0)) 50)] w6 := hm.call h7
    refine rl_val rfl (v := (vI (Nat.log2 (n - 1) : Int))) (val_cast (val_subI (p := (lenN (n - 1) : Int)) (q := 1) rfl rfl (by have := lenN_le (n - 1) (by omega); omega)) (by rw [lenN_pred (by omega)])) ?_
    refine rl_val rfl (v := (vI (cut n : Int))) (val_cast (val_shl (p := 1) (q := (Nat.log2 (n - 1) : Int)) rfl rfl (by omega)) (cut_shl (by omega) hn256)) ?_
    refine rl_val rfl (v := (vI (cut n : Int))) (val_assign (v := (vI (cut n : Int))) rfl) ?_
    refine rl_nil ?_
    refine wp_sd (E := noPanic) [(0, true), (1, true), (2, true), (3, true), (4, true), (6, true), (7, true), (8, true), (9, true), (5, false), (10, false), (11, false), (12, false)] mixed (by kernel_rfl) (by kernel_rfl) rfl (fun w' => Mem w [] [(b1, row (List.replicate 32 (v8 0)) 50)] w') noPanic_imp hm.drew ?_
    have hm := hm.drew
    refine rp_val rfl rfl (v := (.func (.func 205) #[] #[(.pointer (some ⟨bf, 0, none⟩))])) (fun w' hs => val_load1 (v := (.func (.func 205) #[] #[(.pointer (some ⟨bf, 0, none⟩))])) (off := 0) rfl ag_139 (hs.getL hbf (by simp)) rfl) ?_
    refine rp_val rfl rfl (v := (.slice (some ⟨b, off, none⟩) n c)) (fun w' hs => val_move (v := (.slice (some ⟨b, off, none⟩) n c)) rfl) ?_
    refine rp_val rfl rfl (v := (vI (cut n : Int))) (fun w' hs => val_move (v := (vI (cut n : Int))) rfl) ?_
    refine rp_val rfl rfl (v := (vI (cut n : Int))) (fun w' hs => val_move (v := (vI (cut n : Int))) rfl) ?_
    refine rp_val rfl rfl (v := (.slice (some ⟨b, off, none⟩) (cut n) (cut n))) (fun w' hs => val_cast (val_slice (b := b) (off := off) (n := n) (cap := c) (l := 0) (h := cut n) (m := cut n) rfl us_53 es_53 rfl ⟨_, _, rfl, by omega, by omega⟩ ⟨_, _, rfl, by omega, by omega⟩ (by omega) (by omega) (by omega)) (by simp [slo])) ?_
    refine rp_val rfl rfl (v := (.func (.func 205) #[] #[(.pointer (some ⟨bf, 0, none⟩))])) (fun w' hs => val_load1 (v := (.func (.func 205) #[] #[(.pointer (some ⟨bf, 0, none⟩))])) (off := 0) rfl ag_139 (hs.getL hbf (by simp)) rfl) ?_
    refine rp_val rfl rfl (v := (.slice (some ⟨b, off, none⟩) n c)) (fun w' hs => val_move (v := (.slice (some ⟨b, off, none⟩) n c)) rfl) ?_
    refine rp_val rfl rfl (v := (vI (cut n : Int))) (fun w' hs => val_move (v := (vI (cut n : Int))) rfl) ?_
    refine rp_val rfl rfl (v := (.slice (some ⟨b, (slo off (cut n) c 32), none⟩) (n - cut n) (c - cut n))) (fun w' hs => val_slice (b := b) (off := off) (n := n) (cap := c) (l := cut n) (h := n) (m := c) rfl us_53 es_53 ⟨_, _, rfl, by omega, by omega⟩ ⟨rfl, rfl⟩ rfl (by omega) (by omega) (by omega)) ?_
    refine rp_call rfl rfl (ent_dyn (fst := []) (cap := [(.pointer (some ⟨bf, 0, none⟩))]) (args := [(.slice (some ⟨b, off, none⟩) (cut n) (cut n)), (.pointer (some ⟨bf, 0, none⟩))]) Tryz.func205 rfl rfl rfl rfl) (ih (ss.take (cut n)) _ _ _ (by simp; omega) (by omega) (by omega) (fun x hx => h32 x (List.mem_of_mem_take hx)) (hm.getL hbf (by simp)) (by rw [sumsC_take h32]; exact (hs.takeMax (k := cut n) (by omega)).mem (own2 := []) hm (by simp)) (by omega)) ?_
    rintro _ w8 ⟨rfl, h9⟩
    refine callQ_ret ?_
    refine ⟨.inr ((hm.call h9).sub (by first | exact List.Sublist.refl _ | exact List.sublist_append_right _ _ | simp)), ?_⟩
    replace hm : Mem w [] [(b1, row (List.replicate 32 (v8 0)) 50)] w8 := hm.call h9
    refine rp_call rfl rfl (ent_dyn (fst := []) (cap := [(.pointer (some ⟨bf, 0, none⟩))]) (args := [(.slice (some ⟨b, (slo off (cut n) c 32), none⟩) (n - cut n) (c - cut n)), (.pointer (some ⟨bf, 0, none⟩))]) Tryz.func205 rfl rfl rfl rfl) (ih (ss.drop (cut n)) _ _ _ (by simp; omega) (by omega) (by omega) (fun x hx => h32 x (List.mem_of_mem_drop hx)) (hm.getL hbf (by simp)) (by rw [sumsC_drop h32]; exact (hs.drop (k := cut n) (by omega)).mem (own2 := []) hm (by simp)) (by omega)) ?_
    rintro _ w10 ⟨rfl, h11⟩
    refine callQ_ret ?_
    refine ⟨.inl (by kernel_rfl), ?_⟩
    replace hm : Mem w [] [(b1, row (List.replicate 32 (v8 0)) 50)] w10 := hm.call h11
    refine rp_call rfl rfl (ent_static (args := [(.agg ((rootP (ss.take (cut n))).map v8).toArray), (.agg ((rootP (ss.drop (cut n))).map v8).toArray)]) Tryz.func203 rfl rfl rfl rfl) (node_ok (rootP (ss.take (cut n))) (rootP (ss.drop (cut n))) (rootP_len _ (by simp; omega) (fun x hx => h32 x (List.mem_of_mem_take hx))) (rootP_len _ (by simp; omega) (fun x hx => h32 x (List.mem_of_mem_drop hx))) _) ?_
    rintro _ w12 ⟨rfl, h13⟩
    refine callQ_ret ?_
    refine ⟨.inl (by kernel_rfl), ?_⟩
    replace hm : Mem w [] [(b1, row (List.replicate 32 (v8 0)) 50)] w12 := hm.call h13
    refine rp_store (i := 0) (off := 0) (xs := (List.replicate 32 (v8 0))) (vs := (sha (1 :: (rootP (ss.take (cut n)) ++ rootP (ss.drop (cut n))))).map v8) rfl rfl rfl rfl ag_50 hm rfl rfl (by simp) (by simp) (one_map8 _) (by kernel_rfl) ?_
    intro w14 hm
    rw [spl_all (n := 32) (by simp) (by simp)] at hm
    replace hm : Mem w [] [(b1, row ((sha (1 :: (rootP (ss.take (cut n)) ++ rootP (ss.drop (cut n))))).map v8) 50)] w14 := hm
    refine rp_nil ?_
    exact WP.ret (post_rets rfl (vs := [.agg ((rootP ss).map v8).toArray]) ⟨⟨true, 32, _, 0, _, rfl, ag_50, (hm.row (i := 0) rfl).l, by simp, by decide, by rw [rootP_two hn hn2]; simp [rd, List.take_of_length_le]⟩, trivial⟩ rfl ⟨rfl, hm.nil⟩)
theorem rootE_pos {ss : List (List UInt8)} (h : 1 ≤ ss.length) : rootE ss = rootP ss := by
  unfold rootE; rw [if_neg]; rintro rfl; simp at h
theorem root1E_ok (ss : List (List UInt8)) (a : Option Addr) (c n bf : Nat) (w : World) (hn : ss.length = n) (h1 : 1 ≤ n) (h32 : All32 ss) (hb : RowL w bf [(.func (.func 205) #[] #[(.pointer (some ⟨bf, 0, none⟩))])]) (hs : SlIs w [] (.slice a n c) 32 n (sumsC ss)) (h256 : n ≤ 256) :
    Calls Tryz.prog 205 [.slice a n c, .pointer (some ⟨bf, 0, none⟩)].toArray w (Ret w (.agg ((rootE ss).map v8).toArray)) := by
  rw [rootE_pos (by omega)]; exact root1_ok n ss a c n bf w (Nat.le_refl _) hn h1 h32 hb hs h256
theorem root_ok (ss : List (List UInt8)) (a : Option Addr) (c n : Nat) (w : World) (hn : ss.length = n) (h32 : All32 ss) (hs : SlIs w [] (.slice a n c) 32 n (sumsC ss)) (hn256 : n ≤ 256) :
    Calls Tryz.prog 96 [.slice a n c].toArray w (Ret w (.agg ((rootE ss).map v8).toArray)) := by
  have hm := Mem.init w
  refine calls_enter (n := 12) Tryz.func96 rfl rfl rfl ?_
  refine wp_sr (E := noPanic) noPanic_imp ?_
  refine rl_alloc (xs := List.replicate 32 (v8 0)) rfl zo_50 hm ?_
  intro b1 w2 hm
  refine rl_nil ?_
  refine wp_sr (E := noPanic) noPanic_imp ?_
  refine rl_alloc (xs := [(.nilFunc)]) rfl zo_139 hm ?_
  intro b3 w4 hm
  refine rl_nil ?_
  refine wp_sr (E := noPanic) noPanic_imp ?_
  refine rl_val rfl (v := (.func (.func 205) #[] #[(.pointer (some ⟨b3, 0, none⟩))])) (val_mkfunc (caps := [.pointer (some ⟨b3, 0, none⟩)]) rfl rfl (args_cons rfl args_nil)) ?_
  refine rl_store (i := 0) (off := 0) (xs := ([(.nilFunc)])) (vs := [(.func (.func 205) #[] #[(.pointer (some ⟨b3, 0, none⟩))])]) rfl rfl rfl ag_139 hm rfl rfl rfl (by simp) (by simp [Value.one]) ?_
  intro w5 hm
  replace hm : Mem w [] [(b3, row ([(.func (.func 205) #[] #[(.pointer (some ⟨b3, 0, none⟩))])]) 139), (b1, row (List.replicate 32 (v8 0)) 50)] w5 := hm
  refine rl_nil ?_
  refine WP.seq ?_
  refine wp_sr (E := noPanic) noPanic_imp ?_
  refine rl_val rfl (v := (.slice a n c)) (val_move (v := (.slice a n c)) rfl) ?_
  refine rl_val rfl (v := (vI (n : Nat))) (val_lenSl (t := 53) rfl us_53 rfl) ?_
  refine rl_val rfl (v := (.bool (decide (((n : Nat) : Int) = 0)))) (val_eq (p := (n : Nat)) (q := 0) rfl rfl) ?_
  refine rl_nil ?_
  refine WP.cond (b := decide (((n : Nat) : Int) = 0)) rfl (fun hb => ?_) (fun hb => ?_)
  ·
    have hq6 := of_decide_eq_true hb
    obtain rfl : n = 0 := by omega
    obtain rfl : ss = [] := List.eq_nil_of_length_eq_zero hn
    refine wp_sr (E := noPanic) noPanic_imp ?_
    refine rl_call rfl (ent_static (args := [(.slice none 0 0)]) Tryz.func87 rfl rfl rfl rfl) (of_okV [] _ 0 _ SlIs.nil rfl (by simp)) ?_
    rintro _ w7 ⟨rfl, h8⟩
    refine callQ_ret ?_
    replace hm : Mem w [] [(b3, row ([(.func (.func 205) #[] #[(.pointer (some ⟨b3, 0, none⟩))])]) 139), (b1, row (List.replicate 32 (v8 0)) 50)] w7 := hm.call h8
    refine rl_store (i := 1) (off := 0) (xs := (List.replicate 32 (v8 0))) (vs := (rootE []).map v8) rfl rfl rfl ag_50 hm rfl rfl (by simp [rootE_len h32]) (by simp) (one_map8 _) ?_
    intro w9 hm
    rw [spl_all (n := 32) (by simp) (by simp [rootE_len h32])] at hm
    replace hm : Mem w [] [(b3, row ([(.func (.func 205) #[] #[(.pointer (some ⟨b3, 0, none⟩))])]) 139), (b1, row ((rootE []).map v8) 50)] w9 := hm
    refine rl_nil ?_
    exact WP.ret (post_rets rfl (vs := [.agg ((rootE []).map v8).toArray]) ⟨⟨true, 32, _, 0, _, rfl, ag_50, (hm.row (i := 1) rfl).l, by simp [rootE_len h32], by decide, by simp [rd, List.take_of_length_le, rootE_len h32]⟩, trivial⟩ rfl ⟨rfl, hm.nil⟩)
  ·
    have hq10 := of_decide_eq_false hb
    have hn1 : 1 ≤ n := by omega
    refine WP.skip ?_
    refine wp_sr (E := noPanic) noPanic_imp ?_
    refine rl_val rfl (v := (.func (.func 205) #[] #[(.pointer (some ⟨b3, 0, none⟩))])) (val_load1 (v := (.func (.func 205) #[] #[(.pointer (some ⟨b3, 0, none⟩))])) (off := 0) rfl ag_139 (hm.row (i := 0) rfl).l rfl) ?_
    refine rl_val rfl (v := (.slice a n c)) (val_move (v := (.slice a n c)) rfl) ?_
    refine rl_call rfl (ent_dyn (fst := []) (cap := [(.pointer (some ⟨b3, 0, none⟩))]) (args := [(.slice a n c), (.pointer (some ⟨b3, 0, none⟩))]) Tryz.func205 rfl rfl rfl rfl) (root1E_ok ss _ _ _ _ _ hn hn1 h32 (hm.row (i := 0) rfl).l (hs.mem (own2 := []) hm (by simp)) hn256) ?_
    rintro _ w11 ⟨rfl, h12⟩
    refine callQ_ret ?_
    replace hm : Mem w [] [(b3, row ([(.func (.func 205) #[] #[(.pointer (some ⟨b3, 0, none⟩))])]) 139), (b1, row (List.replicate 32 (v8 0)) 50)] w11 := hm.call h12
    refine rl_store (i := 1) (off := 0) (xs := (List.replicate 32 (v8 0))) (vs := (rootE ss).map v8) rfl rfl rfl ag_50 hm rfl rfl (by simp [rootE_len h32]) (by simp) (one_map8 _) ?_
    intro w13 hm
    rw [spl_all (n := 32) (by simp) (by simp [rootE_len h32])] at hm
    replace hm : Mem w [] [(b3, row ([(.func (.func 205) #[] #[(.pointer (some ⟨b3, 0, none⟩))])]) 139), (b1, row ((rootE ss).map v8) 50)] w13 := hm
    refine rl_nil ?_
    exact WP.ret (post_rets rfl (vs := [.agg ((rootE ss).map v8).toArray]) ⟨⟨true, 32, _, 0, _, rfl, ag_50, (hm.row (i := 1) rfl).l, by simp [rootE_len h32], by decide, by simp [rd, List.take_of_length_le, rootE_len h32]⟩, trivial⟩ rfl ⟨rfl, hm.nil⟩)
end Go.Al
namespace Go.Al
open Go Go.RowKit
set_option linter.unusedVariables false
set_option linter.unusedSimpArgs false
def scopeQ (Q : Post) : Post
  | .goto _, _, _ => False
  | e, τ, w => Q e τ w
theorem WP.scope {P : Program} {n : Nat} {ds : List Deferred} {Q : Post} {τ : Fr} {w : World} {c : Code} (h : WP P n ds c (scopeQ Q) τ w) : WP P n ds (.scope c) Q τ w := by
  intro a ha
  refine wp_scope_straight (Code.wp_mono ?_ (h a ha))
  rintro e a' w' ⟨τ', hf, hq⟩
  cases e with
  | goto l => exact hq.elim
  | normal => exact ⟨τ', hf, hq⟩
  | exit id => exact ⟨τ', hf, hq⟩
  | ret => exact ⟨τ', hf, hq⟩
  | panic ch => exact ⟨τ', hf, hq⟩
  | outgrown => exact ⟨τ', hf, hq⟩
theorem WP.label {P : Program} {n : Nat} {ds : List Deferred} {Q : Post} {τ : Fr} {w : World} {l : Nat} (h : Q .normal τ w) : WP P n ds (.label l) Q τ w := fun _ ha => wp_label ⟨τ, ha, h⟩
theorem scope_ret {Q : Post} {τ : Fr} {w : World} (h : Q .ret τ w) : scopeQ Q .ret τ w := h
section
variable {w0 w w' : World} {own : List Nat} {l l1 l2 r r' : List (Nat × Obj)} {v : Value} {n sz : Nat} {e : TypeId} {xs : List Value}
theorem VecIs.one (h : VecIs v n sz e xs r) : r = [] ∨ ∃ p, r = [p] := by
  rcases h with ⟨_, _, _, h⟩ | ⟨g, c, rest, _, _, _, _, _, h⟩
  · exact .inl h
  · exact .inr ⟨_, h⟩
/-- What a callee gets that may write a slice's row. -/
theorem Mem.initVec (hv : VecIs v n sz e xs r) (h : ∀ p ∈ r, w.heap[p.1]? = some p.2) : Mem w (r.map (·.1)) r w := by
  refine ⟨rfl, rfl, rfl, Nat.le_refl _, fun _ _ _ => rfl, h, fun p hp => .inr (List.mem_map.2 ⟨p, hp, rfl⟩), ?_⟩
  rcases hv.one with rfl | ⟨p, rfl⟩ <;> simp
theorem Mem.callVec (h : Mem w0 own (l1 ++ (r ++ l2)) w) (hv : VecIs v n sz e xs r) (h2 : Mem w (r.map (·.1)) r' w') : Mem w0 own (l1 ++ (r' ++ l2)) w' := by
  rcases hv.one with rfl | ⟨⟨b, o⟩, rfl⟩
  · exact h.callNil h2
  · exact Mem.callMid (b := b) (o := o) (by simpa using h) h2
theorem VecIs.cut (hv : VecIs v n sz e xs r) {a : Option Addr} {c m : Nat} (ha : v = .slice a n c) (hm : m ≤ n) : VecIs (.slice a m c) m sz e (xs.take (m * sz)) r := by
  rcases hv with ⟨rfl, rfl, rfl, rfl⟩ | ⟨g, cap, rest, rfl, h1, h2, h3, h4, rfl⟩
  · cases ha
    obtain rfl : m = 0 := by omega
    exact .inl ⟨rfl, rfl, by simp, rfl⟩
  · cases ha
    have hms := Nat.mul_le_mul_right sz hm
    refine .inr ⟨g, c, xs.drop (m * sz) ++ rest, rfl, by omega, h2, by rw [List.length_take]; omega, ?_, ?_⟩
    · rw [← List.append_assoc, List.take_append_drop]; exact h4
    · rw [← List.append_assoc, List.take_append_drop]
/-- A call that returns a slice, which may lie where the one handed in lay. -/
def RetO (w : World) (own : List Nat) (n sz : Nat) (e : TypeId) (cs : List Value) : Ending → World → Prop := fun en w' => ∃ v r, en = .returned v ∧ VecIs v n sz e cs r ∧ Mem w own r w'
end
section
variable {P : Program} {E : List PanicEntry → World → Prop} {n : Nat} {ds : List Deferred} {ops : Array Oper} {K : Fr → World → Prop} {τ : Fr} {w0 w : World} {own : List Nat} {l l1 l2 r : List (Nat × Obj)}
variable {rest : List Oper} {ty : TypeId} {pos : String} {after : Array Edge} {d : Nat} {v v2 : Value} {S : World → Prop} {fl : List Nat} {plan : List (Nat × Bool)} {i j : Nat} {x y : Operand}
theorem rp_appendS {t e : TypeId} {sz by_ m k : Nat} {zs xs news : List Value} {own2 : List Nat} (hop : ops[j]? = some ⟨some d, .call { callee := .builtin .append, args := #[x, y], argTypes := #[t, t] }, ty, pos, after, none⟩) (hd : Nat.blt d n = true) (ht : elemZ P t = some (e, sz, by_, zs)) (hz : zs.length = sz) (hsz : 0 < sz) (hby : by_ ≤ 128) (hx : ev τ x = v) (hy : ev τ y = v2)
    (hv : VecIs v m sz e xs r) (hm : Mem w0 own (l1 ++ (r ++ l2)) w) (hb : SlIs w own2 v2 sz k news) (h1 : ∀ u ∈ news, u.one = true) (h63 : m + k ≤ 1099511627776)
    (h : ∀ v' r' w', VecIs v' (m + k) sz e (xs ++ news) r' → Mem w0 own (l1 ++ (r' ++ l2)) w' → (lateB ops fl j = true ∨ S w') ∧ RP P E n ops S fl plan K (upd τ d v') w') :
    RP P E n ops S fl ((j, false) :: plan) K τ w := by
  obtain ⟨v', r', w', h2, h3, h4⟩ := eff_appendS (P := P) (ty := ty) ht hz hsz hx hv hm hy hb h1 h63 hby
  exact rp_eff hop hd h2 (h _ _ _ h3 h4).1 (h _ _ _ h3 h4).2
end
end Go.Al
namespace Go.Al
open Go Go.RowKit
theorem cells_one1 {v : Value} (h : v.one = true) : v.cells = [v].toArray := by rw [cells_one h]
theorem VecIs.isOne {v : Value} {n sz : Nat} {e : TypeId} {xs : List Value} {r : List (Nat × Obj)} (h : VecIs v n sz e xs r) : v.one = true := by
  obtain ⟨a, c, rfl, _⟩ := h.form; rfl
theorem Mem.initFR {w : World} {f : Nat} {o : Obj} {v : Value} {n sz : Nat} {e : TypeId} {xs : List Value} {r : List (Nat × Obj)} (hv : VecIs v n sz e xs r) (hf : w.heap[f]? = some o) (h : ∀ p ∈ r, w.heap[p.1]? = some p.2) (hne : ∀ p ∈ r, p.1 ≠ f) : Mem w (f :: r.map (·.1)) ([(f, o)] ++ (r ++ [])) w := by
  refine ⟨rfl, rfl, rfl, Nat.le_refl _, fun _ _ _ => rfl, ?_, ?_, ?_⟩
  · intro p hp
    simp at hp
    rcases hp with rfl | hp
    · exact hf
    · exact h p hp
  · intro p hp
    simp at hp
    rcases hp with rfl | hp
    · exact .inr (by simp)
    · exact .inr (List.mem_cons_of_mem _ (List.mem_map.2 ⟨p, hp, rfl⟩))
  · rcases hv.one with rfl | ⟨p, rfl⟩
    · simp
    · have := hne p (by simp)
      simp; exact fun h => this h.symm
theorem VecIs.slIs {w : World} {own : List Nat} {v : Value} {n sz : Nat} {e : TypeId} {xs : List Value} {r : List (Nat × Obj)} (h : VecIs v n sz e xs r) (hr : ∀ p ∈ r, w.heap[p.1]? = some p.2 ∧ p.1 ∉ own) : SlIs w own v sz n xs := by
  rcases h with ⟨rfl, rfl, rfl, _⟩ | ⟨g, c, rest, rfl, h1, h2, h3, h4, rfl⟩
  · exact SlIs.nil
  · obtain ⟨h5, h6⟩ := hr (g, row (xs ++ rest) e) (by simp)
    exact SlIs.of h6 (⟨e, (0, 0), h5⟩ : RowL w g (xs ++ rest)) (by simp [← h3]) (by simp [← h3]) h1
end Go.Al
namespace Go.Al
open Go Go.RowKit Go.Proofs
set_option linter.unusedVariables false
set_option linter.unusedSimpArgs false
/-- The last two become their node, so many times. -/
def foldP : Nat → List (List UInt8) → List (List UInt8)
  | 0, l => l
  | k + 1, l => foldP k (l.take (l.length - 2) ++ [sha (1 :: (l.getD (l.length - 2) [] ++ l.getD (l.length - 1) []))])
theorem foldP_step {k n : Nat} {l : List (List UInt8)} {x y : List UInt8} (hk : 0 < k) (hn : l.length = n) (hx : l[n - 2]? = some x) (hy : l[n - 1]? = some y) : foldP k l = foldP (k - 1) (l.take (n - 2) ++ [sha (1 :: (x ++ y))]) := by
  subst hn
  obtain ⟨k, rfl⟩ : ∃ j, k = j + 1 := ⟨k - 1, by omega⟩
  rw [Nat.add_sub_cancel]
  conv => lhs; unfold foldP
  rw [List.getD_eq_getElem?_getD, List.getD_eq_getElem?_getD, hx, hy]; rfl
theorem all32_snoc {l : List (List UInt8)} {k : Nat} {x : List UInt8} (h : All32 l) (hx : x.length = 32) : All32 (l.take k ++ [x]) := by
  intro z hz
  rcases List.mem_append.1 hz with hz | hz
  · exact h z (List.mem_of_mem_take hz)
  · rw [List.mem_singleton.1 hz]; exact hx
theorem sums_at {ss : List (List UInt8)} {x : List UInt8} {k : Nat} {rest : List Value} (h32 : All32 ss) (hx : ss[k]? = some x) : ((sumsC ss ++ rest).drop (k * 32)).take 32 = x.map v8 := by
  obtain ⟨hlt, hk⟩ := List.getElem?_eq_some_iff.1 hx
  have h1 : ss = ss.take k ++ (x :: ss.drop (k + 1)) := by rw [← hk, ← List.drop_eq_getElem_cons hlt, List.take_append_drop]
  have h2 : (sumsC (ss.take k)).length = k * 32 := by rw [sumsC_len (fun y hy => h32 y (List.mem_of_mem_take hy))]; simp; omega
  have h3 : sumsC ss = sumsC (ss.take k) ++ (x.map v8 ++ sumsC (ss.drop (k + 1))) := by
    conv => lhs; rw [h1]
    rw [sumsC_app]; simp [sumsC]
  have hx32 := h32 x (List.mem_of_getElem? hx)
  rw [h3, List.append_assoc, ← h2, List.drop_left, List.append_assoc, List.take_append_of_le_length (by simp [hx32]), List.take_of_length_le (by simp [hx32])]
theorem fold_ok (ss0 : List (List UInt8)) (v0 : Value) (n0 steps : Nat) (r0 : List (Nat × Obj)) (w : World) (hn0 : ss0.length = n0) (h32 : All32 ss0) (hv0 : VecIs v0 n0 32 50 (sumsC ss0) r0) (hr0 : ∀ p ∈ r0, w.heap[p.1]? = some p.2) (hst : steps + 1 ≤ n0 ∨ steps = 0) (hb : n0 ≤ 1099511627775) :
    Calls Tryz.prog 202 [v0, vI (steps : Int), .func (.func 203) #[] #[]].toArray w (RetO w (r0.map (·.1)) (n0 - steps) 32 50 (sumsC (foldP steps ss0))) := by
  have hm := (Mem.initVec hv0 hr0)
  replace hm : Mem w (r0.map (·.1)) ([] ++ (r0 ++ [])) w := by simpa using hm
  refine calls_enter (n := 33) Tryz.func202 rfl rfl rfl ?_
  refine wp_sr (E := noPanic) noPanic_imp ?_
  refine rl_val rfl (v := (.slice none 0 0)) (val_assign (v := (.slice none 0 0)) rfl) ?_
  refine rl_nil ?_
  refine WP.seq ?_
  refine wp_sr (E := noPanic) noPanic_imp ?_
  refine rl_val rfl (v := (vI (steps : Int))) (val_move (v := (vI (steps : Int))) rfl) ?_
  refine rl_val rfl (v := (vI 0)) (val_move (v := (vI 0)) rfl) ?_
  refine rl_nil ?_
  refine WP.block ?_
  refine WP.loop (fun k τ w' => ∃ (i : Nat) (v1 : Value) (n1 : Nat) (ss : List (List UInt8)) (r1 : List (Nat × Obj)), steps - i = k ∧ i ≤ steps ∧ foldP (steps - i) ss = foldP steps ss0 ∧ (ss.length = n1 ∧ n1 + i = n0) ∧ All32 ss ∧ VecIs v1 n1 32 50 (sumsC ss) r1 ∧ Mem w (r0.map (·.1)) ([] ++ (r1 ++ [])) w' ∧ τ 0 = v1 ∧ τ 2 = (.func (.func 203) #[] #[]) ∧ τ 8 = (vI (steps : Int)) ∧ τ 9 = (vI (i : Int))) (steps) ?_ ?_
  · exact ⟨0, v0, n0, ss0, r0, rfl, by omega, rfl, ⟨hn0, rfl⟩, h32, hv0, hm, rfl, rfl, rfl, (by first | rfl | (refine int_eq ?_; simp; try omega) | (refine int_eq ?_; omega))⟩
  · rintro kk2 τ wl1 ⟨i, v1, n1, ss, r1, hk3, hi, hfold, hlen1, h32s, hv1, hm, hs4, hs5, hs6, hs7⟩
    refine wp_sr (E := noPanic) noPanic_imp ?_
    refine rl_val rfl (v := (.bool (decide (((i : Int) : Int) < (steps : Int))))) (val_lt (p := (i : Int)) (q := (steps : Int)) hs7 hs6) ?_
    refine rl_nil ?_
    refine WP.seq (WP.cond (b := decide (((i : Int) : Int) < (steps : Int))) rfl (fun hb => ?_) (fun hb => ?_))
    ·
      have hq8 := of_decide_eq_true hb
      have hilt : i < steps := by omega
      have hn2 : 2 ≤ n1 := by omega
      obtain ⟨hss1, hni⟩ := hlen1
      obtain ⟨g, cap, rest, rfl, hc1, hc2, hxl, hrl, rfl⟩ := hv1.pos (by omega)
      obtain ⟨x, hx⟩ : ∃ x, ss[n1 - 2]? = some x := ⟨ss[n1 - 2], by simp⟩
      obtain ⟨y, hy⟩ : ∃ y, ss[n1 - 1]? = some y := ⟨ss[n1 - 1], by simp⟩
      have hx32 : x.length = 32 := h32s x (List.mem_of_getElem? hx)
      have hy32 : y.length = 32 := h32s y (List.mem_of_getElem? hy)
      have hsums : sumsC (ss.take (n1 - 2) ++ [sha (1 :: (x ++ y))]) = (sumsC ss).take ((n1 - 2) * 32) ++ (sha (1 :: (x ++ y))).map v8 := by rw [sumsC_app, sumsC_take h32s]; simp [sumsC]
      have hss2 : foldP (steps - (i + 1)) (ss.take (n1 - 2) ++ [sha (1 :: (x ++ y))]) = foldP steps ss0 := by rw [← hfold, foldP_step (by omega) hss1 hx hy, Nat.sub_sub]
      have h32b : All32 (ss.take (n1 - 2) ++ [sha (1 :: (x ++ y))]) := by exact all32_snoc h32s (by simp)
      have hlen2 : (ss.take (n1 - 2) ++ [sha (1 :: (x ++ y))]).length = n1 - 2 + 1 ∧ (n1 - 2 + 1) + (i + 1) = n0 := ⟨by rw [List.length_append, List.length_take, Nat.min_eq_left (by omega)]; rfl, by omega⟩
      replace hm : Mem w (r0.map (·.1)) [(g, row (sumsC ss ++ rest) 50)] wl1 := by simpa only [List.append_assoc, List.nil_append, List.append_nil, List.cons_append] using hm
      refine WP.skip ?_
      refine WP.seq (WP.block ?_)
      refine wp_sr (E := noPanic) noPanic_imp ?_
      refine rl_val rfl (v := (.slice (some ⟨g, 0, none⟩) n1 cap)) (val_move (v := (.slice (some ⟨g, 0, none⟩) n1 cap)) hs4) ?_
      refine rl_val rfl (v := (vI (n1 : Nat))) (val_lenSl (t := 53) rfl us_53 rfl) ?_
      refine rl_val rfl (v := (vI (n1 : Nat))) (val_assign (v := (vI (n1 : Nat))) rfl) ?_
      refine rl_nil ?_
      refine wp_d (E := noPanic) [(0, true), (1, true), (2, true), (3, true), (4, true), (5, true), (6, true), (7, true), (8, true), (9, true), (10, true), (11, true), (12, true), (13, true), (14, true), (15, false), (16, false), (17, false), (18, false)] mixed (by kernel_rfl) (by kernel_rfl) rfl (fun w' => Mem w (r0.map (·.1)) [(g, row (sumsC ss ++ rest) 50)] w') noPanic_imp hm.drew ?_
      have hm := hm.drew
      refine rp_val rfl rfl (v := (.slice (some ⟨g, 0, none⟩) n1 cap)) (fun w' hs => val_move (v := (.slice (some ⟨g, 0, none⟩) n1 cap)) hs4) ?_
      refine rp_val rfl rfl (v := (vI (n1 : Nat))) (fun w' hs => val_move (v := (vI (n1 : Nat))) rfl) ?_
      refine rp_val rfl rfl (v := (vI ((n1 : Nat) - 2))) (fun w' hs => val_subI (p := (n1 : Nat)) (q := 2) rfl rfl (by omega)) ?_
      refine rp_val rfl rfl (v := (.slice (some ⟨g, 0, none⟩) (n1 - 2) cap)) (fun w' hs => val_cast (val_slice (b := g) (off := 0) (n := n1) (cap := cap) (l := 0) (h := n1 - 2) (m := cap) rfl us_53 es_53 rfl ⟨_, _, rfl, by omega, by omega⟩ rfl (by omega) (by omega) (by omega)) (by simp [slo])) ?_
      refine rp_val rfl rfl (v := (.func (.func 203) #[] #[])) (fun w' hs => val_move (v := (.func (.func 203) #[] #[])) hs5) ?_
      refine rp_val rfl rfl (v := (.slice (some ⟨g, 0, none⟩) n1 cap)) (fun w' hs => val_move (v := (.slice (some ⟨g, 0, none⟩) n1 cap)) hs4) ?_
      refine rp_val rfl rfl (v := (vI (n1 : Nat))) (fun w' hs => val_move (v := (vI (n1 : Nat))) rfl) ?_
      refine rp_val rfl rfl (v := (vI ((n1 : Nat) - 2))) (fun w' hs => val_subI (p := (n1 : Nat)) (q := 2) rfl rfl (by omega)) ?_
      refine rp_val rfl rfl (v := (.pointer (some ⟨g, (n1 - 2) * 32, none⟩))) (fun w' hs => val_cast (val_indexSl (i := (n1 : Int) - 2) (sz := 32) rfl rfl es_53 (by omega)) (ptr_eq (by rw [show ((n1 : Int) - 2).toNat = n1 - 2 from by omega]; omega))) ?_
      refine rp_val rfl rfl (v := (.agg (x.map v8).toArray)) (fun w' hs => val_loadA (m := x.map v8) (off := (n1 - 2) * 32) rfl ag_50 (hs.row (i := 0) rfl).l (sums_at h32s hx) (by simp only [List.length_append, hxl]; omega) (by decide)) ?_
      refine rp_val rfl rfl (v := (.slice (some ⟨g, 0, none⟩) n1 cap)) (fun w' hs => val_move (v := (.slice (some ⟨g, 0, none⟩) n1 cap)) hs4) ?_
      refine rp_val rfl rfl (v := (vI (n1 : Nat))) (fun w' hs => val_move (v := (vI (n1 : Nat))) rfl) ?_
      refine rp_val rfl rfl (v := (vI ((n1 : Nat) - 1))) (fun w' hs => val_subI (p := (n1 : Nat)) (q := 1) rfl rfl (by omega)) ?_
      refine rp_val rfl rfl (v := (.pointer (some ⟨g, (n1 - 1) * 32, none⟩))) (fun w' hs => val_cast (val_indexSl (i := (n1 : Int) - 1) (sz := 32) rfl rfl es_53 (by omega)) (ptr_eq (by rw [show ((n1 : Int) - 1).toNat = n1 - 1 from by omega]; omega))) ?_
      refine rp_val rfl rfl (v := (.agg (y.map v8).toArray)) (fun w' hs => val_loadA (m := y.map v8) (off := (n1 - 1) * 32) rfl ag_50 (hs.row (i := 0) rfl).l (sums_at h32s hy) (by simp only [List.length_append, hxl]; omega) (by decide)) ?_
      refine rp_call rfl rfl (ent_dyn (fst := []) (cap := []) (args := [(.agg (x.map v8).toArray), (.agg (y.map v8).toArray)]) Tryz.func203 rfl rfl rfl rfl) (node_ok x y hx32 hy32 _) ?_
      rintro _ w9 ⟨rfl, h10⟩
      refine callQ_ret ?_
      refine ⟨.inr ((hm.call h10).sub (by ((try (simp only [List.append_assoc, List.nil_append, List.append_nil, List.cons_append])); repeat (first | exact List.nil_sublist _ | exact List.Sublist.refl _ | with_reducible refine List.Sublist.cons_cons _ ?_ | with_reducible refine List.Sublist.append (List.Sublist.refl _) ?_ | with_reducible exact List.sublist_append_left _ _ | refine List.Sublist.cons _ ?_ | refine List.Sublist.trans ?_ (List.sublist_append_right _ _))))), ?_⟩
      replace hm : Mem w (r0.map (·.1)) [(g, row (sumsC ss ++ rest) 50)] w9 := hm.call h10
      refine rp_buildSlice (vs := [(.agg ((sha (1 :: (x ++ y))).map v8).toArray)]) (cs := ((sha (1 :: (x ++ y))).map v8)) rfl rfl ez_53 rfl (parts_cons rfl (parts_nil)) rfl (by decide) (by intro v hv; simp only [List.mem_singleton] at hv; subst hv; simp [Value.cells]) (by simp [Value.cells]) hm (fun b w' h => .inr (h.sub (by ((try (simp only [List.append_assoc, List.nil_append, List.append_nil, List.cons_append])); repeat (first | exact List.nil_sublist _ | exact List.Sublist.refl _ | with_reducible refine List.Sublist.cons_cons _ ?_ | with_reducible refine List.Sublist.append (List.Sublist.refl _) ?_ | with_reducible exact List.sublist_append_left _ _ | refine List.Sublist.cons _ ?_ | refine List.Sublist.trans ?_ (List.sublist_append_right _ _)))))) ?_
      intro b11 w12 hm
      refine rp_appendS (l1 := [(b11, row ((sha (1 :: (x ++ y))).map v8) 50)]) (l2 := []) (r := [(g, row (sumsC ss ++ rest) 50)]) (v := (.slice (some ⟨g, 0, none⟩) (n1 - 2) cap)) (xs := ((sumsC ss).take ((n1 - 2) * 32))) (news := ((sha (1 :: (x ++ y))).map v8)) rfl rfl ez_53 rfl (by decide) (by decide) rfl rfl (hv1.cut rfl (by omega)) (by simpa only [List.append_assoc, List.nil_append, List.append_nil, List.cons_append] using hm) (SlIs.of (own := []) (by simp) (hm.row (i := 0) rfl).l (by simp [List.take_of_length_le]) (by simp) (by omega)) (one_map8 _) (by omega) ?_
      intro v13 r14 w16 hv15 hm
      refine ⟨.inl (by kernel_rfl), ?_⟩
      replace hm : Mem w (r0.map (·.1)) ([(b11, row ((sha (1 :: (x ++ y))).map v8) 50)] ++ (r14 ++ [])) w16 := by simpa only [List.append_assoc, List.nil_append, List.append_nil, List.cons_append] using hm
      refine rp_vale rfl rfl (v := v13) (val_assign (v := v13) rfl) (.inl (by kernel_rfl)) ?_
      refine rp_nil ?_
      replace hm : Mem w (r0.map (·.1)) ([] ++ (r14 ++ [])) _ := hm.sub (by ((try (simp only [List.append_assoc, List.nil_append, List.append_nil, List.cons_append])); repeat (first | exact List.nil_sublist _ | exact List.Sublist.refl _ | with_reducible refine List.Sublist.cons_cons _ ?_ | with_reducible refine List.Sublist.append (List.Sublist.refl _) ?_ | with_reducible exact List.sublist_append_left _ _ | refine List.Sublist.cons _ ?_ | refine List.Sublist.trans ?_ (List.sublist_append_right _ _))))
      refine wp_r (E := noPanic) noPanic_imp ?_
      refine rl_val rfl (v := (vI ((i : Int) + 1))) (val_addI (p := (i : Int)) (q := 1) hs7 rfl (by omega)) ?_
      refine rl_val rfl (v := (vI ((i : Int) + 1))) (val_move (v := (vI ((i : Int) + 1))) rfl) ?_
      refine rl_nil ?_
      exact ⟨steps - (i + 1), by omega, ⟨i + 1, v13, (n1 - 2 + 1), (ss.take (n1 - 2) ++ [sha (1 :: (x ++ y))]), r14, rfl, by omega, hss2, hlen2, h32b, by rw [hsums]; exact hv15, hm, rfl, hs5, hs6, (by first | rfl | (refine int_eq ?_; simp; try omega) | (refine int_eq ?_; omega))⟩⟩
    ·
      have hq17 := of_decide_eq_false hb
      obtain rfl : i = steps := by omega
      refine WP.exit ?_
      repeat (first | with_reducible refine exit_pass ?_ | with_reducible refine exit_other rfl ?_)
      refine blk_here ?_
      refine wp_sr (E := noPanic) noPanic_imp ?_
      refine rl_val rfl (v := v1) (val_move (v := v1) hs4) ?_
      refine rl_val rfl (v := v1) (val_assign (v := v1) rfl) ?_
      refine rl_nil ?_
      exact WP.ret (post_rets rfl (vs := [v1]) ⟨rfl, trivial⟩ rfl ⟨_, _, rfl, by rw [Nat.sub_self] at hfold; rw [← hfold, show n0 - i = n1 from by omega]; exact hv1, by simpa using hm⟩)
end Go.Al
namespace Go.Al
set_option linter.unusedVariables false
set_option linter.unusedSimpArgs false
def tz (n : Nat) : Nat := if n % 2 = 1 then 1 + tz (n / 2) else 0
termination_by n
decreasing_by omega
theorem tz_even {n : Nat} (h : n % 2 = 0) : tz n = 0 := by rw [tz, if_neg (by omega)]
theorem tz_odd {n : Nat} (h : n % 2 = 1) : tz n = 1 + tz (n / 2) := by rw [tz, if_pos h]
abbrev Sums := List (List UInt8)
def node (a b : List UInt8) : List UInt8 := sha (1 :: (a ++ b))
def fstep (s : Nat × Sums) (x : List UInt8) : Nat × Sums := (s.1 + 1, foldP (tz s.1) (s.2 ++ [x]))
def frontS (xs : Sums) : Nat × Sums := xs.foldl fstep (0, [])
def frontP (xs : Sums) : Sums := (frontS xs).2
theorem frontS_n (xs : Sums) : (frontS xs).1 = xs.length := by
  have : ∀ (xs : Sums) (s : Nat × Sums), (xs.foldl fstep s).1 = s.1 + xs.length := by
    intro xs
    induction xs with
    | nil => intro s; rfl
    | cons x xs ih => intro s; rw [List.foldl_cons, ih]; simp [fstep]; omega
  rw [frontS, this]; simp
theorem frontP_nil : frontP [] = [] := rfl
theorem frontP_snoc (xs : Sums) (x : List UInt8) : frontP (xs ++ [x]) = foldP (tz xs.length) (frontP xs ++ [x]) := by
  have h := frontS_n xs
  unfold frontP frontS at *
  rw [List.foldl_append]
  generalize List.foldl fstep (0, []) xs = s at h ⊢
  show foldP (tz s.1) (s.2 ++ [x]) = _
  rw [h]
theorem foldP_two (l : Sums) (a b : List UInt8) (k : Nat) : foldP (k + 1) (l ++ [a, b]) = foldP k (l ++ [node a b]) := by
  conv => lhs; unfold foldP
  have h1 : (l ++ [a, b]).length - 2 = l.length := by simp
  have h2 : (l ++ [a, b]).length - 1 = l.length + 1 := by simp
  rw [h1, h2]
  congr 2
  · simp
  · unfold node
    have h3 : (l ++ [a, b]).getD l.length [] = a := by simp
    have h4 : (l ++ [a, b]).getD (l.length + 1) [] = b := by simp
    rw [h3, h4]
theorem foldP_len : ∀ (k : Nat) (l : Sums), k + 1 ≤ l.length → (foldP k l).length = l.length - k := by
  intro k
  induction k with
  | zero => intro l _; rfl
  | succ k ih => intro l h; unfold foldP; rw [ih _ (by simp; omega)]; simp; omega
theorem split2 {l : Sums} (h : 2 ≤ l.length) : ∃ l' a b, l = l' ++ [a, b] := by
  refine ⟨l.take (l.length - 2), l[l.length - 2], l[l.length - 1], ?_⟩
  have h1 : l.drop (l.length - 2) = [l[l.length - 2], l[l.length - 1]] := by
    rw [List.drop_eq_getElem_cons (by omega), List.drop_eq_getElem_cons (by omega), List.drop_of_length_le (by omega)]
    congr 2
    congr 1
    omega
  rw [← h1, List.take_append_drop]
theorem foldP_cons : ∀ (k : Nat) (p : List UInt8) (l : Sums), k + 1 ≤ l.length → foldP k (p :: l) = p :: foldP k l := by
  intro k
  induction k with
  | zero => intro p l _; rfl
  | succ k ih =>
    intro p l h
    obtain ⟨l', a, b, rfl⟩ := split2 (l := l) (by omega)
    rw [← List.cons_append, foldP_two, foldP_two, List.cons_append, ih _ _ (by simp at h ⊢; omega)]
theorem foldP_add : ∀ (j k : Nat) (l : Sums), foldP (j + k) l = foldP k (foldP j l) := by
  intro j
  induction j with
  | zero => intro k l; simp [foldP]
  | succ j ih => intro k l; rw [show j + 1 + k = (j + k) + 1 from by omega]; exact ih k _
/-- The greatest power of two that is not above n. -/
def top (n : Nat) : Nat := 2 ^ Nat.log2 n
theorem top_le {n : Nat} (h : 1 ≤ n) : 1 ≤ top n ∧ top n ≤ n ∧ n < 2 * top n := by
  unfold top
  refine ⟨Nat.one_le_two_pow, Nat.log2_self_le (by omega), ?_⟩
  have := Nat.lt_log2_self (n := n)
  rw [Nat.pow_succ] at this; omega
theorem top_uniq {n e : Nat} (h1 : 2 ^ e ≤ n) (h2 : n < 2 * 2 ^ e) : top n = 2 ^ e := by
  unfold top
  have : Nat.log2 n = e := by
    have hp : 0 < 2 ^ e := Nat.two_pow_pos e
    rw [Nat.log2_eq_iff (by omega)]
    exact ⟨h1, by rw [Nat.pow_succ]; omega⟩
  rw [this]
def peaksF : Nat → Sums → Sums
  | 0, _ => []
  | f + 1, l => if l = [] then [] else rootP (l.take (top l.length)) :: peaksF f (l.drop (top l.length))
theorem peaksF_more : ∀ (f g : Nat) (l : Sums), l.length ≤ f → l.length ≤ g → peaksF f l = peaksF g l := by
  intro f
  induction f with
  | zero =>
    intro g l h1 h2
    obtain rfl : l = [] := List.eq_nil_of_length_eq_zero (by omega)
    cases g <;> rfl
  | succ f ih =>
    intro g l h1 h2
    cases g with
    | zero => obtain rfl : l = [] := List.eq_nil_of_length_eq_zero (by omega); rfl
    | succ g =>
      unfold peaksF
      by_cases hl : l = []
      · rw [if_pos hl, if_pos hl]
      · have hp : 1 ≤ l.length := List.length_pos_iff.2 hl
        have := top_le hp
        rw [if_neg hl, if_neg hl, ih g _ (by simp; omega) (by simp; omega)]
def peaks (l : Sums) : Sums := peaksF l.length l
theorem peaks_nil : peaks [] = [] := rfl
theorem peaks_cons {l : Sums} (h : l ≠ []) : peaks l = rootP (l.take (top l.length)) :: peaks (l.drop (top l.length)) := by
  have hp : 1 ≤ l.length := List.length_pos_iff.2 h
  have := top_le hp
  unfold peaks
  obtain ⟨f, hf⟩ : ∃ f, l.length = f + 1 := ⟨l.length - 1, by omega⟩
  conv => lhs; rw [hf]; unfold peaksF
  rw [if_neg h, peaksF_more f _ (l.drop (top l.length)) (by simp; omega) (Nat.le_refl _)]
theorem peaks_pow {l : Sums} {e : Nat} (h : l.length = 2 ^ e) : peaks l = [rootP l] := by
  have hp : 0 < 2 ^ e := Nat.two_pow_pos e
  have ht : top l.length = l.length := by rw [h]; exact top_uniq (Nat.le_refl _) (by omega)
  rw [peaks_cons (by rintro rfl; simp at h; omega), ht, List.take_length, List.drop_length, peaks_nil]
theorem peaks_split {a b : Sums} {e : Nat} (ha : a.length = 2 ^ e) (hb : b.length < 2 ^ e) : peaks (a ++ b) = rootP a :: peaks b := by
  have hp : 0 < 2 ^ e := Nat.two_pow_pos e
  have ht : top (a ++ b).length = a.length := by rw [ha]; exact top_uniq (by simp; omega) (by simp; omega)
  rw [peaks_cons (by intro h; have := congrArg List.length h; rw [List.length_append, List.length_nil] at this; omega), ht, List.take_left, List.drop_left]
theorem tz_pow : ∀ (e j : Nat), j < 2 ^ e → tz (2 ^ e + j) = if j + 1 = 2 ^ e then tz j + 1 else tz j := by
  intro e
  induction e with
  | zero =>
    intro j h
    obtain rfl : j = 0 := by simp at h; exact h
    rw [if_pos rfl, tz_odd (by rfl)]
    show 1 + tz 0 = tz 0 + 1
    omega
  | succ e ih =>
    intro j h
    rw [Nat.pow_succ] at h ⊢
    rcases Nat.mod_two_eq_zero_or_one j with hj | hj
    · rw [tz_even (by omega), tz_even hj, if_neg (by omega)]
    · rw [tz_odd (n := 2 ^ e * 2 + j) (by omega), tz_odd hj, show (2 ^ e * 2 + j) / 2 = 2 ^ e + j / 2 from by omega, ih (j / 2) (by omega)]
      by_cases hc : j / 2 + 1 = 2 ^ e
      · rw [if_pos hc, if_pos (by omega)]; omega
      · rw [if_neg hc, if_neg (by omega)]
theorem cut_pow {e : Nat} : cut (2 * 2 ^ e) = 2 ^ e := by
  have hp : 0 < 2 ^ e := Nat.two_pow_pos e
  have := top_uniq (n := 2 * 2 ^ e - 1) (e := e) (by omega) (by omega)
  unfold top at this
  unfold cut
  exact this
theorem pow_of_top {n : Nat} (h : 1 ≤ n) : ∃ e, top n = 2 ^ e := ⟨Nat.log2 n, rfl⟩
theorem peaks_len : ∀ (m : Nat) (xs : Sums), xs.length = m → tz m ≤ (peaks xs).length := by
  intro m
  induction m using Nat.strongRecOn with
  | _ m ih =>
    intro xs hm
    by_cases h0 : m = 0
    · subst h0; rw [tz_even rfl]; omega
    · obtain ⟨h1, h2, h3⟩ := top_le (n := m) (by omega)
      obtain ⟨e, he⟩ := pow_of_top (n := m) (by omega)
      have hxs : xs = xs.take (2 ^ e) ++ xs.drop (2 ^ e) := (List.take_append_drop _ _).symm
      rw [hxs, peaks_split (e := e) (by simp; omega) (by simp; omega)]
      have := ih (m - 2 ^ e) (by omega) (xs.drop (2 ^ e)) (by simp; omega)
      have ht := tz_pow e (m - 2 ^ e) (by omega)
      rw [show 2 ^ e + (m - 2 ^ e) = m from by omega] at ht
      rw [ht]
      simp only [List.length_cons]
      split <;> omega
theorem peaks_snoc : ∀ (m : Nat) (xs : Sums) (x : List UInt8), xs.length = m → foldP (tz m) (peaks xs ++ [x]) = peaks (xs ++ [x]) := by
  intro m
  induction m using Nat.strongRecOn with
  | _ m ih =>
    intro xs x hm
    by_cases h0 : m = 0
    · subst h0
      obtain rfl := List.eq_nil_of_length_eq_zero hm
      rw [tz_even rfl, peaks_nil]
      rw [peaks_pow (e := 0) (by simp)]; rfl
    · obtain ⟨h1, h2, h3⟩ := top_le (n := m) (by omega)
      obtain ⟨e, he⟩ := pow_of_top (n := m) (by omega)
      have hxs : xs = xs.take (2 ^ e) ++ xs.drop (2 ^ e) := (List.take_append_drop _ _).symm
      have ha : (xs.take (2 ^ e)).length = 2 ^ e := by simp; omega
      have hb : (xs.drop (2 ^ e)).length = m - 2 ^ e := by simp; omega
      have hi := ih (m - 2 ^ e) (by omega) (xs.drop (2 ^ e)) x hb
      have hl := peaks_len _ _ hb
      have ht := tz_pow e (m - 2 ^ e) (by omega)
      rw [show 2 ^ e + (m - 2 ^ e) = m from by omega] at ht
      generalize xs.take (2 ^ e) = a at hxs ha
      generalize xs.drop (2 ^ e) = b at hxs hb hi hl
      subst hxs
      rw [peaks_split ha (by omega), List.cons_append, ht]
      by_cases hc : m - 2 ^ e + 1 = 2 ^ e
      · rw [if_pos hc, foldP_add, foldP_cons _ _ _ (by simp; omega), hi, peaks_pow (l := b ++ [x]) (e := e) (by simp; omega)]
        rw [List.append_assoc, peaks_pow (l := a ++ (b ++ [x])) (e := e + 1) (by rw [Nat.pow_succ]; simp; omega)]
        have h4 := foldP_two [] (rootP a) (rootP (b ++ [x])) 0
        simp only [List.nil_append] at h4
        rw [show ([rootP a, rootP (b ++ [x])] : Sums) = rootP a :: [rootP (b ++ [x])] from rfl] at h4
        rw [Nat.zero_add] at h4
        rw [h4]
        have h5 := rootP_two (n := 2 * 2 ^ e) (l := a ++ (b ++ [x])) (by simp; omega) (by omega)
        rw [h5, cut_pow, ← ha, List.take_left, List.drop_left]; rfl
      · rw [if_neg hc, foldP_cons _ _ _ (by simp; omega), hi, List.append_assoc, peaks_split ha (by simp; omega)]
theorem frontP_peaks (xs : Sums) : frontP xs = peaks xs := by
  have : ∀ (n : Nat) (xs : Sums), xs.length = n → frontP xs = peaks xs := by
    intro n
    induction n with
    | zero => intro xs h; obtain rfl := List.eq_nil_of_length_eq_zero h; rfl
    | succ n ih =>
      intro xs h
      obtain ⟨ys, y, rfl⟩ : ∃ ys y, xs = ys ++ [y] := ⟨xs.dropLast, xs.getLast (by rintro rfl; simp at h), (List.dropLast_concat_getLast _).symm⟩
      rw [frontP_snoc, ih ys (by simp at h; exact h), peaks_snoc _ _ _ rfl]
  exact this _ _ rfl
theorem front_tz (xs : Sums) : tz xs.length ≤ (frontP xs).length := by rw [frontP_peaks]; exact peaks_len _ _ rfl
theorem peaks_root : ∀ (m : Nat) (xs : Sums), xs.length = m → 1 ≤ m → 1 ≤ (peaks xs).length ∧ foldP ((peaks xs).length - 1) (peaks xs) = [rootP xs] := by
  intro m
  induction m using Nat.strongRecOn with
  | _ m ih =>
    intro xs hm h0
    obtain ⟨h1, h2, h3⟩ := top_le (n := m) (by omega)
    obtain ⟨e, he⟩ := pow_of_top (n := m) (by omega)
    by_cases hc : m = 2 ^ e
    · rw [peaks_pow (e := e) (by omega)]; exact ⟨by simp, rfl⟩
    · have hxs : xs = xs.take (2 ^ e) ++ xs.drop (2 ^ e) := (List.take_append_drop _ _).symm
      have ha : (xs.take (2 ^ e)).length = 2 ^ e := by simp; omega
      have hb : (xs.drop (2 ^ e)).length = m - 2 ^ e := by simp; omega
      obtain ⟨hi1, hi⟩ := ih (m - 2 ^ e) (by omega) (xs.drop (2 ^ e)) hb (by omega)
      generalize xs.take (2 ^ e) = a at hxs ha
      generalize xs.drop (2 ^ e) = b at hxs hb hi hi1
      subst hxs
      rw [peaks_split ha (by omega)]
      refine ⟨by simp, ?_⟩
      rw [List.length_cons, Nat.add_sub_cancel, show (peaks b).length = ((peaks b).length - 1) + 1 from by omega, foldP_add, foldP_cons _ _ _ (by omega), hi]
      have h4 := foldP_two [] (rootP a) (rootP b) 0
      simp only [List.nil_append, Nat.zero_add] at h4
      rw [h4]
      have h5 := rootP_two (n := m) (l := a ++ b) hm (by omega)
      have hcut : cut m = 2 ^ e := by
        have := top_uniq (n := m - 1) (e := e) (by omega) (by omega)
        unfold top at this; unfold cut; exact this
      rw [h5, hcut, ← ha, List.take_left, List.drop_left]; rfl
theorem front_root {xs : Sums} (h : xs ≠ []) : 1 ≤ (frontP xs).length ∧ foldP ((frontP xs).length - 1) (frontP xs) = [rootP xs] := by
  rw [frontP_peaks]; exact peaks_root _ xs rfl (List.length_pos_iff.2 h)
theorem foldP_32 : ∀ (k : Nat) (l : Sums), All32 l → All32 (foldP k l) := by
  intro k
  induction k with
  | zero => intro l h; exact h
  | succ k ih => intro l h; unfold foldP; exact ih _ (all32_snoc h (by simp))
theorem frontP_32 {xs : Sums} (h : All32 xs) : All32 (frontP xs) := by
  have : ∀ (n : Nat) (xs : Sums), xs.length = n → All32 xs → All32 (frontP xs) := by
    intro n
    induction n with
    | zero => intro xs h _; obtain rfl := List.eq_nil_of_length_eq_zero h; intro x hx; simp [frontP_nil] at hx
    | succ n ih =>
      intro xs h h32
      obtain ⟨ys, y, rfl⟩ : ∃ ys y, xs = ys ++ [y] := ⟨xs.dropLast, xs.getLast (by rintro rfl; simp at h), (List.dropLast_concat_getLast _).symm⟩
      rw [frontP_snoc]
      refine foldP_32 _ _ ?_
      intro z hz
      rcases List.mem_append.1 hz with hz | hz
      · exact ih ys (by simp at h; exact h) (fun x hx => h32 x (by simp [hx])) z hz
      · exact h32 z (by simp at hz; simp [hz])
  exact this _ _ rfl h
end Go.Al
namespace Go.Al
open Go Go.RowKit Go.Proofs
set_option linter.unusedVariables false
set_option linter.unusedSimpArgs false
theorem fnew_ok (w : World) : Calls Tryz.prog 82 [].toArray w (fun e w' => ∃ f, e = .returned (.pointer (some ⟨f, 0, none⟩)) ∧ Mem w [] [(f, row [vI 1, vU 0, .slice none 0 0] 207)] w') := by
  have hm := Mem.init w
  refine calls_enter (n := 3) Tryz.func82 rfl rfl rfl ?_
  refine wp_sr (E := noPanic) noPanic_imp ?_
  refine rl_val rfl (v := (.pointer none)) (val_assign (v := (.pointer none)) rfl) ?_
  refine rl_nil ?_
  refine wp_sr (E := noPanic) noPanic_imp ?_
  refine rl_val rfl (v := (.agg [(vI 1), (vU 0), (.slice none 0 0)].toArray)) (val_build (ps := [(0, (vI 1))]) pl_207 zo_207 (plc_cons rfl (plc_nil)) (bok_cons rfl rfl (by decide) (bok_nil)) (cs := [(vI 1), (vU 0), (.slice none 0 0)]) rfl) ?_
  refine rl_box (v := (.agg [(vI 1), (vU 0), (.slice none 0 0)].toArray)) (xs := [(vI 1), (vU 0), (.slice none 0 0)]) rfl rfl rfl hm ?_
  intro b1 w2 hm
  refine rl_val rfl (v := (.pointer (some ⟨b1, 0, none⟩))) (val_assign (v := (.pointer (some ⟨b1, 0, none⟩))) rfl) ?_
  refine rl_nil ?_
  exact WP.ret (post_rets rfl (vs := [(.pointer (some ⟨b1, 0, none⟩))]) ⟨rfl, trivial⟩ rfl ⟨_, rfl, hm⟩)
theorem fnone_ok (f : Nat) (sz : Int) (v : Value) (w : World) (hf : RowL w f [vI 1, vU sz, v]) : Calls Tryz.prog 201 [.pointer (some ⟨f, 0, none⟩)].toArray w (Ret w (.bool false)) := by
  have hm := Mem.init w
  refine calls_enter (n := 12) Tryz.func201 rfl rfl rfl ?_
  refine wp_sr (E := noPanic) noPanic_imp ?_
  refine rl_val rfl (v := (.bool false)) (val_assign (v := (.bool false)) rfl) ?_
  refine rl_nil ?_
  refine wp_sr (E := noPanic) noPanic_imp ?_
  refine rl_val rfl (v := (.pointer (some ⟨f, 0, none⟩))) (val_move (v := (.pointer (some ⟨f, 0, none⟩))) rfl) ?_
  refine rl_val rfl (v := (.bool false)) (val_eqNilPtr (a := (some ⟨f, 0, none⟩)) rfl rfl up_123) ?_
  refine rl_val rfl (v := (.bool false)) (val_move (v := (.bool false)) rfl) ?_
  refine rl_valg ⟨5, false, rfl, .inl ⟨rfl, rfl⟩⟩ rfl (v := (.pointer (some ⟨f, 0, none⟩))) (val_move (v := (.pointer (some ⟨f, 0, none⟩))) rfl) ?_
  refine rl_valg ⟨5, false, rfl, .inl ⟨rfl, rfl⟩⟩ rfl (v := (.pointer (some ⟨f, 0, none⟩))) (val_nilCheck rfl) ?_
  refine rl_valg ⟨5, false, rfl, .inl ⟨rfl, rfl⟩⟩ rfl (v := (.pointer (some ⟨f, 0, none⟩))) (val_fieldAddr (d := 0) rfl fo_207_0) ?_
  refine rl_valg ⟨5, false, rfl, .inl ⟨rfl, rfl⟩⟩ rfl (v := (vI 1)) (val_load1 (v := (vI 1)) (off := 0) rfl ag_3 (hm.getL hf (by simp)) rfl) ?_
  refine rl_valg ⟨5, false, rfl, .inl ⟨rfl, rfl⟩⟩ rfl (v := (.bool false)) (val_eq (p := 1) (q := 0) rfl rfl) ?_
  refine rl_val rfl (v := (.bool false)) (val_pick_f (v := (.bool false)) rfl rfl) ?_
  refine rl_val rfl (v := (.bool false)) (val_assign (v := (.bool false)) rfl) ?_
  refine rl_nil ?_
  exact WP.ret (post_rets rfl (vs := [.bool false]) ⟨rfl, trivial⟩ rfl ⟨rfl, hm⟩)
theorem fadd_ok (xs : Sums) (x : List UInt8) (f n : Nat) (v : Value) (r : List (Nat × Obj)) (w : World) (hx : x.length = 32) (h32 : All32 xs) (hf : w.heap[f]? = some (row [vI 1, vU (xs.length : Int), v] 207)) (hv : VecIs v n 32 50 (sumsC (frontP xs)) r) (hn : (frontP xs).length = n) (hr : ∀ p ∈ r, w.heap[p.1]? = some p.2) (hne : ∀ p ∈ r, p.1 ≠ f) (hb : xs.length ≤ 1000000) (hb2 : n ≤ 1000000) :
    Calls Tryz.prog 89 [.pointer (some ⟨f, 0, none⟩), .agg (x.map v8).toArray].toArray w (fun e w' => e = .returned (vI 0) ∧ ∃ v' n' r', VecIs v' n' 32 50 (sumsC (frontP (xs ++ [x]))) r' ∧ (frontP (xs ++ [x])).length = n' ∧ Mem w (f :: r.map (·.1)) ((f, row [vI 1, vU ((xs ++ [x]).length : Int), v'] 207) :: r') w') := by
  have hx32s : All32 (frontP xs ++ [x]) := by
    intro z hz
    rcases List.mem_append.1 hz with hz | hz
    · exact frontP_32 h32 z hz
    · rw [List.mem_singleton.1 hz]; exact hx
  have hm := Mem.initFR hv hf hr hne
  refine calls_enter (n := 40) Tryz.func89 rfl rfl rfl ?_
  refine wp_sr (E := noPanic) noPanic_imp ?_
  refine rl_box (v := (.agg (x.map v8).toArray)) (xs := x.map v8) rfl rfl rfl hm ?_
  intro b1 w2 hm
  refine rl_val rfl (v := (vI 0)) (val_assign (v := (vI 0)) rfl) ?_
  refine rl_nil ?_
  refine WP.scope ?_
  refine WP.seq ?_
  refine wp_sr (E := noPanic) noPanic_imp ?_
  refine rl_val rfl (v := (.pointer (some ⟨f, 0, none⟩))) (val_move (v := (.pointer (some ⟨f, 0, none⟩))) rfl) ?_
  refine rl_call rfl (ent_static (args := [(.pointer (some ⟨f, 0, none⟩))]) Tryz.func201 rfl rfl rfl rfl) (fnone_ok f _ _ _ (hm.row (i := 1) rfl).l) ?_
  rintro _ w3 ⟨rfl, h4⟩
  refine callQ_ret ?_
  replace hm : Mem w (f :: r.map (·.1)) ([(b1, row (x.map v8) 50), (f, row ([(vI 1), (vU (xs.length : Int)), v]) 207)] ++ (r ++ [])) w3 := hm.call h4
  refine rl_nil ?_
  refine WP.cond_f rfl ?_
  refine WP.skip ?_
  refine wp_sr (E := noPanic) noPanic_imp ?_
  refine rl_val rfl (v := (vI 0)) (val_assign (v := (vI 0)) rfl) ?_
  refine rl_nil ?_
  refine WP.seq (WP.label ?_)
  refine WP.seq ?_
  refine wp_sr (E := noPanic) noPanic_imp ?_
  refine rl_val rfl (v := (.pointer (some ⟨f, 0, none⟩))) (val_move (v := (.pointer (some ⟨f, 0, none⟩))) rfl) ?_
  refine rl_val rfl (v := (.pointer (some ⟨f, 0, none⟩))) (val_nilCheck rfl) ?_
  refine rl_val rfl (v := (.pointer (some ⟨f, 1, none⟩))) (val_fieldAddr (d := 1) rfl fo_207_1) ?_
  refine rl_val rfl (v := (vU (xs.length : Int))) (val_load1 (v := (vU (xs.length : Int))) (off := 1) rfl ag_44 (hm.row (i := 1) rfl).l rfl) ?_
  refine rl_val rfl (v := (vU (xs.length : Int))) (val_assign (v := (vU (xs.length : Int))) rfl) ?_
  refine rl_nil ?_
  refine WP.block ?_
  have hfl := front_tz xs
  refine WP.loop (fun k τ w' => ∃ (m : Nat) (st : Nat), m = k ∧ tz xs.length = st + tz m ∧ Mem w (f :: r.map (·.1)) ([(b1, row (x.map v8) 50), (f, row ([(vI 1), (vU (xs.length : Int)), v]) 207)] ++ (r ++ [])) w' ∧ τ 0 = (.pointer (some ⟨f, 0, none⟩)) ∧ τ 3 = (.pointer (some ⟨b1, 0, none⟩)) ∧ τ 4 = (vI 0) ∧ τ 5 = (vI (st : Int)) ∧ τ 6 = (vU (m : Int))) (xs.length) ?_ ?_
  · exact ⟨xs.length, 0, rfl, by omega, hm, rfl, rfl, rfl, (by first | rfl | (refine int_eq ?_; simp; try omega) | (refine int_eq ?_; omega)), (by first | rfl | (refine int_eq ?_; simp; try omega) | (refine int_eq ?_; omega))⟩
  · rintro kk6 τ wl5 ⟨m, st, hk7, htz, hm, hs8, hs9, hs10, hs11, hs12⟩
    refine WP.seq (WP.block ?_)
    refine WP.seq ?_
    refine wp_sr (E := noPanic) noPanic_imp ?_
    refine rl_val rfl (v := (vU (m : Int))) (val_move (v := (vU (m : Int))) hs12) ?_
    refine rl_val rfl (v := (vU ((m : Int) % 2))) (val_maskU 1 (by decide) (p := (m : Int)) rfl rfl) ?_
    refine rl_nil ?_
    refine WP.block ?_
    refine wp_sr (E := noPanic) noPanic_imp ?_
    refine rl_val rfl (v := (.bool (decide (((m : Int) % 2 : Int) = 0)))) (val_eq (p := (m : Int) % 2) (q := 0) rfl rfl) ?_
    refine rl_val rfl (v := (.bool (decide (((m : Int) % 2 : Int) = 0)))) (val_assign (v := (.bool (decide (((m : Int) % 2 : Int) = 0)))) rfl) ?_
    refine rl_nil ?_
    refine WP.cond (b := decide (((m : Int) % 2 : Int) = 0)) rfl (fun hb => ?_) (fun hb => ?_)
    ·
      have hq13 := of_decide_eq_true hb
      have hst : tz xs.length = st := by rw [htz, tz_even (by omega)]; rfl
      have hfl := front_tz xs
      refine WP.exit ?_
      repeat (first | with_reducible refine exit_pass ?_ | with_reducible refine exit_other rfl ?_)
      refine blk_here ?_
      refine wp_sd (E := noPanic) [(0, true), (1, true), (2, true), (3, true), (4, true), (5, true), (8, true), (6, false), (7, false), (9, false), (10, false), (11, false), (12, false)] mixed (by kernel_rfl) (by kernel_rfl) rfl (fun w' => Mem w (f :: r.map (·.1)) [(b1, row (x.map v8) 50), (f, row ([(vI 1), (vU (xs.length : Int)), v]) 207)] w') noPanic_imp (hm.sub (by ((try (simp only [List.append_assoc, List.nil_append, List.append_nil, List.cons_append])); repeat (first | exact List.nil_sublist _ | exact List.Sublist.refl _ | with_reducible refine List.Sublist.cons_cons _ ?_ | with_reducible refine List.Sublist.append (List.Sublist.refl _) ?_ | with_reducible exact List.sublist_append_left _ _ | refine List.Sublist.cons _ ?_ | refine List.Sublist.trans ?_ (List.sublist_append_right _ _))))).drew ?_
      have hm := hm.drew
      refine rp_val rfl rfl (v := (.pointer (some ⟨f, 0, none⟩))) (fun w' hs => val_move (v := (.pointer (some ⟨f, 0, none⟩))) hs8) ?_
      refine rp_val rfl rfl (v := (.pointer (some ⟨f, 0, none⟩))) (fun w' hs => val_move (v := (.pointer (some ⟨f, 0, none⟩))) hs8) ?_
      refine rp_val rfl rfl (v := (.pointer (some ⟨f, 0, none⟩))) (fun w' hs => val_nilCheck rfl) ?_
      refine rp_val rfl rfl (v := (.pointer (some ⟨f, 2, none⟩))) (fun w' hs => val_fieldAddr (d := 2) rfl fo_207_2) ?_
      refine rp_val rfl rfl (v := v) (fun w' hs => val_load1 (v := v) (off := 2) rfl ag_53 (hs.row (i := 1) rfl).l rfl) ?_
      refine rp_val rfl rfl (v := (.agg (x.map v8).toArray)) (fun w' hs => val_loadAll hs9 ag_50 (hs.row (i := 0) rfl).l (by simp [hx]) (by decide)) ?_
      refine rp_val rfl rfl (v := (vI (st : Int))) (fun w' hs => val_move (v := (vI (st : Int))) hs11) ?_
      refine rp_buildSlice (vs := [(.agg (x.map v8).toArray)]) (cs := (x.map v8)) rfl rfl ez_53 rfl (parts_cons rfl (parts_nil)) rfl (by decide) (by intro v hv; simp only [List.mem_singleton] at hv; subst hv; simp [Value.cells, hx]) (by simp [Value.cells]) hm (fun b w' h => .inr (h.sub (by ((try (simp only [List.append_assoc, List.nil_append, List.append_nil, List.cons_append])); repeat (first | exact List.nil_sublist _ | exact List.Sublist.refl _ | with_reducible refine List.Sublist.cons_cons _ ?_ | with_reducible refine List.Sublist.append (List.Sublist.refl _) ?_ | with_reducible exact List.sublist_append_left _ _ | refine List.Sublist.cons _ ?_ | refine List.Sublist.trans ?_ (List.sublist_append_right _ _)))))) ?_
      intro b14 w15 hm
      refine rp_appendS (l1 := ([(b14, row (x.map v8) 50), (b1, row (x.map v8) 50), (f, row ([(vI 1), (vU (xs.length : Int)), v]) 207)] ++ [])) (l2 := []) (r := r) (v := v) (xs := (sumsC (frontP xs))) (news := (x.map v8)) rfl rfl ez_53 rfl (by decide) (by decide) rfl rfl hv (by simpa only [List.append_assoc, List.nil_append, List.append_nil, List.cons_append] using hm) (SlIs.of (own := []) (by simp) (hm.row (i := 0) rfl).l (by simp [List.take_of_length_le, hx]) (by simp [hx]) (by omega)) (one_map8 _) (by omega) ?_
      intro v16 r17 w19 hv18 hm
      refine ⟨.inr (hm.sub (by ((try (simp only [List.append_assoc, List.nil_append, List.append_nil, List.cons_append])); repeat (first | exact List.nil_sublist _ | exact List.Sublist.refl _ | with_reducible refine List.Sublist.cons_cons _ ?_ | with_reducible refine List.Sublist.append (List.Sublist.refl _) ?_ | with_reducible exact List.sublist_append_left _ _ | refine List.Sublist.cons _ ?_ | refine List.Sublist.trans ?_ (List.sublist_append_right _ _))))), ?_⟩
      replace hm : Mem w (f :: r.map (·.1)) ([(b14, row (x.map v8) 50), (b1, row (x.map v8) 50), (f, row ([(vI 1), (vU (xs.length : Int)), v]) 207)] ++ (r17 ++ [])) w19 := by simpa only [List.append_assoc, List.nil_append, List.append_nil, List.cons_append] using hm
      have hva : VecIs v16 (n + 1) 32 50 (sumsC (frontP xs ++ [x])) r17 := by rw [sumsC_app]; simpa [sumsC] using hv18
      refine rp_call rfl rfl (ent_static (args := [v16, (vI (st : Int)), (.func (.func 203) #[] #[])]) Tryz.func202 rfl rfl rfl rfl) (fold_ok (frontP xs ++ [x]) _ (n + 1) st r17 _ (by simp [hn]) hx32s hva (fun p hp => hm.rows p (by simp [hp])) (by omega) (by omega)) ?_
      rintro _ w20 ⟨v22, r23, rfl, hv24, h21⟩
      refine callQ_ret ?_
      replace hm := Mem.callVec (l1 := [(b14, row (x.map v8) 50), (b1, row (x.map v8) 50), (f, row ([(vI 1), (vU (xs.length : Int)), v]) 207)]) (l2 := []) (by simpa only [List.append_assoc, List.nil_append, List.append_nil, List.cons_append] using hm) hva h21
      refine ⟨.inr (hm.sub (by ((try (simp only [List.append_assoc, List.nil_append, List.append_nil, List.cons_append])); repeat (first | exact List.nil_sublist _ | exact List.Sublist.refl _ | with_reducible refine List.Sublist.cons_cons _ ?_ | with_reducible refine List.Sublist.append (List.Sublist.refl _) ?_ | with_reducible exact List.sublist_append_left _ _ | refine List.Sublist.cons _ ?_ | refine List.Sublist.trans ?_ (List.sublist_append_right _ _))))), ?_⟩
      replace hm : Mem w (f :: r.map (·.1)) ([(b14, row (x.map v8) 50), (b1, row (x.map v8) 50), (f, row ([(vI 1), (vU (xs.length : Int)), v]) 207)] ++ (r23 ++ [])) w20 := by simpa only [List.append_assoc, List.nil_append, List.append_nil, List.cons_append] using hm
      rw [← hst, ← frontP_snoc] at hv24
      refine rp_vale rfl rfl (v := (.pointer (some ⟨f, 0, none⟩))) (val_nilCheck rfl) (.inl (by kernel_rfl)) ?_
      refine rp_vale rfl rfl (v := (.pointer (some ⟨f, 2, none⟩))) (val_fieldAddr (d := 2) rfl fo_207_2) (.inl (by kernel_rfl)) ?_
      refine rp_store (i := 2) (off := 2) (xs := ([(vI 1), (vU (xs.length : Int)), v])) (vs := [v22]) rfl rfl rfl rfl ag_53 hm rfl (cells_one1 hv24.isOne) rfl (by simp) (ones_cons hv24.isOne ones_nil) (by kernel_rfl) ?_
      intro w25 hm
      replace hm : Mem w (f :: r.map (·.1)) ([(b14, row (x.map v8) 50), (b1, row (x.map v8) 50), (f, row ([(vI 1), (vU (xs.length : Int)), v22]) 207)] ++ (r23 ++ [])) w25 := hm
      refine rp_nil ?_
      refine wp_sr (E := noPanic) noPanic_imp ?_
      refine rl_val rfl (v := (.pointer (some ⟨f, 0, none⟩))) (val_move (v := (.pointer (some ⟨f, 0, none⟩))) hs8) ?_
      refine rl_val rfl (v := (.pointer (some ⟨f, 0, none⟩))) (val_nilCheck rfl) ?_
      refine rl_val rfl (v := (.pointer (some ⟨f, 1, none⟩))) (val_fieldAddr (d := 1) rfl fo_207_1) ?_
      refine rl_val rfl (v := (vU (xs.length : Int))) (val_load1 (v := (vU (xs.length : Int))) (off := 1) rfl ag_44 (hm.row (i := 2) rfl).l rfl) ?_
      refine rl_val rfl (v := (vU ((xs ++ [x]).length : Int))) (val_cast (val_addU (p := (xs.length : Int)) (q := 1) rfl rfl (by omega)) (by simp)) ?_
      refine rl_val rfl (v := (.pointer (some ⟨f, 0, none⟩))) (val_nilCheck rfl) ?_
      refine rl_val rfl (v := (.pointer (some ⟨f, 1, none⟩))) (val_fieldAddr (d := 1) rfl fo_207_1) ?_
      refine rl_store (i := 2) (off := 1) (xs := ([(vI 1), (vU (xs.length : Int)), v22])) (vs := [(vU ((xs ++ [x]).length : Int))]) rfl rfl rfl ag_44 hm rfl rfl rfl (by simp) (by simp [Value.one]) ?_
      intro w26 hm
      replace hm : Mem w (f :: r.map (·.1)) ([(b14, row (x.map v8) 50), (b1, row (x.map v8) 50), (f, row ([(vI 1), (vU ((xs ++ [x]).length : Int)), v22]) 207)] ++ (r23 ++ [])) w26 := hm
      refine rl_nil ?_
      refine wp_sr (E := noPanic) noPanic_imp ?_
      refine rl_val rfl (v := (vI 0)) (val_assign (v := (vI 0)) rfl) ?_
      refine rl_nil ?_
      refine WP.ret ?_
      refine scope_ret ?_
      exact (post_rets rfl (vs := [vI 0]) ⟨rfl, trivial⟩ rfl ⟨rfl, _, _, _, hv24, by rw [frontP_snoc, foldP_len _ _ (by simp; omega)]; simp [hn], hm.sub (l2 := (f, row ([(vI 1), (vU ((xs ++ [x]).length : Int)), v22]) 207) :: r23) (by ((try (simp only [List.append_assoc, List.nil_append, List.append_nil, List.cons_append])); repeat (first | exact List.nil_sublist _ | exact List.Sublist.refl _ | with_reducible refine List.Sublist.cons_cons _ ?_ | with_reducible refine List.Sublist.append (List.Sublist.refl _) ?_ | with_reducible exact List.sublist_append_left _ _ | refine List.Sublist.cons _ ?_ | refine List.Sublist.trans ?_ (List.sublist_append_right _ _))))⟩)
    ·
      have hq27 := of_decide_eq_false hb
      have hodd : m % 2 = 1 := by omega
      refine WP.skip ?_
      refine wp_r (E := noPanic) noPanic_imp ?_
      refine rl_val rfl (v := (vI (st : Int))) (val_move (v := (vI (st : Int))) hs11) ?_
      refine rl_val rfl (v := (vI ((st : Int) + 1))) (val_addI (p := (st : Int)) (q := 1) rfl rfl (by omega)) ?_
      refine rl_val rfl (v := (vI ((st : Int) + 1))) (val_assign (v := (vI ((st : Int) + 1))) rfl) ?_
      refine rl_nil ?_
      refine wp_r (E := noPanic) noPanic_imp ?_
      refine rl_val rfl (v := (vU (m : Int))) (val_move (v := (vU (m : Int))) hs12) ?_
      refine rl_val rfl (v := (vU ((m / 2 : Nat) : Int))) (val_cast (val_shr (p := (m : Int)) (q := ((1 : Nat) : Int)) rfl rfl (by omega)) (by rw [shr_nat _ _ (by omega)])) ?_
      refine rl_val rfl (v := (vU ((m / 2 : Nat) : Int))) (val_assign (v := (vU ((m / 2 : Nat) : Int))) rfl) ?_
      refine rl_nil ?_
      exact ⟨(m / 2), by omega, ⟨m / 2, st + 1, rfl, by rw [htz, tz_odd hodd]; omega, hm, hs8, hs9, hs10, (by first | rfl | (refine int_eq ?_; simp; try omega) | (refine int_eq ?_; omega)), rfl⟩⟩
theorem froot_ok (xs : Sums) (f n c : Nat) (a : Option Addr) (w : World) (h32 : All32 xs) (hf : RowL w f [vI 1, vU (xs.length : Int), .slice a n c]) (hs : SlIs w [] (.slice a n c) 32 n (sumsC (frontP xs))) (hn : (frontP xs).length = n) (hb : xs.length ≤ 1000000) (hb2 : n ≤ 1000000) :
    Calls Tryz.prog 90 [.pointer (some ⟨f, 0, none⟩)].toArray w (Ret w (.agg ((rootE xs).map v8).toArray)) := by
  have hm := Mem.init w
  refine calls_enter (n := 28) Tryz.func90 rfl rfl rfl ?_
  refine wp_sr (E := noPanic) noPanic_imp ?_
  refine rl_alloc (xs := List.replicate 32 (v8 0)) rfl zo_50 hm ?_
  intro b1 w2 hm
  refine rl_nil ?_
  refine WP.seq (WP.block ?_)
  refine wp_sr (E := noPanic) noPanic_imp ?_
  refine rl_val rfl (v := (.pointer (some ⟨f, 0, none⟩))) (val_move (v := (.pointer (some ⟨f, 0, none⟩))) rfl) ?_
  refine rl_call rfl (ent_static (args := [(.pointer (some ⟨f, 0, none⟩))]) Tryz.func201 rfl rfl rfl rfl) (fnone_ok f _ _ _ (hm.getL hf (by simp))) ?_
  rintro _ w3 ⟨rfl, h4⟩
  refine callQ_ret ?_
  replace hm : Mem w [] [(b1, row (List.replicate 32 (v8 0)) 50)] w3 := hm.call h4
  refine rl_val rfl (v := (.bool false)) (val_assign (v := (.bool false)) rfl) ?_
  refine rl_nil ?_
  refine WP.cond_f rfl ?_
  refine wp_sr (E := noPanic) noPanic_imp ?_
  refine rl_val rfl (v := (.pointer (some ⟨f, 0, none⟩))) (val_move (v := (.pointer (some ⟨f, 0, none⟩))) rfl) ?_
  refine rl_val rfl (v := (.pointer (some ⟨f, 0, none⟩))) (val_nilCheck rfl) ?_
  refine rl_val rfl (v := (.pointer (some ⟨f, 1, none⟩))) (val_fieldAddr (d := 1) rfl fo_207_1) ?_
  refine rl_val rfl (v := (vU (xs.length : Int))) (val_load1 (v := (vU (xs.length : Int))) (off := 1) rfl ag_44 (hm.getL hf (by simp)) rfl) ?_
  refine rl_val rfl (v := (.bool (decide (((xs.length : Int) : Int) = 0)))) (val_eq (p := (xs.length : Int)) (q := 0) rfl rfl) ?_
  refine rl_val rfl (v := (.bool (decide (((xs.length : Int) : Int) = 0)))) (val_assign (v := (.bool (decide (((xs.length : Int) : Int) = 0)))) rfl) ?_
  refine rl_nil ?_
  refine WP.cond (b := decide (((xs.length : Int) : Int) = 0)) rfl (fun hb => ?_) (fun hb => ?_)
  ·
    have hq5 := of_decide_eq_true hb
    obtain rfl : xs = [] := List.eq_nil_of_length_eq_zero (by omega)
    refine wp_sr (E := noPanic) noPanic_imp ?_
    refine rl_call rfl (ent_static (args := [(.slice none 0 0)]) Tryz.func96 rfl rfl rfl rfl) (root_ok [] _ _ _ _ rfl (by intro x hx; simp at hx) SlIs.nil (by omega)) ?_
    rintro _ w6 ⟨rfl, h7⟩
    refine callQ_ret ?_
    replace hm : Mem w [] [(b1, row (List.replicate 32 (v8 0)) 50)] w6 := hm.call h7
    refine rl_store (i := 0) (off := 0) (xs := (List.replicate 32 (v8 0))) (vs := (rootE []).map v8) rfl rfl rfl ag_50 hm rfl rfl (by simp [rootE_len h32]) (by simp) (one_map8 _) ?_
    intro w8 hm
    rw [spl_all (n := 32) (by simp) (by simp [rootE_len h32])] at hm
    replace hm : Mem w [] [(b1, row ((rootE []).map v8) 50)] w8 := hm
    refine rl_nil ?_
    exact WP.ret (post_rets rfl (vs := [.agg ((rootE []).map v8).toArray]) ⟨⟨true, 32, _, 0, _, rfl, ag_50, (hm.row (i := 0) rfl).l, by simp [rootE_len h32], by decide, by simp [rd, List.take_of_length_le, rootE_len h32]⟩, trivial⟩ rfl ⟨rfl, hm.nil⟩)
  ·
    have hq9 := of_decide_eq_false hb
    have hne : xs ≠ [] := by rintro rfl; simp at hq9
    obtain ⟨hfl, hfr⟩ := front_root hne
    have hr32 := rootP_len xs (List.length_pos_iff.2 hne) h32
    refine WP.skip ?_
    refine wp_sd (E := noPanic) [(0, true), (1, true), (2, true), (3, true), (5, true), (6, true), (7, true), (8, true), (9, true), (10, true), (4, false), (11, false), (12, false), (13, false), (14, false)] mixed (by kernel_rfl) (by kernel_rfl) rfl (fun w' => Mem w [] [(b1, row (List.replicate 32 (v8 0)) 50)] w') noPanic_imp hm.drew ?_
    have hm := hm.drew
    refine rp_val rfl rfl (v := (.pointer (some ⟨f, 0, none⟩))) (fun w' hs => val_move (v := (.pointer (some ⟨f, 0, none⟩))) rfl) ?_
    refine rp_val rfl rfl (v := (.pointer (some ⟨f, 0, none⟩))) (fun w' hs => val_nilCheck rfl) ?_
    refine rp_val rfl rfl (v := (.pointer (some ⟨f, 2, none⟩))) (fun w' hs => val_fieldAddr (d := 2) rfl fo_207_2) ?_
    refine rp_val rfl rfl (v := (.slice a n c)) (fun w' hs => val_load1 (v := (.slice a n c)) (off := 2) rfl ag_53 (hs.getL hf (by simp)) rfl) ?_
    refine rp_val rfl rfl (v := (.pointer (some ⟨f, 0, none⟩))) (fun w' hs => val_move (v := (.pointer (some ⟨f, 0, none⟩))) rfl) ?_
    refine rp_val rfl rfl (v := (.pointer (some ⟨f, 0, none⟩))) (fun w' hs => val_nilCheck rfl) ?_
    refine rp_val rfl rfl (v := (.pointer (some ⟨f, 2, none⟩))) (fun w' hs => val_fieldAddr (d := 2) rfl fo_207_2) ?_
    refine rp_val rfl rfl (v := (.slice a n c)) (fun w' hs => val_load1 (v := (.slice a n c)) (off := 2) rfl ag_53 (hs.getL hf (by simp)) rfl) ?_
    refine rp_val rfl rfl (v := (vI (n : Nat))) (fun w' hs => val_lenSl (t := 53) rfl us_53 rfl) ?_
    refine rp_val rfl rfl (v := (vI ((n - 1 : Nat) : Int))) (fun w' hs => val_cast (val_subI (p := (n : Int)) (q := 1) rfl rfl (by omega)) (int_eq (by omega))) ?_
    refine rp_call rfl rfl (ent_static (args := [(.slice a n c)]) Tryz.func204 rfl rfl rfl rfl) (cloneS_ok _ _ _ _ _ (hs.mem (own2 := []) hm (by simp)) sumsC_one (by omega)) ?_
    rintro _ w10 ⟨v12, r13, rfl, hv14, h11⟩
    refine callQ_ret ?_
    refine ⟨.inr ((hm.call h11).sub (by ((try (simp only [List.append_assoc, List.nil_append, List.append_nil, List.cons_append])); repeat (first | exact List.nil_sublist _ | exact List.Sublist.refl _ | with_reducible refine List.Sublist.cons_cons _ ?_ | with_reducible refine List.Sublist.append (List.Sublist.refl _) ?_ | with_reducible exact List.sublist_append_left _ _ | refine List.Sublist.cons _ ?_ | refine List.Sublist.trans ?_ (List.sublist_append_right _ _))))), ?_⟩
    replace hm := (hm.call h11).comm
    replace hm : Mem w [] ([(b1, row (List.replicate 32 (v8 0)) 50)] ++ (r13 ++ [])) w10 := by simpa only [List.append_assoc, List.nil_append, List.append_nil, List.cons_append] using hm
    refine rp_call rfl rfl (ent_static (args := [v12, (vI ((n - 1 : Nat) : Int)), (.func (.func 203) #[] #[])]) Tryz.func202 rfl rfl rfl rfl) (fold_ok (frontP xs) _ n (n - 1) r13 _ hn (frontP_32 h32) hv14 (fun p hp => hm.rows p (by simp [hp])) (by omega) (by omega)) ?_
    rintro _ w15 ⟨v17, r18, rfl, hv19, h16⟩
    refine callQ_ret ?_
    replace hm := Mem.callVec (l1 := [(b1, row (List.replicate 32 (v8 0)) 50)]) (l2 := []) (by simpa only [List.append_assoc, List.nil_append, List.append_nil, List.cons_append] using hm) hv14 h16
    refine ⟨.inr (hm.sub (by ((try (simp only [List.append_assoc, List.nil_append, List.append_nil, List.cons_append])); repeat (first | exact List.nil_sublist _ | exact List.Sublist.refl _ | with_reducible refine List.Sublist.cons_cons _ ?_ | with_reducible refine List.Sublist.append (List.Sublist.refl _) ?_ | with_reducible exact List.sublist_append_left _ _ | refine List.Sublist.cons _ ?_ | refine List.Sublist.trans ?_ (List.sublist_append_right _ _))))), ?_⟩
    replace hm : Mem w [] ([(b1, row (List.replicate 32 (v8 0)) 50)] ++ (r18 ++ [])) w15 := by simpa only [List.append_assoc, List.nil_append, List.append_nil, List.cons_append] using hm
    rw [← hn, hfr, hn] at hv19
    obtain ⟨g, cap, rest, rfl, hc1, hc2, hxl, hrl, rfl⟩ := hv19.pos (by omega)
    replace hm : Mem w [] [(b1, row (List.replicate 32 (v8 0)) 50), (g, row (sumsC [rootP xs] ++ rest) 50)] w15 := by simpa only [List.append_assoc, List.nil_append, List.append_nil, List.cons_append] using hm
    refine rp_vale rfl rfl (v := (.pointer (some ⟨g, 0, none⟩))) (val_cast (val_indexSl (i := 0) (sz := 32) rfl rfl es_53 (by omega)) (ptr_eq (by omega))) (.inl (by kernel_rfl)) ?_
    refine rp_vale rfl rfl (v := (.agg ((rootP xs).map v8).toArray)) (val_loadA (m := (rootP xs).map v8) (off := 0) rfl ag_50 (hm.row (i := 1) rfl).l (by have := sums_at (k := 0) (ss := [rootP xs]) (rest := rest) (by intro z hz; rw [List.mem_singleton.1 hz]; exact hr32) rfl; simpa using this) (by simp only [List.length_append, hxl]; omega) (by decide)) (.inl (by kernel_rfl)) ?_
    refine rp_store (i := 0) (off := 0) (xs := (List.replicate 32 (v8 0))) (vs := (rootP xs).map v8) rfl rfl rfl rfl ag_50 hm rfl rfl (by simp [hr32]) (by simp) (one_map8 _) (by kernel_rfl) ?_
    intro w20 hm
    rw [spl_all (n := 32) (by simp) (by simp [hr32])] at hm
    replace hm : Mem w [] [(b1, row ((rootP xs).map v8) 50), (g, row (sumsC [rootP xs] ++ rest) 50)] w20 := hm
    refine rp_nil ?_
    exact WP.ret (post_rets rfl (vs := [.agg ((rootE xs).map v8).toArray]) ⟨⟨true, 32, _, 0, _, rfl, ag_50, (hm.row (i := 0) rfl).l, by simp [hr32], by decide, by rw [rootE_pos (List.length_pos_iff.2 hne)]; simp [rd, List.take_of_length_le, hr32]⟩, trivial⟩ rfl ⟨rfl, hm.nil⟩)
end Go.Al
namespace Go.Al
open Go Go.RowKit
set_option linter.unusedVariables false
set_option linter.unusedSimpArgs false
theorem flat_len {f : Nat → List Value} {k : Nat} : ∀ n, (∀ i, i < n → (f i).length = k) → ((List.range n).flatMap f).length = n * k := by
  intro n
  induction n with
  | zero => intro _; simp
  | succ n ih => intro h; rw [List.range_succ, List.flatMap_append, List.length_append, ih (fun i hi => h i (by omega))]; simp [h n (by omega), Nat.succ_mul]
theorem flat_split {f : Nat → List Value} {k n i : Nat} (h : ∀ i, i < n → (f i).length = k) (hi : i < n) : ∃ a b, (List.range n).flatMap f = a ++ (f i ++ b) ∧ a.length = i * k := by
  refine ⟨(List.range i).flatMap f, ((List.range (n - (i + 1))).map (· + (i + 1))).flatMap f, ?_, flat_len i (fun j hj => h j (by omega))⟩
  have h1 : List.range n = List.range i ++ (i :: (List.range (n - (i + 1))).map (· + (i + 1))) := by
    apply List.ext_getElem?
    intro j
    by_cases hj : j < n
    · rw [List.getElem?_range hj, List.getElem?_append]
      simp only [List.length_range]
      by_cases h1 : j < i
      · rw [if_pos h1, List.getElem?_range h1]
      · rw [if_neg h1]
        by_cases h2 : j = i
        · subst h2; simp
        · rw [show j - i = (j - (i + 1)) + 1 from by omega, List.getElem?_cons_succ, List.getElem?_map, List.getElem?_range (by omega)]
          simp; omega
    · rw [List.getElem?_eq_none (by simp; omega), List.getElem?_eq_none (by simp; omega)]
  rw [h1, List.flatMap_append, List.flatMap_cons]
theorem chunk_at {f : Nat → List Value} {k n i : Nat} {rest : List Value} (h : ∀ i, i < n → (f i).length = k) (hi : i < n) : (((List.range n).flatMap f ++ rest).drop (i * k)).take k = f i := by
  obtain ⟨a, b, h1, h2⟩ := flat_split h hi
  rw [h1, List.append_assoc, ← h2, List.drop_left, List.append_assoc, List.take_append_of_le_length (by rw [h i hi]; exact Nat.le_refl _), List.take_of_length_le (by rw [h i hi]; exact Nat.le_refl _)]
theorem chunk_cell {f : Nat → List Value} {k n i j : Nat} {rest : List Value} (h : ∀ i, i < n → (f i).length = k) (hi : i < n) (hj : j < k) : ((List.range n).flatMap f ++ rest)[i * k + j]? = (f i)[j]? := by
  obtain ⟨a, b, h1, h2⟩ := flat_split h hi
  rw [h1, List.append_assoc, ← h2, List.getElem?_append_right (by omega), show a.length + j - a.length = j from by omega, List.append_assoc, List.getElem?_append_left (by rw [h i hi]; exact hj)]
theorem chunk_part {f : Nat → List Value} {k n i off m : Nat} {rest : List Value} (h : ∀ i, i < n → (f i).length = k) (hi : i < n) (hj : off + m ≤ k) : (((List.range n).flatMap f ++ rest).drop (i * k + off)).take m = ((f i).drop off).take m := by
  obtain ⟨a, b, h1, h2⟩ := flat_split h hi
  have hl := h i hi
  rw [h1, List.append_assoc, ← h2, ← List.drop_drop, List.drop_left, List.append_assoc, List.drop_append_of_le_length (by omega), List.take_append_of_le_length (by simp; omega)]
theorem flat_take {f : Nat → List Value} {k n m : Nat} (h : ∀ i, i < n → (f i).length = k) (hm : m ≤ n) : ((List.range n).flatMap f).take (m * k) = (List.range m).flatMap f := by
  have hr : List.range n = List.range m ++ (List.range (n - m)).map (· + m) := by
    apply List.ext_getElem?
    intro j
    by_cases hj : j < n
    · rw [List.getElem?_range hj, List.getElem?_append]
      simp only [List.length_range]
      by_cases h1 : j < m
      · rw [if_pos h1, List.getElem?_range h1]
      · rw [if_neg h1, List.getElem?_map, List.getElem?_range (by omega)]; simp; omega
    · rw [List.getElem?_eq_none (by simp; omega), List.getElem?_eq_none (by simp; omega)]
  rw [hr, List.flatMap_append]
  have := flat_len (f := f) (k := k) m (fun i hi => h i (by omega))
  rw [← this, List.take_left]
abbrev Bytes := List UInt8
def leafP (b : Bytes) : Bytes := sha (0 :: b)
def z32 : Bytes := List.replicate 32 0
def markP (bs : List Bytes) : Bytes := bs.foldl (fun m b => sha (m ++ leafP b)) z32
def rootsP (bs : List Bytes) : Bytes := rootE (bs.map leafP)
@[simp] theorem leafP_len (b : Bytes) : (leafP b).length = 32 := by simp [leafP]
@[simp] theorem z32_len : z32.length = 32 := by simp [z32]
theorem markP_snoc (bs : List Bytes) (b : Bytes) : markP (bs ++ [b]) = sha (markP bs ++ leafP b) := by simp [markP]
@[simp] theorem markP_len (bs : List Bytes) : (markP bs).length = 32 := by
  by_cases h : bs = []
  · subst h; exact z32_len
  · rw [← List.dropLast_concat_getLast h, markP_snoc, sha_len]
theorem leaves_32 (bs : List Bytes) : All32 (bs.map leafP) := by
  intro x hx; obtain ⟨b, _, rfl⟩ := List.mem_map.1 hx; simp
@[simp] theorem rootsP_len (bs : List Bytes) : (rootsP bs).length = 32 := rootE_len (leaves_32 bs)
def entC (s1 s2 s3 : Bytes) (v : Value) : List Value := s1.map v8 ++ (s2.map v8 ++ (s3.map v8 ++ [v]))
def entAt (bs : List Bytes) (bvs : List Value) (i : Nat) : List Value := entC (leafP (bs.getD i [])) (markP (bs.take (i + 1))) (rootsP (bs.take (i + 1))) (bvs.getD i undef)
def entsC (bs : List Bytes) (bvs : List Value) : List Value := (List.range bs.length).flatMap (entAt bs bvs)
theorem entC_len {s1 s2 s3 : Bytes} {v : Value} (h1 : s1.length = 32) (h2 : s2.length = 32) (h3 : s3.length = 32) : (entC s1 s2 s3 v).length = 97 := by simp [entC, h1, h2, h3]
@[simp] theorem entAt_len (bs : List Bytes) (bvs : List Value) (i : Nat) : (entAt bs bvs i).length = 97 := entC_len (by simp) (by simp) (by simp)
theorem entsC_snoc {bs : List Bytes} {bvs : List Value} (b : Bytes) (v : Value) (h : bvs.length = bs.length) : entsC (bs ++ [b]) (bvs ++ [v]) = entsC bs bvs ++ entC (leafP b) (markP (bs ++ [b])) (rootsP (bs ++ [b])) v := by
  unfold entsC
  rw [List.length_append, List.length_singleton, List.range_succ, List.flatMap_append]
  congr 1
  · have h1 : ∀ i ∈ List.range bs.length, entAt (bs ++ [b]) (bvs ++ [v]) i = entAt bs bvs i := by
      intro i hi
      have hi := List.mem_range.1 hi
      unfold entAt
      rw [List.take_append_of_le_length (by omega)]
      simp only [List.getD_eq_getElem?_getD]
      rw [List.getElem?_append_left (by omega), List.getElem?_append_left (by omega)]
    rw [List.flatMap_def, List.flatMap_def, List.map_congr_left h1]
  · simp only [List.flatMap_cons, List.flatMap_nil, List.append_nil]
    unfold entAt
    rw [show (bs ++ [b]).getD bs.length [] = b from by simp, show (bvs ++ [v]).getD bs.length undef = v from by rw [← h]; simp, List.take_of_length_le (by simp)]
theorem entsC_take {bs : List Bytes} {bvs : List Value} {k : Nat} (hk : k ≤ bs.length) : (entsC bs bvs).take (k * 97) = entsC (bs.take k) (bvs.take k) := by
  unfold entsC
  rw [flat_take (fun i _ => entAt_len bs bvs i) hk, List.length_take, Nat.min_eq_left hk]
  have h1 : ∀ i ∈ List.range k, entAt bs bvs i = entAt (bs.take k) (bvs.take k) i := by
    intro i hi
    have hi := List.mem_range.1 hi
    unfold entAt
    simp only [List.getD_eq_getElem?_getD, List.getElem?_take, hi, if_true, List.take_take, Nat.min_eq_left (show i + 1 ≤ k from hi)]
  rw [List.flatMap_def, List.flatMap_def, List.map_congr_left h1]
theorem entC_put1 {s1 s2 s3 x : Bytes} {v : Value} (h1 : s1.length = 32) (hx : x.length = 32) : spl (entC s1 s2 s3 v) 0 (x.map v8) = entC x s2 s3 v := by
  unfold spl entC
  rw [List.take_zero, List.nil_append, show 0 + (x.map v8).length = (s1.map v8).length from by simp [h1, hx], List.drop_left]
theorem entC_put2 {s1 s2 s3 x : Bytes} {v : Value} (h1 : s1.length = 32) (h2 : s2.length = 32) (hx : x.length = 32) : spl (entC s1 s2 s3 v) 32 (x.map v8) = entC s1 x s3 v := by
  unfold spl entC
  rw [show 32 + (x.map v8).length = (s1.map v8).length + (s2.map v8).length from by simp [h1, h2, hx], show 32 = (s1.map v8).length from by simp [h1], List.take_left, ← List.drop_drop, List.drop_left, List.drop_left]
  simp
theorem entC_put3 {s1 s2 s3 x : Bytes} {v : Value} (h1 : s1.length = 32) (h2 : s2.length = 32) (h3 : s3.length = 32) (hx : x.length = 32) : spl (entC s1 s2 s3 v) 64 (x.map v8) = entC s1 s2 x v := by
  unfold spl entC
  rw [← List.append_assoc, show 64 + (x.map v8).length = (s1.map v8 ++ s2.map v8).length + (s3.map v8).length from by simp [h1, h2, h3, hx], show 64 = (s1.map v8 ++ s2.map v8).length from by simp [h1, h2], List.take_left, ← List.drop_drop, List.drop_left, List.drop_left]
  simp
theorem entC_s1 {s1 s2 s3 : Bytes} {v : Value} (h1 : s1.length = 32) : ((entC s1 s2 s3 v).drop 0).take 32 = s1.map v8 := by
  unfold entC
  rw [List.drop_zero, List.take_append_of_le_length (by simp [h1]), List.take_of_length_le (by simp [h1])]
theorem entC_v {s1 s2 s3 : Bytes} {v : Value} (h1 : s1.length = 32) (h2 : s2.length = 32) (h3 : s3.length = 32) : (entC s1 s2 s3 v)[96]? = some v := by
  unfold entC
  rw [← List.append_assoc, ← List.append_assoc, List.getElem?_append_right (by simp [h1, h2, h3])]
  simp [h1, h2, h3]
theorem entC_96 {s1 s2 s3 : Bytes} {v : Value} (h1 : s1.length = 32) (h2 : s2.length = 32) (h3 : s3.length = 32) : ((entC s1 s2 s3 v).drop 0).take 96 = (s1 ++ (s2 ++ s3)).map v8 := by
  unfold entC
  rw [List.drop_zero, ← List.append_assoc, ← List.append_assoc, List.take_append_of_le_length (by simp [h1, h2, h3]), List.take_of_length_le (by simp [h1, h2, h3])]
  simp
/-- What is told of the last one. -/
def lastS (bs : List Bytes) : Bytes := if bs = [] then List.replicate 96 0 else leafP (bs.getD (bs.length - 1) []) ++ (markP bs ++ rootsP bs)
@[simp] theorem lastS_len (bs : List Bytes) : (lastS bs).length = 96 := by unfold lastS; split <;> simp
theorem lastS_mark (bs : List Bytes) : (((lastS bs).map v8).drop 32).take 32 = (markP bs).map v8 := by
  unfold lastS
  by_cases h : bs = []
  · subst h; rw [if_pos rfl]; simp [markP, z32]
  · rw [if_neg h, List.map_append, List.map_append, List.drop_append_of_le_length (by simp), List.drop_of_length_le (by simp), List.nil_append, List.take_append_of_le_length (by simp), List.take_of_length_le (by simp)]
theorem lastS_root {bs : List Bytes} (h : bs ≠ []) : (((lastS bs).map v8).drop 64).take 32 = (rootsP bs).map v8 := by
  unfold lastS
  rw [if_neg h, ← List.append_assoc, List.map_append, List.drop_append_of_le_length (by simp), List.drop_of_length_le (by simp), List.nil_append, List.take_of_length_le (by simp)]
theorem Mem.initL {w : World} {l : List (Nat × Obj)} (hnd : (l.map (·.1)).Nodup) (h : ∀ p ∈ l, w.heap[p.1]? = some p.2) : Mem w (l.map (·.1)) l w :=
  ⟨rfl, rfl, rfl, Nat.le_refl _, fun _ _ _ => rfl, h, fun p hp => .inr (List.mem_map.2 ⟨p, hp, rfl⟩), hnd⟩
theorem Mem.callL {w0 w w' : World} {own : List Nat} {l1 l l' l2 : List (Nat × Obj)} (h : Mem w0 own (l1 ++ (l ++ l2)) w) (h2 : Mem w (l.map (·.1)) l' w') : Mem w0 own (l1 ++ (l' ++ l2)) w' := by
  have hp : (l1 ++ (l ++ l2)).Perm (l ++ (l1 ++ l2)) := by
    rw [← List.append_assoc, ← List.append_assoc]; exact List.perm_append_comm.append_right _
  have h := h.perm hp
  have hlt : ∀ p ∈ l ++ (l1 ++ l2), p.1 < w.heap.size := fun p hp => (Array.getElem?_eq_some_iff.1 (h.rows p hp)).1
  have hnd := h.nd
  rw [List.map_append, List.nodup_append] at hnd
  obtain ⟨n1, n2, n3⟩ := hnd
  have hout : ∀ p ∈ l1 ++ l2, p.1 ∉ l.map (·.1) := fun p hp hm => n3 p.1 hm p.1 (List.mem_map.2 ⟨p, hp, rfl⟩) rfl
  have key : Mem w0 own (l' ++ (l1 ++ l2)) w' := by
    refine ⟨h2.os.trans h.os, h2.tape.trans h.tape, h2.output.trans h.output, Nat.le_trans h.size h2.size, ?_, ?_, ?_, ?_⟩
    · intro k hk hn
      have hne : k ∉ l.map (·.1) := by
        intro hm
        obtain ⟨p, hp, rfl⟩ := List.mem_map.1 hm
        rcases h.mine p (List.mem_append_left _ hp) with h3 | h3
        · omega
        · exact hn h3
      rw [h2.old k (Nat.lt_of_lt_of_le hk h.size) hne]; exact h.old k hk hn
    · intro p hp
      rcases List.mem_append.1 hp with hp | hp
      · exact h2.rows p hp
      · rw [h2.old p.1 (hlt p (List.mem_append_right _ hp)) (hout p hp)]; exact h.rows p (List.mem_append_right _ hp)
    · intro p hp
      rcases List.mem_append.1 hp with hp | hp
      · rcases h2.mine p hp with h3 | h3
        · exact .inl (Nat.le_trans h.size h3)
        · obtain ⟨q, hq, he⟩ := List.mem_map.1 h3
          have := h.mine q (List.mem_append_left _ hq)
          rw [← he]; exact this
      · exact h.mine p (List.mem_append_right _ hp)
    · rw [List.map_append, List.nodup_append]
      refine ⟨h2.nd, n2, ?_⟩
      intro a ha b hb e
      subst e
      obtain ⟨p, hp, rfl⟩ := List.mem_map.1 ha
      obtain ⟨q, hq, he⟩ := List.mem_map.1 hb
      rcases h2.mine p hp with h3 | h3
      · have := hlt q (List.mem_append_right _ hq); have he' : q.1 = p.1 := he; omega
      · exact hout q hq (by rw [he]; exact h3)
  refine key.perm ?_
  rw [← List.append_assoc, ← List.append_assoc]
  exact List.perm_append_comm.append_right _
/-- What lies in a call's memory, as its callee sees it. -/
theorem Mem.see {w0 w : World} {own : List Nat} {l1 l l2 : List (Nat × Obj)} (h : Mem w0 own (l1 ++ (l ++ l2)) w) : (l.map (·.1)).Nodup ∧ ∀ p ∈ l, w.heap[p.1]? = some p.2 := by
  have h1 := h.sub (l2 := l) ((List.sublist_append_left l l2).trans (List.sublist_append_right _ _))
  exact ⟨h1.nd, h1.rows⟩
theorem Mem.cast {w0 w : World} {own : List Nat} {l l2 : List (Nat × Obj)} (h : Mem w0 own l w) (e : l = l2) : Mem w0 own l2 w := e ▸ h
/-- A chain's memory. -/
def ChainIs (c : Nat) (bs : List Bytes) (l : List (Nat × Obj)) : Prop := ∃ f vf nf rf ve re bvs rbs,
  l = (c, row [.pointer (some ⟨f, 0, none⟩), ve] 127) :: (f, row [vI 1, vU (bs.length : Int), vf] 207) :: (rf ++ (re ++ List.flatten rbs)) ∧
  VecIs vf nf 32 50 (sumsC (frontP (bs.map leafP))) rf ∧ (frontP (bs.map leafP)).length = nf ∧ nf ≤ bs.length ∧
  VecIs ve bs.length 97 131 (entsC bs bvs) re ∧ bvs.length = bs.length ∧ rbs.length = bs.length ∧
  ∀ (i : Nat) (b : Bytes) (v : Value) (r : List (Nat × Obj)), bs[i]? = some b → bvs[i]? = some v → rbs[i]? = some r → VecIs v b.length 1 5 (b.map v8) r
end Go.Al
namespace Go.Al
open Go Go.RowKit Go.Proofs
set_option linter.unusedVariables false
set_option linter.unusedSimpArgs false
theorem chain_new (c f : Nat) : ChainIs c [] [(c, row [.pointer (some ⟨f, 0, none⟩), .slice none 0 0] 127), (f, row [vI 1, vU 0, .slice none 0 0] 207)] :=
  ⟨f, _, 0, [], _, [], [], [], rfl, VecIs.nil, rfl, Nat.le_refl _, VecIs.nil, rfl, rfl, by intro i b v r h; simp at h⟩
theorem rep96 : List.replicate 96 (v8 0) = (lastS []).map v8 := by unfold lastS; rw [if_pos rfl, List.map_replicate]
theorem last_load {bs : List Bytes} {bvs xs : List Value} {off : Nat} (hcs : (xs.drop off).take (bs.length * 97) = entsC bs bvs) (hp : 0 < bs.length) : (xs.drop (off + (bs.length - 1) * 97)).take 96 = (lastS bs).map v8 := by
  have h1 : xs.drop off = entsC bs bvs ++ (xs.drop off).drop (bs.length * 97) := by rw [← hcs, List.take_append_drop]
  rw [← List.drop_drop, h1]
  unfold entsC
  have := chunk_part (f := entAt bs bvs) (k := 97) (n := bs.length) (i := bs.length - 1) (off := 0) (m := 96) (rest := (xs.drop off).drop (bs.length * 97)) (fun i _ => entAt_len bs bvs i) (by omega) (by omega)
  rw [Nat.add_zero] at this
  rw [this]
  unfold entAt
  rw [entC_96 (by simp) (by simp) (by simp)]
  unfold lastS
  rw [if_neg (by rintro rfl; simp at hp), Nat.sub_add_cancel hp, List.take_length]
theorem cnew_ok (w : World) : Calls Tryz.prog 9 [].toArray w (fun e w' => ∃ c l, e = .returned (.pointer (some ⟨c, 0, none⟩)) ∧ ChainIs c [] l ∧ Mem w [] l w') := by
  have hm := Mem.init w
  refine calls_enter (n := 4) Tryz.func9 rfl rfl rfl ?_
  refine wp_sr (E := noPanic) noPanic_imp ?_
  refine rl_val rfl (v := (.pointer none)) (val_assign (v := (.pointer none)) rfl) ?_
  refine rl_nil ?_
  refine wp_sr (E := noPanic) noPanic_imp ?_
  refine rl_call rfl (ent_static (args := []) Tryz.func82 rfl rfl rfl rfl) (fnew_ok _) ?_
  rintro _ w1 ⟨f, rfl, h2⟩
  refine callQ_ret ?_
  replace hm : Mem w [] [(f, row ([(vI 1), (vU 0), (.slice none 0 0)]) 207)] w1 := hm.call h2
  refine rl_val rfl (v := (.agg [(.pointer (some ⟨f, 0, none⟩)), (.slice none 0 0)].toArray)) (val_build (ps := [(0, (.pointer (some ⟨f, 0, none⟩)))]) pl_127 zo_127 (plc_cons rfl (plc_nil)) (bok_cons rfl rfl (by decide) (bok_nil)) (cs := [(.pointer (some ⟨f, 0, none⟩)), (.slice none 0 0)]) rfl) ?_
  refine rl_box (v := (.agg [(.pointer (some ⟨f, 0, none⟩)), (.slice none 0 0)].toArray)) (xs := [(.pointer (some ⟨f, 0, none⟩)), (.slice none 0 0)]) rfl rfl rfl hm ?_
  intro b3 w4 hm
  refine rl_val rfl (v := (.pointer (some ⟨b3, 0, none⟩))) (val_assign (v := (.pointer (some ⟨b3, 0, none⟩))) rfl) ?_
  refine rl_nil ?_
  exact WP.ret (post_rets rfl (vs := [(.pointer (some ⟨b3, 0, none⟩))]) ⟨rfl, trivial⟩ rfl ⟨_, _, rfl, chain_new b3 f, hm⟩)
theorem cnone_ok (c f : Nat) (ve : Value) (w : World) (hcr : RowL w c [.pointer (some ⟨f, 0, none⟩), ve]) : Calls Tryz.prog 83 [.pointer (some ⟨c, 0, none⟩)].toArray w (Ret w (.bool false)) := by
  have hm := Mem.init w
  refine calls_enter (n := 12) Tryz.func83 rfl rfl rfl ?_
  refine wp_sr (E := noPanic) noPanic_imp ?_
  refine rl_val rfl (v := (.bool false)) (val_assign (v := (.bool false)) rfl) ?_
  refine rl_nil ?_
  refine wp_sr (E := noPanic) noPanic_imp ?_
  refine rl_val rfl (v := (.pointer (some ⟨c, 0, none⟩))) (val_move (v := (.pointer (some ⟨c, 0, none⟩))) rfl) ?_
  refine rl_val rfl (v := (.bool false)) (val_eqNilPtr (a := (some ⟨c, 0, none⟩)) rfl rfl up_25) ?_
  refine rl_val rfl (v := (.bool false)) (val_move (v := (.bool false)) rfl) ?_
  refine rl_valg ⟨5, false, rfl, .inl ⟨rfl, rfl⟩⟩ rfl (v := (.pointer (some ⟨c, 0, none⟩))) (val_move (v := (.pointer (some ⟨c, 0, none⟩))) rfl) ?_
  refine rl_valg ⟨5, false, rfl, .inl ⟨rfl, rfl⟩⟩ rfl (v := (.pointer (some ⟨c, 0, none⟩))) (val_nilCheck rfl) ?_
  refine rl_valg ⟨5, false, rfl, .inl ⟨rfl, rfl⟩⟩ rfl (v := (.pointer (some ⟨c, 0, none⟩))) (val_fieldAddr (d := 0) rfl fo_127_0) ?_
  refine rl_valg ⟨5, false, rfl, .inl ⟨rfl, rfl⟩⟩ rfl (v := (.pointer (some ⟨f, 0, none⟩))) (val_load1 (v := (.pointer (some ⟨f, 0, none⟩))) (off := 0) rfl ag_123 (hm.getL hcr (by simp)) rfl) ?_
  refine rl_valg ⟨5, false, rfl, .inl ⟨rfl, rfl⟩⟩ rfl (v := (.bool false)) (val_eqNilPtr (a := (some ⟨f, 0, none⟩)) rfl rfl up_123) ?_
  refine rl_val rfl (v := (.bool false)) (val_pick_f (v := (.bool false)) rfl rfl) ?_
  refine rl_val rfl (v := (.bool false)) (val_assign (v := (.bool false)) rfl) ?_
  refine rl_nil ?_
  exact WP.ret (post_rets rfl (vs := [.bool false]) ⟨rfl, trivial⟩ rfl ⟨rfl, hm⟩)
theorem csize_ok (c f ce : Nat) (bs : List Bytes) (ae : Option Addr) (w : World) (hb : bs.length ≤ 1000000) (hcr : RowL w c [.pointer (some ⟨f, 0, none⟩), .slice ae bs.length ce]) : Calls Tryz.prog 14 [.pointer (some ⟨c, 0, none⟩)].toArray w (Ret w (vU (bs.length : Int))) := by
  have hm := Mem.init w
  refine calls_enter (n := 11) Tryz.func14 rfl rfl rfl ?_
  refine wp_sr (E := noPanic) noPanic_imp ?_
  refine rl_val rfl (v := (vU 0)) (val_assign (v := (vU 0)) rfl) ?_
  refine rl_nil ?_
  refine WP.seq ?_
  refine wp_sr (E := noPanic) noPanic_imp ?_
  refine rl_val rfl (v := (.pointer (some ⟨c, 0, none⟩))) (val_move (v := (.pointer (some ⟨c, 0, none⟩))) rfl) ?_
  refine rl_call rfl (ent_static (args := [(.pointer (some ⟨c, 0, none⟩))]) Tryz.func83 rfl rfl rfl rfl) (cnone_ok c f _ _ (hm.getL hcr (by simp))) ?_
  rintro _ w1 ⟨rfl, h2⟩
  refine callQ_ret ?_
  replace hm : Mem w [] [] w1 := hm.call h2
  refine rl_nil ?_
  refine WP.cond_f rfl ?_
  refine WP.skip ?_
  refine wp_sr (E := noPanic) noPanic_imp ?_
  refine rl_val rfl (v := (.pointer (some ⟨c, 0, none⟩))) (val_move (v := (.pointer (some ⟨c, 0, none⟩))) rfl) ?_
  refine rl_val rfl (v := (.pointer (some ⟨c, 0, none⟩))) (val_nilCheck rfl) ?_
  refine rl_val rfl (v := (.pointer (some ⟨c, 1, none⟩))) (val_fieldAddr (d := 1) rfl fo_127_1) ?_
  refine rl_val rfl (v := (.slice ae bs.length ce)) (val_load1 (v := (.slice ae bs.length ce)) (off := 1) rfl ag_125 (hm.getL hcr (by simp)) rfl) ?_
  refine rl_val rfl (v := (vI (bs.length : Nat))) (val_lenSl (t := 125) rfl us_125 rfl) ?_
  refine rl_val rfl (v := (vU (bs.length : Nat))) (val_cast (val_conv ut_3 ui_44 rfl) (by rw [wrapU (by omega) (by omega)])) ?_
  refine rl_val rfl (v := (vU (bs.length : Nat))) (val_assign (v := (vU (bs.length : Nat))) rfl) ?_
  refine rl_nil ?_
  exact WP.ret (post_rets rfl (vs := [vU (bs.length : Int)]) ⟨rfl, trivial⟩ rfl ⟨rfl, hm⟩)
theorem last_ok (bs : List Bytes) (bvs : List Value) (a : Option Addr) (cc : Nat) (w : World) (hb : bs.length ≤ 1000000) (hs : SlIs w [] (.slice a bs.length cc) 97 bs.length (entsC bs bvs)) : Calls Tryz.prog 86 [.slice a bs.length cc].toArray w (Ret w (.agg ((lastS bs).map v8).toArray)) := by
  have hm := Mem.init w
  refine calls_enter (n := 14) Tryz.func86 rfl rfl rfl ?_
  refine wp_sr (E := noPanic) noPanic_imp ?_
  refine rl_alloc (xs := List.replicate 96 (v8 0)) rfl zo_129 hm ?_
  intro b1 w2 hm
  refine rl_nil ?_
  refine WP.seq ?_
  refine wp_sr (E := noPanic) noPanic_imp ?_
  refine rl_val rfl (v := (.slice a bs.length cc)) (val_move (v := (.slice a bs.length cc)) rfl) ?_
  refine rl_val rfl (v := (vI (bs.length : Nat))) (val_lenSl (t := 125) rfl us_125 rfl) ?_
  refine rl_val rfl (v := (.bool (decide ((0 : Int) < (bs.length : Nat))))) (val_gt (p := (bs.length : Nat)) (q := 0) rfl rfl) ?_
  refine rl_nil ?_
  refine WP.cond (b := decide ((0 : Int) < (bs.length : Nat))) rfl (fun hb => ?_) (fun hb => ?_)
  ·
    have hq3 := of_decide_eq_true hb
    have hp : 0 < bs.length := by omega
    obtain ⟨b, off, xs, rfl, hbn, hr, hcs, hle, hnc⟩ := hs.pos hp
    refine wp_sr (E := noPanic) noPanic_imp ?_
    refine rl_val rfl (v := (.slice (some ⟨b, off, none⟩) bs.length cc)) (val_move (v := (.slice (some ⟨b, off, none⟩) bs.length cc)) rfl) ?_
    refine rl_val rfl (v := (.slice (some ⟨b, off, none⟩) bs.length cc)) (val_move (v := (.slice (some ⟨b, off, none⟩) bs.length cc)) rfl) ?_
    refine rl_val rfl (v := (vI (bs.length : Nat))) (val_lenSl (t := 125) rfl us_125 rfl) ?_
    refine rl_val rfl (v := (vI ((bs.length : Nat) - 1))) (val_subI (p := (bs.length : Nat)) (q := 1) rfl rfl (by omega)) ?_
    refine rl_val rfl (v := (.pointer (some ⟨b, off + (bs.length - 1) * 97, none⟩))) (val_cast (val_indexSl (i := (bs.length : Int) - 1) (sz := 97) rfl rfl es_125 (by omega)) (ptr_eq (by rw [show ((bs.length : Int) - 1).toNat = bs.length - 1 from by omega]))) ?_
    refine rl_val rfl (v := (.pointer (some ⟨b, off + (bs.length - 1) * 97, none⟩))) (val_fieldAddr (d := 0) rfl fo_131_0) ?_
    refine rl_val rfl (v := (.agg ((lastS bs).map v8).toArray)) (val_loadA (m := (lastS bs).map v8) (off := off + (bs.length - 1) * 97) rfl ag_129 (hm.getL hr (by simp)) (last_load hcs hp) (by omega) (by decide)) ?_
    refine rl_store (i := 0) (off := 0) (xs := (List.replicate 96 (v8 0))) (vs := (lastS bs).map v8) rfl rfl rfl ag_129 hm rfl rfl (by simp) (by simp) (one_map8 _) ?_
    intro w4 hm
    rw [spl_all (n := 96) (by simp) (by simp)] at hm
    replace hm : Mem w [] [(b1, row ((lastS bs).map v8) 129)] w4 := hm
    refine rl_nil ?_
    exact WP.ret (post_rets rfl (vs := [.agg ((lastS bs).map v8).toArray]) ⟨⟨true, 96, _, 0, _, rfl, ag_129, (hm.row (i := 0) rfl).l, by simp, by decide, by simp [rd, List.take_of_length_le]⟩, trivial⟩ rfl ⟨rfl, hm.nil⟩)
  ·
    have hq5 := of_decide_eq_false hb
    obtain rfl : bs = [] := List.eq_nil_of_length_eq_zero (by omega)
    refine WP.skip ?_
    refine wp_sr (E := noPanic) noPanic_imp ?_
    refine rl_val rfl (v := (.agg ((lastS []).map v8).toArray)) (val_loadAll rfl ag_129 (by have h := (hm.row (i := 0) rfl).l; rw [rep96] at h; exact h) (by simp) (by decide)) ?_
    refine rl_store (i := 0) (off := 0) (xs := (List.replicate 96 (v8 0))) (vs := (lastS []).map v8) rfl rfl rfl ag_129 hm rfl rfl (by simp) (by simp) (one_map8 _) ?_
    intro w6 hm
    rw [spl_all (n := 96) (by simp) (by simp)] at hm
    replace hm : Mem w [] [(b1, row ((lastS []).map v8) 129)] w6 := hm
    refine rl_nil ?_
    exact WP.ret (post_rets rfl (vs := [.agg ((lastS []).map v8).toArray]) ⟨⟨true, 96, _, 0, _, rfl, ag_129, (hm.row (i := 0) rfl).l, by simp, by decide, by simp [rd, List.take_of_length_le]⟩, trivial⟩ rfl ⟨rfl, hm.nil⟩)
end Go.Al
namespace Go.Al
open Go Go.RowKit Go.Proofs
set_option linter.unusedVariables false
set_option linter.unusedSimpArgs false
theorem entC_one (s1 s2 s3 : Bytes) {v : Value} (h : v.one = true) : Ones (entC s1 s2 s3 v) := by
  intro u hu
  unfold entC at hu
  simp only [List.mem_append, List.mem_singleton] at hu
  rcases hu with hu | hu | hu | rfl
  · exact one_map8 _ u hu
  · exact one_map8 _ u hu
  · exact one_map8 _ u hu
  · exact h
theorem val_build_ent {τ : Fr} {w : World} {ty : TypeId} {x : Operand} {v : Value} (hx : ev τ x = v) (h1 : v.one = true) : Val Tryz.prog (ev τ) w (.build 131 #[(1, x)]) ty (.agg (entC z32 z32 z32 v).toArray) := by
  refine val_build (ps := [(1, v)]) pl_131 zo_131 (plc_cons hx plc_nil) (bok_cons rfl (by rw [cells_one h1]; rfl) (by simp) bok_nil) ?_
  unfold bldF
  rw [cells_one h1]
  rfl
theorem slPart {w : World} {own : List Nat} {b n c off : Nat} {l : List UInt8} {xs : List Value} (hb : b ∉ own) (hr : RowL w b xs) (hx : (xs.drop off).take n = l.map v8) (hl : l.length = n) (hn : off + n ≤ xs.length) (hc : n ≤ c := by omega) : SlIs w own (.slice (some ⟨b, off, none⟩) n c) 1 l.length (l.map v8) := by
  subst hl; exact SlIs.of hb hr (by simpa using hx) (by simpa using hn) hc
theorem map_leaf_snoc (bs : List Bytes) (b : Bytes) : (bs ++ [b]).map leafP = bs.map leafP ++ [leafP b] := by simp
theorem front_le (xs : Sums) : (frontP xs).length ≤ xs.length := by
  have : ∀ (n : Nat) (xs : Sums), xs.length = n → (frontP xs).length ≤ n := by
    intro n
    induction n with
    | zero => intro xs h; obtain rfl := List.eq_nil_of_length_eq_zero h; simp [frontP_nil]
    | succ n ih =>
      intro xs h
      obtain ⟨ys, y, rfl⟩ : ∃ ys y, xs = ys ++ [y] := ⟨xs.dropLast, xs.getLast (by rintro rfl; simp at h), (List.dropLast_concat_getLast _).symm⟩
      have h1 := ih ys (by simp at h; exact h)
      have h2 := front_tz ys
      rw [frontP_snoc, foldP_len _ _ (by simp; omega)]; simp; omega
  exact this _ _ rfl
theorem chain_snoc {c f : Nat} {bs : List Bytes} {b : Bytes} {vf ve vb : Value} {nf : Nat} {rf re rb : List (Nat × Obj)} {bvs : List Value} {rbs : List (List (Nat × Obj))}
    (hvf : VecIs vf nf 32 50 (sumsC (frontP ((bs ++ [b]).map leafP))) rf) (hnf : (frontP ((bs ++ [b]).map leafP)).length = nf) (hnb : nf ≤ (bs ++ [b]).length)
    (hve : VecIs ve (bs.length + 1) 97 131 (entsC (bs ++ [b]) (bvs ++ [vb])) re) (hbl : bvs.length = bs.length) (hrl : rbs.length = bs.length)
    (hbv : ∀ (i : Nat) (b : Bytes) (v : Value) (r : List (Nat × Obj)), bs[i]? = some b → bvs[i]? = some v → rbs[i]? = some r → VecIs v b.length 1 5 (b.map v8) r) (hvb : VecIs vb b.length 1 5 (b.map v8) rb) :
    ChainIs c (bs ++ [b]) ((c, row [.pointer (some ⟨f, 0, none⟩), ve] 127) :: (f, row [vI 1, vU ((bs ++ [b]).length : Int), vf] 207) :: (rf ++ (re ++ (rbs.flatten ++ rb)))) := by
  refine ⟨f, vf, nf, rf, ve, re, bvs ++ [vb], rbs ++ [rb], by simp, hvf, hnf, hnb, by simpa using hve, by simp [hbl], by simp [hrl], ?_⟩
  intro i b' v r h1 h2 h3
  by_cases hi : i < bs.length
  · rw [List.getElem?_append_left hi] at h1
    rw [List.getElem?_append_left (by omega)] at h2 h3
    exact hbv i b' v r h1 h2 h3
  · rw [List.getElem?_append_right (by omega)] at h1 h2 h3
    have hi0 : i - bs.length = 0 := by
      rcases Nat.eq_zero_or_pos (i - bs.length) with h | h
      · exact h
      · rw [List.getElem?_eq_none (by simp; omega)] at h1; simp at h1
    rw [hi0] at h1
    rw [hbl, hi0] at h2
    rw [hrl, hi0] at h3
    simp at h1 h2 h3
    subst h1; subst h2; subst h3
    exact hvb
theorem cadd_ok (c cc : Nat) (bs : List Bytes) (b : Bytes) (l : List (Nat × Obj)) (a : Option Addr) (w : World) (hc : ChainIs c bs l) (hnd : (l.map (·.1)).Nodup) (hl : ∀ p ∈ l, w.heap[p.1]? = some p.2) (hs : SlIs w (l.map (·.1)) (.slice a b.length cc) 1 b.length (b.map v8)) (hbs : bs.length < 1000) (hbb : b.length ≤ 1073741824) :
    Calls Tryz.prog 11 [.pointer (some ⟨c, 0, none⟩), .slice a b.length cc].toArray w (fun e w' => (b.length ≤ 16384 → e = .returned (vI 0) ∧ ∃ l', ChainIs c (bs ++ [b]) l' ∧ Mem w (l.map (·.1)) l' w') ∧ (16384 < b.length → e = .returned (vI 3) ∧ Mem w (l.map (·.1)) l w')) := by
  obtain ⟨f, vf, nf, rf, ve, re, bvs, rbs, rfl, hvf, hnf, hnb, hve, hbl, hrl, hbv⟩ := hc
  obtain ⟨ae, ce, rfl, hce, _⟩ := hve.form
  have hm := Mem.initL hnd hl
  generalize hown : List.map _ _ = own0 at hm hs ⊢
  clear hnd hl hown
  replace hm : Mem w own0 ([(c, row ([(.pointer (some ⟨f, 0, none⟩)), (.slice ae bs.length ce)]) 127), (f, row ([(vI 1), (vU (bs.length : Int)), vf]) 207)] ++ (rf ++ (re ++ (rbs.flatten ++ [])))) w := by simpa only [List.append_nil, List.cons_append, List.nil_append] using hm
  refine calls_enter (n := 61) Tryz.func11 rfl rfl rfl ?_
  refine wp_sr (E := noPanic) noPanic_imp ?_
  refine rl_val rfl (v := (vI 0)) (val_assign (v := (vI 0)) rfl) ?_
  refine rl_nil ?_
  refine WP.seq (WP.block ?_)
  refine wp_sr (E := noPanic) noPanic_imp ?_
  refine rl_val rfl (v := (.pointer (some ⟨c, 0, none⟩))) (val_move (v := (.pointer (some ⟨c, 0, none⟩))) rfl) ?_
  refine rl_call rfl (ent_static (args := [(.pointer (some ⟨c, 0, none⟩))]) Tryz.func83 rfl rfl rfl rfl) (cnone_ok c f _ _ (hm.row (i := 0) rfl).l) ?_
  rintro _ w1 ⟨rfl, h2⟩
  refine callQ_ret ?_
  replace hm : Mem w own0 ([(c, row ([(.pointer (some ⟨f, 0, none⟩)), (.slice ae bs.length ce)]) 127), (f, row ([(vI 1), (vU (bs.length : Int)), vf]) 207)] ++ (rf ++ (re ++ (rbs.flatten ++ [])))) w1 := hm.call h2
  refine rl_val rfl (v := (.bool false)) (val_assign (v := (.bool false)) rfl) ?_
  refine rl_nil ?_
  refine WP.cond_f rfl ?_
  refine wp_sr (E := noPanic) noPanic_imp ?_
  refine rl_val rfl (v := (.slice a b.length cc)) (val_move (v := (.slice a b.length cc)) rfl) ?_
  refine rl_val rfl (v := (vI (b.length : Nat))) (val_lenSl (t := 38) rfl us_38 rfl) ?_
  refine rl_val rfl (v := (.bool (decide ((16384 : Int) < (b.length : Nat))))) (val_gt (p := (b.length : Nat)) (q := 16384) rfl rfl) ?_
  refine rl_val rfl (v := (.bool (decide ((16384 : Int) < (b.length : Nat))))) (val_assign (v := (.bool (decide ((16384 : Int) < (b.length : Nat))))) rfl) ?_
  refine rl_nil ?_
  refine WP.cond (b := decide ((16384 : Int) < (b.length : Nat))) rfl (fun hb => ?_) (fun hb => ?_)
  ·
    have hq3 := of_decide_eq_true hb
    have hlong : 16384 < b.length := by omega
    refine wp_sr (E := noPanic) noPanic_imp ?_
    refine rl_val rfl (v := (vI 3)) (val_assign (v := (vI 3)) rfl) ?_
    refine rl_nil ?_
    refine WP.ret ?_
    repeat (first | with_reducible refine ret_pass ?_ | with_reducible refine ret_blk ?_ | with_reducible refine scope_ret ?_)
    exact post_rets rfl (vs := [vI 3]) ⟨rfl, trivial⟩ rfl ⟨fun h => by omega, fun _ => ⟨rfl, by simpa using hm⟩⟩
  ·
    have hq4 := of_decide_eq_false hb
    have hshort : b.length ≤ 16384 := by omega
    refine WP.skip ?_
    refine wp_sr (E := noPanic) noPanic_imp ?_
    refine rl_val rfl (v := (.slice a b.length cc)) (val_move (v := (.slice a b.length cc)) rfl) ?_
    refine rl_call rfl (ent_static (args := [(.slice a b.length cc)]) Tryz.func84 rfl rfl rfl rfl) (clone8_ok _ _ _ _ _ (hs.mem (own2 := []) hm (by simp)) (one_map8 _) (by omega)) ?_
    rintro _ w5 ⟨v7, r8, rfl, hv9, h6⟩
    refine callQ_ret ?_
    replace hm := (hm.call h6).comm
    replace hm : Mem w own0 ([(c, row ([(.pointer (some ⟨f, 0, none⟩)), (.slice ae bs.length ce)]) 127), (f, row ([(vI 1), (vU (bs.length : Int)), vf]) 207)] ++ (rf ++ (re ++ (rbs.flatten ++ (r8 ++ []))))) w5 := by simpa only [List.append_assoc, List.nil_append, List.append_nil, List.cons_append] using hm
    refine rl_val rfl (v := (.agg (entC z32 z32 z32 v7).toArray)) (val_build_ent rfl hv9.isOne) ?_
    refine rl_alloc (xs := [v8 0, v8 0, v8 0, v8 0, v8 0, v8 0, v8 0, v8 0, v8 0, v8 0, v8 0, v8 0, v8 0, v8 0, v8 0, v8 0, v8 0, v8 0, v8 0, v8 0, v8 0, v8 0, v8 0, v8 0, v8 0, v8 0, v8 0, v8 0, v8 0, v8 0, v8 0, v8 0, v8 0, v8 0, v8 0, v8 0, v8 0, v8 0, v8 0, v8 0, v8 0, v8 0, v8 0, v8 0, v8 0, v8 0, v8 0, v8 0, v8 0, v8 0, v8 0, v8 0, v8 0, v8 0, v8 0, v8 0, v8 0, v8 0, v8 0, v8 0, v8 0, v8 0, v8 0, v8 0, v8 0, v8 0, v8 0, v8 0, v8 0, v8 0, v8 0, v8 0, v8 0, v8 0, v8 0, v8 0, v8 0, v8 0, v8 0, v8 0, v8 0, v8 0, v8 0, v8 0, v8 0, v8 0, v8 0, v8 0, v8 0, v8 0, v8 0, v8 0, v8 0, v8 0, v8 0, v8 0, .slice none 0 0]) rfl zo_131 hm ?_
    intro b10 w11 hm
    refine rl_store (i := 0) (off := 0) (xs := ([v8 0, v8 0, v8 0, v8 0, v8 0, v8 0, v8 0, v8 0, v8 0, v8 0, v8 0, v8 0, v8 0, v8 0, v8 0, v8 0, v8 0, v8 0, v8 0, v8 0, v8 0, v8 0, v8 0, v8 0, v8 0, v8 0, v8 0, v8 0, v8 0, v8 0, v8 0, v8 0, v8 0, v8 0, v8 0, v8 0, v8 0, v8 0, v8 0, v8 0, v8 0, v8 0, v8 0, v8 0, v8 0, v8 0, v8 0, v8 0, v8 0, v8 0, v8 0, v8 0, v8 0, v8 0, v8 0, v8 0, v8 0, v8 0, v8 0, v8 0, v8 0, v8 0, v8 0, v8 0, v8 0, v8 0, v8 0, v8 0, v8 0, v8 0, v8 0, v8 0, v8 0, v8 0, v8 0, v8 0, v8 0, v8 0, v8 0, v8 0, v8 0, v8 0, v8 0, v8 0, v8 0, v8 0, v8 0, v8 0, v8 0, v8 0, v8 0, v8 0, v8 0, v8 0, v8 0, v8 0, .slice none 0 0])) (vs := entC z32 z32 z32 v7) rfl rfl rfl ag_131 hm rfl rfl (entC_len (by simp) (by simp) (by simp)) (by simp [entC]) (entC_one z32 z32 z32 hv9.isOne) ?_
    intro w12 hm
    rw [spl_all (n := 97) (by simp) (entC_len (by simp) (by simp) (by simp))] at hm
    replace hm : Mem w own0 ([(b10, row (entC z32 z32 z32 v7) 131), (c, row ([(.pointer (some ⟨f, 0, none⟩)), (.slice ae bs.length ce)]) 127), (f, row ([(vI 1), (vU (bs.length : Int)), vf]) 207)] ++ (rf ++ (re ++ (rbs.flatten ++ (r8 ++ []))))) w12 := hm
    refine rl_nil ?_
    refine wp_sr (E := noPanic) noPanic_imp ?_
    refine rl_val rfl (v := (.slice a b.length cc)) (val_move (v := (.slice a b.length cc)) rfl) ?_
    refine rl_call rfl (ent_static (args := [(.slice a b.length cc)]) Tryz.func85 rfl rfl rfl rfl) (leaf_ok b _ _ _ (hs.mem (own2 := []) hm (by simp)) (by omega)) ?_
    rintro _ w13 ⟨rfl, h14⟩
    refine callQ_ret ?_
    replace hm : Mem w own0 ([(b10, row (entC z32 z32 z32 v7) 131), (c, row ([(.pointer (some ⟨f, 0, none⟩)), (.slice ae bs.length ce)]) 127), (f, row ([(vI 1), (vU (bs.length : Int)), vf]) 207)] ++ (rf ++ (re ++ (rbs.flatten ++ (r8 ++ []))))) w13 := hm.call h14
    refine rl_val rfl (v := (.pointer (some ⟨b10, 0, none⟩))) (val_fieldAddr (d := 0) rfl fo_131_0) ?_
    refine rl_val rfl (v := (.pointer (some ⟨b10, 0, none⟩))) (val_fieldAddr (d := 0) rfl fo_129_0) ?_
    refine rl_store (i := 0) (off := 0) (xs := (entC z32 z32 z32 v7)) (vs := (leafP b).map v8) rfl rfl rfl ag_50 hm rfl rfl (by simp) (by simp [entC]) (one_map8 _) ?_
    intro w15 hm
    rw [entC_put1 (by simp) (by simp)] at hm
    replace hm : Mem w own0 ([(b10, row (entC (leafP b) z32 z32 v7) 131), (c, row ([(.pointer (some ⟨f, 0, none⟩)), (.slice ae bs.length ce)]) 127), (f, row ([(vI 1), (vU (bs.length : Int)), vf]) 207)] ++ (rf ++ (re ++ (rbs.flatten ++ (r8 ++ []))))) w15 := hm
    refine rl_nil ?_
    refine wp_sr (E := noPanic) noPanic_imp ?_
    refine rl_val rfl (v := (.pointer (some ⟨c, 0, none⟩))) (val_move (v := (.pointer (some ⟨c, 0, none⟩))) rfl) ?_
    refine rl_val rfl (v := (.pointer (some ⟨c, 0, none⟩))) (val_nilCheck rfl) ?_
    refine rl_val rfl (v := (.pointer (some ⟨c, 1, none⟩))) (val_fieldAddr (d := 1) rfl fo_127_1) ?_
    refine rl_val rfl (v := (.slice ae bs.length ce)) (val_load1 (v := (.slice ae bs.length ce)) (off := 1) rfl ag_125 (hm.row (i := 1) rfl).l rfl) ?_
    refine rl_call rfl (ent_static (args := [(.slice ae bs.length ce)]) Tryz.func86 rfl rfl rfl rfl) (last_ok bs bvs _ _ _ (by omega) (hve.sl (own2 := []) hm (by intro p hp; exact ⟨by simp [hp], by simp⟩))) ?_
    rintro _ w16 ⟨rfl, h17⟩
    refine callQ_ret ?_
    replace hm : Mem w own0 ([(b10, row (entC (leafP b) z32 z32 v7) 131), (c, row ([(.pointer (some ⟨f, 0, none⟩)), (.slice ae bs.length ce)]) 127), (f, row ([(vI 1), (vU (bs.length : Int)), vf]) 207)] ++ (rf ++ (re ++ (rbs.flatten ++ (r8 ++ []))))) w16 := hm.call h17
    refine rl_val rfl (v := (.agg ((markP bs).map v8).toArray)) (val_fieldA (m := (markP bs).map v8) rfl ft_129_1 ag_50 (lastS_mark bs) (by simp)) ?_
    refine rl_alloc (xs := List.replicate 32 (v8 0)) rfl zo_50 hm ?_
    intro b18 w19 hm
    refine rl_store (i := 0) (off := 0) (xs := (List.replicate 32 (v8 0))) (vs := (markP bs).map v8) rfl rfl rfl ag_50 hm rfl rfl (by simp) (by simp) (one_map8 _) ?_
    intro w20 hm
    rw [spl_all (n := 32) (by simp) (by simp)] at hm
    replace hm : Mem w own0 ([(b18, row ((markP bs).map v8) 50), (b10, row (entC (leafP b) z32 z32 v7) 131), (c, row ([(.pointer (some ⟨f, 0, none⟩)), (.slice ae bs.length ce)]) 127), (f, row ([(vI 1), (vU (bs.length : Int)), vf]) 207)] ++ (rf ++ (re ++ (rbs.flatten ++ (r8 ++ []))))) w20 := hm
    refine rl_nil ?_
    refine wp_sd (E := noPanic) [(0, true), (1, true), (2, true), (3, true), (4, false), (5, false), (6, false), (7, false), (8, false), (9, false)] mixed (by kernel_rfl) (by kernel_rfl) rfl (fun w' => Mem w own0 ([(b18, row ((markP bs).map v8) 50), (b10, row (entC (leafP b) z32 z32 v7) 131), (c, row ([(.pointer (some ⟨f, 0, none⟩)), (.slice ae bs.length ce)]) 127), (f, row ([(vI 1), (vU (bs.length : Int)), vf]) 207)] ++ (rf ++ (re ++ (rbs.flatten ++ (r8 ++ []))))) w') noPanic_imp hm.drew ?_
    have hm := hm.drew
    refine rp_val rfl rfl (v := (.slice (some ⟨b18, 0, none⟩) 32 32)) (fun w' hs => val_cast (val_sliceAr (b := b18) (off := 0) (n := 32) (sz := 1) (l := 0) (h := 32) rfl ua_50 ea_50 rfl rfl (by omega) (by omega)) (by simp [slo])) ?_
    refine rp_val rfl rfl (v := (.pointer (some ⟨b10, 0, none⟩))) (fun w' hs => val_fieldAddr (d := 0) rfl fo_131_0) ?_
    refine rp_val rfl rfl (v := (.pointer (some ⟨b10, 0, none⟩))) (fun w' hs => val_fieldAddr (d := 0) rfl fo_129_0) ?_
    refine rp_val rfl rfl (v := (.slice (some ⟨b10, 0, none⟩) 32 32)) (fun w' hs => val_cast (val_sliceAr (b := b10) (off := 0) (n := 32) (sz := 1) (l := 0) (h := 32) rfl ua_50 ea_50 rfl rfl (by omega) (by omega)) (by simp [slo])) ?_
    refine rp_buildSlice (vs := [(.slice (some ⟨b18, 0, none⟩) 32 32), (.slice (some ⟨b10, 0, none⟩) 32 32)]) (cs := [(.slice (some ⟨b18, 0, none⟩) 32 32), (.slice (some ⟨b10, 0, none⟩) 32 32)]) rfl rfl ez_22 rfl (parts_cons rfl (parts_cons rfl (parts_nil))) rfl (by decide) (ones_size (ones_cons rfl (ones_cons rfl (ones_nil)))) (ones_flat (ones_cons rfl (ones_cons rfl (ones_nil)))) hm (fun b w' h => .inl (by kernel_rfl)) ?_
    intro b21 w22 hm
    refine rp_call rfl rfl (ent_static (args := [(.slice (some ⟨b21, 0, none⟩) 2 2)]) Tryz.func88 rfl rfl rfl rfl) (concat_ok [(.slice (some ⟨b18, 0, none⟩) 32 32), (.slice (some ⟨b10, 0, none⟩) 32 32)] [markP bs, leafP b] (some ⟨b21, 0, none⟩) 2 _ (SlIs.all (by simp) (hm.row (i := 0) rfl).l rfl) rfl (sls_cons (slAllN (l := markP bs) (by simp) (hm.row (i := 1) rfl).l (by simp)) (sls_cons (slPart (l := leafP b) (by simp) (hm.row (i := 2) rfl).l (entC_s1 (by simp)) (by simp) (by simp [entC])) (sls_nil))) (by simp <;> omega) (by simp)) ?_
    rintro _ w23 ⟨v25, r26, rfl, hv27, h24⟩
    refine callQ_ret ?_
    refine ⟨.inl (by kernel_rfl), ?_⟩
    replace hm := (hm.call h24).comm
    replace hm : Mem w own0 ([(b21, row ([(.slice (some ⟨b18, 0, none⟩) 32 32), (.slice (some ⟨b10, 0, none⟩) 32 32)]) 38), (b18, row ((markP bs).map v8) 50), (b10, row (entC (leafP b) z32 z32 v7) 131), (c, row ([(.pointer (some ⟨f, 0, none⟩)), (.slice ae bs.length ce)]) 127), (f, row ([(vI 1), (vU (bs.length : Int)), vf]) 207)] ++ (rf ++ (re ++ (rbs.flatten ++ (r8 ++ (r26 ++ [])))))) w23 := by simpa only [List.append_assoc, List.nil_append, List.append_nil, List.cons_append] using hm
    refine rp_call rfl rfl (ent_static (args := [v25]) Tryz.func87 rfl rfl rfl rfl) (of_okV (markP bs ++ leafP b) _ _ _ (hv27.sl (own2 := []) hm (by intro p hp; exact ⟨by simp [hp], by simp⟩)) (by simp) (by simp <;> omega)) ?_
    rintro _ w28 ⟨rfl, h29⟩
    refine callQ_ret ?_
    refine ⟨.inl (by kernel_rfl), ?_⟩
    replace hm : Mem w own0 ([(b21, row ([(.slice (some ⟨b18, 0, none⟩) 32 32), (.slice (some ⟨b10, 0, none⟩) 32 32)]) 38), (b18, row ((markP bs).map v8) 50), (b10, row (entC (leafP b) z32 z32 v7) 131), (c, row ([(.pointer (some ⟨f, 0, none⟩)), (.slice ae bs.length ce)]) 127), (f, row ([(vI 1), (vU (bs.length : Int)), vf]) 207)] ++ (rf ++ (re ++ (rbs.flatten ++ (r8 ++ (r26 ++ [])))))) w28 := hm.call h29
    refine rp_vale rfl rfl (v := (.pointer (some ⟨b10, 0, none⟩))) (val_fieldAddr (d := 0) rfl fo_131_0) (.inl (by kernel_rfl)) ?_
    refine rp_vale rfl rfl (v := (.pointer (some ⟨b10, 32, none⟩))) (val_fieldAddr (d := 32) rfl fo_129_1) (.inl (by kernel_rfl)) ?_
    refine rp_store (i := 2) (off := 32) (xs := (entC (leafP b) z32 z32 v7)) (vs := (sha (markP bs ++ leafP b)).map v8) rfl rfl rfl rfl ag_50 hm rfl rfl (by simp) (by simp [entC]) (one_map8 _) (by kernel_rfl) ?_
    intro w30 hm
    rw [entC_put2 (by simp) (by simp) (by simp)] at hm
    replace hm : Mem w own0 ([(b21, row ([(.slice (some ⟨b18, 0, none⟩) 32 32), (.slice (some ⟨b10, 0, none⟩) 32 32)]) 38), (b18, row ((markP bs).map v8) 50), (b10, row (entC (leafP b) (sha (markP bs ++ leafP b)) z32 v7) 131), (c, row ([(.pointer (some ⟨f, 0, none⟩)), (.slice ae bs.length ce)]) 127), (f, row ([(vI 1), (vU (bs.length : Int)), vf]) 207)] ++ (rf ++ (re ++ (rbs.flatten ++ (r8 ++ (r26 ++ [])))))) w30 := hm
    refine rp_nil ?_
    refine wp_sd (E := noPanic) [(0, true), (1, true), (2, true), (3, true), (4, true), (5, true), (6, true), (7, false)] mixed (by kernel_rfl) (by kernel_rfl) rfl (fun w' => Mem w own0 ([(b21, row ([(.slice (some ⟨b18, 0, none⟩) 32 32), (.slice (some ⟨b10, 0, none⟩) 32 32)]) 38), (b18, row ((markP bs).map v8) 50), (b10, row (entC (leafP b) (sha (markP bs ++ leafP b)) z32 v7) 131), (c, row ([(.pointer (some ⟨f, 0, none⟩)), (.slice ae bs.length ce)]) 127), (f, row ([(vI 1), (vU (bs.length : Int)), vf]) 207)] ++ (rf ++ (re ++ (rbs.flatten ++ (r8 ++ (r26 ++ [])))))) w') noPanic_imp hm.drew ?_
    have hm := hm.drew
    refine rp_val rfl rfl (v := (.pointer (some ⟨c, 0, none⟩))) (fun w' hs => val_move (v := (.pointer (some ⟨c, 0, none⟩))) rfl) ?_
    refine rp_val rfl rfl (v := (.pointer (some ⟨c, 0, none⟩))) (fun w' hs => val_nilCheck rfl) ?_
    refine rp_val rfl rfl (v := (.pointer (some ⟨c, 0, none⟩))) (fun w' hs => val_fieldAddr (d := 0) rfl fo_127_0) ?_
    refine rp_val rfl rfl (v := (.pointer (some ⟨f, 0, none⟩))) (fun w' hs => val_load1 (v := (.pointer (some ⟨f, 0, none⟩))) (off := 0) rfl ag_123 (hs.row (i := 3) rfl).l rfl) ?_
    refine rp_val rfl rfl (v := (.pointer (some ⟨b10, 0, none⟩))) (fun w' hs => val_fieldAddr (d := 0) rfl fo_131_0) ?_
    refine rp_val rfl rfl (v := (.pointer (some ⟨b10, 0, none⟩))) (fun w' hs => val_fieldAddr (d := 0) rfl fo_129_0) ?_
    refine rp_val rfl rfl (v := (.agg ((leafP b).map v8).toArray)) (fun w' hs => val_loadA (m := (leafP b).map v8) (off := 0) rfl ag_50 (hs.row (i := 2) rfl).l (entC_s1 (by simp)) (by simp [entC]) (by decide)) ?_
    have hmf := hm.cast (l2 := [(b21, row ([(.slice (some ⟨b18, 0, none⟩) 32 32), (.slice (some ⟨b10, 0, none⟩) 32 32)]) 38), (b18, row ((markP bs).map v8) 50), (b10, row (entC (leafP b) (sha (markP bs ++ leafP b)) z32 v7) 131), (c, row ([(.pointer (some ⟨f, 0, none⟩)), (.slice ae bs.length ce)]) 127)] ++ (((f, row ([(vI 1), (vU (bs.length : Int)), vf]) 207) :: rf) ++ (re ++ (rbs.flatten ++ (r8 ++ (r26 ++ [])))))) (by simp only [List.append_assoc, List.nil_append, List.append_nil, List.cons_append])
    have hsee := hmf.see
    refine rp_call rfl rfl (ent_static (args := [(.pointer (some ⟨f, 0, none⟩)), (.agg ((leafP b).map v8).toArray)]) Tryz.func89 rfl rfl rfl rfl) (fadd_ok (bs.map leafP) (leafP b) f nf vf rf _ (by simp) (leaves_32 bs) (by rw [List.length_map]; exact hsee.2 (f, row ([(vI 1), (vU (bs.length : Int)), vf]) 207) (by simp)) hvf hnf (fun p hp => hsee.2 p (by simp [hp])) (by intro p hp he; have h := hsee.1; simp only [List.map_cons, List.nodup_cons] at h; exact h.1 (List.mem_map.2 ⟨p, hp, he⟩)) (by simp; omega) (by omega)) ?_
    rintro _ w31 ⟨rfl, vf2, nf2, rf2, hvf2, hnf2, h32⟩
    refine callQ_ret ?_
    rw [← map_leaf_snoc] at hvf2 hnf2 h32
    rw [List.length_map] at h32
    replace hm := hmf.callL h32
    refine ⟨.inl (by kernel_rfl), ?_⟩
    replace hm : Mem w own0 ([(b21, row ([(.slice (some ⟨b18, 0, none⟩) 32 32), (.slice (some ⟨b10, 0, none⟩) 32 32)]) 38), (b18, row ((markP bs).map v8) 50), (b10, row (entC (leafP b) (sha (markP bs ++ leafP b)) z32 v7) 131), (c, row ([(.pointer (some ⟨f, 0, none⟩)), (.slice ae bs.length ce)]) 127), (f, row ([(vI 1), (vU ((bs ++ [b]).length : Int)), vf2]) 207)] ++ (rf2 ++ (re ++ (rbs.flatten ++ (r8 ++ (r26 ++ [])))))) w31 := by simpa only [List.append_assoc, List.nil_append, List.append_nil, List.cons_append] using hm
    obtain ⟨af, cf, rfl, hcf, _⟩ := hvf2.form
    refine rp_nil ?_
    refine wp_sr (E := noPanic) noPanic_imp ?_
    refine rl_val rfl (v := (.pointer (some ⟨c, 0, none⟩))) (val_move (v := (.pointer (some ⟨c, 0, none⟩))) rfl) ?_
    refine rl_val rfl (v := (.pointer (some ⟨c, 0, none⟩))) (val_nilCheck rfl) ?_
    refine rl_val rfl (v := (.pointer (some ⟨c, 0, none⟩))) (val_fieldAddr (d := 0) rfl fo_127_0) ?_
    refine rl_val rfl (v := (.pointer (some ⟨f, 0, none⟩))) (val_load1 (v := (.pointer (some ⟨f, 0, none⟩))) (off := 0) rfl ag_123 (hm.row (i := 3) rfl).l rfl) ?_
    refine rl_call rfl (ent_static (args := [(.pointer (some ⟨f, 0, none⟩))]) Tryz.func90 rfl rfl rfl rfl) (froot_ok ((bs ++ [b]).map leafP) f nf2 cf af _ (leaves_32 _) (by rw [List.length_map]; exact (hm.row (i := 4) rfl).l) (hvf2.sl (own2 := []) hm (by intro p hp; exact ⟨by simp [hp], by simp⟩)) hnf2 (by simp; omega) (by have := front_le ((bs ++ [b]).map leafP); rw [hnf2] at this; simp only [List.length_map, List.length_append, List.length_singleton] at this; omega)) ?_
    rintro _ w33 ⟨rfl, h34⟩
    refine callQ_ret ?_
    replace hm : Mem w own0 ([(b21, row ([(.slice (some ⟨b18, 0, none⟩) 32 32), (.slice (some ⟨b10, 0, none⟩) 32 32)]) 38), (b18, row ((markP bs).map v8) 50), (b10, row (entC (leafP b) (sha (markP bs ++ leafP b)) z32 v7) 131), (c, row ([(.pointer (some ⟨f, 0, none⟩)), (.slice ae bs.length ce)]) 127), (f, row ([(vI 1), (vU ((bs ++ [b]).length : Int)), (.slice af nf2 cf)]) 207)] ++ (rf2 ++ (re ++ (rbs.flatten ++ (r8 ++ (r26 ++ [])))))) w33 := hm.call h34
    refine rl_val rfl (v := (.pointer (some ⟨b10, 0, none⟩))) (val_fieldAddr (d := 0) rfl fo_131_0) ?_
    refine rl_val rfl (v := (.pointer (some ⟨b10, 64, none⟩))) (val_fieldAddr (d := 64) rfl fo_129_2) ?_
    refine rl_store (i := 2) (off := 64) (xs := (entC (leafP b) (sha (markP bs ++ leafP b)) z32 v7)) (vs := (rootsP (bs ++ [b])).map v8) rfl rfl rfl ag_50 hm rfl rfl (by simp) (by simp [entC]) (one_map8 _) ?_
    intro w35 hm
    rw [entC_put3 (by simp) (by simp) (by simp) (by simp)] at hm
    replace hm : Mem w own0 ([(b21, row ([(.slice (some ⟨b18, 0, none⟩) 32 32), (.slice (some ⟨b10, 0, none⟩) 32 32)]) 38), (b18, row ((markP bs).map v8) 50), (b10, row (entC (leafP b) (sha (markP bs ++ leafP b)) (rootsP (bs ++ [b])) v7) 131), (c, row ([(.pointer (some ⟨f, 0, none⟩)), (.slice ae bs.length ce)]) 127), (f, row ([(vI 1), (vU ((bs ++ [b]).length : Int)), (.slice af nf2 cf)]) 207)] ++ (rf2 ++ (re ++ (rbs.flatten ++ (r8 ++ (r26 ++ [])))))) w35 := hm
    refine rl_nil ?_
    refine wp_sd (E := noPanic) [(0, true), (1, true), (2, true), (3, true), (4, true), (5, true), (6, false), (7, false), (8, false), (9, false), (10, false)] mixed (by kernel_rfl) (by kernel_rfl) rfl (fun w' => Mem w own0 [(b21, row ([(.slice (some ⟨b18, 0, none⟩) 32 32), (.slice (some ⟨b10, 0, none⟩) 32 32)]) 38), (b18, row ((markP bs).map v8) 50), (b10, row (entC (leafP b) (sha (markP bs ++ leafP b)) (rootsP (bs ++ [b])) v7) 131), (c, row ([(.pointer (some ⟨f, 0, none⟩)), (.slice ae bs.length ce)]) 127), (f, row ([(vI 1), (vU ((bs ++ [b]).length : Int)), (.slice af nf2 cf)]) 207)] w') noPanic_imp (hm.sub (by ((try (simp only [List.append_assoc, List.nil_append, List.append_nil, List.cons_append])); repeat (first | exact List.nil_sublist _ | exact List.Sublist.refl _ | with_reducible refine List.Sublist.cons_cons _ ?_ | with_reducible refine List.Sublist.append (List.Sublist.refl _) ?_ | with_reducible exact List.sublist_append_left _ _ | refine List.Sublist.cons _ ?_ | refine List.Sublist.trans ?_ (List.sublist_append_right _ _))))).drew ?_
    have hm := hm.drew
    refine rp_val rfl rfl (v := (.pointer (some ⟨c, 0, none⟩))) (fun w' hs => val_move (v := (.pointer (some ⟨c, 0, none⟩))) rfl) ?_
    refine rp_val rfl rfl (v := (.pointer (some ⟨c, 0, none⟩))) (fun w' hs => val_move (v := (.pointer (some ⟨c, 0, none⟩))) rfl) ?_
    refine rp_val rfl rfl (v := (.pointer (some ⟨c, 0, none⟩))) (fun w' hs => val_nilCheck rfl) ?_
    refine rp_val rfl rfl (v := (.pointer (some ⟨c, 1, none⟩))) (fun w' hs => val_fieldAddr (d := 1) rfl fo_127_1) ?_
    refine rp_val rfl rfl (v := (.slice ae bs.length ce)) (fun w' hs => val_load1 (v := (.slice ae bs.length ce)) (off := 1) rfl ag_125 (hs.row (i := 3) rfl).l rfl) ?_
    refine rp_val rfl rfl (v := (.agg (entC (leafP b) (sha (markP bs ++ leafP b)) (rootsP (bs ++ [b])) v7).toArray)) (fun w' hs => val_loadAll rfl ag_131 (hs.row (i := 2) rfl).l (entC_len (by simp) (by simp) (by simp)) (by decide)) ?_
    refine rp_buildSlice (vs := [(.agg (entC (leafP b) (sha (markP bs ++ leafP b)) (rootsP (bs ++ [b])) v7).toArray)]) (cs := (entC (leafP b) (sha (markP bs ++ leafP b)) (rootsP (bs ++ [b])) v7)) rfl rfl ez_125 rfl (parts_cons rfl (parts_nil)) rfl (by decide) (by intro v hv; simp only [List.mem_singleton] at hv; subst hv; simp [Value.cells, entC]) (by simp [Value.cells]) hm (fun b w' h => .inr (h.sub (by ((try (simp only [List.append_assoc, List.nil_append, List.append_nil, List.cons_append])); repeat (first | exact List.nil_sublist _ | exact List.Sublist.refl _ | with_reducible refine List.Sublist.cons_cons _ ?_ | with_reducible refine List.Sublist.append (List.Sublist.refl _) ?_ | with_reducible exact List.sublist_append_left _ _ | refine List.Sublist.cons _ ?_ | refine List.Sublist.trans ?_ (List.sublist_append_right _ _)))))) ?_
    intro b36 w37 hm
    refine rp_appendS (l1 := ([(b36, row (entC (leafP b) (sha (markP bs ++ leafP b)) (rootsP (bs ++ [b])) v7) 131), (b21, row ([(.slice (some ⟨b18, 0, none⟩) 32 32), (.slice (some ⟨b10, 0, none⟩) 32 32)]) 38), (b18, row ((markP bs).map v8) 50), (b10, row (entC (leafP b) (sha (markP bs ++ leafP b)) (rootsP (bs ++ [b])) v7) 131), (c, row ([(.pointer (some ⟨f, 0, none⟩)), (.slice ae bs.length ce)]) 127), (f, row ([(vI 1), (vU ((bs ++ [b]).length : Int)), (.slice af nf2 cf)]) 207)] ++ (rf2 ++ []))) (l2 := (rbs.flatten ++ (r8 ++ (r26 ++ [])))) (r := re) (v := (.slice ae bs.length ce)) (xs := (entsC bs bvs)) (news := (entC (leafP b) (sha (markP bs ++ leafP b)) (rootsP (bs ++ [b])) v7)) rfl rfl ez_125 rfl (by decide) (by decide) rfl rfl hve (by simpa only [List.append_assoc, List.nil_append, List.append_nil, List.cons_append] using hm) (SlIs.of (own := []) (by simp) (hm.row (i := 0) rfl).l (by rw [List.drop_zero, List.take_of_length_le (by simp [entC])]) (by simp [entC]) (by omega)) (entC_one _ _ _ hv9.isOne) (by omega) ?_
    intro v38 r39 w41 hv40 hm
    refine ⟨.inr (hm.sub (by ((try (simp only [List.append_assoc, List.nil_append, List.append_nil, List.cons_append])); repeat (first | exact List.nil_sublist _ | exact List.Sublist.refl _ | with_reducible refine List.Sublist.cons_cons _ ?_ | with_reducible refine List.Sublist.append (List.Sublist.refl _) ?_ | with_reducible exact List.sublist_append_left _ _ | refine List.Sublist.cons _ ?_ | refine List.Sublist.trans ?_ (List.sublist_append_right _ _))))), ?_⟩
    replace hm : Mem w own0 ([(b36, row (entC (leafP b) (sha (markP bs ++ leafP b)) (rootsP (bs ++ [b])) v7) 131), (b21, row ([(.slice (some ⟨b18, 0, none⟩) 32 32), (.slice (some ⟨b10, 0, none⟩) 32 32)]) 38), (b18, row ((markP bs).map v8) 50), (b10, row (entC (leafP b) (sha (markP bs ++ leafP b)) (rootsP (bs ++ [b])) v7) 131), (c, row ([(.pointer (some ⟨f, 0, none⟩)), (.slice ae bs.length ce)]) 127), (f, row ([(vI 1), (vU ((bs ++ [b]).length : Int)), (.slice af nf2 cf)]) 207)] ++ (rf2 ++ (r39 ++ (rbs.flatten ++ (r8 ++ (r26 ++ [])))))) w41 := by simpa only [List.append_assoc, List.nil_append, List.append_nil, List.cons_append] using hm
    refine rp_vale rfl rfl (v := (.pointer (some ⟨c, 0, none⟩))) (val_nilCheck rfl) (.inl (by kernel_rfl)) ?_
    refine rp_vale rfl rfl (v := (.pointer (some ⟨c, 1, none⟩))) (val_fieldAddr (d := 1) rfl fo_127_1) (.inl (by kernel_rfl)) ?_
    refine rp_store (i := 4) (off := 1) (xs := ([(.pointer (some ⟨f, 0, none⟩)), (.slice ae bs.length ce)])) (vs := [v38]) rfl rfl rfl rfl ag_125 hm rfl (cells_one1 hv40.isOne) rfl (by simp) (ones_cons hv40.isOne ones_nil) (by kernel_rfl) ?_
    intro w42 hm
    replace hm : Mem w own0 ([(b36, row (entC (leafP b) (sha (markP bs ++ leafP b)) (rootsP (bs ++ [b])) v7) 131), (b21, row ([(.slice (some ⟨b18, 0, none⟩) 32 32), (.slice (some ⟨b10, 0, none⟩) 32 32)]) 38), (b18, row ((markP bs).map v8) 50), (b10, row (entC (leafP b) (sha (markP bs ++ leafP b)) (rootsP (bs ++ [b])) v7) 131), (c, row ([(.pointer (some ⟨f, 0, none⟩)), v38]) 127), (f, row ([(vI 1), (vU ((bs ++ [b]).length : Int)), (.slice af nf2 cf)]) 207)] ++ (rf2 ++ (r39 ++ (rbs.flatten ++ (r8 ++ (r26 ++ [])))))) w42 := hm
    refine rp_nil ?_
    refine wp_sr (E := noPanic) noPanic_imp ?_
    refine rl_val rfl (v := (vI 0)) (val_assign (v := (vI 0)) rfl) ?_
    refine rl_nil ?_
    refine WP.ret (post_rets rfl (vs := [vI 0]) ⟨rfl, trivial⟩ rfl ⟨fun _ => ⟨rfl, _, chain_snoc (rb := r8) (f := f) hvf2 hnf2 (by have := front_le ((bs ++ [b]).map leafP); rw [hnf2] at this; simpa using this) (by rw [entsC_snoc b v7 hbl, markP_snoc]; simpa using hv40) hbl hrl hbv hv9, hm.sub (by ((try (simp only [List.append_assoc, List.nil_append, List.append_nil, List.cons_append])); repeat (first | exact List.nil_sublist _ | exact List.Sublist.refl _ | with_reducible refine List.Sublist.cons_cons _ ?_ | with_reducible refine List.Sublist.append (List.Sublist.refl _) ?_ | with_reducible exact List.sublist_append_left _ _ | refine List.Sublist.cons _ ?_ | refine List.Sublist.trans ?_ (List.sublist_append_right _ _))))⟩, fun h => by omega⟩)
end Go.Al
namespace Go.Al
open Go Go.RowKit Go.Proofs
set_option linter.unusedVariables false
set_option linter.unusedSimpArgs false
theorem zrow : List.replicate 32 (v8 0) = z32.map v8 := by simp [z32]
theorem addr_add0 (a : Addr) : a.add 0 = a := by unfold Addr.add; simp
theorem val_sliceHi {P : Program} {ρ : Operand → Value} {w : World} {ty : TypeId} {x y : Operand} {t e : TypeId} {sz n cap h : Nat} {a : Option Addr} {k : IntKind} (hx : ρ x = .slice a n cap) (ht : P.underlying t = some (.slice e)) (hsz : elemSl P t = some sz) (hy : ρ y = .int k h) (h2 : h ≤ cap) :
    Val P ρ w (.slice t x none (some y) none) ty (.slice a h cap) := by
  intro o ho hty
  simp only [execOp, ho, hx]
  refine fin_val ?_
  unfold elemSl at hsz
  rw [ht] at hsz
  simp only at hsz
  cases hi' : P.info? e with
  | none => rw [hi'] at hsz; simp at hsz
  | some inf =>
    unfold Instr.sliceAt
    rw [run_bind' (run_under ht w)]
    simp only
    unfold Instr.slice
    rw [run_bind' (run_under ht w)]
    simp only
    have hb : (Instr.sliceBounds true n cap none (some (ρ y)) none).run P w = .ok (0, h, cap) w := by
      unfold Instr.sliceBounds
      simp only [pure_bind]
      rw [run_bind' (run_bound hy ⟨by omega, by omega⟩)]; simp [pure, Sem.run]
    simp only [Option.map_none, Option.map_some] at hb ⊢
    rw [run_bind' hb, run_bind' (run_size' hi' w)]
    have hmap : a.map (fun x => x.add (0 * inf.size)) = a := by
      cases a with
      | none => rfl
      | some x => simp [addr_add0]
    simp [pure, Sem.run, Nat.zero_mul, addr_add0]
theorem SlIs.takeHi {w : World} {own : List Nat} {a : Option Addr} {n c sz k : Nat} {cs : List Value} (h : SlIs w own (.slice a n c) sz n cs) (hk : k ≤ n) : SlIs w own (.slice a k c) sz k (cs.take (k * sz)) := by
  obtain ⟨a', c', he, h1, h2, h3⟩ := h
  cases he
  have hkk := Nat.mul_le_mul_right sz hk
  refine ⟨_, _, rfl, by omega, by rw [List.length_take, h2]; omega, fun hn => ?_⟩
  obtain ⟨b', off', xs, h4, h5, h6, h7, h8⟩ := h3 (by omega)
  exact ⟨b', off', xs, h4, h5, h6, by rw [← h7, List.take_take]; congr 1; omega, by omega⟩
def sumAt (f : List Bytes → Bytes) (bs : List Bytes) (k : Nat) : Bytes := if k ≤ bs.length then f (bs.take k) else z32
def errAt (bs : List Bytes) (k : Nat) : Int := if k ≤ bs.length then 0 else 1
@[simp] theorem sumAt_mark_len (bs : List Bytes) (k : Nat) : (sumAt markP bs k).length = 32 := by unfold sumAt; split <;> simp
@[simp] theorem sumAt_root_len (bs : List Bytes) (k : Nat) : (sumAt rootsP bs k).length = 32 := by unfold sumAt; split <;> simp
theorem mark1_ok (bs : List Bytes) (bvs : List Value) (a : Option Addr) (cc : Nat) (w : World) (hb : bs.length ≤ 1000) (hs : SlIs w [] (.slice a bs.length cc) 97 bs.length (entsC bs bvs)) : Calls Tryz.prog 94 [.slice a bs.length cc].toArray w (Ret w (.tuple #[.agg ((markP bs).map v8).toArray, vI 0])) := by
  have hm := Mem.init w
  refine calls_enter (n := 7) Tryz.func94 rfl rfl rfl ?_
  refine wp_sr (E := noPanic) noPanic_imp ?_
  refine rl_alloc (xs := List.replicate 32 (v8 0)) rfl zo_50 hm ?_
  intro b1 w2 hm
  refine rl_val rfl (v := (vI 0)) (val_assign (v := (vI 0)) rfl) ?_
  refine rl_nil ?_
  refine wp_sr (E := noPanic) noPanic_imp ?_
  refine rl_val rfl (v := (.slice a bs.length cc)) (val_move (v := (.slice a bs.length cc)) rfl) ?_
  refine rl_call rfl (ent_static (args := [(.slice a bs.length cc)]) Tryz.func86 rfl rfl rfl rfl) (last_ok bs bvs _ _ _ (by omega) (hs.mem (own2 := []) hm (by simp))) ?_
  rintro _ w3 ⟨rfl, h4⟩
  refine callQ_ret ?_
  replace hm : Mem w [] [(b1, row (List.replicate 32 (v8 0)) 50)] w3 := hm.call h4
  refine rl_val rfl (v := (.agg ((markP bs).map v8).toArray)) (val_fieldA (m := (markP bs).map v8) rfl ft_129_1 ag_50 (lastS_mark bs) (by simp)) ?_
  refine rl_store (i := 0) (off := 0) (xs := (List.replicate 32 (v8 0))) (vs := (markP bs).map v8) rfl rfl rfl ag_50 hm rfl rfl (by simp) (by simp) (one_map8 _) ?_
  intro w5 hm
  rw [spl_all (n := 32) (by simp) (by simp)] at hm
  replace hm : Mem w [] [(b1, row ((markP bs).map v8) 50)] w5 := hm
  refine rl_val rfl (v := (vI 0)) (val_assign (v := (vI 0)) rfl) ?_
  refine rl_nil ?_
  refine WP.ret ?_
  repeat (first | with_reducible refine ret_pass ?_ | with_reducible refine ret_blk ?_ | with_reducible refine scope_ret ?_)
  exact post_rets rfl (vs := [.agg ((markP bs).map v8).toArray, (vI 0)]) ⟨⟨true, 32, _, 0, _, rfl, ag_50, (hm.row (i := 0) rfl).l, by simp, by decide, by simp [rd, List.take_of_length_le]⟩, rfl, trivial⟩ rfl ⟨rfl, hm.nil⟩
theorem root1c_ok (bs : List Bytes) (bvs : List Value) (a : Option Addr) (cc : Nat) (w : World) (hb : bs.length ≤ 1000) (hs : SlIs w [] (.slice a bs.length cc) 97 bs.length (entsC bs bvs)) : Calls Tryz.prog 95 [.slice a bs.length cc].toArray w (Ret w (.tuple #[.agg ((rootsP bs).map v8).toArray, vI 0])) := by
  have hm := Mem.init w
  refine calls_enter (n := 11) Tryz.func95 rfl rfl rfl ?_
  refine wp_sr (E := noPanic) noPanic_imp ?_
  refine rl_alloc (xs := List.replicate 32 (v8 0)) rfl zo_50 hm ?_
  intro b1 w2 hm
  refine rl_val rfl (v := (vI 0)) (val_assign (v := (vI 0)) rfl) ?_
  refine rl_nil ?_
  refine WP.seq ?_
  refine wp_sr (E := noPanic) noPanic_imp ?_
  refine rl_val rfl (v := (.slice a bs.length cc)) (val_move (v := (.slice a bs.length cc)) rfl) ?_
  refine rl_val rfl (v := (vI (bs.length : Nat))) (val_lenSl (t := 125) rfl us_125 rfl) ?_
  refine rl_val rfl (v := (.bool (decide (((bs.length : Nat) : Int) = 0)))) (val_eq (p := (bs.length : Nat)) (q := 0) rfl rfl) ?_
  refine rl_nil ?_
  refine WP.cond (b := decide (((bs.length : Nat) : Int) = 0)) rfl (fun hb => ?_) (fun hb => ?_)
  ·
    have hq3 := of_decide_eq_true hb
    obtain rfl : bs = [] := List.eq_nil_of_length_eq_zero (by omega)
    refine wp_sr (E := noPanic) noPanic_imp ?_
    refine rl_call rfl (ent_static (args := [(.slice none 0 0)]) Tryz.func96 rfl rfl rfl rfl) (root_ok [] _ _ _ _ rfl (by intro x hx; simp at hx) SlIs.nil (by omega)) ?_
    rintro _ w4 ⟨rfl, h5⟩
    refine callQ_ret ?_
    replace hm : Mem w [] [(b1, row (List.replicate 32 (v8 0)) 50)] w4 := hm.call h5
    refine rl_store (i := 0) (off := 0) (xs := (List.replicate 32 (v8 0))) (vs := (rootsP []).map v8) rfl rfl rfl ag_50 hm rfl rfl (by simp) (by simp) (one_map8 _) ?_
    intro w6 hm
    rw [spl_all (n := 32) (by simp) (by simp)] at hm
    replace hm : Mem w [] [(b1, row ((rootsP []).map v8) 50)] w6 := hm
    refine rl_val rfl (v := (vI 0)) (val_assign (v := (vI 0)) rfl) ?_
    refine rl_nil ?_
    refine WP.ret ?_
    repeat (first | with_reducible refine ret_pass ?_ | with_reducible refine ret_blk ?_ | with_reducible refine scope_ret ?_)
    exact post_rets rfl (vs := [.agg ((rootsP []).map v8).toArray, (vI 0)]) ⟨⟨true, 32, _, 0, _, rfl, ag_50, (hm.row (i := 0) rfl).l, by simp, by decide, by simp [rd, List.take_of_length_le]⟩, rfl, trivial⟩ rfl ⟨rfl, hm.nil⟩
  ·
    have hq7 := of_decide_eq_false hb
    have hne : bs ≠ [] := by rintro rfl; simp at hq7
    refine WP.skip ?_
    refine wp_sr (E := noPanic) noPanic_imp ?_
    refine rl_val rfl (v := (.slice a bs.length cc)) (val_move (v := (.slice a bs.length cc)) rfl) ?_
    refine rl_call rfl (ent_static (args := [(.slice a bs.length cc)]) Tryz.func86 rfl rfl rfl rfl) (last_ok bs bvs _ _ _ (by omega) (hs.mem (own2 := []) hm (by simp))) ?_
    rintro _ w8 ⟨rfl, h9⟩
    refine callQ_ret ?_
    replace hm : Mem w [] [(b1, row (List.replicate 32 (v8 0)) 50)] w8 := hm.call h9
    refine rl_val rfl (v := (.agg ((rootsP bs).map v8).toArray)) (val_fieldA (m := (rootsP bs).map v8) rfl ft_129_2 ag_50 (lastS_root hne) (by simp)) ?_
    refine rl_store (i := 0) (off := 0) (xs := (List.replicate 32 (v8 0))) (vs := (rootsP bs).map v8) rfl rfl rfl ag_50 hm rfl rfl (by simp) (by simp) (one_map8 _) ?_
    intro w10 hm
    rw [spl_all (n := 32) (by simp) (by simp)] at hm
    replace hm : Mem w [] [(b1, row ((rootsP bs).map v8) 50)] w10 := hm
    refine rl_val rfl (v := (vI 0)) (val_assign (v := (vI 0)) rfl) ?_
    refine rl_nil ?_
    refine WP.ret ?_
    repeat (first | with_reducible refine ret_pass ?_ | with_reducible refine ret_blk ?_ | with_reducible refine scope_ret ?_)
    exact post_rets rfl (vs := [.agg ((rootsP bs).map v8).toArray, (vI 0)]) ⟨⟨true, 32, _, 0, _, rfl, ag_50, (hm.row (i := 0) rfl).l, by simp, by decide, by simp [rd, List.take_of_length_le]⟩, rfl, trivial⟩ rfl ⟨rfl, hm.nil⟩
theorem first94_ok (c f ce k : Nat) (bs : List Bytes) (bvs : List Value) (ae : Option Addr) (w : World) (hb : bs.length ≤ 1000) (hcr : RowL w c [.pointer (some ⟨f, 0, none⟩), .slice ae bs.length ce]) (hse : SlIs w [] (.slice ae bs.length ce) 97 bs.length (entsC bs bvs)) :
    Calls Tryz.prog 93 [.pointer (some ⟨c, 0, none⟩), vU (k : Int), .func (.func 94) #[] #[]].toArray w (Ret w (if k ≤ bs.length then .tuple #[.agg ((markP (bs.take k)).map v8).toArray, vI 0] else .tuple #[.agg (z32.map v8).toArray, vI 1])) := by
  have hce : bs.length ≤ ce := by obtain ⟨_, _, he, h, _⟩ := hse; cases he; exact h
  have hm := Mem.init w
  refine calls_enter (n := 28) Tryz.func93 rfl rfl rfl ?_
  refine wp_sr (E := noPanic) noPanic_imp ?_
  refine rl_alloc (xs := List.replicate 32 (v8 0)) rfl zo_50 hm ?_
  intro b1 w2 hm
  refine rl_val rfl (v := (vI 0)) (val_assign (v := (vI 0)) rfl) ?_
  refine rl_nil ?_
  refine WP.seq (WP.block ?_)
  refine wp_sr (E := noPanic) noPanic_imp ?_
  refine rl_val rfl (v := (.pointer (some ⟨c, 0, none⟩))) (val_move (v := (.pointer (some ⟨c, 0, none⟩))) rfl) ?_
  refine rl_call rfl (ent_static (args := [(.pointer (some ⟨c, 0, none⟩))]) Tryz.func83 rfl rfl rfl rfl) (cnone_ok c f _ _ (hm.getL hcr (by simp))) ?_
  rintro _ w3 ⟨rfl, h4⟩
  refine callQ_ret ?_
  replace hm : Mem w [] [(b1, row (List.replicate 32 (v8 0)) 50)] w3 := hm.call h4
  refine rl_val rfl (v := (.bool false)) (val_assign (v := (.bool false)) rfl) ?_
  refine rl_nil ?_
  refine WP.cond_f rfl ?_
  refine wp_sr (E := noPanic) noPanic_imp ?_
  refine rl_val rfl (v := (vU (k : Int))) (val_move (v := (vU (k : Int))) rfl) ?_
  refine rl_val rfl (v := (.pointer (some ⟨c, 0, none⟩))) (val_move (v := (.pointer (some ⟨c, 0, none⟩))) rfl) ?_
  refine rl_call rfl (ent_static (args := [(.pointer (some ⟨c, 0, none⟩))]) Tryz.func14 rfl rfl rfl rfl) (csize_ok c f ce bs ae _ (by omega) (hm.getL hcr (by simp))) ?_
  rintro _ w5 ⟨rfl, h6⟩
  refine callQ_ret ?_
  replace hm : Mem w [] [(b1, row (List.replicate 32 (v8 0)) 50)] w5 := hm.call h6
  refine rl_val rfl (v := (.bool (decide (((bs.length : Int) : Int) < (k : Int))))) (val_gt (p := (k : Int)) (q := (bs.length : Int)) rfl rfl) ?_
  refine rl_val rfl (v := (.bool (decide (((bs.length : Int) : Int) < (k : Int))))) (val_assign (v := (.bool (decide (((bs.length : Int) : Int) < (k : Int))))) rfl) ?_
  refine rl_nil ?_
  refine WP.cond (b := decide (((bs.length : Int) : Int) < (k : Int))) rfl (fun hb => ?_) (fun hb => ?_)
  ·
    have hq7 := of_decide_eq_true hb
    have hk : bs.length < k := by omega
    have hk' : ¬ k ≤ bs.length := by omega
    refine wp_sr (E := noPanic) noPanic_imp ?_
    refine rl_val rfl (v := (.agg (z32.map v8).toArray)) (val_loadAll rfl ag_50 (by have h := (hm.row (i := 0) rfl).l; rw [zrow] at h; exact h) (by simp) (by decide)) ?_
    refine rl_store (i := 0) (off := 0) (xs := (List.replicate 32 (v8 0))) (vs := z32.map v8) rfl rfl rfl ag_50 hm rfl rfl (by simp) (by simp) (one_map8 _) ?_
    intro w8 hm
    rw [spl_all (n := 32) (by simp) (by simp)] at hm
    replace hm : Mem w [] [(b1, row (z32.map v8) 50)] w8 := hm
    refine rl_val rfl (v := (vI 1)) (val_assign (v := (vI 1)) rfl) ?_
    refine rl_nil ?_
    refine WP.ret ?_
    repeat (first | with_reducible refine ret_pass ?_ | with_reducible refine ret_blk ?_ | with_reducible refine scope_ret ?_)
    exact post_rets rfl (vs := [.agg ((z32).map v8).toArray, (vI 1)]) ⟨⟨true, 32, _, 0, _, rfl, ag_50, (hm.row (i := 0) rfl).l, by simp, by decide, by simp [rd, List.take_of_length_le, z32]⟩, rfl, trivial⟩ rfl ⟨by rw [if_neg hk']; rfl, hm.nil⟩
  ·
    have hq9 := of_decide_eq_false hb
    have hk : k ≤ bs.length := by omega
    refine WP.skip ?_
    refine wp_sr (E := noPanic) noPanic_imp ?_
    refine rl_val rfl (v := (.func (.func 94) #[] #[])) (val_move (v := (.func (.func 94) #[] #[])) rfl) ?_
    refine rl_val rfl (v := (.pointer (some ⟨c, 0, none⟩))) (val_move (v := (.pointer (some ⟨c, 0, none⟩))) rfl) ?_
    refine rl_val rfl (v := (.pointer (some ⟨c, 0, none⟩))) (val_nilCheck rfl) ?_
    refine rl_val rfl (v := (.pointer (some ⟨c, 1, none⟩))) (val_fieldAddr (d := 1) rfl fo_127_1) ?_
    refine rl_val rfl (v := (.slice ae bs.length ce)) (val_load1 (v := (.slice ae bs.length ce)) (off := 1) rfl ag_125 (hm.getL hcr (by simp)) rfl) ?_
    refine rl_val rfl (v := (vU (k : Int))) (val_move (v := (vU (k : Int))) rfl) ?_
    refine rl_val rfl (v := (.slice ae ((bs.take k).length) ce)) (val_cast (val_sliceHi (h := k) rfl us_125 es_125 rfl (by omega)) (by rw [List.length_take, Nat.min_eq_left hk])) ?_
    refine rl_call rfl (ent_dyn (fst := []) (cap := []) (args := [(.slice ae ((bs.take k).length) ce)]) Tryz.func94 rfl rfl rfl rfl) (mark1_ok (bs.take k) (bvs.take k) ae ce _ (by simp; omega) (by rw [← entsC_take hk]; have h := (hse.takeHi hk).mem (own2 := []) hm (by simp); simpa [Nat.min_eq_left hk] using h)) ?_
    rintro _ w10 ⟨rfl, h11⟩
    refine callQ_ret ?_
    replace hm : Mem w [] [(b1, row (List.replicate 32 (v8 0)) 50)] w10 := hm.call h11
    refine rl_val rfl (v := (.agg ((markP (bs.take k)).map v8).toArray)) (val_extract (v := (.agg ((markP (bs.take k)).map v8).toArray)) rfl rfl) ?_
    refine rl_val rfl (v := (vI 0)) (val_extract (v := (vI 0)) rfl rfl) ?_
    refine rl_store (i := 0) (off := 0) (xs := (List.replicate 32 (v8 0))) (vs := (markP (bs.take k)).map v8) rfl rfl rfl ag_50 hm rfl rfl (by simp) (by simp) (one_map8 _) ?_
    intro w12 hm
    rw [spl_all (n := 32) (by simp) (by simp)] at hm
    replace hm : Mem w [] [(b1, row ((markP (bs.take k)).map v8) 50)] w12 := hm
    refine rl_val rfl (v := (vI 0)) (val_assign (v := (vI 0)) rfl) ?_
    refine rl_nil ?_
    refine WP.ret ?_
    repeat (first | with_reducible refine ret_pass ?_ | with_reducible refine ret_blk ?_ | with_reducible refine scope_ret ?_)
    exact post_rets rfl (vs := [.agg ((markP (bs.take k)).map v8).toArray, (vI 0)]) ⟨⟨true, 32, _, 0, _, rfl, ag_50, (hm.row (i := 0) rfl).l, by simp, by decide, by simp [rd, List.take_of_length_le]⟩, rfl, trivial⟩ rfl ⟨by rw [if_pos hk]; rfl, hm.nil⟩
theorem first95_ok (c f ce k : Nat) (bs : List Bytes) (bvs : List Value) (ae : Option Addr) (w : World) (hb : bs.length ≤ 1000) (hcr : RowL w c [.pointer (some ⟨f, 0, none⟩), .slice ae bs.length ce]) (hse : SlIs w [] (.slice ae bs.length ce) 97 bs.length (entsC bs bvs)) :
    Calls Tryz.prog 93 [.pointer (some ⟨c, 0, none⟩), vU (k : Int), .func (.func 95) #[] #[]].toArray w (Ret w (if k ≤ bs.length then .tuple #[.agg ((rootsP (bs.take k)).map v8).toArray, vI 0] else .tuple #[.agg (z32.map v8).toArray, vI 1])) := by
  have hce : bs.length ≤ ce := by obtain ⟨_, _, he, h, _⟩ := hse; cases he; exact h
  have hm := Mem.init w
  refine calls_enter (n := 28) Tryz.func93 rfl rfl rfl ?_
  refine wp_sr (E := noPanic) noPanic_imp ?_
  refine rl_alloc (xs := List.replicate 32 (v8 0)) rfl zo_50 hm ?_
  intro b1 w2 hm
  refine rl_val rfl (v := (vI 0)) (val_assign (v := (vI 0)) rfl) ?_
  refine rl_nil ?_
  refine WP.seq (WP.block ?_)
  refine wp_sr (E := noPanic) noPanic_imp ?_
  refine rl_val rfl (v := (.pointer (some ⟨c, 0, none⟩))) (val_move (v := (.pointer (some ⟨c, 0, none⟩))) rfl) ?_
  refine rl_call rfl (ent_static (args := [(.pointer (some ⟨c, 0, none⟩))]) Tryz.func83 rfl rfl rfl rfl) (cnone_ok c f _ _ (hm.getL hcr (by simp))) ?_
  rintro _ w3 ⟨rfl, h4⟩
  refine callQ_ret ?_
  replace hm : Mem w [] [(b1, row (List.replicate 32 (v8 0)) 50)] w3 := hm.call h4
  refine rl_val rfl (v := (.bool false)) (val_assign (v := (.bool false)) rfl) ?_
  refine rl_nil ?_
  refine WP.cond_f rfl ?_
  refine wp_sr (E := noPanic) noPanic_imp ?_
  refine rl_val rfl (v := (vU (k : Int))) (val_move (v := (vU (k : Int))) rfl) ?_
  refine rl_val rfl (v := (.pointer (some ⟨c, 0, none⟩))) (val_move (v := (.pointer (some ⟨c, 0, none⟩))) rfl) ?_
  refine rl_call rfl (ent_static (args := [(.pointer (some ⟨c, 0, none⟩))]) Tryz.func14 rfl rfl rfl rfl) (csize_ok c f ce bs ae _ (by omega) (hm.getL hcr (by simp))) ?_
  rintro _ w5 ⟨rfl, h6⟩
  refine callQ_ret ?_
  replace hm : Mem w [] [(b1, row (List.replicate 32 (v8 0)) 50)] w5 := hm.call h6
  refine rl_val rfl (v := (.bool (decide (((bs.length : Int) : Int) < (k : Int))))) (val_gt (p := (k : Int)) (q := (bs.length : Int)) rfl rfl) ?_
  refine rl_val rfl (v := (.bool (decide (((bs.length : Int) : Int) < (k : Int))))) (val_assign (v := (.bool (decide (((bs.length : Int) : Int) < (k : Int))))) rfl) ?_
  refine rl_nil ?_
  refine WP.cond (b := decide (((bs.length : Int) : Int) < (k : Int))) rfl (fun hb => ?_) (fun hb => ?_)
  ·
    have hq7 := of_decide_eq_true hb
    have hk : bs.length < k := by omega
    have hk' : ¬ k ≤ bs.length := by omega
    refine wp_sr (E := noPanic) noPanic_imp ?_
    refine rl_val rfl (v := (.agg (z32.map v8).toArray)) (val_loadAll rfl ag_50 (by have h := (hm.row (i := 0) rfl).l; rw [zrow] at h; exact h) (by simp) (by decide)) ?_
    refine rl_store (i := 0) (off := 0) (xs := (List.replicate 32 (v8 0))) (vs := z32.map v8) rfl rfl rfl ag_50 hm rfl rfl (by simp) (by simp) (one_map8 _) ?_
    intro w8 hm
    rw [spl_all (n := 32) (by simp) (by simp)] at hm
    replace hm : Mem w [] [(b1, row (z32.map v8) 50)] w8 := hm
    refine rl_val rfl (v := (vI 1)) (val_assign (v := (vI 1)) rfl) ?_
    refine rl_nil ?_
    refine WP.ret ?_
    repeat (first | with_reducible refine ret_pass ?_ | with_reducible refine ret_blk ?_ | with_reducible refine scope_ret ?_)
    exact post_rets rfl (vs := [.agg ((z32).map v8).toArray, (vI 1)]) ⟨⟨true, 32, _, 0, _, rfl, ag_50, (hm.row (i := 0) rfl).l, by simp, by decide, by simp [rd, List.take_of_length_le, z32]⟩, rfl, trivial⟩ rfl ⟨by rw [if_neg hk']; rfl, hm.nil⟩
  ·
    have hq9 := of_decide_eq_false hb
    have hk : k ≤ bs.length := by omega
    refine WP.skip ?_
    refine wp_sr (E := noPanic) noPanic_imp ?_
    refine rl_val rfl (v := (.func (.func 95) #[] #[])) (val_move (v := (.func (.func 95) #[] #[])) rfl) ?_
    refine rl_val rfl (v := (.pointer (some ⟨c, 0, none⟩))) (val_move (v := (.pointer (some ⟨c, 0, none⟩))) rfl) ?_
    refine rl_val rfl (v := (.pointer (some ⟨c, 0, none⟩))) (val_nilCheck rfl) ?_
    refine rl_val rfl (v := (.pointer (some ⟨c, 1, none⟩))) (val_fieldAddr (d := 1) rfl fo_127_1) ?_
    refine rl_val rfl (v := (.slice ae bs.length ce)) (val_load1 (v := (.slice ae bs.length ce)) (off := 1) rfl ag_125 (hm.getL hcr (by simp)) rfl) ?_
    refine rl_val rfl (v := (vU (k : Int))) (val_move (v := (vU (k : Int))) rfl) ?_
    refine rl_val rfl (v := (.slice ae ((bs.take k).length) ce)) (val_cast (val_sliceHi (h := k) rfl us_125 es_125 rfl (by omega)) (by rw [List.length_take, Nat.min_eq_left hk])) ?_
    refine rl_call rfl (ent_dyn (fst := []) (cap := []) (args := [(.slice ae ((bs.take k).length) ce)]) Tryz.func95 rfl rfl rfl rfl) (root1c_ok (bs.take k) (bvs.take k) ae ce _ (by simp; omega) (by rw [← entsC_take hk]; have h := (hse.takeHi hk).mem (own2 := []) hm (by simp); simpa [Nat.min_eq_left hk] using h)) ?_
    rintro _ w10 ⟨rfl, h11⟩
    refine callQ_ret ?_
    replace hm : Mem w [] [(b1, row (List.replicate 32 (v8 0)) 50)] w10 := hm.call h11
    refine rl_val rfl (v := (.agg ((rootsP (bs.take k)).map v8).toArray)) (val_extract (v := (.agg ((rootsP (bs.take k)).map v8).toArray)) rfl rfl) ?_
    refine rl_val rfl (v := (vI 0)) (val_extract (v := (vI 0)) rfl rfl) ?_
    refine rl_store (i := 0) (off := 0) (xs := (List.replicate 32 (v8 0))) (vs := (rootsP (bs.take k)).map v8) rfl rfl rfl ag_50 hm rfl rfl (by simp) (by simp) (one_map8 _) ?_
    intro w12 hm
    rw [spl_all (n := 32) (by simp) (by simp)] at hm
    replace hm : Mem w [] [(b1, row ((rootsP (bs.take k)).map v8) 50)] w12 := hm
    refine rl_val rfl (v := (vI 0)) (val_assign (v := (vI 0)) rfl) ?_
    refine rl_nil ?_
    refine WP.ret ?_
    repeat (first | with_reducible refine ret_pass ?_ | with_reducible refine ret_blk ?_ | with_reducible refine scope_ret ?_)
    exact post_rets rfl (vs := [.agg ((rootsP (bs.take k)).map v8).toArray, (vI 0)]) ⟨⟨true, 32, _, 0, _, rfl, ag_50, (hm.row (i := 0) rfl).l, by simp, by decide, by simp [rd, List.take_of_length_le]⟩, rfl, trivial⟩ rfl ⟨by rw [if_pos hk]; rfl, hm.nil⟩
theorem first94_okt (c f ce k : Nat) (bs : List Bytes) (bvs : List Value) (ae : Option Addr) (w : World) (hb : bs.length ≤ 1000) (hcr : RowL w c [.pointer (some ⟨f, 0, none⟩), .slice ae bs.length ce]) (hse : SlIs w [] (.slice ae bs.length ce) 97 bs.length (entsC bs bvs)) :
    Calls Tryz.prog 93 [.pointer (some ⟨c, 0, none⟩), vU (k : Int), .func (.func 94) #[] #[]].toArray w (Ret w (.tuple #[.agg ((sumAt markP bs k).map v8).toArray, vI (errAt bs k)])) := by
  have h := first94_ok c f ce k bs bvs ae w hb hcr hse
  unfold sumAt errAt
  by_cases hk : k ≤ bs.length
  · simpa only [if_pos hk] using h
  · simpa only [if_neg hk] using h
theorem cmark_ok (c k : Nat) (bs : List Bytes) (l : List (Nat × Obj)) (w : World) (hb : bs.length ≤ 1000) (hc : ChainIs c bs l) (hl : ∀ p ∈ l, w.heap[p.1]? = some p.2) :
    Calls Tryz.prog 16 [.pointer (some ⟨c, 0, none⟩), vU (k : Int)].toArray w (Ret w (.tuple #[.agg ((sumAt markP bs k).map v8).toArray, vI (errAt bs k)])) := by
  obtain ⟨f, vf, nf, rf, ve, re, bvs, rbs, rfl, hvf, hnf, hnb, hve, hbl, hrl, hbv⟩ := hc
  have hcr : RowL w c [.pointer (some ⟨f, 0, none⟩), ve] := ⟨127, (0, 0), hl (c, row [.pointer (some ⟨f, 0, none⟩), ve] 127) (by simp)⟩
  have hfr : RowL w f [vI 1, vU (bs.length : Int), vf] := ⟨207, (0, 0), hl (f, row [vI 1, vU (bs.length : Int), vf] 207) (by simp)⟩
  obtain ⟨ae, ce, rfl, hce, _⟩ := hve.form
  have hse : SlIs w [] (.slice ae bs.length ce) 97 bs.length (entsC bs bvs) := hve.slIs (fun p hp => ⟨hl p (by simp [hp]), by simp⟩)
  have hm := Mem.init w
  refine calls_enter (n := 11) Tryz.func16 rfl rfl rfl ?_
  refine wp_sr (E := noPanic) noPanic_imp ?_
  refine rl_alloc (xs := List.replicate 32 (v8 0)) rfl zo_50 hm ?_
  intro b1 w2 hm
  refine rl_val rfl (v := (vI 0)) (val_assign (v := (vI 0)) rfl) ?_
  refine rl_nil ?_
  refine wp_sr (E := noPanic) noPanic_imp ?_
  refine rl_val rfl (v := (.pointer (some ⟨c, 0, none⟩))) (val_move (v := (.pointer (some ⟨c, 0, none⟩))) rfl) ?_
  refine rl_val rfl (v := (vU (k : Int))) (val_move (v := (vU (k : Int))) rfl) ?_
  refine rl_call rfl (ent_static (args := [(.pointer (some ⟨c, 0, none⟩)), (vU (k : Int)), (.func (.func 94) #[] #[])]) Tryz.func93 rfl rfl rfl rfl) (first94_okt c f ce k bs bvs ae _ hb (hm.getL hcr (by simp)) (hse.mem (own2 := []) hm (by simp))) ?_
  rintro _ w3 ⟨rfl, h4⟩
  refine callQ_ret ?_
  replace hm : Mem w [] [(b1, row (List.replicate 32 (v8 0)) 50)] w3 := hm.call h4
  refine rl_val rfl (v := (.agg ((sumAt markP bs k).map v8).toArray)) (val_extract (v := (.agg ((sumAt markP bs k).map v8).toArray)) rfl rfl) ?_
  refine rl_val rfl (v := (vI (errAt bs k))) (val_extract (v := (vI (errAt bs k))) rfl rfl) ?_
  refine rl_store (i := 0) (off := 0) (xs := (List.replicate 32 (v8 0))) (vs := (sumAt markP bs k).map v8) rfl rfl rfl ag_50 hm rfl rfl (by simp) (by simp) (one_map8 _) ?_
  intro w5 hm
  rw [spl_all (n := 32) (by simp) (by simp)] at hm
  replace hm : Mem w [] [(b1, row ((sumAt markP bs k).map v8) 50)] w5 := hm
  refine rl_val rfl (v := (vI (errAt bs k))) (val_assign (v := (vI (errAt bs k))) rfl) ?_
  refine rl_nil ?_
  exact WP.ret (post_rets rfl (vs := [.agg ((sumAt markP bs k).map v8).toArray, vI (errAt bs k)]) ⟨⟨true, 32, _, 0, _, rfl, ag_50, (hm.row (i := 0) rfl).l, by simp, by decide, by simp [rd, List.take_of_length_le]⟩, rfl, trivial⟩ rfl ⟨rfl, hm.nil⟩)
theorem first95_okt (c f ce k : Nat) (bs : List Bytes) (bvs : List Value) (ae : Option Addr) (w : World) (hb : bs.length ≤ 1000) (hcr : RowL w c [.pointer (some ⟨f, 0, none⟩), .slice ae bs.length ce]) (hse : SlIs w [] (.slice ae bs.length ce) 97 bs.length (entsC bs bvs)) :
    Calls Tryz.prog 93 [.pointer (some ⟨c, 0, none⟩), vU (k : Int), .func (.func 95) #[] #[]].toArray w (Ret w (.tuple #[.agg ((sumAt rootsP bs k).map v8).toArray, vI (errAt bs k)])) := by
  have h := first95_ok c f ce k bs bvs ae w hb hcr hse
  unfold sumAt errAt
  by_cases hk : k ≤ bs.length
  · simpa only [if_pos hk] using h
  · simpa only [if_neg hk] using h
theorem croot_ok (c k : Nat) (bs : List Bytes) (l : List (Nat × Obj)) (w : World) (hb : bs.length ≤ 1000) (hc : ChainIs c bs l) (hl : ∀ p ∈ l, w.heap[p.1]? = some p.2) :
    Calls Tryz.prog 17 [.pointer (some ⟨c, 0, none⟩), vU (k : Int)].toArray w (Ret w (.tuple #[.agg ((sumAt rootsP bs k).map v8).toArray, vI (errAt bs k)])) := by
  obtain ⟨f, vf, nf, rf, ve, re, bvs, rbs, rfl, hvf, hnf, hnb, hve, hbl, hrl, hbv⟩ := hc
  have hcr : RowL w c [.pointer (some ⟨f, 0, none⟩), ve] := ⟨127, (0, 0), hl (c, row [.pointer (some ⟨f, 0, none⟩), ve] 127) (by simp)⟩
  have hfr : RowL w f [vI 1, vU (bs.length : Int), vf] := ⟨207, (0, 0), hl (f, row [vI 1, vU (bs.length : Int), vf] 207) (by simp)⟩
  obtain ⟨ae, ce, rfl, hce, _⟩ := hve.form
  have hse : SlIs w [] (.slice ae bs.length ce) 97 bs.length (entsC bs bvs) := hve.slIs (fun p hp => ⟨hl p (by simp [hp]), by simp⟩)
  have hm := Mem.init w
  refine calls_enter (n := 11) Tryz.func17 rfl rfl rfl ?_
  refine wp_sr (E := noPanic) noPanic_imp ?_
  refine rl_alloc (xs := List.replicate 32 (v8 0)) rfl zo_50 hm ?_
  intro b1 w2 hm
  refine rl_val rfl (v := (vI 0)) (val_assign (v := (vI 0)) rfl) ?_
  refine rl_nil ?_
  refine wp_sr (E := noPanic) noPanic_imp ?_
  refine rl_val rfl (v := (.pointer (some ⟨c, 0, none⟩))) (val_move (v := (.pointer (some ⟨c, 0, none⟩))) rfl) ?_
  refine rl_val rfl (v := (vU (k : Int))) (val_move (v := (vU (k : Int))) rfl) ?_
  refine rl_call rfl (ent_static (args := [(.pointer (some ⟨c, 0, none⟩)), (vU (k : Int)), (.func (.func 95) #[] #[])]) Tryz.func93 rfl rfl rfl rfl) (first95_okt c f ce k bs bvs ae _ hb (hm.getL hcr (by simp)) (hse.mem (own2 := []) hm (by simp))) ?_
  rintro _ w3 ⟨rfl, h4⟩
  refine callQ_ret ?_
  replace hm : Mem w [] [(b1, row (List.replicate 32 (v8 0)) 50)] w3 := hm.call h4
  refine rl_val rfl (v := (.agg ((sumAt rootsP bs k).map v8).toArray)) (val_extract (v := (.agg ((sumAt rootsP bs k).map v8).toArray)) rfl rfl) ?_
  refine rl_val rfl (v := (vI (errAt bs k))) (val_extract (v := (vI (errAt bs k))) rfl rfl) ?_
  refine rl_store (i := 0) (off := 0) (xs := (List.replicate 32 (v8 0))) (vs := (sumAt rootsP bs k).map v8) rfl rfl rfl ag_50 hm rfl rfl (by simp) (by simp) (one_map8 _) ?_
  intro w5 hm
  rw [spl_all (n := 32) (by simp) (by simp)] at hm
  replace hm : Mem w [] [(b1, row ((sumAt rootsP bs k).map v8) 50)] w5 := hm
  refine rl_val rfl (v := (vI (errAt bs k))) (val_assign (v := (vI (errAt bs k))) rfl) ?_
  refine rl_nil ?_
  exact WP.ret (post_rets rfl (vs := [.agg ((sumAt rootsP bs k).map v8).toArray, vI (errAt bs k)]) ⟨⟨true, 32, _, 0, _, rfl, ag_50, (hm.row (i := 0) rfl).l, by simp, by decide, by simp [rd, List.take_of_length_le]⟩, rfl, trivial⟩ rfl ⟨rfl, hm.nil⟩)
end Go.Al
namespace Go.Al
open Go Go.RowKit Go.Proofs
set_option linter.unusedVariables false
set_option linter.unusedSimpArgs false
theorem val_sliceHM {P : Program} {ρ : Operand → Value} {w : World} {ty : TypeId} {x y z : Operand} {t e : TypeId} {sz n cap h m : Nat} {a : Option Addr} {k k2 : IntKind} (hx : ρ x = .slice a n cap) (ht : P.underlying t = some (.slice e)) (hsz : elemSl P t = some sz) (hy : ρ y = .int k h) (hz : ρ z = .int k2 m) (h2 : h ≤ m) (h3 : m ≤ cap) :
    Val P ρ w (.slice t x none (some y) (some z)) ty (.slice a h m) := by
  intro o ho hty
  simp only [execOp, ho, hx]
  refine fin_val ?_
  unfold elemSl at hsz
  rw [ht] at hsz
  simp only at hsz
  cases hi' : P.info? e with
  | none => rw [hi'] at hsz; simp at hsz
  | some inf =>
    unfold Instr.sliceAt
    rw [run_bind' (run_under ht w)]
    simp only
    unfold Instr.slice
    rw [run_bind' (run_under ht w)]
    simp only
    have hb : (Instr.sliceBounds true n cap none (some (ρ y)) (some (ρ z))).run P w = .ok (0, h, m) w := by
      unfold Instr.sliceBounds
      simp only
      rw [run_bind' (run_bound hz ⟨by omega, by omega⟩), run_bind' (run_bound hy ⟨by omega, by omega⟩)]; simp [pure, Sem.run]
    simp only [Option.map_none, Option.map_some] at hb ⊢
    rw [run_bind' hb, run_bind' (run_size' hi' w)]
    have hmap : a.map (fun x => x.add (0 * inf.size)) = a := by
      cases a with
      | none => rfl
      | some x => simp [addr_add0]
    simp [pure, Sem.run, Nat.zero_mul, addr_add0]
theorem VecIs.clip {a : Option Addr} {n c sz : Nat} {e : TypeId} {xs : List Value} {r : List (Nat × Obj)} (h : VecIs (.slice a n c) n sz e xs r) : VecIs (.slice a n n) n sz e xs r := by
  rcases h with ⟨h1, rfl, rfl, rfl⟩ | ⟨g, cap, rest, h1, h2, h3, h4, h5, rfl⟩
  · cases h1; exact VecIs.nil
  · cases h1
    exact .inr ⟨g, n, rest, rfl, Nat.le_refl _, by omega, h4, by rw [List.length_append, h4]; omega, rfl⟩
theorem ent_cell {bs : List Bytes} {bvs xs : List Value} {off k : Nat} {v : Value} (hcs : (xs.drop off).take (bs.length * 97) = entsC bs bvs) (hk : k < bs.length) (hv : bvs[k]? = some v) : xs[off + k * 97 + 96]? = some v := by
  have h1 : xs.drop off = entsC bs bvs ++ (xs.drop off).drop (bs.length * 97) := by rw [← hcs, List.take_append_drop]
  have h2 : xs[off + k * 97 + 96]? = (xs.drop off)[k * 97 + 96]? := by rw [List.getElem?_drop]; congr 1
  rw [h2, h1]
  unfold entsC
  rw [chunk_cell (f := entAt bs bvs) (k := 97) (n := bs.length) (fun i _ => entAt_len bs bvs i) hk (by omega)]
  unfold entAt
  rw [entC_v (by simp) (by simp) (by simp)]
  simp [hv]
theorem clip8_ok (a : Option Addr) (n c : Nat) (w : World) (hn : n ≤ c) (hb : n ≤ 1099511627776) : Calls Tryz.prog 92 [.slice a n c].toArray w (Ret w (.slice a n n)) := by
  have hm := Mem.init w
  refine calls_enter (n := 9) Tryz.func92 rfl rfl rfl ?_
  refine wp_sr (E := noPanic) noPanic_imp ?_
  refine rl_val rfl (v := (.slice none 0 0)) (val_assign (v := (.slice none 0 0)) rfl) ?_
  refine rl_nil ?_
  refine wp_sr (E := noPanic) noPanic_imp ?_
  refine rl_val rfl (v := (.slice a n c)) (val_move (v := (.slice a n c)) rfl) ?_
  refine rl_val rfl (v := (.slice a n c)) (val_move (v := (.slice a n c)) rfl) ?_
  refine rl_val rfl (v := (vI (n : Nat))) (val_lenSl (t := 38) rfl us_38 rfl) ?_
  refine rl_val rfl (v := (.slice a n c)) (val_move (v := (.slice a n c)) rfl) ?_
  refine rl_val rfl (v := (vI (n : Nat))) (val_lenSl (t := 38) rfl us_38 rfl) ?_
  refine rl_val rfl (v := (.slice a n n)) (val_sliceHM (h := n) (m := n) rfl us_38 es_38 rfl rfl (Nat.le_refl _) hn) ?_
  refine rl_val rfl (v := (.slice a n n)) (val_assign (v := (.slice a n n)) rfl) ?_
  refine rl_nil ?_
  exact WP.ret (post_rets rfl (vs := [.slice a n n]) ⟨rfl, trivial⟩ rfl ⟨rfl, hm⟩)
theorem clipS_ok (a : Option Addr) (n c : Nat) (w : World) (hn : n ≤ c) (hb : n ≤ 1099511627776) : Calls Tryz.prog 183 [.slice a n c].toArray w (Ret w (.slice a n n)) := by
  have hm := Mem.init w
  refine calls_enter (n := 9) Tryz.func183 rfl rfl rfl ?_
  refine wp_sr (E := noPanic) noPanic_imp ?_
  refine rl_val rfl (v := (.slice none 0 0)) (val_assign (v := (.slice none 0 0)) rfl) ?_
  refine rl_nil ?_
  refine wp_sr (E := noPanic) noPanic_imp ?_
  refine rl_val rfl (v := (.slice a n c)) (val_move (v := (.slice a n c)) rfl) ?_
  refine rl_val rfl (v := (.slice a n c)) (val_move (v := (.slice a n c)) rfl) ?_
  refine rl_val rfl (v := (vI (n : Nat))) (val_lenSl (t := 53) rfl us_53 rfl) ?_
  refine rl_val rfl (v := (.slice a n c)) (val_move (v := (.slice a n c)) rfl) ?_
  refine rl_val rfl (v := (vI (n : Nat))) (val_lenSl (t := 53) rfl us_53 rfl) ?_
  refine rl_val rfl (v := (.slice a n n)) (val_sliceHM (h := n) (m := n) rfl us_53 es_53 rfl rfl (Nat.le_refl _) hn) ?_
  refine rl_val rfl (v := (.slice a n n)) (val_assign (v := (.slice a n n)) rfl) ?_
  refine rl_nil ?_
  exact WP.ret (post_rets rfl (vs := [.slice a n n]) ⟨rfl, trivial⟩ rfl ⟨rfl, hm⟩)
theorem centry_ok (c k : Nat) (bs : List Bytes) (l : List (Nat × Obj)) (w : World) (hb : bs.length ≤ 1000) (hlen : ∀ b ∈ bs, b.length ≤ 16384) (hc : ChainIs c bs l) (hl : ∀ p ∈ l, w.heap[p.1]? = some p.2) :
    Calls Tryz.prog 15 [.pointer (some ⟨c, 0, none⟩), vU (k : Int)].toArray w (fun e w' => (∀ b : Bytes, bs[k]? = some b → ∃ v r, e = .returned (.tuple #[v, vI 0]) ∧ VecIs v b.length 1 5 (b.map v8) r ∧ Mem w [] r w') ∧ (¬ k < bs.length → e = .returned (.tuple #[.slice none 0 0, vI 1]) ∧ Mem w [] [] w')) := by
  obtain ⟨f, vf, nf, rf, ve, re, bvs, rbs, rfl, hvf, hnf, hnb, hve, hbl, hrl, hbv⟩ := hc
  have hcr : RowL w c [.pointer (some ⟨f, 0, none⟩), ve] := ⟨127, (0, 0), hl (c, row [.pointer (some ⟨f, 0, none⟩), ve] 127) (by simp)⟩
  have hfr : RowL w f [vI 1, vU (bs.length : Int), vf] := ⟨207, (0, 0), hl (f, row [vI 1, vU (bs.length : Int), vf] 207) (by simp)⟩
  obtain ⟨ae, ce, rfl, hce, _⟩ := hve.form
  have hse : SlIs w [] (.slice ae bs.length ce) 97 bs.length (entsC bs bvs) := hve.slIs (fun p hp => ⟨hl p (by simp [hp]), by simp⟩)
  have hm := Mem.init w
  refine calls_enter (n := 24) Tryz.func15 rfl rfl rfl ?_
  refine wp_sr (E := noPanic) noPanic_imp ?_
  refine rl_val rfl (v := (.slice none 0 0)) (val_assign (v := (.slice none 0 0)) rfl) ?_
  refine rl_val rfl (v := (vI 0)) (val_assign (v := (vI 0)) rfl) ?_
  refine rl_nil ?_
  refine WP.seq (WP.block ?_)
  refine wp_sr (E := noPanic) noPanic_imp ?_
  refine rl_val rfl (v := (.pointer (some ⟨c, 0, none⟩))) (val_move (v := (.pointer (some ⟨c, 0, none⟩))) rfl) ?_
  refine rl_call rfl (ent_static (args := [(.pointer (some ⟨c, 0, none⟩))]) Tryz.func83 rfl rfl rfl rfl) (cnone_ok c f _ _ (hm.getL hcr (by simp))) ?_
  rintro _ w1 ⟨rfl, h2⟩
  refine callQ_ret ?_
  replace hm : Mem w [] [] w1 := hm.call h2
  refine rl_val rfl (v := (.bool false)) (val_assign (v := (.bool false)) rfl) ?_
  refine rl_nil ?_
  refine WP.cond_f rfl ?_
  refine wp_sr (E := noPanic) noPanic_imp ?_
  refine rl_val rfl (v := (vU (k : Int))) (val_move (v := (vU (k : Int))) rfl) ?_
  refine rl_val rfl (v := (.pointer (some ⟨c, 0, none⟩))) (val_move (v := (.pointer (some ⟨c, 0, none⟩))) rfl) ?_
  refine rl_call rfl (ent_static (args := [(.pointer (some ⟨c, 0, none⟩))]) Tryz.func14 rfl rfl rfl rfl) (csize_ok c f ce bs ae _ (by omega) (hm.getL hcr (by simp))) ?_
  rintro _ w3 ⟨rfl, h4⟩
  refine callQ_ret ?_
  replace hm : Mem w [] [] w3 := hm.call h4
  refine rl_val rfl (v := (.bool (decide (((bs.length : Int) : Int) ≤ (k : Int))))) (val_ge (p := (k : Int)) (q := (bs.length : Int)) rfl rfl) ?_
  refine rl_val rfl (v := (.bool (decide (((bs.length : Int) : Int) ≤ (k : Int))))) (val_assign (v := (.bool (decide (((bs.length : Int) : Int) ≤ (k : Int))))) rfl) ?_
  refine rl_nil ?_
  refine WP.cond (b := decide (((bs.length : Int) : Int) ≤ (k : Int))) rfl (fun hb => ?_) (fun hb => ?_)
  ·
    have hq5 := of_decide_eq_true hb
    have hk : ¬ k < bs.length := by omega
    refine wp_sr (E := noPanic) noPanic_imp ?_
    refine rl_val rfl (v := (.slice none 0 0)) (val_assign (v := (.slice none 0 0)) rfl) ?_
    refine rl_val rfl (v := (vI 1)) (val_assign (v := (vI 1)) rfl) ?_
    refine rl_nil ?_
    refine WP.ret ?_
    repeat (first | with_reducible refine ret_pass ?_ | with_reducible refine ret_blk ?_ | with_reducible refine scope_ret ?_)
    exact post_rets rfl (vs := [.slice none 0 0, vI 1]) ⟨rfl, rfl, trivial⟩ rfl ⟨fun b h => absurd (List.getElem?_eq_some_iff.1 h).1 hk, fun _ => ⟨rfl, hm⟩⟩
  ·
    have hq6 := of_decide_eq_false hb
    have hk : k < bs.length := by omega
    obtain ⟨b, off, xs, rfl, hbn, hr, hcs, hle, hnc⟩ := hse.pos (by omega)
    obtain ⟨b0, hb0⟩ : ∃ b0, bs[k]? = some b0 := ⟨bs[k], by simp⟩
    obtain ⟨v0, hv0⟩ : ∃ v0, bvs[k]? = some v0 := ⟨bvs[k]'(by omega), by simp⟩
    obtain ⟨r0, hr0⟩ : ∃ r0, rbs[k]? = some r0 := ⟨rbs[k]'(by omega), by simp⟩
    have hvb := hbv k b0 v0 r0 hb0 hv0 hr0
    have hsb : SlIs w [] v0 1 b0.length (b0.map v8) := hvb.slIs (fun p hp => ⟨hl p (by simp only [List.mem_cons, List.mem_append, List.mem_flatten]; exact .inr (.inr (.inr (.inr ⟨r0, List.mem_of_getElem? hr0, hp⟩)))), by simp⟩)
    obtain ⟨a0, c0, rfl, _⟩ := hsb.form
    have hb0l := hlen b0 (List.mem_of_getElem? hb0)
    refine WP.skip ?_
    refine wp_sr (E := noPanic) noPanic_imp ?_
    refine rl_val rfl (v := (.pointer (some ⟨c, 0, none⟩))) (val_move (v := (.pointer (some ⟨c, 0, none⟩))) rfl) ?_
    refine rl_val rfl (v := (.pointer (some ⟨c, 0, none⟩))) (val_nilCheck rfl) ?_
    refine rl_val rfl (v := (.pointer (some ⟨c, 1, none⟩))) (val_fieldAddr (d := 1) rfl fo_127_1) ?_
    refine rl_val rfl (v := (.slice (some ⟨b, off, none⟩) bs.length ce)) (val_load1 (v := (.slice (some ⟨b, off, none⟩) bs.length ce)) (off := 1) rfl ag_125 (hm.getL hcr (by simp)) rfl) ?_
    refine rl_val rfl (v := (vU (k : Int))) (val_move (v := (vU (k : Int))) rfl) ?_
    refine rl_val rfl (v := (.pointer (some ⟨b, off + k * 97, none⟩))) (val_indexSl (i := (k : Int)) (sz := 97) rfl rfl es_125 (by omega)) ?_
    refine rl_val rfl (v := (.pointer (some ⟨b, off + k * 97 + 96, none⟩))) (val_fieldAddr (d := 96) rfl fo_131_1) ?_
    refine rl_val rfl (v := (.slice a0 b0.length c0)) (val_load1 (v := .slice a0 b0.length c0) (off := off + k * 97 + 96) rfl ag_38 (hm.getL hr (by simp)) (ent_cell hcs hk hv0)) ?_
    refine rl_call rfl (ent_static (args := [(.slice a0 b0.length c0)]) Tryz.func84 rfl rfl rfl rfl) (clone8_ok _ _ _ _ _ (hsb.mem (own2 := []) hm (by simp)) (one_map8 _) (by omega)) ?_
    rintro _ w7 ⟨v9, r10, rfl, hv11, h8⟩
    refine callQ_ret ?_
    replace hm := (hm.call h8).comm
    replace hm : Mem w [] ([] ++ (r10 ++ [])) w7 := by simpa only [List.append_assoc, List.nil_append, List.append_nil, List.cons_append] using hm
    obtain ⟨ac, cc, rfl, hcc, _⟩ := hv11.form
    refine rl_call rfl (ent_static (args := [(.slice ac b0.length cc)]) Tryz.func92 rfl rfl rfl rfl) (clip8_ok _ _ _ _ hcc (by omega)) ?_
    rintro _ w12 ⟨rfl, h13⟩
    refine callQ_ret ?_
    replace hm : Mem w [] ([] ++ (r10 ++ [])) w12 := hm.call h13
    refine rl_val rfl (v := (.slice ac b0.length b0.length)) (val_assign (v := (.slice ac b0.length b0.length)) rfl) ?_
    refine rl_val rfl (v := (vI 0)) (val_assign (v := (vI 0)) rfl) ?_
    refine rl_nil ?_
    refine WP.ret ?_
    repeat (first | with_reducible refine ret_pass ?_ | with_reducible refine ret_blk ?_ | with_reducible refine scope_ret ?_)
    exact post_rets rfl (vs := [(.slice ac b0.length b0.length), vI 0]) ⟨rfl, rfl, trivial⟩ rfl ⟨fun b h => ⟨_, _, rfl, by rw [hb0] at h; cases h; exact hv11.clip, by simpa using hm⟩, fun h => absurd hk h⟩
end Go.Al
namespace Go.Al
open Go Go.RowKit Go.Proofs
set_option linter.unusedVariables false
set_option linter.unusedSimpArgs false
theorem cut_shlU {n : Nat} (h : 2 ≤ n) (h2 : n ≤ 256) : Value.int .u64 (IntKind.u64.wrap (1 * 2 ^ min ((Nat.log2 (n - 1) : Int)).toNat IntKind.u64.bits)) = vU (cut n : Int) := by
  have h3 : Nat.log2 (n - 1) < 8 := (Nat.log2_lt (by omega)).2 (by omega)
  have h4 := (cut_lt h).2
  rw [Int.toNat_natCast, show IntKind.u64.bits = 64 from rfl, Nat.min_eq_left (by omega)]
  have h5 : (1 : Int) * 2 ^ Nat.log2 (n - 1) = (cut n : Int) := by unfold cut; simp
  rw [h5, wrapU (by omega) (by omega)]
/-- What stands beside a leaf's way, from the root down. -/
def pathF : Nat → Sums → Nat → Sums
  | 0, _, _ => []
  | f + 1, l, i => if l.length ≤ 1 then [] else if i < cut l.length then rootP (l.drop (cut l.length)) :: pathF f (l.take (cut l.length)) i else rootP (l.take (cut l.length)) :: pathF f (l.drop (cut l.length)) (i - cut l.length)
theorem pathF_more : ∀ (f g : Nat) (l : Sums) (i : Nat), l.length ≤ f → l.length ≤ g → pathF f l i = pathF g l i := by
  intro f
  induction f with
  | zero =>
    intro g l i h1 h2
    obtain rfl : l = [] := List.eq_nil_of_length_eq_zero (by omega)
    cases g <;> simp [pathF]
  | succ f ih =>
    intro g l i h1 h2
    cases g with
    | zero => obtain rfl : l = [] := List.eq_nil_of_length_eq_zero (by omega); simp [pathF]
    | succ g =>
      unfold pathF
      by_cases hl : l.length ≤ 1
      · rw [if_pos hl, if_pos hl]
      · have hc := cut_lt (n := l.length) (by omega)
        rw [if_neg hl, if_neg hl, ih g _ _ (by simp; omega) (by simp; omega), ih g _ _ (by simp; omega) (by simp; omega)]
def pathT (l : Sums) (i : Nat) : Sums := pathF l.length l i
theorem pathT_one {l : Sums} {i : Nat} (h : l.length ≤ 1) : pathT l i = [] := by
  unfold pathT
  cases hl : l.length with
  | zero => rfl
  | succ n => unfold pathF; rw [if_pos h]
theorem pathT_t {l : Sums} {n i : Nat} (hn : l.length = n) (h : 2 ≤ n) (hi : i < cut n) : pathT l i = rootP (l.drop (cut n)) :: pathT (l.take (cut n)) i := by
  subst hn
  have hc := cut_lt h
  unfold pathT
  obtain ⟨f, hf⟩ : ∃ f, l.length = f + 1 := ⟨l.length - 1, by omega⟩
  conv => lhs; rw [hf]; unfold pathF
  rw [if_neg (by omega), if_pos hi, pathF_more f _ (l.take (cut l.length)) _ (by simp; omega) (Nat.le_refl _)]
theorem pathT_d {l : Sums} {n i : Nat} (hn : l.length = n) (h : 2 ≤ n) (hi : cut n ≤ i) : pathT l i = rootP (l.take (cut n)) :: pathT (l.drop (cut n)) (i - cut n) := by
  subst hn
  have hc := cut_lt h
  unfold pathT
  obtain ⟨f, hf⟩ : ∃ f, l.length = f + 1 := ⟨l.length - 1, by omega⟩
  conv => lhs; rw [hf]; unfold pathF
  rw [if_neg (by omega), if_neg (by omega), pathF_more f _ (l.drop (cut l.length)) _ (by simp; omega) (Nat.le_refl _)]
theorem rootP_ok (ss : Sums) (a : Option Addr) (c n : Nat) (w : World) (hn : ss.length = n) (h1 : 1 ≤ n) (h32 : All32 ss) (hs : SlIs w [] (.slice a n c) 32 n (sumsC ss)) (h256 : n ≤ 256) :
    Calls Tryz.prog 96 [.slice a n c].toArray w (Ret w (.agg ((rootP ss).map v8).toArray)) := by
  rw [← rootE_pos (by omega)]; exact root_ok ss a c n w hn h32 hs h256
theorem cutp_ok (n : Nat) (w : World) (hn : 2 ≤ n) (hn256 : n ≤ 256) : Calls Tryz.prog 241 [vU (n : Int)].toArray w (Ret w (vU (cut n : Int))) := by
  have hm := Mem.init w
  refine calls_enter (n := 8) Tryz.func241 rfl rfl rfl ?_
  refine wp_sr (E := noPanic) noPanic_imp ?_
  refine rl_val rfl (v := (vU 0)) (val_assign (v := (vU 0)) rfl) ?_
  refine rl_nil ?_
  refine wp_sr (E := noPanic) noPanic_imp ?_
  refine rl_val rfl (v := (vU (n : Int))) (val_move (v := (vU (n : Int))) rfl) ?_
  refine rl_val rfl (v := (vU ((n - 1 : Nat) : Int))) (val_cast (val_subU (p := (n : Int)) (q := 1) rfl rfl (by omega)) (int_eq (by omega))) ?_
  refine rl_call rfl (ent_static (args := [(vU ((n - 1 : Nat) : Int))]) Tryz.func269 rfl rfl rfl rfl) (len64_ok (n - 1) (by omega) _) ?_
  rintro _ w1 ⟨rfl, h2⟩
  refine callQ_ret ?_
  replace hm : Mem w [] [] w1 := hm.call h2
  refine rl_val rfl (v := (vI (Nat.log2 (n - 1) : Int))) (val_cast (val_subI (p := (lenN (n - 1) : Int)) (q := 1) rfl rfl (by have := lenN_le (n - 1) (by omega); omega)) (by rw [lenN_pred (by omega)])) ?_
  refine rl_val rfl (v := (vU (cut n : Int))) (val_cast (val_shl (p := 1) (q := (Nat.log2 (n - 1) : Int)) rfl rfl (by omega)) (cut_shlU hn hn256)) ?_
  refine rl_val rfl (v := (vU (cut n : Int))) (val_assign (v := (vU (cut n : Int))) rfl) ?_
  refine rl_nil ?_
  exact WP.ret (post_rets rfl (vs := [vU (cut n : Int)]) ⟨rfl, trivial⟩ rfl ⟨rfl, hm⟩)
theorem cutl_ok (n : Nat) (w : World) (hn : 2 ≤ n) (hn256 : n ≤ 256) : Calls Tryz.prog 246 [vU (n : Int)].toArray w (Ret w (vU (cut n : Int))) := by
  have hm := Mem.init w
  refine calls_enter (n := 8) Tryz.func246 rfl rfl rfl ?_
  refine wp_sr (E := noPanic) noPanic_imp ?_
  refine rl_val rfl (v := (vU 0)) (val_assign (v := (vU 0)) rfl) ?_
  refine rl_nil ?_
  refine wp_sr (E := noPanic) noPanic_imp ?_
  refine rl_val rfl (v := (vU (n : Int))) (val_move (v := (vU (n : Int))) rfl) ?_
  refine rl_val rfl (v := (vU ((n - 1 : Nat) : Int))) (val_cast (val_subU (p := (n : Int)) (q := 1) rfl rfl (by omega)) (int_eq (by omega))) ?_
  refine rl_call rfl (ent_static (args := [(vU ((n - 1 : Nat) : Int))]) Tryz.func269 rfl rfl rfl rfl) (len64_ok (n - 1) (by omega) _) ?_
  rintro _ w1 ⟨rfl, h2⟩
  refine callQ_ret ?_
  replace hm : Mem w [] [] w1 := hm.call h2
  refine rl_val rfl (v := (vI (Nat.log2 (n - 1) : Int))) (val_cast (val_subI (p := (lenN (n - 1) : Int)) (q := 1) rfl rfl (by have := lenN_le (n - 1) (by omega); omega)) (by rw [lenN_pred (by omega)])) ?_
  refine rl_val rfl (v := (vU (cut n : Int))) (val_cast (val_shl (p := 1) (q := (Nat.log2 (n - 1) : Int)) rfl rfl (by omega)) (cut_shlU hn hn256)) ?_
  refine rl_val rfl (v := (vU (cut n : Int))) (val_assign (v := (vU (cut n : Int))) rfl) ?_
  refine rl_nil ?_
  exact WP.ret (post_rets rfl (vs := [vU (cut n : Int)]) ⟨rfl, trivial⟩ rfl ⟨rfl, hm⟩)
end Go.Al
namespace Go.Al
open Go Go.RowKit Go.Proofs
set_option linter.unusedVariables false
set_option linter.unusedSimpArgs false
/-- k from each end have changed places. -/
def revK (ss : Sums) (k : Nat) : Sums := (List.range ss.length).map fun m => if m < k ∨ ss.length - k ≤ m then ss.getD (ss.length - 1 - m) [] else ss.getD m []
@[simp] theorem revK_len (ss : Sums) (k : Nat) : (revK ss k).length = ss.length := by simp [revK]
theorem getD_lt {ss : Sums} {m : Nat} (h : m < ss.length) : ss.getD m [] = ss[m] := by rw [List.getD_eq_getElem?_getD, List.getElem?_eq_getElem h]; rfl
theorem revK_zero (ss : Sums) : revK ss 0 = ss := by
  apply List.ext_getElem?
  intro m
  by_cases h : m < ss.length
  · unfold revK
    rw [List.getElem?_map, List.getElem?_range h, Option.map_some, if_neg (by omega), getD_lt h, List.getElem?_eq_getElem h]
  · rw [List.getElem?_eq_none (by simp; omega), List.getElem?_eq_none (by omega)]
theorem revK_32 {ss : Sums} {k : Nat} (h : All32 ss) : All32 (revK ss k) := by
  intro x hx
  unfold revK at hx
  obtain ⟨m, hm, rfl⟩ := List.mem_map.1 hx
  have hm := List.mem_range.1 hm
  split
  · rw [getD_lt (by omega)]; exact h _ (List.getElem_mem _)
  · rw [getD_lt hm]; exact h _ (List.getElem_mem _)
theorem revK_mid {ss : Sums} {k m : Nat} (h1 : k ≤ m) (h2 : m < ss.length - k) : (revK ss k)[m]? = some (ss.getD m []) := by
  unfold revK
  rw [List.getElem?_map, List.getElem?_range (by omega), Option.map_some, if_neg (by omega)]
theorem revK_succ {ss : Sums} {k n : Nat} (hn : ss.length = n) (h : k + 1 + k < n) : revK ss (k + 1) = ((revK ss k).set k (ss.getD (n - 1 - k) [])).set (n - 1 - k) (ss.getD k []) := by
  subst hn
  apply List.ext_getElem?
  intro m
  by_cases hm : m < ss.length
  · rw [List.getElem?_set, List.getElem?_set]
    unfold revK
    simp only [List.length_set, List.length_map, List.length_range]
    rw [List.getElem?_map, List.getElem?_range hm, Option.map_some, List.getElem?_map, List.getElem?_range hm, Option.map_some]
    by_cases h1 : ss.length - 1 - k = m
    · rw [if_pos h1, if_pos (by omega), if_pos (by omega)]; congr 2; omega
    · rw [if_neg h1]
      by_cases h2 : k = m
      · rw [if_pos h2, if_pos (by omega), if_pos (by omega)]; congr 2; omega
      · rw [if_neg h2]
        by_cases h3 : m < k ∨ ss.length - k ≤ m
        · rw [if_pos h3, if_pos (by omega)]
        · rw [if_neg h3, if_neg (by omega)]
  · rw [List.getElem?_eq_none (by simp; omega), List.getElem?_eq_none (by simp; omega)]
theorem revK_done {ss : Sums} {k n : Nat} (hn : ss.length = n) (h : n ≤ k + 1 + k) : revK ss k = ss.reverse := by
  subst hn
  apply List.ext_getElem?
  intro m
  by_cases hm : m < ss.length
  · rw [List.getElem?_reverse hm]
    unfold revK
    rw [List.getElem?_map, List.getElem?_range hm, Option.map_some]
    by_cases h3 : m < k ∨ ss.length - k ≤ m
    · rw [if_pos h3, getD_lt (by omega), List.getElem?_eq_getElem]
    · rw [if_neg h3, getD_lt hm, List.getElem?_eq_getElem (by omega)]; congr 2; omega
  · rw [List.getElem?_eq_none (by simp; omega), List.getElem?_eq_none (by simp; omega)]
theorem all32_set {ss : Sums} {k : Nat} {x : List UInt8} (h : All32 ss) (hx : x.length = 32) : All32 (ss.set k x) := by
  intro y hy
  rcases List.mem_or_eq_of_mem_set hy with h1 | h1
  · exact h y h1
  · rw [h1]; exact hx
theorem sumsC_cons (x : List UInt8) (l : Sums) : sumsC (x :: l) = x.map v8 ++ sumsC l := by simp [sumsC]
theorem sums_put {ss : Sums} {x : List UInt8} {k : Nat} {rest : List Value} (h32 : All32 ss) (hk : k < ss.length) (hx : x.length = 32) : spl (sumsC ss ++ rest) (k * 32) (x.map v8) = sumsC (ss.set k x) ++ rest := by
  have h1 : ss = ss.take k ++ (ss[k] :: ss.drop (k + 1)) := by rw [← List.drop_eq_getElem_cons hk, List.take_append_drop]
  have h2 : (sumsC (ss.take k)).length = k * 32 := by rw [sumsC_len (fun y hy => h32 y (List.mem_of_mem_take hy))]; simp; omega
  have h3 : sumsC ss = sumsC (ss.take k) ++ (ss[k].map v8 ++ sumsC (ss.drop (k + 1))) := by
    have h := congrArg sumsC h1
    rw [sumsC_app, sumsC_cons] at h; exact h
  have h4 : ss.set k x = ss.take k ++ (x :: ss.drop (k + 1)) := by rw [List.set_eq_take_append_cons_drop, if_pos hk]
  have h5 : sumsC (ss.set k x) = sumsC (ss.take k) ++ (x.map v8 ++ sumsC (ss.drop (k + 1))) := by
    rw [h4, sumsC_app, sumsC_cons]
  have hk32 := h32 _ (List.getElem_mem hk)
  rw [h3, h5]
  unfold spl
  simp only [List.append_assoc]
  rw [← h2, List.take_left, ← List.drop_drop, List.drop_left, show (x.map v8).length = (ss[k].map v8).length from by simp [hx, hk32], List.drop_left]
theorem rev_ok (ss : Sums) (a : Option Addr) (c n : Nat) (r : List (Nat × Obj)) (w : World) (hn : ss.length = n) (h32 : All32 ss) (hv : VecIs (.slice a n c) n 32 50 (sumsC ss) r) (hr : ∀ p ∈ r, w.heap[p.1]? = some p.2) (hb : n ≤ 1000000) :
    Calls Tryz.prog 255 [.slice a n c].toArray w (fun e w' => e = .returned (.tuple #[]) ∧ ∃ r', VecIs (.slice a n c) n 32 50 (sumsC ss.reverse) r' ∧ Mem w (r.map (·.1)) r' w') := by
  have hm := (Mem.initVec hv hr)
  replace hm : Mem w (r.map (·.1)) ([] ++ (r ++ [])) w := by simpa using hm
  refine calls_enter (n := 28) Tryz.func255 rfl rfl rfl ?_
  refine wp_sr (E := noPanic) noPanic_imp ?_
  refine rl_val rfl (v := (.slice a n c)) (val_move (v := (.slice a n c)) rfl) ?_
  refine rl_val rfl (v := (vI (n : Nat))) (val_lenSl (t := 53) rfl us_53 rfl) ?_
  refine rl_val rfl (v := (vI ((n : Nat) - 1))) (val_subI (p := (n : Nat)) (q := 1) rfl rfl (by omega)) ?_
  refine rl_val rfl (v := (vI 0)) (val_assign (v := (vI 0)) rfl) ?_
  refine rl_val rfl (v := (vI ((n : Nat) - 1))) (val_assign (v := (vI ((n : Nat) - 1))) rfl) ?_
  refine rl_nil ?_
  refine WP.block ?_
  refine WP.loop (fun mz τ w' => ∃ (k : Nat) (rk : List (Nat × Obj)), n - k = mz ∧ k ≤ n ∧ VecIs (.slice a n c) n 32 50 (sumsC (revK ss k)) rk ∧ Mem w (r.map (·.1)) ([] ++ (rk ++ [])) w' ∧ τ 0 = (.slice a n c) ∧ τ 2 = (vI (k : Int)) ∧ τ 3 = (vI ((n : Int) - 1 - (k : Int)))) (n) ?_ ?_
  · exact ⟨0, r, rfl, by omega, by rw [revK_zero]; exact hv, hm, rfl, (by first | rfl | (refine int_eq ?_; simp; try omega) | (refine int_eq ?_; omega)), (by first | rfl | (refine int_eq ?_; simp; try omega) | (refine int_eq ?_; omega))⟩
  · rintro kk2 τ wl1 ⟨k, rk, hk3, hk2, hvk, hm, hs4, hs5, hs6⟩
    refine WP.seq ?_
    refine wp_sr (E := noPanic) noPanic_imp ?_
    refine rl_val rfl (v := (vI (k : Int))) (val_move (v := (vI (k : Int))) hs5) ?_
    refine rl_val rfl (v := (vI ((n : Int) - 1 - (k : Int)))) (val_move (v := (vI ((n : Int) - 1 - (k : Int)))) hs6) ?_
    refine rl_val rfl (v := (.bool (decide (((k : Int) : Int) < (n : Int) - 1 - (k : Int))))) (val_lt (p := (k : Int)) (q := (n : Int) - 1 - (k : Int)) rfl rfl) ?_
    refine rl_nil ?_
    refine WP.cond (b := decide (((k : Int) : Int) < (n : Int) - 1 - (k : Int))) rfl (fun hb => ?_) (fun hb => ?_)
    ·
      have hq7 := of_decide_eq_true hb
      have hkn : k + 1 + k < n := by omega
      obtain ⟨g, cap, rest, hge, hc1, hc2, hxl, hrl, rfl⟩ := hvk.pos (by omega)
      cases hge
      have h32k : All32 (revK ss k) := revK_32 h32
      have hx : (revK ss k)[k]? = some (ss.getD k []) := revK_mid (by omega) (by omega)
      have hy : (revK ss k)[n - 1 - k]? = some (ss.getD (n - 1 - k) []) := revK_mid (by omega) (by omega)
      have hx32 : (ss.getD k []).length = 32 := h32k _ (List.mem_of_getElem? hx)
      have hy32 : (ss.getD (n - 1 - k) []).length = 32 := h32k _ (List.mem_of_getElem? hy)
      have hkl : (revK ss k).length = n := by rw [revK_len, hn]
      replace hm : Mem w (r.map (·.1)) [(g, row (sumsC (revK ss k) ++ rest) 50)] wl1 := by simpa only [List.append_assoc, List.nil_append, List.append_nil, List.cons_append] using hm
      refine WP.skip ?_
      refine WP.seq (WP.block ?_)
      refine wp_df (E := noPanic) [(0, true), (1, true), (2, true), (3, true), (4, true), (5, true), (6, true), (7, true), (8, true), (9, true), (10, true), (11, true), (12, true), (13, false), (14, false), (15, false)] [7, 11] mixed (by kernel_rfl) (by kernel_rfl) rfl (fun w' => Mem w (r.map (·.1)) [(g, row (sumsC (revK ss k) ++ rest) 50)] w') noPanic_imp hm.drew ?_
      have hm := hm.drew
      refine rp_valp rfl rfl (v := (.slice (some ⟨g, 0, none⟩) n c)) (fun w' => val_move (v := (.slice (some ⟨g, 0, none⟩) n c)) hs4) ?_
      refine rp_valp rfl rfl (v := (vI (k : Int))) (fun w' => val_move (v := (vI (k : Int))) hs5) ?_
      refine rp_valp rfl rfl (v := (.slice (some ⟨g, 0, none⟩) n c)) (fun w' => val_move (v := (.slice (some ⟨g, 0, none⟩) n c)) hs4) ?_
      refine rp_valp rfl rfl (v := (vI ((n : Int) - 1 - (k : Int)))) (fun w' => val_move (v := (vI ((n : Int) - 1 - (k : Int)))) hs6) ?_
      refine rp_valp rfl rfl (v := (.slice (some ⟨g, 0, none⟩) n c)) (fun w' => val_move (v := (.slice (some ⟨g, 0, none⟩) n c)) hs4) ?_
      refine rp_valp rfl rfl (v := (vI ((n : Int) - 1 - (k : Int)))) (fun w' => val_move (v := (vI ((n : Int) - 1 - (k : Int)))) hs6) ?_
      refine rp_valp rfl rfl (v := (.pointer (some ⟨g, (n - 1 - k) * 32, none⟩))) (fun w' => val_cast (val_indexSl (i := (n : Int) - 1 - (k : Int)) (sz := 32) rfl rfl es_53 (by omega)) (ptr_eq (by rw [show ((n : Int) - 1 - (k : Int)).toNat = (n - 1 - k) from by omega]; omega))) ?_
      refine rp_val rfl rfl (v := (.agg ((ss.getD (n - 1 - k) []).map v8).toArray)) (fun w' hs => val_loadA (m := (ss.getD (n - 1 - k) []).map v8) (off := (n - 1 - k) * 32) rfl ag_50 (hs.row (i := 0) rfl).l (sums_at h32k hy) (by simp only [List.length_append, hxl]; omega) (by decide)) ?_
      refine rp_valp rfl rfl (v := (.slice (some ⟨g, 0, none⟩) n c)) (fun w' => val_move (v := (.slice (some ⟨g, 0, none⟩) n c)) hs4) ?_
      refine rp_valp rfl rfl (v := (vI (k : Int))) (fun w' => val_move (v := (vI (k : Int))) hs5) ?_
      refine rp_valp rfl rfl (v := (.pointer (some ⟨g, k * 32, none⟩))) (fun w' => val_cast (val_indexSl (i := (k : Int)) (sz := 32) rfl rfl es_53 (by omega)) (ptr_eq (by rw [show ((k : Int)).toNat = k from by omega]; omega))) ?_
      refine rp_val rfl rfl (v := (.agg ((ss.getD k []).map v8).toArray)) (fun w' hs => val_loadA (m := (ss.getD k []).map v8) (off := k * 32) rfl ag_50 (hs.row (i := 0) rfl).l (sums_at h32k hx) (by simp only [List.length_append, hxl]; omega) (by decide)) ?_
      refine rp_valp rfl rfl (v := (.pointer (some ⟨g, k * 32, none⟩))) (fun w' => val_cast (val_indexSl (i := (k : Int)) (sz := 32) rfl rfl es_53 (by omega)) (ptr_eq (by rw [show ((k : Int)).toNat = k from by omega]; omega))) ?_
      refine rp_store (i := 0) (off := k * 32) (xs := (sumsC (revK ss k) ++ rest)) (vs := (ss.getD (n - 1 - k) []).map v8) rfl rfl rfl rfl ag_50 hm rfl rfl (by rw [List.length_map]; exact hy32) (by simp only [List.length_append, sumsC_len h32k, sumsC_len (all32_set h32k hy32), List.length_set]; omega) (one_map8 _) (by kernel_rfl) ?_
      intro w8 hm
      rw [sums_put (k := k) h32k (by omega) hy32] at hm
      replace hm : Mem w (r.map (·.1)) [(g, row (sumsC ((revK ss k).set k (ss.getD (n - 1 - k) [])) ++ rest) 50)] w8 := hm
      refine rp_vale rfl rfl (v := (.pointer (some ⟨g, (n - 1 - k) * 32, none⟩))) (val_cast (val_indexSl (i := (n : Int) - 1 - (k : Int)) (sz := 32) rfl rfl es_53 (by omega)) (ptr_eq (by rw [show ((n : Int) - 1 - (k : Int)).toNat = (n - 1 - k) from by omega]; omega))) (.inl (by kernel_rfl)) ?_
      refine rp_store (i := 0) (off := (n - 1 - k) * 32) (xs := (sumsC ((revK ss k).set k (ss.getD (n - 1 - k) [])) ++ rest)) (vs := (ss.getD k []).map v8) rfl rfl rfl rfl ag_50 hm rfl rfl (by rw [List.length_map]; exact hx32) (by simp only [List.length_append, sumsC_len h32k, sumsC_len (all32_set h32k hy32), List.length_set]; omega) (one_map8 _) (by kernel_rfl) ?_
      intro w9 hm
      rw [sums_put (k := n - 1 - k) (all32_set h32k hy32) (by simp; omega) hx32] at hm
      replace hm : Mem w (r.map (·.1)) [(g, row (sumsC (((revK ss k).set k (ss.getD (n - 1 - k) [])).set (n - 1 - k) (ss.getD k [])) ++ rest) 50)] w9 := hm
      refine rp_nil ?_
      rw [← revK_succ hn hkn] at hm
      have hvk2 : VecIs (.slice (some ⟨g, 0, none⟩) n c) n 32 50 (sumsC (revK ss (k + 1))) [(g, row (sumsC (revK ss (k + 1)) ++ rest) 50)] := VecIs.mk hc1 hc2 (by rw [sumsC_len (revK_32 h32), revK_len, hn]) (by rw [List.length_append, sumsC_len (revK_32 h32), revK_len, hn]; rw [List.length_append, sumsC_len h32k, hkl] at hrl; exact hrl)
      replace hm := hm.cast (l2 := ([] ++ ([(g, row (sumsC (revK ss (k + 1)) ++ rest) 50)] ++ []))) (by simp only [List.append_assoc, List.nil_append, List.append_nil, List.cons_append])
      refine wp_r (E := noPanic) noPanic_imp ?_
      refine rl_val rfl (v := (vI (k : Int))) (val_move (v := (vI (k : Int))) hs5) ?_
      refine rl_val rfl (v := (vI ((k : Int) + 1))) (val_addI (p := (k : Int)) (q := 1) rfl rfl (by omega)) ?_
      refine rl_val rfl (v := (vI ((n : Int) - 1 - (k : Int)))) (val_move (v := (vI ((n : Int) - 1 - (k : Int)))) hs6) ?_
      refine rl_val rfl (v := (vI (((n : Int) - 1 - (k : Int)) - 1))) (val_subI (p := (n : Int) - 1 - (k : Int)) (q := 1) rfl rfl (by omega)) ?_
      refine rl_val rfl (v := (vI ((k : Int) + 1))) (val_assign (v := (vI ((k : Int) + 1))) rfl) ?_
      refine rl_val rfl (v := (vI (((n : Int) - 1 - (k : Int)) - 1))) (val_assign (v := (vI (((n : Int) - 1 - (k : Int)) - 1))) rfl) ?_
      refine rl_nil ?_
      exact ⟨n - (k + 1), by omega, ⟨k + 1, _, rfl, by omega, hvk2, hm, hs4, (by first | rfl | (refine int_eq ?_; simp; try omega) | (refine int_eq ?_; omega)), (by first | rfl | (refine int_eq ?_; simp; try omega) | (refine int_eq ?_; omega))⟩⟩
    ·
      have hq10 := of_decide_eq_false hb
      refine WP.exit ?_
      repeat (first | with_reducible refine exit_pass ?_ | with_reducible refine exit_other rfl ?_)
      refine blk_here ?_
      exact ret_nil_post rfl ⟨rfl, _, by rw [revK_done hn (by omega)] at hvk; exact hvk, by simpa using hm⟩
end Go.Al
namespace Go.Al
open Go Go.RowKit Go.Proofs
set_option linter.unusedVariables false
set_option linter.unusedSimpArgs false
theorem pathof_ok (ss0 : Sums) (a0 : Option Addr) (c0 n0 at0 : Nat) (w : World) (hn0 : ss0.length = n0) (h320 : All32 ss0) (hs : SlIs w [] (.slice a0 n0 c0) 32 n0 (sumsC ss0)) (hb256 : n0 ≤ 256) (hatb : at0 ≤ 1000000) :
    Calls Tryz.prog 208 [.slice a0 n0 c0, vI (at0 : Int)].toArray w (fun e w' => (at0 < n0 → ∃ v r, e = .returned (.tuple #[v, vI 0]) ∧ VecIs v (pathT ss0 at0).length 32 50 (sumsC (pathT ss0 at0).reverse) r ∧ Mem w [] r w') ∧ (n0 ≤ at0 → e = .returned (.tuple #[.slice none 0 0, vI 1]) ∧ Mem w [] [] w')) := by
  have hm := Mem.init w
  refine calls_enter (n := 53) Tryz.func208 rfl rfl rfl ?_
  refine wp_sr (E := noPanic) noPanic_imp ?_
  refine rl_val rfl (v := (.slice none 0 0)) (val_assign (v := (.slice none 0 0)) rfl) ?_
  refine rl_val rfl (v := (vI 0)) (val_assign (v := (vI 0)) rfl) ?_
  refine rl_nil ?_
  refine WP.seq ?_
  refine wp_sr (E := noPanic) noPanic_imp ?_
  refine rl_val rfl (v := (vI (at0 : Int))) (val_move (v := (vI (at0 : Int))) rfl) ?_
  refine rl_val rfl (v := (.bool false)) (val_cast (val_lt (p := (at0 : Int)) (q := 0) rfl rfl) (by rw [decide_eq_false (by omega)])) ?_
  refine rl_val rfl (v := (.bool false)) (val_move (v := (.bool false)) rfl) ?_
  refine rl_valg ⟨9, false, rfl, .inl ⟨rfl, rfl⟩⟩ rfl (v := (vI (at0 : Int))) (val_move (v := (vI (at0 : Int))) rfl) ?_
  refine rl_valg ⟨9, false, rfl, .inl ⟨rfl, rfl⟩⟩ rfl (v := (.slice a0 n0 c0)) (val_move (v := (.slice a0 n0 c0)) rfl) ?_
  refine rl_valg ⟨9, false, rfl, .inl ⟨rfl, rfl⟩⟩ rfl (v := (vI (n0 : Nat))) (val_lenSl (t := 53) rfl us_53 rfl) ?_
  refine rl_valg ⟨9, false, rfl, .inl ⟨rfl, rfl⟩⟩ rfl (v := (.bool (decide (((n0 : Nat) : Int) ≤ (at0 : Int))))) (val_ge (p := (at0 : Int)) (q := (n0 : Nat)) rfl rfl) ?_
  refine rl_val rfl (v := (.bool (decide ((n0 : Int) ≤ (at0 : Int))))) (val_pick_f rfl rfl) ?_
  refine rl_nil ?_
  refine WP.cond (b := decide ((n0 : Int) ≤ (at0 : Int))) rfl (fun hb => ?_) (fun hb => ?_)
  ·
    have hq1 := of_decide_eq_true hb
    have hat : n0 ≤ at0 := by omega
    refine wp_sr (E := noPanic) noPanic_imp ?_
    refine rl_val rfl (v := (.slice none 0 0)) (val_assign (v := (.slice none 0 0)) rfl) ?_
    refine rl_val rfl (v := (vI 1)) (val_assign (v := (vI 1)) rfl) ?_
    refine rl_nil ?_
    refine WP.ret ?_
    repeat (first | with_reducible refine ret_pass ?_ | with_reducible refine ret_blk ?_ | with_reducible refine scope_ret ?_)
    exact post_rets rfl (vs := [.slice none 0 0, vI 1]) ⟨rfl, rfl, trivial⟩ rfl ⟨fun h => by omega, fun _ => ⟨rfl, hm⟩⟩
  ·
    have hq2 := of_decide_eq_false hb
    have hat : at0 < n0 := by omega
    refine WP.skip ?_
    refine WP.seq (WP.block ?_)
    refine WP.loop (fun mz τ w' => ∃ (ss : Sums) (a : Option Addr) (n : Nat) (c : Nat) (at1 : Nat) (ac : Sums) (vp : Value) (rp : List (Nat × Obj)), n = mz ∧ ac ++ pathT ss at1 = pathT ss0 at0 ∧ ss.length = n ∧ at1 < n ∧ n ≤ 256 ∧ All32 ss ∧ SlIs w [] (.slice a n c) 32 n (sumsC ss) ∧ All32 ac ∧ ac.length + n ≤ 256 ∧ VecIs vp ac.length 32 50 (sumsC ac) rp ∧ Mem w [] ([] ++ (rp ++ [])) w' ∧ τ 0 = (.slice a n c) ∧ τ 1 = (vI (at1 : Int)) ∧ τ 4 = vp ∧ τ 5 = (vI 0)) (n0) ?_ ?_
    · exact ⟨ss0, a0, n0, c0, at0, [], (.slice none 0 0), [], rfl, rfl, hn0, hat, hb256, h320, hs, by intro x hx; simp at hx, by simpa using hb256, VecIs.nil, (by simpa using hm), rfl, (by first | rfl | (refine int_eq ?_; simp; try omega) | (refine int_eq ?_; omega)), rfl, rfl⟩
    · rintro kk4 τ wl3 ⟨ss, a, n, c, at1, ac, vp, rp, hk5, hpath, hss, han, hn256, h32, hsl, hac, hacn, hvp, hm, hs6, hs7, hs8, hs9⟩
      refine WP.seq ?_
      refine wp_sr (E := noPanic) noPanic_imp ?_
      refine rl_val rfl (v := (.slice a n c)) (val_move (v := (.slice a n c)) hs6) ?_
      refine rl_val rfl (v := (vI (n : Nat))) (val_lenSl (t := 53) rfl us_53 rfl) ?_
      refine rl_val rfl (v := (.bool (decide ((1 : Int) < (n : Nat))))) (val_gt (p := (n : Nat)) (q := 1) rfl rfl) ?_
      refine rl_nil ?_
      refine WP.cond (b := decide ((1 : Int) < (n : Nat))) rfl (fun hb => ?_) (fun hb => ?_)
      ·
        have hq10 := of_decide_eq_true hb
        have hn2 : 2 ≤ n := by omega
        have hcut := cut_lt hn2
        obtain ⟨b, off, xs, rfl, hbn, hr, hcs, hle, hnc⟩ := hsl.pos (by omega)
        refine WP.skip ?_
        refine WP.block ?_
        refine wp_sr (E := noPanic) noPanic_imp ?_
        refine rl_val rfl (v := (.slice (some ⟨b, off, none⟩) n c)) (val_move (v := (.slice (some ⟨b, off, none⟩) n c)) hs6) ?_
        refine rl_val rfl (v := (vI (n : Nat))) (val_lenSl (t := 53) rfl us_53 rfl) ?_
        refine rl_val rfl (v := (vU (n : Nat))) (val_cast (val_conv ut_3 ui_44 rfl) (by rw [wrapU (by omega) (by omega)])) ?_
        refine rl_call rfl (ent_static (args := [(vU (n : Nat))]) Tryz.func241 rfl rfl rfl rfl) (cutp_ok n _ hn2 hn256) ?_
        rintro _ w11 ⟨rfl, h12⟩
        refine callQ_ret ?_
        replace hm : Mem w [] ([] ++ (rp ++ [])) w11 := hm.call h12
        refine rl_val rfl (v := (vI (cut n : Int))) (val_cast (val_conv ut_44 ui_3 rfl) (by rw [wrapI (by omega) (by omega)])) ?_
        refine rl_val rfl (v := (vI (cut n : Int))) (val_assign (v := (vI (cut n : Int))) rfl) ?_
        refine rl_nil ?_
        refine WP.seq ?_
        refine wp_sr (E := noPanic) noPanic_imp ?_
        refine rl_val rfl (v := (vI (at1 : Int))) (val_move (v := (vI (at1 : Int))) hs7) ?_
        refine rl_val rfl (v := (vI (cut n : Int))) (val_move (v := (vI (cut n : Int))) rfl) ?_
        refine rl_val rfl (v := (.bool (decide (((at1 : Int) : Int) < (cut n : Int))))) (val_lt (p := (at1 : Int)) (q := (cut n : Int)) rfl rfl) ?_
        refine rl_nil ?_
        refine WP.cond (b := decide (((at1 : Int) : Int) < (cut n : Int))) rfl (fun hb => ?_) (fun hb => ?_)
        ·
          have hq13 := of_decide_eq_true hb
          have hside : at1 < cut n := by omega
          have hr32 : (rootP (ss.drop (cut n))).length = 32 := rootP_len _ (by simp; omega) (fun x hx => h32 x (List.mem_of_mem_drop hx))
          refine wp_sdf (E := noPanic) [(0, true), (1, true), (2, true), (3, true), (7, true), (8, true), (9, true), (4, false), (5, false), (6, false), (10, false), (11, false)] [] mixed (by kernel_rfl) (by kernel_rfl) rfl (fun w' => Mem w [] [] w') noPanic_imp (hm.sub (by ((try (simp only [List.append_assoc, List.nil_append, List.append_nil, List.cons_append])); repeat (first | exact List.nil_sublist _ | exact List.Sublist.refl _ | with_reducible refine List.Sublist.cons_cons _ ?_ | with_reducible refine List.Sublist.append (List.Sublist.refl _) ?_ | with_reducible exact List.sublist_append_left _ _ | refine List.Sublist.cons _ ?_ | refine List.Sublist.trans ?_ (List.sublist_append_right _ _))))).drew ?_
          have hm := hm.drew
          refine rp_valp rfl rfl (v := vp) (fun w' => val_move (v := vp) hs8) ?_
          refine rp_valp rfl rfl (v := (.slice (some ⟨b, off, none⟩) n c)) (fun w' => val_move (v := (.slice (some ⟨b, off, none⟩) n c)) hs6) ?_
          refine rp_valp rfl rfl (v := (vI (cut n : Int))) (fun w' => val_move (v := (vI (cut n : Int))) rfl) ?_
          refine rp_valp rfl rfl (v := (.slice (some ⟨b, (slo off (cut n) c 32), none⟩) (n - cut n) (c - cut n))) (fun w' => val_slice (b := b) (off := off) (n := n) (cap := c) (l := cut n) (h := n) (m := c) rfl us_53 es_53 ⟨_, _, rfl, by omega, by omega⟩ ⟨rfl, rfl⟩ rfl (by omega) (by omega) (by omega)) ?_
          refine rp_valp rfl rfl (v := (.slice (some ⟨b, off, none⟩) n c)) (fun w' => val_move (v := (.slice (some ⟨b, off, none⟩) n c)) hs6) ?_
          refine rp_valp rfl rfl (v := (vI (cut n : Int))) (fun w' => val_move (v := (vI (cut n : Int))) rfl) ?_
          refine rp_valp rfl rfl (v := (.slice (some ⟨b, off, none⟩) (cut n) c)) (fun w' => val_cast (val_slice (b := b) (off := off) (n := n) (cap := c) (l := 0) (h := cut n) (m := c) rfl us_53 es_53 rfl ⟨_, _, rfl, by omega, by omega⟩ rfl (by omega) (by omega) (by omega)) (by simp [slo])) ?_
          refine rp_call rfl rfl (ent_static (args := [(.slice (some ⟨b, (slo off (cut n) c 32), none⟩) (n - cut n) (c - cut n))]) Tryz.func96 rfl rfl rfl rfl) (rootP_ok (ss.drop (cut n)) _ _ (n - cut n) _ (by simp; try omega) (by omega) (fun x hx => h32 x (List.mem_of_mem_drop hx)) (by rw [sumsC_drop h32]; exact (hsl.drop (k := cut n) (by omega)).mem (own2 := []) hm (by simp)) (by omega)) ?_
          rintro _ w14 ⟨rfl, h15⟩
          refine callQ_ret ?_
          refine ⟨.inl (by kernel_rfl), ?_⟩
          replace hm : Mem w [] ([] ++ (rp ++ [])) w14 := hm.call h15
          refine rp_buildSlice (vs := [(.agg ((rootP (ss.drop (cut n))).map v8).toArray)]) (cs := ((rootP (ss.drop (cut n))).map v8)) rfl rfl ez_53 rfl (parts_cons rfl (parts_nil)) rfl (by decide) (by intro v hv; simp only [List.mem_singleton] at hv; subst hv; simp [Value.cells, hr32]) (by simp [Value.cells]) hm (fun b w' h => .inl (by kernel_rfl)) ?_
          intro b16 w17 hm
          refine rp_appendS (l1 := ([(b16, row ((rootP (ss.drop (cut n))).map v8) 50)] ++ [])) (l2 := []) (r := rp) (v := vp) (xs := (sumsC ac)) (news := ((rootP (ss.drop (cut n))).map v8)) rfl rfl ez_53 rfl (by decide) (by decide) rfl rfl hvp (by simpa only [List.append_assoc, List.nil_append, List.append_nil, List.cons_append] using hm) (SlIs.of (own := []) (by simp) (hm.row (i := 0) rfl).l (by simp [List.take_of_length_le, hr32]) (by simp [hr32]) (by omega)) (one_map8 _) (by omega) ?_
          intro v18 r19 w21 hv20 hm
          refine ⟨.inl (by kernel_rfl), ?_⟩
          replace hm : Mem w [] ([(b16, row ((rootP (ss.drop (cut n))).map v8) 50)] ++ (r19 ++ [])) w21 := by simpa only [List.append_assoc, List.nil_append, List.append_nil, List.cons_append] using hm
          refine rp_vale rfl rfl (v := v18) (val_assign (v := v18) rfl) (.inl (by kernel_rfl)) ?_
          refine rp_vale rfl rfl (v := (.slice (some ⟨b, off, none⟩) (cut n) c)) (val_assign (v := (.slice (some ⟨b, off, none⟩) (cut n) c)) rfl) (.inl (by kernel_rfl)) ?_
          refine rp_nil ?_
          replace hm := hm.sub (l2 := ([] ++ (r19 ++ []))) (by ((try (simp only [List.append_assoc, List.nil_append, List.append_nil, List.cons_append])); repeat (first | exact List.nil_sublist _ | exact List.Sublist.refl _ | with_reducible refine List.Sublist.cons_cons _ ?_ | with_reducible refine List.Sublist.append (List.Sublist.refl _) ?_ | with_reducible exact List.sublist_append_left _ _ | refine List.Sublist.cons _ ?_ | refine List.Sublist.trans ?_ (List.sublist_append_right _ _))))
          refine WP.exit ?_
          repeat (first | with_reducible refine exit_pass ?_ | with_reducible refine exit_other rfl ?_)
          refine blk_here ?_
          exact ⟨(cut n), by omega, ⟨(ss.take (cut n)), (some ⟨b, off, none⟩), (cut n), c, at1, (ac ++ [rootP (ss.drop (cut n))]), v18, r19, rfl, by rw [List.append_assoc, ← hpath, pathT_t hss hn2 hside]; rfl, by simp; omega, by omega, by omega, fun x hx => h32 x (List.mem_of_mem_take hx), by rw [sumsC_take h32]; exact hsl.takeHi (by omega), by intro x hx; rcases List.mem_append.1 hx with hx | hx; exact hac x hx; rw [List.mem_singleton.1 hx]; exact rootP_len _ (by simp; omega) (fun x hx => h32 x (List.mem_of_mem_drop hx)), by simp; omega, by rw [sumsC_app, List.length_append]; simpa [sumsC] using hv20, hm, rfl, hs7, rfl, hs9⟩⟩
        ·
          have hq22 := of_decide_eq_false hb
          have hside : cut n ≤ at1 := by omega
          refine WP.skip ?_
          have hr32 : (rootP (ss.take (cut n))).length = 32 := rootP_len _ (by simp; omega) (fun x hx => h32 x (List.mem_of_mem_take hx))
          refine wp_df (E := noPanic) [(0, true), (1, true), (2, true), (3, true), (7, true), (8, true), (9, true), (10, true), (11, true), (12, true), (4, false), (5, false), (6, false), (13, false), (14, false), (15, false)] [] mixed (by kernel_rfl) (by kernel_rfl) rfl (fun w' => Mem w [] [] w') noPanic_imp (hm.sub (by ((try (simp only [List.append_assoc, List.nil_append, List.append_nil, List.cons_append])); repeat (first | exact List.nil_sublist _ | exact List.Sublist.refl _ | with_reducible refine List.Sublist.cons_cons _ ?_ | with_reducible refine List.Sublist.append (List.Sublist.refl _) ?_ | with_reducible exact List.sublist_append_left _ _ | refine List.Sublist.cons _ ?_ | refine List.Sublist.trans ?_ (List.sublist_append_right _ _))))).drew ?_
          have hm := hm.drew
          refine rp_valp rfl rfl (v := vp) (fun w' => val_move (v := vp) hs8) ?_
          refine rp_valp rfl rfl (v := (.slice (some ⟨b, off, none⟩) n c)) (fun w' => val_move (v := (.slice (some ⟨b, off, none⟩) n c)) hs6) ?_
          refine rp_valp rfl rfl (v := (vI (cut n : Int))) (fun w' => val_move (v := (vI (cut n : Int))) rfl) ?_
          refine rp_valp rfl rfl (v := (.slice (some ⟨b, off, none⟩) (cut n) c)) (fun w' => val_cast (val_slice (b := b) (off := off) (n := n) (cap := c) (l := 0) (h := cut n) (m := c) rfl us_53 es_53 rfl ⟨_, _, rfl, by omega, by omega⟩ rfl (by omega) (by omega) (by omega)) (by simp [slo])) ?_
          refine rp_valp rfl rfl (v := (.slice (some ⟨b, off, none⟩) n c)) (fun w' => val_move (v := (.slice (some ⟨b, off, none⟩) n c)) hs6) ?_
          refine rp_valp rfl rfl (v := (vI (cut n : Int))) (fun w' => val_move (v := (vI (cut n : Int))) rfl) ?_
          refine rp_valp rfl rfl (v := (.slice (some ⟨b, (slo off (cut n) c 32), none⟩) (n - cut n) (c - cut n))) (fun w' => val_slice (b := b) (off := off) (n := n) (cap := c) (l := cut n) (h := n) (m := c) rfl us_53 es_53 ⟨_, _, rfl, by omega, by omega⟩ ⟨rfl, rfl⟩ rfl (by omega) (by omega) (by omega)) ?_
          refine rp_valp rfl rfl (v := (vI (at1 : Int))) (fun w' => val_move (v := (vI (at1 : Int))) hs7) ?_
          refine rp_valp rfl rfl (v := (vI (cut n : Int))) (fun w' => val_move (v := (vI (cut n : Int))) rfl) ?_
          refine rp_valp rfl rfl (v := (vI ((at1 - cut n : Nat) : Int))) (fun w' => val_cast (val_subI (p := (at1 : Int)) (q := (cut n : Int)) rfl rfl (by omega)) (int_eq (by omega))) ?_
          refine rp_call rfl rfl (ent_static (args := [(.slice (some ⟨b, off, none⟩) (cut n) c)]) Tryz.func96 rfl rfl rfl rfl) (rootP_ok (ss.take (cut n)) _ _ (cut n) _ (by simp; try omega) (by omega) (fun x hx => h32 x (List.mem_of_mem_take hx)) (by rw [sumsC_take h32]; exact (hsl.takeHi (k := cut n) (by omega)).mem (own2 := []) hm (by simp)) (by omega)) ?_
          rintro _ w23 ⟨rfl, h24⟩
          refine callQ_ret ?_
          refine ⟨.inl (by kernel_rfl), ?_⟩
          replace hm : Mem w [] ([] ++ (rp ++ [])) w23 := hm.call h24
          refine rp_buildSlice (vs := [(.agg ((rootP (ss.take (cut n))).map v8).toArray)]) (cs := ((rootP (ss.take (cut n))).map v8)) rfl rfl ez_53 rfl (parts_cons rfl (parts_nil)) rfl (by decide) (by intro v hv; simp only [List.mem_singleton] at hv; subst hv; simp [Value.cells, hr32]) (by simp [Value.cells]) hm (fun b w' h => .inl (by kernel_rfl)) ?_
          intro b25 w26 hm
          refine rp_appendS (l1 := ([(b25, row ((rootP (ss.take (cut n))).map v8) 50)] ++ [])) (l2 := []) (r := rp) (v := vp) (xs := (sumsC ac)) (news := ((rootP (ss.take (cut n))).map v8)) rfl rfl ez_53 rfl (by decide) (by decide) rfl rfl hvp (by simpa only [List.append_assoc, List.nil_append, List.append_nil, List.cons_append] using hm) (SlIs.of (own := []) (by simp) (hm.row (i := 0) rfl).l (by simp [List.take_of_length_le, hr32]) (by simp [hr32]) (by omega)) (one_map8 _) (by omega) ?_
          intro v27 r28 w30 hv29 hm
          refine ⟨.inl (by kernel_rfl), ?_⟩
          replace hm : Mem w [] ([(b25, row ((rootP (ss.take (cut n))).map v8) 50)] ++ (r28 ++ [])) w30 := by simpa only [List.append_assoc, List.nil_append, List.append_nil, List.cons_append] using hm
          refine rp_vale rfl rfl (v := v27) (val_assign (v := v27) rfl) (.inl (by kernel_rfl)) ?_
          refine rp_vale rfl rfl (v := (.slice (some ⟨b, (slo off (cut n) c 32), none⟩) (n - cut n) (c - cut n))) (val_assign (v := (.slice (some ⟨b, (slo off (cut n) c 32), none⟩) (n - cut n) (c - cut n))) rfl) (.inl (by kernel_rfl)) ?_
          refine rp_vale rfl rfl (v := (vI ((at1 - cut n : Nat) : Int))) (val_assign (v := (vI ((at1 - cut n : Nat) : Int))) rfl) (.inl (by kernel_rfl)) ?_
          refine rp_nil ?_
          replace hm := hm.sub (l2 := ([] ++ (r28 ++ []))) (by ((try (simp only [List.append_assoc, List.nil_append, List.append_nil, List.cons_append])); repeat (first | exact List.nil_sublist _ | exact List.Sublist.refl _ | with_reducible refine List.Sublist.cons_cons _ ?_ | with_reducible refine List.Sublist.append (List.Sublist.refl _) ?_ | with_reducible exact List.sublist_append_left _ _ | refine List.Sublist.cons _ ?_ | refine List.Sublist.trans ?_ (List.sublist_append_right _ _))))
          exact ⟨(n - cut n), by omega, ⟨(ss.drop (cut n)), (some ⟨b, (slo off (cut n) c 32), none⟩), (n - cut n), (c - cut n), (at1 - cut n), (ac ++ [rootP (ss.take (cut n))]), v27, r28, rfl, by rw [List.append_assoc, ← hpath, pathT_d hss hn2 hside]; rfl, by simp; omega, by omega, by omega, fun x hx => h32 x (List.mem_of_mem_drop hx), by rw [sumsC_drop h32]; exact hsl.drop (by omega), by intro x hx; rcases List.mem_append.1 hx with hx | hx; exact hac x hx; rw [List.mem_singleton.1 hx]; exact rootP_len _ (by simp; omega) (fun x hx => h32 x (List.mem_of_mem_take hx)), by simp; omega, by rw [sumsC_app, List.length_append]; simpa [sumsC] using hv29, hm, rfl, rfl, rfl, hs9⟩⟩
      ·
        have hq31 := of_decide_eq_false hb
        obtain rfl : n = 1 := by omega
        have hdone : pathT ss at1 = [] := pathT_one (by omega)
        rw [hdone, List.append_nil] at hpath
        refine WP.exit ?_
        repeat (first | with_reducible refine exit_pass ?_ | with_reducible refine exit_other rfl ?_)
        refine blk_here ?_
        refine wp_sr (E := noPanic) noPanic_imp ?_
        refine rl_val rfl (v := vp) (val_move (v := vp) hs8) ?_
        have hmr := hm.cast (l2 := [] ++ (rp ++ [])) (by simp only [List.append_assoc, List.nil_append, List.append_nil, List.cons_append])
        obtain ⟨ap, cp, rfl, hcp, _⟩ := hvp.form
        refine rl_call rfl (ent_static (args := [.slice ap ac.length cp]) Tryz.func255 rfl rfl rfl rfl) (rev_ok ac _ _ _ rp _ rfl hac hvp hmr.see.2 (by omega)) ?_
        rintro _ w32 ⟨rfl, r34, hv35, h33⟩
        refine callQ_ret ?_
        replace hm := hmr.callVec hvp h33
        replace hm : Mem w [] ([] ++ (r34 ++ [])) w32 := by simpa only [List.append_assoc, List.nil_append, List.append_nil, List.cons_append] using hm
        refine rl_nil ?_
        refine wp_sr (E := noPanic) noPanic_imp ?_
        refine rl_val rfl (v := (.slice ap ac.length cp)) (val_move (v := (.slice ap ac.length cp)) hs8) ?_
        refine rl_call rfl (ent_static (args := [(.slice ap ac.length cp)]) Tryz.func183 rfl rfl rfl rfl) (clipS_ok _ _ _ _ hcp (by omega)) ?_
        rintro _ w36 ⟨rfl, h37⟩
        refine callQ_ret ?_
        replace hm : Mem w [] ([] ++ (r34 ++ [])) w36 := hm.call h37
        refine rl_val rfl (v := (.slice ap ac.length ac.length)) (val_assign (v := (.slice ap ac.length ac.length)) rfl) ?_
        refine rl_val rfl (v := (vI 0)) (val_assign (v := (vI 0)) rfl) ?_
        refine rl_nil ?_
        refine WP.ret ?_
        repeat (first | with_reducible refine ret_pass ?_ | with_reducible refine ret_blk ?_ | with_reducible refine scope_ret ?_)
        exact post_rets rfl (vs := [(.slice ap ac.length ac.length), vI 0]) ⟨rfl, rfl, trivial⟩ rfl ⟨fun _ => ⟨_, _, rfl, by rw [← hpath]; simpa using hv35.clip, by simpa using hm⟩, fun h => by omega⟩
end Go.Al
