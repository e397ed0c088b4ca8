/- Lemmas and contracts for the claim, part 5: what each function of the road does, proved once. No condition beyond the hypotheses that stand. -/
import Derived.Test.YtmdohnabdlolkaaGreatDoorProg
import Derived.Test.YtmdohnabdlolkaaGreatDoorAl4
namespace Go.Al
open Go Go.RowKit Go.Proofs
set_option linter.unusedVariables false
set_option linter.unusedSimpArgs false
theorem Mem.apart {w0 w : World} {own : List Nat} {l1 l l2 : List (Nat × Obj)} (h : Mem w0 own (l1 ++ (l ++ l2)) w) : ∀ p : Nat × Obj, p ∈ l1 ∨ p ∈ l2 → p.1 ∉ l.map (·.1) := by
  intro p hp hm
  have hnd := h.nd
  rw [List.map_append, List.map_append, List.nodup_append, List.nodup_append] at hnd
  obtain ⟨_, ⟨_, _, h3⟩, h4⟩ := hnd
  rcases hp with hp | hp
  · exact h4 _ (List.mem_map.2 ⟨p, hp, rfl⟩) _ (List.mem_append_left _ hm) rfl
  · exact h3 _ hm _ (List.mem_map.2 ⟨p, hp, rfl⟩) rfl
theorem mem_rowsC {ps : List HP} {p : HP} {x : Nat × Obj} (hp : p ∈ ps) (hx : x ∈ p.r) : x ∈ rowsC ps := List.mem_flatMap.2 ⟨p, hp, hx⟩
theorem look_reads {w0 w : World} {own : List Nat} {l : List (Nat × Obj)} {sz : Nat} {e : TypeId} {mk : Nat → List Value} {ps : List HP} (hG : ∀ p ∈ ps, HGrown sz e mk p) (hk : ∀ k, (mk k).length = sz) (hm : Mem w0 own l w) (hs : ∀ x ∈ rowsC ps, x ∈ l) :
    ∀ p ∈ ps, SlIs w [] p.v sz p.n (repM (mk p.k) p.n) ∧ SlIs w [] p.lg sz (p.n + 40) (repM (mk p.k) (p.n + 40)) ∧ p.n ≤ 1000000 ∧ p.k ≤ 1000000 := by
  intro p hp
  obtain ⟨h1, h2, h3⟩ := hG p hp
  obtain ⟨h4, h5⟩ := h1.reads (hk _) hm (fun x hx => hs x (mem_rowsC hp hx))
  exact ⟨h4, h5, h2, h3⟩
theorem no109_ok (bk n : Nat) (u1 u3 u4 u5 u6 u7 u8 u9 : Value) (w : World) (hbk : RowL w bk [vI (n : Int), u1, .slice none 0 0, u3, u4, u5, u6, u7, u8, u9]) : Calls Tryz.prog 109 [.pointer (some ⟨bk, 0, none⟩)].toArray w (Ret w (.tuple #[])) := by
  have hm := Mem.init w
  refine calls_enter (n := 35) Tryz.func109 rfl rfl rfl ?_
  refine wp_sr (E := noPanic) noPanic_imp ?_
  refine rl_val rfl (v := (vI 0)) (val_assign (v := (vI 0)) rfl) ?_
  refine rl_nil ?_
  refine WP.block ?_
  refine WP.loop (fun mz τ w' => 0 = mz ∧ Mem w [] [] w' ∧ τ 0 = (.pointer (some ⟨bk, 0, none⟩)) ∧ τ 2 = (vI 0)) (0) ?_ ?_
  · exact ⟨rfl, hm, rfl, rfl⟩
  · rintro kk2 τ wl1 ⟨hk3, hm, hs4, hs5⟩
    refine WP.seq ?_
    refine wp_sr (E := noPanic) noPanic_imp ?_
    refine rl_val rfl (v := (vI 0)) (val_move (v := (vI 0)) hs5) ?_
    refine rl_val rfl (v := (.pointer (some ⟨bk, 0, none⟩))) (val_move (v := (.pointer (some ⟨bk, 0, none⟩))) hs4) ?_
    refine rl_val rfl (v := (.pointer (some ⟨bk, 0, none⟩))) (val_nilCheck rfl) ?_
    refine rl_val rfl (v := (.pointer (some ⟨bk, 2, none⟩))) (val_fieldAddr (d := 2) rfl fo_37_2) ?_
    refine rl_val rfl (v := (.slice none 0 0)) (val_load1 (v := (.slice none 0 0)) (off := 2) rfl ag_28 (hm.getL hbk (by simp)) rfl) ?_
    refine rl_val rfl (v := (vI 0)) (val_lenSl (t := 28) rfl us_28 rfl) ?_
    refine rl_val rfl (v := (.bool false)) (val_lt (p := 0) (q := 0) rfl rfl) ?_
    refine rl_nil ?_
    refine WP.cond_f rfl ?_
    refine WP.exit ?_
    repeat (first | with_reducible refine exit_pass ?_ | with_reducible refine exit_other rfl ?_)
    refine blk_here ?_
    exact ret_nil_post rfl ⟨rfl, hm⟩
theorem no110_ok (bk n : Nat) (u1 u2 u4 u5 u6 u7 u8 u9 : Value) (w : World) (hbk : RowL w bk [vI (n : Int), u1, u2, .slice none 0 0, u4, u5, u6, u7, u8, u9]) : Calls Tryz.prog 110 [.pointer (some ⟨bk, 0, none⟩)].toArray w (Ret w (.tuple #[])) := by
  have hm := Mem.init w
  refine calls_enter (n := 35) Tryz.func110 rfl rfl rfl ?_
  refine wp_sr (E := noPanic) noPanic_imp ?_
  refine rl_val rfl (v := (vI 0)) (val_assign (v := (vI 0)) rfl) ?_
  refine rl_nil ?_
  refine WP.block ?_
  refine WP.loop (fun mz τ w' => 0 = mz ∧ Mem w [] [] w' ∧ τ 0 = (.pointer (some ⟨bk, 0, none⟩)) ∧ τ 2 = (vI 0)) (0) ?_ ?_
  · exact ⟨rfl, hm, rfl, rfl⟩
  · rintro kk2 τ wl1 ⟨hk3, hm, hs4, hs5⟩
    refine WP.seq ?_
    refine wp_sr (E := noPanic) noPanic_imp ?_
    refine rl_val rfl (v := (vI 0)) (val_move (v := (vI 0)) hs5) ?_
    refine rl_val rfl (v := (.pointer (some ⟨bk, 0, none⟩))) (val_move (v := (.pointer (some ⟨bk, 0, none⟩))) hs4) ?_
    refine rl_val rfl (v := (.pointer (some ⟨bk, 0, none⟩))) (val_nilCheck rfl) ?_
    refine rl_val rfl (v := (.pointer (some ⟨bk, 3, none⟩))) (val_fieldAddr (d := 3) rfl fo_37_3) ?_
    refine rl_val rfl (v := (.slice none 0 0)) (val_load1 (v := (.slice none 0 0)) (off := 3) rfl ag_29 (hm.getL hbk (by simp)) rfl) ?_
    refine rl_val rfl (v := (vI 0)) (val_lenSl (t := 29) rfl us_29 rfl) ?_
    refine rl_val rfl (v := (.bool false)) (val_lt (p := 0) (q := 0) rfl rfl) ?_
    refine rl_nil ?_
    refine WP.cond_f rfl ?_
    refine WP.exit ?_
    repeat (first | with_reducible refine exit_pass ?_ | with_reducible refine exit_other rfl ?_)
    refine blk_here ?_
    exact ret_nil_post rfl ⟨rfl, hm⟩
theorem no111_ok (bk n : Nat) (u1 u2 u3 u5 u6 u7 u8 u9 : Value) (w : World) (hbk : RowL w bk [vI (n : Int), u1, u2, u3, .slice none 0 0, u5, u6, u7, u8, u9]) : Calls Tryz.prog 111 [.pointer (some ⟨bk, 0, none⟩)].toArray w (Ret w (.tuple #[])) := by
  have hm := Mem.init w
  refine calls_enter (n := 35) Tryz.func111 rfl rfl rfl ?_
  refine wp_sr (E := noPanic) noPanic_imp ?_
  refine rl_val rfl (v := (vI 0)) (val_assign (v := (vI 0)) rfl) ?_
  refine rl_nil ?_
  refine WP.block ?_
  refine WP.loop (fun mz τ w' => 0 = mz ∧ Mem w [] [] w' ∧ τ 0 = (.pointer (some ⟨bk, 0, none⟩)) ∧ τ 2 = (vI 0)) (0) ?_ ?_
  · exact ⟨rfl, hm, rfl, rfl⟩
  · rintro kk2 τ wl1 ⟨hk3, hm, hs4, hs5⟩
    refine WP.seq ?_
    refine wp_sr (E := noPanic) noPanic_imp ?_
    refine rl_val rfl (v := (vI 0)) (val_move (v := (vI 0)) hs5) ?_
    refine rl_val rfl (v := (.pointer (some ⟨bk, 0, none⟩))) (val_move (v := (.pointer (some ⟨bk, 0, none⟩))) hs4) ?_
    refine rl_val rfl (v := (.pointer (some ⟨bk, 0, none⟩))) (val_nilCheck rfl) ?_
    refine rl_val rfl (v := (.pointer (some ⟨bk, 4, none⟩))) (val_fieldAddr (d := 4) rfl fo_37_4) ?_
    refine rl_val rfl (v := (.slice none 0 0)) (val_load1 (v := (.slice none 0 0)) (off := 4) rfl ag_30 (hm.getL hbk (by simp)) rfl) ?_
    refine rl_val rfl (v := (vI 0)) (val_lenSl (t := 30) rfl us_30 rfl) ?_
    refine rl_val rfl (v := (.bool false)) (val_lt (p := 0) (q := 0) rfl rfl) ?_
    refine rl_nil ?_
    refine WP.cond_f rfl ?_
    refine WP.exit ?_
    repeat (first | with_reducible refine exit_pass ?_ | with_reducible refine exit_other rfl ?_)
    refine blk_here ?_
    exact ret_nil_post rfl ⟨rfl, hm⟩
theorem no113_ok (bk n : Nat) (u1 u2 u3 u4 u5 u7 u8 u9 : Value) (w : World) (hbk : RowL w bk [vI (n : Int), u1, u2, u3, u4, u5, .slice none 0 0, u7, u8, u9]) : Calls Tryz.prog 113 [.pointer (some ⟨bk, 0, none⟩)].toArray w (Ret w (.tuple #[])) := by
  have hm := Mem.init w
  refine calls_enter (n := 35) Tryz.func113 rfl rfl rfl ?_
  refine wp_sr (E := noPanic) noPanic_imp ?_
  refine rl_val rfl (v := (vI 0)) (val_assign (v := (vI 0)) rfl) ?_
  refine rl_nil ?_
  refine WP.block ?_
  refine WP.loop (fun mz τ w' => 0 = mz ∧ Mem w [] [] w' ∧ τ 0 = (.pointer (some ⟨bk, 0, none⟩)) ∧ τ 2 = (vI 0)) (0) ?_ ?_
  · exact ⟨rfl, hm, rfl, rfl⟩
  · rintro kk2 τ wl1 ⟨hk3, hm, hs4, hs5⟩
    refine WP.seq ?_
    refine wp_sr (E := noPanic) noPanic_imp ?_
    refine rl_val rfl (v := (vI 0)) (val_move (v := (vI 0)) hs5) ?_
    refine rl_val rfl (v := (.pointer (some ⟨bk, 0, none⟩))) (val_move (v := (.pointer (some ⟨bk, 0, none⟩))) hs4) ?_
    refine rl_val rfl (v := (.pointer (some ⟨bk, 0, none⟩))) (val_nilCheck rfl) ?_
    refine rl_val rfl (v := (.pointer (some ⟨bk, 6, none⟩))) (val_fieldAddr (d := 6) rfl fo_37_6) ?_
    refine rl_val rfl (v := (.slice none 0 0)) (val_load1 (v := (.slice none 0 0)) (off := 6) rfl ag_32 (hm.getL hbk (by simp)) rfl) ?_
    refine rl_val rfl (v := (vI 0)) (val_lenSl (t := 32) rfl us_32 rfl) ?_
    refine rl_val rfl (v := (.bool false)) (val_lt (p := 0) (q := 0) rfl rfl) ?_
    refine rl_nil ?_
    refine WP.cond_f rfl ?_
    refine WP.exit ?_
    repeat (first | with_reducible refine exit_pass ?_ | with_reducible refine exit_other rfl ?_)
    refine blk_here ?_
    exact ret_nil_post rfl ⟨rfl, hm⟩
theorem no114_ok (bk n : Nat) (u1 u2 u3 u4 u5 u6 u8 u9 : Value) (w : World) (hbk : RowL w bk [vI (n : Int), u1, u2, u3, u4, u5, u6, .slice none 0 0, u8, u9]) : Calls Tryz.prog 114 [.pointer (some ⟨bk, 0, none⟩)].toArray w (Ret w (.tuple #[])) := by
  have hm := Mem.init w
  refine calls_enter (n := 35) Tryz.func114 rfl rfl rfl ?_
  refine wp_sr (E := noPanic) noPanic_imp ?_
  refine rl_val rfl (v := (vI 0)) (val_assign (v := (vI 0)) rfl) ?_
  refine rl_nil ?_
  refine WP.block ?_
  refine WP.loop (fun mz τ w' => 0 = mz ∧ Mem w [] [] w' ∧ τ 0 = (.pointer (some ⟨bk, 0, none⟩)) ∧ τ 2 = (vI 0)) (0) ?_ ?_
  · exact ⟨rfl, hm, rfl, rfl⟩
  · rintro kk2 τ wl1 ⟨hk3, hm, hs4, hs5⟩
    refine WP.seq ?_
    refine wp_sr (E := noPanic) noPanic_imp ?_
    refine rl_val rfl (v := (vI 0)) (val_move (v := (vI 0)) hs5) ?_
    refine rl_val rfl (v := (.pointer (some ⟨bk, 0, none⟩))) (val_move (v := (.pointer (some ⟨bk, 0, none⟩))) hs4) ?_
    refine rl_val rfl (v := (.pointer (some ⟨bk, 0, none⟩))) (val_nilCheck rfl) ?_
    refine rl_val rfl (v := (.pointer (some ⟨bk, 7, none⟩))) (val_fieldAddr (d := 7) rfl fo_37_7) ?_
    refine rl_val rfl (v := (.slice none 0 0)) (val_load1 (v := (.slice none 0 0)) (off := 7) rfl ag_33 (hm.getL hbk (by simp)) rfl) ?_
    refine rl_val rfl (v := (vI 0)) (val_lenSl (t := 33) rfl us_33 rfl) ?_
    refine rl_val rfl (v := (.bool false)) (val_lt (p := 0) (q := 0) rfl rfl) ?_
    refine rl_nil ?_
    refine WP.cond_f rfl ?_
    refine WP.exit ?_
    repeat (first | with_reducible refine exit_pass ?_ | with_reducible refine exit_other rfl ?_)
    refine blk_here ?_
    exact ret_nil_post rfl ⟨rfl, hm⟩
theorem no115_ok (bk n : Nat) (u1 u2 u3 u4 u5 u6 u7 u9 : Value) (w : World) (hbk : RowL w bk [vI (n : Int), u1, u2, u3, u4, u5, u6, u7, .slice none 0 0, u9]) : Calls Tryz.prog 115 [.pointer (some ⟨bk, 0, none⟩)].toArray w (Ret w (.tuple #[])) := by
  have hm := Mem.init w
  refine calls_enter (n := 35) Tryz.func115 rfl rfl rfl ?_
  refine wp_sr (E := noPanic) noPanic_imp ?_
  refine rl_val rfl (v := (vI 0)) (val_assign (v := (vI 0)) rfl) ?_
  refine rl_nil ?_
  refine WP.block ?_
  refine WP.loop (fun mz τ w' => 0 = mz ∧ Mem w [] [] w' ∧ τ 0 = (.pointer (some ⟨bk, 0, none⟩)) ∧ τ 2 = (vI 0)) (0) ?_ ?_
  · exact ⟨rfl, hm, rfl, rfl⟩
  · rintro kk2 τ wl1 ⟨hk3, hm, hs4, hs5⟩
    refine WP.seq ?_
    refine wp_sr (E := noPanic) noPanic_imp ?_
    refine rl_val rfl (v := (vI 0)) (val_move (v := (vI 0)) hs5) ?_
    refine rl_val rfl (v := (.pointer (some ⟨bk, 0, none⟩))) (val_move (v := (.pointer (some ⟨bk, 0, none⟩))) hs4) ?_
    refine rl_val rfl (v := (.pointer (some ⟨bk, 0, none⟩))) (val_nilCheck rfl) ?_
    refine rl_val rfl (v := (.pointer (some ⟨bk, 8, none⟩))) (val_fieldAddr (d := 8) rfl fo_37_8) ?_
    refine rl_val rfl (v := (.slice none 0 0)) (val_load1 (v := (.slice none 0 0)) (off := 8) rfl ag_34 (hm.getL hbk (by simp)) rfl) ?_
    refine rl_val rfl (v := (vI 0)) (val_lenSl (t := 34) rfl us_34 rfl) ?_
    refine rl_val rfl (v := (.bool false)) (val_lt (p := 0) (q := 0) rfl rfl) ?_
    refine rl_nil ?_
    refine WP.cond_f rfl ?_
    refine WP.exit ?_
    repeat (first | with_reducible refine exit_pass ?_ | with_reducible refine exit_other rfl ?_)
    refine blk_here ?_
    exact ret_nil_post rfl ⟨rfl, hm⟩
theorem no116_ok (bk n : Nat) (u1 u2 u3 u4 u5 u6 u7 u8 : Value) (w : World) (hbk : RowL w bk [vI (n : Int), u1, u2, u3, u4, u5, u6, u7, u8, .slice none 0 0]) : Calls Tryz.prog 116 [.pointer (some ⟨bk, 0, none⟩)].toArray w (Ret w (.tuple #[])) := by
  have hm := Mem.init w
  refine calls_enter (n := 35) Tryz.func116 rfl rfl rfl ?_
  refine wp_sr (E := noPanic) noPanic_imp ?_
  refine rl_val rfl (v := (vI 0)) (val_assign (v := (vI 0)) rfl) ?_
  refine rl_nil ?_
  refine WP.block ?_
  refine WP.loop (fun mz τ w' => 0 = mz ∧ Mem w [] [] w' ∧ τ 0 = (.pointer (some ⟨bk, 0, none⟩)) ∧ τ 2 = (vI 0)) (0) ?_ ?_
  · exact ⟨rfl, hm, rfl, rfl⟩
  · rintro kk2 τ wl1 ⟨hk3, hm, hs4, hs5⟩
    refine WP.seq ?_
    refine wp_sr (E := noPanic) noPanic_imp ?_
    refine rl_val rfl (v := (vI 0)) (val_move (v := (vI 0)) hs5) ?_
    refine rl_val rfl (v := (.pointer (some ⟨bk, 0, none⟩))) (val_move (v := (.pointer (some ⟨bk, 0, none⟩))) hs4) ?_
    refine rl_val rfl (v := (.pointer (some ⟨bk, 0, none⟩))) (val_nilCheck rfl) ?_
    refine rl_val rfl (v := (.pointer (some ⟨bk, 9, none⟩))) (val_fieldAddr (d := 9) rfl fo_37_9) ?_
    refine rl_val rfl (v := (.slice none 0 0)) (val_load1 (v := (.slice none 0 0)) (off := 9) rfl ag_35 (hm.getL hbk (by simp)) rfl) ?_
    refine rl_val rfl (v := (vI 0)) (val_lenSl (t := 35) rfl us_35 rfl) ?_
    refine rl_val rfl (v := (.bool false)) (val_lt (p := 0) (q := 0) rfl rfl) ?_
    refine rl_nil ?_
    refine WP.cond_f rfl ?_
    refine WP.exit ?_
    repeat (first | with_reducible refine exit_pass ?_ | with_reducible refine exit_other rfl ?_)
    refine blk_here ?_
    exact ret_nil_post rfl ⟨rfl, hm⟩
theorem no118_ok (bk n : Nat) (u1 u3 u4 u5 u6 u7 u8 u9 : Value) (w : World) (hbk : RowL w bk [vI (n : Int), u1, .slice none 0 0, u3, u4, u5, u6, u7, u8, u9]) : Calls Tryz.prog 118 [.pointer (some ⟨bk, 0, none⟩)].toArray w (Ret w (.tuple #[])) := by
  have hm := Mem.init w
  refine calls_enter (n := 42) Tryz.func118 rfl rfl rfl ?_
  refine wp_sr (E := noPanic) noPanic_imp ?_
  refine rl_val rfl (v := (vI 0)) (val_assign (v := (vI 0)) rfl) ?_
  refine rl_nil ?_
  refine WP.block ?_
  refine WP.loop (fun mz τ w' => 0 = mz ∧ Mem w [] [] w' ∧ τ 0 = (.pointer (some ⟨bk, 0, none⟩)) ∧ τ 2 = (vI 0)) (0) ?_ ?_
  · exact ⟨rfl, hm, rfl, rfl⟩
  · rintro kk2 τ wl1 ⟨hk3, hm, hs4, hs5⟩
    refine WP.seq ?_
    refine wp_sr (E := noPanic) noPanic_imp ?_
    refine rl_val rfl (v := (vI 0)) (val_move (v := (vI 0)) hs5) ?_
    refine rl_val rfl (v := (.pointer (some ⟨bk, 0, none⟩))) (val_move (v := (.pointer (some ⟨bk, 0, none⟩))) hs4) ?_
    refine rl_val rfl (v := (.pointer (some ⟨bk, 0, none⟩))) (val_nilCheck rfl) ?_
    refine rl_val rfl (v := (.pointer (some ⟨bk, 2, none⟩))) (val_fieldAddr (d := 2) rfl fo_37_2) ?_
    refine rl_val rfl (v := (.slice none 0 0)) (val_load1 (v := (.slice none 0 0)) (off := 2) rfl ag_28 (hm.getL hbk (by simp)) rfl) ?_
    refine rl_val rfl (v := (vI 0)) (val_lenSl (t := 28) rfl us_28 rfl) ?_
    refine rl_val rfl (v := (.bool false)) (val_lt (p := 0) (q := 0) rfl rfl) ?_
    refine rl_nil ?_
    refine WP.cond_f rfl ?_
    refine WP.exit ?_
    repeat (first | with_reducible refine exit_pass ?_ | with_reducible refine exit_other rfl ?_)
    refine blk_here ?_
    exact ret_nil_post rfl ⟨rfl, hm⟩
theorem no119_ok (bk n : Nat) (u1 u2 u4 u5 u6 u7 u8 u9 : Value) (w : World) (hbk : RowL w bk [vI (n : Int), u1, u2, .slice none 0 0, u4, u5, u6, u7, u8, u9]) : Calls Tryz.prog 119 [.pointer (some ⟨bk, 0, none⟩)].toArray w (Ret w (.tuple #[])) := by
  have hm := Mem.init w
  refine calls_enter (n := 42) Tryz.func119 rfl rfl rfl ?_
  refine wp_sr (E := noPanic) noPanic_imp ?_
  refine rl_val rfl (v := (vI 0)) (val_assign (v := (vI 0)) rfl) ?_
  refine rl_nil ?_
  refine WP.block ?_
  refine WP.loop (fun mz τ w' => 0 = mz ∧ Mem w [] [] w' ∧ τ 0 = (.pointer (some ⟨bk, 0, none⟩)) ∧ τ 2 = (vI 0)) (0) ?_ ?_
  · exact ⟨rfl, hm, rfl, rfl⟩
  · rintro kk2 τ wl1 ⟨hk3, hm, hs4, hs5⟩
    refine WP.seq ?_
    refine wp_sr (E := noPanic) noPanic_imp ?_
    refine rl_val rfl (v := (vI 0)) (val_move (v := (vI 0)) hs5) ?_
    refine rl_val rfl (v := (.pointer (some ⟨bk, 0, none⟩))) (val_move (v := (.pointer (some ⟨bk, 0, none⟩))) hs4) ?_
    refine rl_val rfl (v := (.pointer (some ⟨bk, 0, none⟩))) (val_nilCheck rfl) ?_
    refine rl_val rfl (v := (.pointer (some ⟨bk, 3, none⟩))) (val_fieldAddr (d := 3) rfl fo_37_3) ?_
    refine rl_val rfl (v := (.slice none 0 0)) (val_load1 (v := (.slice none 0 0)) (off := 3) rfl ag_29 (hm.getL hbk (by simp)) rfl) ?_
    refine rl_val rfl (v := (vI 0)) (val_lenSl (t := 29) rfl us_29 rfl) ?_
    refine rl_val rfl (v := (.bool false)) (val_lt (p := 0) (q := 0) rfl rfl) ?_
    refine rl_nil ?_
    refine WP.cond_f rfl ?_
    refine WP.exit ?_
    repeat (first | with_reducible refine exit_pass ?_ | with_reducible refine exit_other rfl ?_)
    refine blk_here ?_
    exact ret_nil_post rfl ⟨rfl, hm⟩
theorem no120_ok (bk n : Nat) (u1 u2 u3 u5 u6 u7 u8 u9 : Value) (w : World) (hbk : RowL w bk [vI (n : Int), u1, u2, u3, .slice none 0 0, u5, u6, u7, u8, u9]) : Calls Tryz.prog 120 [.pointer (some ⟨bk, 0, none⟩)].toArray w (Ret w (.tuple #[])) := by
  have hm := Mem.init w
  refine calls_enter (n := 42) Tryz.func120 rfl rfl rfl ?_
  refine wp_sr (E := noPanic) noPanic_imp ?_
  refine rl_val rfl (v := (vI 0)) (val_assign (v := (vI 0)) rfl) ?_
  refine rl_nil ?_
  refine WP.block ?_
  refine WP.loop (fun mz τ w' => 0 = mz ∧ Mem w [] [] w' ∧ τ 0 = (.pointer (some ⟨bk, 0, none⟩)) ∧ τ 2 = (vI 0)) (0) ?_ ?_
  · exact ⟨rfl, hm, rfl, rfl⟩
  · rintro kk2 τ wl1 ⟨hk3, hm, hs4, hs5⟩
    refine WP.seq ?_
    refine wp_sr (E := noPanic) noPanic_imp ?_
    refine rl_val rfl (v := (vI 0)) (val_move (v := (vI 0)) hs5) ?_
    refine rl_val rfl (v := (.pointer (some ⟨bk, 0, none⟩))) (val_move (v := (.pointer (some ⟨bk, 0, none⟩))) hs4) ?_
    refine rl_val rfl (v := (.pointer (some ⟨bk, 0, none⟩))) (val_nilCheck rfl) ?_
    refine rl_val rfl (v := (.pointer (some ⟨bk, 4, none⟩))) (val_fieldAddr (d := 4) rfl fo_37_4) ?_
    refine rl_val rfl (v := (.slice none 0 0)) (val_load1 (v := (.slice none 0 0)) (off := 4) rfl ag_30 (hm.getL hbk (by simp)) rfl) ?_
    refine rl_val rfl (v := (vI 0)) (val_lenSl (t := 30) rfl us_30 rfl) ?_
    refine rl_val rfl (v := (.bool false)) (val_lt (p := 0) (q := 0) rfl rfl) ?_
    refine rl_nil ?_
    refine WP.cond_f rfl ?_
    refine WP.exit ?_
    repeat (first | with_reducible refine exit_pass ?_ | with_reducible refine exit_other rfl ?_)
    refine blk_here ?_
    exact ret_nil_post rfl ⟨rfl, hm⟩
theorem no122_ok (bk n : Nat) (u1 u2 u3 u4 u5 u7 u8 u9 : Value) (w : World) (hbk : RowL w bk [vI (n : Int), u1, u2, u3, u4, u5, .slice none 0 0, u7, u8, u9]) : Calls Tryz.prog 122 [.pointer (some ⟨bk, 0, none⟩)].toArray w (Ret w (.tuple #[])) := by
  have hm := Mem.init w
  refine calls_enter (n := 42) Tryz.func122 rfl rfl rfl ?_
  refine wp_sr (E := noPanic) noPanic_imp ?_
  refine rl_val rfl (v := (vI 0)) (val_assign (v := (vI 0)) rfl) ?_
  refine rl_nil ?_
  refine WP.block ?_
  refine WP.loop (fun mz τ w' => 0 = mz ∧ Mem w [] [] w' ∧ τ 0 = (.pointer (some ⟨bk, 0, none⟩)) ∧ τ 2 = (vI 0)) (0) ?_ ?_
  · exact ⟨rfl, hm, rfl, rfl⟩
  · rintro kk2 τ wl1 ⟨hk3, hm, hs4, hs5⟩
    refine WP.seq ?_
    refine wp_sr (E := noPanic) noPanic_imp ?_
    refine rl_val rfl (v := (vI 0)) (val_move (v := (vI 0)) hs5) ?_
    refine rl_val rfl (v := (.pointer (some ⟨bk, 0, none⟩))) (val_move (v := (.pointer (some ⟨bk, 0, none⟩))) hs4) ?_
    refine rl_val rfl (v := (.pointer (some ⟨bk, 0, none⟩))) (val_nilCheck rfl) ?_
    refine rl_val rfl (v := (.pointer (some ⟨bk, 6, none⟩))) (val_fieldAddr (d := 6) rfl fo_37_6) ?_
    refine rl_val rfl (v := (.slice none 0 0)) (val_load1 (v := (.slice none 0 0)) (off := 6) rfl ag_32 (hm.getL hbk (by simp)) rfl) ?_
    refine rl_val rfl (v := (vI 0)) (val_lenSl (t := 32) rfl us_32 rfl) ?_
    refine rl_val rfl (v := (.bool false)) (val_lt (p := 0) (q := 0) rfl rfl) ?_
    refine rl_nil ?_
    refine WP.cond_f rfl ?_
    refine WP.exit ?_
    repeat (first | with_reducible refine exit_pass ?_ | with_reducible refine exit_other rfl ?_)
    refine blk_here ?_
    exact ret_nil_post rfl ⟨rfl, hm⟩
theorem no123_ok (bk n : Nat) (u1 u2 u3 u4 u5 u6 u8 u9 : Value) (w : World) (hbk : RowL w bk [vI (n : Int), u1, u2, u3, u4, u5, u6, .slice none 0 0, u8, u9]) : Calls Tryz.prog 123 [.pointer (some ⟨bk, 0, none⟩)].toArray w (Ret w (.tuple #[])) := by
  have hm := Mem.init w
  refine calls_enter (n := 42) Tryz.func123 rfl rfl rfl ?_
  refine wp_sr (E := noPanic) noPanic_imp ?_
  refine rl_val rfl (v := (vI 0)) (val_assign (v := (vI 0)) rfl) ?_
  refine rl_nil ?_
  refine WP.block ?_
  refine WP.loop (fun mz τ w' => 0 = mz ∧ Mem w [] [] w' ∧ τ 0 = (.pointer (some ⟨bk, 0, none⟩)) ∧ τ 2 = (vI 0)) (0) ?_ ?_
  · exact ⟨rfl, hm, rfl, rfl⟩
  · rintro kk2 τ wl1 ⟨hk3, hm, hs4, hs5⟩
    refine WP.seq ?_
    refine wp_sr (E := noPanic) noPanic_imp ?_
    refine rl_val rfl (v := (vI 0)) (val_move (v := (vI 0)) hs5) ?_
    refine rl_val rfl (v := (.pointer (some ⟨bk, 0, none⟩))) (val_move (v := (.pointer (some ⟨bk, 0, none⟩))) hs4) ?_
    refine rl_val rfl (v := (.pointer (some ⟨bk, 0, none⟩))) (val_nilCheck rfl) ?_
    refine rl_val rfl (v := (.pointer (some ⟨bk, 7, none⟩))) (val_fieldAddr (d := 7) rfl fo_37_7) ?_
    refine rl_val rfl (v := (.slice none 0 0)) (val_load1 (v := (.slice none 0 0)) (off := 7) rfl ag_33 (hm.getL hbk (by simp)) rfl) ?_
    refine rl_val rfl (v := (vI 0)) (val_lenSl (t := 33) rfl us_33 rfl) ?_
    refine rl_val rfl (v := (.bool false)) (val_lt (p := 0) (q := 0) rfl rfl) ?_
    refine rl_nil ?_
    refine WP.cond_f rfl ?_
    refine WP.exit ?_
    repeat (first | with_reducible refine exit_pass ?_ | with_reducible refine exit_other rfl ?_)
    refine blk_here ?_
    exact ret_nil_post rfl ⟨rfl, hm⟩
theorem no124_ok (bk n : Nat) (u1 u2 u3 u4 u5 u6 u7 u9 : Value) (w : World) (hbk : RowL w bk [vI (n : Int), u1, u2, u3, u4, u5, u6, u7, .slice none 0 0, u9]) : Calls Tryz.prog 124 [.pointer (some ⟨bk, 0, none⟩)].toArray w (Ret w (.tuple #[])) := by
  have hm := Mem.init w
  refine calls_enter (n := 42) Tryz.func124 rfl rfl rfl ?_
  refine wp_sr (E := noPanic) noPanic_imp ?_
  refine rl_val rfl (v := (vI 0)) (val_assign (v := (vI 0)) rfl) ?_
  refine rl_nil ?_
  refine WP.block ?_
  refine WP.loop (fun mz τ w' => 0 = mz ∧ Mem w [] [] w' ∧ τ 0 = (.pointer (some ⟨bk, 0, none⟩)) ∧ τ 2 = (vI 0)) (0) ?_ ?_
  · exact ⟨rfl, hm, rfl, rfl⟩
  · rintro kk2 τ wl1 ⟨hk3, hm, hs4, hs5⟩
    refine WP.seq ?_
    refine wp_sr (E := noPanic) noPanic_imp ?_
    refine rl_val rfl (v := (vI 0)) (val_move (v := (vI 0)) hs5) ?_
    refine rl_val rfl (v := (.pointer (some ⟨bk, 0, none⟩))) (val_move (v := (.pointer (some ⟨bk, 0, none⟩))) hs4) ?_
    refine rl_val rfl (v := (.pointer (some ⟨bk, 0, none⟩))) (val_nilCheck rfl) ?_
    refine rl_val rfl (v := (.pointer (some ⟨bk, 8, none⟩))) (val_fieldAddr (d := 8) rfl fo_37_8) ?_
    refine rl_val rfl (v := (.slice none 0 0)) (val_load1 (v := (.slice none 0 0)) (off := 8) rfl ag_34 (hm.getL hbk (by simp)) rfl) ?_
    refine rl_val rfl (v := (vI 0)) (val_lenSl (t := 34) rfl us_34 rfl) ?_
    refine rl_val rfl (v := (.bool false)) (val_lt (p := 0) (q := 0) rfl rfl) ?_
    refine rl_nil ?_
    refine WP.cond_f rfl ?_
    refine WP.exit ?_
    repeat (first | with_reducible refine exit_pass ?_ | with_reducible refine exit_other rfl ?_)
    refine blk_here ?_
    exact ret_nil_post rfl ⟨rfl, hm⟩
theorem no125_ok (bk n : Nat) (u1 u2 u3 u4 u5 u6 u7 u8 : Value) (w : World) (hbk : RowL w bk [vI (n : Int), u1, u2, u3, u4, u5, u6, u7, u8, .slice none 0 0]) : Calls Tryz.prog 125 [.pointer (some ⟨bk, 0, none⟩)].toArray w (Ret w (.tuple #[])) := by
  have hm := Mem.init w
  refine calls_enter (n := 42) Tryz.func125 rfl rfl rfl ?_
  refine wp_sr (E := noPanic) noPanic_imp ?_
  refine rl_val rfl (v := (vI 0)) (val_assign (v := (vI 0)) rfl) ?_
  refine rl_nil ?_
  refine WP.block ?_
  refine WP.loop (fun mz τ w' => 0 = mz ∧ Mem w [] [] w' ∧ τ 0 = (.pointer (some ⟨bk, 0, none⟩)) ∧ τ 2 = (vI 0)) (0) ?_ ?_
  · exact ⟨rfl, hm, rfl, rfl⟩
  · rintro kk2 τ wl1 ⟨hk3, hm, hs4, hs5⟩
    refine WP.seq ?_
    refine wp_sr (E := noPanic) noPanic_imp ?_
    refine rl_val rfl (v := (vI 0)) (val_move (v := (vI 0)) hs5) ?_
    refine rl_val rfl (v := (.pointer (some ⟨bk, 0, none⟩))) (val_move (v := (.pointer (some ⟨bk, 0, none⟩))) hs4) ?_
    refine rl_val rfl (v := (.pointer (some ⟨bk, 0, none⟩))) (val_nilCheck rfl) ?_
    refine rl_val rfl (v := (.pointer (some ⟨bk, 9, none⟩))) (val_fieldAddr (d := 9) rfl fo_37_9) ?_
    refine rl_val rfl (v := (.slice none 0 0)) (val_load1 (v := (.slice none 0 0)) (off := 9) rfl ag_35 (hm.getL hbk (by simp)) rfl) ?_
    refine rl_val rfl (v := (vI 0)) (val_lenSl (t := 35) rfl us_35 rfl) ?_
    refine rl_val rfl (v := (.bool false)) (val_lt (p := 0) (q := 0) rfl rfl) ?_
    refine rl_nil ?_
    refine WP.cond_f rfl ?_
    refine WP.exit ?_
    repeat (first | with_reducible refine exit_pass ?_ | with_reducible refine exit_other rfl ?_)
    refine blk_here ?_
    exact ret_nil_post rfl ⟨rfl, hm⟩
theorem no127_ok (bk n : Nat) (u1 u3 u4 u5 u6 u7 u8 u9 : Value) (w : World) (hbk : RowL w bk [vI (n : Int), u1, .slice none 0 0, u3, u4, u5, u6, u7, u8, u9]) : Calls Tryz.prog 127 [.pointer (some ⟨bk, 0, none⟩)].toArray w (Ret w (.bool true)) := by
  have hm := Mem.init w
  refine calls_enter (n := 64) Tryz.func127 rfl rfl rfl ?_
  refine wp_sr (E := noPanic) noPanic_imp ?_
  refine rl_val rfl (v := (.bool false)) (val_assign (v := (.bool false)) rfl) ?_
  refine rl_nil ?_
  refine WP.seq ?_
  refine wp_sr (E := noPanic) noPanic_imp ?_
  refine rl_val rfl (v := (vI 0)) (val_assign (v := (vI 0)) rfl) ?_
  refine rl_nil ?_
  refine WP.block ?_
  refine WP.loop (fun mz τ w' => 0 = mz ∧ Mem w [] [] w' ∧ τ 0 = (.pointer (some ⟨bk, 0, none⟩)) ∧ τ 3 = (vI 0)) (0) ?_ ?_
  · exact ⟨rfl, hm, rfl, rfl⟩
  · rintro kk2 τ wl1 ⟨hk3, hm, hs4, hs5⟩
    refine WP.seq ?_
    refine wp_sr (E := noPanic) noPanic_imp ?_
    refine rl_val rfl (v := (vI 0)) (val_move (v := (vI 0)) hs5) ?_
    refine rl_val rfl (v := (.pointer (some ⟨bk, 0, none⟩))) (val_move (v := (.pointer (some ⟨bk, 0, none⟩))) hs4) ?_
    refine rl_val rfl (v := (.pointer (some ⟨bk, 0, none⟩))) (val_nilCheck rfl) ?_
    refine rl_val rfl (v := (.pointer (some ⟨bk, 2, none⟩))) (val_fieldAddr (d := 2) rfl fo_37_2) ?_
    refine rl_val rfl (v := (.slice none 0 0)) (val_load1 (v := (.slice none 0 0)) (off := 2) rfl ag_28 (hm.getL hbk (by simp)) rfl) ?_
    refine rl_val rfl (v := (vI 0)) (val_lenSl (t := 28) rfl us_28 rfl) ?_
    refine rl_val rfl (v := (.bool false)) (val_lt (p := 0) (q := 0) rfl rfl) ?_
    refine rl_nil ?_
    refine WP.cond_f rfl ?_
    refine WP.exit ?_
    repeat (first | with_reducible refine exit_pass ?_ | with_reducible refine exit_other rfl ?_)
    refine blk_here ?_
    refine wp_sr (E := noPanic) noPanic_imp ?_
    refine rl_val rfl (v := (.bool true)) (val_assign (v := (.bool true)) rfl) ?_
    refine rl_nil ?_
    exact WP.ret (post_rets rfl (vs := [.bool true]) ⟨rfl, trivial⟩ rfl ⟨rfl, hm⟩)
theorem no128_ok (bk n : Nat) (u1 u2 u4 u5 u6 u7 u8 u9 : Value) (w : World) (hbk : RowL w bk [vI (n : Int), u1, u2, .slice none 0 0, u4, u5, u6, u7, u8, u9]) : Calls Tryz.prog 128 [.pointer (some ⟨bk, 0, none⟩)].toArray w (Ret w (.bool true)) := by
  have hm := Mem.init w
  refine calls_enter (n := 64) Tryz.func128 rfl rfl rfl ?_
  refine wp_sr (E := noPanic) noPanic_imp ?_
  refine rl_val rfl (v := (.bool false)) (val_assign (v := (.bool false)) rfl) ?_
  refine rl_nil ?_
  refine WP.seq ?_
  refine wp_sr (E := noPanic) noPanic_imp ?_
  refine rl_val rfl (v := (vI 0)) (val_assign (v := (vI 0)) rfl) ?_
  refine rl_nil ?_
  refine WP.block ?_
  refine WP.loop (fun mz τ w' => 0 = mz ∧ Mem w [] [] w' ∧ τ 0 = (.pointer (some ⟨bk, 0, none⟩)) ∧ τ 3 = (vI 0)) (0) ?_ ?_
  · exact ⟨rfl, hm, rfl, rfl⟩
  · rintro kk2 τ wl1 ⟨hk3, hm, hs4, hs5⟩
    refine WP.seq ?_
    refine wp_sr (E := noPanic) noPanic_imp ?_
    refine rl_val rfl (v := (vI 0)) (val_move (v := (vI 0)) hs5) ?_
    refine rl_val rfl (v := (.pointer (some ⟨bk, 0, none⟩))) (val_move (v := (.pointer (some ⟨bk, 0, none⟩))) hs4) ?_
    refine rl_val rfl (v := (.pointer (some ⟨bk, 0, none⟩))) (val_nilCheck rfl) ?_
    refine rl_val rfl (v := (.pointer (some ⟨bk, 3, none⟩))) (val_fieldAddr (d := 3) rfl fo_37_3) ?_
    refine rl_val rfl (v := (.slice none 0 0)) (val_load1 (v := (.slice none 0 0)) (off := 3) rfl ag_29 (hm.getL hbk (by simp)) rfl) ?_
    refine rl_val rfl (v := (vI 0)) (val_lenSl (t := 29) rfl us_29 rfl) ?_
    refine rl_val rfl (v := (.bool false)) (val_lt (p := 0) (q := 0) rfl rfl) ?_
    refine rl_nil ?_
    refine WP.cond_f rfl ?_
    refine WP.exit ?_
    repeat (first | with_reducible refine exit_pass ?_ | with_reducible refine exit_other rfl ?_)
    refine blk_here ?_
    refine wp_sr (E := noPanic) noPanic_imp ?_
    refine rl_val rfl (v := (.bool true)) (val_assign (v := (.bool true)) rfl) ?_
    refine rl_nil ?_
    exact WP.ret (post_rets rfl (vs := [.bool true]) ⟨rfl, trivial⟩ rfl ⟨rfl, hm⟩)
theorem no129_ok (bk n : Nat) (u1 u2 u3 u5 u6 u7 u8 u9 : Value) (w : World) (hbk : RowL w bk [vI (n : Int), u1, u2, u3, .slice none 0 0, u5, u6, u7, u8, u9]) : Calls Tryz.prog 129 [.pointer (some ⟨bk, 0, none⟩)].toArray w (Ret w (.bool true)) := by
  have hm := Mem.init w
  refine calls_enter (n := 64) Tryz.func129 rfl rfl rfl ?_
  refine wp_sr (E := noPanic) noPanic_imp ?_
  refine rl_val rfl (v := (.bool false)) (val_assign (v := (.bool false)) rfl) ?_
  refine rl_nil ?_
  refine WP.seq ?_
  refine wp_sr (E := noPanic) noPanic_imp ?_
  refine rl_val rfl (v := (vI 0)) (val_assign (v := (vI 0)) rfl) ?_
  refine rl_nil ?_
  refine WP.block ?_
  refine WP.loop (fun mz τ w' => 0 = mz ∧ Mem w [] [] w' ∧ τ 0 = (.pointer (some ⟨bk, 0, none⟩)) ∧ τ 3 = (vI 0)) (0) ?_ ?_
  · exact ⟨rfl, hm, rfl, rfl⟩
  · rintro kk2 τ wl1 ⟨hk3, hm, hs4, hs5⟩
    refine WP.seq ?_
    refine wp_sr (E := noPanic) noPanic_imp ?_
    refine rl_val rfl (v := (vI 0)) (val_move (v := (vI 0)) hs5) ?_
    refine rl_val rfl (v := (.pointer (some ⟨bk, 0, none⟩))) (val_move (v := (.pointer (some ⟨bk, 0, none⟩))) hs4) ?_
    refine rl_val rfl (v := (.pointer (some ⟨bk, 0, none⟩))) (val_nilCheck rfl) ?_
    refine rl_val rfl (v := (.pointer (some ⟨bk, 4, none⟩))) (val_fieldAddr (d := 4) rfl fo_37_4) ?_
    refine rl_val rfl (v := (.slice none 0 0)) (val_load1 (v := (.slice none 0 0)) (off := 4) rfl ag_30 (hm.getL hbk (by simp)) rfl) ?_
    refine rl_val rfl (v := (vI 0)) (val_lenSl (t := 30) rfl us_30 rfl) ?_
    refine rl_val rfl (v := (.bool false)) (val_lt (p := 0) (q := 0) rfl rfl) ?_
    refine rl_nil ?_
    refine WP.cond_f rfl ?_
    refine WP.exit ?_
    repeat (first | with_reducible refine exit_pass ?_ | with_reducible refine exit_other rfl ?_)
    refine blk_here ?_
    refine wp_sr (E := noPanic) noPanic_imp ?_
    refine rl_val rfl (v := (.bool true)) (val_assign (v := (.bool true)) rfl) ?_
    refine rl_nil ?_
    exact WP.ret (post_rets rfl (vs := [.bool true]) ⟨rfl, trivial⟩ rfl ⟨rfl, hm⟩)
theorem no131_ok (bk n : Nat) (u1 u2 u3 u4 u5 u7 u8 u9 : Value) (w : World) (hbk : RowL w bk [vI (n : Int), u1, u2, u3, u4, u5, .slice none 0 0, u7, u8, u9]) : Calls Tryz.prog 131 [.pointer (some ⟨bk, 0, none⟩)].toArray w (Ret w (.bool true)) := by
  have hm := Mem.init w
  refine calls_enter (n := 64) Tryz.func131 rfl rfl rfl ?_
  refine wp_sr (E := noPanic) noPanic_imp ?_
  refine rl_val rfl (v := (.bool false)) (val_assign (v := (.bool false)) rfl) ?_
  refine rl_nil ?_
  refine WP.seq ?_
  refine wp_sr (E := noPanic) noPanic_imp ?_
  refine rl_val rfl (v := (vI 0)) (val_assign (v := (vI 0)) rfl) ?_
  refine rl_nil ?_
  refine WP.block ?_
  refine WP.loop (fun mz τ w' => 0 = mz ∧ Mem w [] [] w' ∧ τ 0 = (.pointer (some ⟨bk, 0, none⟩)) ∧ τ 3 = (vI 0)) (0) ?_ ?_
  · exact ⟨rfl, hm, rfl, rfl⟩
  · rintro kk2 τ wl1 ⟨hk3, hm, hs4, hs5⟩
    refine WP.seq ?_
    refine wp_sr (E := noPanic) noPanic_imp ?_
    refine rl_val rfl (v := (vI 0)) (val_move (v := (vI 0)) hs5) ?_
    refine rl_val rfl (v := (.pointer (some ⟨bk, 0, none⟩))) (val_move (v := (.pointer (some ⟨bk, 0, none⟩))) hs4) ?_
    refine rl_val rfl (v := (.pointer (some ⟨bk, 0, none⟩))) (val_nilCheck rfl) ?_
    refine rl_val rfl (v := (.pointer (some ⟨bk, 6, none⟩))) (val_fieldAddr (d := 6) rfl fo_37_6) ?_
    refine rl_val rfl (v := (.slice none 0 0)) (val_load1 (v := (.slice none 0 0)) (off := 6) rfl ag_32 (hm.getL hbk (by simp)) rfl) ?_
    refine rl_val rfl (v := (vI 0)) (val_lenSl (t := 32) rfl us_32 rfl) ?_
    refine rl_val rfl (v := (.bool false)) (val_lt (p := 0) (q := 0) rfl rfl) ?_
    refine rl_nil ?_
    refine WP.cond_f rfl ?_
    refine WP.exit ?_
    repeat (first | with_reducible refine exit_pass ?_ | with_reducible refine exit_other rfl ?_)
    refine blk_here ?_
    refine wp_sr (E := noPanic) noPanic_imp ?_
    refine rl_val rfl (v := (.bool true)) (val_assign (v := (.bool true)) rfl) ?_
    refine rl_nil ?_
    exact WP.ret (post_rets rfl (vs := [.bool true]) ⟨rfl, trivial⟩ rfl ⟨rfl, hm⟩)
theorem no132_ok (bk n : Nat) (u1 u2 u3 u4 u5 u6 u8 u9 : Value) (w : World) (hbk : RowL w bk [vI (n : Int), u1, u2, u3, u4, u5, u6, .slice none 0 0, u8, u9]) : Calls Tryz.prog 132 [.pointer (some ⟨bk, 0, none⟩)].toArray w (Ret w (.bool true)) := by
  have hm := Mem.init w
  refine calls_enter (n := 64) Tryz.func132 rfl rfl rfl ?_
  refine wp_sr (E := noPanic) noPanic_imp ?_
  refine rl_val rfl (v := (.bool false)) (val_assign (v := (.bool false)) rfl) ?_
  refine rl_nil ?_
  refine WP.seq ?_
  refine wp_sr (E := noPanic) noPanic_imp ?_
  refine rl_val rfl (v := (vI 0)) (val_assign (v := (vI 0)) rfl) ?_
  refine rl_nil ?_
  refine WP.block ?_
  refine WP.loop (fun mz τ w' => 0 = mz ∧ Mem w [] [] w' ∧ τ 0 = (.pointer (some ⟨bk, 0, none⟩)) ∧ τ 3 = (vI 0)) (0) ?_ ?_
  · exact ⟨rfl, hm, rfl, rfl⟩
  · rintro kk2 τ wl1 ⟨hk3, hm, hs4, hs5⟩
    refine WP.seq ?_
    refine wp_sr (E := noPanic) noPanic_imp ?_
    refine rl_val rfl (v := (vI 0)) (val_move (v := (vI 0)) hs5) ?_
    refine rl_val rfl (v := (.pointer (some ⟨bk, 0, none⟩))) (val_move (v := (.pointer (some ⟨bk, 0, none⟩))) hs4) ?_
    refine rl_val rfl (v := (.pointer (some ⟨bk, 0, none⟩))) (val_nilCheck rfl) ?_
    refine rl_val rfl (v := (.pointer (some ⟨bk, 7, none⟩))) (val_fieldAddr (d := 7) rfl fo_37_7) ?_
    refine rl_val rfl (v := (.slice none 0 0)) (val_load1 (v := (.slice none 0 0)) (off := 7) rfl ag_33 (hm.getL hbk (by simp)) rfl) ?_
    refine rl_val rfl (v := (vI 0)) (val_lenSl (t := 33) rfl us_33 rfl) ?_
    refine rl_val rfl (v := (.bool false)) (val_lt (p := 0) (q := 0) rfl rfl) ?_
    refine rl_nil ?_
    refine WP.cond_f rfl ?_
    refine WP.exit ?_
    repeat (first | with_reducible refine exit_pass ?_ | with_reducible refine exit_other rfl ?_)
    refine blk_here ?_
    refine wp_sr (E := noPanic) noPanic_imp ?_
    refine rl_val rfl (v := (.bool true)) (val_assign (v := (.bool true)) rfl) ?_
    refine rl_nil ?_
    exact WP.ret (post_rets rfl (vs := [.bool true]) ⟨rfl, trivial⟩ rfl ⟨rfl, hm⟩)
theorem no133_ok (bk n : Nat) (u1 u2 u3 u4 u5 u6 u7 u9 : Value) (w : World) (hbk : RowL w bk [vI (n : Int), u1, u2, u3, u4, u5, u6, u7, .slice none 0 0, u9]) : Calls Tryz.prog 133 [.pointer (some ⟨bk, 0, none⟩)].toArray w (Ret w (.bool true)) := by
  have hm := Mem.init w
  refine calls_enter (n := 64) Tryz.func133 rfl rfl rfl ?_
  refine wp_sr (E := noPanic) noPanic_imp ?_
  refine rl_val rfl (v := (.bool false)) (val_assign (v := (.bool false)) rfl) ?_
  refine rl_nil ?_
  refine WP.seq ?_
  refine wp_sr (E := noPanic) noPanic_imp ?_
  refine rl_val rfl (v := (vI 0)) (val_assign (v := (vI 0)) rfl) ?_
  refine rl_nil ?_
  refine WP.block ?_
  refine WP.loop (fun mz τ w' => 0 = mz ∧ Mem w [] [] w' ∧ τ 0 = (.pointer (some ⟨bk, 0, none⟩)) ∧ τ 3 = (vI 0)) (0) ?_ ?_
  · exact ⟨rfl, hm, rfl, rfl⟩
  · rintro kk2 τ wl1 ⟨hk3, hm, hs4, hs5⟩
    refine WP.seq ?_
    refine wp_sr (E := noPanic) noPanic_imp ?_
    refine rl_val rfl (v := (vI 0)) (val_move (v := (vI 0)) hs5) ?_
    refine rl_val rfl (v := (.pointer (some ⟨bk, 0, none⟩))) (val_move (v := (.pointer (some ⟨bk, 0, none⟩))) hs4) ?_
    refine rl_val rfl (v := (.pointer (some ⟨bk, 0, none⟩))) (val_nilCheck rfl) ?_
    refine rl_val rfl (v := (.pointer (some ⟨bk, 8, none⟩))) (val_fieldAddr (d := 8) rfl fo_37_8) ?_
    refine rl_val rfl (v := (.slice none 0 0)) (val_load1 (v := (.slice none 0 0)) (off := 8) rfl ag_34 (hm.getL hbk (by simp)) rfl) ?_
    refine rl_val rfl (v := (vI 0)) (val_lenSl (t := 34) rfl us_34 rfl) ?_
    refine rl_val rfl (v := (.bool false)) (val_lt (p := 0) (q := 0) rfl rfl) ?_
    refine rl_nil ?_
    refine WP.cond_f rfl ?_
    refine WP.exit ?_
    repeat (first | with_reducible refine exit_pass ?_ | with_reducible refine exit_other rfl ?_)
    refine blk_here ?_
    refine wp_sr (E := noPanic) noPanic_imp ?_
    refine rl_val rfl (v := (.bool true)) (val_assign (v := (.bool true)) rfl) ?_
    refine rl_nil ?_
    exact WP.ret (post_rets rfl (vs := [.bool true]) ⟨rfl, trivial⟩ rfl ⟨rfl, hm⟩)
theorem no134_ok (bk n : Nat) (u1 u2 u3 u4 u5 u6 u7 u8 : Value) (w : World) (hbk : RowL w bk [vI (n : Int), u1, u2, u3, u4, u5, u6, u7, u8, .slice none 0 0]) : Calls Tryz.prog 134 [.pointer (some ⟨bk, 0, none⟩)].toArray w (Ret w (.bool true)) := by
  have hm := Mem.init w
  refine calls_enter (n := 64) Tryz.func134 rfl rfl rfl ?_
  refine wp_sr (E := noPanic) noPanic_imp ?_
  refine rl_val rfl (v := (.bool false)) (val_assign (v := (.bool false)) rfl) ?_
  refine rl_nil ?_
  refine WP.seq ?_
  refine wp_sr (E := noPanic) noPanic_imp ?_
  refine rl_val rfl (v := (vI 0)) (val_assign (v := (vI 0)) rfl) ?_
  refine rl_nil ?_
  refine WP.block ?_
  refine WP.loop (fun mz τ w' => 0 = mz ∧ Mem w [] [] w' ∧ τ 0 = (.pointer (some ⟨bk, 0, none⟩)) ∧ τ 3 = (vI 0)) (0) ?_ ?_
  · exact ⟨rfl, hm, rfl, rfl⟩
  · rintro kk2 τ wl1 ⟨hk3, hm, hs4, hs5⟩
    refine WP.seq ?_
    refine wp_sr (E := noPanic) noPanic_imp ?_
    refine rl_val rfl (v := (vI 0)) (val_move (v := (vI 0)) hs5) ?_
    refine rl_val rfl (v := (.pointer (some ⟨bk, 0, none⟩))) (val_move (v := (.pointer (some ⟨bk, 0, none⟩))) hs4) ?_
    refine rl_val rfl (v := (.pointer (some ⟨bk, 0, none⟩))) (val_nilCheck rfl) ?_
    refine rl_val rfl (v := (.pointer (some ⟨bk, 9, none⟩))) (val_fieldAddr (d := 9) rfl fo_37_9) ?_
    refine rl_val rfl (v := (.slice none 0 0)) (val_load1 (v := (.slice none 0 0)) (off := 9) rfl ag_35 (hm.getL hbk (by simp)) rfl) ?_
    refine rl_val rfl (v := (vI 0)) (val_lenSl (t := 35) rfl us_35 rfl) ?_
    refine rl_val rfl (v := (.bool false)) (val_lt (p := 0) (q := 0) rfl rfl) ?_
    refine rl_nil ?_
    refine WP.cond_f rfl ?_
    refine WP.exit ?_
    repeat (first | with_reducible refine exit_pass ?_ | with_reducible refine exit_other rfl ?_)
    refine blk_here ?_
    refine wp_sr (E := noPanic) noPanic_imp ?_
    refine rl_val rfl (v := (.bool true)) (val_assign (v := (.bool true)) rfl) ?_
    refine rl_nil ?_
    exact WP.ret (post_rets rfl (vs := [.bool true]) ⟨rfl, trivial⟩ rfl ⟨rfl, hm⟩)
theorem apart_ok (bk n cB cS : Nat) (aB aS : Option Addr) (pB pS : List HP) (rB rS : List (Nat × Obj)) (own0 : List Nat) (w : World) (ho : ((bk, row [vI (n : Int), .slice aB pB.length cB, .slice none 0 0, .slice none 0 0, .slice none 0 0, .slice aS pS.length cS, .slice none 0 0, .slice none 0 0, .slice none 0 0, .slice none 0 0] 37) :: (rB ++ (rowsC pB ++ (rS ++ rowsC pS)))).map (·.1) = own0) (hnd : (((bk, row [vI (n : Int), .slice aB pB.length cB, .slice none 0 0, .slice none 0 0, .slice none 0 0, .slice aS pS.length cS, .slice none 0 0, .slice none 0 0, .slice none 0 0, .slice none 0 0] 37) :: (rB ++ (rowsC pB ++ (rS ++ rowsC pS)))).map (·.1)).Nodup) (hl : ∀ p ∈ ((bk, row [vI (n : Int), .slice aB pB.length cB, .slice none 0 0, .slice none 0 0, .slice none 0 0, .slice aS pS.length cS, .slice none 0 0, .slice none 0 0, .slice none 0 0, .slice none 0 0] 37) :: (rB ++ (rowsC pB ++ (rS ++ rowsC pS)))), w.heap[p.1]? = some p.2)
    (hvB : VecIs (.slice aB pB.length cB) pB.length 3 213 (heldC pB) rB) (hvS : VecIs (.slice aS pS.length cS) pS.length 3 226 (heldC pS) rS) (hPB : ∀ p ∈ pB, HOk 1 5 p) (hPS : ∀ p ∈ pS, HOk 32 50 p) (hlenB : pB.length ≤ 1000) (hlenS : pS.length ≤ 1000) :
    Calls Tryz.prog 27 [.pointer (some ⟨bk, 0, none⟩)].toArray w (fun e w' => e = .returned (.bool true) ∧ Mem w own0 [] w') := by
  have hm := ho ▸ Mem.initL hnd hl
  replace hm : Mem w own0 ([(bk, row [vI (n : Int), .slice aB pB.length cB, .slice none 0 0, .slice none 0 0, .slice none 0 0, .slice aS pS.length cS, .slice none 0 0, .slice none 0 0, .slice none 0 0, .slice none 0 0] 37)] ++ (rB ++ ((rowsC pB) ++ (rS ++ ((rowsC pS) ++ []))))) w := by simpa only [List.append_assoc, List.nil_append, List.append_nil, List.cons_append] using hm
  refine calls_enter (n := 73) Tryz.func27 rfl rfl rfl ?_
  refine wp_sr (E := noPanic) noPanic_imp ?_
  refine rl_val rfl (v := (.bool false)) (val_assign (v := (.bool false)) rfl) ?_
  refine rl_nil ?_
  refine wp_sr (E := noPanic) noPanic_imp ?_
  refine rl_val rfl (v := (.pointer (some ⟨bk, 0, none⟩))) (val_move (v := (.pointer (some ⟨bk, 0, none⟩))) rfl) ?_
  have hm2 := hm.cast (l2 := ([(bk, row ([(vI (n : Int)), (.slice aB pB.length cB), (.slice none 0 0), (.slice none 0 0), (.slice none 0 0), (.slice aS pS.length cS), (.slice none 0 0), (.slice none 0 0), (.slice none 0 0), (.slice none 0 0)]) 37)] ++ (rB)) ++ ((rowsC pB) ++ ((rS ++ ((rowsC pS) ++ []))))) (by simp only [List.append_assoc, List.nil_append, List.append_nil, List.cons_append])
  have hap := hm2.apart
  refine rl_call rfl (ent_static (args := [(.pointer (some ⟨bk, 0, none⟩))]) Tryz.func108 rfl rfl rfl rfl) (fillB_ok bk n (.slice aB pB.length cB) (.slice none 0 0) (.slice none 0 0) (.slice none 0 0) (.slice aS pS.length cS) (.slice none 0 0) (.slice none 0 0) (.slice none 0 0) (.slice none 0 0) aB cB pB _ _ (hm.row (i := 0) rfl).l (hap (bk, row ([(vI (n : Int)), (.slice aB pB.length cB), (.slice none 0 0), (.slice none 0 0), (.slice none 0 0), (.slice aS pS.length cS), (.slice none 0 0), (.slice none 0 0), (.slice none 0 0), (.slice none 0 0)]) 37) (.inl (by simp))) rfl (hvB.slIs (fun p hp => ⟨hm.rows p (by simp [hp]), hap p (.inl (by simp [hp]))⟩)) hm2.see.1 hm2.see.2 hPB hlenB) ?_
  rintro _ w1 ⟨rfl, qB, hqhB, hqfB, hqlB, h2⟩
  refine callQ_ret ?_
  replace hm := hm2.callL h2
  replace hm : Mem w own0 ([(bk, row ([(vI (n : Int)), (.slice aB pB.length cB), (.slice none 0 0), (.slice none 0 0), (.slice none 0 0), (.slice aS pS.length cS), (.slice none 0 0), (.slice none 0 0), (.slice none 0 0), (.slice none 0 0)]) 37)] ++ (rB ++ ((rowsC qB) ++ (rS ++ ((rowsC pS) ++ []))))) w1 := by simpa only [List.append_assoc, List.nil_append, List.append_nil, List.cons_append] using hm
  refine rl_nil ?_
  refine wp_sr (E := noPanic) noPanic_imp ?_
  refine rl_val rfl (v := (.pointer (some ⟨bk, 0, none⟩))) (val_move (v := (.pointer (some ⟨bk, 0, none⟩))) rfl) ?_
  refine rl_call rfl (ent_static (args := [(.pointer (some ⟨bk, 0, none⟩))]) Tryz.func109 rfl rfl rfl rfl) (no109_ok bk n (.slice aB pB.length cB) (.slice none 0 0) (.slice none 0 0) (.slice aS pS.length cS) (.slice none 0 0) (.slice none 0 0) (.slice none 0 0) (.slice none 0 0) _ (hm.row (i := 0) rfl).l) ?_
  rintro _ w3 ⟨rfl, h4⟩
  refine callQ_ret ?_
  replace hm : Mem w own0 ([(bk, row ([(vI (n : Int)), (.slice aB pB.length cB), (.slice none 0 0), (.slice none 0 0), (.slice none 0 0), (.slice aS pS.length cS), (.slice none 0 0), (.slice none 0 0), (.slice none 0 0), (.slice none 0 0)]) 37)] ++ (rB ++ ((rowsC qB) ++ (rS ++ ((rowsC pS) ++ []))))) w3 := hm.call h4
  refine rl_nil ?_
  refine wp_sr (E := noPanic) noPanic_imp ?_
  refine rl_val rfl (v := (.pointer (some ⟨bk, 0, none⟩))) (val_move (v := (.pointer (some ⟨bk, 0, none⟩))) rfl) ?_
  refine rl_call rfl (ent_static (args := [(.pointer (some ⟨bk, 0, none⟩))]) Tryz.func110 rfl rfl rfl rfl) (no110_ok bk n (.slice aB pB.length cB) (.slice none 0 0) (.slice none 0 0) (.slice aS pS.length cS) (.slice none 0 0) (.slice none 0 0) (.slice none 0 0) (.slice none 0 0) _ (hm.row (i := 0) rfl).l) ?_
  rintro _ w5 ⟨rfl, h6⟩
  refine callQ_ret ?_
  replace hm : Mem w own0 ([(bk, row ([(vI (n : Int)), (.slice aB pB.length cB), (.slice none 0 0), (.slice none 0 0), (.slice none 0 0), (.slice aS pS.length cS), (.slice none 0 0), (.slice none 0 0), (.slice none 0 0), (.slice none 0 0)]) 37)] ++ (rB ++ ((rowsC qB) ++ (rS ++ ((rowsC pS) ++ []))))) w5 := hm.call h6
  refine rl_nil ?_
  refine wp_sr (E := noPanic) noPanic_imp ?_
  refine rl_val rfl (v := (.pointer (some ⟨bk, 0, none⟩))) (val_move (v := (.pointer (some ⟨bk, 0, none⟩))) rfl) ?_
  refine rl_call rfl (ent_static (args := [(.pointer (some ⟨bk, 0, none⟩))]) Tryz.func111 rfl rfl rfl rfl) (no111_ok bk n (.slice aB pB.length cB) (.slice none 0 0) (.slice none 0 0) (.slice aS pS.length cS) (.slice none 0 0) (.slice none 0 0) (.slice none 0 0) (.slice none 0 0) _ (hm.row (i := 0) rfl).l) ?_
  rintro _ w7 ⟨rfl, h8⟩
  refine callQ_ret ?_
  replace hm : Mem w own0 ([(bk, row ([(vI (n : Int)), (.slice aB pB.length cB), (.slice none 0 0), (.slice none 0 0), (.slice none 0 0), (.slice aS pS.length cS), (.slice none 0 0), (.slice none 0 0), (.slice none 0 0), (.slice none 0 0)]) 37)] ++ (rB ++ ((rowsC qB) ++ (rS ++ ((rowsC pS) ++ []))))) w7 := hm.call h8
  refine rl_nil ?_
  refine wp_sr (E := noPanic) noPanic_imp ?_
  refine rl_val rfl (v := (.pointer (some ⟨bk, 0, none⟩))) (val_move (v := (.pointer (some ⟨bk, 0, none⟩))) rfl) ?_
  have hm2 := hm.cast (l2 := ([(bk, row ([(vI (n : Int)), (.slice aB pB.length cB), (.slice none 0 0), (.slice none 0 0), (.slice none 0 0), (.slice aS pS.length cS), (.slice none 0 0), (.slice none 0 0), (.slice none 0 0), (.slice none 0 0)]) 37)] ++ (rB ++ (rowsC qB) ++ rS)) ++ ((rowsC pS) ++ ([]))) (by simp only [List.append_assoc, List.nil_append, List.append_nil, List.cons_append])
  have hap := hm2.apart
  refine rl_call rfl (ent_static (args := [(.pointer (some ⟨bk, 0, none⟩))]) Tryz.func112 rfl rfl rfl rfl) (fillS_ok bk n (.slice aB pB.length cB) (.slice none 0 0) (.slice none 0 0) (.slice none 0 0) (.slice aS pS.length cS) (.slice none 0 0) (.slice none 0 0) (.slice none 0 0) (.slice none 0 0) aS cS pS _ _ (hm.row (i := 0) rfl).l (hap (bk, row ([(vI (n : Int)), (.slice aB pB.length cB), (.slice none 0 0), (.slice none 0 0), (.slice none 0 0), (.slice aS pS.length cS), (.slice none 0 0), (.slice none 0 0), (.slice none 0 0), (.slice none 0 0)]) 37) (.inl (by simp))) rfl (hvS.slIs (fun p hp => ⟨hm.rows p (by simp [hp]), hap p (.inl (by simp [hp]))⟩)) hm2.see.1 hm2.see.2 hPS hlenS) ?_
  rintro _ w9 ⟨rfl, qS, hqhS, hqfS, hqlS, h10⟩
  refine callQ_ret ?_
  replace hm := hm2.callL h10
  replace hm : Mem w own0 ([(bk, row ([(vI (n : Int)), (.slice aB pB.length cB), (.slice none 0 0), (.slice none 0 0), (.slice none 0 0), (.slice aS pS.length cS), (.slice none 0 0), (.slice none 0 0), (.slice none 0 0), (.slice none 0 0)]) 37)] ++ (rB ++ ((rowsC qB) ++ (rS ++ ((rowsC qS) ++ []))))) w9 := by simpa only [List.append_assoc, List.nil_append, List.append_nil, List.cons_append] using hm
  refine rl_nil ?_
  refine wp_sr (E := noPanic) noPanic_imp ?_
  refine rl_val rfl (v := (.pointer (some ⟨bk, 0, none⟩))) (val_move (v := (.pointer (some ⟨bk, 0, none⟩))) rfl) ?_
  refine rl_call rfl (ent_static (args := [(.pointer (some ⟨bk, 0, none⟩))]) Tryz.func113 rfl rfl rfl rfl) (no113_ok bk n (.slice aB pB.length cB) (.slice none 0 0) (.slice none 0 0) (.slice none 0 0) (.slice aS pS.length cS) (.slice none 0 0) (.slice none 0 0) (.slice none 0 0) _ (hm.row (i := 0) rfl).l) ?_
  rintro _ w11 ⟨rfl, h12⟩
  refine callQ_ret ?_
  replace hm : Mem w own0 ([(bk, row ([(vI (n : Int)), (.slice aB pB.length cB), (.slice none 0 0), (.slice none 0 0), (.slice none 0 0), (.slice aS pS.length cS), (.slice none 0 0), (.slice none 0 0), (.slice none 0 0), (.slice none 0 0)]) 37)] ++ (rB ++ ((rowsC qB) ++ (rS ++ ((rowsC qS) ++ []))))) w11 := hm.call h12
  refine rl_nil ?_
  refine wp_sr (E := noPanic) noPanic_imp ?_
  refine rl_val rfl (v := (.pointer (some ⟨bk, 0, none⟩))) (val_move (v := (.pointer (some ⟨bk, 0, none⟩))) rfl) ?_
  refine rl_call rfl (ent_static (args := [(.pointer (some ⟨bk, 0, none⟩))]) Tryz.func114 rfl rfl rfl rfl) (no114_ok bk n (.slice aB pB.length cB) (.slice none 0 0) (.slice none 0 0) (.slice none 0 0) (.slice aS pS.length cS) (.slice none 0 0) (.slice none 0 0) (.slice none 0 0) _ (hm.row (i := 0) rfl).l) ?_
  rintro _ w13 ⟨rfl, h14⟩
  refine callQ_ret ?_
  replace hm : Mem w own0 ([(bk, row ([(vI (n : Int)), (.slice aB pB.length cB), (.slice none 0 0), (.slice none 0 0), (.slice none 0 0), (.slice aS pS.length cS), (.slice none 0 0), (.slice none 0 0), (.slice none 0 0), (.slice none 0 0)]) 37)] ++ (rB ++ ((rowsC qB) ++ (rS ++ ((rowsC qS) ++ []))))) w13 := hm.call h14
  refine rl_nil ?_
  refine wp_sr (E := noPanic) noPanic_imp ?_
  refine rl_val rfl (v := (.pointer (some ⟨bk, 0, none⟩))) (val_move (v := (.pointer (some ⟨bk, 0, none⟩))) rfl) ?_
  refine rl_call rfl (ent_static (args := [(.pointer (some ⟨bk, 0, none⟩))]) Tryz.func115 rfl rfl rfl rfl) (no115_ok bk n (.slice aB pB.length cB) (.slice none 0 0) (.slice none 0 0) (.slice none 0 0) (.slice aS pS.length cS) (.slice none 0 0) (.slice none 0 0) (.slice none 0 0) _ (hm.row (i := 0) rfl).l) ?_
  rintro _ w15 ⟨rfl, h16⟩
  refine callQ_ret ?_
  replace hm : Mem w own0 ([(bk, row ([(vI (n : Int)), (.slice aB pB.length cB), (.slice none 0 0), (.slice none 0 0), (.slice none 0 0), (.slice aS pS.length cS), (.slice none 0 0), (.slice none 0 0), (.slice none 0 0), (.slice none 0 0)]) 37)] ++ (rB ++ ((rowsC qB) ++ (rS ++ ((rowsC qS) ++ []))))) w15 := hm.call h16
  refine rl_nil ?_
  refine wp_sr (E := noPanic) noPanic_imp ?_
  refine rl_val rfl (v := (.pointer (some ⟨bk, 0, none⟩))) (val_move (v := (.pointer (some ⟨bk, 0, none⟩))) rfl) ?_
  refine rl_call rfl (ent_static (args := [(.pointer (some ⟨bk, 0, none⟩))]) Tryz.func116 rfl rfl rfl rfl) (no116_ok bk n (.slice aB pB.length cB) (.slice none 0 0) (.slice none 0 0) (.slice none 0 0) (.slice aS pS.length cS) (.slice none 0 0) (.slice none 0 0) (.slice none 0 0) _ (hm.row (i := 0) rfl).l) ?_
  rintro _ w17 ⟨rfl, h18⟩
  refine callQ_ret ?_
  replace hm : Mem w own0 ([(bk, row ([(vI (n : Int)), (.slice aB pB.length cB), (.slice none 0 0), (.slice none 0 0), (.slice none 0 0), (.slice aS pS.length cS), (.slice none 0 0), (.slice none 0 0), (.slice none 0 0), (.slice none 0 0)]) 37)] ++ (rB ++ ((rowsC qB) ++ (rS ++ ((rowsC qS) ++ []))))) w17 := hm.call h18
  refine rl_nil ?_
  refine wp_sr (E := noPanic) noPanic_imp ?_
  refine rl_val rfl (v := (.pointer (some ⟨bk, 0, none⟩))) (val_move (v := (.pointer (some ⟨bk, 0, none⟩))) rfl) ?_
  have hm2 := hm.cast (l2 := ([(bk, row ([(vI (n : Int)), (.slice aB pB.length cB), (.slice none 0 0), (.slice none 0 0), (.slice none 0 0), (.slice aS pS.length cS), (.slice none 0 0), (.slice none 0 0), (.slice none 0 0), (.slice none 0 0)]) 37)] ++ ([])) ++ ((rB ++ (rowsC qB)) ++ ((rS ++ ((rowsC qS) ++ []))))) (by simp only [List.append_assoc, List.nil_append, List.append_nil, List.cons_append])
  have hap := hm2.apart
  have hvgB : VecIs (.slice aB qB.length cB) qB.length 3 213 (heldC qB) rB := by rw [hqlB, hqhB]; exact hvB
  refine rl_call rfl (ent_static (args := [(.pointer (some ⟨bk, 0, none⟩))]) Tryz.func117 rfl rfl rfl rfl) (growB_ok bk n (.slice aB qB.length cB) (.slice none 0 0) (.slice none 0 0) (.slice none 0 0) (.slice aS pS.length cS) (.slice none 0 0) (.slice none 0 0) (.slice none 0 0) (.slice none 0 0) aB cB qB _ _ rB (by rw [hqlB]; exact (hm.row (i := 0) rfl).l) (hap (bk, row ([(vI (n : Int)), (.slice aB pB.length cB), (.slice none 0 0), (.slice none 0 0), (.slice none 0 0), (.slice aS pS.length cS), (.slice none 0 0), (.slice none 0 0), (.slice none 0 0), (.slice none 0 0)]) 37) (.inl (by simp))) rfl hvgB hm2.see.1 hm2.see.2 hqfB (by rw [hqlB]; exact hlenB)) ?_
  rintro _ w19 ⟨rfl, gB, rrB, hvlB, hglB, hggB, h20⟩
  refine callQ_ret ?_
  replace hm := hm2.callL h20
  replace hm : Mem w own0 ([(bk, row ([(vI (n : Int)), (.slice aB pB.length cB), (.slice none 0 0), (.slice none 0 0), (.slice none 0 0), (.slice aS pS.length cS), (.slice none 0 0), (.slice none 0 0), (.slice none 0 0), (.slice none 0 0)]) 37)] ++ (rrB ++ ((rowsC gB) ++ (rS ++ ((rowsC qS) ++ []))))) w19 := by simpa only [List.append_assoc, List.nil_append, List.append_nil, List.cons_append] using hm
  refine rl_nil ?_
  refine wp_sr (E := noPanic) noPanic_imp ?_
  refine rl_val rfl (v := (.pointer (some ⟨bk, 0, none⟩))) (val_move (v := (.pointer (some ⟨bk, 0, none⟩))) rfl) ?_
  refine rl_call rfl (ent_static (args := [(.pointer (some ⟨bk, 0, none⟩))]) Tryz.func118 rfl rfl rfl rfl) (no118_ok bk n (.slice aB pB.length cB) (.slice none 0 0) (.slice none 0 0) (.slice aS pS.length cS) (.slice none 0 0) (.slice none 0 0) (.slice none 0 0) (.slice none 0 0) _ (hm.row (i := 0) rfl).l) ?_
  rintro _ w21 ⟨rfl, h22⟩
  refine callQ_ret ?_
  replace hm : Mem w own0 ([(bk, row ([(vI (n : Int)), (.slice aB pB.length cB), (.slice none 0 0), (.slice none 0 0), (.slice none 0 0), (.slice aS pS.length cS), (.slice none 0 0), (.slice none 0 0), (.slice none 0 0), (.slice none 0 0)]) 37)] ++ (rrB ++ ((rowsC gB) ++ (rS ++ ((rowsC qS) ++ []))))) w21 := hm.call h22
  refine rl_nil ?_
  refine wp_sr (E := noPanic) noPanic_imp ?_
  refine rl_val rfl (v := (.pointer (some ⟨bk, 0, none⟩))) (val_move (v := (.pointer (some ⟨bk, 0, none⟩))) rfl) ?_
  refine rl_call rfl (ent_static (args := [(.pointer (some ⟨bk, 0, none⟩))]) Tryz.func119 rfl rfl rfl rfl) (no119_ok bk n (.slice aB pB.length cB) (.slice none 0 0) (.slice none 0 0) (.slice aS pS.length cS) (.slice none 0 0) (.slice none 0 0) (.slice none 0 0) (.slice none 0 0) _ (hm.row (i := 0) rfl).l) ?_
  rintro _ w23 ⟨rfl, h24⟩
  refine callQ_ret ?_
  replace hm : Mem w own0 ([(bk, row ([(vI (n : Int)), (.slice aB pB.length cB), (.slice none 0 0), (.slice none 0 0), (.slice none 0 0), (.slice aS pS.length cS), (.slice none 0 0), (.slice none 0 0), (.slice none 0 0), (.slice none 0 0)]) 37)] ++ (rrB ++ ((rowsC gB) ++ (rS ++ ((rowsC qS) ++ []))))) w23 := hm.call h24
  refine rl_nil ?_
  refine wp_sr (E := noPanic) noPanic_imp ?_
  refine rl_val rfl (v := (.pointer (some ⟨bk, 0, none⟩))) (val_move (v := (.pointer (some ⟨bk, 0, none⟩))) rfl) ?_
  refine rl_call rfl (ent_static (args := [(.pointer (some ⟨bk, 0, none⟩))]) Tryz.func120 rfl rfl rfl rfl) (no120_ok bk n (.slice aB pB.length cB) (.slice none 0 0) (.slice none 0 0) (.slice aS pS.length cS) (.slice none 0 0) (.slice none 0 0) (.slice none 0 0) (.slice none 0 0) _ (hm.row (i := 0) rfl).l) ?_
  rintro _ w25 ⟨rfl, h26⟩
  refine callQ_ret ?_
  replace hm : Mem w own0 ([(bk, row ([(vI (n : Int)), (.slice aB pB.length cB), (.slice none 0 0), (.slice none 0 0), (.slice none 0 0), (.slice aS pS.length cS), (.slice none 0 0), (.slice none 0 0), (.slice none 0 0), (.slice none 0 0)]) 37)] ++ (rrB ++ ((rowsC gB) ++ (rS ++ ((rowsC qS) ++ []))))) w25 := hm.call h26
  refine rl_nil ?_
  refine wp_sr (E := noPanic) noPanic_imp ?_
  refine rl_val rfl (v := (.pointer (some ⟨bk, 0, none⟩))) (val_move (v := (.pointer (some ⟨bk, 0, none⟩))) rfl) ?_
  have hm2 := hm.cast (l2 := ([(bk, row ([(vI (n : Int)), (.slice aB pB.length cB), (.slice none 0 0), (.slice none 0 0), (.slice none 0 0), (.slice aS pS.length cS), (.slice none 0 0), (.slice none 0 0), (.slice none 0 0), (.slice none 0 0)]) 37)] ++ (rrB ++ (rowsC gB))) ++ ((rS ++ (rowsC qS)) ++ ([]))) (by simp only [List.append_assoc, List.nil_append, List.append_nil, List.cons_append])
  have hap := hm2.apart
  have hvgS : VecIs (.slice aS qS.length cS) qS.length 3 226 (heldC qS) rS := by rw [hqlS, hqhS]; exact hvS
  refine rl_call rfl (ent_static (args := [(.pointer (some ⟨bk, 0, none⟩))]) Tryz.func121 rfl rfl rfl rfl) (growS_ok bk n (.slice aB pB.length cB) (.slice none 0 0) (.slice none 0 0) (.slice none 0 0) (.slice aS qS.length cS) (.slice none 0 0) (.slice none 0 0) (.slice none 0 0) (.slice none 0 0) aS cS qS _ _ rS (by rw [hqlS]; exact (hm.row (i := 0) rfl).l) (hap (bk, row ([(vI (n : Int)), (.slice aB pB.length cB), (.slice none 0 0), (.slice none 0 0), (.slice none 0 0), (.slice aS pS.length cS), (.slice none 0 0), (.slice none 0 0), (.slice none 0 0), (.slice none 0 0)]) 37) (.inl (by simp))) rfl hvgS hm2.see.1 hm2.see.2 hqfS (by rw [hqlS]; exact hlenS)) ?_
  rintro _ w27 ⟨rfl, gS, rrS, hvlS, hglS, hggS, h28⟩
  refine callQ_ret ?_
  replace hm := hm2.callL h28
  replace hm : Mem w own0 ([(bk, row ([(vI (n : Int)), (.slice aB pB.length cB), (.slice none 0 0), (.slice none 0 0), (.slice none 0 0), (.slice aS pS.length cS), (.slice none 0 0), (.slice none 0 0), (.slice none 0 0), (.slice none 0 0)]) 37)] ++ (rrB ++ ((rowsC gB) ++ (rrS ++ ((rowsC gS) ++ []))))) w27 := by simpa only [List.append_assoc, List.nil_append, List.append_nil, List.cons_append] using hm
  refine rl_nil ?_
  refine wp_sr (E := noPanic) noPanic_imp ?_
  refine rl_val rfl (v := (.pointer (some ⟨bk, 0, none⟩))) (val_move (v := (.pointer (some ⟨bk, 0, none⟩))) rfl) ?_
  refine rl_call rfl (ent_static (args := [(.pointer (some ⟨bk, 0, none⟩))]) Tryz.func122 rfl rfl rfl rfl) (no122_ok bk n (.slice aB pB.length cB) (.slice none 0 0) (.slice none 0 0) (.slice none 0 0) (.slice aS pS.length cS) (.slice none 0 0) (.slice none 0 0) (.slice none 0 0) _ (hm.row (i := 0) rfl).l) ?_
  rintro _ w29 ⟨rfl, h30⟩
  refine callQ_ret ?_
  replace hm : Mem w own0 ([(bk, row ([(vI (n : Int)), (.slice aB pB.length cB), (.slice none 0 0), (.slice none 0 0), (.slice none 0 0), (.slice aS pS.length cS), (.slice none 0 0), (.slice none 0 0), (.slice none 0 0), (.slice none 0 0)]) 37)] ++ (rrB ++ ((rowsC gB) ++ (rrS ++ ((rowsC gS) ++ []))))) w29 := hm.call h30
  refine rl_nil ?_
  refine wp_sr (E := noPanic) noPanic_imp ?_
  refine rl_val rfl (v := (.pointer (some ⟨bk, 0, none⟩))) (val_move (v := (.pointer (some ⟨bk, 0, none⟩))) rfl) ?_
  refine rl_call rfl (ent_static (args := [(.pointer (some ⟨bk, 0, none⟩))]) Tryz.func123 rfl rfl rfl rfl) (no123_ok bk n (.slice aB pB.length cB) (.slice none 0 0) (.slice none 0 0) (.slice none 0 0) (.slice aS pS.length cS) (.slice none 0 0) (.slice none 0 0) (.slice none 0 0) _ (hm.row (i := 0) rfl).l) ?_
  rintro _ w31 ⟨rfl, h32⟩
  refine callQ_ret ?_
  replace hm : Mem w own0 ([(bk, row ([(vI (n : Int)), (.slice aB pB.length cB), (.slice none 0 0), (.slice none 0 0), (.slice none 0 0), (.slice aS pS.length cS), (.slice none 0 0), (.slice none 0 0), (.slice none 0 0), (.slice none 0 0)]) 37)] ++ (rrB ++ ((rowsC gB) ++ (rrS ++ ((rowsC gS) ++ []))))) w31 := hm.call h32
  refine rl_nil ?_
  refine wp_sr (E := noPanic) noPanic_imp ?_
  refine rl_val rfl (v := (.pointer (some ⟨bk, 0, none⟩))) (val_move (v := (.pointer (some ⟨bk, 0, none⟩))) rfl) ?_
  refine rl_call rfl (ent_static (args := [(.pointer (some ⟨bk, 0, none⟩))]) Tryz.func124 rfl rfl rfl rfl) (no124_ok bk n (.slice aB pB.length cB) (.slice none 0 0) (.slice none 0 0) (.slice none 0 0) (.slice aS pS.length cS) (.slice none 0 0) (.slice none 0 0) (.slice none 0 0) _ (hm.row (i := 0) rfl).l) ?_
  rintro _ w33 ⟨rfl, h34⟩
  refine callQ_ret ?_
  replace hm : Mem w own0 ([(bk, row ([(vI (n : Int)), (.slice aB pB.length cB), (.slice none 0 0), (.slice none 0 0), (.slice none 0 0), (.slice aS pS.length cS), (.slice none 0 0), (.slice none 0 0), (.slice none 0 0), (.slice none 0 0)]) 37)] ++ (rrB ++ ((rowsC gB) ++ (rrS ++ ((rowsC gS) ++ []))))) w33 := hm.call h34
  refine rl_nil ?_
  refine wp_sr (E := noPanic) noPanic_imp ?_
  refine rl_val rfl (v := (.pointer (some ⟨bk, 0, none⟩))) (val_move (v := (.pointer (some ⟨bk, 0, none⟩))) rfl) ?_
  refine rl_call rfl (ent_static (args := [(.pointer (some ⟨bk, 0, none⟩))]) Tryz.func125 rfl rfl rfl rfl) (no125_ok bk n (.slice aB pB.length cB) (.slice none 0 0) (.slice none 0 0) (.slice none 0 0) (.slice aS pS.length cS) (.slice none 0 0) (.slice none 0 0) (.slice none 0 0) _ (hm.row (i := 0) rfl).l) ?_
  rintro _ w35 ⟨rfl, h36⟩
  refine callQ_ret ?_
  replace hm : Mem w own0 ([(bk, row ([(vI (n : Int)), (.slice aB pB.length cB), (.slice none 0 0), (.slice none 0 0), (.slice none 0 0), (.slice aS pS.length cS), (.slice none 0 0), (.slice none 0 0), (.slice none 0 0), (.slice none 0 0)]) 37)] ++ (rrB ++ ((rowsC gB) ++ (rrS ++ ((rowsC gS) ++ []))))) w35 := hm.call h36
  refine rl_nil ?_
  refine wp_sr (E := noPanic) noPanic_imp ?_
  refine rl_val rfl (v := (.pointer (some ⟨bk, 0, none⟩))) (val_move (v := (.pointer (some ⟨bk, 0, none⟩))) rfl) ?_
  have hslB : SlIs w35 [] (.slice aB gB.length cB) 3 gB.length (heldC gB) := by rw [hglB]; exact hvlB.sl hm (by intro p hp; exact ⟨by simp [hp], by simp⟩)
  refine rl_call rfl (ent_static (args := [(.pointer (some ⟨bk, 0, none⟩))]) Tryz.func126 rfl rfl rfl rfl) (lookB_ok bk n (.slice aB gB.length cB) (.slice none 0 0) (.slice none 0 0) (.slice none 0 0) (.slice aS pS.length cS) (.slice none 0 0) (.slice none 0 0) (.slice none 0 0) (.slice none 0 0) aB cB gB _ (by rw [hglB.trans hqlB]; exact (hm.row (i := 0) rfl).l) hslB (look_reads hggB (by simp [mkB]) hm (by intro x hx; simp [hx])) (by rw [hglB.trans hqlB]; exact hlenB)) ?_
  rintro _ w37 ⟨rfl, h38⟩
  refine callQ_ret ?_
  replace hm : Mem w own0 ([(bk, row ([(vI (n : Int)), (.slice aB pB.length cB), (.slice none 0 0), (.slice none 0 0), (.slice none 0 0), (.slice aS pS.length cS), (.slice none 0 0), (.slice none 0 0), (.slice none 0 0), (.slice none 0 0)]) 37)] ++ (rrB ++ ((rowsC gB) ++ (rrS ++ ((rowsC gS) ++ []))))) w37 := hm.call h38
  refine rl_val rfl (v := (.bool true)) (val_move (v := (.bool true)) rfl) ?_
  refine rl_valg ⟨41, true, rfl, .inl ⟨rfl, rfl⟩⟩ rfl (v := (.pointer (some ⟨bk, 0, none⟩))) (val_move (v := (.pointer (some ⟨bk, 0, none⟩))) rfl) ?_
  refine rl_callg ⟨41, true, rfl, .inl ⟨rfl, rfl⟩⟩ rfl (ent_static (args := [(.pointer (some ⟨bk, 0, none⟩))]) Tryz.func127 rfl rfl rfl rfl) (no127_ok bk n (.slice aB pB.length cB) (.slice none 0 0) (.slice none 0 0) (.slice aS pS.length cS) (.slice none 0 0) (.slice none 0 0) (.slice none 0 0) (.slice none 0 0) _ (hm.row (i := 0) rfl).l) ?_
  rintro _ w39 ⟨rfl, h40⟩
  refine callQ_ret ?_
  replace hm : Mem w own0 ([(bk, row ([(vI (n : Int)), (.slice aB pB.length cB), (.slice none 0 0), (.slice none 0 0), (.slice none 0 0), (.slice aS pS.length cS), (.slice none 0 0), (.slice none 0 0), (.slice none 0 0), (.slice none 0 0)]) 37)] ++ (rrB ++ ((rowsC gB) ++ (rrS ++ ((rowsC gS) ++ []))))) w39 := hm.call h40
  refine rl_val rfl (v := (.bool true)) (val_pick_t (v := (.bool true)) rfl rfl) ?_
  refine rl_val rfl (v := (.bool true)) (val_move (v := (.bool true)) rfl) ?_
  refine rl_valg ⟨45, true, rfl, .inl ⟨rfl, rfl⟩⟩ rfl (v := (.pointer (some ⟨bk, 0, none⟩))) (val_move (v := (.pointer (some ⟨bk, 0, none⟩))) rfl) ?_
  refine rl_callg ⟨45, true, rfl, .inl ⟨rfl, rfl⟩⟩ rfl (ent_static (args := [(.pointer (some ⟨bk, 0, none⟩))]) Tryz.func128 rfl rfl rfl rfl) (no128_ok bk n (.slice aB pB.length cB) (.slice none 0 0) (.slice none 0 0) (.slice aS pS.length cS) (.slice none 0 0) (.slice none 0 0) (.slice none 0 0) (.slice none 0 0) _ (hm.row (i := 0) rfl).l) ?_
  rintro _ w41 ⟨rfl, h42⟩
  refine callQ_ret ?_
  replace hm : Mem w own0 ([(bk, row ([(vI (n : Int)), (.slice aB pB.length cB), (.slice none 0 0), (.slice none 0 0), (.slice none 0 0), (.slice aS pS.length cS), (.slice none 0 0), (.slice none 0 0), (.slice none 0 0), (.slice none 0 0)]) 37)] ++ (rrB ++ ((rowsC gB) ++ (rrS ++ ((rowsC gS) ++ []))))) w41 := hm.call h42
  refine rl_val rfl (v := (.bool true)) (val_pick_t (v := (.bool true)) rfl rfl) ?_
  refine rl_val rfl (v := (.bool true)) (val_move (v := (.bool true)) rfl) ?_
  refine rl_valg ⟨49, true, rfl, .inl ⟨rfl, rfl⟩⟩ rfl (v := (.pointer (some ⟨bk, 0, none⟩))) (val_move (v := (.pointer (some ⟨bk, 0, none⟩))) rfl) ?_
  refine rl_callg ⟨49, true, rfl, .inl ⟨rfl, rfl⟩⟩ rfl (ent_static (args := [(.pointer (some ⟨bk, 0, none⟩))]) Tryz.func129 rfl rfl rfl rfl) (no129_ok bk n (.slice aB pB.length cB) (.slice none 0 0) (.slice none 0 0) (.slice aS pS.length cS) (.slice none 0 0) (.slice none 0 0) (.slice none 0 0) (.slice none 0 0) _ (hm.row (i := 0) rfl).l) ?_
  rintro _ w43 ⟨rfl, h44⟩
  refine callQ_ret ?_
  replace hm : Mem w own0 ([(bk, row ([(vI (n : Int)), (.slice aB pB.length cB), (.slice none 0 0), (.slice none 0 0), (.slice none 0 0), (.slice aS pS.length cS), (.slice none 0 0), (.slice none 0 0), (.slice none 0 0), (.slice none 0 0)]) 37)] ++ (rrB ++ ((rowsC gB) ++ (rrS ++ ((rowsC gS) ++ []))))) w43 := hm.call h44
  refine rl_val rfl (v := (.bool true)) (val_pick_t (v := (.bool true)) rfl rfl) ?_
  refine rl_val rfl (v := (.bool true)) (val_move (v := (.bool true)) rfl) ?_
  refine rl_valg ⟨53, true, rfl, .inl ⟨rfl, rfl⟩⟩ rfl (v := (.pointer (some ⟨bk, 0, none⟩))) (val_move (v := (.pointer (some ⟨bk, 0, none⟩))) rfl) ?_
  have hslS : SlIs w43 [] (.slice aS gS.length cS) 3 gS.length (heldC gS) := by rw [hglS]; exact hvlS.sl hm (by intro p hp; exact ⟨by simp [hp], by simp⟩)
  refine rl_callg ⟨53, true, rfl, .inl ⟨rfl, rfl⟩⟩ rfl (ent_static (args := [(.pointer (some ⟨bk, 0, none⟩))]) Tryz.func130 rfl rfl rfl rfl) (lookS_ok bk n (.slice aB pB.length cB) (.slice none 0 0) (.slice none 0 0) (.slice none 0 0) (.slice aS gS.length cS) (.slice none 0 0) (.slice none 0 0) (.slice none 0 0) (.slice none 0 0) aS cS gS _ (by rw [hglS.trans hqlS]; exact (hm.row (i := 0) rfl).l) hslS (look_reads hggS (by simp [mkS]) hm (by intro x hx; simp [hx])) (by rw [hglS.trans hqlS]; exact hlenS)) ?_
  rintro _ w45 ⟨rfl, h46⟩
  refine callQ_ret ?_
  replace hm : Mem w own0 ([(bk, row ([(vI (n : Int)), (.slice aB pB.length cB), (.slice none 0 0), (.slice none 0 0), (.slice none 0 0), (.slice aS pS.length cS), (.slice none 0 0), (.slice none 0 0), (.slice none 0 0), (.slice none 0 0)]) 37)] ++ (rrB ++ ((rowsC gB) ++ (rrS ++ ((rowsC gS) ++ []))))) w45 := hm.call h46
  refine rl_val rfl (v := (.bool true)) (val_pick_t (v := (.bool true)) rfl rfl) ?_
  refine rl_val rfl (v := (.bool true)) (val_move (v := (.bool true)) rfl) ?_
  refine rl_valg ⟨57, true, rfl, .inl ⟨rfl, rfl⟩⟩ rfl (v := (.pointer (some ⟨bk, 0, none⟩))) (val_move (v := (.pointer (some ⟨bk, 0, none⟩))) rfl) ?_
  refine rl_callg ⟨57, true, rfl, .inl ⟨rfl, rfl⟩⟩ rfl (ent_static (args := [(.pointer (some ⟨bk, 0, none⟩))]) Tryz.func131 rfl rfl rfl rfl) (no131_ok bk n (.slice aB pB.length cB) (.slice none 0 0) (.slice none 0 0) (.slice none 0 0) (.slice aS pS.length cS) (.slice none 0 0) (.slice none 0 0) (.slice none 0 0) _ (hm.row (i := 0) rfl).l) ?_
  rintro _ w47 ⟨rfl, h48⟩
  refine callQ_ret ?_
  replace hm : Mem w own0 ([(bk, row ([(vI (n : Int)), (.slice aB pB.length cB), (.slice none 0 0), (.slice none 0 0), (.slice none 0 0), (.slice aS pS.length cS), (.slice none 0 0), (.slice none 0 0), (.slice none 0 0), (.slice none 0 0)]) 37)] ++ (rrB ++ ((rowsC gB) ++ (rrS ++ ((rowsC gS) ++ []))))) w47 := hm.call h48
  refine rl_val rfl (v := (.bool true)) (val_pick_t (v := (.bool true)) rfl rfl) ?_
  refine rl_val rfl (v := (.bool true)) (val_move (v := (.bool true)) rfl) ?_
  refine rl_valg ⟨61, true, rfl, .inl ⟨rfl, rfl⟩⟩ rfl (v := (.pointer (some ⟨bk, 0, none⟩))) (val_move (v := (.pointer (some ⟨bk, 0, none⟩))) rfl) ?_
  refine rl_callg ⟨61, true, rfl, .inl ⟨rfl, rfl⟩⟩ rfl (ent_static (args := [(.pointer (some ⟨bk, 0, none⟩))]) Tryz.func132 rfl rfl rfl rfl) (no132_ok bk n (.slice aB pB.length cB) (.slice none 0 0) (.slice none 0 0) (.slice none 0 0) (.slice aS pS.length cS) (.slice none 0 0) (.slice none 0 0) (.slice none 0 0) _ (hm.row (i := 0) rfl).l) ?_
  rintro _ w49 ⟨rfl, h50⟩
  refine callQ_ret ?_
  replace hm : Mem w own0 ([(bk, row ([(vI (n : Int)), (.slice aB pB.length cB), (.slice none 0 0), (.slice none 0 0), (.slice none 0 0), (.slice aS pS.length cS), (.slice none 0 0), (.slice none 0 0), (.slice none 0 0), (.slice none 0 0)]) 37)] ++ (rrB ++ ((rowsC gB) ++ (rrS ++ ((rowsC gS) ++ []))))) w49 := hm.call h50
  refine rl_val rfl (v := (.bool true)) (val_pick_t (v := (.bool true)) rfl rfl) ?_
  refine rl_val rfl (v := (.bool true)) (val_move (v := (.bool true)) rfl) ?_
  refine rl_valg ⟨65, true, rfl, .inl ⟨rfl, rfl⟩⟩ rfl (v := (.pointer (some ⟨bk, 0, none⟩))) (val_move (v := (.pointer (some ⟨bk, 0, none⟩))) rfl) ?_
  refine rl_callg ⟨65, true, rfl, .inl ⟨rfl, rfl⟩⟩ rfl (ent_static (args := [(.pointer (some ⟨bk, 0, none⟩))]) Tryz.func133 rfl rfl rfl rfl) (no133_ok bk n (.slice aB pB.length cB) (.slice none 0 0) (.slice none 0 0) (.slice none 0 0) (.slice aS pS.length cS) (.slice none 0 0) (.slice none 0 0) (.slice none 0 0) _ (hm.row (i := 0) rfl).l) ?_
  rintro _ w51 ⟨rfl, h52⟩
  refine callQ_ret ?_
  replace hm : Mem w own0 ([(bk, row ([(vI (n : Int)), (.slice aB pB.length cB), (.slice none 0 0), (.slice none 0 0), (.slice none 0 0), (.slice aS pS.length cS), (.slice none 0 0), (.slice none 0 0), (.slice none 0 0), (.slice none 0 0)]) 37)] ++ (rrB ++ ((rowsC gB) ++ (rrS ++ ((rowsC gS) ++ []))))) w51 := hm.call h52
  refine rl_val rfl (v := (.bool true)) (val_pick_t (v := (.bool true)) rfl rfl) ?_
  refine rl_val rfl (v := (.bool true)) (val_move (v := (.bool true)) rfl) ?_
  refine rl_valg ⟨69, true, rfl, .inl ⟨rfl, rfl⟩⟩ rfl (v := (.pointer (some ⟨bk, 0, none⟩))) (val_move (v := (.pointer (some ⟨bk, 0, none⟩))) rfl) ?_
  refine rl_callg ⟨69, true, rfl, .inl ⟨rfl, rfl⟩⟩ rfl (ent_static (args := [(.pointer (some ⟨bk, 0, none⟩))]) Tryz.func134 rfl rfl rfl rfl) (no134_ok bk n (.slice aB pB.length cB) (.slice none 0 0) (.slice none 0 0) (.slice none 0 0) (.slice aS pS.length cS) (.slice none 0 0) (.slice none 0 0) (.slice none 0 0) _ (hm.row (i := 0) rfl).l) ?_
  rintro _ w53 ⟨rfl, h54⟩
  refine callQ_ret ?_
  replace hm : Mem w own0 ([(bk, row ([(vI (n : Int)), (.slice aB pB.length cB), (.slice none 0 0), (.slice none 0 0), (.slice none 0 0), (.slice aS pS.length cS), (.slice none 0 0), (.slice none 0 0), (.slice none 0 0), (.slice none 0 0)]) 37)] ++ (rrB ++ ((rowsC gB) ++ (rrS ++ ((rowsC gS) ++ []))))) w53 := hm.call h54
  refine rl_val rfl (v := (.bool true)) (val_pick_t (v := (.bool true)) rfl rfl) ?_
  refine rl_val rfl (v := (.bool true)) (val_assign (v := (.bool true)) rfl) ?_
  refine rl_nil ?_
  exact WP.ret (post_rets rfl (vs := [.bool true]) ⟨rfl, trivial⟩ rfl ⟨rfl, hm.nil⟩)
end Go.Al
namespace Go.Al
open Go Go.RowKit Go.Proofs
set_option linter.unusedVariables false
set_option linter.unusedSimpArgs false
theorem pathF_32 : ∀ (f : Nat) (l : Sums) (i : Nat), All32 l → All32 (pathF f l i) := by
  intro f
  induction f with
  | zero => intro l i _ x hx; simp [pathF] at hx
  | succ f ih =>
    intro l i h32
    unfold pathF
    by_cases h1 : l.length ≤ 1
    · rw [if_pos h1]; intro x hx; simp at hx
    · have hc := cut_lt (n := l.length) (by omega)
      rw [if_neg h1]
      split
      · intro x hx
        rcases List.mem_cons.1 hx with rfl | hx
        · exact rootP_len _ (by simp; omega) (fun y hy => h32 y (List.mem_of_mem_drop hy))
        · exact ih _ _ (fun y hy => h32 y (List.mem_of_mem_take hy)) x hx
      · intro x hx
        rcases List.mem_cons.1 hx with rfl | hx
        · exact rootP_len _ (by simp; omega) (fun y hy => h32 y (List.mem_of_mem_take hy))
        · exact ih _ _ (fun y hy => h32 y (List.mem_of_mem_drop hy)) x hx
theorem linkF_32 : ∀ (f : Nat) (l : Sums) (i : Nat) (ed : Bool), All32 l → 1 ≤ l.length → 1 ≤ i → All32 (linkF f l i ed) := by
  intro f
  induction f with
  | zero => intro l i ed _ _ _ x hx; simp [linkF] at hx
  | succ f ih =>
    intro l i ed h32 hl hi
    unfold linkF
    by_cases h1 : l.length ≤ i
    · rw [if_pos h1]
      split
      · intro x hx; simp at hx
      · intro x hx; rw [List.mem_singleton.1 hx]; exact rootP_len _ hl h32
    · have hc := cut_lt (n := l.length) (by omega)
      rw [if_neg h1]
      by_cases h2 : i ≤ cut l.length
      · rw [if_pos h2]
        intro x hx
        rcases List.mem_cons.1 hx with rfl | hx
        · exact rootP_len _ (by simp; omega) (fun y hy => h32 y (List.mem_of_mem_drop hy))
        · exact ih _ _ _ (fun y hy => h32 y (List.mem_of_mem_take hy)) (by simp; omega) hi x hx
      · rw [if_neg h2]
        intro x hx
        rcases List.mem_cons.1 hx with rfl | hx
        · exact rootP_len _ (by simp; omega) (fun y hy => h32 y (List.mem_of_mem_take hy))
        · exact ih _ _ _ (fun y hy => h32 y (List.mem_of_mem_drop hy)) (by simp; omega) (by omega) x hx
/-- What a path of the first ones is, and whether it is refused. -/
def pathR (bs : List Bytes) (k at0 : Nat) : Sums := if k ≤ bs.length ∧ (at0 < (bs.take k).length) then (pathT ((bs.take k).map leafP) at0).reverse else []
def pathE (bs : List Bytes) (k at0 : Nat) : Int := if k ≤ bs.length ∧ (at0 < (bs.take k).length) then 0 else 1
def linkR (bs : List Bytes) (k at0 : Nat) : Sums := if k ≤ bs.length ∧ (1 ≤ at0 ∧ at0 ≤ (bs.take k).length) then (linkT ((bs.take k).map leafP) at0 true).reverse else []
def linkE (bs : List Bytes) (k at0 : Nat) : Int := if k ≤ bs.length ∧ (1 ≤ at0 ∧ at0 ≤ (bs.take k).length) then 0 else 1
theorem pathR_32 (bs : List Bytes) (k at0 : Nat) : All32 (pathR bs k at0) := by
  unfold pathR
  split
  · intro x hx; exact pathF_32 _ _ _ (leaves_32 _) x (List.mem_reverse.1 hx)
  · intro x hx; simp at hx
theorem linkR_32 (bs : List Bytes) (k at0 : Nat) : All32 (linkR bs k at0) := by
  unfold linkR
  split
  · rename_i h
    intro x hx; exact linkF_32 _ _ _ _ (leaves_32 _) (by have := h.2; simp at this ⊢; omega) h.2.1 x (List.mem_reverse.1 hx)
  · intro x hx; simp at hx
theorem pathR_le (bs : List Bytes) (k at0 : Nat) : (pathR bs k at0).length ≤ bs.length := by
  unfold pathR
  split
  · have := pathT_le ((bs.take k).map leafP) at0; simp at this ⊢; omega
  · simp
theorem linkR_le (bs : List Bytes) (k at0 : Nat) : (linkR bs k at0).length ≤ bs.length + 1 := by
  unfold linkR
  split
  · have := linkT_le ((bs.take k).map leafP) at0 true; simp at this ⊢; omega
  · simp
/-- A call that returns sums and an error. -/
def RetP (w : World) (ss : Sums) (er : Int) : Ending → World → Prop := fun e w' => ∃ a c r, e = .returned (.tuple #[.slice a ss.length c, vI er]) ∧ VecIs (.slice a ss.length c) ss.length 32 50 (sumsC ss) r ∧ Mem w [] r w'
theorem retP_of {w : World} {ss tt : Sums} {er : Int} {cond : Prop} [Decidable cond] {f : FuncId} {args : Array Value} (hs : ss = if cond then tt.reverse else []) (he : er = if cond then 0 else 1)
    (h : Calls Tryz.prog f args w (fun e w' => (cond → ∃ v r, e = .returned (.tuple #[v, vI 0]) ∧ VecIs v tt.length 32 50 (sumsC tt.reverse) r ∧ Mem w [] r w') ∧ (¬ cond → e = .returned (.tuple #[.slice none 0 0, vI 1]) ∧ Mem w [] [] w'))) :
    Calls Tryz.prog f args w (RetP w ss er) := by
  refine h.mono ?_
  intro e w' hq
  by_cases hc : cond
  · rw [if_pos hc] at hs he
    subst hs; subst he
    obtain ⟨v, r, rfl, hv, hm⟩ := hq.1 hc
    obtain ⟨a, c, rfl, _⟩ := hv.form
    exact ⟨a, c, r, by simp, by simpa using hv, hm⟩
  · rw [if_neg hc] at hs he
    subst hs; subst he
    obtain ⟨rfl, hm⟩ := hq.2 hc
    exact ⟨none, 0, [], rfl, VecIs.nil, hm⟩
theorem cpathR_ok (c k at0 : Nat) (bs : List Bytes) (l : List (Nat × Obj)) (w : World) (hb : bs.length ≤ 256) (hc : ChainIs c bs l) (hl : ∀ p ∈ l, w.heap[p.1]? = some p.2) :
    Calls Tryz.prog 18 [.pointer (some ⟨c, 0, none⟩), vU (at0 : Int), vU (k : Int)].toArray w (RetP w (pathR bs k at0) (pathE bs k at0)) := retP_of rfl rfl (cpath_ok c k at0 bs l w hb hc hl)
theorem clinkR_ok (c k at0 : Nat) (bs : List Bytes) (l : List (Nat × Obj)) (w : World) (hb : bs.length ≤ 256) (hc : ChainIs c bs l) (hl : ∀ p ∈ l, w.heap[p.1]? = some p.2) :
    Calls Tryz.prog 19 [.pointer (some ⟨c, 0, none⟩), vU (at0 : Int), vU (k : Int)].toArray w (RetP w (linkR bs k at0) (linkE bs k at0)) := retP_of rfl rfl (clink_ok c k at0 bs l w hb hc hl)
theorem rcpathR_ok (bs : List Bytes) (vs : List Value) (a : Option Addr) (c : Nat) (w : World) (hs : SlIs w [] (.slice a bs.length c) 1 bs.length vs) (hok : SlsOk w vs bs) (hbl : ∀ b ∈ bs, b.length ≤ 100000) (hn : bs.length ≤ 1000) (at0 k : Nat) :
    Calls Tryz.prog 20 [.slice a bs.length c, vU (at0 : Int), vU (k : Int)].toArray w (RetP w (pathR bs k at0) (pathE bs k at0)) := retP_of rfl rfl (rcpath_ok bs vs a c w hs hok hbl hn at0 k)
theorem rclinkR_ok (bs : List Bytes) (vs : List Value) (a : Option Addr) (c : Nat) (w : World) (hs : SlIs w [] (.slice a bs.length c) 1 bs.length vs) (hok : SlsOk w vs bs) (hbl : ∀ b ∈ bs, b.length ≤ 100000) (hn : bs.length ≤ 1000) (at0 k : Nat) :
    Calls Tryz.prog 21 [.slice a bs.length c, vU (at0 : Int), vU (k : Int)].toArray w (RetP w (linkR bs k at0) (linkE bs k at0)) := retP_of rfl rfl (rclink_ok bs vs a c w hs hok hbl hn at0 k)
theorem csizeV_ok (c : Nat) (bs : List Bytes) (l : List (Nat × Obj)) (w : World) (hb : bs.length ≤ 1000000) (hc : ChainIs c bs l) (hl : ∀ p ∈ l, w.heap[p.1]? = some p.2) : Calls Tryz.prog 14 [.pointer (some ⟨c, 0, none⟩)].toArray w (Ret w (vU (bs.length : Int))) := by
  obtain ⟨f, vf, nf, rf, ve, re, bvs, rbs, rfl, hvf, hnf, hnb, hve, hbl, hrl, hbv⟩ := hc
  obtain ⟨ae, ce, rfl, hce, _⟩ := hve.form
  exact csize_ok c f ce bs ae w hb ⟨127, (0, 0), hl (c, row [.pointer (some ⟨f, 0, none⟩), .slice ae bs.length ce] 127) (by simp)⟩
theorem cmarkC_ok {m : Bytes} {er : Int} (c k : Nat) (bs : List Bytes) (l : List (Nat × Obj)) (w : World) (hb : bs.length ≤ 1000) (hc : ChainIs c bs l) (hl : ∀ p ∈ l, w.heap[p.1]? = some p.2) (h1 : sumAt markP bs k = m) (h2 : errAt bs k = er) :
    Calls Tryz.prog 16 [.pointer (some ⟨c, 0, none⟩), vU (k : Int)].toArray w (Ret w (.tuple #[.agg (m.map v8).toArray, vI er])) := by subst h1; subst h2; exact cmark_ok c k bs l w hb hc hl
theorem crootC_ok {m : Bytes} {er : Int} (c k : Nat) (bs : List Bytes) (l : List (Nat × Obj)) (w : World) (hb : bs.length ≤ 1000) (hc : ChainIs c bs l) (hl : ∀ p ∈ l, w.heap[p.1]? = some p.2) (h1 : sumAt rootsP bs k = m) (h2 : errAt bs k = er) :
    Calls Tryz.prog 17 [.pointer (some ⟨c, 0, none⟩), vU (k : Int)].toArray w (Ret w (.tuple #[.agg (m.map v8).toArray, vI er])) := by subst h1; subst h2; exact croot_ok c k bs l w hb hc hl
theorem twin_cut {l : Bytes} {a : Option Addr} {c : Nat} {r : List (Nat × Obj)} (h : VecIs (.slice a (l.length + 1) c) (l.length + 1) 1 5 (l.map v8 ++ [v8 77]) r) : VecIs (.slice a l.length c) l.length 1 5 (l.map v8) r := by
  have h1 := h.cut (m := l.length) rfl (by omega)
  have e : (l.map v8 ++ [v8 77]).take (l.length * 1) = l.map v8 := by rw [Nat.mul_one, ← List.length_map (f := v8), List.take_left]
  rwa [e] at h1
theorem left_okV (l : Bytes) (at' : Option Addr) (ct : Nat) (r : List (Nat × Obj)) (a : Option Addr) (c : Nat) (w : World) (hv : VecIs (.slice at' (l.length + 1) ct) (l.length + 1) 1 5 (l.map v8 ++ [v8 77]) r) (hr : ∀ p ∈ r, w.heap[p.1]? = some p.2) (hs : SlIs w [] (.slice a l.length c) 1 l.length (l.map v8)) (hb : l.length ≤ 1000000) :
    Calls Tryz.prog 12 [.slice at' l.length ct, .slice a l.length c].toArray w (Ret w (.bool true)) := by
  obtain ⟨g, cap, rest, heq, h1, h2, h3, h4, rfl⟩ := hv.pos (by omega)
  obtain rfl : at' = some ⟨g, 0, none⟩ := by cases heq; rfl
  have hcc : ct = cap := by cases heq; rfl
  exact left_ok l g ct rest a c w ⟨5, (0, 0), hr (g, row ((l.map v8 ++ [v8 77]) ++ rest) 5) (by simp)⟩ (by omega) hs hb
theorem val_neB {P : Program} {ρ : Operand → Value} {w : World} {ty : TypeId} {x y : Operand} {t t' : TypeId} {a b : Bool} (hx : ρ x = .bool a) (hy : ρ y = .bool b) (ht : P.underlying t = some .bool) : Val P ρ w (.binOp .neq t x y t') ty (.bool (!(a == b))) := by
  intro o ho hty
  simp only [execOp, ho, hx, hy]
  have h2 : (binOp .neq t (.bool a) (.bool b)).run P w = .ok (.bool (!(a == b))) w := by
    show ((do pure (.bool (!(← Op.equal t (.bool a) (.bool b)))) : Sem Value)).run P w = _
    have : (Op.equal t (.bool a) (.bool b)).run P w = .ok (a == b) w := by
      unfold Op.equal
      rw [show Op.maxDepth = (Op.maxDepth - 1) + 1 from rfl, Op.equalIn, run_bind' (run_under ht w)]; rfl
    rw [run_bind' this]; rfl
  rw [run_bind' (show (eqGuard BinOp.neq t x y (Value.bool a) (Value.bool b) >>= fun _ => binOp BinOp.neq t (Value.bool a) (Value.bool b)).run P w = .ok (.bool (!(a == b))) w from by
    rw [run_bind' (show (eqGuard BinOp.neq t x y (Value.bool a) (Value.bool b)).run P w = .ok () w from by simp [eqGuard, go_sem]), h2])]
  rfl
theorem val_buildSum0 {ρ : Operand → Value} {w : World} {ty : TypeId} : Val Tryz.prog ρ w (.build 50 #[]) ty (.agg (z32.map v8).toArray) := by
  intro o ho hty
  simp only [execOp, ho]
  refine fin_val ?_
  have hz := zo_50
  unfold zeroOf at hz
  cases hi : Tryz.prog.info? 50 with
  | none => rw [hi] at hz; simp at hz
  | some inf =>
    rw [hi] at hz
    simp only [Option.bind_some] at hz
    cases hzz : inf.zero with
    | none => rw [hzz] at hz; simp at hz
    | some z =>
      rw [hzz] at hz
      simp only [Option.map_some, Option.some.injEq] at hz
      have hzc : z.cells = (List.replicate 32 (v8 0)).toArray := by apply Array.toList_inj.1; rw [hz]
      have hzv : (zeroValue 50 : Sem Value).run Tryz.prog w = .ok z w := by simp [zeroValue, go_sem, run_info hi, hzz]
      unfold Instr.build
      simp only [bind_assoc, pure_bind]
      rw [run_bind' hzv, run_bind' (run_under ua_50 w)]
      simp only
      rw [run_bind' (run_sizeOf ag_5 w)]
      simp only [hzc, zrow, Array.map_empty, Instr.fill]
      rfl
def asksC (A : List (Nat × Nat)) : List Value := A.flatMap fun p => [vU (p.1 : Int), vU (p.2 : Int)]
theorem asksC_len (A : List (Nat × Nat)) : (asksC A).length = A.length * 2 := by
  induction A with
  | nil => rfl
  | cons p A ih => unfold asksC at ih ⊢; rw [List.flatMap_cons, List.length_append, ih]; simp; omega
theorem ask_at {A : List (Nat × Nat)} {xs : List Value} {off m i a b : Nat} (h : (xs.drop off).take (m * 2) = asksC A) (hA : A[i]? = some (a, b)) (hm : A.length = m) : xs[off + i * 2]? = some (vU (a : Int)) ∧ xs[off + (i * 2 + 1)]? = some (vU (b : Int)) := by
  have hi : i < A.length := (List.getElem?_eq_some_iff.1 hA).1
  have hs : A = A.take i ++ (a, b) :: A.drop (i + 1) := by
    have : A[i] = (a, b) := (List.getElem?_eq_some_iff.1 hA).2
    rw [← this]; simp
  have hc : asksC A = asksC (A.take i) ++ (vU (a : Int) :: vU (b : Int) :: asksC (A.drop (i + 1))) := by
    conv => lhs; rw [hs]
    simp [asksC]
  have hl : (asksC (A.take i)).length = i * 2 := by rw [asksC_len]; simp; omega
  have e1 : ((xs.drop off).take (m * 2))[i * 2]? = some (vU (a : Int)) := by rw [h, hc, List.getElem?_append_right (by omega), hl]; simp
  have e2 : ((xs.drop off).take (m * 2))[i * 2 + 1]? = some (vU (b : Int)) := by rw [h, hc, List.getElem?_append_right (by omega), hl]; simp
  rw [List.getElem?_take, if_pos (by omega), List.getElem?_drop] at e1 e2
  exact ⟨e1, e2⟩
theorem SlsOk.snoc {w : World} {vs : List Value} {ls : List Bytes} {v : Value} {l : Bytes} (h : SlsOk w vs ls) (hl : vs.length = ls.length) (h2 : SlIs w [] v 1 l.length (l.map v8)) : SlsOk w (vs ++ [v]) (ls ++ [l]) := by
  intro i v' l' h3 h4
  by_cases hi : i < vs.length
  · rw [List.getElem?_append_left hi] at h3
    rw [List.getElem?_append_left (by omega)] at h4
    exact h i v' l' h3 h4
  · rw [List.getElem?_append_right (by omega)] at h3
    rw [List.getElem?_append_right (by omega)] at h4
    have : i - vs.length = 0 := by
      apply Classical.byContradiction; intro hne
      rw [List.getElem?_eq_none (by simp; omega)] at h3; cases h3
    rw [this] at h3
    rw [← hl, this] at h4
    simp at h3 h4
    subst h3; subst h4; exact h2
theorem mem_flat_le {ls : List Bytes} {l : Bytes} (h : l ∈ ls) : l.length ≤ ls.flatten.length := by
  induction ls with
  | nil => simp at h
  | cons x ls ih =>
    rw [List.flatten_cons, List.length_append]
    rcases List.mem_cons.1 h with rfl | h
    · omega
    · have := ih h; omega
theorem heldC_snoc (ps : List HP) (p : HP) : heldC (ps ++ [p]) = heldC ps ++ [p.v, p.lg, vI (p.k : Int)] := by simp [heldC]
theorem rowsC_snoc (ps : List HP) (p : HP) : rowsC (ps ++ [p]) = rowsC ps ++ p.r := by simp [rowsC]
end Go.Al
