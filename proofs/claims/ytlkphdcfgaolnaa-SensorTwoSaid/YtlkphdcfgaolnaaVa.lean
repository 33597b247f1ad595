/- Package sensor: a vote of three readings: that the Go code comes to what was said. -/
import Derived.Test.YtlkphdcfgaolnaaVd
namespace Go.Proofs.Ytlkphdcfgaolnaa.P
open Go.RowKit Go.Proofs.YtlkphdcfgaolnaaW.PrintWords Go.Proofs.YtlkphdcfgaolnaaW.PrintLast Go.Proofs.YtlkphdcfgaolnaaW.PrintMore
open Go.Maps (Keyed)
open Go.ChangeMaps
attribute [local go_sem] cell_same1 cell_some1
set_option linter.unusedVariables false
set_option linter.unusedSimpArgs false

theorem vm_single {es : Array MapEntry} {clock : Nat} {l : List R3} (h : VM es clock l) {y : R3} (hy : y ∈ l) (ha : ∀ y' ∈ l, y' = y) : es.size = 1 := by
  have hk := h.keys
  obtain ⟨e, he, e1⟩ := h.all y hy
  have hall : ∀ x ∈ es.toList, x.key = rv y := fun x hx => by
    obtain ⟨z, hz, ez, _⟩ := h.ent x hx
    rw [ez, ha z hz]
  rw [← Array.length_toList]
  generalize es.toList = L at hk he hall
  match L, hk, he, hall with
  | [], _, he, _ => simp at he
  | [x], _, _, _ => rfl
  | x :: y' :: r, hk, _, hall =>
    exfalso
    simp only [List.map_cons, List.nodup_cons, List.mem_cons] at hk
    exact hk.1 (.inl ((hall x (by simp)).trans (hall y' (by simp)).symm))
theorem vm_same {es : Array MapEntry} {clock : Nat} {l : List R3} (h : VM es clock l) (h1 : es.size = 1) {y y' : R3} (hy : y ∈ l) (hy' : y' ∈ l) : y' = y := by
  obtain ⟨e, he, e1⟩ := h.all y hy
  obtain ⟨e', he', e1'⟩ := h.all y' hy'
  rw [← Array.length_toList] at h1
  generalize es.toList = L at h1 he he'
  match L, h1, he, he' with
  | [x], _, he, he' =>
    simp only [List.mem_singleton] at he he'
    subst he
    subst he'
    exact rv_inj (e1'.symm.trans e1)
theorem born_inj : ∀ (L : List MapEntry), (L.map (·.born)).Nodup → ∀ x ∈ L, ∀ e ∈ L, x.born = e.born → x = e
  | [], _, _, hx, _, _, _ => by cases hx
  | a :: r, h, x, hx, e, he, q => by
    simp only [List.map_cons, List.nodup_cons] at h
    rcases List.mem_cons.1 hx with h1 | h1
    · rcases List.mem_cons.1 he with h2 | h2
      · rw [h1, h2]
      · exact absurd (show a.born ∈ r.map (·.born) from List.mem_map.2 ⟨e, h2, by rw [← q, h1]⟩) h.1
    · rcases List.mem_cons.1 he with h2 | h2
      · exact absurd (show a.born ∈ r.map (·.born) from List.mem_map.2 ⟨x, h1, by rw [q, h2]⟩) h.1
      · exact born_inj r h.2 x h1 e h2 q
theorem counted_calls2 {ys : List S23} (A : Option Addr) (c : Nat) (l : List R3) (w : World) (hy : ys = l.map s3) (hr : Kd.C k23 w A ys.length ys) (hc : ys.length ≤ c) (hl : ∀ y ∈ l, Rok y) (hn : l.length ≤ 100) :
    Calls Try.prog 44 #[.func (.func 45) #[] #[], .slice A ys.length c] w
      fun e w' => ∃ mb, e = .returned (.map (some mb)) ∧ w.heap.size ≤ mb ∧ Votes w' mb (l.filter (·.1)) ∧ Below w.heap.size w w' := by
  have hL : ys.length = l.length := by rw [hy, List.length_map]
  rw [hL] at hr hc ⊢
  rw [hy] at hr
  exact counted_calls A c l w hr hc hl hn
set_option maxHeartbeats 8000000 in
set_option maxRecDepth 100000 in
theorem sensor_Vote.calls (a0_0 : Bool) (a0_1 : Int) (a0_2 : Int) (a1_0 : Bool) (a1_1 : Int) (a1_2 : Int) (a2_0 : Bool) (a2_1 : Int) (a2_2 : Int) (r1 : Bool) (r2 : Int) (r3 : Int) (r4 : Int) (w : World) (h : sensor_Vote.f a0_0 a0_1 a0_2 a1_0 a1_1 a1_2 a2_0 a2_1 a2_2 = some (r1, r2, r3, r4)) :
    Calls Try.prog 17 #[.agg #[.bool a0_0, .int .i64 a0_1, .int .i64 a0_2], .agg #[.bool a1_0, .int .i64 a1_1, .int .i64 a1_2], .agg #[.bool a2_0, .int .i64 a2_1, .int .i64 a2_2]] w fun e w' => e = .returned (.tuple #[.agg #[.bool r1, .int .i64 r2, .int .i64 r3], .int .i64 r4]) ∧ Below w.heap.size w w' := by
  have hu := Try.underlying23
  have HB := Aside0.mk (Below.refl w.heap.size w)
  unfold sensor_Vote.f at h
  have HCH := Aside0.mk (sensor_checked_eq 0 (a0_0, a0_1, a0_2) (a1_0, a1_1, a1_2) (a2_0, a2_1, a2_2))
  obtain ⟨ys, hys⟩ : ∃ ys : List S23, ys = [s3 (a0_0, a0_1, a0_2), s3 (a1_0, a1_1, a1_2), s3 (a2_0, a2_1, a2_2)] := ⟨_, rfl⟩
  rw [← hys] at HCH
  have Ny := Aside0.mk hys
  clear hys
  generalize hc : vchk (a0_0, a0_1, a0_2) (a1_0, a1_1, a1_2) (a2_0, a2_1, a2_2) = c at h HCH
  have HC0 := Aside0.mk hc
  clear hc
  by_cases c0 : c = 0
  · rw [if_pos c0] at h
    subst c0
    have hV := vchk_zero HC0.out
    go_enter Try.func17, Try.ntmps17
    have HOK : Aside0 (∀ y ∈ [((a0_0, a0_1, a0_2) : R3), (a1_0, a1_1, a1_2), (a2_0, a2_1, a2_2)], Rok y) := ⟨fun y hy => by
      simp only [List.mem_cons, List.not_mem_nil, or_false] at hy
      rcases hy with rfl | rfl | rfl
      · exact vck_ok hV.1
      · exact vck_ok hV.2.1
      · exact vck_ok hV.2.2⟩
    clear hV
    go_wp2_with (first
      | ((with_reducible refine gate_dst (N := 3) rfl ?_); refine bxe (cs := #[.bool a0_0, .int .i64 a0_1, .int .i64 a0_2]) (t := 23) ?_; intro g3 hg w1 hbox hb; have BK3 := Aside0.mk hbox; have GE3 := Aside0.mk (bge hg HB.out); replace HB := Aside0.mk (bst HB.out hb); clear hb hbox hg)
      | ((with_reducible refine gate_dst (N := 4) rfl ?_); refine bxe (cs := #[.bool a1_0, .int .i64 a1_1, .int .i64 a1_2]) (t := 23) ?_; intro g4 hg w2 hbox hb; have BK4 := Aside0.mk hbox; have GE4 := Aside0.mk (bge hg HB.out); replace BK3 := Aside0.mk (bkb BK3.out hb); replace HB := Aside0.mk (bst HB.out hb); clear hb hbox hg)
      | ((with_reducible refine gate_dst (N := 5) rfl ?_); refine bxe (cs := #[.bool a2_0, .int .i64 a2_1, .int .i64 a2_2]) (t := 23) ?_; intro g5 hg w3 hbox hb; have BK5 := Aside0.mk hbox; have GE5 := Aside0.mk (bge hg HB.out); replace BK3 := Aside0.mk (bkb BK3.out hb); replace BK4 := Aside0.mk (bkb BK4.out hb); replace HB := Aside0.mk (bst HB.out hb); clear hb hbox hg)
      | ((with_reducible refine gate_dst (N := 6) rfl ?_); refine bxe (cs := #[.bool false, .int .i64 0, .int .i64 0]) (t := 23) ?_; intro g6 hg w4 hbox hb; have BK6 := Aside0.mk hbox; have GE6 := Aside0.mk (bge hg HB.out); replace BK3 := Aside0.mk (bkb BK3.out hb); replace BK4 := Aside0.mk (bkb BK4.out hb); replace BK5 := Aside0.mk (bkb BK5.out hb); replace HB := Aside0.mk (bst HB.out hb); clear hb hbox hg; have hcz3 := cz3 BK3.out; have hcz4 := cz3 BK4.out; have hcz5 := cz3 BK5.out; have hfz3 := blk_frozen BK3.out; have hfz4 := blk_frozen BK4.out; have hfz5 := blk_frozen BK5.out)
      | ((with_reducible refine gate_dst (N := 15) rfl ?_); refine Kd.R_lit k23 _ 23 ?hg (N := 15) ?hd (xs := [s3 (a0_0, a0_1, a0_2), s3 (a1_0, a1_1, a1_2), s3 (a2_0, a2_1, a2_2)]) (inner := [.bool a0_0, .int .i64 a0_1, .int .i64 a0_2, .bool a1_0, .int .i64 a1_1, .int .i64 a1_2, .bool a2_0, .int .i64 a2_1, .int .i64 a2_2]) (ok := fun _ => True) (okp := fun _ => True) ?hr ?hp (fun _ hk => hk) trivial (Below.refl _ _) (Nat.le_refl _) (by simp) ?_; (case hd => rfl); (case hg => rfl); (case hr => first | (go_simp; done) | (go_simp; rfl)); (case hp => exact (Reps.c3 (show Kd.M k23 _ _ _ (s3 (a0_0, a0_1, a0_2)) [.bool a0_0, .int .i64 a0_1, .int .i64 a0_2] from (k23_mkM _ _ _ (s3 (a0_0, a0_1, a0_2)))) (Reps.c3 (show Kd.M k23 _ _ _ (s3 (a1_0, a1_1, a1_2)) [.bool a1_0, .int .i64 a1_1, .int .i64 a1_2] from (k23_mkM _ _ _ (s3 (a1_0, a1_1, a1_2)))) (Reps.c3 (show Kd.M k23 _ _ _ (s3 (a2_0, a2_1, a2_2)) [.bool a2_0, .int .i64 a2_1, .int .i64 a2_2] from (k23_mkM _ _ _ (s3 (a2_0, a2_1, a2_2)))) (Reps.none _ _))))); intro vs w5 ho hb hg_ hnew_; clear hg_ hnew_; rw [← Ny.out] at ho; obtain ⟨As, cs, es⟩ := Kd.R_slice ho; subst es; have HCs := Aside0.mk (Kd.R_reads' ho).2.2; have HLs := Aside0.mk (Kd.R_reads' ho).2.1; replace BK3 := Aside0.mk (bkb BK3.out hb); replace BK4 := Aside0.mk (bkb BK4.out hb); replace BK5 := Aside0.mk (bkb BK5.out hb); replace BK6 := Aside0.mk (bkb BK6.out hb); replace HB := Aside0.mk (bst HB.out hb); clear hb ho)
      | ((with_reducible refine gate_dst (N := 24) rfl ?_); refine Kd.R_lit k23 _ 23 ?hg (N := 24) ?hd (xs := [s3 (a0_0, a0_1, a0_2), s3 (a1_0, a1_1, a1_2), s3 (a2_0, a2_1, a2_2)]) (inner := [.bool a0_0, .int .i64 a0_1, .int .i64 a0_2, .bool a1_0, .int .i64 a1_1, .int .i64 a1_2, .bool a2_0, .int .i64 a2_1, .int .i64 a2_2]) (ok := fun _ => True) (okp := fun _ => True) ?hr ?hp (fun _ hk => hk) trivial (Below.refl _ _) (Nat.le_refl _) (by simp) ?_; (case hd => rfl); (case hg => rfl); (case hr => first | (go_simp; done) | (go_simp; rfl)); (case hp => exact (Reps.c3 (show Kd.M k23 _ _ _ (s3 (a0_0, a0_1, a0_2)) [.bool a0_0, .int .i64 a0_1, .int .i64 a0_2] from (k23_mkM _ _ _ (s3 (a0_0, a0_1, a0_2)))) (Reps.c3 (show Kd.M k23 _ _ _ (s3 (a1_0, a1_1, a1_2)) [.bool a1_0, .int .i64 a1_1, .int .i64 a1_2] from (k23_mkM _ _ _ (s3 (a1_0, a1_1, a1_2)))) (Reps.c3 (show Kd.M k23 _ _ _ (s3 (a2_0, a2_1, a2_2)) [.bool a2_0, .int .i64 a2_1, .int .i64 a2_2] from (k23_mkM _ _ _ (s3 (a2_0, a2_1, a2_2)))) (Reps.none _ _))))); intro vs w5 ho hb hg_ hnew_; clear hg_ hnew_; rw [← Ny.out] at ho; obtain ⟨As, cs, es⟩ := Kd.R_slice ho; subst es; have HCs := Aside0.mk (Kd.R_reads' ho).2.2; have HLs := Aside0.mk (Kd.R_reads' ho).2.1; replace BK3 := Aside0.mk (bkb BK3.out hb); replace BK4 := Aside0.mk (bkb BK4.out hb); replace BK5 := Aside0.mk (bkb BK5.out hb); replace BK6 := Aside0.mk (bkb BK6.out hb); replace HB := Aside0.mk (bst HB.out hb); clear hb ho)
      | (go_at_call 43; refine (sensor_checked.calls (0 + 9) _ _ ys _ _ HCs.out HLs.out HCH.out).mono ?_; rintro e w6 ⟨rfl, hb⟩; replace BK3 := Aside0.mk (bkb BK3.out hb); replace BK4 := Aside0.mk (bkb BK4.out hb); replace BK5 := Aside0.mk (bkb BK5.out hb); replace BK6 := Aside0.mk (bkb BK6.out hb); replace HB := Aside0.mk (bst HB.out hb); clear HCs HLs; have hcz3 := cz3 BK3.out; have hcz4 := cz3 BK4.out; have hcz5 := cz3 BK5.out; have hcz6 := cz3 BK6.out; have hfz3 := blk_frozen BK3.out; have hfz4 := blk_frozen BK4.out; have hfz5 := blk_frozen BK5.out; have hfz6 := blk_frozen BK6.out)
      | (go_at_call 44; refine (counted_calls2 _ _ [((a0_0, a0_1, a0_2) : R3), (a1_0, a1_1, a1_2), (a2_0, a2_1, a2_2)] _ Ny.out HCs.out HLs.out HOK.out (by simp)).mono ?_; rintro e w7 ⟨mb, rfl, hmb, hVt, hb⟩; obtain ⟨es, clock, hes, hVM⟩ := hVt; have hrun := run_range_map w7 _ _ _ mb es clock Try.underlying63 hes; have HES := Aside0.mk hes; have HVM := Aside0.mk hVM; have HMB := Aside0.mk (show w.heap.size ≤ mb from Nat.le_trans (bsz HB.out) hmb); replace BK6 := Aside0.mk (bkb BK6.out hb); replace HB := Aside0.mk (bst HB.out hb); clear hVM))
    have hg6 : (w7.alloc (.mapIter (some mb) clock #[] clock)).heap[g6]? = some (.cells #[.bool false, .int .i64 0, .int .i64 0] 23 (0, 0)) := bkt BK6.out
    have hm6 : (w7.alloc (.mapIter (some mb) clock #[] clock)).heap[mb]? = some (.map es clock) := blk_alloc HES.out _
    have hi6 := blk_new w7 (.mapIter (some mb) clock #[] clock)
    have HN : Aside0 (g6 ≠ w7.heap.size ∧ mb ≠ w7.heap.size) := ⟨Nat.ne_of_lt (blk_lt BK6.out), Nat.ne_of_lt (blk_lt HES.out)⟩
    have HRS : Aside0 (w.heap.size ≤ w7.heap.size) := ⟨bsz HB.out⟩
    generalize hr7 : w7.heap.size = r at hi6 HN HRS ⊢
    go_loopg [] (es.size + 1) (fun kq wr => ∃ seen : Array Nat, Aside0 (wr.heap[r]? = some (.mapIter (some mb) clock seen clock)) ∧ Aside0 (wr.heap[mb]? = some (.map es clock)) ∧ Aside0 (wr.heap[g6]? = some (.cells #[.bool false, .int .i64 0, .int .i64 0] 23 (0, 0))) ∧ Aside0 (Below w.heap.size w wr) ∧
      Aside0 ((leftOf es seen).size + 1 ≤ kq) ∧ Aside0 (∀ e ∈ es.toList, seen.contains e.born = true → ∀ y, e.key = rv y → ¬ (1 < ([((a0_0, a0_1, a0_2) : R3), (a1_0, a1_1, a1_2), (a2_0, a2_1, a2_2)].filter (·.1)).count y ∨ es.size = 1)))
    case atStart => exact ⟨#[], ⟨hi6⟩, ⟨hm6⟩, ⟨hg6⟩, ⟨bel HB.out⟩, ⟨Nat.succ_le_succ (by unfold leftOf; exact Array.size_filter_le)⟩, ⟨by simp⟩⟩
    case round =>
      clear hi6 hm6 hg6 BK6 HES HB
      obtain ⟨seen, HI, HM, BK6, HB, HS, HD⟩ := hrel
      cases gk with
      | zero => exact absurd HS.out (by omega)
      | succ k1 =>
        rcases run_next_at (P := Try.prog) wr 0 r mb clock clock seen es clock HI.out HM.out HVM.out.born (Nat.le_refl _) with ⟨h0, hn⟩ | ⟨e, he, w1, hw1, hn⟩
        · have hall : ∀ e ∈ es.toList, seen.contains e.born = true := fun e he => by
            by_cases q : seen.contains e.born = true
            · exact q
            · exfalso
              have hmem : e ∈ leftOf es seen := by
                unfold leftOf
                rw [Array.mem_filter]
                exact ⟨by simpa using he, by simpa using q⟩
              have := Array.size_pos_of_mem hmem
              omega
          have hmiss := vres_miss (a0_0, a0_1, a0_2) (a1_0, a1_1, a1_2) (a2_0, a2_1, a2_2) (fun y hy => by
            obtain ⟨e, he, ek⟩ := HVM.out.all y hy
            have := HD.out e he (hall e he) y ek
            exact ⟨fun q => this (.inl q), fun q => this (.inr (vm_single HVM.out hy q))⟩)
          rw [hmiss] at h
          simp only [Option.some.injEq, Prod.mk.injEq] at h
          obtain ⟨rfl, rfl, rfl, rfl⟩ := h
          clear hmiss hall
          go_wp2_with (go_at_call 38; refine (sensor_failed.calls false (-1) 0 _ rfl).mono ?_; rintro e w8 ⟨rfl, hb⟩; replace BK6 := Aside0.mk (bkb BK6.out hb); replace HB := Aside0.mk (bst HB.out hb); clear hn; have hcz6 := cz3 BK6.out; have hfz6 := blk_frozen BK6.out)
          refine bodyPost_ret (results_ct rfl _ _ g6 23 #[.bool false, .int .i64 (-1), .int .i64 0] (0, 0) _ rfl (bkt BK6.out) Try.underlying23 rfl (by kernel_rfl)) rfl ?_
          exact ⟨rfl, bel HB.out⟩
        · have hew : e ∈ es.toList ∧ seen.contains e.born = false := by
            have := he
            unfold leftOf at this
            rw [Array.mem_toList_iff, Array.mem_filter] at this
            exact ⟨by simpa using this.1, by simpa using this.2⟩
          obtain ⟨⟨o, f, z⟩, hy, ek, ev⟩ := HVM.out.ent e hew.1
          obtain ⟨n, hcn⟩ : ∃ n : Nat, n = ([((a0_0, a0_1, a0_2) : R3), (a1_0, a1_1, a1_2), (a2_0, a2_1, a2_2)].filter (·.1)).count (o, f, z) := ⟨_, rfl⟩
          rw [← hcn] at ev
          have key : ∃ W1 : World, (Instr.next (.pointer (some ⟨r, 0, none⟩)) false 0).run Try.prog wr = .ok (.tuple #[.bool true, .agg #[.bool o, .int .i64 f, .int .i64 z], .int .i64 n]) W1 ∧
              (Instr.entry (.pointer (some ⟨r, 0, none⟩))).run Try.prog W1 = .ok (.tuple #[.agg #[.bool o, .int .i64 f, .int .i64 z], .int .i64 n]) W1 ∧
              W1.heap[r]? = some (.mapIter (some mb) clock (seen.push e.born) clock) ∧ W1.heap[mb]? = some (.map es clock) ∧ W1.heap[g6]? = some (.cells #[.bool false, .int .i64 0, .int .i64 0] 23 (0, 0)) ∧ Below w.heap.size w W1 := by
            have hh : w1.heap = wr.heap := by rcases hw1 with rfl | rfl <;> rfl
            have HB1 : Below w.heap.size w w1 := by rcases hw1 with rfl | rfl <;> exact bel HB.out
            have hlt : r < w1.heap.size := by rw [hh]; exact blk_lt HI.out
            have hI1 : (setBlock w1 r (.mapIter (some mb) clock (seen.push e.born) clock)).heap[r]? = some (.mapIter (some mb) clock (seen.push e.born) clock) := by
              show (w1.heap.setIfInBounds r _)[r]? = _
              rw [Array.getElem?_setIfInBounds, if_pos rfl, if_pos hlt]
            have hM1 : (setBlock w1 r (.mapIter (some mb) clock (seen.push e.born) clock)).heap[mb]? = some (.map es clock) := by
              show (w1.heap.setIfInBounds r _)[mb]? = _
              rw [Array.getElem?_setIfInBounds, if_neg (fun q => HN.out.2 q.symm), hh]
              exact HM.out
            have h61 : (setBlock w1 r (.mapIter (some mb) clock (seen.push e.born) clock)).heap[g6]? = some (.cells #[.bool false, .int .i64 0, .int .i64 0] 23 (0, 0)) := by
              show (w1.heap.setIfInBounds r _)[g6]? = _
              rw [Array.getElem?_setIfInBounds, if_neg (fun q => HN.out.1 q.symm), hh]
              exact BK6.out
            have hB1 := below_setBlock (o := .mapIter (some mb) clock (seen.push e.born) clock) HB1 HRS.out
            have hen := run_entry_at (P := Try.prog) _ r mb clock seen es clock e hI1 hM1 hew.1 HVM.out.stamps
            rw [ek, ev] at hn hen
            exact ⟨_, hn, hen, hI1, hM1, h61, hB1⟩
          obtain ⟨W1, hn1, hen, hI1, hM1, h61, hB1⟩ := key
          clear hn hw1
          replace BK6 := Aside0.mk h61
          replace HB := Aside0.mk hB1
          replace HM := Aside0.mk hM1
          replace HI := Aside0.mk hI1
          clear h61 hB1 hI1
          have hhit := vres_hit (a0_0, a0_1, a0_2) (a1_0, a1_1, a1_2) (a2_0, a2_1, a2_2) (o, f, z) hy
          have hsm : es.size = 1 → ∀ y' ∈ [((a0_0, a0_1, a0_2) : R3), (a1_0, a1_1, a1_2), (a2_0, a2_1, a2_2)].filter (·.1), y' = (o, f, z) := fun q y' hy' => vm_same HVM.out q hy hy'
          have HEW := Aside0.mk hew
          have HEK := Aside0.mk ek
          have HE := Aside0.mk he
          rw [← hcn] at hhit
          have HCN := Aside0.mk hcn
          clear hew ek ev he hy hcn
          by_cases c1 : 1 < n
          · have hv := hhit (.inl c1)
            rw [← hv] at h
            simp only [Option.some.injEq, Prod.mk.injEq] at h
            obtain ⟨rfl, rfl, rfl, rfl⟩ := h
            have d1 : ((1 : Int) < (n : Int)) = True := eq_true (by omega)
            clear hhit hv hsm
            have hb9 : (W1.alloc (.cells #[.bool o, .int .i64 f, .int .i64 z] 23 (0, 0))).heap[g6]? = some (.cells #[.bool false, .int .i64 0, .int .i64 0] 23 (0, 0)) := blk_alloc BK6.out _
            have hcz6 := cz3 hb9
            have hfz6 := blk_frozen hb9
            clear hb9
            have hm9 : (W1.alloc (.cells #[.bool o, .int .i64 f, .int .i64 z] 23 (0, 0))).heap[mb]? = some (.map es clock) := blk_alloc HM.out _
            have hlen : (Builtin.len_ #[63] 3 #[.map (some mb)]).run Try.prog (W1.alloc (.cells #[.bool o, .int .i64 f, .int .i64 z] 23 (0, 0))) = .ok (.int .i64 es.size) (W1.alloc (.cells #[.bool o, .int .i64 f, .int .i64 z] 23 (0, 0))) := by
              simp [Builtin.len_, run_underlying Try.underlying63, MapKept.run_getObj_map hm9, goInt, Result.andThen]
            clear hrun hes hmb hb hr7
            go_wp2
            refine bodyPost_ret (results_ct rfl _ _ g6 23 #[.bool o, .int .i64 f, .int .i64 z] (0, 0) _ rfl (bkt BK6.out) Try.underlying23 rfl (by kernel_rfl)) rfl ?_
            exact ⟨rfl, bel HB.out⟩
          · have d1 : ((1 : Int) < (n : Int)) = False := eq_false (by omega)
            by_cases c2 : es.size = 1
            · have hv := hhit (.inr (hsm c2))
              rw [← hv] at h
              simp only [Option.some.injEq, Prod.mk.injEq] at h
              obtain ⟨rfl, rfl, rfl, rfl⟩ := h
              have d2 : ((es.size : Int) == 1) = true := by rw [c2]; rfl
              clear hhit hv hsm
              have hb9 : (W1.alloc (.cells #[.bool o, .int .i64 f, .int .i64 z] 23 (0, 0))).heap[g6]? = some (.cells #[.bool false, .int .i64 0, .int .i64 0] 23 (0, 0)) := blk_alloc BK6.out _
              have hcz6 := cz3 hb9
              have hfz6 := blk_frozen hb9
              clear hb9
              have hm9 : (W1.alloc (.cells #[.bool o, .int .i64 f, .int .i64 z] 23 (0, 0))).heap[mb]? = some (.map es clock) := blk_alloc HM.out _
              have hlen : (Builtin.len_ #[63] 3 #[.map (some mb)]).run Try.prog (W1.alloc (.cells #[.bool o, .int .i64 f, .int .i64 z] 23 (0, 0))) = .ok (.int .i64 es.size) (W1.alloc (.cells #[.bool o, .int .i64 f, .int .i64 z] 23 (0, 0))) := by
                simp [Builtin.len_, run_underlying Try.underlying63, MapKept.run_getObj_map hm9, goInt, Result.andThen]
              clear hrun hes hmb hb hr7
              go_wp2
              refine bodyPost_ret (results_ct rfl _ _ g6 23 #[.bool o, .int .i64 f, .int .i64 z] (0, 0) _ rfl (bkt BK6.out) Try.underlying23 rfl (by kernel_rfl)) rfl ?_
              exact ⟨rfl, bel HB.out⟩
            · have d2 : ((es.size : Int) == 1) = false := by
                rw [beq_eq_false_iff_ne]
                omega
              clear hhit hsm
              have hb9 : (W1.alloc (.cells #[.bool o, .int .i64 f, .int .i64 z] 23 (0, 0))).heap[g6]? = some (.cells #[.bool false, .int .i64 0, .int .i64 0] 23 (0, 0)) := blk_alloc BK6.out _
              have hcz6 := cz3 hb9
              have hfz6 := blk_frozen hb9
              clear hb9
              have hm9 : (W1.alloc (.cells #[.bool o, .int .i64 f, .int .i64 z] 23 (0, 0))).heap[mb]? = some (.map es clock) := blk_alloc HM.out _
              have hlen : (Builtin.len_ #[63] 3 #[.map (some mb)]).run Try.prog (W1.alloc (.cells #[.bool o, .int .i64 f, .int .i64 z] 23 (0, 0))) = .ok (.int .i64 es.size) (W1.alloc (.cells #[.bool o, .int .i64 f, .int .i64 z] 23 (0, 0))) := by
                simp [Builtin.len_, run_underlying Try.underlying63, MapKept.run_getObj_map hm9, goInt, Result.andThen]
              clear hrun hes hmb hb hr7
              go_wp2
              go_roundg k1
              case measure => omega
              case rel =>
                refine ⟨seen.push e.born, ⟨blk_alloc HI.out _⟩, ⟨hm9⟩, ⟨blk_alloc BK6.out _⟩, ⟨bel HB.out⟩, ⟨?_⟩, ⟨fun x hx hc y hk => ?_⟩⟩
                · have h1 := left_shrinks es seen e HE.out
                  have h2 := HS.out
                  omega
                · by_cases q : seen.contains x.born = true
                  · exact HD.out x hx q y hk
                  · have hb : x.born = e.born := by
                      simp at hc q
                      rcases hc with h | h
                      · exact absurd h q
                      · exact h
                    obtain rfl := born_inj es.toList HVM.out.stamps x hx e HEW.out.1 hb
                    obtain rfl := rv_inj (hk.symm.trans HEK.out)
                    rw [← HCN.out]
                    rintro (h1 | h1)
                    · exact c1 h1
                    · exact c2 h1
  · rw [if_neg c0] at h
    simp only [Option.some.injEq, Prod.mk.injEq] at h
    obtain ⟨rfl, rfl, rfl, rfl⟩ := h
    have cb : (c == 0) = false := beq_eq_false_iff_ne.mpr c0
    have cb1 : (c != 0) = true := bne_iff_ne.mpr c0
    go_enter Try.func17, Try.ntmps17
    go_wp2_with (first
      | ((with_reducible refine gate_dst (N := 3) rfl ?_); refine bxe (cs := #[.bool a0_0, .int .i64 a0_1, .int .i64 a0_2]) (t := 23) ?_; intro g3 hg w1 hbox hb; have BK3 := Aside0.mk hbox; have GE3 := Aside0.mk (bge hg HB.out); replace HB := Aside0.mk (bst HB.out hb); clear hb hbox hg)
      | ((with_reducible refine gate_dst (N := 4) rfl ?_); refine bxe (cs := #[.bool a1_0, .int .i64 a1_1, .int .i64 a1_2]) (t := 23) ?_; intro g4 hg w2 hbox hb; have BK4 := Aside0.mk hbox; have GE4 := Aside0.mk (bge hg HB.out); replace BK3 := Aside0.mk (bkb BK3.out hb); replace HB := Aside0.mk (bst HB.out hb); clear hb hbox hg)
      | ((with_reducible refine gate_dst (N := 5) rfl ?_); refine bxe (cs := #[.bool a2_0, .int .i64 a2_1, .int .i64 a2_2]) (t := 23) ?_; intro g5 hg w3 hbox hb; have BK5 := Aside0.mk hbox; have GE5 := Aside0.mk (bge hg HB.out); replace BK3 := Aside0.mk (bkb BK3.out hb); replace BK4 := Aside0.mk (bkb BK4.out hb); replace HB := Aside0.mk (bst HB.out hb); clear hb hbox hg)
      | ((with_reducible refine gate_dst (N := 6) rfl ?_); refine bxe (cs := #[.bool false, .int .i64 0, .int .i64 0]) (t := 23) ?_; intro g6 hg w4 hbox hb; have BK6 := Aside0.mk hbox; have GE6 := Aside0.mk (bge hg HB.out); replace BK3 := Aside0.mk (bkb BK3.out hb); replace BK4 := Aside0.mk (bkb BK4.out hb); replace BK5 := Aside0.mk (bkb BK5.out hb); replace HB := Aside0.mk (bst HB.out hb); clear hb hbox hg; have hcz3 := cz3 BK3.out; have hcz4 := cz3 BK4.out; have hcz5 := cz3 BK5.out; have hfz3 := blk_frozen BK3.out; have hfz4 := blk_frozen BK4.out; have hfz5 := blk_frozen BK5.out)
      | ((with_reducible refine gate_dst (N := 15) rfl ?_); refine Kd.R_lit k23 _ 23 ?hg (N := 15) ?hd (xs := [s3 (a0_0, a0_1, a0_2), s3 (a1_0, a1_1, a1_2), s3 (a2_0, a2_1, a2_2)]) (inner := [.bool a0_0, .int .i64 a0_1, .int .i64 a0_2, .bool a1_0, .int .i64 a1_1, .int .i64 a1_2, .bool a2_0, .int .i64 a2_1, .int .i64 a2_2]) (ok := fun _ => True) (okp := fun _ => True) ?hr ?hp (fun _ hk => hk) trivial (Below.refl _ _) (Nat.le_refl _) (by simp) ?_; (case hd => rfl); (case hg => rfl); (case hr => first | (go_simp; done) | (go_simp; rfl)); (case hp => exact (Reps.c3 (show Kd.M k23 _ _ _ (s3 (a0_0, a0_1, a0_2)) [.bool a0_0, .int .i64 a0_1, .int .i64 a0_2] from (k23_mkM _ _ _ (s3 (a0_0, a0_1, a0_2)))) (Reps.c3 (show Kd.M k23 _ _ _ (s3 (a1_0, a1_1, a1_2)) [.bool a1_0, .int .i64 a1_1, .int .i64 a1_2] from (k23_mkM _ _ _ (s3 (a1_0, a1_1, a1_2)))) (Reps.c3 (show Kd.M k23 _ _ _ (s3 (a2_0, a2_1, a2_2)) [.bool a2_0, .int .i64 a2_1, .int .i64 a2_2] from (k23_mkM _ _ _ (s3 (a2_0, a2_1, a2_2)))) (Reps.none _ _))))); intro vs w5 ho hb hg_ hnew_; clear hg_ hnew_; rw [← Ny.out] at ho; obtain ⟨As, cs, es⟩ := Kd.R_slice ho; subst es; have HCs := Aside0.mk (Kd.R_reads' ho).2.2; have HLs := Aside0.mk (Kd.R_reads' ho).2.1; replace BK3 := Aside0.mk (bkb BK3.out hb); replace BK4 := Aside0.mk (bkb BK4.out hb); replace BK5 := Aside0.mk (bkb BK5.out hb); replace BK6 := Aside0.mk (bkb BK6.out hb); replace HB := Aside0.mk (bst HB.out hb); clear hb ho)
      | ((with_reducible refine gate_dst (N := 24) rfl ?_); refine Kd.R_lit k23 _ 23 ?hg (N := 24) ?hd (xs := [s3 (a0_0, a0_1, a0_2), s3 (a1_0, a1_1, a1_2), s3 (a2_0, a2_1, a2_2)]) (inner := [.bool a0_0, .int .i64 a0_1, .int .i64 a0_2, .bool a1_0, .int .i64 a1_1, .int .i64 a1_2, .bool a2_0, .int .i64 a2_1, .int .i64 a2_2]) (ok := fun _ => True) (okp := fun _ => True) ?hr ?hp (fun _ hk => hk) trivial (Below.refl _ _) (Nat.le_refl _) (by simp) ?_; (case hd => rfl); (case hg => rfl); (case hr => first | (go_simp; done) | (go_simp; rfl)); (case hp => exact (Reps.c3 (show Kd.M k23 _ _ _ (s3 (a0_0, a0_1, a0_2)) [.bool a0_0, .int .i64 a0_1, .int .i64 a0_2] from (k23_mkM _ _ _ (s3 (a0_0, a0_1, a0_2)))) (Reps.c3 (show Kd.M k23 _ _ _ (s3 (a1_0, a1_1, a1_2)) [.bool a1_0, .int .i64 a1_1, .int .i64 a1_2] from (k23_mkM _ _ _ (s3 (a1_0, a1_1, a1_2)))) (Reps.c3 (show Kd.M k23 _ _ _ (s3 (a2_0, a2_1, a2_2)) [.bool a2_0, .int .i64 a2_1, .int .i64 a2_2] from (k23_mkM _ _ _ (s3 (a2_0, a2_1, a2_2)))) (Reps.none _ _))))); intro vs w5 ho hb hg_ hnew_; clear hg_ hnew_; rw [← Ny.out] at ho; obtain ⟨As, cs, es⟩ := Kd.R_slice ho; subst es; have HCs := Aside0.mk (Kd.R_reads' ho).2.2; have HLs := Aside0.mk (Kd.R_reads' ho).2.1; replace BK3 := Aside0.mk (bkb BK3.out hb); replace BK4 := Aside0.mk (bkb BK4.out hb); replace BK5 := Aside0.mk (bkb BK5.out hb); replace BK6 := Aside0.mk (bkb BK6.out hb); replace HB := Aside0.mk (bst HB.out hb); clear hb ho)
      | (go_at_call 43; refine (sensor_checked.calls (0 + 9) _ _ ys _ _ HCs.out HLs.out HCH.out).mono ?_; rintro e w6 ⟨rfl, hb⟩; replace BK3 := Aside0.mk (bkb BK3.out hb); replace BK4 := Aside0.mk (bkb BK4.out hb); replace BK5 := Aside0.mk (bkb BK5.out hb); replace BK6 := Aside0.mk (bkb BK6.out hb); replace HB := Aside0.mk (bst HB.out hb); clear HCs HLs; have hcz3 := cz3 BK3.out; have hcz4 := cz3 BK4.out; have hcz5 := cz3 BK5.out; have hcz6 := cz3 BK6.out; have hfz3 := blk_frozen BK3.out; have hfz4 := blk_frozen BK4.out; have hfz5 := blk_frozen BK5.out; have hfz6 := blk_frozen BK6.out)
      | (go_at_call 44; refine (counted_calls2 _ _ [((a0_0, a0_1, a0_2) : R3), (a1_0, a1_1, a1_2), (a2_0, a2_1, a2_2)] _ Ny.out HCs.out HLs.out HOK.out (by simp)).mono ?_; rintro e w7 ⟨mb, rfl, hmb, hVt, hb⟩; obtain ⟨es, clock, hes, hVM⟩ := hVt; have hrun := run_range_map w7 _ _ _ mb es clock Try.underlying63 hes; have HES := Aside0.mk hes; have HVM := Aside0.mk hVM; have HMB := Aside0.mk (show w.heap.size ≤ mb from Nat.le_trans (bsz HB.out) hmb); replace BK6 := Aside0.mk (bkb BK6.out hb); replace HB := Aside0.mk (bst HB.out hb); clear hVM))
    refine bodyPost_ret (results_ct rfl _ _ g6 23 #[.bool false, .int .i64 0, .int .i64 0] (0, 0) _ rfl (bkt BK6.out) Try.underlying23 rfl (by kernel_rfl)) rfl ?_
    exact ⟨rfl, bel HB.out⟩
end Go.Proofs.Ytlkphdcfgaolnaa.P
