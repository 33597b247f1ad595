/- Package sensor: a vote of three readings: what it answers, and that the Go code comes to just this. -/
import Derived.Test.YtlkphdcfgaolnaaP0sensor
import Derived.Test.YtlkphdcfgaolnaaVm
import Derived.Test.YtlkphdcfgaolnaaRo
namespace Go.Proofs.Ytlkphdcfgaolnaa.P
open Go.RowKit Go.Proofs.YtlkphdcfgaolnaaW.PrintWords Go.Proofs.YtlkphdcfgaolnaaW.PrintLast Go.Proofs.YtlkphdcfgaolnaaW.PrintMore
open Go.Maps (Keyed)
open Go.ChangeMaps
set_option linter.unusedVariables false
set_option linter.unusedSimpArgs false

def s3 (x : R3) : S23 := ⟨x.1, x.2.1, x.2.2⟩
theorem vote1_calls (x : R3) (w : World) : Calls Try.prog 45 #[rv x] w fun e w' => e = .returned (.bool x.1) ∧ Below w.heap.size w w' := by
  obtain ⟨o, f, z⟩ := x
  have hu := Try.underlying23
  unfold rv
  go_enter Try.func45, Try.ntmps45
  go_wp2
  go_ret
  exact ⟨rfl, bel (Below.refl _ _)⟩

/-- The map in the world. -/
def Votes (W : World) (mb : Nat) (l : List R3) : Prop := ∃ es clock, W.heap[mb]? = some (.map es clock) ∧ VM es clock l
theorem Votes.move {W W' : World} {mb : Nat} {l : List R3} (h : Votes W mb l) (he : W'.heap[mb]? = W.heap[mb]?) : Votes W' mb l := by
  obtain ⟨es, c, h1, h2⟩ := h
  exact ⟨es, c, he.trans h1, h2⟩
theorem Votes.lt {W : World} {mb : Nat} {l : List R3} (h : Votes W mb l) : mb < W.heap.size := by
  obtain ⟨es, c, h1, h2⟩ := h
  exact blk_lt h1
theorem Votes.set {W : World} {mb g : Nat} {l : List R3} (h : Votes W mb l) (hne : mb ≠ g) (i : Nat) (v : Value) : Votes (W.setCell ⟨g, i, none⟩ v) mb l := h.move (Below.heap_setCell W _ v mb hne)
theorem Votes.below {W W' : World} {mb : Nat} {l : List R3} (h : Votes W mb l) (hb : Below W.heap.size W W') : Votes W' mb l := h.move (hb.block mb h.lt)
theorem below_setBlock {w W : World} {b : Nat} {o : Obj} (h : Below w.heap.size w W) (hb : w.heap.size ≤ b) : Below w.heap.size w (setBlock W b o) :=
  ⟨h.os, h.tape, h.output, by simpa [setBlock] using h.size, fun k hk => by
    have hne : ¬ b = k := by omega
    simp only [setBlock, Array.getElem?_setIfInBounds, if_neg hne]
    exact h.block k hk⟩

set_option maxHeartbeats 4000000 in
theorem counted_calls (A : Option Addr) (c : Nat) (l : List R3) (w : World) (hr : Kd.C k23 w A l.length (l.map s3)) (hc : l.length ≤ c) (hl : ∀ y ∈ l, Rok y) (hn : l.length ≤ 100) :
    Calls Try.prog 44 #[.func (.func 45) #[] #[], .slice A l.length c] w
      fun e w' => ∃ mb, e = .returned (.map (some mb)) ∧ w.heap.size ≤ mb ∧ Votes w' mb (l.filter (·.1)) ∧ Below w.heap.size w w' := by
  have hu := Try.underlying23
  have HR := Aside0.mk hr
  clear hr
  have hmm := @run_makeMap Try.prog
  go_enter Try.func44, Try.ntmps44
  go_wp2
  have hV0 : Votes (w.alloc (.map #[] 0)) w.heap.size ([] : List R3) := ⟨#[], 0, blk_new w _, VM.empty 0⟩
  go_loopg [11] l.length (fun kq v11 wr => ∃ i : Nat, v11 = .int .i64 i ∧ Aside0 (i + kq = l.length) ∧ Aside0 (Votes wr w.heap.size ((l.take i).filter (·.1))) ∧ Aside0 (Below w.heap.size w wr))
  case atStart => exact ⟨0, rfl, ⟨by omega⟩, ⟨hV0⟩, ⟨bel (Below.refl _ _)⟩⟩
  case round =>
    obtain ⟨i, rfl, HI, HV, HB⟩ := hrel
    cases gk with
    | zero =>
      have hi := HI.out
      have c1 : ((i : Int) < (l.length : Int)) = False := eq_false (by omega)
      go_wp2
      go_ret
      refine ⟨w.heap.size, rfl, Nat.le_refl _, ?_, HB.out⟩
      have := HV.out
      rw [List.take_of_length_le (by omega)] at this
      exact this
    | succ k1 =>
      have hi := HI.out
      have hil : i < l.length := by omega
      obtain ⟨ad, eA, h0, h1, h2⟩ := at_T23 HR.out (i : Int) (by omega) (by omega)
      subst eA
      have ex : rd_T23 (l.map s3) (i : Int) = s3 l[i] := by
        unfold rd_T23
        simp [List.getD_eq_getElem?_getD, hil]
      rw [ex] at h0 h1 h2
      have hx := hl l[i] (List.getElem_mem hil)
      have hxt : l.take (i + 1) = l.take i ++ [l[i]] := by rw [List.take_succ_eq_append_getElem hil]
      generalize l[i] = x at h0 h1 h2 hx hxt
      obtain ⟨o, f, z⟩ := x
      replace h0 := (HB.out.cell (World.block_lt_of_cell? w _ h0)).trans h0
      replace h1 := (HB.out.cell (World.block_lt_of_cell? w _ h1)).trans h1
      replace h2 := (HB.out.cell (World.block_lt_of_cell? w _ h2)).trans h2
      have HX := Aside0.mk hx
      have p1 : ((i : Int) < (l.length : Int)) = True := eq_true (by omega)
      have p2 : (0 ≤ (i : Int)) = True := eq_true (by omega)
      have HXT := Aside0.mk hxt
      clear hx hxt ex
      unfold s3 at h0 h1 h2
      dsimp only at h0 h1 h2
      simp only [Int.toNat_natCast] at h0 h1 h2
      cases o with
      | true =>
        go_upto_region 6 with (first
          | ((with_reducible refine gate_dst (N := 7) rfl ?_); refine bxe (cs := #[.bool false, .int .i64 0, .int .i64 0]) (t := 23) ?_; intro gx hg W1 hbox hb; have BKx := Aside0.mk hbox; have NE := Aside0.mk (show w.heap.size ≠ gx by have := HV.out.lt; omega); have GEx := Aside0.mk (bge hg HB.out); replace HV := Aside0.mk (HV.out.below hb); replace HB := Aside0.mk (bst HB.out hb); clear hb hbox hg; have hcz := cz3 BKx.out; have hfz := blk_frozen BKx.out)
          | (go_at_call 45; refine (vote1_calls (true, f, z) _).mono ?_; rintro e W2 ⟨rfl, hb⟩; have BKy := Aside0.mk (blk_below (g := gx) (o := .cells #[.bool true, .int .i64 f, .int .i64 z] 23 (0, 0)) (bkt BKx.out) hb); have HV2 := Aside0.mk ((((HV.out.set NE.out _ _).set NE.out _ _).set NE.out _ _).below hb); replace HB := Aside0.mk (bst HB.out hb)))
        obtain ⟨es, clock, hes, hVM⟩ := HV2.out
        have hlt : ∀ y ∈ (l.take i).filter (·.1), Rok y := fun y hy => hl y (List.mem_of_mem_take (List.mem_filter.1 hy).1)
        obtain ⟨v0, st, es1, clock1, hrun, hlook, hstore⟩ := vm_entry hVM hlt HX.out (W := W2.drew) (mb := w.heap.size) hes
        have hcn : (((l.take i).filter (·.1)).count (true, f, z) : Int) ≤ 100 := by
          exact Int.ofNat_le.2 (Nat.le_trans List.count_le_length (Nat.le_trans (List.length_filter_le _ _) (Nat.le_trans (List.length_take_le' _ _) hn)))
        have hl0 := vm_look hVM hlt HX.out (W := W2.drew) (mb := w.heap.size) hes
        have hwr : IntKind.i64.wrap ((((l.take i).filter (·.1)).count (true, f, z) : Nat) + 1 : Int) = (((l.take i).filter (·.1)).count (true, f, z) : Nat) + 1 := by
          rw [i64_w]
          exact wsv _ (by omega) (by omega)
        have HXN : (((l.take i).filter (·.1)) ++ [((true, f, z) : R3)]) = (l.take (i + 1)).filter (·.1) := by
          rw [HXT.out, List.filter_append]
          rfl
        rw [HXN] at hstore
        unfold rv at hrun hlook hl0
        dsimp only at hrun hlook hl0
        generalize hcnt : ((l.take i).filter (·.1)).count (true, f, z) = n at hrun hlook hstore hl0 hwr hcn
        have HRUN := Aside0.mk hrun
        have HLOOK := Aside0.mk hlook
        have HSTORE := Aside0.mk hstore
        clear hrun hlook hstore
        have e0 : W2.drew.cell? ⟨gx, 0, none⟩ = some (.bool true) := (blk_cell BKy.out 0).trans rfl
        have e1 : W2.drew.cell? ⟨gx, 1, none⟩ = some (.int .i64 f) := (blk_cell BKy.out 1).trans rfl
        have e2 : W2.drew.cell? ⟨gx, 2, none⟩ = some (.int .i64 z) := (blk_cell BKy.out 2).trans rfl
        refine wp_region_J (fun W => W.cell? ⟨gx, 0, none⟩ = some (.bool true) ∧ W.cell? ⟨gx, 1, none⟩ = some (.int .i64 f) ∧ W.cell? ⟨gx, 2, none⟩ = some (.int .i64 z) ∧
          (Instr.lookup 63 (.map (some w.heap.size)) (.agg #[.bool true, .int .i64 f, .int .i64 z]) false).run Try.prog W = .ok (.int .i64 n) W) 6 (by kernel_rfl) ⟨e0, e1, e2, hl0⟩ (fun hS => ?_)
        repeat ((first | refine tk0 0 (some 18) ?_ | refine tk 1 (some 19) ?_ | refine tk 2 (some 20) ?_ | refine tk0 3 (some 21) ?_ | refine tk0 4 (some 22) ?_ | refine tk0 5 (some 23) ?_); simp only [Act.put, List.setIfInBounds_toArray, List.set_cons_zero, List.set_cons_succ])
        refine wpAnyJ_one (i := 4) (by decide +kernel) rfl (fun K hK => ?_)
        have hr := HRUN.out
        go_simp
        clear hr
        have hml : w.heap.size < W2.drew.heap.size := blk_lt hes
        have hes1 : (setBlock W2.drew w.heap.size (.map es1 clock1)).heap[w.heap.size]? = some (.map es1 clock1) := by
          show (W2.drew.heap.setIfInBounds w.heap.size _)[w.heap.size]? = _
          rw [Array.getElem?_setIfInBounds, if_pos rfl, if_pos hml]
        have hgx1 : (setBlock W2.drew w.heap.size (.map es1 clock1)).heap[gx]? = some (.cells #[.bool true, .int .i64 f, .int .i64 z] 23 (0, 0)) := by
          have := NE.out
          simp only [setBlock, Array.getElem?_setIfInBounds, if_neg this]
          exact BKy.out
        have hsz1 : (setBlock W2.drew w.heap.size (.map es1 clock1)).heap.size = W2.heap.size := by simp [setBlock]
        refine hK.out _ _ (fun _ => ⟨(blk_cell hgx1 0).trans rfl, (blk_cell hgx1 1).trans rfl, (blk_cell hgx1 2).trans rfl, HLOOK.out _ hes1⟩) (fun hS => ?_)
        have hS := hS (by decide +kernel)
        clear hK K
        try simp only [Act.put, List.setIfInBounds_toArray, List.set_cons_zero, List.set_cons_succ]
        repeat ((first | refine tk0 0 (some 18) ?_ | refine tk 1 (some 19) ?_ | refine tk 2 (some 20) ?_ | refine tk0 3 (some 21) ?_ | refine tk0 4 (some 22) ?_ | refine tk0 5 (some 23) ?_); simp only [Act.put, List.setIfInBounds_toArray, List.set_cons_zero, List.set_cons_succ])
        refine wpAnyJ_one (i := 6) (by decide +kernel) rfl (fun K hK => ?_)
        obtain ⟨es2, clock2, hr, hVM2⟩ := HSTORE.out _ hes1
        unfold goInt at hr
        go_simp
        clear hr
        refine hK.out _ _ (fun q => absurd q (by decide +kernel)) (fun _ => ?_)
        clear hK K
        refine wpAnyJ_done (by decide +kernel) ?_ _
        have HV3 : Aside0 (Votes (setBlock (setBlock W2.drew w.heap.size (.map es1 clock1)) w.heap.size (.map es2 clock2)) w.heap.size ((l.take (i + 1)).filter (·.1))) := ⟨⟨es2, clock2, by
          show ((setBlock W2.drew w.heap.size (.map es1 clock1)).heap.setIfInBounds w.heap.size _)[w.heap.size]? = _
          rw [Array.getElem?_setIfInBounds, if_pos rfl, if_pos (blk_lt hes1)], hVM2⟩⟩
        have HB3 : Aside0 (Below w.heap.size w (setBlock (setBlock W2.drew w.heap.size (.map es1 clock1)) w.heap.size (.map es2 clock2))) := ⟨below_setBlock (below_setBlock (bel HB.out) (Nat.le_refl _)) (Nat.le_refl _)⟩
        generalize setBlock (setBlock W2.drew w.heap.size (.map es1 clock1)) w.heap.size (.map es2 clock2) = W3 at HV3 HB3 ⊢
        have hwi : IntKind.i64.wrap ((i : Int) + 1) = ((i + 1 : Nat) : Int) := by
          rw [i64_w, wsv _ (by omega) (by omega)]
          omega
        go_wp2
        go_roundg k1
        case measure => omega
        case rel => exact ⟨i + 1, by first | rfl | simp, ⟨by omega⟩, HV3, HB3⟩
      | false =>
        have hwi : IntKind.i64.wrap ((i : Int) + 1) = ((i + 1 : Nat) : Int) := by
          rw [i64_w, wsv _ (by omega) (by omega)]
          omega
        go_wp2_with (first
          | ((with_reducible refine gate_dst (N := 7) rfl ?_); refine bxe (cs := #[.bool false, .int .i64 0, .int .i64 0]) (t := 23) ?_; intro gx hg W1 hbox hb; have BKx := Aside0.mk hbox; have NE := Aside0.mk (show w.heap.size ≠ gx by have := HV.out.lt; omega); have GEx := Aside0.mk (bge hg HB.out); replace HV := Aside0.mk (HV.out.below hb); replace HB := Aside0.mk (bst HB.out hb); clear hb hbox hg; have hcz := cz3 BKx.out; have hfz := blk_frozen BKx.out)
          | (go_at_call 45; refine (vote1_calls (false, f, z) _).mono ?_; rintro e W2 ⟨rfl, hb⟩; have HV2 := Aside0.mk ((((HV.out.set NE.out _ _).set NE.out _ _).set NE.out _ _).below hb); replace HB := Aside0.mk (bst HB.out hb)))
        go_roundg k1
        case measure => omega
        case rel =>
          refine ⟨i + 1, by first | rfl | simp, ⟨by omega⟩, ⟨?_⟩, HB⟩
          rw [HXT.out, List.filter_append]
          simpa using HV2.out
/-! What a vote comes to. -/
def vck (x : R3) : Int := if x.2.1 < -1 ∨ x.2.1 ≥ 64 ∨ x.2.2 < 0 ∨ x.2.2 > 1 then 2 else if x.1 = false ∧ ¬ (x.2.1 = -1 ∧ x.2.2 = 0) then 3 else 0
theorem sensor_Check_eq (k : Nat) (o : Bool) (f z : Int) : sensor_Check.f (k + 2) o f z = some (vck (o, f, z)) := by
  have hj : ∀ b, sensor_Check.j0 (k + 2) b o f z = some (if b = true then 2 else if o = false ∧ ¬ (f = -1 ∧ z = 0) then 3 else 0) := fun b => by
    rw [sensor_Check.j0]
    cases b
    · cases o
      · by_cases c1 : f = -1 <;> by_cases c2 : z = 0 <;> simp [sensor_failed.f, c1, c2]
      · simp
    · simp
  unfold sensor_Check.f vck
  dsimp only
  rw [hj, hj]
  repeat' split
  all_goals first | rfl | (exfalso; omega) | (congr 1; simp_all; done) | (simp_all; omega) | simp_all
def vchk (a b c : R3) : Int := if vck a ≠ 0 then vck a else if vck b ≠ 0 then vck b else vck c
theorem sensor_checked_eq (k : Nat) (a b c : R3) : sensor_checked.f (k + 9) [s3 a, s3 b, s3 c] = some (vchk a b c) := by
  unfold sensor_checked.f vchk
  have h0 : rd_T23 [s3 a, s3 b, s3 c] 0 = s3 a := rfl
  have h1 : rd_T23 [s3 a, s3 b, s3 c] 1 = s3 b := rfl
  have h2 : rd_T23 [s3 a, s3 b, s3 c] 2 = s3 c := rfl
  have e1 : wrap64 (0 + 1) = 1 := wsv _ (by decide) (by decide)
  have e2 : wrap64 (1 + 1) = 2 := wsv _ (by decide) (by decide)
  have e3 : wrap64 (2 + 1) = 3 := wsv _ (by decide) (by decide)
  have hk : ∀ n x, sensor_Check.f (n + 2) (s3 x).f0 (s3 x).f1 (s3 x).f2 = some (vck x) := fun n x => sensor_Check_eq n _ _ _
  simp only [List.length_cons, List.length_nil]
  rw [show k + 9 = (k + 6 + 2) + 1 by omega, sensor_checked.l0, if_pos (by decide), if_pos (by decide), if_pos (by simp), h0, hk, Option.bind_some, e1]
  by_cases ca : vck a = 0
  · rw [if_pos ca, if_neg (fun q => q ca), show k + 6 + 2 = (k + 5 + 2) + 1 by omega, sensor_checked.l0, if_pos (by decide), if_pos (by decide), if_pos (by simp), h1, hk, Option.bind_some, e2]
    by_cases cb : vck b = 0
    · rw [if_pos cb, if_neg (fun q => q cb), show k + 5 + 2 = (k + 4 + 2) + 1 by omega, sensor_checked.l0, if_pos (by decide), if_pos (by decide), if_pos (by simp), h2, hk, Option.bind_some, e3]
      by_cases cc : vck c = 0
      · rw [if_pos cc, show k + 4 + 2 = (k + 5) + 1 by omega, sensor_checked.l0, if_neg (by decide), cc]
      · rw [if_neg cc]
    · rw [if_neg cb, if_pos cb]
  · rw [if_neg ca, if_pos ca]
theorem vck_ok {x : R3} (h : vck x = 0) : Rok x := by
  unfold vck at h
  unfold Rok
  split at h
  · exact absurd h (by decide)
  · omega
theorem vchk_zero {a b c : R3} (h : vchk a b c = 0) : vck a = 0 ∧ vck b = 0 ∧ vck c = 0 := by
  unfold vchk at h
  split at h
  · contradiction
  · split at h
    · contradiction
    · rename_i h1 h2
      exact ⟨by simpa using h1, by simpa using h2, h⟩
/-- What three valid readings agree on. -/
def vres (a b c : R3) : R3 :=
  if a.1 = true ∧ (a = b ∨ a = c) then a else if b.1 = true ∧ b = c then b
  else if a.1 = true ∧ b.1 = false ∧ c.1 = false then a else if b.1 = true ∧ a.1 = false ∧ c.1 = false then b else if c.1 = true ∧ a.1 = false ∧ b.1 = false then c else (false, -1, 0)
theorem vres_hit (a b c y : R3) (hy : y ∈ [a, b, c].filter (·.1)) (h : 1 < ([a, b, c].filter (·.1)).count y ∨ ∀ y' ∈ [a, b, c].filter (·.1), y' = y) : y = vres a b c := by
  unfold vres
  by_cases ha : a.1 = true <;> by_cases hb : b.1 = true <;> by_cases hc : c.1 = true <;> simp [List.filter, ha, hb, hc, List.count_cons] at hy h ⊢ <;> grind
theorem vres_miss (a b c : R3) (h : ∀ y ∈ [a, b, c].filter (·.1), ¬ (1 < ([a, b, c].filter (·.1)).count y) ∧ ¬ ∀ y' ∈ [a, b, c].filter (·.1), y' = y) : vres a b c = (false, -1, 0) := by
  unfold vres
  by_cases ha : a.1 = true <;> by_cases hb : b.1 = true <;> by_cases hc : c.1 = true <;> simp [List.filter, ha, hb, hc, List.count_cons] at h ⊢ <;> grind
def sensor_Vote.f (a0_0 : Bool) (a0_1 : Int) (a0_2 : Int) (a1_0 : Bool) (a1_1 : Int) (a1_2 : Int) (a2_0 : Bool) (a2_1 : Int) (a2_2 : Int) : Option (Bool × Int × Int × Int) :=
  if vchk (a0_0, a0_1, a0_2) (a1_0, a1_1, a1_2) (a2_0, a2_1, a2_2) = 0 then
    some ((vres (a0_0, a0_1, a0_2) (a1_0, a1_1, a1_2) (a2_0, a2_1, a2_2)).1, (vres (a0_0, a0_1, a0_2) (a1_0, a1_1, a1_2) (a2_0, a2_1, a2_2)).2.1, (vres (a0_0, a0_1, a0_2) (a1_0, a1_1, a1_2) (a2_0, a2_1, a2_2)).2.2, 0)
  else some (false, 0, 0, vchk (a0_0, a0_1, a0_2) (a1_0, a1_1, a1_2) (a2_0, a2_1, a2_2))
end Go.Proofs.Ytlkphdcfgaolnaa.P
