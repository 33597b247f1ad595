/- What the program computes for runs of valid drives, in closed form: plain Lean, no program. -/
import Derived.Test.YtfeikhooaadlbaaM
import Derived.Test.YtfeikhooaadlbaaNb
namespace Go.Proofs.Ytfeikhooaadlbaa.P
open Go.RowKit Go.Proofs.YtfeikhooaadlbaaW.PrintWords Go.Proofs.YtfeikhooaadlbaaW.PrintLast Go.Proofs.YtfeikhooaadlbaaW.PrintMore
set_option linter.unusedSimpArgs false
set_option linter.unusedVariables false

theorem dst_add (sp br : Int) (s : DS) (k : Nat) : ∀ m, dst sp br s (k + m) = dst sp br (dst sp br s k) m
  | 0 => rfl
  | m + 1 => by
    have := dst_add sp br s k m
    rw [show k + (m + 1) = (k + m) + 1 from rfl, dst, this]
    rfl
theorem dmc_add (sp br : Int) (s : DS) (k : Nat) : ∀ m, dmc sp br s (k + m) = dmc sp br s k + dmc sp br (dst sp br s k) m
  | 0 => by show dmc sp br s k = dmc sp br s k + 0; omega
  | m + 1 => by
    have h := dmc_add sp br s k m
    rw [show k + (m + 1) = (k + m) + 1 from rfl, dmc, h, dst_add sp br s k m, dmc]
    omega
theorem dcnt_at {sp br : Int} {K : Nat} {s : DS} {T : Nat} (h : dcnt sp br K s = some T) : ∀ k, k ≤ T → dcnt sp br K (dst sp br s k) = some (T - k)
  | 0, _ => h
  | k + 1, hk => ((dcnt_run sp br K s T h).2 k (by omega)).2.2
theorem dst_ok {sp br : Int} {p g s part left : Int} (h : DV sp br p g s part left) {T : Nat} (hT : dcnt sp br 70000 (p, g, s, part, left) = some T) : ∀ k, k ≤ T →
    DV sp br (dst sp br (p, g, s, part, left) k).1 (dst sp br (p, g, s, part, left) k).2.1 (dst sp br (p, g, s, part, left) k).2.2.1 (dst sp br (p, g, s, part, left) k).2.2.2.1 (dst sp br (p, g, s, part, left) k).2.2.2.2
  | 0, _ => h
  | k + 1, hk => by
    have ih := dst_ok h hT k (by omega)
    obtain ⟨q1, _, _⟩ := (dcnt_run sp br 70000 _ T hT).2 k (by omega)
    have ht := (tk_ok ih q1).1
    have e : dst sp br (p, g, s, part, left) (k + 1) = ((tk sp br (dst sp br (p, g, s, part, left) k).1 (dst sp br (p, g, s, part, left) k).2.1 (dst sp br (p, g, s, part, left) k).2.2.1 (dst sp br (p, g, s, part, left) k).2.2.2.1 (dst sp br (p, g, s, part, left) k).2.2.2.2).1,
        (tk sp br (dst sp br (p, g, s, part, left) k).1 (dst sp br (p, g, s, part, left) k).2.1 (dst sp br (p, g, s, part, left) k).2.2.1 (dst sp br (p, g, s, part, left) k).2.2.2.1 (dst sp br (p, g, s, part, left) k).2.2.2.2).2.1,
        (tk sp br (dst sp br (p, g, s, part, left) k).1 (dst sp br (p, g, s, part, left) k).2.1 (dst sp br (p, g, s, part, left) k).2.2.1 (dst sp br (p, g, s, part, left) k).2.2.2.1 (dst sp br (p, g, s, part, left) k).2.2.2.2).2.2.1,
        (tk sp br (dst sp br (p, g, s, part, left) k).1 (dst sp br (p, g, s, part, left) k).2.1 (dst sp br (p, g, s, part, left) k).2.2.1 (dst sp br (p, g, s, part, left) k).2.2.2.1 (dst sp br (p, g, s, part, left) k).2.2.2.2).2.2.2.1,
        (tk sp br (dst sp br (p, g, s, part, left) k).1 (dst sp br (p, g, s, part, left) k).2.1 (dst sp br (p, g, s, part, left) k).2.2.1 (dst sp br (p, g, s, part, left) k).2.2.2.1 (dst sp br (p, g, s, part, left) k).2.2.2.2).2.2.2.2.1) := by
      rw [dst]
      unfold dnx dtick?
      rw [show 20 = 19 + 1 from rfl, tick_eq 19 ih q1]
    rw [e]
    exact ht
/-- A run of a valid drive. -/
theorem Run_ok {sp br : Int} {p g s part left : Int} (h : DV sp br p g s part left) (hb : br ≤ 5) {T : Nat} (hT : dcnt sp br 70000 (p, g, s, part, left) = some T) (n : Nat) (hn : n ≤ 200000) :
    drive_Run.f p g s part left sp br (n : Int) = some ((dst sp br (p, g, s, part, left) (min T n)).1, (dst sp br (p, g, s, part, left) (min T n)).2.1, (dst sp br (p, g, s, part, left) (min T n)).2.2.1, (dst sp br (p, g, s, part, left) (min T n)).2.2.2.1, (dst sp br (p, g, s, part, left) (min T n)).2.2.2.2, dmc sp br (p, g, s, part, left) (min T n), 0) := by
  unfold drive_Run.f
  rw [show 20 = 17 + 3 from rfl, checked_ok 17 h hb (by omega), Option.bind_some, if_pos rfl, if_pos (by omega), hT, Int.toNat_natCast]
  rfl
end Go.Proofs.Ytfeikhooaadlbaa.P
