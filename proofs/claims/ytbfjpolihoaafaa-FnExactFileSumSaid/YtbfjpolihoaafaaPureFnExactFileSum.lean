/- FnExactFileSum over numbers and lists alone: at every bytes the program's FileSum and the reference's answer alike, and the bytes read as before. -/
import Derived.Test.YtbfjpolihoaafaaSFnExactFileSum
import Derived.Test.YtbfjpolihoaafaaLib
namespace Go.Proofs.Ytbfjpolihoaafaa.Pure
open Go.RowKit Go.Proofs.Ytbfjpolihoaafaa.PFnExactFileSum Go.Proofs.YtbfjpolihoaafaaW.PrintWords Go.Proofs.YtbfjpolihoaafaaW.PrintLast Go.Proofs.Ytbfjpolihoaafaa.Lib

def sumSt (l : List Int) : Nat → Int × Int
  | 0 => (1, 0)
  | i + 1 => (Int.tmod (wrap64 ((sumSt l i).1 + wrap64 (rd l i))) 251, Int.tmod (wrap64 ((sumSt l i).2 + Int.tmod (wrap64 ((sumSt l i).1 + wrap64 (rd l i))) 251)) 251)
def sumOf (l : List Int) : Int := if (l.length : Int) > 65536 then 0 else wrap64 (wrap64 (256 * (sumSt l l.length).2) + (sumSt l l.length).1)
theorem spec_sum (l : List Int) (h : l.length ≤ 1048576) : Ev (fun k => spec_FileSum.f k l) (sumOf l) := by
  unfold spec_FileSum.f sumOf
  by_cases h1 : (l.length : Int) > 65536
  · simp only [if_pos h1]; exact ev_const rfl
  · simp only [if_neg h1]
    refine Ev.bind (g := fun k => spec_l20Sum.f k l) (a := wrap64 (wrap64 (256 * (sumSt l l.length).2) + (sumSt l l.length).1)) ?_ (Ev.now _)
    refine ev_run0 (fun i k => spec_l20Sum.l0 k l (sumSt l i).1 (sumSt l i).2 (i : Int)) l.length (fun i hi k => ?_) (ev_some fun k => ?_)
    · show spec_l20Sum.l0 (k + 1) l (sumSt l i).1 (sumSt l i).2 (i : Int) = spec_l20Sum.l0 k l (sumSt l (i + 1)).1 (sumSt l (i + 1)).2 ((i + 1 : Nat) : Int)
      simp only [spec_l20Sum.l0]
      rw [if_pos (by omega), if_pos (by omega), wr_succ i (by omega)]
      rfl
    · simp only [spec_l20Sum.l0]
      rw [if_neg (by omega)]
theorem impl_sum (l : List Int) (h : l.length ≤ 1048576) : Ev (fun k => impl_FileSum.f k l) (sumOf l) := by
  unfold impl_FileSum.f sumOf
  by_cases h1 : (l.length : Int) > 65536
  · simp only [if_pos h1]; exact ev_const rfl
  · simp only [if_neg h1]
    refine ev_run0 (fun i k => impl_FileSum.l0 k (sumSt l i).1 (sumSt l i).2 l (l.length : Int) (i : Int)) l.length (fun i hi k => ?_) (ev_some fun k => ?_)
    · show impl_FileSum.l0 (k + 1) (sumSt l i).1 (sumSt l i).2 l (l.length : Int) (i : Int) = impl_FileSum.l0 k (sumSt l (i + 1)).1 (sumSt l (i + 1)).2 l (l.length : Int) ((i + 1 : Nat) : Int)
      simp only [impl_FileSum.l0]
      rw [if_pos (by omega), if_pos (by omega), if_pos (by omega), wr_succ i (by omega)]
      rfl
    · simp only [impl_FileSum.l0]
      rw [if_neg (by omega)]
theorem copy_bytes (l : List Int) (h : l.length ≤ 1048576) : Ev (fun k => laws_toByteS.f k l) l := by
  have := copy_loop laws_toByteS.l0 (fun x : Int => x) 0 (fun k x0 x3 i h1 h2 => by
    simp only [laws_toByteS.l0]
    rw [if_pos (by omega), if_pos (by omega), if_pos (by omega)]
    rfl) (fun k x0 x3 => by simp only [laws_toByteS.l0]; rw [if_neg (by omega)]) l (by omega) (List.replicate l.length 0) (by simp)
  simp only [List.map_id'] at this
  unfold laws_toByteS.f
  simp only [show (0 : Int) ≤ (l.length : Int) from by omega, if_true, Int.toNat_natCast, show l.length ≤ 281474976710656 from by omega]
  exact this
theorem same_bytes (l : List Int) (h : l.length ≤ 1048576) : Ev (fun k => laws_eqByteS.f k l l) true := by
  unfold laws_eqByteS.f
  simp only [if_true]
  exact same_loop laws_eqByteS.l0 l (fun k i hi => by
    simp only [laws_eqByteS.l0]
    rw [if_pos (by omega), if_pos (by omega), if_pos (by omega), if_pos trivial]) (fun k => by simp only [laws_eqByteS.l0]; rw [if_neg (by omega)]) (by omega)
theorem FnExactFileSum : laws_FnExactFileSum.Plain := by
  intro l _
  refine Ev.rounds ?_
  unfold laws_FnExactFileSum.f
  by_cases h : (l.length : Int) > 1048576
  · simp only [if_pos h]; exact Ev.now _
  · simp only [if_neg h]
    have hc := copy_bytes l (by omega)
    refine Ev.bind hc ?_
    refine Ev.bind (spec_sum l (by omega)) ?_
    refine Ev.bind hc ?_
    refine Ev.bind (impl_sum l (by omega)) ?_
    simp only [if_true]
    refine Ev.bind hc ?_
    refine Ev.bind (same_bytes l (by omega)) ?_
    simp only [if_true]
    exact Ev.now _
end Go.Proofs.Ytbfjpolihoaafaa.Pure
