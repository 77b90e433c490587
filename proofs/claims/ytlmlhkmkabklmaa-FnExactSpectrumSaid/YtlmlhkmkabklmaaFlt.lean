/- Floats beside the other scalars: how a row of them is read, and what the walk has at their operations, each a function of their bits. -/
import Derived.Test.YtlmlhkmkabklmaaProg
import Derived.Test.YtlmlhkmkabklmaaWWords
import Derived.Test.YtlmlhkmkabklmaaWMore
namespace Go.Proofs.YtlmlhkmkabklmaaW.PrintWords
open Go.RowKit
namespace Kd
def flt (k : FloatKind) : Kd Nat := scalar (Value.float k) (fun _ => rfl)
theorem at_flt {k : FloatKind} {w : World} {A : Option Addr} {n : Nat} {xs : List Nat} (h : (Kd.flt k).C w A n xs) (i : Int) (h0 : 0 ≤ i) (h1 : i < n) : ∃ ad, A = some ad ∧ w.cell? (ad.add i.toNat) = some (.float k (rdOf (0 : Nat) xs i)) :=
  ReadsOf.at_ (reads_of_C (enc := Value.float k) (d := 0) (h1 := fun _ => rfl) h) i h0 h1
end Kd
/-- What '+', '-', '*', '/' give: some bits where the operation is valid. -/
def fBits (op : BinOp) (k : FloatKind) (x y : Nat) : Option Nat :=
  match op with
  | .add => k.format.add x y
  | .sub => k.format.sub x y
  | .mul => k.format.mul x y
  | .quo => k.format.div x y
  | _ => none
def fOk (op : BinOp) (k : FloatKind) (x y : Nat) : Bool := (fBits op k x y).isSome
def fOf (op : BinOp) (k : FloatKind) (x y : Nat) : Nat := (fBits op k x y).getD 0
def fEq (k : FloatKind) (a b : Nat) : Bool := k.format.order a b == some .eq
def fNe (k : FloatKind) (a b : Nat) : Bool := k.format.order a b != some .eq
def fLt (k : FloatKind) (a b : Nat) : Bool := k.format.order a b == some .lt
def fLe (k : FloatKind) (a b : Nat) : Bool := k.format.order a b == some .lt || k.format.order a b == some .eq
def fGt (k : FloatKind) (a b : Nat) : Bool := k.format.order a b == some .gt
def fGe (k : FloatKind) (a b : Nat) : Bool := k.format.order a b == some .gt || k.format.order a b == some .eq
def fInt (k : FloatKind) (n : Int) : Nat := k.nearest n
def fCbits (s : FloatKind) (bits : Nat) (k : FloatKind) : Option Nat :=
  if s = k then some bits else
  match s.decode bits with
  | .nan _ _ => none
  | .infinity g => some (k.encode (.infinity g))
  | .number g m e => if (k.decode (k.encode (.number g m e))).isInfinity then none else some (k.encode (.number g m e))
def fCok (s : FloatKind) (bits : Nat) (k : FloatKind) : Bool := (fCbits s bits k).isSome
def fConv (s : FloatKind) (bits : Nat) (k : FloatKind) : Nat := (fCbits s bits k).getD 0
section
variable (t : TypeId) (k : FloatKind) (a b : Nat)
theorem fEq_w : binOp .eql t (.float k a) (.float k b) = pure (.bool (fEq k a b)) := by simp [binOp, Op.floatCmp, fEq]
theorem fNe_w : binOp .neq t (.float k a) (.float k b) = pure (.bool (fNe k a b)) := by simp [binOp, Op.floatCmp, fNe]
theorem fLt_w : binOp .lss t (.float k a) (.float k b) = pure (.bool (fLt k a b)) := by simp [binOp, Op.floatCmp, fLt]
theorem fLe_w : binOp .leq t (.float k a) (.float k b) = pure (.bool (fLe k a b)) := by simp [binOp, Op.floatCmp, fLe]
theorem fGt_w : binOp .gtr t (.float k a) (.float k b) = pure (.bool (fGt k a b)) := by simp [binOp, Op.floatCmp, fGt]
theorem fGe_w : binOp .geq t (.float k a) (.float k b) = pure (.bool (fGe k a b)) := by simp [binOp, Op.floatCmp, fGe]
theorem fNeg_w : Op.unary .neg (.float k a) = pure (.float k (Op.negFloat k a)) := rfl
theorem fOf_w {op : BinOp} (h : fOk op k a b = true) : binOp op t (.float k a) (.float k b) = pure (.float k (fOf op k a b)) := by
  obtain ⟨r, hr⟩ := Option.isSome_iff_exists.1 h
  unfold fOf; rw [hr]
  unfold fBits at hr
  cases op <;> simp only at hr <;> first | (cases hr; done) | skip
  all_goals simp [binOp, Op.floatArith, hr]
end
section
variable {P : Program} (w : World)
theorem fStore_w (P : Program) (w : World) (a : Addr) (m : Mode) (k : FloatKind) (b : Nat) : (store a (.float k b) m).run P w = stored P w a (.float k b) m := run_store P w a _ m rfl
theorem fInt_w (src dst : TypeId) (q : IntKind) (k : FloatKind) (n : Int) (hs : (P.underlying src).isSome = true) (hd : P.underlying dst = some (.float k)) :
    (convert src dst (.int q n)).run P w = .ok (.float k (fInt k n)) w := by
  obtain ⟨s, hs'⟩ := Option.isSome_iff_exists.1 hs
  cases s <;> simp [convert, run_underlying hs', run_underlying hd, Conv.intToFloat, fInt]
theorem fConv_w (src dst : TypeId) (s k : FloatKind) (b : Nat) (hs : (P.underlying src).isSome = true) (hd : P.underlying dst = some (.float k)) (h : fCok s b k = true) :
    (convert src dst (.float s b)).run P w = .ok (.float k (fConv s b k)) w := by
  obtain ⟨r, hr⟩ := Option.isSome_iff_exists.1 h
  obtain ⟨u, hs'⟩ := Option.isSome_iff_exists.1 hs
  unfold fConv; rw [hr]
  unfold fCbits at hr
  split at hr
  · rename_i e; cases hr
    cases u <;> simp [convert, run_underlying hs', run_underlying hd, Conv.floatToFloat, e]
  · rename_i ne
    split at hr
    · cases hr
    · rename_i sg he; cases hr
      cases u <;> simp [convert, run_underlying hs', run_underlying hd, Conv.floatToFloat, ne, he]
    · rename_i sg m e he
      split at hr
      · cases hr
      · rename_i ho; cases hr
        cases u <;> simp [convert, run_underlying hs', run_underlying hd, Conv.floatToFloat, ne, he, ho]
end
end Go.Proofs.YtlmlhkmkabklmaaW.PrintWords
