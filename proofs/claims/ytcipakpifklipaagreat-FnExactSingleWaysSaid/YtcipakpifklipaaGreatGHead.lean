/- Two closed facts of this seat's program, for the rows of all its laws; no condition. -/
import Derived.Test.YtcipakpifklipaaGreatRows
import Derived.JoinedOf
import Derived.KernelRfl
namespace Go.Proofs.YtcipakpifklipaaGreat.Head
set_option maxRecDepth 100000
def nums : List Nat := [104, 97, 114, 110, 101, 115, 115, 32, 97, 100, 56, 53, 99, 98, 55, 54, 52, 50, 98, 53, 57, 52, 49, 101, 97, 99, 48, 50, 54, 100, 101, 56, 100, 100, 50, 57, 57, 53, 51, 101, 55, 55, 54, 55, 98, 55, 48, 57, 52, 98, 52, 56, 50, 100, 99, 98, 102, 100, 98, 57, 57, 52, 100, 101, 98, 100, 49, 55, 102, 52, 97, 48, 32, 99, 117, 116, 32, 97, 116, 32, 108, 111, 111, 112, 46, 101, 120, 97, 109, 112, 108, 101, 47, 103, 48, 48, 54, 56, 50, 47, 108, 97, 119, 115, 46, 70, 110, 69, 120, 97, 99, 116, 82, 101, 115, 111, 108, 118, 101, 32, 108, 111, 111, 112, 46, 101, 120, 97, 109, 112, 108, 101, 47, 103, 48, 48, 54, 56, 50, 47, 108, 97, 119, 115, 46, 70, 110, 69, 120, 97, 99, 116, 70, 97, 99, 116, 111, 114, 32, 108, 111, 111, 112, 46, 101, 120, 97, 109, 112, 108, 101, 47, 103, 48, 48, 54, 56, 50, 47, 108, 97, 119, 115, 46, 70, 110, 69, 120, 97, 99, 116, 83, 105, 110, 103, 108, 101, 87, 97, 121, 115]
def signs : List Char := nums.map Char.ofNat
theorem word : Tryz.prog.initOrder = ("harness ad85cb7642b5941eac026de8dd29953e7767b7094b482dcbfdb994debd17f4a0 cut at loop.example/g00682/laws.FnExactResolve loop.example/g00682/laws.FnExactFactor loop.example/g00682/laws.FnExactSingleWays" : String) := by kernel_rfl
theorem word_signs : ("harness ad85cb7642b5941eac026de8dd29953e7767b7094b482dcbfdb994debd17f4a0 cut at loop.example/g00682/laws.FnExactResolve loop.example/g00682/laws.FnExactFactor loop.example/g00682/laws.FnExactSingleWays" : String) = String.ofList signs := by kernel_rfl
theorem order_signs : Tryz.prog.initOrder.toList = signs :=
  (congrArg String.toList word).trans ((congrArg String.toList word_signs).trans String.toList_ofList)
def cutw : List Char := [Char.ofNat 99, Char.ofNat 117, Char.ofNat 116]
def tl : List (List Char) := (wordsSigns signs).drop 3
def w0 : List Char := [Char.ofNat 104, Char.ofNat 97, Char.ofNat 114, Char.ofNat 110, Char.ofNat 101, Char.ofNat 115, Char.ofNat 115]
def w1 : List Char := [Char.ofNat 97, Char.ofNat 100, Char.ofNat 56, Char.ofNat 53, Char.ofNat 99, Char.ofNat 98, Char.ofNat 55, Char.ofNat 54, Char.ofNat 52, Char.ofNat 50, Char.ofNat 98, Char.ofNat 53, Char.ofNat 57, Char.ofNat 52, Char.ofNat 49, Char.ofNat 101, Char.ofNat 97, Char.ofNat 99, Char.ofNat 48, Char.ofNat 50, Char.ofNat 54, Char.ofNat 100, Char.ofNat 101, Char.ofNat 56, Char.ofNat 100, Char.ofNat 100, Char.ofNat 50, Char.ofNat 57, Char.ofNat 57, Char.ofNat 53, Char.ofNat 51, Char.ofNat 101, Char.ofNat 55, Char.ofNat 55, Char.ofNat 54, Char.ofNat 55, Char.ofNat 98, Char.ofNat 55, Char.ofNat 48, Char.ofNat 57, Char.ofNat 52, Char.ofNat 98, Char.ofNat 52, Char.ofNat 56, Char.ofNat 50, Char.ofNat 100, Char.ofNat 99, Char.ofNat 98, Char.ofNat 102, Char.ofNat 100, Char.ofNat 98, Char.ofNat 57, Char.ofNat 57, Char.ofNat 52, Char.ofNat 100, Char.ofNat 101, Char.ofNat 98, Char.ofNat 100, Char.ofNat 49, Char.ofNat 55, Char.ofNat 102, Char.ofNat 52, Char.ofNat 97, Char.ofNat 48]
theorem behind_any (ws : List (List Char)) : behindMainWord (w0 :: w1 :: ws) = ws := by kernel_rfl
theorem words_is : wordsSigns signs = w0 :: w1 :: cutw :: tl := by kernel_rfl
theorem behind : behindMainWord (wordsSigns Tryz.prog.initOrder.toList) = cutw :: tl := by
  rw [order_signs, words_is]
  exact behind_any _
theorem strip (ws : List (List Char)) : stripLifts liftWords (cutw :: ws) = ([], cutw :: ws) := by kernel_rfl
theorem later : Tryz.prog.laysLater = false := by kernel_rfl
theorem reflects : Tryz.prog.bearsReflect = false := by kernel_rfl
theorem door : Tryz.prog.doorFits [] = true := by kernel_rfl
theorem is_cut (ws : List (List Char)) : ((cutw :: ws).head? == some "cut".toList) = true := by kernel_rfl
theorem no_carried (ws : List (List Char)) : ((cutw :: ws).head? == some "carried".toList) = false := by kernel_rfl
theorem no_lift : ((([] : List String).contains "reflectrows" || !([] : List String).contains "leanrows")) = true := by kernel_rfl
theorem no_finals : (([] : List String).contains "finals") = false := by kernel_rfl
theorem mayEnter_of (P : Program) (ws : List (List Char)) (h : behindMainWord (wordsSigns P.initOrder.toList) = cutw :: ws) (h1 : P.laysLater = false) (h2 : P.bearsReflect = false) (h3 : P.doorFits [] = true) : P.mayEnter = true := by
  unfold Program.mayEnter
  rw [h]
  simp only [strip ws, h1, h2, h3, is_cut ws, no_lift, Bool.not_false, Bool.or_true, Bool.and_true, Bool.and_self]
theorem headLifts_of (P : Program) (ws : List (List Char)) (h : behindMainWord (wordsSigns P.initOrder.toList) = cutw :: ws) : P.headLifts = [] := by
  unfold Program.headLifts
  rw [h]
  simp only [strip ws, is_cut ws, if_true]
theorem lifts_of (P : Program) (ws : List (List Char)) (h : behindMainWord (wordsSigns P.initOrder.toList) = cutw :: ws) : P.liftsFinal = false := by
  unfold Program.liftsFinal
  rw [headLifts_of P ws h, h]
  simp only [no_carried ws, no_finals, Bool.false_and, Bool.false_or]
theorem not_gc : (cutw == "gc".toList || cutw == "spec".toList) = false := by kernel_rfl
theorem cut_or (ws : List (List Char)) : (cutw == "cut".toList || (cutw == "finals".toList && ws.head? == some "cut".toList)) = true := by kernel_rfl
theorem make_of (P : Program) (ws : List (List Char)) (h : behindMainWord (wordsSigns P.initOrder.toList) = cutw :: ws) : P.make = some .cut := by
  unfold Program.make
  rw [h]
  simp only [not_gc, cut_or ws, if_true, Bool.false_eq_true, if_false]
theorem makes : Tryz.prog.make = some .cut := make_of _ tl behind
theorem mayEnter : Tryz.prog.mayEnter = true := mayEnter_of _ tl behind later reflects door
theorem lifts : Tryz.prog.liftsFinal = false := lifts_of _ tl behind
end Go.Proofs.YtcipakpifklipaaGreat.Head
