/- Closed facts of the types of the program, and the models of its structs. Written by program. -/
import Derived.Test.YtobkigllalbkiaaVCopy
import Derived.Test.YtobkigllalbkiaaProg
set_option linter.unusedVariables false
namespace Go.Proofs.YtobkigllalbkiaaV.M
open Go.RowKit Go.Proofs.YtobkigllalbkiaaV
def kI_u8 : Kd Int := Kd.flat 1 (fun x => [.int .u8 x]) (fun _ => rfl) (fun x v hv => by simp at hv; subst hv; rfl)
structure Ar4 (α : Type) where
  a0 : α
  a1 : α
  a2 : α
  a3 : α
def k_Ar4_Int : Kd (Ar4 Int) := Kd.flat 4 (fun x => [.int .u8 x.a0, .int .u8 x.a1, .int .u8 x.a2, .int .u8 x.a3]) (fun _ => rfl) (fun x v hv => by simp at hv; rcases hv with rfl | rfl | rfl | rfl <;> rfl)
structure S_Frame where
  W : Int
  H : Int
  Color : (List (Ar4 Int))
  Depth : (List Int)
  Item : (List Int)
  Tri : (List Int)
def k_Frame : Kd S_Frame where
  sz := 6
  rel := fun w ok cs x => ∃ (A0 : Option Addr) (c0 : Nat), ∃ (A1 : Option Addr) (c1 : Nat), ∃ (A2 : Option Addr) (c2 : Nat), ∃ (A3 : Option Addr) (c3 : Nat), cs = [.int .i64 x.W, .int .i64 x.H, .slice A0 x.Color.length c0, .slice A1 x.Depth.length c1, .slice A2 x.Item.length c2, .slice A3 x.Tri.length c3] ∧ Rd k_Ar4_Int w ok A0 c0 x.Color ∧ Rd kInt w ok A1 c1 x.Depth ∧ Rd kInt w ok A2 c2 x.Item ∧ Rd kInt w ok A3 c3 x.Tri
  len := by rintro w ok cs x ⟨A0, c0, A1, c1, A2, c2, A3, c3, rfl, h0, h1, h2, h3⟩; rfl
  one := by
    rintro w ok cs x ⟨A0, c0, A1, c1, A2, c2, A3, c3, rfl, h0, h1, h2, h3⟩ v hv
    simp at hv
    rcases hv with rfl | rfl | rfl | rfl | rfl | rfl <;> rfl
  keep := by rintro w w' ok ok' cs x ⟨A0, c0, A1, c1, A2, c2, A3, c3, rfl, h0, h1, h2, h3⟩ hm; exact ⟨A0, c0, A1, c1, A2, c2, A3, c3, rfl, h0.keep hm, h1.keep hm, h2.keep hm, h3.keep hm⟩
structure S_Level where
  W : Int
  H : Int
  Low : (List Int)
def k_Level : Kd S_Level where
  sz := 3
  rel := fun w ok cs x => ∃ (A0 : Option Addr) (c0 : Nat), cs = [.int .i64 x.W, .int .i64 x.H, .slice A0 x.Low.length c0] ∧ Rd kInt w ok A0 c0 x.Low
  len := by rintro w ok cs x ⟨A0, c0, rfl, h0⟩; rfl
  one := by
    rintro w ok cs x ⟨A0, c0, rfl, h0⟩ v hv
    simp at hv
    rcases hv with rfl | rfl | rfl <;> rfl
  keep := by rintro w w' ok ok' cs x ⟨A0, c0, rfl, h0⟩ hm; exact ⟨A0, c0, rfl, h0.keep hm⟩
structure S_Pyramid where
  Levels : (List S_Level)
def k_Pyramid : Kd S_Pyramid where
  sz := 1
  rel := fun w ok cs x => ∃ (A0 : Option Addr) (c0 : Nat), cs = [.slice A0 x.Levels.length c0] ∧ Rd k_Level w ok A0 c0 x.Levels
  len := by rintro w ok cs x ⟨A0, c0, rfl, h0⟩; rfl
  one := by
    rintro w ok cs x ⟨A0, c0, rfl, h0⟩ v hv
    simp at hv
    subst hv; rfl
  keep := by rintro w w' ok ok' cs x ⟨A0, c0, rfl, h0⟩ hm; exact ⟨A0, c0, rfl, h0.keep hm⟩
structure S_Rect where
  X0 : Int
  Y0 : Int
  X1 : Int
  Y1 : Int
def k_Rect : Kd S_Rect := Kd.flat 4 (fun x => [.int .i64 x.X0, .int .i64 x.Y0, .int .i64 x.X1, .int .i64 x.Y1]) (fun _ => rfl) (fun x v hv => by simp at hv; rcases hv with rfl | rfl | rfl | rfl <;> rfl)
structure S_Shade where
  Rect : S_Rect
  D : Int
def k_Shade : Kd S_Shade := Kd.flat 5 (fun x => [.int .i64 x.Rect.X0, .int .i64 x.Rect.Y0, .int .i64 x.Rect.X1, .int .i64 x.Rect.Y1, .int .i64 x.D]) (fun _ => rfl) (fun x v hv => by simp at hv; rcases hv with rfl | rfl | rfl | rfl | rfl <;> rfl)
structure S_Frag where
  D : Int
  Item : Int
  Tri : Int
  Part : Int
  U : Int
  V : Int
def k_Frag : Kd S_Frag := Kd.flat 6 (fun x => [.int .i64 x.D, .int .i64 x.Item, .int .i64 x.Tri, .int .i64 x.Part, .int .i64 x.U, .int .i64 x.V]) (fun _ => rfl) (fun x v hv => by simp at hv; rcases hv with rfl | rfl | rfl | rfl | rfl | rfl <;> rfl)
structure S_open where
  Frame : S_Frame
def k_open : Kd S_open where
  sz := 6
  rel := fun w ok cs x => ∃ (A0 : Option Addr) (c0 : Nat), ∃ (A1 : Option Addr) (c1 : Nat), ∃ (A2 : Option Addr) (c2 : Nat), ∃ (A3 : Option Addr) (c3 : Nat), cs = [.int .i64 x.Frame.W, .int .i64 x.Frame.H, .slice A0 x.Frame.Color.length c0, .slice A1 x.Frame.Depth.length c1, .slice A2 x.Frame.Item.length c2, .slice A3 x.Frame.Tri.length c3] ∧ Rd k_Ar4_Int w ok A0 c0 x.Frame.Color ∧ Rd kInt w ok A1 c1 x.Frame.Depth ∧ Rd kInt w ok A2 c2 x.Frame.Item ∧ Rd kInt w ok A3 c3 x.Frame.Tri
  len := by rintro w ok cs x ⟨A0, c0, A1, c1, A2, c2, A3, c3, rfl, h0, h1, h2, h3⟩; rfl
  one := by
    rintro w ok cs x ⟨A0, c0, A1, c1, A2, c2, A3, c3, rfl, h0, h1, h2, h3⟩ v hv
    simp at hv
    rcases hv with rfl | rfl | rfl | rfl | rfl | rfl <;> rfl
  keep := by rintro w w' ok ok' cs x ⟨A0, c0, A1, c1, A2, c2, A3, c3, rfl, h0, h1, h2, h3⟩ hm; exact ⟨A0, c0, A1, c1, A2, c2, A3, c3, rfl, h0.keep hm, h1.keep hm, h2.keep hm, h3.keep hm⟩
def kI_u64 : Kd Int := Kd.flat 1 (fun x => [.int .u64 x]) (fun _ => rfl) (fun x v hv => by simp at hv; subst hv; rfl)
theorem ag121 : aggSz Try.prog 121 = some 6 := by kernel_rfl
theorem ag25 : aggSz Try.prog 25 = some 6 := by kernel_rfl
theorem ag28 : aggSz Try.prog 28 = some 1 := by kernel_rfl
theorem ag30 : aggSz Try.prog 30 = some 4 := by kernel_rfl
theorem ag32 : aggSz Try.prog 32 = some 5 := by kernel_rfl
theorem ag54 : aggSz Try.prog 54 = some 3 := by kernel_rfl
theorem ag61 : aggSz Try.prog 61 = some 4 := by kernel_rfl
theorem ag68 : aggSz Try.prog 68 = some 6 := by kernel_rfl
theorem ar61 : arrOf Try.prog 61 = some (4, 5) := by kernel_rfl
theorem by3 : bytesOf Try.prog 3 = some 8 := by kernel_rfl
theorem by54 : bytesOf Try.prog 54 = some 40 := by kernel_rfl
theorem by61 : bytesOf Try.prog 61 = some 4 := by kernel_rfl
theorem cf109 (args : Array Value) (w : World) : (callFunc 109 args).run Try.prog w = .ok (.enter 109 args) w := run_enter Try.func109 rfl (by kernel_rfl) args w
theorem cf11 (args : Array Value) (w : World) : (callFunc 11 args).run Try.prog w = .ok (.enter 11 args) w := run_enter Try.func11 rfl (by kernel_rfl) args w
theorem cf111 (args : Array Value) (w : World) : (callFunc 111 args).run Try.prog w = .ok (.enter 111 args) w := run_enter Try.func111 rfl (by kernel_rfl) args w
theorem cf113 (args : Array Value) (w : World) : (callFunc 113 args).run Try.prog w = .ok (.enter 113 args) w := run_enter Try.func113 rfl (by kernel_rfl) args w
theorem cf114 (args : Array Value) (w : World) : (callFunc 114 args).run Try.prog w = .ok (.enter 114 args) w := run_enter Try.func114 rfl (by kernel_rfl) args w
theorem cf115 (args : Array Value) (w : World) : (callFunc 115 args).run Try.prog w = .ok (.enter 115 args) w := run_enter Try.func115 rfl (by kernel_rfl) args w
theorem cf116 (args : Array Value) (w : World) : (callFunc 116 args).run Try.prog w = .ok (.enter 116 args) w := run_enter Try.func116 rfl (by kernel_rfl) args w
theorem cf117 (args : Array Value) (w : World) : (callFunc 117 args).run Try.prog w = .ok (.enter 117 args) w := run_enter Try.func117 rfl (by kernel_rfl) args w
theorem cf133 (args : Array Value) (w : World) : (callFunc 133 args).run Try.prog w = .ok (.enter 133 args) w := run_enter Try.func133 rfl (by kernel_rfl) args w
theorem cf134 (args : Array Value) (w : World) : (callFunc 134 args).run Try.prog w = .ok (.enter 134 args) w := run_enter Try.func134 rfl (by kernel_rfl) args w
theorem cf15 (args : Array Value) (w : World) : (callFunc 15 args).run Try.prog w = .ok (.enter 15 args) w := run_enter Try.func15 rfl (by kernel_rfl) args w
theorem cf17 (args : Array Value) (w : World) : (callFunc 17 args).run Try.prog w = .ok (.enter 17 args) w := run_enter Try.func17 rfl (by kernel_rfl) args w
theorem cf19 (args : Array Value) (w : World) : (callFunc 19 args).run Try.prog w = .ok (.enter 19 args) w := run_enter Try.func19 rfl (by kernel_rfl) args w
theorem cf21 (args : Array Value) (w : World) : (callFunc 21 args).run Try.prog w = .ok (.enter 21 args) w := run_enter Try.func21 rfl (by kernel_rfl) args w
theorem cf22 (args : Array Value) (w : World) : (callFunc 22 args).run Try.prog w = .ok (.enter 22 args) w := run_enter Try.func22 rfl (by kernel_rfl) args w
theorem cf23 (args : Array Value) (w : World) : (callFunc 23 args).run Try.prog w = .ok (.enter 23 args) w := run_enter Try.func23 rfl (by kernel_rfl) args w
theorem cf25 (args : Array Value) (w : World) : (callFunc 25 args).run Try.prog w = .ok (.enter 25 args) w := run_enter Try.func25 rfl (by kernel_rfl) args w
theorem cf26 (args : Array Value) (w : World) : (callFunc 26 args).run Try.prog w = .ok (.enter 26 args) w := run_enter Try.func26 rfl (by kernel_rfl) args w
theorem cf27 (args : Array Value) (w : World) : (callFunc 27 args).run Try.prog w = .ok (.enter 27 args) w := run_enter Try.func27 rfl (by kernel_rfl) args w
theorem cf28 (args : Array Value) (w : World) : (callFunc 28 args).run Try.prog w = .ok (.enter 28 args) w := run_enter Try.func28 rfl (by kernel_rfl) args w
theorem cf29 (args : Array Value) (w : World) : (callFunc 29 args).run Try.prog w = .ok (.enter 29 args) w := run_enter Try.func29 rfl (by kernel_rfl) args w
theorem cf30 (args : Array Value) (w : World) : (callFunc 30 args).run Try.prog w = .ok (.enter 30 args) w := run_enter Try.func30 rfl (by kernel_rfl) args w
theorem cf31 (args : Array Value) (w : World) : (callFunc 31 args).run Try.prog w = .ok (.enter 31 args) w := run_enter Try.func31 rfl (by kernel_rfl) args w
theorem cf32 (args : Array Value) (w : World) : (callFunc 32 args).run Try.prog w = .ok (.enter 32 args) w := run_enter Try.func32 rfl (by kernel_rfl) args w
theorem cf33 (args : Array Value) (w : World) : (callFunc 33 args).run Try.prog w = .ok (.enter 33 args) w := run_enter Try.func33 rfl (by kernel_rfl) args w
theorem cf34 (args : Array Value) (w : World) : (callFunc 34 args).run Try.prog w = .ok (.enter 34 args) w := run_enter Try.func34 rfl (by kernel_rfl) args w
theorem cf35 (args : Array Value) (w : World) : (callFunc 35 args).run Try.prog w = .ok (.enter 35 args) w := run_enter Try.func35 rfl (by kernel_rfl) args w
theorem cf36 (args : Array Value) (w : World) : (callFunc 36 args).run Try.prog w = .ok (.enter 36 args) w := run_enter Try.func36 rfl (by kernel_rfl) args w
theorem cf58 (args : Array Value) (w : World) : (callFunc 58 args).run Try.prog w = .ok (.enter 58 args) w := run_enter Try.func58 rfl (by kernel_rfl) args w
theorem cf59 (args : Array Value) (w : World) : (callFunc 59 args).run Try.prog w = .ok (.enter 59 args) w := run_enter Try.func59 rfl (by kernel_rfl) args w
theorem cf61 (args : Array Value) (w : World) : (callFunc 61 args).run Try.prog w = .ok (.enter 61 args) w := run_enter Try.func61 rfl (by kernel_rfl) args w
theorem cf62 (args : Array Value) (w : World) : (callFunc 62 args).run Try.prog w = .ok (.enter 62 args) w := run_enter Try.func62 rfl (by kernel_rfl) args w
theorem cf63 (args : Array Value) (w : World) : (callFunc 63 args).run Try.prog w = .ok (.enter 63 args) w := run_enter Try.func63 rfl (by kernel_rfl) args w
theorem cf64 (args : Array Value) (w : World) : (callFunc 64 args).run Try.prog w = .ok (.enter 64 args) w := run_enter Try.func64 rfl (by kernel_rfl) args w
theorem cf65 (args : Array Value) (w : World) : (callFunc 65 args).run Try.prog w = .ok (.enter 65 args) w := run_enter Try.func65 rfl (by kernel_rfl) args w
theorem cf66 (args : Array Value) (w : World) : (callFunc 66 args).run Try.prog w = .ok (.enter 66 args) w := run_enter Try.func66 rfl (by kernel_rfl) args w
theorem cf68 (args : Array Value) (w : World) : (callFunc 68 args).run Try.prog w = .ok (.enter 68 args) w := run_enter Try.func68 rfl (by kernel_rfl) args w
theorem cf69 (args : Array Value) (w : World) : (callFunc 69 args).run Try.prog w = .ok (.enter 69 args) w := run_enter Try.func69 rfl (by kernel_rfl) args w
theorem cf70 (args : Array Value) (w : World) : (callFunc 70 args).run Try.prog w = .ok (.enter 70 args) w := run_enter Try.func70 rfl (by kernel_rfl) args w
theorem cf71 (args : Array Value) (w : World) : (callFunc 71 args).run Try.prog w = .ok (.enter 71 args) w := run_enter Try.func71 rfl (by kernel_rfl) args w
theorem cf72 (args : Array Value) (w : World) : (callFunc 72 args).run Try.prog w = .ok (.enter 72 args) w := run_enter Try.func72 rfl (by kernel_rfl) args w
theorem cf73 (args : Array Value) (w : World) : (callFunc 73 args).run Try.prog w = .ok (.enter 73 args) w := run_enter Try.func73 rfl (by kernel_rfl) args w
theorem cf74 (args : Array Value) (w : World) : (callFunc 74 args).run Try.prog w = .ok (.enter 74 args) w := run_enter Try.func74 rfl (by kernel_rfl) args w
theorem cf75 (args : Array Value) (w : World) : (callFunc 75 args).run Try.prog w = .ok (.enter 75 args) w := run_enter Try.func75 rfl (by kernel_rfl) args w
theorem cf76 (args : Array Value) (w : World) : (callFunc 76 args).run Try.prog w = .ok (.enter 76 args) w := run_enter Try.func76 rfl (by kernel_rfl) args w
theorem cf77 (args : Array Value) (w : World) : (callFunc 77 args).run Try.prog w = .ok (.enter 77 args) w := run_enter Try.func77 rfl (by kernel_rfl) args w
theorem cf78 (args : Array Value) (w : World) : (callFunc 78 args).run Try.prog w = .ok (.enter 78 args) w := run_enter Try.func78 rfl (by kernel_rfl) args w
theorem ep61 : arrPlan Try.prog 61 = some [(.int .u8, 0), (.int .u8, 1), (.int .u8, 2), (.int .u8, 3)] := by kernel_rfl
theorem eg61 : (Try.prog).eqGuardType (Try.prog).depth 61 = false := by kernel_rfl
theorem fo121_0 : fieldOff Try.prog 121 0 = some 0 := by kernel_rfl
theorem fo25_0 : fieldOff Try.prog 25 0 = some 0 := by kernel_rfl
theorem fo25_1 : fieldOff Try.prog 25 1 = some 1 := by kernel_rfl
theorem fo25_2 : fieldOff Try.prog 25 2 = some 2 := by kernel_rfl
theorem fo25_3 : fieldOff Try.prog 25 3 = some 3 := by kernel_rfl
theorem fo25_4 : fieldOff Try.prog 25 4 = some 4 := by kernel_rfl
theorem fo25_5 : fieldOff Try.prog 25 5 = some 5 := by kernel_rfl
theorem fo28_0 : fieldOff Try.prog 28 0 = some 0 := by kernel_rfl
theorem fo30_0 : fieldOff Try.prog 30 0 = some 0 := by kernel_rfl
theorem fo30_1 : fieldOff Try.prog 30 1 = some 1 := by kernel_rfl
theorem fo30_2 : fieldOff Try.prog 30 2 = some 2 := by kernel_rfl
theorem fo30_3 : fieldOff Try.prog 30 3 = some 3 := by kernel_rfl
theorem fo32_0 : fieldOff Try.prog 32 0 = some 0 := by kernel_rfl
theorem fo32_1 : fieldOff Try.prog 32 1 = some 4 := by kernel_rfl
theorem fo54_0 : fieldOff Try.prog 54 0 = some 0 := by kernel_rfl
theorem fo54_1 : fieldOff Try.prog 54 1 = some 1 := by kernel_rfl
theorem fo54_2 : fieldOff Try.prog 54 2 = some 2 := by kernel_rfl
theorem fo68_0 : fieldOff Try.prog 68 0 = some 0 := by kernel_rfl
theorem fo68_1 : fieldOff Try.prog 68 1 = some 1 := by kernel_rfl
theorem fo68_2 : fieldOff Try.prog 68 2 = some 2 := by kernel_rfl
theorem fo68_3 : fieldOff Try.prog 68 3 = some 3 := by kernel_rfl
theorem fv28_0 : fieldVal Try.prog 28 0 = some 0 := by kernel_rfl
theorem is164 : (Try.prog.underlying 164).isSome = true := by kernel_rfl
theorem is3 : (Try.prog.underlying 3).isSome = true := by kernel_rfl
theorem is5 : (Try.prog.underlying 5).isSome = true := by kernel_rfl
theorem mixed0 : Try.prog.follows .mixedOrders = true := by kernel_rfl
theorem sc22 : scal Try.prog 22 = true := by kernel_rfl
theorem sc23 : scal Try.prog 23 = true := by kernel_rfl
theorem sc26 : scal Try.prog 26 = true := by kernel_rfl
theorem sc3 : scal Try.prog 3 = true := by kernel_rfl
theorem sc5 : scal Try.prog 5 = true := by kernel_rfl
theorem sl22 : slElem Try.prog 22 = some 61 := by kernel_rfl
theorem sl23 : slElem Try.prog 23 = some 3 := by kernel_rfl
theorem sl26 : slElem Try.prog 26 = some 54 := by kernel_rfl
theorem sz121 : szOf Try.prog 121 = some 6 := by kernel_rfl
theorem sz23 : szOf Try.prog 23 = some 1 := by kernel_rfl
theorem sz25 : szOf Try.prog 25 = some 6 := by kernel_rfl
theorem sz26 : szOf Try.prog 26 = some 1 := by kernel_rfl
theorem sz28 : szOf Try.prog 28 = some 1 := by kernel_rfl
theorem sz3 : szOf Try.prog 3 = some 1 := by kernel_rfl
theorem sz30 : szOf Try.prog 30 = some 4 := by kernel_rfl
theorem sz5 : szOf Try.prog 5 = some 1 := by kernel_rfl
theorem sz54 : szOf Try.prog 54 = some 3 := by kernel_rfl
theorem sz61 : szOf Try.prog 61 = some 4 := by kernel_rfl
theorem sz68 : szOf Try.prog 68 = some 6 := by kernel_rfl
theorem un164 : Try.prog.underlying 164 = some (.int .u64) := by kernel_rfl
theorem un3 : Try.prog.underlying 3 = some (.int .i64) := by kernel_rfl
theorem un4 : Try.prog.underlying 4 = some .bool := by kernel_rfl
theorem un5 : Try.prog.underlying 5 = some (.int .u8) := by kernel_rfl
theorem ze121 : zeroOf Try.prog 121 = some (.agg #[.int .i64 0, .int .i64 0, .slice none 0 0, .slice none 0 0, .slice none 0 0, .slice none 0 0]) := by kernel_rfl
theorem ze25 : zeroOf Try.prog 25 = some (.agg #[.int .i64 0, .int .i64 0, .slice none 0 0, .slice none 0 0, .slice none 0 0, .slice none 0 0]) := by kernel_rfl
theorem ze28 : zeroOf Try.prog 28 = some (.agg #[.slice none 0 0]) := by kernel_rfl
theorem ze3 : zeroOf Try.prog 3 = some (.int .i64 0) := by kernel_rfl
theorem ze30 : zeroOf Try.prog 30 = some (.agg #[.int .i64 0, .int .i64 0, .int .i64 0, .int .i64 0]) := by kernel_rfl
theorem ze54 : zeroOf Try.prog 54 = some (.agg #[.int .i64 0, .int .i64 0, .slice none 0 0]) := by kernel_rfl
theorem ze61 : zeroOf Try.prog 61 = some (.agg #[.int .u8 0, .int .u8 0, .int .u8 0, .int .u8 0]) := by kernel_rfl
theorem ze68 : zeroOf Try.prog 68 = some (.agg #[.int .i64 0, .int .i64 0, .int .i64 0, .int .i64 0, .int .i64 0, .int .i64 0]) := by kernel_rfl
end Go.Proofs.YtobkigllalbkiaaV.M
