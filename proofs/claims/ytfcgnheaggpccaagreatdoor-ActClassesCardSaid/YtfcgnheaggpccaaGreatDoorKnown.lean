/- known() answers true over each heap. No condition. -/
import Derived.Test.YtfcgnheaggpccaaGreatDoorPG
import Derived.Test.YtfcgnheaggpccaaGreatDoorKnA
import Derived.Test.YtfcgnheaggpccaaGreatDoorKnB
import Derived.Test.YtfcgnheaggpccaaGreatDoorKnC
import Derived.Test.YtfcgnheaggpccaaGreatDoorKnD
import Derived.Test.YtfcgnheaggpccaaGreatDoorKnE
namespace Go.Proofs.YtfcgnheaggpccaaGreatDoor.Kn
open Go Go.SE

def o0 : Oracle Tryz.prog := ⟨a0, fun f args h r h' ha K Kp hk => by
  unfold a0 at ha
  split at ha
  · rename_i x hx
    injection ha with ha; subst ha
    exact rightAsk_right f args h r h' hx hk
  · exact joinAsk_right f args h r h' ha hk⟩
theorem r0 : p0.Right Tryz.prog := Piece.right_go ctx_ok o0 1000000 e0
def o1 : Oracle Tryz.prog := ⟨a1, (o0.add p0 r0).right⟩
theorem r1 : p1.Right Tryz.prog := Piece.right_go ctx_ok o1 1000000 e1
def o2 : Oracle Tryz.prog := ⟨a2, (o1.add p1 r1).right⟩
theorem r2 : p2.Right Tryz.prog := Piece.right_go ctx_ok o2 1000000 e2
def o3 : Oracle Tryz.prog := ⟨a3, (o2.add p2 r2).right⟩
theorem r3 : p3.Right Tryz.prog := Piece.right_go ctx_ok o3 1000000 e3
def o4 : Oracle Tryz.prog := ⟨a4, (o3.add p3 r3).right⟩
theorem r4 : p4.Right Tryz.prog := Piece.right_go ctx_ok o4 1000000 e4
def o5 : Oracle Tryz.prog := ⟨a5, (o4.add p4 r4).right⟩
theorem r5 : p5.Right Tryz.prog := Piece.right_go ctx_ok o5 1000000 e5
def o6 : Oracle Tryz.prog := ⟨a6, (o5.add p5 r5).right⟩
theorem r6 : p6.Right Tryz.prog := Piece.right_go ctx_ok o6 1000000 e6
def o7 : Oracle Tryz.prog := ⟨a7, (o6.add p6 r6).right⟩
theorem r7 : p7.Right Tryz.prog := Piece.right_go ctx_ok o7 1000000 e7
def o8 : Oracle Tryz.prog := ⟨a8, (o7.add p7 r7).right⟩
theorem r8 : p8.Right Tryz.prog := Piece.right_go ctx_ok o8 1000000 e8
def o9 : Oracle Tryz.prog := ⟨a9, (o8.add p8 r8).right⟩
theorem r9 : p9.Right Tryz.prog := Piece.right_go ctx_ok o9 1000000 e9
def o10 : Oracle Tryz.prog := ⟨a10, (o9.add p9 r9).right⟩
theorem r10 : p10.Right Tryz.prog := Piece.right_go ctx_ok o10 1000000 e10
def o11 : Oracle Tryz.prog := ⟨a11, (o10.add p10 r10).right⟩
theorem r11 : p11.Right Tryz.prog := Piece.right_go ctx_ok o11 1000000 e11
def o12 : Oracle Tryz.prog := ⟨a12, (o11.add p11 r11).right⟩
theorem r12 : p12.Right Tryz.prog := Piece.right_go ctx_ok o12 1000000 e12
def o13 : Oracle Tryz.prog := ⟨a13, (o12.add p12 r12).right⟩
theorem r13 : p13.Right Tryz.prog := Piece.right_go ctx_ok o13 1000000 e13
def o14 : Oracle Tryz.prog := ⟨a14, (o13.add p13 r13).right⟩
theorem r14 : p14.Right Tryz.prog := Piece.right_go ctx_ok o14 1000000 e14
def o15 : Oracle Tryz.prog := ⟨a15, (o14.add p14 r14).right⟩
theorem r15 : p15.Right Tryz.prog := Piece.right_go ctx_ok o15 1000000 e15
def o16 : Oracle Tryz.prog := ⟨a16, (o15.add p15 r15).right⟩
theorem r16 : p16.Right Tryz.prog := Piece.right_go ctx_ok o16 1000000 e16
def o17 : Oracle Tryz.prog := ⟨a17, (o16.add p16 r16).right⟩
theorem r17 : p17.Right Tryz.prog := Piece.right_go ctx_ok o17 1000000 e17
def o18 : Oracle Tryz.prog := ⟨a18, (o17.add p17 r17).right⟩
theorem r18 : p18.Right Tryz.prog := Piece.right_go ctx_ok o18 1000000 e18
def o19 : Oracle Tryz.prog := ⟨a19, (o18.add p18 r18).right⟩
theorem r19 : p19.Right Tryz.prog := Piece.right_go ctx_ok o19 1000000 e19
def o20 : Oracle Tryz.prog := ⟨a20, (o19.add p19 r19).right⟩
theorem r20 : p20.Right Tryz.prog := Piece.right_go ctx_ok o20 1000000 e20

theorem known_call (h : Heap) {K Kp : SV → Heap → Prop} (hk : K (.lit (.bool true)) h) : CallH Tryz.prog 9 [] h K Kp :=
  Piece.ask_right r20 (f := 9) (args := []) (h := h) (r := .lit (.bool true)) (h' := h) rfl hk
end Go.Proofs.YtfcgnheaggpccaaGreatDoor.Kn

