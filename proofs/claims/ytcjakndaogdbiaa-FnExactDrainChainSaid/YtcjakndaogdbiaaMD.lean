/- The law FnExactDrainChain of this seat holds for every input, by a small machine whose steps are proved against the model, and by plain functions printed for it. No condition. -/
import Derived.Test.YtcjakndaogdbiaaMA
import Derived.Test.YtcjakndaogdbiaaMB
import Derived.Test.YtcjakndaogdbiaaMC
set_option linter.unusedVariables false
set_option linter.unusedSimpArgs false
section
set_option maxRecDepth 4000
set_option maxHeartbeats 1000000
namespace Go.Vm
open Go.Proofs
/- loop.example/g00300/spec.GoodChain -/
def s_GoodChain.code : MC :=
 (.seq
  (.keep [1] (.reg [⟨(some 1), none, .box (.t 0)⟩, ⟨(some 2), none, .mov (.v (.d (.bool false)))⟩]))
  (.norm (.seq
   (.keep [1, 3] (.reg [⟨(some 9), none, .fld 0 (.t 1)⟩, ⟨(some 10), none, .load false 1 (.t 9)⟩, ⟨(some 11), none, .len (.t 10)⟩, ⟨(some 3), none, .mov (.t 11)⟩]))
   (.norm (.seq
    (.seq
     (.keep [1, 3, 14] (.reg [⟨(some 12), none, .mov (.t 3)⟩, ⟨(some 13), none, .call (.v (.clos 61 [])) [.t 12, .v (.d (.int .i64 1)), .v (.d (.int .i64 6))] [] []⟩, ⟨(some 14), none, .un .not (.t 13)⟩]))
     (.norm (.cond (.t 14)
      (.seq
       (.keep [2] (.reg [⟨(some 2), none, .mov (.v (.d (.bool false)))⟩]))
       .ret)
      .skip)))
    (.norm (.seq
     (.keep [1, 3, 4] (.reg [⟨(some 15), none, .fld 0 (.t 1)⟩, ⟨(some 16), none, .load false 1 (.t 15)⟩, ⟨(some 17), none, .mov (.t 3)⟩, ⟨(some 18), none, .bin true .sub (.t 17) (.v (.d (.int .i64 1)))⟩, ⟨(some 19), none, .idx 3 (.t 16) (.t 18)⟩, ⟨(some 20), none, .load true 3 (.t 19)⟩, ⟨(some 4), none, .box (.v (.agg [.nilsl, .d (.int .i64 0), .d (.int .i64 0)]))⟩, ⟨none, none, .store 3 (.t 4) (.t 20)⟩]))
     (.norm (.cut
      (.seq
       (.keep [1, 3, 4, 22, 23, 24] (.reg [⟨(some 21), none, .fld 0 (.t 1)⟩, ⟨(some 22), none, .load false 1 (.t 21)⟩, ⟨(some 23), none, .len (.t 22)⟩, ⟨(some 24), none, .mov (.v (.d (.int .i64 0)))⟩]))
       (.norm (.block 0
        (.loop
         (.seq
          (.keep [1, 3, 4, 22, 23, 24, 25] (.reg [⟨(some 25), none, .bin true .lss (.t 24) (.t 23)⟩]))
          (.seq
           (.cond (.t 25)
            .skip
            (.exit 0))
           (.seq
            (.block 1
             (.seq
              (.keep [1, 3, 4, 5, 6, 22, 23, 24] (.reg [⟨(some 26), none, .mov (.t 24)⟩, ⟨(some 27), none, .idx 3 (.t 22) (.t 24)⟩, ⟨(some 28), none, .load true 3 (.t 27)⟩, ⟨(some 6), none, .box (.v (.agg [.nilsl, .d (.int .i64 0), .d (.int .i64 0)]))⟩, ⟨(some 5), none, .mov (.t 26)⟩, ⟨none, none, .store 3 (.t 6) (.t 28)⟩]))
              (.norm (.cut
               (.seq
                (.keep [1, 3, 4, 5, 6, 22, 23, 24, 30, 31, 32] (.reg [⟨(some 29), none, .fld 0 (.t 6)⟩, ⟨(some 30), none, .load false 1 (.t 29)⟩, ⟨(some 31), none, .len (.t 30)⟩, ⟨(some 32), none, .mov (.v (.d (.int .i64 0)))⟩]))
                (.norm (.block 2
                 (.loop
                  (.seq
                   (.keep [1, 3, 4, 5, 6, 22, 23, 24, 30, 31, 32, 33] (.reg [⟨(some 33), none, .bin true .lss (.t 32) (.t 31)⟩]))
                   (.seq
                    (.cond (.t 33)
                     .skip
                     (.exit 2))
                    (.seq
                     (.block 3
                      (.seq
                       (.keep [1, 3, 4, 5, 6, 8, 22, 23, 24, 30, 31, 32] (.reg [⟨(some 34), none, .idx 1 (.t 30) (.t 32)⟩, ⟨(some 35), none, .load false 1 (.t 34)⟩, ⟨(some 8), none, .mov (.t 35)⟩]))
                       (.norm (.seq
                        (.keep [1, 3, 4, 5, 6, 22, 23, 24, 30, 31, 32, 38] (.reg [⟨(some 36), none, .mov (.t 8)⟩, ⟨(some 37), none, .lens (.t 36)⟩, ⟨(some 38), none, .bin true .gtr (.t 37) (.v (.d (.int .i64 20)))⟩]))
                        (.norm (.cond (.t 38)
                         (.seq
                          (.keep [2] (.reg [⟨(some 2), none, .mov (.v (.d (.bool false)))⟩]))
                          .ret)
                         .skip))))))
                     (.keep [1, 3, 4, 5, 6, 22, 23, 24, 30, 31, 32] (.reg [⟨(some 39), none, .bin true .add (.t 32) (.v (.d (.int .i64 1)))⟩, ⟨(some 32), none, .mov (.t 39)⟩])))))))))
               (.seq
                (.cut
                 (.keep [1, 3, 4, 5, 6, 22, 23, 24, 60] (.draw (.take 0 ⟨(some 40), none, .fld 0 (.t 6)⟩ (.take 1 ⟨(some 41), none, .load false 1 (.t 40)⟩ (.take 2 ⟨(some 42), none, .len (.t 41)⟩ (.take 3 ⟨(some 43), none, .bin true .gtr (.t 42) (.v (.d (.int .i64 40)))⟩ (.take 4 ⟨(some 44), none, .mov (.t 43)⟩ (.take 5 ⟨(some 45), (some (44, false)), .mov (.t 5)⟩ (.take 6 ⟨(some 46), (some (44, false)), .bin true .gtr (.t 45) (.v (.d (.int .i64 0)))⟩ (.take 7 ⟨(some 47), (some (44, false)), .mov (.t 46)⟩ (.take 8 ⟨(some 48), (some (47, true)), .fld 0 (.t 6)⟩ (.take 9 ⟨(some 49), (some (47, true)), .load false 1 (.t 48)⟩ (.nrm (.take 10 ⟨(some 50), (some (47, true)), .fld 0 (.t 1)⟩ (.take 11 ⟨(some 51), (some (47, true)), .load false 1 (.t 50)⟩ (.take 12 ⟨(some 52), (some (47, true)), .mov (.t 5)⟩ (.take 13 ⟨(some 53), (some (47, true)), .bin true .sub (.t 52) (.v (.d (.int .i64 1)))⟩ (.take 14 ⟨(some 54), (some (47, true)), .idx 3 (.t 51) (.t 53)⟩ (.take 15 ⟨(some 55), (some (47, true)), .fld 0 (.t 54)⟩ (.take 16 ⟨(some 56), (some (47, true)), .load false 1 (.t 55)⟩ (.fork 17 ⟨(some 57), (some (47, true)), .call (.v (.clos 62 [])) [.t 49, .t 56] [] []⟩ [] (.nrm (.take 18 ⟨(some 58), (some (47, true)), .un .not (.t 57)⟩ (.take 19 ⟨(some 59), (some (44, false)), .pick (.t 47) (.t 58) (.v (.d (.bool false)))⟩ (.take 20 ⟨(some 60), none, .pick (.t 44) (.v (.d (.bool true))) (.t 59)⟩ .done)))) .nofork)))))))))))))))))))))
                 (.cond (.t 60)
                  (.seq
                   (.keep [2] (.reg [⟨(some 2), none, .mov (.v (.d (.bool false)))⟩]))
                   .ret)
                  .skip))
                (.norm (.seq
                 (.seq
                  (.keep [1, 3, 4, 5, 6, 22, 23, 24, 64] (.reg [⟨(some 61), none, .mov (.t 5)⟩, ⟨(some 62), none, .mov (.t 3)⟩, ⟨(some 63), none, .bin true .sub (.t 62) (.v (.d (.int .i64 1)))⟩, ⟨(some 64), none, .bin true .eql (.t 61) (.t 63)⟩]))
                  (.norm (.cond (.t 64)
                   (.seq
                    (.cut
                     (.keep [1, 3, 4, 22, 23, 24, 75] (.reg [⟨(some 65), none, .fld 1 (.t 6)⟩, ⟨(some 66), none, .load false 1 (.t 65)⟩, ⟨(some 67), none, .bin true .neq (.t 66) (.v (.d (.int .i64 0)))⟩, ⟨(some 68), none, .mov (.t 67)⟩, ⟨(some 69), (some (68, false)), .fld 2 (.t 6)⟩, ⟨(some 70), (some (68, false)), .load false 1 (.t 69)⟩, ⟨(some 71), (some (68, false)), .fld 0 (.t 6)⟩, ⟨(some 72), (some (68, false)), .load false 1 (.t 71)⟩, ⟨(some 73), (some (68, false)), .len (.t 72)⟩, ⟨(some 74), (some (68, false)), .bin true .neq (.t 70) (.t 73)⟩, ⟨(some 75), none, .pick (.t 68) (.v (.d (.bool true))) (.t 74)⟩]))
                     (.cond (.t 75)
                      (.seq
                       (.keep [2] (.reg [⟨(some 2), none, .mov (.v (.d (.bool false)))⟩]))
                       .ret)
                      .skip))
                    (.exit 1))
                   .skip)))
                 (.norm (.cut
                  (.keep [1, 3, 4, 22, 23, 24, 108] (.draw (.take 0 ⟨(some 76), none, .fld 1 (.t 6)⟩ (.take 1 ⟨(some 77), none, .load false 1 (.t 76)⟩ (.take 2 ⟨(some 78), none, .fld 0 (.t 1)⟩ (.take 3 ⟨(some 79), none, .load false 1 (.t 78)⟩ (.take 4 ⟨(some 80), none, .mov (.t 5)⟩ (.take 5 ⟨(some 81), none, .bin true .add (.t 80) (.v (.d (.int .i64 1)))⟩ (.take 6 ⟨(some 82), none, .idx 3 (.t 79) (.t 81)⟩ (.take 7 ⟨(some 83), none, .fld 0 (.t 82)⟩ (.take 8 ⟨(some 84), none, .load false 1 (.t 83)⟩ (.nrm (.take 9 ⟨(some 85), none, .len (.t 84)⟩ (.fork 10 ⟨(some 86), none, .call (.v (.clos 61 [])) [.t 77, .v (.d (.int .i64 0)), .t 85] [] []⟩ [] (.take 11 ⟨(some 87), none, .un .not (.t 86)⟩ (.take 12 ⟨(some 88), none, .mov (.t 87)⟩ (.take 13 ⟨(some 89), (some (88, false)), .fld 2 (.t 6)⟩ (.take 14 ⟨(some 90), (some (88, false)), .load false 1 (.t 89)⟩ (.take 15 ⟨(some 91), (some (88, false)), .fld 0 (.t 4)⟩ (.nrm (.take 16 ⟨(some 92), (some (88, false)), .load false 1 (.t 91)⟩ (.take 17 ⟨(some 93), (some (88, false)), .len (.t 92)⟩ (.fork 18 ⟨(some 94), (some (88, false)), .call (.v (.clos 61 [])) [.t 90, .v (.d (.int .i64 0)), .t 93] [] []⟩ [] (.take 19 ⟨(some 95), (some (88, false)), .un .not (.t 94)⟩ (.take 20 ⟨(some 96), none, .pick (.t 88) (.v (.d (.bool true))) (.t 95)⟩ (.take 21 ⟨(some 97), none, .mov (.t 96)⟩ (.take 22 ⟨(some 98), (some (97, false)), .fld 2 (.t 6)⟩ (.nrm (.take 23 ⟨(some 99), (some (97, false)), .load false 1 (.t 98)⟩ (.take 24 ⟨(some 100), (some (97, false)), .fld 0 (.t 1)⟩ (.take 25 ⟨(some 101), (some (97, false)), .load false 1 (.t 100)⟩ (.take 26 ⟨(some 102), (some (97, false)), .mov (.t 5)⟩ (.take 27 ⟨(some 103), (some (97, false)), .bin true .add (.t 102) (.v (.d (.int .i64 1)))⟩ (.take 28 ⟨(some 104), (some (97, false)), .idx 3 (.t 101) (.t 103)⟩ (.take 29 ⟨(some 105), (some (97, false)), .fld 2 (.t 104)⟩ (.take 30 ⟨(some 106), (some (97, false)), .load false 1 (.t 105)⟩ (.take 31 ⟨(some 107), (some (97, false)), .bin true .gtr (.t 99) (.t 106)⟩ (.take 32 ⟨(some 108), none, .pick (.t 97) (.v (.d (.bool true))) (.t 107)⟩ .done))))))))))))))) .nofork))))))))) .nofork))))))))))))))
                  (.cond (.t 108)
                   (.seq
                    (.keep [2] (.reg [⟨(some 2), none, .mov (.v (.d (.bool false)))⟩]))
                    .ret)
                   .skip))))))))))
            (.keep [1, 3, 4, 22, 23, 24] (.reg [⟨(some 109), none, .bin true .add (.t 24) (.v (.d (.int .i64 1)))⟩, ⟨(some 24), none, .mov (.t 109)⟩])))))))))
      (.seq
       (.keep [2] (.reg [⟨(some 2), none, .mov (.v (.d (.bool true)))⟩]))
       .ret))))))))))
theorem s_GoodChain.chk : chkFn Try.prog 35 1 s_GoodChain.code [.tmp 2] = true := by kernel_rfl
def s_GoodChain.j7 : Option Bool :=
  some true
def s_GoodChain.J7 : St :=
  lit [] [] []
def s_GoodChain.j5 (i1 : Nat) (nx1 : Nat → Option (Sum Bool Unit)) (x75_5 : Bool) : Option (Sum Bool Unit) :=
  if x75_5 = true then (some (.inl false)) else (nx1 (i1 + 1))
def s_GoodChain.J5 (p0 : implChain) (xv19 : implLink) (i1 : Nat) (x75_5 : Bool) : St :=
  lit [(1, .bptr 1 0), (3, .d (.int .i64 (p0.Links.length : Int))), (4, .bptr 4 0), (22, .d (.sl (p0.Links.map implLink.enc))), (23, .d (.int .i64 (p0.Links.length : Int))), (24, .d (.int .i64 (i1 : Int))), (75, .d (.bool x75_5))] [(1, [.d (.sl (p0.Links.map implLink.enc))]), (4, [.d (.sl (xv19.Log.map encS)), .d (.int .i64 xv19.Sent), .d (.int .i64 xv19.Sure)])] []
def s_GoodChain.j6 (i1 : Nat) (nx1 : Nat → Option (Sum Bool Unit)) (x108_6 : Bool) : Option (Sum Bool Unit) :=
  if x108_6 = true then (some (.inl false)) else (nx1 (i1 + 1))
def s_GoodChain.J6 (p0 : implChain) (xv19 : implLink) (i1 : Nat) (x108_6 : Bool) : St :=
  lit [(1, .bptr 1 0), (3, .d (.int .i64 (p0.Links.length : Int))), (4, .bptr 4 0), (22, .d (.sl (p0.Links.map implLink.enc))), (23, .d (.int .i64 (p0.Links.length : Int))), (24, .d (.int .i64 (i1 : Int))), (108, .d (.bool x108_6))] [(1, [.d (.sl (p0.Links.map implLink.enc))]), (4, [.d (.sl (xv19.Log.map encS)), .d (.int .i64 xv19.Sent), .d (.int .i64 xv19.Sure)])] []
def s_GoodChain.j4 (p0 : implChain) (xv19 : implLink) (i1 : Nat) (nx1 : Nat → Option (Sum Bool Unit)) (y1 : implLink) (x60_4 : Bool) : Option (Sum Bool Unit) :=
  if x60_4 = true then (some (.inl false)) else ((ckK .i64 ((p0.Links.length : Int) - 1)).bind fun v63 => if (i1 : Int) = v63 then (if y1.Sent = 0 then (s_GoodChain.j5 i1 nx1 (!(decide (y1.Sure = (y1.Log.length : Int))))) else (s_GoodChain.j5 i1 nx1 true)) else ((ckK .i64 ((i1 : Int) + 1)).bind fun v81 => (ix p0.Links v81).bind fun xv82 => (s_l1In y1.Sent 0 (xv82.Log.length : Int)).bind fun v86 => if v86 = true then ((s_l1In y1.Sure 0 (xv19.Log.length : Int)).bind fun v94 => if v94 = true then (s_GoodChain.j6 i1 nx1 (decide (xv82.Sure < y1.Sure))) else (s_GoodChain.j6 i1 nx1 true)) else (s_GoodChain.j6 i1 nx1 true)))
def s_GoodChain.J4 (p0 : implChain) (xv19 : implLink) (i1 : Nat) (y1 : implLink) (x60_4 : Bool) : St :=
  lit [(1, .bptr 1 0), (3, .d (.int .i64 (p0.Links.length : Int))), (4, .bptr 4 0), (5, .d (.int .i64 (i1 : Int))), (6, .bptr 6 0), (22, .d (.sl (p0.Links.map implLink.enc))), (23, .d (.int .i64 (p0.Links.length : Int))), (24, .d (.int .i64 (i1 : Int))), (60, .d (.bool x60_4))] [(1, [.d (.sl (p0.Links.map implLink.enc))]), (4, [.d (.sl (xv19.Log.map encS)), .d (.int .i64 xv19.Sent), .d (.int .i64 xv19.Sure)]), (6, [.d (.sl (y1.Log.map encS)), .d (.int .i64 y1.Sent), .d (.int .i64 y1.Sure)])] []
def s_GoodChain.j3 (p0 : implChain) (xv19 : implLink) (i1 : Nat) (nx1 : Nat → Option (Sum Bool Unit)) (y1 : implLink) : Option (Sum Bool Unit) :=
  if 40 < (y1.Log.length : Int) then (s_GoodChain.j4 p0 xv19 i1 nx1 y1 true) else (if 0 < (i1 : Int) then ((ckK .i64 ((i1 : Int) - 1)).bind fun v53 => (ix p0.Links v53).bind fun xv54 => (s_l15Begins y1.Log xv54.Log).bind fun v57 => s_GoodChain.j4 p0 xv19 i1 nx1 y1 (!v57)) else (s_GoodChain.j4 p0 xv19 i1 nx1 y1 false))
def s_GoodChain.J3 (p0 : implChain) (xv19 : implLink) (i1 : Nat) (y1 : implLink) : St :=
  lit [(1, .bptr 1 0), (3, .d (.int .i64 (p0.Links.length : Int))), (4, .bptr 4 0), (5, .d (.int .i64 (i1 : Int))), (6, .bptr 6 0), (22, .d (.sl (p0.Links.map implLink.enc))), (23, .d (.int .i64 (p0.Links.length : Int))), (24, .d (.int .i64 (i1 : Int)))] [(1, [.d (.sl (p0.Links.map implLink.enc))]), (4, [.d (.sl (xv19.Log.map encS)), .d (.int .i64 xv19.Sent), .d (.int .i64 xv19.Sure)]), (6, [.d (.sl (y1.Log.map encS)), .d (.int .i64 y1.Sent), .d (.int .i64 y1.Sure)])] []
def s_GoodChain.l2 : List (List UInt8) → Nat → Option (Sum Bool Unit)
  | [], i2 => some (.inr ())
  | y2 :: ys, i2 => if 20 < (y2.length : Int) then (some (.inl false)) else ((s_GoodChain.l2 ys) (i2 + 1))
def s_GoodChain.S2 (p0 : implChain) (xv19 : implLink) (i1 : Nat) (y1 : implLink) (i2 : Nat) : St :=
  lit [(1, .bptr 1 0), (3, .d (.int .i64 (p0.Links.length : Int))), (4, .bptr 4 0), (5, .d (.int .i64 (i1 : Int))), (6, .bptr 6 0), (22, .d (.sl (p0.Links.map implLink.enc))), (23, .d (.int .i64 (p0.Links.length : Int))), (24, .d (.int .i64 (i1 : Int))), (30, .d (.sl (y1.Log.map encS))), (31, .d (.int .i64 (y1.Log.length : Int))), (32, .d (.int .i64 (i2 : Int)))] [(1, [.d (.sl (p0.Links.map implLink.enc))]), (4, [.d (.sl (xv19.Log.map encS)), .d (.int .i64 xv19.Sent), .d (.int .i64 xv19.Sure)]), (6, [.d (.sl (y1.Log.map encS)), .d (.int .i64 y1.Sent), .d (.int .i64 y1.Sure)])] []
def s_GoodChain.O2 (p0 : implChain) (xv19 : implLink) (i1 : Nat) (y1 : implLink) (o2 : Unit) : St :=
  lit [(1, .bptr 1 0), (3, .d (.int .i64 (p0.Links.length : Int))), (4, .bptr 4 0), (5, .d (.int .i64 (i1 : Int))), (6, .bptr 6 0), (22, .d (.sl (p0.Links.map implLink.enc))), (23, .d (.int .i64 (p0.Links.length : Int))), (24, .d (.int .i64 (i1 : Int)))] [(1, [.d (.sl (p0.Links.map implLink.enc))]), (4, [.d (.sl (xv19.Log.map encS)), .d (.int .i64 xv19.Sent), .d (.int .i64 xv19.Sure)]), (6, [.d (.sl (y1.Log.map encS)), .d (.int .i64 y1.Sent), .d (.int .i64 y1.Sure)])] []
def s_GoodChain.l1 (p0 : implChain) (xv19 : implLink) : List implLink → Nat → Option (Sum Bool Unit)
  | [], i1 => some (.inr ())
  | y1 :: ys, i1 => (guardP ((y1.Log.length : Int) < 4611686018427387904)).bind fun _ => (s_GoodChain.l2 y1.Log 0).bind fun w2 => aftS w2 fun o2 => s_GoodChain.j3 p0 xv19 i1 (s_GoodChain.l1 p0 xv19 ys) y1
def s_GoodChain.S1 (p0 : implChain) (xv19 : implLink) (i1 : Nat) : St :=
  lit [(1, .bptr 1 0), (3, .d (.int .i64 (p0.Links.length : Int))), (4, .bptr 4 0), (22, .d (.sl (p0.Links.map implLink.enc))), (23, .d (.int .i64 (p0.Links.length : Int))), (24, .d (.int .i64 (i1 : Int)))] [(1, [.d (.sl (p0.Links.map implLink.enc))]), (4, [.d (.sl (xv19.Log.map encS)), .d (.int .i64 xv19.Sent), .d (.int .i64 xv19.Sure)])] []
def s_GoodChain.O1 (o1 : Unit) : St :=
  lit [] [] []
def s_GoodChain (p0 : implChain) : Option (Bool) :=
  (s_l1In (p0.Links.length : Int) 1 6).bind fun v13 => if v13 = true then ((ckK .i64 ((p0.Links.length : Int) - 1)).bind fun v18 => (ix p0.Links v18).bind fun xv19 => (guardP ((p0.Links.length : Int) < 4611686018427387904)).bind fun _ => (s_GoodChain.l1 p0 xv19 p0.Links 0).bind fun w1 => aft w1 fun o1 => s_GoodChain.j7) else (some false)
theorem s_GoodChain.ok (p0 : implChain) (r : Bool) (h0 : s_GoodChain p0 = some r) : ACall Try.prog 35 [.agg [.d (.sl (p0.Links.map implLink.enc))]] [] [] (fun v ob oa na => v = .d (.bool r) ∧ ob = [] ∧ oa = [] ∧ na = []) := by
  refine wFn_ok s_GoodChain.chk rfl ?_
  unfold s_GoodChain at h0
  refine And.intro rfl ?_
  refine ⟨lit [(1, .bptr 1 0)] [(1, [.d (.sl (p0.Links.map implLink.enc))])] [], (le_lit (And.intro (ve rfl) trivial) (And.intro ⟨_, rfl, (vel rfl)⟩ trivial) trivial), ?_⟩
  refine ⟨_, map_len _, ?_⟩
  refine ⟨lit [(1, .bptr 1 0), (3, .d (.int .i64 (p0.Links.length : Int)))] [(1, [.d (.sl (p0.Links.map implLink.enc))])] [], (le_lit (And.intro (ve rfl) (And.intro (ve rfl) trivial)) (And.intro ⟨_, rfl, (vel rfl)⟩ trivial) trivial), ?_⟩
  obtain ⟨v13, ev13, h1⟩ := bind_some h0
  clear h0
  refine ⟨rfl, nod rfl, rfl, rfl, _, rfl, rfl, ?_⟩
  refine (s_l1In.ok (p0.Links.length : Int) 1 6 _ ev13).mono ?_
  rintro _ _ _ _ ⟨rfl, rfl, rfl, rfl⟩
  refine ⟨rfl, rfl, rfl, rfl, trivial, trivial, ?_⟩
  refine ⟨lit [(1, .bptr 1 0), (3, .d (.int .i64 (p0.Links.length : Int))), (14, .d (.bool (!v13)))] [(1, [.d (.sl (p0.Links.map implLink.enc))])] [], (le_lit (And.intro (ve rfl) (And.intro (ve rfl) (And.intro (ve rfl) trivial))) (And.intro ⟨_, rfl, (vel rfl)⟩ trivial) trivial), ?_⟩
  by_cases c1 : v13 = true
  · have h2 := if_t c1 h1
    clear h1
    refine and_f (not_f c1) ?_
    refine ⟨lit [(1, .bptr 1 0), (3, .d (.int .i64 (p0.Links.length : Int)))] [(1, [.d (.sl (p0.Links.map implLink.enc))])] [], (le_lit (And.intro (ve rfl) (And.intro (ve rfl) trivial)) (And.intro ⟨_, rfl, (vel rfl)⟩ trivial) trivial), ?_⟩
    obtain ⟨v18, ev18, h3⟩ := bind_some h2
    clear h2
    obtain ⟨ev18, rv18⟩ := ckK_some ev18
    refine And.intro rfl ?_
    refine ⟨v18, ev18, fun _ => rv18, ?_⟩
    obtain ⟨xv19, exv19, h4⟩ := bind_some h3
    clear h3
    obtain ⟨av19, exv19⟩ := ix_some exv19
    refine And.intro av19 ⟨_, map_get exv19, rfl, ?_⟩
    refine And.intro rfl ?_
    refine And.intro rfl (And.intro rfl (And.intro (nle rfl) ?_))
    refine ⟨lit [(1, .bptr 1 0), (3, .d (.int .i64 (p0.Links.length : Int))), (4, .bptr 4 0)] [(1, [.d (.sl (p0.Links.map implLink.enc))]), (4, [.d (.sl (xv19.Log.map encS)), .d (.int .i64 xv19.Sent), .d (.int .i64 xv19.Sure)])] [], (le_lit (And.intro (ve rfl) (And.intro (ve rfl) (And.intro (ve rfl) trivial))) (And.intro ⟨_, rfl, (vel rfl)⟩ (And.intro ⟨_, rfl, (vel rfl)⟩ trivial)) trivial), ?_⟩
    refine ⟨{ g : Unit // s_GoodChain.j7 = some r }, fun g => s_GoodChain.J7, ?_, ?_⟩
    · skip
      refine ⟨_, map_len _, ?_⟩
      refine ⟨lit [(1, .bptr 1 0), (3, .d (.int .i64 (p0.Links.length : Int))), (4, .bptr 4 0), (22, .d (.sl (p0.Links.map implLink.enc))), (23, .d (.int .i64 (p0.Links.length : Int))), (24, .d (.int .i64 0))] [(1, [.d (.sl (p0.Links.map implLink.enc))]), (4, [.d (.sl (xv19.Log.map encS)), .d (.int .i64 xv19.Sent), .d (.int .i64 xv19.Sure)])] [], (le_lit (And.intro (ve rfl) (And.intro (ve rfl) (And.intro (ve rfl) (And.intro (ve rfl) (And.intro (ve rfl) (And.intro (ve rfl) trivial)))))) (And.intro ⟨_, rfl, (vel rfl)⟩ (And.intro ⟨_, rfl, (vel rfl)⟩ trivial)) trivial), ?_⟩
      obtain ⟨_, g1, h5⟩ := bind_some h4
      have q1 := guardP_some g1
      clear h4 g1
      obtain ⟨w1, e1, h6⟩ := bind_some h5
      clear h5
      refine ⟨{ g : Nat // g ≤ p0.Links.length ∧ s_GoodChain.l1 p0 xv19 (p0.Links.drop g) g = some w1 }, fun g => s_GoodChain.S1 p0 xv19 g.1, fun g => p0.Links.length - g.1, ⟨0, Nat.zero_le _, e1⟩, (le_lit (And.intro (ve rfl) (And.intro (ve rfl) (And.intro (ve rfl) (And.intro (ve rfl) (And.intro (ve rfl) (And.intro (ve rfl) trivial)))))) (And.intro ⟨_, rfl, (vel rfl)⟩ (And.intro ⟨_, rfl, (vel rfl)⟩ trivial)) trivial), ?_⟩
      rintro ⟨i1, le1, h7⟩
      change s_GoodChain.l1 p0 xv19 (p0.Links.drop i1) i1 = some w1 at h7
      change wMC _ _ _ (s_GoodChain.S1 p0 xv19 i1)
      by_cases ci1 : i1 < p0.Links.length
      · obtain ⟨y1, ey1, di1⟩ := drop_cons ci1
        rw [di1, s_GoodChain.l1] at h7
        have ri1 := range_inR (Int.ofNat_lt.mpr ci1) q1
        refine And.intro rfl ?_
        refine and_t (decide_eq_true (Int.ofNat_lt.mpr ci1)) ?_
        refine And.intro (Int.natCast_nonneg _) ⟨_, map_get ey1, rfl, ?_⟩
        refine And.intro rfl ?_
        refine And.intro rfl (And.intro rfl (And.intro (nle rfl) ?_))
        refine ⟨lit [(1, .bptr 1 0), (3, .d (.int .i64 (p0.Links.length : Int))), (4, .bptr 4 0), (5, .d (.int .i64 (i1 : Int))), (6, .bptr 6 0), (22, .d (.sl (p0.Links.map implLink.enc))), (23, .d (.int .i64 (p0.Links.length : Int))), (24, .d (.int .i64 (i1 : Int)))] [(1, [.d (.sl (p0.Links.map implLink.enc))]), (4, [.d (.sl (xv19.Log.map encS)), .d (.int .i64 xv19.Sent), .d (.int .i64 xv19.Sure)]), (6, [.d (.sl (y1.Log.map encS)), .d (.int .i64 y1.Sent), .d (.int .i64 y1.Sure)])] [], (le_lit (And.intro (ve rfl) (And.intro (ve rfl) (And.intro (ve rfl) (And.intro (ve rfl) (And.intro (ve rfl) (And.intro (ve rfl) (And.intro (ve rfl) (And.intro (ve rfl) trivial)))))))) (And.intro ⟨_, rfl, (vel rfl)⟩ (And.intro ⟨_, rfl, (vel rfl)⟩ (And.intro ⟨_, rfl, (vel rfl)⟩ trivial))) trivial), ?_⟩
        refine ⟨{ g : Unit // s_GoodChain.j3 p0 xv19 i1 (s_GoodChain.l1 p0 xv19 (p0.Links.drop (i1 + 1))) y1 = some w1 }, fun g => s_GoodChain.J3 p0 xv19 i1 y1, ?_, ?_⟩
        · skip
          refine ⟨_, map_len _, ?_⟩
          refine ⟨lit [(1, .bptr 1 0), (3, .d (.int .i64 (p0.Links.length : Int))), (4, .bptr 4 0), (5, .d (.int .i64 (i1 : Int))), (6, .bptr 6 0), (22, .d (.sl (p0.Links.map implLink.enc))), (23, .d (.int .i64 (p0.Links.length : Int))), (24, .d (.int .i64 (i1 : Int))), (30, .d (.sl (y1.Log.map encS))), (31, .d (.int .i64 (y1.Log.length : Int))), (32, .d (.int .i64 0))] [(1, [.d (.sl (p0.Links.map implLink.enc))]), (4, [.d (.sl (xv19.Log.map encS)), .d (.int .i64 xv19.Sent), .d (.int .i64 xv19.Sure)]), (6, [.d (.sl (y1.Log.map encS)), .d (.int .i64 y1.Sent), .d (.int .i64 y1.Sure)])] [], (le_lit (And.intro (ve rfl) (And.intro (ve rfl) (And.intro (ve rfl) (And.intro (ve rfl) (And.intro (ve rfl) (And.intro (ve rfl) (And.intro (ve rfl) (And.intro (ve rfl) (And.intro (ve rfl) (And.intro (ve rfl) (And.intro (ve rfl) trivial))))))))))) (And.intro ⟨_, rfl, (vel rfl)⟩ (And.intro ⟨_, rfl, (vel rfl)⟩ (And.intro ⟨_, rfl, (vel rfl)⟩ trivial))) trivial), ?_⟩
          obtain ⟨_, g2, h8⟩ := bind_some h7
          have q2 := guardP_some g2
          clear h7 g2
          obtain ⟨w2, e2, h9⟩ := bind_some h8
          clear h8
          refine ⟨{ g : Nat // g ≤ y1.Log.length ∧ s_GoodChain.l2 (y1.Log.drop g) g = some w2 }, fun g => s_GoodChain.S2 p0 xv19 i1 y1 g.1, fun g => y1.Log.length - g.1, ⟨0, Nat.zero_le _, e2⟩, (le_lit (And.intro (ve rfl) (And.intro (ve rfl) (And.intro (ve rfl) (And.intro (ve rfl) (And.intro (ve rfl) (And.intro (ve rfl) (And.intro (ve rfl) (And.intro (ve rfl) (And.intro (ve rfl) (And.intro (ve rfl) (And.intro (ve rfl) trivial))))))))))) (And.intro ⟨_, rfl, (vel rfl)⟩ (And.intro ⟨_, rfl, (vel rfl)⟩ (And.intro ⟨_, rfl, (vel rfl)⟩ trivial))) trivial), ?_⟩
          rintro ⟨i2, le2, h10⟩
          change s_GoodChain.l2 (y1.Log.drop i2) i2 = some w2 at h10
          change wMC _ _ _ (s_GoodChain.S2 p0 xv19 i1 y1 i2)
          by_cases ci2 : i2 < y1.Log.length
          · obtain ⟨y2, ey2, di2⟩ := drop_cons ci2
            rw [di2, s_GoodChain.l2] at h10
            have ri2 := range_inR (Int.ofNat_lt.mpr ci2) q2
            refine And.intro rfl ?_
            refine and_t (decide_eq_true (Int.ofNat_lt.mpr ci2)) ?_
            refine And.intro (Int.natCast_nonneg _) ⟨_, map_get ey2, rfl, ?_⟩
            refine ⟨lit [(1, .bptr 1 0), (3, .d (.int .i64 (p0.Links.length : Int))), (4, .bptr 4 0), (5, .d (.int .i64 (i1 : Int))), (6, .bptr 6 0), (8, .d (.str y2)), (22, .d (.sl (p0.Links.map implLink.enc))), (23, .d (.int .i64 (p0.Links.length : Int))), (24, .d (.int .i64 (i1 : Int))), (30, .d (.sl (y1.Log.map encS))), (31, .d (.int .i64 (y1.Log.length : Int))), (32, .d (.int .i64 (i2 : Int)))] [(1, [.d (.sl (p0.Links.map implLink.enc))]), (4, [.d (.sl (xv19.Log.map encS)), .d (.int .i64 xv19.Sent), .d (.int .i64 xv19.Sure)]), (6, [.d (.sl (y1.Log.map encS)), .d (.int .i64 y1.Sent), .d (.int .i64 y1.Sure)])] [], (le_lit (And.intro (ve rfl) (And.intro (ve rfl) (And.intro (ve rfl) (And.intro (ve rfl) (And.intro (ve rfl) (And.intro (ve rfl) (And.intro (ve rfl) (And.intro (ve rfl) (And.intro (ve rfl) (And.intro (ve rfl) (And.intro (ve rfl) (And.intro (ve rfl) trivial)))))))))))) (And.intro ⟨_, rfl, (vel rfl)⟩ (And.intro ⟨_, rfl, (vel rfl)⟩ (And.intro ⟨_, rfl, (vel rfl)⟩ trivial))) trivial), ?_⟩
            refine And.intro rfl ?_
            refine ⟨lit [(1, .bptr 1 0), (3, .d (.int .i64 (p0.Links.length : Int))), (4, .bptr 4 0), (5, .d (.int .i64 (i1 : Int))), (6, .bptr 6 0), (22, .d (.sl (p0.Links.map implLink.enc))), (23, .d (.int .i64 (p0.Links.length : Int))), (24, .d (.int .i64 (i1 : Int))), (30, .d (.sl (y1.Log.map encS))), (31, .d (.int .i64 (y1.Log.length : Int))), (32, .d (.int .i64 (i2 : Int))), (38, .d (.bool (decide (20 < (y2.length : Int)))))] [(1, [.d (.sl (p0.Links.map implLink.enc))]), (4, [.d (.sl (xv19.Log.map encS)), .d (.int .i64 xv19.Sent), .d (.int .i64 xv19.Sure)]), (6, [.d (.sl (y1.Log.map encS)), .d (.int .i64 y1.Sent), .d (.int .i64 y1.Sure)])] [], (le_lit (And.intro (ve rfl) (And.intro (ve rfl) (And.intro (ve rfl) (And.intro (ve rfl) (And.intro (ve rfl) (And.intro (ve rfl) (And.intro (ve rfl) (And.intro (ve rfl) (And.intro (ve rfl) (And.intro (ve rfl) (And.intro (ve rfl) (And.intro (ve rfl) trivial)))))))))))) (And.intro ⟨_, rfl, (vel rfl)⟩ (And.intro ⟨_, rfl, (vel rfl)⟩ (And.intro ⟨_, rfl, (vel rfl)⟩ trivial))) trivial), ?_⟩
            by_cases c4 : 20 < (y2.length : Int)
            · have h11 := if_t c4 h10
              clear h10
              refine and_t (decide_eq_true c4) ?_
              cases h11
              obtain rfl := aftS_inl h9
              obtain rfl := aft_inl h6
              exact ⟨[], nod rfl, all_lt rfl, blt_lt rfl, _, _, rfl, rfl, rfl, rfl, rfl, rfl⟩
            · have h12 := if_f c4 h10
              clear h10
              refine and_f (decide_eq_false c4) ?_
              refine And.intro rfl ?_
              refine ⟨((i2 + 1 : Nat) : Int), rfl, fun _ => ri2, ?_⟩
              exact ⟨⟨i2 + 1, ci2, h12⟩, (le_lit (And.intro (ve rfl) (And.intro (ve rfl) (And.intro (ve rfl) (And.intro (ve rfl) (And.intro (ve rfl) (And.intro (ve rfl) (And.intro (ve rfl) (And.intro (ve rfl) (And.intro (ve rfl) (And.intro (ve rfl) (And.intro (ve rfl) trivial))))))))))) (And.intro ⟨_, rfl, (vel rfl)⟩ (And.intro ⟨_, rfl, (vel rfl)⟩ (And.intro ⟨_, rfl, (vel rfl)⟩ trivial))) trivial), Nat.sub_lt_sub_left ci2 (Nat.lt_succ_self _)⟩
          · rw [drop_nil ci2, s_GoodChain.l2] at h10
            refine And.intro rfl ?_
            refine and_f (decide_eq_false (fun hh => ci2 (Int.ofNat_lt.mp hh))) ?_
            cases h10
            have h13 := aftS_inr h9
            exact ⟨⟨(), h13⟩, (le_lit (And.intro (ve rfl) (And.intro (ve rfl) (And.intro (ve rfl) (And.intro (ve rfl) (And.intro (ve rfl) (And.intro (ve rfl) (And.intro (ve rfl) (And.intro (ve rfl) trivial)))))))) (And.intro ⟨_, rfl, (vel rfl)⟩ (And.intro ⟨_, rfl, (vel rfl)⟩ (And.intro ⟨_, rfl, (vel rfl)⟩ trivial))) trivial)⟩
        · rintro ⟨⟨⟩, h14⟩
          change s_GoodChain.j3 p0 xv19 i1 (s_GoodChain.l1 p0 xv19 (p0.Links.drop (i1 + 1))) y1 = some w1 at h14
          change wMC _ _ _ (s_GoodChain.J3 p0 xv19 i1 y1)
          unfold s_GoodChain.j3 at h14
          clear h7
          refine ⟨{ g : Bool // s_GoodChain.j4 p0 xv19 i1 (s_GoodChain.l1 p0 xv19 (p0.Links.drop (i1 + 1))) y1 g = some w1 }, fun g => s_GoodChain.J4 p0 xv19 i1 y1 g.1, ?_, ?_⟩
          · skip
            refine ⟨_, map_len _, ?_⟩
            refine And.intro rfl ?_
            by_cases c5 : 40 < (y1.Log.length : Int)
            · have h15 := if_t c5 h14
              clear h14
              refine and_t' (decide_eq_true c5) ?_
              refine and_t' (decide_eq_true c5) ?_
              refine and_t' (decide_eq_true c5) ?_
              refine ⟨lit [(1, .bptr 1 0), (3, .d (.int .i64 (p0.Links.length : Int))), (4, .bptr 4 0), (5, .d (.int .i64 (i1 : Int))), (6, .bptr 6 0), (22, .d (.sl (p0.Links.map implLink.enc))), (23, .d (.int .i64 (p0.Links.length : Int))), (24, .d (.int .i64 (i1 : Int))), (44, .d (.bool (decide (40 < (y1.Log.length : Int))))), (47, .tup []), (49, .tup [])] [(1, [.d (.sl (p0.Links.map implLink.enc))]), (4, [.d (.sl (xv19.Log.map encS)), .d (.int .i64 xv19.Sent), .d (.int .i64 xv19.Sure)]), (6, [.d (.sl (y1.Log.map encS)), .d (.int .i64 y1.Sent), .d (.int .i64 y1.Sure)])] [], (le_lit (And.intro (ve rfl) (And.intro (ve rfl) (And.intro (ve rfl) (And.intro (ve rfl) (And.intro (ve rfl) (And.intro (ve rfl) (And.intro (ve rfl) (And.intro (ve rfl) (And.intro (ve rfl) (And.intro (ve rfl) (And.intro (ve rfl) trivial))))))))))) (And.intro ⟨_, rfl, (vel rfl)⟩ (And.intro ⟨_, rfl, (vel rfl)⟩ (And.intro ⟨_, rfl, (vel rfl)⟩ trivial))) trivial), ?_⟩
              refine And.intro (And.intro trivial ?_) trivial
              refine ⟨lit [(1, .bptr 1 0), (3, .d (.int .i64 (p0.Links.length : Int))), (4, .bptr 4 0), (5, .d (.int .i64 (i1 : Int))), (6, .bptr 6 0), (22, .d (.sl (p0.Links.map implLink.enc))), (23, .d (.int .i64 (p0.Links.length : Int))), (24, .d (.int .i64 (i1 : Int))), (44, .d (.bool (decide (40 < (y1.Log.length : Int))))), (47, .tup []), (57, .tup [])] [(1, [.d (.sl (p0.Links.map implLink.enc))]), (4, [.d (.sl (xv19.Log.map encS)), .d (.int .i64 xv19.Sent), .d (.int .i64 xv19.Sure)]), (6, [.d (.sl (y1.Log.map encS)), .d (.int .i64 y1.Sent), .d (.int .i64 y1.Sure)])] [], (le_lit (And.intro (ve rfl) (And.intro (ve rfl) (And.intro (ve rfl) (And.intro (ve rfl) (And.intro (ve rfl) (And.intro (ve rfl) (And.intro (ve rfl) (And.intro (ve rfl) (And.intro (ve rfl) (And.intro (ve rfl) (And.intro (ve rfl) trivial))))))))))) (And.intro ⟨_, rfl, (vel rfl)⟩ (And.intro ⟨_, rfl, (vel rfl)⟩ (And.intro ⟨_, rfl, (vel rfl)⟩ trivial))) trivial), ?_⟩
              refine and_t' (decide_eq_true c5) ?_
              refine and_t (decide_eq_true c5) ?_
              exact ⟨⟨_, h15⟩, (le_lit (And.intro (ve rfl) (And.intro (ve rfl) (And.intro (ve rfl) (And.intro (ve rfl) (And.intro (ve rfl) (And.intro (ve rfl) (And.intro (ve rfl) (And.intro (ve rfl) (And.intro (ve rfl) trivial))))))))) (And.intro ⟨_, rfl, (vel rfl)⟩ (And.intro ⟨_, rfl, (vel rfl)⟩ (And.intro ⟨_, rfl, (vel rfl)⟩ trivial))) trivial)⟩
            · have h16 := if_f c5 h14
              clear h14
              refine and_f' (decide_eq_false c5) ?_
              refine and_f' (decide_eq_false c5) ?_
              refine And.intro rfl ?_
              refine and_f' (decide_eq_false c5) ?_
              by_cases c6 : 0 < (i1 : Int)
              · have h17 := if_t c6 h16
                clear h16
                refine and_t (decide_eq_true c6) ?_
                refine and_t (decide_eq_true c6) ?_
                refine ⟨lit [(1, .bptr 1 0), (3, .d (.int .i64 (p0.Links.length : Int))), (4, .bptr 4 0), (5, .d (.int .i64 (i1 : Int))), (6, .bptr 6 0), (22, .d (.sl (p0.Links.map implLink.enc))), (23, .d (.int .i64 (p0.Links.length : Int))), (24, .d (.int .i64 (i1 : Int))), (44, .d (.bool (decide (40 < (y1.Log.length : Int))))), (47, .d (.bool (decide (0 < (i1 : Int))))), (49, .d (.sl (y1.Log.map encS)))] [(1, [.d (.sl (p0.Links.map implLink.enc))]), (4, [.d (.sl (xv19.Log.map encS)), .d (.int .i64 xv19.Sent), .d (.int .i64 xv19.Sure)]), (6, [.d (.sl (y1.Log.map encS)), .d (.int .i64 y1.Sent), .d (.int .i64 y1.Sure)])] [], (le_lit (And.intro (ve rfl) (And.intro (ve rfl) (And.intro (ve rfl) (And.intro (ve rfl) (And.intro (ve rfl) (And.intro (ve rfl) (And.intro (ve rfl) (And.intro (ve rfl) (And.intro (ve rfl) (And.intro (ve rfl) (And.intro (ve rfl) trivial))))))))))) (And.intro ⟨_, rfl, (vel rfl)⟩ (And.intro ⟨_, rfl, (vel rfl)⟩ (And.intro ⟨_, rfl, (vel rfl)⟩ trivial))) trivial), ?_⟩
                refine and_t (decide_eq_true c6) ?_
                refine and_t (decide_eq_true c6) ?_
                refine and_t (decide_eq_true c6) ?_
                obtain ⟨v53, ev53, h18⟩ := bind_some h17
                clear h17
                obtain ⟨ev53, rv53⟩ := ckK_some ev53
                refine and_t (decide_eq_true c6) ?_
                refine And.intro rfl ?_
                refine ⟨v53, ev53, fun _ => rv53, ?_⟩
                obtain ⟨xv54, exv54, h19⟩ := bind_some h18
                clear h18
                obtain ⟨av54, exv54⟩ := ix_some exv54
                refine and_t (decide_eq_true c6) ?_
                refine And.intro av54 ⟨_, map_get exv54, rfl, ?_⟩
                refine and_t (decide_eq_true c6) ?_
                refine and_t (decide_eq_true c6) ?_
                refine And.intro (And.intro trivial ?_) trivial
                obtain ⟨v57, ev57, h20⟩ := bind_some h19
                clear h19
                refine and_t (decide_eq_true c6) ?_
                refine ⟨rfl, nod rfl, rfl, rfl, _, rfl, rfl, ?_⟩
                refine (s_l15Begins.ok y1.Log xv54.Log _ ev57).mono ?_
                rintro _ _ _ _ ⟨rfl, rfl, rfl, rfl⟩
                refine ⟨rfl, rfl, rfl, rfl, trivial, trivial, ?_⟩
                refine ⟨lit [(1, .bptr 1 0), (3, .d (.int .i64 (p0.Links.length : Int))), (4, .bptr 4 0), (5, .d (.int .i64 (i1 : Int))), (6, .bptr 6 0), (22, .d (.sl (p0.Links.map implLink.enc))), (23, .d (.int .i64 (p0.Links.length : Int))), (24, .d (.int .i64 (i1 : Int))), (44, .d (.bool (decide (40 < (y1.Log.length : Int))))), (47, .d (.bool (decide (0 < (i1 : Int))))), (57, .d (.bool v57))] [(1, [.d (.sl (p0.Links.map implLink.enc))]), (4, [.d (.sl (xv19.Log.map encS)), .d (.int .i64 xv19.Sent), .d (.int .i64 xv19.Sure)]), (6, [.d (.sl (y1.Log.map encS)), .d (.int .i64 y1.Sent), .d (.int .i64 y1.Sure)])] [], (le_lit (And.intro (ve rfl) (And.intro (ve rfl) (And.intro (ve rfl) (And.intro (ve rfl) (And.intro (ve rfl) (And.intro (ve rfl) (And.intro (ve rfl) (And.intro (ve rfl) (And.intro (ve rfl) (And.intro (ve rfl) (And.intro (ve rfl) trivial))))))))))) (And.intro ⟨_, rfl, (vel rfl)⟩ (And.intro ⟨_, rfl, (vel rfl)⟩ (And.intro ⟨_, rfl, (vel rfl)⟩ trivial))) trivial), ?_⟩
                refine and_t (decide_eq_true c6) ?_
                refine and_f' (decide_eq_false c5) ?_
                refine and_t (decide_eq_true c6) ?_
                refine and_f (decide_eq_false c5) ?_
                exact ⟨⟨_, h20⟩, (le_lit (And.intro (ve rfl) (And.intro (ve rfl) (And.intro (ve rfl) (And.intro (ve rfl) (And.intro (ve rfl) (And.intro (ve rfl) (And.intro (ve rfl) (And.intro (ve rfl) (And.intro (ve rfl) trivial))))))))) (And.intro ⟨_, rfl, (vel rfl)⟩ (And.intro ⟨_, rfl, (vel rfl)⟩ (And.intro ⟨_, rfl, (vel rfl)⟩ trivial))) trivial)⟩
              · have h21 := if_f c6 h16
                clear h16
                refine and_f (decide_eq_false c6) ?_
                refine and_f (decide_eq_false c6) ?_
                refine ⟨lit [(1, .bptr 1 0), (3, .d (.int .i64 (p0.Links.length : Int))), (4, .bptr 4 0), (5, .d (.int .i64 (i1 : Int))), (6, .bptr 6 0), (22, .d (.sl (p0.Links.map implLink.enc))), (23, .d (.int .i64 (p0.Links.length : Int))), (24, .d (.int .i64 (i1 : Int))), (44, .d (.bool (decide (40 < (y1.Log.length : Int))))), (47, .d (.bool (decide (0 < (i1 : Int))))), (49, .tup [])] [(1, [.d (.sl (p0.Links.map implLink.enc))]), (4, [.d (.sl (xv19.Log.map encS)), .d (.int .i64 xv19.Sent), .d (.int .i64 xv19.Sure)]), (6, [.d (.sl (y1.Log.map encS)), .d (.int .i64 y1.Sent), .d (.int .i64 y1.Sure)])] [], (le_lit (And.intro (ve rfl) (And.intro (ve rfl) (And.intro (ve rfl) (And.intro (ve rfl) (And.intro (ve rfl) (And.intro (ve rfl) (And.intro (ve rfl) (And.intro (ve rfl) (And.intro (ve rfl) (And.intro (ve rfl) (And.intro (ve rfl) trivial))))))))))) (And.intro ⟨_, rfl, (vel rfl)⟩ (And.intro ⟨_, rfl, (vel rfl)⟩ (And.intro ⟨_, rfl, (vel rfl)⟩ trivial))) trivial), ?_⟩
                refine and_f (decide_eq_false c6) ?_
                refine and_f (decide_eq_false c6) ?_
                refine and_f (decide_eq_false c6) ?_
                refine and_f (decide_eq_false c6) ?_
                refine and_f (decide_eq_false c6) ?_
                refine and_f (decide_eq_false c6) ?_
                refine and_f (decide_eq_false c6) ?_
                refine And.intro (And.intro trivial ?_) trivial
                refine and_f (decide_eq_false c6) ?_
                refine ⟨lit [(1, .bptr 1 0), (3, .d (.int .i64 (p0.Links.length : Int))), (4, .bptr 4 0), (5, .d (.int .i64 (i1 : Int))), (6, .bptr 6 0), (22, .d (.sl (p0.Links.map implLink.enc))), (23, .d (.int .i64 (p0.Links.length : Int))), (24, .d (.int .i64 (i1 : Int))), (44, .d (.bool (decide (40 < (y1.Log.length : Int))))), (47, .d (.bool (decide (0 < (i1 : Int))))), (57, .tup [])] [(1, [.d (.sl (p0.Links.map implLink.enc))]), (4, [.d (.sl (xv19.Log.map encS)), .d (.int .i64 xv19.Sent), .d (.int .i64 xv19.Sure)]), (6, [.d (.sl (y1.Log.map encS)), .d (.int .i64 y1.Sent), .d (.int .i64 y1.Sure)])] [], (le_lit (And.intro (ve rfl) (And.intro (ve rfl) (And.intro (ve rfl) (And.intro (ve rfl) (And.intro (ve rfl) (And.intro (ve rfl) (And.intro (ve rfl) (And.intro (ve rfl) (And.intro (ve rfl) (And.intro (ve rfl) (And.intro (ve rfl) trivial))))))))))) (And.intro ⟨_, rfl, (vel rfl)⟩ (And.intro ⟨_, rfl, (vel rfl)⟩ (And.intro ⟨_, rfl, (vel rfl)⟩ trivial))) trivial), ?_⟩
                refine and_f (decide_eq_false c6) ?_
                refine and_f' (decide_eq_false c5) ?_
                refine and_f (decide_eq_false c6) ?_
                refine and_f (decide_eq_false c5) ?_
                exact ⟨⟨_, h21⟩, (le_lit (And.intro (ve rfl) (And.intro (ve rfl) (And.intro (ve rfl) (And.intro (ve rfl) (And.intro (ve rfl) (And.intro (ve rfl) (And.intro (ve rfl) (And.intro (ve rfl) (And.intro (ve rfl) trivial))))))))) (And.intro ⟨_, rfl, (vel rfl)⟩ (And.intro ⟨_, rfl, (vel rfl)⟩ (And.intro ⟨_, rfl, (vel rfl)⟩ trivial))) trivial)⟩
          · rintro ⟨x60_4, h22⟩
            change s_GoodChain.j4 p0 xv19 i1 (s_GoodChain.l1 p0 xv19 (p0.Links.drop (i1 + 1))) y1 x60_4 = some w1 at h22
            change wMC _ _ _ (s_GoodChain.J4 p0 xv19 i1 y1 x60_4)
            unfold s_GoodChain.j4 at h22
            clear h14
            by_cases c7 : x60_4 = true
            · have h23 := if_t c7 h22
              clear h22
              refine and_t c7 ?_
              cases h23
              obtain rfl := aft_inl h6
              exact ⟨[], nod rfl, all_lt rfl, blt_lt rfl, _, _, rfl, rfl, rfl, rfl, rfl, rfl⟩
            · have h24 := if_f c7 h22
              clear h22
              refine and_f (ne_t c7) ?_
              refine ⟨lit [(1, .bptr 1 0), (3, .d (.int .i64 (p0.Links.length : Int))), (4, .bptr 4 0), (5, .d (.int .i64 (i1 : Int))), (6, .bptr 6 0), (22, .d (.sl (p0.Links.map implLink.enc))), (23, .d (.int .i64 (p0.Links.length : Int))), (24, .d (.int .i64 (i1 : Int)))] [(1, [.d (.sl (p0.Links.map implLink.enc))]), (4, [.d (.sl (xv19.Log.map encS)), .d (.int .i64 xv19.Sent), .d (.int .i64 xv19.Sure)]), (6, [.d (.sl (y1.Log.map encS)), .d (.int .i64 y1.Sent), .d (.int .i64 y1.Sure)])] [], (le_lit (And.intro (ve rfl) (And.intro (ve rfl) (And.intro (ve rfl) (And.intro (ve rfl) (And.intro (ve rfl) (And.intro (ve rfl) (And.intro (ve rfl) (And.intro (ve rfl) trivial)))))))) (And.intro ⟨_, rfl, (vel rfl)⟩ (And.intro ⟨_, rfl, (vel rfl)⟩ (And.intro ⟨_, rfl, (vel rfl)⟩ trivial))) trivial), ?_⟩
              obtain ⟨v63, ev63, h25⟩ := bind_some h24
              clear h24
              obtain ⟨ev63, rv63⟩ := ckK_some ev63
              refine And.intro rfl ?_
              refine ⟨v63, ev63, fun _ => rv63, ?_⟩
              refine And.intro rfl ?_
              refine ⟨lit [(1, .bptr 1 0), (3, .d (.int .i64 (p0.Links.length : Int))), (4, .bptr 4 0), (5, .d (.int .i64 (i1 : Int))), (6, .bptr 6 0), (22, .d (.sl (p0.Links.map implLink.enc))), (23, .d (.int .i64 (p0.Links.length : Int))), (24, .d (.int .i64 (i1 : Int))), (64, .d (.bool (decide ((i1 : Int) = v63))))] [(1, [.d (.sl (p0.Links.map implLink.enc))]), (4, [.d (.sl (xv19.Log.map encS)), .d (.int .i64 xv19.Sent), .d (.int .i64 xv19.Sure)]), (6, [.d (.sl (y1.Log.map encS)), .d (.int .i64 y1.Sent), .d (.int .i64 y1.Sure)])] [], (le_lit (And.intro (ve rfl) (And.intro (ve rfl) (And.intro (ve rfl) (And.intro (ve rfl) (And.intro (ve rfl) (And.intro (ve rfl) (And.intro (ve rfl) (And.intro (ve rfl) (And.intro (ve rfl) trivial))))))))) (And.intro ⟨_, rfl, (vel rfl)⟩ (And.intro ⟨_, rfl, (vel rfl)⟩ (And.intro ⟨_, rfl, (vel rfl)⟩ trivial))) trivial), ?_⟩
              by_cases c8 : (i1 : Int) = v63
              · have h26 := if_t c8 h25
                clear h25
                refine and_t (decide_eq_true c8) ?_
                refine ⟨{ g : Bool // s_GoodChain.j5 i1 (s_GoodChain.l1 p0 xv19 (p0.Links.drop (i1 + 1))) g = some w1 }, fun g => s_GoodChain.J5 p0 xv19 i1 g.1, ?_, ?_⟩
                · skip
                  refine And.intro rfl ?_
                  by_cases c9 : y1.Sent = 0
                  · have h27 := if_t c9 h26
                    clear h26
                    refine and_f' (not_f (decide_eq_true c9)) ?_
                    refine and_f' (not_f (decide_eq_true c9)) ?_
                    refine and_f' (not_f (decide_eq_true c9)) ?_
                    refine and_f' (not_f (decide_eq_true c9)) ?_
                    refine and_f' (not_f (decide_eq_true c9)) ?_
                    refine ⟨_, map_len _, ?_⟩
                    refine and_f' (not_f (decide_eq_true c9)) ?_
                    refine And.intro rfl ?_
                    refine and_f (not_f (decide_eq_true c9)) ?_
                    exact ⟨⟨_, h27⟩, (le_lit (And.intro (ve rfl) (And.intro (ve rfl) (And.intro (ve rfl) (And.intro (ve rfl) (And.intro (ve rfl) (And.intro (ve rfl) (And.intro (ve rfl) trivial))))))) (And.intro ⟨_, rfl, (vel rfl)⟩ (And.intro ⟨_, rfl, (vel rfl)⟩ trivial)) trivial)⟩
                  · have h28 := if_f c9 h26
                    clear h26
                    refine and_t' (not_t (decide_eq_false c9)) ?_
                    refine and_t' (not_t (decide_eq_false c9)) ?_
                    refine and_t' (not_t (decide_eq_false c9)) ?_
                    refine and_t' (not_t (decide_eq_false c9)) ?_
                    refine and_t' (not_t (decide_eq_false c9)) ?_
                    refine and_t' (not_t (decide_eq_false c9)) ?_
                    refine and_t (not_t (decide_eq_false c9)) ?_
                    exact ⟨⟨_, h28⟩, (le_lit (And.intro (ve rfl) (And.intro (ve rfl) (And.intro (ve rfl) (And.intro (ve rfl) (And.intro (ve rfl) (And.intro (ve rfl) (And.intro (ve rfl) trivial))))))) (And.intro ⟨_, rfl, (vel rfl)⟩ (And.intro ⟨_, rfl, (vel rfl)⟩ trivial)) trivial)⟩
                · rintro ⟨x75_5, h29⟩
                  change s_GoodChain.j5 i1 (s_GoodChain.l1 p0 xv19 (p0.Links.drop (i1 + 1))) x75_5 = some w1 at h29
                  change wMC _ _ _ (s_GoodChain.J5 p0 xv19 i1 x75_5)
                  unfold s_GoodChain.j5 at h29
                  clear h26
                  by_cases c10 : x75_5 = true
                  · have h30 := if_t c10 h29
                    clear h29
                    refine and_t c10 ?_
                    cases h30
                    obtain rfl := aft_inl h6
                    exact ⟨[], nod rfl, all_lt rfl, blt_lt rfl, _, _, rfl, rfl, rfl, rfl, rfl, rfl⟩
                  · have h31 := if_f c10 h29
                    clear h29
                    refine and_f (ne_t c10) ?_
                    refine And.intro rfl ?_
                    refine ⟨((i1 + 1 : Nat) : Int), rfl, fun _ => ri1, ?_⟩
                    exact ⟨⟨i1 + 1, ci1, h31⟩, (le_lit (And.intro (ve rfl) (And.intro (ve rfl) (And.intro (ve rfl) (And.intro (ve rfl) (And.intro (ve rfl) (And.intro (ve rfl) trivial)))))) (And.intro ⟨_, rfl, (vel rfl)⟩ (And.intro ⟨_, rfl, (vel rfl)⟩ trivial)) trivial), Nat.sub_lt_sub_left ci1 (Nat.lt_succ_self _)⟩
              · have h32 := if_f c8 h25
                clear h25
                refine and_f (decide_eq_false c8) ?_
                refine ⟨lit [(1, .bptr 1 0), (3, .d (.int .i64 (p0.Links.length : Int))), (4, .bptr 4 0), (5, .d (.int .i64 (i1 : Int))), (6, .bptr 6 0), (22, .d (.sl (p0.Links.map implLink.enc))), (23, .d (.int .i64 (p0.Links.length : Int))), (24, .d (.int .i64 (i1 : Int)))] [(1, [.d (.sl (p0.Links.map implLink.enc))]), (4, [.d (.sl (xv19.Log.map encS)), .d (.int .i64 xv19.Sent), .d (.int .i64 xv19.Sure)]), (6, [.d (.sl (y1.Log.map encS)), .d (.int .i64 y1.Sent), .d (.int .i64 y1.Sure)])] [], (le_lit (And.intro (ve rfl) (And.intro (ve rfl) (And.intro (ve rfl) (And.intro (ve rfl) (And.intro (ve rfl) (And.intro (ve rfl) (And.intro (ve rfl) (And.intro (ve rfl) trivial)))))))) (And.intro ⟨_, rfl, (vel rfl)⟩ (And.intro ⟨_, rfl, (vel rfl)⟩ (And.intro ⟨_, rfl, (vel rfl)⟩ trivial))) trivial), ?_⟩
                refine ⟨{ g : Bool // s_GoodChain.j6 i1 (s_GoodChain.l1 p0 xv19 (p0.Links.drop (i1 + 1))) g = some w1 }, fun g => s_GoodChain.J6 p0 xv19 i1 g.1, ?_, ?_⟩
                · skip
                  obtain ⟨v81, ev81, h33⟩ := bind_some h32
                  clear h32
                  obtain ⟨ev81, rv81⟩ := ckK_some ev81
                  refine And.intro rfl ?_
                  refine ⟨v81, ev81, fun _ => rv81, ?_⟩
                  obtain ⟨xv82, exv82, h34⟩ := bind_some h33
                  clear h33
                  obtain ⟨av82, exv82⟩ := ix_some exv82
                  refine And.intro av82 ⟨_, map_get exv82, rfl, ?_⟩
                  refine ⟨lit [(1, .bptr 1 0), (3, .d (.int .i64 (p0.Links.length : Int))), (4, .bptr 4 0), (5, .d (.int .i64 (i1 : Int))), (6, .bptr 6 0), (22, .d (.sl (p0.Links.map implLink.enc))), (23, .d (.int .i64 (p0.Links.length : Int))), (24, .d (.int .i64 (i1 : Int))), (77, .d (.int .i64 y1.Sent)), (84, .d (.sl (xv82.Log.map encS)))] [(1, [.d (.sl (p0.Links.map implLink.enc))]), (4, [.d (.sl (xv19.Log.map encS)), .d (.int .i64 xv19.Sent), .d (.int .i64 xv19.Sure)]), (6, [.d (.sl (y1.Log.map encS)), .d (.int .i64 y1.Sent), .d (.int .i64 y1.Sure)])] [], (le_lit (And.intro (ve rfl) (And.intro (ve rfl) (And.intro (ve rfl) (And.intro (ve rfl) (And.intro (ve rfl) (And.intro (ve rfl) (And.intro (ve rfl) (And.intro (ve rfl) (And.intro (ve rfl) (And.intro (ve rfl) trivial)))))))))) (And.intro ⟨_, rfl, (vel rfl)⟩ (And.intro ⟨_, rfl, (vel rfl)⟩ (And.intro ⟨_, rfl, (vel rfl)⟩ trivial))) trivial), ?_⟩
                  refine ⟨_, map_len _, ?_⟩
                  refine And.intro (And.intro trivial ?_) trivial
                  obtain ⟨v86, ev86, h35⟩ := bind_some h34
                  clear h34
                  refine ⟨rfl, nod rfl, rfl, rfl, _, rfl, rfl, ?_⟩
                  refine (s_l1In.ok y1.Sent 0 (xv82.Log.length : Int) _ ev86).mono ?_
                  rintro _ _ _ _ ⟨rfl, rfl, rfl, rfl⟩
                  refine ⟨rfl, rfl, rfl, rfl, trivial, trivial, ?_⟩
                  by_cases c11 : v86 = true
                  · have h36 := if_t c11 h35
                    clear h35
                    refine and_f' (not_f c11) ?_
                    refine and_f' (not_f c11) ?_
                    refine and_f' (not_f c11) ?_
                    refine ⟨lit [(1, .bptr 1 0), (3, .d (.int .i64 (p0.Links.length : Int))), (4, .bptr 4 0), (5, .d (.int .i64 (i1 : Int))), (6, .bptr 6 0), (22, .d (.sl (p0.Links.map implLink.enc))), (23, .d (.int .i64 (p0.Links.length : Int))), (24, .d (.int .i64 (i1 : Int))), (88, .d (.bool (!v86))), (90, .d (.int .i64 y1.Sure)), (91, .bptr 4 0)] [(1, [.d (.sl (p0.Links.map implLink.enc))]), (4, [.d (.sl (xv19.Log.map encS)), .d (.int .i64 xv19.Sent), .d (.int .i64 xv19.Sure)]), (6, [.d (.sl (y1.Log.map encS)), .d (.int .i64 y1.Sent), .d (.int .i64 y1.Sure)])] [], (le_lit (And.intro (ve rfl) (And.intro (ve rfl) (And.intro (ve rfl) (And.intro (ve rfl) (And.intro (ve rfl) (And.intro (ve rfl) (And.intro (ve rfl) (And.intro (ve rfl) (And.intro (ve rfl) (And.intro (ve rfl) (And.intro (ve rfl) trivial))))))))))) (And.intro ⟨_, rfl, (vel rfl)⟩ (And.intro ⟨_, rfl, (vel rfl)⟩ (And.intro ⟨_, rfl, (vel rfl)⟩ trivial))) trivial), ?_⟩
                    refine and_f' (not_f c11) ?_
                    refine and_f' (not_f c11) ?_
                    refine ⟨_, map_len _, ?_⟩
                    refine And.intro (And.intro trivial ?_) trivial
                    obtain ⟨v94, ev94, h37⟩ := bind_some h36
                    clear h36
                    refine and_f' (not_f c11) ?_
                    refine ⟨rfl, nod rfl, rfl, rfl, _, rfl, rfl, ?_⟩
                    refine (s_l1In.ok y1.Sure 0 (xv19.Log.length : Int) _ ev94).mono ?_
                    rintro _ _ _ _ ⟨rfl, rfl, rfl, rfl⟩
                    refine ⟨rfl, rfl, rfl, rfl, trivial, trivial, ?_⟩
                    refine and_f' (not_f c11) ?_
                    refine and_f (not_f c11) ?_
                    by_cases c12 : v94 = true
                    · have h38 := if_t c12 h37
                      clear h37
                      refine and_f' (not_f c12) ?_
                      refine ⟨lit [(1, .bptr 1 0), (3, .d (.int .i64 (p0.Links.length : Int))), (4, .bptr 4 0), (5, .d (.int .i64 (i1 : Int))), (22, .d (.sl (p0.Links.map implLink.enc))), (23, .d (.int .i64 (p0.Links.length : Int))), (24, .d (.int .i64 (i1 : Int))), (97, .d (.bool (!v94))), (98, .bptr 6 2)] [(1, [.d (.sl (p0.Links.map implLink.enc))]), (4, [.d (.sl (xv19.Log.map encS)), .d (.int .i64 xv19.Sent), .d (.int .i64 xv19.Sure)]), (6, [.d (.sl (y1.Log.map encS)), .d (.int .i64 y1.Sent), .d (.int .i64 y1.Sure)])] [], (le_lit (And.intro (ve rfl) (And.intro (ve rfl) (And.intro (ve rfl) (And.intro (ve rfl) (And.intro (ve rfl) (And.intro (ve rfl) (And.intro (ve rfl) (And.intro (ve rfl) (And.intro (ve rfl) trivial))))))))) (And.intro ⟨_, rfl, (vel rfl)⟩ (And.intro ⟨_, rfl, (vel rfl)⟩ (And.intro ⟨_, rfl, (vel rfl)⟩ trivial))) trivial), ?_⟩
                      refine and_f' (not_f c12) ?_
                      refine and_f' (not_f c12) ?_
                      refine and_f' (not_f c12) ?_
                      refine and_f' (not_f c12) ?_
                      refine and_f' (not_f c12) ?_
                      refine And.intro rfl ?_
                      refine ⟨v81, ev81, fun _ => rv81, ?_⟩
                      refine and_f' (not_f c12) ?_
                      refine And.intro av82 ⟨_, map_get exv82, rfl, ?_⟩
                      refine and_f' (not_f c12) ?_
                      refine and_f' (not_f c12) ?_
                      refine and_f' (not_f c12) ?_
                      refine And.intro rfl ?_
                      refine and_f (not_f c12) ?_
                      exact ⟨⟨_, h38⟩, (le_lit (And.intro (ve rfl) (And.intro (ve rfl) (And.intro (ve rfl) (And.intro (ve rfl) (And.intro (ve rfl) (And.intro (ve rfl) (And.intro (ve rfl) trivial))))))) (And.intro ⟨_, rfl, (vel rfl)⟩ (And.intro ⟨_, rfl, (vel rfl)⟩ trivial)) trivial)⟩
                    · have h39 := if_f c12 h37
                      clear h37
                      refine and_t' (not_t (ne_t c12)) ?_
                      refine ⟨lit [(1, .bptr 1 0), (3, .d (.int .i64 (p0.Links.length : Int))), (4, .bptr 4 0), (5, .d (.int .i64 (i1 : Int))), (22, .d (.sl (p0.Links.map implLink.enc))), (23, .d (.int .i64 (p0.Links.length : Int))), (24, .d (.int .i64 (i1 : Int))), (97, .d (.bool (!v94))), (98, .tup [])] [(1, [.d (.sl (p0.Links.map implLink.enc))]), (4, [.d (.sl (xv19.Log.map encS)), .d (.int .i64 xv19.Sent), .d (.int .i64 xv19.Sure)])] [], (le_lit (And.intro (ve rfl) (And.intro (ve rfl) (And.intro (ve rfl) (And.intro (ve rfl) (And.intro (ve rfl) (And.intro (ve rfl) (And.intro (ve rfl) (And.intro (ve rfl) (And.intro (ve rfl) trivial))))))))) (And.intro ⟨_, rfl, (vel rfl)⟩ (And.intro ⟨_, rfl, (vel rfl)⟩ trivial)) trivial), ?_⟩
                      refine and_t' (not_t (ne_t c12)) ?_
                      refine and_t' (not_t (ne_t c12)) ?_
                      refine and_t' (not_t (ne_t c12)) ?_
                      refine and_t' (not_t (ne_t c12)) ?_
                      refine and_t' (not_t (ne_t c12)) ?_
                      refine and_t' (not_t (ne_t c12)) ?_
                      refine and_t' (not_t (ne_t c12)) ?_
                      refine and_t' (not_t (ne_t c12)) ?_
                      refine and_t' (not_t (ne_t c12)) ?_
                      refine and_t (not_t (ne_t c12)) ?_
                      exact ⟨⟨_, h39⟩, (le_lit (And.intro (ve rfl) (And.intro (ve rfl) (And.intro (ve rfl) (And.intro (ve rfl) (And.intro (ve rfl) (And.intro (ve rfl) (And.intro (ve rfl) trivial))))))) (And.intro ⟨_, rfl, (vel rfl)⟩ (And.intro ⟨_, rfl, (vel rfl)⟩ trivial)) trivial)⟩
                  · have h40 := if_f c11 h35
                    clear h35
                    refine and_t' (not_t (ne_t c11)) ?_
                    refine and_t' (not_t (ne_t c11)) ?_
                    refine and_t' (not_t (ne_t c11)) ?_
                    refine ⟨lit [(1, .bptr 1 0), (3, .d (.int .i64 (p0.Links.length : Int))), (4, .bptr 4 0), (5, .d (.int .i64 (i1 : Int))), (6, .bptr 6 0), (22, .d (.sl (p0.Links.map implLink.enc))), (23, .d (.int .i64 (p0.Links.length : Int))), (24, .d (.int .i64 (i1 : Int))), (88, .d (.bool (!v86))), (90, .tup []), (91, .tup [])] [(1, [.d (.sl (p0.Links.map implLink.enc))]), (4, [.d (.sl (xv19.Log.map encS)), .d (.int .i64 xv19.Sent), .d (.int .i64 xv19.Sure)]), (6, [.d (.sl (y1.Log.map encS)), .d (.int .i64 y1.Sent), .d (.int .i64 y1.Sure)])] [], (le_lit (And.intro (ve rfl) (And.intro (ve rfl) (And.intro (ve rfl) (And.intro (ve rfl) (And.intro (ve rfl) (And.intro (ve rfl) (And.intro (ve rfl) (And.intro (ve rfl) (And.intro (ve rfl) (And.intro (ve rfl) (And.intro (ve rfl) trivial))))))))))) (And.intro ⟨_, rfl, (vel rfl)⟩ (And.intro ⟨_, rfl, (vel rfl)⟩ (And.intro ⟨_, rfl, (vel rfl)⟩ trivial))) trivial), ?_⟩
                    refine and_t' (not_t (ne_t c11)) ?_
                    refine and_t' (not_t (ne_t c11)) ?_
                    refine And.intro (And.intro trivial ?_) trivial
                    refine and_t' (not_t (ne_t c11)) ?_
                    refine and_t' (not_t (ne_t c11)) ?_
                    refine and_t (not_t (ne_t c11)) ?_
                    refine and_t' rfl ?_
                    refine ⟨lit [(1, .bptr 1 0), (3, .d (.int .i64 (p0.Links.length : Int))), (4, .bptr 4 0), (5, .d (.int .i64 (i1 : Int))), (22, .d (.sl (p0.Links.map implLink.enc))), (23, .d (.int .i64 (p0.Links.length : Int))), (24, .d (.int .i64 (i1 : Int))), (97, .d (.bool true)), (98, .tup [])] [(1, [.d (.sl (p0.Links.map implLink.enc))]), (4, [.d (.sl (xv19.Log.map encS)), .d (.int .i64 xv19.Sent), .d (.int .i64 xv19.Sure)])] [], (le_lit (And.intro (ve rfl) (And.intro (ve rfl) (And.intro (ve rfl) (And.intro (ve rfl) (And.intro (ve rfl) (And.intro (ve rfl) (And.intro (ve rfl) (And.intro (ve rfl) (And.intro (ve rfl) trivial))))))))) (And.intro ⟨_, rfl, (vel rfl)⟩ (And.intro ⟨_, rfl, (vel rfl)⟩ trivial)) trivial), ?_⟩
                    refine and_t' rfl ?_
                    refine and_t' rfl ?_
                    refine and_t' rfl ?_
                    refine and_t' rfl ?_
                    refine and_t' rfl ?_
                    refine and_t' rfl ?_
                    refine and_t' rfl ?_
                    refine and_t' rfl ?_
                    refine and_t' rfl ?_
                    refine and_t rfl ?_
                    exact ⟨⟨_, h40⟩, (le_lit (And.intro (ve rfl) (And.intro (ve rfl) (And.intro (ve rfl) (And.intro (ve rfl) (And.intro (ve rfl) (And.intro (ve rfl) (And.intro (ve rfl) trivial))))))) (And.intro ⟨_, rfl, (vel rfl)⟩ (And.intro ⟨_, rfl, (vel rfl)⟩ trivial)) trivial)⟩
                · rintro ⟨x108_6, h41⟩
                  change s_GoodChain.j6 i1 (s_GoodChain.l1 p0 xv19 (p0.Links.drop (i1 + 1))) x108_6 = some w1 at h41
                  change wMC _ _ _ (s_GoodChain.J6 p0 xv19 i1 x108_6)
                  unfold s_GoodChain.j6 at h41
                  clear h32
                  by_cases c13 : x108_6 = true
                  · have h42 := if_t c13 h41
                    clear h41
                    refine and_t c13 ?_
                    cases h42
                    obtain rfl := aft_inl h6
                    exact ⟨[], nod rfl, all_lt rfl, blt_lt rfl, _, _, rfl, rfl, rfl, rfl, rfl, rfl⟩
                  · have h43 := if_f c13 h41
                    clear h41
                    refine and_f (ne_t c13) ?_
                    refine And.intro rfl ?_
                    refine ⟨((i1 + 1 : Nat) : Int), rfl, fun _ => ri1, ?_⟩
                    exact ⟨⟨i1 + 1, ci1, h43⟩, (le_lit (And.intro (ve rfl) (And.intro (ve rfl) (And.intro (ve rfl) (And.intro (ve rfl) (And.intro (ve rfl) (And.intro (ve rfl) trivial)))))) (And.intro ⟨_, rfl, (vel rfl)⟩ (And.intro ⟨_, rfl, (vel rfl)⟩ trivial)) trivial), Nat.sub_lt_sub_left ci1 (Nat.lt_succ_self _)⟩
      · rw [drop_nil ci1, s_GoodChain.l1] at h7
        refine And.intro rfl ?_
        refine and_f (decide_eq_false (fun hh => ci1 (Int.ofNat_lt.mp hh))) ?_
        cases h7
        have h44 := aft_inr h6
        exact ⟨⟨(), h44⟩, (le_lit trivial trivial trivial)⟩
    · rintro ⟨⟨⟩, h45⟩
      change s_GoodChain.j7 = some r at h45
      change wMC _ _ _ (s_GoodChain.J7)
      unfold s_GoodChain.j7 at h45
      clear h4
      cases h45
      exact ⟨[], nod rfl, all_lt rfl, blt_lt rfl, _, _, rfl, rfl, rfl, rfl, rfl, rfl⟩
  · have h46 := if_f c1 h1
    clear h1
    refine and_t (not_t (ne_t c1)) ?_
    cases h46
    exact ⟨[], nod rfl, all_lt rfl, blt_lt rfl, _, _, rfl, rfl, rfl, rfl, rfl, rfl⟩
end Go.Vm
end
section
/- A good chain, as both sides see it. -/
namespace Go.Vm
abbrev Txts := List (List UInt8)
def Pre (a b : Txts) : Prop := b.take a.length = a
theorem within_eq (a b c : Int) : ∃ r, i_within a b c = some r ∧ (r = true ↔ b ≤ a ∧ a ≤ c) := by
  unfold i_within; split
  · exact ⟨_, rfl, by simp; omega⟩
  · exact ⟨_, rfl, by simp; omega⟩
theorem l1In_eq (a b c : Int) : ∃ r, s_l1In a b c = some r ∧ (r = true ↔ b ≤ a ∧ a ≤ c) := by
  unfold s_l1In; split
  · exact ⟨_, rfl, by simp; omega⟩
  · exact ⟨_, rfl, by simp; omega⟩
theorem sliceEq_l1 (b : Txts) : ∀ (ys Z D : Txts), b = D ++ Z → Z.length = ys.length →
    slices_Equal_string.l1 b ys D.length = some (if ys = Z then .inr () else .inl false)
  | [], Z, D, e, h => by
    have : Z = [] := List.length_eq_zero_iff.mp h
    subst this; rfl
  | y :: ys, [], D, e, h => by simp at h
  | y :: ys, z :: Z, D, e, h => by
    rw [slices_Equal_string.l1]
    have h3 : ix b (D.length : Int) = some z := by rw [e]; exact ix_mid D Z z
    rw [bind_eq h3]
    by_cases hc : y = z
    · rw [if_pos hc]
      have := sliceEq_l1 b ys Z (D ++ [z]) (by rw [e]; simp) (by simpa using h)
      rw [show (D ++ [z]).length = D.length + 1 by simp] at this
      rw [this]; subst hc; simp
    · rw [if_neg hc, if_neg]; intro h; cases h; exact hc rfl
theorem sliceEq (a b : Txts) (ha : a.length ≤ 1048576) : slices_Equal_string a b = some (decide (a = b)) := by
  unfold slices_Equal_string
  by_cases h : a.length = b.length
  · rw [if_pos (by omega), bind_eq (guard_true (by omega))]
    have := sliceEq_l1 b a b [] rfl h.symm
    rw [bind_eq (show slices_Equal_string.l1 b a 0 = _ from this)]
    by_cases hc : a = b
    · rw [if_pos hc]; simp [hc, aft, slices_Equal_string.j2]
    · rw [if_neg hc]; simp [hc, aft]
  · rw [if_neg (by omega)]
    have : a ≠ b := by intro e; exact h (by rw [e])
    simp [this]
theorem isBeginning_eq (a b : Txts) (ha : a.length ≤ 1048576) : ∃ r, i_isBeginning a b = some r ∧ (r = true ↔ Pre a b) := by
  unfold i_isBeginning
  by_cases h : a.length ≤ b.length
  · rw [if_pos (by omega), bind_eq (show subL b 0 (a.length : Int) = some ((b.take a.length).drop 0) from subL_eq (lo := 0) (by omega) h)]
    rw [bind_eq (sliceEq _ _ ha)]
    refine ⟨_, rfl, ?_⟩
    simp only [List.drop_zero, decide_eq_true_eq, Pre]
    exact eq_comm
  · rw [if_neg (by omega)]
    refine ⟨_, rfl, ?_⟩
    simp only [Bool.false_eq_true, false_iff, Pre]
    intro e; have := congrArg List.length e; simp at this; omega
theorem begins_l1 (b : Txts) : ∀ (ys D Z : Txts), b = D ++ Z →
    s_l15Begins.l1 b ys D.length = some (if Z.take ys.length = ys then .inr () else .inl false)
  | [], D, Z, e => by simp [s_l15Begins.l1]
  | y :: ys, D, [], e => by
    rw [s_l15Begins.l1, if_pos (by rw [e]; simp)]; simp [s_l15Begins.j2]
  | y :: ys, D, z :: Z, e => by
    rw [s_l15Begins.l1, if_neg (by rw [e]; simp only [List.length_append, List.length_cons]; omega)]
    have h3 : ix b (D.length : Int) = some z := by rw [e]; exact ix_mid D Z z
    rw [bind_eq h3]
    by_cases hc : y = z
    · have := begins_l1 b ys (D ++ [z]) Z (by rw [e]; simp)
      rw [show (D ++ [z]).length = D.length + 1 by simp] at this
      subst hc
      simp [s_l15Begins.j2, this]
    · have hc' : ¬ z = y := fun h => hc h.symm
      simp [s_l15Begins.j2, hc, hc']
theorem begins_eq (a b : Txts) (ha : a.length ≤ 1048576) : ∃ r, s_l15Begins a b = some r ∧ (r = true ↔ Pre a b) := by
  unfold s_l15Begins
  rw [bind_eq (guard_true (by omega)), bind_eq (show s_l15Begins.l1 b a 0 = _ from begins_l1 b a [] b rfl)]
  by_cases hc : b.take a.length = a
  · rw [if_pos hc]; exact ⟨_, rfl, by simp [Pre, hc]⟩
  · rw [if_neg hc]; exact ⟨_, rfl, by simp [Pre, hc]⟩
def short20 (xs : Txts) : Prop := ∀ t ∈ xs, (t.length : Int) ≤ 20
theorem indexFunc_l1 : ∀ (ys : Txts) (k : Nat), ∃ o, slices_IndexFunc_string.l1 i_isLink_1 ys k = some o ∧ ((o = .inr () ∧ short20 ys) ∨ (∃ j : Nat, o = .inl (j : Int)) ∧ ¬ short20 ys)
  | [], k => ⟨_, rfl, .inl ⟨rfl, fun t ht => by cases ht⟩⟩
  | y :: ys, k => by
    rw [slices_IndexFunc_string.l1, bind_eq (show i_isLink_1 y = some _ from rfl)]
    by_cases hc : 20 < (y.length : Int)
    · rw [if_pos (by simpa using hc)]
      exact ⟨_, rfl, .inr ⟨⟨k, rfl⟩, fun h => by have := h y (by simp); omega⟩⟩
    · rw [if_neg (by simpa using hc)]
      obtain ⟨o, e1, e2⟩ := indexFunc_l1 ys (k + 1)
      refine ⟨o, e1, ?_⟩
      rcases e2 with ⟨e2, e3⟩ | ⟨e2, e3⟩
      · exact .inl ⟨e2, fun t ht => by rcases List.mem_cons.mp ht with h | h; (subst h; omega); exact e3 t h⟩
      · exact .inr ⟨e2, fun h => e3 fun t ht => h t (by simp [ht])⟩
theorem contains_eq (xs : Txts) (hx : xs.length ≤ 1048576) : ∃ r, slices_ContainsFunc_string_c0 xs i_isLink_1 = some r ∧ (r = true ↔ ¬ short20 xs) := by
  unfold slices_ContainsFunc_string_c0 slices_IndexFunc_string_c0
  rw [bind_eq (guard_true (by omega))]
  obtain ⟨o, e1, e2⟩ := indexFunc_l1 xs 0
  rw [bind_eq e1]
  rcases e2 with ⟨e2, e3⟩ | ⟨⟨j, e2⟩, e3⟩
  · subst e2; exact ⟨_, rfl, by simp [e3]⟩
  · subst e2; exact ⟨_, rfl, by simp [e3]⟩
def nth (ls : List implLink) (k : Nat) : implLink := ls.getD k ⟨[], 0, 0⟩
theorem nth_get {ls : List implLink} {k : Nat} (h : k < ls.length) : nth ls k = ls[k] := by unfold nth; simp [h]
theorem ix_nth {ls : List implLink} {k : Nat} (h : k < ls.length) : ix ls (k : Int) = some (nth ls k) := by rw [ix_get h, nth_get h]
theorem nth_mem {ls : List implLink} {k : Nat} (h : k < ls.length) : nth ls k ∈ ls := by rw [nth_get h]; exact List.getElem_mem h
def ImpOk (ls : List implLink) (k : Nat) : Prop :=
  (nth ls k).Log.length ≤ 40 ∧ short20 (nth ls k).Log ∧
  (k + 1 = ls.length → (nth ls k).Sent = 0 ∧ (nth ls k).Sure = (nth ls k).Log.length) ∧
  (k + 1 ≠ ls.length → Pre (nth ls (k + 1)).Log (nth ls k).Log ∧ 0 ≤ (nth ls k).Sent ∧ (nth ls k).Sent ≤ (nth ls (k + 1)).Log.length ∧ 0 ≤ (nth ls k).Sure ∧
    (nth ls k).Sure ≤ (nth ls (ls.length - 1)).Log.length ∧ (nth ls k).Sure ≤ (nth ls k).Log.length ∧ (nth ls k).Sure ≤ (nth ls (k + 1)).Sure)
theorem isLink_eq (c : implChain) (hn : c.Links.length ≤ 1048576) (hl : ∀ l ∈ c.Links, l.Log.length ≤ 1048576) (k : Nat) (hk : k < c.Links.length) :
    ∃ r, i_isLink c (k : Int) = some r ∧ (r = true ↔ ImpOk c.Links k) := by
  have e1 : ckK .i64 ((c.Links.length : Int) - 1) = some ((c.Links.length - 1 : Nat) : Int) := by rw [ck64 (by omega) (by omega)]; congr 1; omega
  have h0 := hl _ (nth_mem hk)
  unfold i_isLink
  rw [bind_eq (ix_nth hk), bind_eq e1]
  unfold ImpOk
  by_cases h1 : 40 < ((nth c.Links k).Log.length : Int)
  · rw [if_pos h1]; exact ⟨_, rfl, by simp; omega⟩
  rw [if_neg h1]
  obtain ⟨r, f1, f2⟩ := contains_eq (nth c.Links k).Log h0
  rw [bind_eq f1]
  unfold i_isLink.j1
  by_cases h2 : r = true
  · rw [if_pos h2]; exact ⟨_, rfl, by simp only [Bool.false_eq_true, false_iff]; exact fun h => f2.mp h2 h.2.1⟩
  rw [if_neg h2]
  have h3 : short20 (nth c.Links k).Log := Classical.byContradiction fun h => h2 (f2.mpr h)
  by_cases h4 : k + 1 = c.Links.length
  · rw [if_pos (by omega)]
    by_cases h5 : (nth c.Links k).Sent = 0
    · rw [if_pos h5]; exact ⟨_, rfl, by simp only [decide_eq_true_eq]; exact ⟨fun h => ⟨by omega, h3, fun _ => ⟨h5, h⟩, fun h => absurd h4 h⟩, fun h => (h.2.2.1 h4).2⟩⟩
    · rw [if_neg h5]; exact ⟨_, rfl, by simp only [Bool.false_eq_true, false_iff]; exact fun h => h5 (h.2.2.1 h4).1⟩
  rw [if_neg (by omega), bind_eq (ck_succ (by omega))]
  have hk1 : k + 1 < c.Links.length := by omega
  rw [bind_eq (ix_nth hk1)]
  obtain ⟨b, g1, g2⟩ := isBeginning_eq (nth c.Links (k + 1)).Log (nth c.Links k).Log (hl _ (nth_mem hk1))
  rw [bind_eq g1]
  by_cases h5 : b = true
  case neg => rw [if_neg h5]; exact ⟨_, rfl, by simp only [Bool.false_eq_true, false_iff]; exact fun h => h5 (g2.mpr (h.2.2.2 h4).1)⟩
  rw [if_pos h5]
  obtain ⟨b', g3, g4⟩ := within_eq (nth c.Links k).Sent 0 ((nth c.Links (k + 1)).Log.length : Int)
  rw [bind_eq g3]
  by_cases h6 : b' = true
  case neg => rw [if_neg h6]; exact ⟨_, rfl, by simp only [Bool.false_eq_true, false_iff]; exact fun h => h6 (g4.mpr ⟨(h.2.2.2 h4).2.1, (h.2.2.2 h4).2.2.1⟩)⟩
  rw [if_pos h6]
  have hk2 : c.Links.length - 1 < c.Links.length := by omega
  rw [bind_eq (ix_nth hk2)]
  obtain ⟨b2, g5, g6⟩ := within_eq (nth c.Links k).Sure 0 (min (min ((nth c.Links (c.Links.length - 1)).Log.length : Int) ((nth c.Links k).Log.length : Int)) (nth c.Links (k + 1)).Sure)
  rw [bind_eq g5]
  refine ⟨_, rfl, ?_⟩
  have g2' := g2.mp h5
  have g4' := g4.mp h6
  rw [g6]
  constructor
  · intro h; refine ⟨by omega, h3, fun h => absurd h h4, fun _ => ⟨g2', g4'.1, g4'.2, by omega, by omega, by omega, by omega⟩⟩
  · intro h; have := h.2.2.2 h4; omega
theorem impGood_l1 (c : implChain) (hn : c.Links.length ≤ 1048576) (hl : ∀ l ∈ c.Links, l.Log.length ≤ 1048576) : ∀ (ys : List implLink) (k : Nat), k + ys.length = c.Links.length →
    ∃ o, i_GoodChain.l1 c ys k = some o ∧ ((o = .inr () ∧ ∀ j, k ≤ j → j < c.Links.length → ImpOk c.Links j) ∨ (o = .inl false ∧ ¬ ∀ j, k ≤ j → j < c.Links.length → ImpOk c.Links j))
  | [], k, h => ⟨_, rfl, .inl ⟨rfl, fun j h1 h2 => by simp at h; omega⟩⟩
  | y :: ys, k, h => by
    simp only [List.length_cons] at h
    rw [i_GoodChain.l1]
    obtain ⟨r, e1, e2⟩ := isLink_eq c hn hl k (by omega)
    rw [bind_eq e1]
    by_cases hc : r = true
    · rw [if_pos hc]
      obtain ⟨o, f1, f2⟩ := impGood_l1 c hn hl ys (k + 1) (by omega)
      refine ⟨o, f1, ?_⟩
      rcases f2 with ⟨f2, f3⟩ | ⟨f2, f3⟩
      · refine .inl ⟨f2, fun j h1 h2 => ?_⟩
        by_cases hj : j = k
        · subst hj; exact e2.mp hc
        · exact f3 j (by omega) h2
      · exact .inr ⟨f2, fun h => f3 fun j h1 h2 => h j (by omega) h2⟩
    · rw [if_neg hc]
      exact ⟨_, rfl, .inr ⟨rfl, fun h => hc (e2.mpr (h k (Nat.le_refl _) (by omega)))⟩⟩
def Good (ls : List implLink) : Prop := 1 ≤ ls.length ∧ ls.length ≤ 6 ∧ ∀ j, j < ls.length → ImpOk ls j
theorem impGood (c : implChain) (hn : c.Links.length ≤ 1048576) (hl : ∀ l ∈ c.Links, l.Log.length ≤ 1048576) :
    ∃ r, i_GoodChain c = some r ∧ (r = true ↔ Good c.Links) := by
  unfold i_GoodChain Good
  obtain ⟨r, e1, e2⟩ := within_eq (c.Links.length : Int) 1 6
  rw [bind_eq e1]
  by_cases hc : r = true
  · rw [if_pos hc, bind_eq (guard_true (by omega))]
    obtain ⟨o, f1, f2⟩ := impGood_l1 c hn hl c.Links 0 (by omega)
    rw [bind_eq f1]
    have := e2.mp hc
    rcases f2 with ⟨f2, f3⟩ | ⟨f2, f3⟩
    · subst f2; exact ⟨true, rfl, by simp only [true_iff]; exact ⟨by omega, by omega, fun j hj => f3 j (by omega) hj⟩⟩
    · subst f2; exact ⟨false, rfl, by simp only [Bool.false_eq_true, false_iff]; exact fun h => f3 fun j _ hj => h.2.2 j hj⟩
  · rw [if_neg hc]
    exact ⟨_, rfl, by simp only [Bool.false_eq_true, false_iff]; exact fun h => hc (e2.mpr ⟨by omega, by omega⟩)⟩
end Go.Vm
end
section
/- A good chain, the specification's side. -/
namespace Go.Vm
def SpecOk (ls : List implLink) (k : Nat) : Prop :=
  (nth ls k).Log.length ≤ 40 ∧ short20 (nth ls k).Log ∧
  (k ≠ 0 → Pre (nth ls k).Log (nth ls (k - 1)).Log) ∧
  (k + 1 = ls.length → (nth ls k).Sent = 0 ∧ (nth ls k).Sure = (nth ls k).Log.length) ∧
  (k + 1 ≠ ls.length → 0 ≤ (nth ls k).Sent ∧ (nth ls k).Sent ≤ (nth ls (k + 1)).Log.length ∧ 0 ≤ (nth ls k).Sure ∧
    (nth ls k).Sure ≤ (nth ls (ls.length - 1)).Log.length ∧ (nth ls k).Sure ≤ (nth ls (k + 1)).Sure)
theorem specGood_l2 : ∀ (ys : Txts) (k : Nat), ∃ o, s_GoodChain.l2 ys k = some o ∧ ((o = .inr () ∧ short20 ys) ∨ (o = .inl false ∧ ¬ short20 ys))
  | [], k => ⟨_, rfl, .inl ⟨rfl, fun t ht => by cases ht⟩⟩
  | y :: ys, k => by
    rw [s_GoodChain.l2]
    by_cases hc : 20 < (y.length : Int)
    · rw [if_pos hc]
      exact ⟨_, rfl, .inr ⟨rfl, fun h => by have := h y (by simp); omega⟩⟩
    · rw [if_neg hc]
      obtain ⟨o, e1, e2⟩ := specGood_l2 ys (k + 1)
      refine ⟨o, e1, ?_⟩
      rcases e2 with ⟨e2, e3⟩ | ⟨e2, e3⟩
      · exact .inl ⟨e2, fun t ht => by rcases List.mem_cons.mp ht with h | h; (subst h; omega); exact e3 t h⟩
      · exact .inr ⟨e2, fun h => e3 fun t ht => h t (by simp [ht])⟩
/-- One round of the specification's loop: it goes on exactly when the link is sound. -/
theorem specRound (c : implChain) (hn : c.Links.length ≤ 1048576) (hl : ∀ l ∈ c.Links, l.Log.length ≤ 1048576) (k : Nat) (hk : k < c.Links.length) (nx : Nat → Option (Sum Bool Unit)) (h20 : short20 (nth c.Links k).Log) :
    (s_GoodChain.j3 c (nth c.Links (c.Links.length - 1)) k nx (nth c.Links k) = nx (k + 1) ∧ SpecOk c.Links k) ∨
    (s_GoodChain.j3 c (nth c.Links (c.Links.length - 1)) k nx (nth c.Links k) = some (.inl false) ∧ ¬ SpecOk c.Links k) := by
  have e1 : ckK .i64 ((c.Links.length : Int) - 1) = some ((c.Links.length - 1 : Nat) : Int) := by rw [ck64 (by omega) (by omega)]; congr 1; omega
  have h0 := hl _ (nth_mem hk)
  unfold s_GoodChain.j3 SpecOk
  by_cases h1 : 40 < ((nth c.Links k).Log.length : Int)
  · rw [if_pos h1]; right; exact ⟨rfl, fun h => by omega⟩
  rw [if_neg h1]
  have key : (k ≠ 0 → Pre (nth c.Links k).Log (nth c.Links (k - 1)).Log) →
      (s_GoodChain.j4 c (nth c.Links (c.Links.length - 1)) k nx (nth c.Links k) false = nx (k + 1) ∧ SpecOk c.Links k) ∨
      (s_GoodChain.j4 c (nth c.Links (c.Links.length - 1)) k nx (nth c.Links k) false = some (.inl false) ∧ ¬ SpecOk c.Links k) := by
    intro hp
    unfold s_GoodChain.j4 SpecOk
    rw [if_neg (by simp), bind_eq e1]
    by_cases h4 : k + 1 = c.Links.length
    · rw [if_pos (by omega)]
      by_cases h5 : (nth c.Links k).Sent = 0
      · rw [if_pos h5]
        by_cases h6 : (nth c.Links k).Sure = ((nth c.Links k).Log.length : Int)
        · left; exact ⟨by simp [s_GoodChain.j5, h6], by omega, h20, hp, fun _ => ⟨h5, h6⟩, fun h => absurd h4 h⟩
        · right; exact ⟨by simp [s_GoodChain.j5, h6], fun h => h6 (h.2.2.2.1 h4).2⟩
      · rw [if_neg h5]; right; exact ⟨by simp [s_GoodChain.j5], fun h => h5 (h.2.2.2.1 h4).1⟩
    rw [if_neg (by omega), bind_eq (ck_succ (by omega))]
    have hk1 : k + 1 < c.Links.length := by omega
    rw [bind_eq (ix_nth hk1)]
    obtain ⟨b', g3, g4⟩ := l1In_eq (nth c.Links k).Sent 0 ((nth c.Links (k + 1)).Log.length : Int)
    rw [bind_eq g3]
    by_cases h6 : b' = true
    case neg => rw [if_neg h6]; right; exact ⟨by simp [s_GoodChain.j6], fun h => h6 (g4.mpr ⟨(h.2.2.2.2 h4).1, (h.2.2.2.2 h4).2.1⟩)⟩
    rw [if_pos h6]
    obtain ⟨b2, g5, g6⟩ := l1In_eq (nth c.Links k).Sure 0 ((nth c.Links (c.Links.length - 1)).Log.length : Int)
    rw [bind_eq g5]
    by_cases h7 : b2 = true
    case neg => rw [if_neg h7]; right; exact ⟨by simp [s_GoodChain.j6], fun h => h7 (g6.mpr ⟨(h.2.2.2.2 h4).2.2.1, (h.2.2.2.2 h4).2.2.2.1⟩)⟩
    rw [if_pos h7]
    have g4' := g4.mp h6
    have g6' := g6.mp h7
    by_cases h8 : (nth c.Links (k + 1)).Sure < (nth c.Links k).Sure
    · right; exact ⟨by simp [s_GoodChain.j6, h8], fun h => by have := h.2.2.2.2 h4; omega⟩
    · left; exact ⟨by simp [s_GoodChain.j6, h8], by omega, h20, hp, fun h => absurd h h4, fun _ => ⟨g4'.1, g4'.2, g6'.1, g6'.2, by omega⟩⟩
  by_cases hz : k = 0
  · subst hz
    rw [if_neg (by omega)]
    exact key fun h => absurd rfl h
  rw [if_pos (by omega)]
  rw [bind_eq (show ckK .i64 ((k : Int) - 1) = some ((k - 1 : Nat) : Int) by rw [ck64 (by omega) (by omega)]; congr 1; omega)]
  rw [bind_eq (ix_nth (show k - 1 < c.Links.length by omega))]
  obtain ⟨b, g1, g2⟩ := begins_eq (nth c.Links k).Log (nth c.Links (k - 1)).Log h0
  rw [bind_eq g1]
  by_cases h5 : b = true
  · rw [h5]; exact key fun _ => g2.mp h5
  · right
    have : b = false := by simpa using h5
    rw [this]
    exact ⟨by simp [s_GoodChain.j4], fun h => h5 (g2.mpr (h.2.2.1 hz))⟩
theorem specGood_l1 (c : implChain) (hn : c.Links.length ≤ 1048576) (hl : ∀ l ∈ c.Links, l.Log.length ≤ 1048576) : ∀ (ys D : List implLink), c.Links = D ++ ys →
    ∃ o, s_GoodChain.l1 c (nth c.Links (c.Links.length - 1)) ys D.length = some o ∧
      ((o = .inr () ∧ ∀ j, D.length ≤ j → j < c.Links.length → SpecOk c.Links j) ∨ (o = .inl false ∧ ¬ ∀ j, D.length ≤ j → j < c.Links.length → SpecOk c.Links j))
  | [], D, h => ⟨_, rfl, .inl ⟨rfl, fun j h1 h2 => by rw [h] at h2; simp at h2; omega⟩⟩
  | y :: ys, D, h => by
    have hlen : c.Links.length = D.length + (ys.length + 1) := by rw [h]; simp
    have hy : nth c.Links D.length = y := by rw [nth_get (by omega)]; simp [h]
    have hk : D.length < c.Links.length := by omega
    have hb := hl _ (nth_mem hk)
    rw [s_GoodChain.l1]
    rw [hy] at hb
    rw [bind_eq (guard_true (by omega))]
    obtain ⟨o, e1, e2⟩ := specGood_l2 y.Log 0
    rw [bind_eq e1]
    rcases e2 with ⟨e2, e3⟩ | ⟨e2, e3⟩
    · subst e2
      obtain ⟨o, f1, f2⟩ := specGood_l1 c hn hl ys (D ++ [y]) (by rw [h]; simp)
      rw [show (D ++ [y]).length = D.length + 1 by simp] at f1 f2
      rcases specRound c hn hl D.length hk (s_GoodChain.l1 c (nth c.Links (c.Links.length - 1)) ys) (by rw [hy]; exact e3) with ⟨g1, g2⟩ | ⟨g1, g2⟩
      · rw [hy] at g1
        refine ⟨o, g1.trans f1, ?_⟩
        rcases f2 with ⟨f2, f3⟩ | ⟨f2, f3⟩
        · refine .inl ⟨f2, fun j h1 h2 => ?_⟩
          by_cases hj : j = D.length
          · subst hj; exact g2
          · exact f3 j (by omega) h2
        · exact .inr ⟨f2, fun h => f3 fun j h1 h2 => h j (by omega) h2⟩
      · rw [hy] at g1
        exact ⟨_, g1, .inr ⟨rfl, fun h => g2 (h _ (Nat.le_refl _) hk)⟩⟩
    · subst e2
      exact ⟨_, rfl, .inr ⟨rfl, fun h => e3 (by have := (h _ (Nat.le_refl _) hk).2.1; rw [hy] at this; exact this)⟩⟩
theorem Pre.len {a b : Txts} (h : Pre a b) : a.length ≤ b.length := by
  have := congrArg List.length h; simp at this; omega
/-- The two readings agree. -/
theorem good_iff (ls : List implLink) : (∀ j, j < ls.length → SpecOk ls j) ↔ (∀ j, j < ls.length → ImpOk ls j) := by
  constructor
  · intro h
    have tailLe : ∀ (d j : Nat), j + d + 1 = ls.length → (nth ls (ls.length - 1)).Log.length ≤ (nth ls j).Log.length := by
      intro d
      induction d with
      | zero => intro j hj; rw [show ls.length - 1 = j by omega]; exact Nat.le_refl _
      | succ d ih =>
        intro j hj
        have h1 := ih (j + 1) (by omega)
        have h2 := ((h (j + 1) (by omega)).2.2.1 (by omega)).len
        simp only [Nat.add_sub_cancel] at h2
        omega
    intro j hj
    have hs := h j hj
    refine ⟨hs.1, hs.2.1, hs.2.2.2.1, fun hne => ?_⟩
    have h3 := hs.2.2.2.2 hne
    have h4 := (h (j + 1) (by omega)).2.2.1 (by omega)
    simp only [Nat.add_sub_cancel] at h4
    have h5 := tailLe (ls.length - 1 - j) j (by omega)
    exact ⟨h4, h3.1, h3.2.1, h3.2.2.1, h3.2.2.2.1, by omega, h3.2.2.2.2⟩
  · intro h j hj
    have hs := h j hj
    refine ⟨hs.1, hs.2.1, fun hz => ?_, hs.2.2.1, fun hne => ?_⟩
    · have := ((h (j - 1) (by omega)).2.2.2 (by omega)).1
      rw [show j - 1 + 1 = j by omega] at this; exact this
    · have h3 := hs.2.2.2 hne
      exact ⟨h3.2.1, h3.2.2.1, h3.2.2.2.1, h3.2.2.2.2.1, h3.2.2.2.2.2.2⟩
theorem specGood (c : implChain) (hn : c.Links.length ≤ 1048576) (hl : ∀ l ∈ c.Links, l.Log.length ≤ 1048576) :
    ∃ r, s_GoodChain c = some r ∧ (r = true ↔ Good c.Links) := by
  unfold s_GoodChain Good
  obtain ⟨r, e1, e2⟩ := l1In_eq (c.Links.length : Int) 1 6
  rw [bind_eq e1]
  by_cases hc : r = true
  · have := e2.mp hc
    rw [if_pos hc, bind_eq (show ckK .i64 ((c.Links.length : Int) - 1) = some ((c.Links.length - 1 : Nat) : Int) by rw [ck64 (by omega) (by omega)]; congr 1; omega)]
    rw [bind_eq (ix_nth (show c.Links.length - 1 < c.Links.length by omega)), bind_eq (guard_true (by omega))]
    obtain ⟨o, f1, f2⟩ := specGood_l1 c hn hl c.Links [] rfl
    rw [bind_eq (show s_GoodChain.l1 c (nth c.Links (c.Links.length - 1)) c.Links 0 = some o from f1)]
    rw [← good_iff]
    rcases f2 with ⟨f2, f3⟩ | ⟨f2, f3⟩
    · subst f2; exact ⟨true, rfl, by simp only [true_iff]; exact ⟨by omega, by omega, fun j hj => f3 j (by simp) hj⟩⟩
    · subst f2; exact ⟨false, rfl, by simp only [Bool.false_eq_true, false_iff]; exact fun h => f3 fun j _ hj => h.2.2 j hj⟩
  · rw [if_neg hc]
    exact ⟨_, rfl, by simp only [Bool.false_eq_true, false_iff]; exact fun h => hc (e2.mpr ⟨by omega, by omega⟩)⟩
end Go.Vm
end
section
set_option maxRecDepth 4000
set_option maxHeartbeats 1000000
namespace Go.Vm
open Go.Proofs
/- slices.Clone[[]string,string] -/
def slices_Clone_string.code : MC :=
 (.seq
 (.keep [0] (.reg [
   ⟨(some 2), none, .mov (.v (.nilsl))⟩]))
 (.seq
 (.seq
 (.keep [0, 4] (.reg [
   ⟨(some 3), none, .mov (.t 0)⟩,
   ⟨(some 4), none, .isnil false (.t 3)⟩]))
 (.cond (.t 4)
  (.seq
  (.keep [2] (.reg [
    ⟨(some 2), none, .mov (.v (.nilsl))⟩]))
  (.adoptT 2 9000 .ret))
  .skip))
 (.seq
 (.keep [2] (.reg [
   ⟨(some 5), none, .mkrow 5 1 []⟩,
   ⟨(some 6), none, .mov (.t 0)⟩,
   ⟨(some 7), none, .app 7 false 1 16 (.t 5) (.t 6)⟩,
   ⟨(some 2), none, .mov (.t 7)⟩]))
 (.adoptT 2 9000 .ret))))
theorem slices_Clone_string.chk : chkFn Try.prog 44 1 slices_Clone_string.code [.tmp 2] = true := by kernel_rfl
def slices_Clone_string (p0 : (List (List UInt8))) : Option ((List (List UInt8))) := appB 16 [] p0
theorem slices_Clone_string.ok (p0 : (List (List UInt8))) (r : (List (List UInt8))) (h0 : slices_Clone_string p0 = some r) : ACall Try.prog 44 [.d (.sl (p0.map encS))] [] [] (fun v ob oa na => v = .ref 0 [] 0 r.length ∧ ob = [] ∧ oa = [] ∧ na = [r.map encS]) := by
  refine wFn_ok slices_Clone_string.chk rfl ?_
  unfold slices_Clone_string at h0
  obtain ⟨e, f⟩ := appB_some h0
  intro t ht
  refine And.intro (fun h4 => ?_) (fun h4 => ?_)
  · refine And.intro rfl ?_
    have hp : p0 = [] := by
      have h5 : t = true := by simpa using h4
      exact List.map_eq_nil_iff.mp (ht h5)
    have hr : r = [] := by rw [← e, hp]; rfl
    subst hp; subst hr
    exact ⟨[9000], nod rfl, all_lt rfl, blt_lt rfl, _, _, rfl, rfl, rfl, rfl, rfl, rfl⟩
  · refine And.intro (nod rfl) (And.intro rfl ?_)
    refine And.intro (all_flat (fun _ => rfl) _) ?_
    refine And.intro rfl ⟨_, _, _, rfl, rfl, app_fit (f := encS) f, all_len (f := encS) (fun _ => rfl) ([] : List (List UInt8)), all_len (f := encS) (fun _ => rfl) _, rfl, map_app (f := encS) e, app_len (f := encS) e, ?_⟩
    refine And.intro rfl ?_
    exact ⟨[5], nod rfl, all_lt rfl, blt_lt rfl, _, _, rfl, rfl, rfl, rfl, rfl, rfl⟩
end Go.Vm
end
section
set_option maxRecDepth 4000
set_option maxHeartbeats 1000000
namespace Go.Vm
open Go.Proofs
/- loop.example/g00300/impl.ownChain -/
def i_ownChain.code : MC :=
 (.seq
  (.keep [1, 2] (.reg [⟨(some 1), none, .box (.t 0)⟩, ⟨(some 2), none, .box (.v (.agg [.nilsl]))⟩]))
  (.norm (.seq
   (.keep [1, 2, 3] (.reg [⟨(some 6), none, .build [.nilsl] []⟩, ⟨(some 3), none, .box (.v (.agg [.nilsl]))⟩, ⟨none, none, .store 1 (.t 3) (.t 6)⟩]))
   (.norm (.cut
    (.seq
     (.keep [2, 3, 8, 9, 10] (.reg [⟨(some 7), none, .fld 0 (.t 1)⟩, ⟨(some 8), none, .load false 1 (.t 7)⟩, ⟨(some 9), none, .len (.t 8)⟩, ⟨(some 10), none, .mov (.v (.d (.int .i64 0)))⟩]))
     (.norm (.adopt 3 0 7100 (.block 0
      (.loop
       (.seq
        (.keep [2, 3, 8, 9, 10, 11] (.reg [⟨(some 11), none, .bin true .lss (.t 10) (.t 9)⟩]))
        (.seq
         (.cond (.t 11)
          .skip
          (.exit 0))
         (.seq
          (.block 1
           (.seq
            (.keep [2, 3, 5, 8, 9, 10] (.reg [⟨(some 12), none, .idx 3 (.t 8) (.t 10)⟩, ⟨(some 13), none, .load true 3 (.t 12)⟩, ⟨(some 5), none, .box (.v (.agg [.nilsl, .d (.int .i64 0), .d (.int .i64 0)]))⟩, ⟨none, none, .store 3 (.t 5) (.t 13)⟩]))
            (.norm (.seq
             (.keep [2, 3, 5, 8, 9, 10] (.reg [⟨(some 14), none, .fld 0 (.t 5)⟩, ⟨(some 15), none, .load false 1 (.t 14)⟩, ⟨(some 16), none, .call (.v (.clos 44 [])) [.t 15] [] [16]⟩, ⟨(some 17), none, .fld 0 (.t 5)⟩, ⟨none, none, .store 1 (.t 17) (.t 16)⟩]))
             (.norm (.keep [2, 3, 8, 9, 10] (.reg [⟨(some 18), none, .fld 0 (.t 3)⟩, ⟨(some 19), none, .load false 1 (.t 18)⟩, ⟨(some 20), none, .load true 3 (.t 5)⟩, ⟨(some 21), none, .mkrow 21 3 [.t 20]⟩, ⟨(some 22), none, .app 22 true 3 40 (.t 19) (.t 21)⟩, ⟨(some 23), none, .fld 0 (.t 3)⟩, ⟨none, none, .store 1 (.t 23) (.t 22)⟩])))))))
          (.keep [2, 3, 8, 9, 10] (.reg [⟨(some 24), none, .bin true .add (.t 10) (.v (.d (.int .i64 1)))⟩, ⟨(some 10), none, .mov (.t 24)⟩]))))))))))
    (.seq
     (.keep [2] (.reg [⟨(some 25), none, .load true 1 (.t 3)⟩, ⟨none, none, .store 1 (.t 2) (.t 25)⟩]))
     (.adopt 2 0 9000 .ret)))))))
theorem i_ownChain.chk : chkFn Try.prog 39 1 i_ownChain.code [.cell true 1 2] = true := by kernel_rfl
def i_ownChain.j2 (a7100_2 : (List implLink)) : Option implChain :=
  some (implChain.mk a7100_2)
def i_ownChain.J2 (a7100_2 : (List implLink)) : St :=
  lit [(2, .bptr 2 0), (3, .bptr 3 0)] [(2, [.nilsl]), (3, [.ref 7100 [] 0 a7100_2.length])] [(7100, a7100_2.map implLink.enc)]
def i_ownChain.l1 : List implLink → Nat → (List implLink) → Option (List implLink)
  | [], i1, a7100_l1 => some a7100_l1
  | y1 :: ys, i1, a7100_l1 => (slices_Clone_string y1.Log).bind fun v16 => (appB 40 a7100_l1 [(implLink.mk v16 y1.Sent y1.Sure)]).bind fun v22 => (i_ownChain.l1 ys) (i1 + 1) v22
def i_ownChain.S1 (p0 : implChain) (i1 : Nat) (a7100_l1 : (List implLink)) : St :=
  lit [(2, .bptr 2 0), (3, .bptr 3 0), (8, .d (.sl (p0.Links.map implLink.enc))), (9, .d (.int .i64 (p0.Links.length : Int))), (10, .d (.int .i64 (i1 : Int)))] [(2, [.nilsl]), (3, [.ref 7100 [] 0 a7100_l1.length])] [(7100, a7100_l1.map implLink.enc)]
def i_ownChain.O1 (o1 : (List implLink)) : St :=
  lit [(2, .bptr 2 0), (3, .bptr 3 0)] [(2, [.nilsl]), (3, [.ref 7100 [] 0 o1.length])] [(7100, o1.map implLink.enc)]
def i_ownChain (p0 : implChain) : Option (implChain) :=
  (guardP ((p0.Links.length : Int) < 4611686018427387904)).bind fun _ => (i_ownChain.l1 p0.Links 0 ([] : List implLink)).bind fun o1 => i_ownChain.j2 o1
theorem i_ownChain.ok (p0 : implChain) (r : implChain) (h0 : i_ownChain p0 = some r) : ACall Try.prog 39 [.agg [.d (.sl (p0.Links.map implLink.enc))]] [] [] (fun v ob oa na => v = .agg [.ref 0 [] 0 r.Links.length] ∧ ob = [] ∧ oa = [] ∧ na = [r.Links.map implLink.enc]) := by
  refine wFn_ok i_ownChain.chk rfl ?_
  unfold i_ownChain at h0
  refine And.intro rfl ?_
  refine And.intro rfl ?_
  refine ⟨lit [(1, .bptr 1 0), (2, .bptr 2 0)] [(1, [.d (.sl (p0.Links.map implLink.enc))]), (2, [.nilsl])] [], (le_lit (And.intro (ve rfl) (And.intro (ve rfl) trivial)) (And.intro ⟨_, rfl, (vel rfl)⟩ (And.intro ⟨_, rfl, (vel rfl)⟩ trivial)) trivial), ?_⟩
  refine And.intro rfl ?_
  refine And.intro rfl (And.intro rfl (And.intro (nle rfl) ?_))
  refine ⟨lit [(1, .bptr 1 0), (2, .bptr 2 0), (3, .bptr 3 0)] [(1, [.d (.sl (p0.Links.map implLink.enc))]), (2, [.nilsl]), (3, [.nilsl])] [], (le_lit (And.intro (ve rfl) (And.intro (ve rfl) (And.intro (ve rfl) trivial))) (And.intro ⟨_, rfl, (vel rfl)⟩ (And.intro ⟨_, rfl, (vel rfl)⟩ (And.intro ⟨_, rfl, (vel rfl)⟩ trivial))) trivial), ?_⟩
  refine ⟨{ g : (List implLink) // i_ownChain.j2 g = some r }, fun g => i_ownChain.J2 g.1, ?_, ?_⟩
  · skip
    refine ⟨_, map_len _, ?_⟩
    refine ⟨lit [(2, .bptr 2 0), (3, .bptr 3 0), (8, .d (.sl (p0.Links.map implLink.enc))), (9, .d (.int .i64 (p0.Links.length : Int))), (10, .d (.int .i64 0))] [(2, [.nilsl]), (3, [.nilsl])] [], (le_lit (And.intro (ve rfl) (And.intro (ve rfl) (And.intro (ve rfl) (And.intro (ve rfl) (And.intro (ve rfl) trivial))))) (And.intro ⟨_, rfl, (vel rfl)⟩ (And.intro ⟨_, rfl, (vel rfl)⟩ trivial)) trivial), ?_⟩
    refine And.intro rfl ?_
    obtain ⟨_, g1, h1⟩ := bind_some h0
    have q1 := guardP_some g1
    clear h0 g1
    obtain ⟨o1, e1, h2⟩ := bind_some h1
    clear h1
    refine ⟨{ g : Nat × (List implLink) // g.1 ≤ p0.Links.length ∧ i_ownChain.l1 (p0.Links.drop g.1) g.1 g.2 = some o1 }, fun g => i_ownChain.S1 p0 g.1.1 g.1.2, fun g => p0.Links.length - g.1.1, ⟨(0, ([] : List implLink)), Nat.zero_le _, e1⟩, (le_lit (And.intro (ve rfl) (And.intro (ve rfl) (And.intro (ve rfl) (And.intro (ve rfl) (And.intro (ve rfl) trivial))))) (And.intro ⟨_, rfl, (vel rfl)⟩ (And.intro ⟨_, rfl, (vel rfl)⟩ trivial)) (And.intro rfl trivial)), ?_⟩
    rintro ⟨⟨i1, a7100_l1⟩, le1, h3⟩
    change i_ownChain.l1 (p0.Links.drop i1) i1 a7100_l1 = some o1 at h3
    change wMC _ _ _ (i_ownChain.S1 p0 i1 a7100_l1)
    by_cases ci1 : i1 < p0.Links.length
    · obtain ⟨y1, ey1, di1⟩ := drop_cons ci1
      rw [di1, i_ownChain.l1] at h3
      have ri1 := range_inR (Int.ofNat_lt.mpr ci1) q1
      refine And.intro rfl ?_
      refine and_t (decide_eq_true (Int.ofNat_lt.mpr ci1)) ?_
      refine And.intro (Int.natCast_nonneg _) ⟨_, map_get ey1, rfl, ?_⟩
      refine And.intro rfl ?_
      refine And.intro rfl (And.intro rfl (And.intro (nle rfl) ?_))
      refine ⟨lit [(2, .bptr 2 0), (3, .bptr 3 0), (5, .bptr 5 0), (8, .d (.sl (p0.Links.map implLink.enc))), (9, .d (.int .i64 (p0.Links.length : Int))), (10, .d (.int .i64 (i1 : Int)))] [(2, [.nilsl]), (3, [.ref 7100 [] 0 a7100_l1.length]), (5, [.d (.sl (y1.Log.map encS)), .d (.int .i64 y1.Sent), .d (.int .i64 y1.Sure)])] [(7100, a7100_l1.map implLink.enc)], (le_lit (And.intro (ve rfl) (And.intro (ve rfl) (And.intro (ve rfl) (And.intro (ve rfl) (And.intro (ve rfl) (And.intro (ve rfl) trivial)))))) (And.intro ⟨_, rfl, (vel rfl)⟩ (And.intro ⟨_, rfl, (vel rfl)⟩ (And.intro ⟨_, rfl, (vel rfl)⟩ trivial))) (And.intro rfl trivial)), ?_⟩
      obtain ⟨v16, ev16, h4⟩ := bind_some h3
      clear h3
      refine ⟨rfl, nod rfl, rfl, rfl, _, rfl, rfl, ?_⟩
      refine (slices_Clone_string.ok y1.Log _ ev16).mono ?_
      rintro _ _ _ _ ⟨rfl, rfl, rfl, rfl⟩
      refine ⟨rfl, rfl, rfl, rfl, trivial, trivial, ?_⟩
      refine And.intro rfl (And.intro rfl (And.intro (nle rfl) ?_))
      refine ⟨lit [(2, .bptr 2 0), (3, .bptr 3 0), (5, .bptr 5 0), (8, .d (.sl (p0.Links.map implLink.enc))), (9, .d (.int .i64 (p0.Links.length : Int))), (10, .d (.int .i64 (i1 : Int)))] [(2, [.nilsl]), (3, [.ref 7100 [] 0 a7100_l1.length]), (5, [.ref 16 [] 0 v16.length, .d (.int .i64 y1.Sent), .d (.int .i64 y1.Sure)])] [(16, v16.map encS), (7100, a7100_l1.map implLink.enc)], (le_lit (And.intro (ve rfl) (And.intro (ve rfl) (And.intro (ve rfl) (And.intro (ve rfl) (And.intro (ve rfl) (And.intro (ve rfl) trivial)))))) (And.intro ⟨_, rfl, (vel rfl)⟩ (And.intro ⟨_, rfl, (vel rfl)⟩ (And.intro ⟨_, rfl, (vel rfl)⟩ trivial))) (And.intro rfl (And.intro rfl trivial))), ?_⟩
      refine And.intro (map_len _) ?_
      refine And.intro rfl ?_
      refine And.intro rfl ?_
      refine And.intro rfl ?_
      refine And.intro (nod rfl) (And.intro rfl ?_)
      obtain ⟨v22, ev22, h5⟩ := bind_some h4
      clear h4
      obtain ⟨ev22, fv22⟩ := appB_some ev22
      refine ⟨_, rfl, rfl, rfl, rfl, ?_⟩
      refine And.intro rfl ⟨_, _, _, rfl, (map_len _), (app_fit (f := implLink.enc) fv22), (all_len (f := implLink.enc) (fun _ => rfl) a7100_l1), (all_len (f := implLink.enc) (fun _ => rfl) [(implLink.mk v16 y1.Sent y1.Sure)]), rfl, map_app (f := implLink.enc) ev22, (app_len (f := implLink.enc) ev22), ?_⟩
      refine And.intro rfl (And.intro rfl (And.intro (nle rfl) ?_))
      refine And.intro rfl ?_
      refine ⟨((i1 + 1 : Nat) : Int), rfl, fun _ => ri1, ?_⟩
      exact ⟨⟨(i1 + 1, _), ci1, h5⟩, (le_lit (And.intro (ve rfl) (And.intro (ve rfl) (And.intro (ve rfl) (And.intro (ve rfl) (And.intro (ve rfl) trivial))))) (And.intro ⟨_, rfl, (vel rfl)⟩ (And.intro ⟨_, rfl, (vel rfl)⟩ trivial)) (And.intro rfl trivial)), Nat.sub_lt_sub_left ci1 (Nat.lt_succ_self _)⟩
    · rw [drop_nil ci1, i_ownChain.l1] at h3
      refine And.intro rfl ?_
      refine and_f (decide_eq_false (fun hh => ci1 (Int.ofNat_lt.mp hh))) ?_
      cases h3
      exact ⟨⟨_, h2⟩, (le_lit (And.intro (ve rfl) (And.intro (ve rfl) trivial)) (And.intro ⟨_, rfl, (vel rfl)⟩ (And.intro ⟨_, rfl, (vel rfl)⟩ trivial)) (And.intro rfl trivial))⟩
  · rintro ⟨a7100_2, h6⟩
    change i_ownChain.j2 a7100_2 = some r at h6
    change wMC _ _ _ (i_ownChain.J2 a7100_2)
    unfold i_ownChain.j2 at h6
    clear h0
    refine And.intro rfl (And.intro rfl (And.intro (nle rfl) ?_))
    refine And.intro rfl ?_
    cases h6
    exact ⟨[7100], nod rfl, all_lt rfl, blt_lt rfl, _, _, rfl, rfl, rfl, rfl, rfl, rfl⟩
end Go.Vm
end
section
set_option maxRecDepth 4000
set_option maxHeartbeats 1000000
namespace Go.Vm
open Go.Proofs
/- (loop.example/g00300/impl.Chain).sureTail -/
def i_Chain_sureTail.code : MC :=
 (.seq
  (.keep [1] (.reg [⟨(some 1), none, .box (.t 0)⟩]))
  (.norm (.seq
   (.keep [2] (.reg [⟨(some 3), none, .fld 0 (.t 1)⟩, ⟨(some 4), none, .load false 1 (.t 3)⟩, ⟨(some 5), none, .fld 0 (.t 1)⟩, ⟨(some 6), none, .load false 1 (.t 5)⟩, ⟨(some 7), none, .len (.t 6)⟩, ⟨(some 8), none, .bin true .sub (.t 7) (.v (.d (.int .i64 1)))⟩, ⟨(some 9), none, .idx 3 (.t 4) (.t 8)⟩, ⟨(some 2), none, .mov (.t 9)⟩]))
   (.norm (.keep [] (.reg [⟨(some 10), none, .mov (.t 2)⟩, ⟨(some 11), none, .mov (.t 2)⟩, ⟨(some 12), none, .mov (.t 2)⟩, ⟨(some 13), none, .nilck (.t 12)⟩, ⟨(some 14), none, .fld 0 (.t 13)⟩, ⟨(some 15), none, .load false 1 (.t 14)⟩, ⟨(some 16), none, .len (.t 15)⟩, ⟨(some 17), none, .nilck (.t 10)⟩, ⟨(some 18), none, .fld 1 (.t 17)⟩, ⟨none, none, .store 1 (.t 18) (.v (.d (.int .i64 0)))⟩, ⟨none, none, .nrm⟩, ⟨(some 19), none, .nilck (.t 11)⟩, ⟨(some 20), none, .fld 2 (.t 19)⟩, ⟨none, none, .store 1 (.t 20) (.t 16)⟩]))))))
theorem i_Chain_sureTail.chk : chkFn Try.prog 63 1 i_Chain_sureTail.code [] = true := by kernel_rfl
def i_Chain_sureTail (p0 : implChain) : Option ((List implLink)) :=
  (ckK .i64 ((p0.Links.length : Int) - 1)).bind fun v8 => (ix p0.Links v8).bind fun xv9 => (setN p0.Links v8.toNat (implLink.mk xv9.Log 0 xv9.Sure)).bind fun s2 => (setN s2 v8.toNat (implLink.mk xv9.Log 0 (xv9.Log.length : Int))).bind fun s4 => some s4
theorem i_Chain_sureTail.len (p0 : implChain) (r : List implLink) (h : i_Chain_sureTail p0 = some r) : r.length = p0.Links.length := by
  unfold i_Chain_sureTail at h
  obtain ⟨v1, e1, h⟩ := bind_some h
  obtain ⟨v2, e2, h⟩ := bind_some h
  obtain ⟨v3, e3, h⟩ := bind_some h
  obtain ⟨v4, e4, h⟩ := bind_some h
  cases h
  rw [← (setN_some e4).2, ← (setN_some e3).2]
theorem i_Chain_sureTail.ok (p0 : implChain) (r : (List implLink)) (h0 : i_Chain_sureTail p0 = some r) : ACall Try.prog 63 [.agg [.ref 10000 [] 0 p0.Links.length]] [] [p0.Links.map implLink.enc] (fun v ob oa na => v = .tup [] ∧ ob = [] ∧ oa = [some (r.map implLink.enc)] ∧ na = []) := by
  refine wFn_ok i_Chain_sureTail.chk rfl ?_
  unfold i_Chain_sureTail at h0
  refine And.intro rfl ?_
  refine ⟨lit [(1, .bptr 1 0)] [(1, [.ref 10000 [] 0 p0.Links.length])] [(10000, p0.Links.map implLink.enc)], (le_lit (And.intro (ve rfl) trivial) (And.intro ⟨_, rfl, (vel rfl)⟩ trivial) (And.intro rfl trivial)), ?_⟩
  obtain ⟨v8, ev8, h1⟩ := bind_some h0
  clear h0
  obtain ⟨ev8, rv8⟩ := ckK_some ev8
  refine And.intro rfl ?_
  refine ⟨v8, ev8, fun _ => rv8, ?_⟩
  obtain ⟨xv9, exv9, h2⟩ := bind_some h1
  clear h1
  obtain ⟨av9, exv9⟩ := ix_some exv9
  refine And.intro av9 ⟨_, _, rfl, (get_lt exv9), map_get exv9, rfl, ?_⟩
  refine ⟨lit [(2, .aptr 10000 [] v8.toNat 0)] [] [(10000, p0.Links.map implLink.enc)], (le_lit (And.intro (ve rfl) trivial) trivial (And.intro rfl trivial)), ?_⟩
  refine ⟨_, _, .ref 10000 [(v8.toNat, 0)] 0 xv9.Log.length, rfl, map_get exv9, (by simp [cellsV, packD, implLink.enc]), ?_⟩
  obtain ⟨s2, es2, h3⟩ := bind_some h2
  clear h2
  obtain ⟨es2, ls2⟩ := setN_some es2
  refine ⟨_, _, rfl, map_get exv9, ?_⟩
  refine And.intro rfl ?_
  refine And.intro rfl (And.intro (nod rfl) (And.intro (nle rfl) (And.intro rfl ⟨_, (map_set (f := implLink.enc) es2 rfl), ?_⟩)))
  refine ⟨lit [(11, .aptr 10000 [] v8.toNat 0), (16, .d (.int .i64 (xv9.Log.length : Int)))] [] [(10000, s2.map implLink.enc)], (le_lit (And.intro (ve rfl) (And.intro (ve rfl) trivial)) trivial (And.intro rfl trivial)), ?_⟩
  obtain ⟨s4, es4, h4⟩ := bind_some h3
  clear h3
  obtain ⟨es4, ls4⟩ := setN_some es4
  refine ⟨_, _, rfl, map_get (set_some exv9 es2), ?_⟩
  refine And.intro rfl ?_
  refine And.intro rfl (And.intro (nod rfl) (And.intro (nle rfl) (And.intro rfl ⟨_, (map_set (f := implLink.enc) es4 rfl), ?_⟩)))
  cases h4
  exact ⟨[], nod rfl, all_lt rfl, blt_lt rfl, _, _, rfl, rfl, rfl, rfl, rfl, rfl⟩
end Go.Vm
end
section
set_option maxRecDepth 4000
set_option maxHeartbeats 1000000
namespace Go.Vm
open Go.Proofs
/- (loop.example/g00300/impl.Chain).pass -/
def i_Chain_pass.code : MC :=
 (.seq
  (.keep [1, 2] (.reg [⟨(some 2), none, .box (.t 0)⟩, ⟨(some 4), none, .mov (.v (.d (.bool false)))⟩]))
  (.norm (.seq
   (.seq
    (.keep [1, 2, 14] (.reg [⟨(some 8), none, .mov (.t 1)⟩, ⟨(some 9), none, .fld 0 (.t 2)⟩, ⟨(some 10), none, .load false 1 (.t 9)⟩, ⟨(some 11), none, .len (.t 10)⟩, ⟨(some 12), none, .bin true .sub (.t 11) (.v (.d (.int .i64 2)))⟩, ⟨(some 13), none, .call (.v (.clos 57 [])) [.t 8, .v (.d (.int .i64 0)), .t 12] [] []⟩, ⟨(some 14), none, .un .not (.t 13)⟩]))
    (.norm (.cond (.t 14)
     (.seq
      (.keep [4] (.reg [⟨(some 4), none, .mov (.v (.d (.bool false)))⟩]))
      .ret)
     .skip)))
   (.norm (.seq
    (.keep [1, 2, 5, 6] (.draw (.take 0 ⟨(some 15), none, .fld 0 (.t 2)⟩ (.take 1 ⟨(some 16), none, .load false 1 (.t 15)⟩ (.take 2 ⟨(some 17), none, .mov (.t 1)⟩ (.take 3 ⟨(some 18), none, .idx 3 (.t 16) (.t 17)⟩ (.take 4 ⟨(some 19), none, .fld 0 (.t 2)⟩ (.take 5 ⟨(some 20), none, .load false 1 (.t 19)⟩ (.take 6 ⟨(some 21), none, .mov (.t 1)⟩ (.take 7 ⟨(some 22), none, .bin true .add (.t 21) (.v (.d (.int .i64 1)))⟩ (.take 8 ⟨(some 23), none, .idx 3 (.t 20) (.t 22)⟩ (.take 9 ⟨(some 5), none, .mov (.t 18)⟩ (.take 10 ⟨(some 6), none, .mov (.t 23)⟩ .done)))))))))))))
    (.norm (.seq
     (.keep [1, 2, 5, 6, 7] (.reg [⟨(some 24), none, .mov (.t 6)⟩, ⟨(some 25), none, .nilck (.t 24)⟩, ⟨(some 26), none, .fld 0 (.t 25)⟩, ⟨(some 27), none, .load false 1 (.t 26)⟩, ⟨(some 28), none, .len (.t 27)⟩, ⟨(some 7), none, .mov (.t 28)⟩]))
     (.norm (.seq
      (.seq
       (.keep [1, 2, 5, 6, 7, 35] (.reg [⟨(some 29), none, .mov (.t 7)⟩, ⟨(some 30), none, .mov (.t 5)⟩, ⟨(some 31), none, .nilck (.t 30)⟩, ⟨(some 32), none, .fld 0 (.t 31)⟩, ⟨(some 33), none, .load false 1 (.t 32)⟩, ⟨(some 34), none, .len (.t 33)⟩, ⟨(some 35), none, .bin true .geq (.t 29) (.t 34)⟩]))
       (.norm (.cond (.t 35)
        (.seq
         (.keep [4] (.reg [⟨(some 4), none, .mov (.v (.d (.bool false)))⟩]))
         .ret)
        .skip)))
      (.norm (.seq
       (.keep [1, 2, 5, 6] (.draw (.take 0 ⟨(some 36), none, .mov (.t 6)⟩ (.take 1 ⟨(some 37), none, .mov (.t 6)⟩ (.take 2 ⟨(some 38), none, .nilck (.t 37)⟩ (.take 3 ⟨(some 39), none, .fld 0 (.t 38)⟩ (.hold 4 39 ⟨(some 40), none, .load false 1 (.t 39)⟩ (.take 5 ⟨(some 41), none, .mov (.t 5)⟩ (.take 6 ⟨(some 42), none, .nilck (.t 41)⟩ (.take 7 ⟨(some 43), none, .fld 0 (.t 42)⟩ (.take 8 ⟨(some 44), none, .load false 1 (.t 43)⟩ (.take 9 ⟨(some 45), none, .mov (.t 7)⟩ (.nrm (.take 10 ⟨(some 46), none, .idx 1 (.t 44) (.t 45)⟩ (.take 11 ⟨(some 47), none, .load false 1 (.t 46)⟩ (.fork 12 ⟨(some 48), none, .mkrow 48 1 [.t 47]⟩ [39] (.fork 13 ⟨(some 49), none, .app 49 false 1 16 (.t 40) (.t 48)⟩ [] (.nrm (.take 14 ⟨(some 50), none, .nilck (.t 36)⟩ (.take 15 ⟨(some 51), none, .fld 0 (.t 50)⟩ (.fork 16 ⟨none, none, .store 1 (.t 51) (.t 49)⟩ [] .done .nofork)))) .nofork) .nofork))))))))))))))))
       (.norm (.seq
        (.keep [1, 2] (.reg [⟨(some 52), none, .mov (.t 5)⟩, ⟨(some 53), none, .mov (.t 6)⟩, ⟨(some 54), none, .nilck (.t 53)⟩, ⟨(some 55), none, .fld 0 (.t 54)⟩, ⟨(some 56), none, .load false 1 (.t 55)⟩, ⟨(some 57), none, .len (.t 56)⟩, ⟨(some 58), none, .nilck (.t 52)⟩, ⟨(some 59), none, .fld 1 (.t 58)⟩, ⟨none, none, .store 1 (.t 59) (.t 57)⟩]))
        (.norm (.seq
         (.seq
          (.keep [2, 66] (.reg [⟨(some 60), none, .mov (.t 1)⟩, ⟨(some 61), none, .bin true .add (.t 60) (.v (.d (.int .i64 1)))⟩, ⟨(some 62), none, .fld 0 (.t 2)⟩, ⟨(some 63), none, .load false 1 (.t 62)⟩, ⟨(some 64), none, .len (.t 63)⟩, ⟨(some 65), none, .bin true .sub (.t 64) (.v (.d (.int .i64 1)))⟩, ⟨(some 66), none, .bin true .eql (.t 61) (.t 65)⟩]))
          (.norm (.cond (.t 66)
           (.keep [] (.reg [⟨(some 67), none, .load true 1 (.t 2)⟩, ⟨(some 68), none, .call (.v (.clos 63 [])) [.t 67] [true] []⟩]))
           .skip)))
         (.seq
          (.keep [4] (.reg [⟨(some 4), none, .mov (.v (.d (.bool true)))⟩]))
          (.norm .ret)))))))))))))))))
theorem i_Chain_pass.chk : chkFn Try.prog 40 2 i_Chain_pass.code [.tmp 4] = true := by kernel_rfl
def i_Chain_pass (p0 : implChain) (p1 : Int) : Option (Bool × (List implLink)) :=
  (ckK .i64 ((p0.Links.length : Int) - 2)).bind fun v12 => (i_within p1 0 v12).bind fun v13 => if v13 = true then ((ix p0.Links p1).bind fun xv18 => (ckK .i64 (p1 + 1)).bind fun v22 => (ix p0.Links v22).bind fun xv23 => if (xv18.Log.length : Int) ≤ (xv23.Log.length : Int) then (some (false, p0.Links)) else ((ix xv18.Log (xv23.Log.length : Int)).bind fun xv46 => (appB 16 xv23.Log [xv46]).bind fun v49 => (setN p0.Links v22.toNat (implLink.mk v49 xv23.Sent xv23.Sure)).bind fun s4 => (s4[p1.toNat]?).bind fun xs6 => (setN s4 p1.toNat (implLink.mk xs6.Log (v49.length : Int) xs6.Sure)).bind fun s6 => (ckK .i64 ((s6.length : Int) - 1)).bind fun v65 => if v22 = v65 then ((i_Chain_sureTail (implChain.mk s6)).bind fun v68 => some (true, v68)) else (some (true, s6)))) else (some (false, p0.Links))
theorem i_Chain_pass.len (p0 : implChain) (p1 : Int) (r : Bool × List implLink) (h : i_Chain_pass p0 p1 = some r) : r.2.length = p0.Links.length := by
  unfold i_Chain_pass at h
  obtain ⟨v1, e1, h⟩ := bind_some h
  obtain ⟨v2, e2, h⟩ := bind_some h
  by_cases c : v2 = true
  · have h := if_t c h
    obtain ⟨v3, e3, h⟩ := bind_some h
    obtain ⟨v4, e4, h⟩ := bind_some h
    obtain ⟨v5, e5, h⟩ := bind_some h
    split at h
    · cases h; rfl
    · obtain ⟨v6, e6, h⟩ := bind_some h
      obtain ⟨v7, e7, h⟩ := bind_some h
      obtain ⟨v8, e8, h⟩ := bind_some h
      obtain ⟨v9, e9, h⟩ := bind_some h
      obtain ⟨v10, e10, h⟩ := bind_some h
      obtain ⟨v11, e11, h⟩ := bind_some h
      split at h
      · obtain ⟨v12, e12, h⟩ := bind_some h
        cases h
        show v12.length = _
        rw [i_Chain_sureTail.len _ _ e12, ← (setN_some e10).2, ← (setN_some e8).2]
      · cases h
        show v10.length = _
        rw [← (setN_some e10).2, ← (setN_some e8).2]
  · cases if_f c h; rfl
theorem i_Chain_pass.ok (p0 : implChain) (p1 : Int) (r : Bool × (List implLink)) (h0 : i_Chain_pass p0 p1 = some r) : ACall Try.prog 40 [.agg [.ref 10000 [] 0 p0.Links.length], .d (.int .i64 p1)] [] [p0.Links.map implLink.enc] (fun v ob oa na => v = .d (.bool r.1) ∧ ob = [] ∧ oa = [some (r.2.map implLink.enc)] ∧ na = []) := by
  refine wFn_ok i_Chain_pass.chk rfl ?_
  unfold i_Chain_pass at h0
  refine And.intro rfl ?_
  refine ⟨lit [(1, .d (.int .i64 p1)), (2, .bptr 2 0)] [(2, [.ref 10000 [] 0 p0.Links.length])] [(10000, p0.Links.map implLink.enc)], (le_lit (And.intro (ve rfl) (And.intro (ve rfl) trivial)) (And.intro ⟨_, rfl, (vel rfl)⟩ trivial) (And.intro rfl trivial)), ?_⟩
  obtain ⟨v12, ev12, h1⟩ := bind_some h0
  clear h0
  obtain ⟨ev12, rv12⟩ := ckK_some ev12
  refine And.intro rfl ?_
  refine ⟨v12, ev12, fun _ => rv12, ?_⟩
  obtain ⟨v13, ev13, h2⟩ := bind_some h1
  clear h1
  refine ⟨rfl, nod rfl, rfl, rfl, _, rfl, rfl, ?_⟩
  refine (i_within.ok p1 0 v12 _ ev13).mono ?_
  rintro _ _ _ _ ⟨rfl, rfl, rfl, rfl⟩
  refine ⟨rfl, rfl, rfl, rfl, trivial, trivial, ?_⟩
  refine ⟨lit [(1, .d (.int .i64 p1)), (2, .bptr 2 0), (14, .d (.bool (!v13)))] [(2, [.ref 10000 [] 0 p0.Links.length])] [(10000, p0.Links.map implLink.enc)], (le_lit (And.intro (ve rfl) (And.intro (ve rfl) (And.intro (ve rfl) trivial))) (And.intro ⟨_, rfl, (vel rfl)⟩ trivial) (And.intro rfl trivial)), ?_⟩
  by_cases c1 : v13 = true
  · have h3 := if_t c1 h2
    clear h2
    refine and_f (not_f c1) ?_
    refine ⟨lit [(1, .d (.int .i64 p1)), (2, .bptr 2 0)] [(2, [.ref 10000 [] 0 p0.Links.length])] [(10000, p0.Links.map implLink.enc)], (le_lit (And.intro (ve rfl) (And.intro (ve rfl) trivial)) (And.intro ⟨_, rfl, (vel rfl)⟩ trivial) (And.intro rfl trivial)), ?_⟩
    obtain ⟨xv18, exv18, h4⟩ := bind_some h3
    clear h3
    obtain ⟨av18, exv18⟩ := ix_some exv18
    refine And.intro av18 ⟨_, _, rfl, (get_lt exv18), map_get exv18, rfl, ?_⟩
    obtain ⟨v22, ev22, h5⟩ := bind_some h4
    clear h4
    obtain ⟨ev22, rv22⟩ := ckK_some ev22
    refine And.intro rfl ?_
    refine ⟨v22, ev22, fun _ => rv22, ?_⟩
    obtain ⟨xv23, exv23, h6⟩ := bind_some h5
    clear h5
    obtain ⟨av23, exv23⟩ := ix_some exv23
    refine And.intro av23 ⟨_, _, rfl, (get_lt exv23), map_get exv23, rfl, ?_⟩
    refine ⟨lit [(1, .d (.int .i64 p1)), (2, .bptr 2 0), (5, .aptr 10000 [] p1.toNat 0), (6, .aptr 10000 [] v22.toNat 0)] [(2, [.ref 10000 [] 0 p0.Links.length])] [(10000, p0.Links.map implLink.enc)], (le_lit (And.intro (ve rfl) (And.intro (ve rfl) (And.intro (ve rfl) (And.intro (ve rfl) trivial)))) (And.intro ⟨_, rfl, (vel rfl)⟩ trivial) (And.intro rfl trivial)), ?_⟩
    refine ⟨_, _, .ref 10000 [(v22.toNat, 0)] 0 xv23.Log.length, rfl, map_get exv23, (by simp [cellsV, packD, implLink.enc]), ?_⟩
    refine ⟨lit [(1, .d (.int .i64 p1)), (2, .bptr 2 0), (5, .aptr 10000 [] p1.toNat 0), (6, .aptr 10000 [] v22.toNat 0), (7, .d (.int .i64 (xv23.Log.length : Int)))] [(2, [.ref 10000 [] 0 p0.Links.length])] [(10000, p0.Links.map implLink.enc)], (le_lit (And.intro (ve rfl) (And.intro (ve rfl) (And.intro (ve rfl) (And.intro (ve rfl) (And.intro (ve rfl) trivial))))) (And.intro ⟨_, rfl, (vel rfl)⟩ trivial) (And.intro rfl trivial)), ?_⟩
    refine ⟨_, _, .ref 10000 [(p1.toNat, 0)] 0 xv18.Log.length, rfl, map_get exv18, (by simp [cellsV, packD, implLink.enc]), ?_⟩
    refine And.intro rfl ?_
    refine ⟨lit [(1, .d (.int .i64 p1)), (2, .bptr 2 0), (5, .aptr 10000 [] p1.toNat 0), (6, .aptr 10000 [] v22.toNat 0), (7, .d (.int .i64 (xv23.Log.length : Int))), (35, .d (.bool (decide ((xv18.Log.length : Int) ≤ (xv23.Log.length : Int)))))] [(2, [.ref 10000 [] 0 p0.Links.length])] [(10000, p0.Links.map implLink.enc)], (le_lit (And.intro (ve rfl) (And.intro (ve rfl) (And.intro (ve rfl) (And.intro (ve rfl) (And.intro (ve rfl) (And.intro (ve rfl) trivial)))))) (And.intro ⟨_, rfl, (vel rfl)⟩ trivial) (And.intro rfl trivial)), ?_⟩
    by_cases c2 : (xv18.Log.length : Int) ≤ (xv23.Log.length : Int)
    · have h7 := if_t c2 h6
      clear h6
      refine and_t (decide_eq_true c2) ?_
      cases h7
      exact ⟨[], nod rfl, all_lt rfl, blt_lt rfl, _, _, rfl, rfl, rfl, rfl, rfl, rfl⟩
    · have h8 := if_f c2 h6
      clear h6
      refine and_f (decide_eq_false c2) ?_
      refine ⟨lit [(1, .d (.int .i64 p1)), (2, .bptr 2 0), (5, .aptr 10000 [] p1.toNat 0), (6, .aptr 10000 [] v22.toNat 0), (7, .d (.int .i64 (xv23.Log.length : Int)))] [(2, [.ref 10000 [] 0 p0.Links.length])] [(10000, p0.Links.map implLink.enc)], (le_lit (And.intro (ve rfl) (And.intro (ve rfl) (And.intro (ve rfl) (And.intro (ve rfl) (And.intro (ve rfl) trivial))))) (And.intro ⟨_, rfl, (vel rfl)⟩ trivial) (And.intro rfl trivial)), ?_⟩
      refine ⟨_, _, .ref 10000 [(v22.toNat, 0)] 0 xv23.Log.length, rfl, map_get exv23, (by simp [cellsV, packD, implLink.enc]), ?_⟩
      refine ⟨_, _, .ref 10000 [(p1.toNat, 0)] 0 xv18.Log.length, rfl, map_get exv18, (by simp [cellsV, packD, implLink.enc]), ?_⟩
      refine ⟨lit [(1, .d (.int .i64 p1)), (2, .bptr 2 0), (5, .aptr 10000 [] p1.toNat 0), (6, .aptr 10000 [] v22.toNat 0), (36, .aptr 10000 [] v22.toNat 0), (39, .aptr 10000 [] v22.toNat 0), (40, .ref 10000 [(v22.toNat, 0)] 0 xv23.Log.length), (44, .ref 10000 [(p1.toNat, 0)] 0 xv18.Log.length), (45, .d (.int .i64 (xv23.Log.length : Int)))] [(2, [.ref 10000 [] 0 p0.Links.length])] [(10000, p0.Links.map implLink.enc)], (le_lit (And.intro (ve rfl) (And.intro (ve rfl) (And.intro (ve rfl) (And.intro (ve rfl) (And.intro (ve rfl) (And.intro (ve rfl) (And.intro (ve rfl) (And.intro (ve rfl) (And.intro (ve rfl) trivial))))))))) (And.intro ⟨_, rfl, (vel rfl)⟩ trivial) (And.intro rfl trivial)), ?_⟩
      obtain ⟨xv46, exv46, h9⟩ := bind_some h8
      clear h8
      obtain ⟨av46, exv46⟩ := ix_some exv46
      refine And.intro av46 ⟨_, _, (rowAt1 rfl (map_get exv18) rfl), (get_lt exv46), map_get exv46, rfl, ?_⟩
      refine ⟨_, _, .d (.str xv46), (rowAt1 rfl (map_get exv18) rfl), map_get exv46, rfl, ?_⟩
      refine And.intro (And.intro (And.intro (And.intro rfl trivial) trivial) ?_) trivial
      refine And.intro rfl ?_
      refine And.intro rfl ?_
      refine And.intro (nod rfl) (And.intro rfl ?_)
      refine And.intro (And.intro trivial ?_) trivial
      obtain ⟨v49, ev49, h10⟩ := bind_some h9
      clear h9
      obtain ⟨ev49, fv49⟩ := appB_some ev49
      refine ⟨_, ([xv46].map encS), rfl, (nle rfl), rfl, all_flat (fun _ => rfl) _, ?_⟩
      refine And.intro rfl (And.intro rfl (And.intro rfl (And.intro rfl ⟨_, _, _, rfl, (rowAt1 rfl (map_get exv23) rfl), goneRow1 (map_get exv23), ?_⟩)))
      refine ⟨_, _, _, rfl, (map_len _), (app_fit (f := encS) fv49), (all_len (f := encS) (fun _ => rfl) xv23.Log), (all_len (f := encS) (fun _ => rfl) [xv46]), rfl, map_app (f := encS) ev49, (app_len (f := encS) ev49), ?_⟩
      refine ⟨_, le_refl _, ?_⟩
      refine And.intro (And.intro trivial ?_) trivial
      obtain ⟨s4, es4, h11⟩ := bind_some h10
      clear h10
      obtain ⟨es4, ls4⟩ := setN_some es4
      refine ⟨_, _, rfl, set_get (map_get exv23), ?_⟩
      refine And.intro (map_len _) ?_
      refine And.intro rfl (And.intro (nod rfl) (And.intro (nle rfl) (And.intro rfl ⟨_, ((List.set_set ..).trans (map_set (f := implLink.enc) es4 rfl)), ?_⟩)))
      refine ⟨lit [(1, .d (.int .i64 p1)), (2, .bptr 2 0), (5, .aptr 10000 [] p1.toNat 0), (6, .aptr 10000 [] v22.toNat 0)] [(2, [.ref 10000 [] 0 s4.length])] [(10000, s4.map implLink.enc)], (le_lit (And.intro (ve rfl) (And.intro (ve rfl) (And.intro (ve rfl) (And.intro (ve rfl) trivial)))) (And.intro ⟨_, rfl, (And.intro (ve (congrArg (V.ref 10000 [] 0) ls4)) trivial)⟩ trivial) (And.intro rfl trivial)), ?_⟩
      refine ⟨_, _, .ref 10000 [(v22.toNat, 0)] 0 v49.length, rfl, map_get (set_some exv23 es4), (by simp [cellsV, packD, implLink.enc]), ?_⟩
      obtain ⟨xs6, exs6, h12⟩ := bind_some h11
      clear h11
      obtain ⟨s6, es6, h13⟩ := bind_some h12
      clear h12
      obtain ⟨es6, ls6⟩ := setN_some es6
      obtain ⟨zs6_0_1, ezs6_0_1, fzs6_0_1⟩ := set_field (fun q : implLink => q.Log) (set_some exv23 es4) exs6 es6 rfl
      refine ⟨_, _, rfl, map_get exs6, ?_⟩
      refine And.intro rfl ?_
      refine And.intro rfl (And.intro (nod rfl) (And.intro (nle rfl) (And.intro rfl ⟨_, (map_set (f := implLink.enc) es6 rfl), ?_⟩)))
      refine ⟨lit [(1, .d (.int .i64 p1)), (2, .bptr 2 0)] [(2, [.ref 10000 [] 0 s6.length])] [(10000, s6.map implLink.enc)], (le_lit (And.intro (ve rfl) (And.intro (ve rfl) trivial)) (And.intro ⟨_, rfl, (And.intro (ve (congrArg (V.ref 10000 [] 0) ls6)) trivial)⟩ trivial) (And.intro rfl trivial)), ?_⟩
      refine And.intro rfl ?_
      refine ⟨v22, ev22, fun _ => rv22, ?_⟩
      obtain ⟨v65, ev65, h14⟩ := bind_some h13
      clear h13
      obtain ⟨ev65, rv65⟩ := ckK_some ev65
      refine And.intro rfl ?_
      refine ⟨v65, ev65, fun _ => rv65, ?_⟩
      refine And.intro rfl ?_
      refine ⟨lit [(2, .bptr 2 0), (66, .d (.bool (decide (v22 = v65))))] [(2, [.ref 10000 [] 0 s6.length])] [(10000, s6.map implLink.enc)], (le_lit (And.intro (ve rfl) (And.intro (ve rfl) trivial)) (And.intro ⟨_, rfl, (vel rfl)⟩ trivial) (And.intro rfl trivial)), ?_⟩
      by_cases c7 : v22 = v65
      · have h15 := if_t c7 h14
        clear h14
        refine and_t (decide_eq_true c7) ?_
        obtain ⟨v68, ev68, h16⟩ := bind_some h15
        clear h15
        refine ⟨rfl, nod rfl, rfl, rfl, _, rfl, rfl, ?_⟩
        refine ⟨_, rfl, ?_⟩
        refine (i_Chain_sureTail.ok (implChain.mk s6) _ ev68).mono ?_
        rintro _ _ _ _ ⟨rfl, rfl, rfl, rfl⟩
        refine ⟨rfl, rfl, rfl, rfl, trivial, (map_len_map (i_Chain_sureTail.len (implChain.mk s6) _ ev68)), ?_⟩
        refine ⟨lit [(4, .d (.bool true))] [] [(10000, v68.map implLink.enc)], (le_lit (And.intro (ve rfl) trivial) trivial (And.intro rfl trivial)), ?_⟩
        cases h16
        exact ⟨[], nod rfl, all_lt rfl, blt_lt rfl, _, _, rfl, rfl, rfl, rfl, rfl, rfl⟩
      · have h17 := if_f c7 h14
        clear h14
        refine and_f (decide_eq_false c7) ?_
        refine ⟨lit [(4, .d (.bool true))] [] [(10000, s6.map implLink.enc)], (le_lit (And.intro (ve rfl) trivial) trivial (And.intro rfl trivial)), ?_⟩
        cases h17
        exact ⟨[], nod rfl, all_lt rfl, blt_lt rfl, _, _, rfl, rfl, rfl, rfl, rfl, rfl⟩
  · have h18 := if_f c1 h2
    clear h2
    refine and_t (not_t (ne_t c1)) ?_
    cases h18
    exact ⟨[], nod rfl, all_lt rfl, blt_lt rfl, _, _, rfl, rfl, rfl, rfl, rfl, rfl⟩
end Go.Vm
end
section
set_option maxRecDepth 4000
set_option maxHeartbeats 1000000
namespace Go.Vm
open Go.Proofs
/- (loop.example/g00300/impl.Chain).back -/
def i_Chain_back.code : MC :=
 (.seq
  (.keep [1, 2] (.reg [⟨(some 2), none, .box (.t 0)⟩, ⟨(some 4), none, .mov (.v (.d (.bool false)))⟩]))
  (.norm (.seq
   (.cut
    (.keep [1, 2, 27] (.draw (.take 0 ⟨(some 5), none, .mov (.t 1)⟩ (.take 1 ⟨(some 6), none, .fld 0 (.t 2)⟩ (.take 2 ⟨(some 7), none, .load false 1 (.t 6)⟩ (.take 3 ⟨(some 8), none, .len (.t 7)⟩ (.take 4 ⟨(some 9), none, .bin true .sub (.t 8) (.v (.d (.int .i64 2)))⟩ (.fork 5 ⟨(some 10), none, .call (.v (.clos 57 [])) [.t 5, .v (.d (.int .i64 0)), .t 9] [] []⟩ [] (.take 6 ⟨(some 11), none, .un .not (.t 10)⟩ (.nrm (.take 7 ⟨(some 12), none, .mov (.t 11)⟩ (.take 8 ⟨(some 13), (some (12, false)), .fld 0 (.t 2)⟩ (.take 9 ⟨(some 14), (some (12, false)), .load false 1 (.t 13)⟩ (.take 10 ⟨(some 15), (some (12, false)), .mov (.t 1)⟩ (.take 11 ⟨(some 16), (some (12, false)), .bin true .add (.t 15) (.v (.d (.int .i64 1)))⟩ (.take 12 ⟨(some 17), (some (12, false)), .idx 3 (.t 14) (.t 16)⟩ (.take 13 ⟨(some 18), (some (12, false)), .fld 2 (.t 17)⟩ (.take 14 ⟨(some 19), (some (12, false)), .load false 1 (.t 18)⟩ (.take 15 ⟨(some 20), (some (12, false)), .fld 0 (.t 2)⟩ (.nrm (.take 16 ⟨(some 21), (some (12, false)), .load false 1 (.t 20)⟩ (.take 17 ⟨(some 22), (some (12, false)), .mov (.t 1)⟩ (.take 18 ⟨(some 23), (some (12, false)), .idx 3 (.t 21) (.t 22)⟩ (.take 19 ⟨(some 24), (some (12, false)), .fld 2 (.t 23)⟩ (.take 20 ⟨(some 25), (some (12, false)), .load false 1 (.t 24)⟩ (.take 21 ⟨(some 26), (some (12, false)), .bin true .leq (.t 19) (.t 25)⟩ (.take 22 ⟨(some 27), none, .pick (.t 12) (.v (.d (.bool true))) (.t 26)⟩ .done))))))))))))))))))) .nofork))))))))
    (.cond (.t 27)
     (.seq
      (.keep [4] (.reg [⟨(some 4), none, .mov (.v (.d (.bool false)))⟩]))
      .ret)
     .skip))
   (.norm (.seq
    (.keep [] (.draw (.take 0 ⟨(some 28), none, .fld 0 (.t 2)⟩ (.take 1 ⟨(some 29), none, .load false 1 (.t 28)⟩ (.take 2 ⟨(some 30), none, .mov (.t 1)⟩ (.take 3 ⟨(some 31), none, .fld 0 (.t 2)⟩ (.take 4 ⟨(some 32), none, .load false 1 (.t 31)⟩ (.take 5 ⟨(some 33), none, .mov (.t 1)⟩ (.take 6 ⟨(some 34), none, .bin true .add (.t 33) (.v (.d (.int .i64 1)))⟩ (.take 7 ⟨(some 35), none, .idx 3 (.t 32) (.t 34)⟩ (.take 8 ⟨(some 36), none, .fld 2 (.t 35)⟩ (.nrm (.take 9 ⟨(some 37), none, .load false 1 (.t 36)⟩ (.take 10 ⟨(some 38), none, .idx 3 (.t 29) (.t 30)⟩ (.take 11 ⟨(some 39), none, .fld 2 (.t 38)⟩ (.fork 12 ⟨none, none, .store 1 (.t 39) (.t 37)⟩ [] .done .nofork))))))))))))))))
    (.seq
     (.keep [4] (.reg [⟨(some 4), none, .mov (.v (.d (.bool true)))⟩]))
     .ret))))))
theorem i_Chain_back.chk : chkFn Try.prog 41 2 i_Chain_back.code [.tmp 4] = true := by kernel_rfl
def i_Chain_back.j1 (p0 : implChain) (p1 : Int) (x27_1 : Bool) : Option (Bool × (List implLink)) :=
  if x27_1 = true then (some (false, p0.Links)) else ((ckK .i64 (p1 + 1)).bind fun v34 => (ix p0.Links v34).bind fun xv35 => (ix p0.Links p1).bind fun xv38 => (setN p0.Links p1.toNat (implLink.mk xv38.Log xv38.Sent xv35.Sure)).bind fun s4 => some (true, s4))
def i_Chain_back.J1 (p0 : implChain) (p1 : Int) (x27_1 : Bool) : St :=
  lit [(1, .d (.int .i64 p1)), (2, .bptr 2 0), (27, .d (.bool x27_1))] [(2, [.ref 10000 [] 0 p0.Links.length])] [(10000, p0.Links.map implLink.enc)]
def i_Chain_back (p0 : implChain) (p1 : Int) : Option (Bool × (List implLink)) :=
  (ckK .i64 ((p0.Links.length : Int) - 2)).bind fun v9 => (i_within p1 0 v9).bind fun v10 => if v10 = true then ((ckK .i64 (p1 + 1)).bind fun v16 => (ix p0.Links v16).bind fun xv17 => (ix p0.Links p1).bind fun xv23 => i_Chain_back.j1 p0 p1 (decide (xv17.Sure ≤ xv23.Sure))) else (i_Chain_back.j1 p0 p1 true)
theorem i_Chain_back.j1_len (p0 : implChain) (p1 : Int) (x : Bool) (r : Bool × List implLink) (h : i_Chain_back.j1 p0 p1 x = some r) : r.2.length = p0.Links.length := by
  unfold i_Chain_back.j1 at h
  split at h
  · cases h; rfl
  · obtain ⟨v1, e1, h⟩ := bind_some h
    obtain ⟨v2, e2, h⟩ := bind_some h
    obtain ⟨v3, e3, h⟩ := bind_some h
    obtain ⟨v4, e4, h⟩ := bind_some h
    cases h
    show v4.length = _
    rw [← (setN_some e4).2]
theorem i_Chain_back.len (p0 : implChain) (p1 : Int) (r : Bool × List implLink) (h : i_Chain_back p0 p1 = some r) : r.2.length = p0.Links.length := by
  unfold i_Chain_back at h
  obtain ⟨v1, e1, h⟩ := bind_some h
  obtain ⟨v2, e2, h⟩ := bind_some h
  split at h
  · obtain ⟨v3, e3, h⟩ := bind_some h
    obtain ⟨v4, e4, h⟩ := bind_some h
    obtain ⟨v5, e5, h⟩ := bind_some h
    exact i_Chain_back.j1_len _ _ _ _ h
  · exact i_Chain_back.j1_len _ _ _ _ h
theorem i_Chain_back.ok (p0 : implChain) (p1 : Int) (r : Bool × (List implLink)) (h0 : i_Chain_back p0 p1 = some r) : ACall Try.prog 41 [.agg [.ref 10000 [] 0 p0.Links.length], .d (.int .i64 p1)] [] [p0.Links.map implLink.enc] (fun v ob oa na => v = .d (.bool r.1) ∧ ob = [] ∧ oa = [some (r.2.map implLink.enc)] ∧ na = []) := by
  refine wFn_ok i_Chain_back.chk rfl ?_
  unfold i_Chain_back at h0
  refine And.intro rfl ?_
  refine ⟨lit [(1, .d (.int .i64 p1)), (2, .bptr 2 0)] [(2, [.ref 10000 [] 0 p0.Links.length])] [(10000, p0.Links.map implLink.enc)], (le_lit (And.intro (ve rfl) (And.intro (ve rfl) trivial)) (And.intro ⟨_, rfl, (vel rfl)⟩ trivial) (And.intro rfl trivial)), ?_⟩
  refine ⟨{ g : Bool // i_Chain_back.j1 p0 p1 g = some r }, fun g => i_Chain_back.J1 p0 p1 g.1, ?_, ?_⟩
  · skip
    obtain ⟨v9, ev9, h1⟩ := bind_some h0
    clear h0
    obtain ⟨ev9, rv9⟩ := ckK_some ev9
    refine And.intro rfl ?_
    refine ⟨v9, ev9, fun _ => rv9, ?_⟩
    refine And.intro (And.intro trivial ?_) trivial
    obtain ⟨v10, ev10, h2⟩ := bind_some h1
    clear h1
    refine ⟨rfl, nod rfl, rfl, rfl, _, rfl, rfl, ?_⟩
    refine (i_within.ok p1 0 v9 _ ev10).mono ?_
    rintro _ _ _ _ ⟨rfl, rfl, rfl, rfl⟩
    refine ⟨rfl, rfl, rfl, rfl, trivial, trivial, ?_⟩
    refine ⟨lit [(1, .d (.int .i64 p1)), (2, .bptr 2 0), (11, .d (.bool (!v10)))] [(2, [.ref 10000 [] 0 p0.Links.length])] [(10000, p0.Links.map implLink.enc)], (le_lit (And.intro (ve rfl) (And.intro (ve rfl) (And.intro (ve rfl) trivial))) (And.intro ⟨_, rfl, (vel rfl)⟩ trivial) (And.intro rfl trivial)), ?_⟩
    by_cases c1 : v10 = true
    · have h3 := if_t c1 h2
      clear h2
      refine and_f' (not_f c1) ?_
      refine and_f' (not_f c1) ?_
      refine and_f' (not_f c1) ?_
      obtain ⟨v16, ev16, h4⟩ := bind_some h3
      clear h3
      obtain ⟨ev16, rv16⟩ := ckK_some ev16
      refine and_f' (not_f c1) ?_
      refine And.intro rfl ?_
      refine ⟨v16, ev16, fun _ => rv16, ?_⟩
      obtain ⟨xv17, exv17, h5⟩ := bind_some h4
      clear h4
      obtain ⟨av17, exv17⟩ := ix_some exv17
      refine and_f' (not_f c1) ?_
      refine And.intro av17 ⟨_, _, rfl, (get_lt exv17), map_get exv17, rfl, ?_⟩
      refine and_f' (not_f c1) ?_
      refine and_f' (not_f c1) ?_
      refine ⟨_, _, .d (.int .i64 xv17.Sure), rfl, map_get exv17, rfl, ?_⟩
      refine and_f' (not_f c1) ?_
      refine ⟨lit [(1, .d (.int .i64 p1)), (2, .bptr 2 0), (12, .d (.bool (!v10))), (19, .d (.int .i64 xv17.Sure)), (20, .bptr 2 0)] [(2, [.ref 10000 [] 0 p0.Links.length])] [(10000, p0.Links.map implLink.enc)], (le_lit (And.intro (ve rfl) (And.intro (ve rfl) (And.intro (ve rfl) (And.intro (ve rfl) (And.intro (ve rfl) trivial))))) (And.intro ⟨_, rfl, (vel rfl)⟩ trivial) (And.intro rfl trivial)), ?_⟩
      refine and_f' (not_f c1) ?_
      refine and_f' (not_f c1) ?_
      obtain ⟨xv23, exv23, h6⟩ := bind_some h5
      clear h5
      obtain ⟨av23, exv23⟩ := ix_some exv23
      refine and_f' (not_f c1) ?_
      refine And.intro av23 ⟨_, _, rfl, (get_lt exv23), map_get exv23, rfl, ?_⟩
      refine and_f' (not_f c1) ?_
      refine and_f' (not_f c1) ?_
      refine ⟨_, _, .d (.int .i64 xv23.Sure), rfl, map_get exv23, rfl, ?_⟩
      refine and_f' (not_f c1) ?_
      refine And.intro rfl ?_
      refine and_f (not_f c1) ?_
      exact ⟨⟨_, h6⟩, (le_lit (And.intro (ve rfl) (And.intro (ve rfl) (And.intro (ve rfl) trivial))) (And.intro ⟨_, rfl, (vel rfl)⟩ trivial) (And.intro rfl trivial))⟩
    · have h7 := if_f c1 h2
      clear h2
      refine and_t' (not_t (ne_t c1)) ?_
      refine and_t' (not_t (ne_t c1)) ?_
      refine and_t' (not_t (ne_t c1)) ?_
      refine and_t' (not_t (ne_t c1)) ?_
      refine and_t' (not_t (ne_t c1)) ?_
      refine and_t' (not_t (ne_t c1)) ?_
      refine and_t' (not_t (ne_t c1)) ?_
      refine and_t' (not_t (ne_t c1)) ?_
      refine ⟨lit [(1, .d (.int .i64 p1)), (2, .bptr 2 0), (12, .d (.bool (!v10))), (19, .tup []), (20, .tup [])] [(2, [.ref 10000 [] 0 p0.Links.length])] [(10000, p0.Links.map implLink.enc)], (le_lit (And.intro (ve rfl) (And.intro (ve rfl) (And.intro (ve rfl) (And.intro (ve rfl) (And.intro (ve rfl) trivial))))) (And.intro ⟨_, rfl, (vel rfl)⟩ trivial) (And.intro rfl trivial)), ?_⟩
      refine and_t' (not_t (ne_t c1)) ?_
      refine and_t' (not_t (ne_t c1)) ?_
      refine and_t' (not_t (ne_t c1)) ?_
      refine and_t' (not_t (ne_t c1)) ?_
      refine and_t' (not_t (ne_t c1)) ?_
      refine and_t' (not_t (ne_t c1)) ?_
      refine and_t (not_t (ne_t c1)) ?_
      exact ⟨⟨_, h7⟩, (le_lit (And.intro (ve rfl) (And.intro (ve rfl) (And.intro (ve rfl) trivial))) (And.intro ⟨_, rfl, (vel rfl)⟩ trivial) (And.intro rfl trivial))⟩
  · rintro ⟨x27_1, h8⟩
    change i_Chain_back.j1 p0 p1 x27_1 = some r at h8
    change wMC _ _ _ (i_Chain_back.J1 p0 p1 x27_1)
    unfold i_Chain_back.j1 at h8
    clear h0
    by_cases c2 : x27_1 = true
    · have h9 := if_t c2 h8
      clear h8
      refine and_t c2 ?_
      cases h9
      exact ⟨[], nod rfl, all_lt rfl, blt_lt rfl, _, _, rfl, rfl, rfl, rfl, rfl, rfl⟩
    · have h10 := if_f c2 h8
      clear h8
      refine and_f (ne_t c2) ?_
      refine ⟨lit [(1, .d (.int .i64 p1)), (2, .bptr 2 0)] [(2, [.ref 10000 [] 0 p0.Links.length])] [(10000, p0.Links.map implLink.enc)], (le_lit (And.intro (ve rfl) (And.intro (ve rfl) trivial)) (And.intro ⟨_, rfl, (vel rfl)⟩ trivial) (And.intro rfl trivial)), ?_⟩
      obtain ⟨v34, ev34, h11⟩ := bind_some h10
      clear h10
      obtain ⟨ev34, rv34⟩ := ckK_some ev34
      refine And.intro rfl ?_
      refine ⟨v34, ev34, fun _ => rv34, ?_⟩
      obtain ⟨xv35, exv35, h12⟩ := bind_some h11
      clear h11
      obtain ⟨av35, exv35⟩ := ix_some exv35
      refine And.intro av35 ⟨_, _, rfl, (get_lt exv35), map_get exv35, rfl, ?_⟩
      refine ⟨lit [(29, .ref 10000 [] 0 p0.Links.length), (30, .d (.int .i64 p1)), (36, .aptr 10000 [] v34.toNat 2)] [] [(10000, p0.Links.map implLink.enc)], (le_lit (And.intro (ve rfl) (And.intro (ve rfl) (And.intro (ve rfl) trivial))) trivial (And.intro rfl trivial)), ?_⟩
      refine ⟨_, _, .d (.int .i64 xv35.Sure), rfl, map_get exv35, rfl, ?_⟩
      obtain ⟨xv38, exv38, h13⟩ := bind_some h12
      clear h12
      obtain ⟨av38, exv38⟩ := ix_some exv38
      refine And.intro av38 ⟨_, _, rfl, (get_lt exv38), map_get exv38, rfl, ?_⟩
      refine And.intro (And.intro trivial ?_) trivial
      obtain ⟨s4, es4, h14⟩ := bind_some h13
      clear h13
      obtain ⟨es4, ls4⟩ := setN_some es4
      refine ⟨_, _, rfl, map_get exv38, ?_⟩
      refine And.intro rfl ?_
      refine And.intro rfl (And.intro (nod rfl) (And.intro (nle rfl) (And.intro rfl ⟨_, (map_set (f := implLink.enc) es4 rfl), ?_⟩)))
      cases h14
      exact ⟨[], nod rfl, all_lt rfl, blt_lt rfl, _, _, rfl, rfl, rfl, rfl, rfl, rfl⟩
end Go.Vm
end
section
set_option maxRecDepth 4000
set_option maxHeartbeats 1000000
namespace Go.Vm
open Go.Proofs
/- loop.example/g00300/impl.DrainChain -/
def i_DrainChain.code : MC :=
 (.seq
  (.keep [1, 2] (.reg [⟨(some 1), none, .box (.t 0)⟩, ⟨(some 2), none, .box (.v (.agg [.nilsl]))⟩, ⟨(some 3), none, .mov (.v (.d (.int .i64 0)))⟩, ⟨(some 4), none, .mov (.v (.d (.bool false)))⟩]))
  (.norm (.seq
   (.seq
    (.keep [1, 2, 11] (.reg [⟨(some 9), none, .load true 1 (.t 1)⟩, ⟨(some 10), none, .call (.v (.clos 31 [])) [.t 9] [] []⟩, ⟨(some 11), none, .un .not (.t 10)⟩]))
    (.norm (.cond (.t 11)
     (.seq
      (.keep [2, 3, 4] (.reg [⟨(some 12), none, .build [.nilsl] []⟩, ⟨none, none, .store 1 (.t 2) (.t 12)⟩, ⟨(some 3), none, .mov (.v (.d (.int .i64 0)))⟩, ⟨(some 4), none, .mov (.v (.d (.bool false)))⟩]))
      (.adopt 2 0 9000 .ret))
     .skip)))
   (.norm (.seq
    (.keep [2, 5] (.reg [⟨(some 13), none, .load true 1 (.t 1)⟩, ⟨(some 14), none, .call (.v (.clos 39 [])) [.t 13] [] [14]⟩, ⟨(some 5), none, .box (.v (.agg [.nilsl]))⟩, ⟨none, none, .store 1 (.t 5) (.t 14)⟩]))
    (.norm (.seq
     (.keep [2, 5, 6] (.reg [⟨(some 6), none, .mov (.v (.d (.int .i64 0)))⟩]))
     (.norm (.cut
      (.seq
       (.keep [2, 5, 6, 17, 18] (.reg [⟨(some 15), none, .fld 0 (.t 5)⟩, ⟨(some 16), none, .load false 1 (.t 15)⟩, ⟨(some 17), none, .len (.t 16)⟩, ⟨(some 18), none, .mov (.v (.d (.int .i64 0)))⟩]))
       (.norm (.block 0
        (.loop
         (.seq
          (.keep [2, 5, 6, 17, 18, 19] (.reg [⟨(some 19), none, .bin true .lss (.t 18) (.t 17)⟩]))
          (.seq
           (.cond (.t 19)
            .skip
            (.exit 0))
           (.seq
            (.block 1
             (.seq
              (.keep [2, 5, 6, 7, 17, 18] (.reg [⟨(some 20), none, .mov (.t 18)⟩, ⟨(some 7), none, .mov (.t 20)⟩]))
              (.norm (.block 2
               (.loop
                (.seq
                 (.seq
                  (.keep [2, 5, 6, 7, 17, 18, 23] (.reg [⟨(some 21), none, .load true 1 (.t 5)⟩, ⟨(some 22), none, .mov (.t 7)⟩, ⟨(some 23), none, .call (.v (.clos 40 [])) [.t 21, .t 22] [true] []⟩]))
                  (.norm (.cond (.t 23)
                   .skip
                   (.exit 2))))
                 (.norm (.block 3
                  (.keep [2, 5, 6, 7, 17, 18] (.reg [⟨(some 24), none, .mov (.t 6)⟩, ⟨(some 25), none, .bin true .add (.t 24) (.v (.d (.int .i64 1)))⟩, ⟨(some 6), none, .mov (.t 25)⟩]))))))))))
            (.keep [2, 5, 6, 17, 18] (.reg [⟨(some 26), none, .bin true .add (.t 18) (.v (.d (.int .i64 1)))⟩, ⟨(some 18), none, .mov (.t 26)⟩])))))))))
      (.cut
       (.seq
        (.keep [2, 5, 6, 8] (.reg [⟨(some 27), none, .fld 0 (.t 5)⟩, ⟨(some 28), none, .load false 1 (.t 27)⟩, ⟨(some 29), none, .len (.t 28)⟩, ⟨(some 30), none, .bin true .sub (.t 29) (.v (.d (.int .i64 2)))⟩, ⟨(some 8), none, .mov (.t 30)⟩]))
        (.norm (.block 4
         (.loop
          (.seq
           (.seq
            (.keep [2, 5, 6, 8, 32] (.reg [⟨(some 31), none, .mov (.t 8)⟩, ⟨(some 32), none, .bin true .geq (.t 31) (.v (.d (.int .i64 0)))⟩]))
            (.norm (.cond (.t 32)
             .skip
             (.exit 4))))
           (.norm (.cut
            (.block 5
             (.seq
              (.keep [2, 5, 6, 8, 37] (.reg [⟨(some 35), none, .load true 1 (.t 5)⟩, ⟨(some 36), none, .mov (.t 8)⟩, ⟨(some 37), none, .call (.v (.clos 41 [])) [.t 35, .t 36] [true] []⟩]))
              (.norm (.cond (.t 37)
               (.keep [2, 5, 6, 8] (.reg [⟨(some 38), none, .mov (.t 6)⟩, ⟨(some 39), none, .bin true .add (.t 38) (.v (.d (.int .i64 1)))⟩, ⟨(some 6), none, .mov (.t 39)⟩]))
               .skip))))
            (.keep [2, 5, 6, 8] (.reg [⟨(some 33), none, .mov (.t 8)⟩, ⟨(some 34), none, .bin true .sub (.t 33) (.v (.d (.int .i64 1)))⟩, ⟨(some 8), none, .mov (.t 34)⟩])))))))))
       (.seq
        (.keep [2, 3, 4] (.reg [⟨(some 40), none, .load true 1 (.t 5)⟩, ⟨(some 41), none, .mov (.t 6)⟩, ⟨none, none, .store 1 (.t 2) (.t 40)⟩, ⟨(some 3), none, .mov (.t 41)⟩, ⟨(some 4), none, .mov (.v (.d (.bool true)))⟩]))
        (.adopt 2 0 9000 .ret))))))))))))
theorem i_DrainChain.chk : chkFn Try.prog 9 1 i_DrainChain.code [.cell true 1 2, .tmp 3, .tmp 4] = true := by kernel_rfl
def i_DrainChain.j8 (a14_8 : (List implLink)) (x6_8 : Int) : Option (implChain × Int × Bool) :=
  some ((implChain.mk a14_8), x6_8, true)
def i_DrainChain.J8 (a14_8 : (List implLink)) (x6_8 : Int) : St :=
  lit [(2, .bptr 2 0), (5, .bptr 5 0), (6, .d (.int .i64 x6_8))] [(2, [.nilsl]), (5, [.ref 14 [] 0 a14_8.length])] [(14, a14_8.map implLink.enc)]
def i_DrainChain.j7 (x8_l5 : Int) (nx5 : (List implLink) → Int → Int → Option ((List implLink) × Int)) (a14_7 : (List implLink)) (x6_7 : Int) : Option ((List implLink) × Int) :=
  (ckK .i64 (x8_l5 - 1)).bind fun v34 => nx5 a14_7 x6_7 v34
def i_DrainChain.J7 (x8_l5 : Int) (a14_7 : (List implLink)) (x6_7 : Int) : St :=
  lit [(2, .bptr 2 0), (5, .bptr 5 0), (6, .d (.int .i64 x6_7)), (8, .d (.int .i64 x8_l5))] [(2, [.nilsl]), (5, [.ref 14 [] 0 a14_7.length])] [(14, a14_7.map implLink.enc)]
def i_DrainChain.l5 : Nat → (List implLink) → Int → Int → Option ((List implLink) × Int)
  | 0, _, _, _ => none
  | k + 1, a14_l5, x6_l5, x8_l5 => if 0 ≤ x8_l5 then ((i_Chain_back (implChain.mk a14_l5) x8_l5).bind fun v37 => if v37.1 = true then ((ckK .i64 (x6_l5 + 1)).bind fun v39 => i_DrainChain.j7 x8_l5 (i_DrainChain.l5 k) v37.2 v39) else (i_DrainChain.j7 x8_l5 (i_DrainChain.l5 k) v37.2 x6_l5)) else (some (a14_l5, x6_l5))
def i_DrainChain.S5 (a14_l5 : (List implLink)) (x6_l5 : Int) (x8_l5 : Int) : St :=
  lit [(2, .bptr 2 0), (5, .bptr 5 0), (6, .d (.int .i64 x6_l5)), (8, .d (.int .i64 x8_l5))] [(2, [.nilsl]), (5, [.ref 14 [] 0 a14_l5.length])] [(14, a14_l5.map implLink.enc)]
def i_DrainChain.O5 (o5 : (List implLink) × Int) : St :=
  lit [(2, .bptr 2 0), (5, .bptr 5 0), (6, .d (.int .i64 o5.2))] [(2, [.nilsl]), (5, [.ref 14 [] 0 o5.1.length])] [(14, o5.1.map implLink.enc)]
def i_DrainChain.j4 (a14_4 : (List implLink)) (x6_4 : Int) : Option (implChain × Int × Bool) :=
  (ckK .i64 ((a14_4.length : Int) - 2)).bind fun v30 => (i_DrainChain.l5 big a14_4 x6_4 v30).bind fun o5 => i_DrainChain.j8 o5.1 o5.2
def i_DrainChain.J4 (a14_4 : (List implLink)) (x6_4 : Int) : St :=
  lit [(2, .bptr 2 0), (5, .bptr 5 0), (6, .d (.int .i64 x6_4))] [(2, [.nilsl]), (5, [.ref 14 [] 0 a14_4.length])] [(14, a14_4.map implLink.enc)]
def i_DrainChain.l3 (i1 : Nat) : Nat → (List implLink) → Int → Option ((List implLink) × Int)
  | 0, _, _ => none
  | k + 1, a14_l3, x6_l3 => (i_Chain_pass (implChain.mk a14_l3) (i1 : Int)).bind fun v23 => if v23.1 = true then ((ckK .i64 (x6_l3 + 1)).bind fun v25 => (i_DrainChain.l3 i1 k) v23.2 v25) else (some (v23.2, x6_l3))
def i_DrainChain.S3 (v14 : implChain) (i1 : Nat) (a14_l3 : (List implLink)) (x6_l3 : Int) : St :=
  lit [(2, .bptr 2 0), (5, .bptr 5 0), (6, .d (.int .i64 x6_l3)), (7, .d (.int .i64 (i1 : Int))), (17, .d (.int .i64 (v14.Links.length : Int))), (18, .d (.int .i64 (i1 : Int)))] [(2, [.nilsl]), (5, [.ref 14 [] 0 a14_l3.length])] [(14, a14_l3.map implLink.enc)]
def i_DrainChain.O3 (v14 : implChain) (i1 : Nat) (o3 : (List implLink) × Int) : St :=
  lit [(2, .bptr 2 0), (5, .bptr 5 0), (6, .d (.int .i64 o3.2)), (17, .d (.int .i64 (v14.Links.length : Int))), (18, .d (.int .i64 (i1 : Int)))] [(2, [.nilsl]), (5, [.ref 14 [] 0 o3.1.length])] [(14, o3.1.map implLink.enc)]
def i_DrainChain.l1 : List implLink → Nat → (List implLink) → Int → Option ((List implLink) × Int)
  | [], i1, a14_l1, x6_l1 => some (a14_l1, x6_l1)
  | y1 :: ys, i1, a14_l1, x6_l1 => (i_DrainChain.l3 i1 big a14_l1 x6_l1).bind fun o3 => (i_DrainChain.l1 ys) (i1 + 1) o3.1 o3.2
def i_DrainChain.S1 (v14 : implChain) (i1 : Nat) (a14_l1 : (List implLink)) (x6_l1 : Int) : St :=
  lit [(2, .bptr 2 0), (5, .bptr 5 0), (6, .d (.int .i64 x6_l1)), (17, .d (.int .i64 (v14.Links.length : Int))), (18, .d (.int .i64 (i1 : Int)))] [(2, [.nilsl]), (5, [.ref 14 [] 0 a14_l1.length])] [(14, a14_l1.map implLink.enc)]
def i_DrainChain.O1 (o1 : (List implLink) × Int) : St :=
  lit [(2, .bptr 2 0), (5, .bptr 5 0), (6, .d (.int .i64 o1.2))] [(2, [.nilsl]), (5, [.ref 14 [] 0 o1.1.length])] [(14, o1.1.map implLink.enc)]
def i_DrainChain (p0 : implChain) : Option (implChain × Int × Bool) :=
  (i_GoodChain p0).bind fun v10 => if v10 = true then ((i_ownChain p0).bind fun v14 => (guardP ((v14.Links.length : Int) < 4611686018427387904)).bind fun _ => (i_DrainChain.l1 v14.Links 0 v14.Links 0).bind fun o1 => i_DrainChain.j4 o1.1 o1.2) else (some ((implChain.mk []), 0, false))
theorem i_DrainChain.ok (p0 : implChain) (r : implChain × Int × Bool) (h0 : i_DrainChain p0 = some r) : ACall Try.prog 9 [.agg [.d (.sl (p0.Links.map implLink.enc))]] [] [] (fun v ob oa na => v = .tup [.agg [.ref 0 [] 0 r.1.Links.length], .d (.int .i64 r.2.1), .d (.bool r.2.2)] ∧ ob = [] ∧ oa = [] ∧ na = [r.1.Links.map implLink.enc]) := by
  refine wFn_ok i_DrainChain.chk rfl ?_
  unfold i_DrainChain at h0
  refine And.intro rfl ?_
  refine And.intro rfl ?_
  refine ⟨lit [(1, .bptr 1 0), (2, .bptr 2 0)] [(1, [.d (.sl (p0.Links.map implLink.enc))]), (2, [.nilsl])] [], (le_lit (And.intro (ve rfl) (And.intro (ve rfl) trivial)) (And.intro ⟨_, rfl, (vel rfl)⟩ (And.intro ⟨_, rfl, (vel rfl)⟩ trivial)) trivial), ?_⟩
  obtain ⟨v10, ev10, h1⟩ := bind_some h0
  clear h0
  refine ⟨rfl, nod rfl, rfl, rfl, _, rfl, rfl, ?_⟩
  refine (i_GoodChain.ok p0 _ ev10).mono ?_
  rintro _ _ _ _ ⟨rfl, rfl, rfl, rfl⟩
  refine ⟨rfl, rfl, rfl, rfl, trivial, trivial, ?_⟩
  refine ⟨lit [(1, .bptr 1 0), (2, .bptr 2 0), (11, .d (.bool (!v10)))] [(1, [.d (.sl (p0.Links.map implLink.enc))]), (2, [.nilsl])] [], (le_lit (And.intro (ve rfl) (And.intro (ve rfl) (And.intro (ve rfl) trivial))) (And.intro ⟨_, rfl, (vel rfl)⟩ (And.intro ⟨_, rfl, (vel rfl)⟩ trivial)) trivial), ?_⟩
  by_cases c1 : v10 = true
  · have h2 := if_t c1 h1
    clear h1
    refine and_f (not_f c1) ?_
    refine ⟨lit [(1, .bptr 1 0), (2, .bptr 2 0)] [(1, [.d (.sl (p0.Links.map implLink.enc))]), (2, [.nilsl])] [], (le_lit (And.intro (ve rfl) (And.intro (ve rfl) trivial)) (And.intro ⟨_, rfl, (vel rfl)⟩ (And.intro ⟨_, rfl, (vel rfl)⟩ trivial)) trivial), ?_⟩
    obtain ⟨v14, ev14, h3⟩ := bind_some h2
    clear h2
    refine ⟨rfl, nod rfl, rfl, rfl, _, rfl, rfl, ?_⟩
    refine (i_ownChain.ok p0 _ ev14).mono ?_
    rintro _ _ _ _ ⟨rfl, rfl, rfl, rfl⟩
    refine ⟨rfl, rfl, rfl, rfl, trivial, trivial, ?_⟩
    refine And.intro rfl ?_
    refine And.intro rfl (And.intro rfl (And.intro (nle rfl) ?_))
    refine ⟨lit [(2, .bptr 2 0), (5, .bptr 5 0)] [(2, [.nilsl]), (5, [.ref 14 [] 0 v14.Links.length])] [(14, v14.Links.map implLink.enc)], (le_lit (And.intro (ve rfl) (And.intro (ve rfl) trivial)) (And.intro ⟨_, rfl, (vel rfl)⟩ (And.intro ⟨_, rfl, (vel rfl)⟩ trivial)) (And.intro rfl trivial)), ?_⟩
    refine ⟨lit [(2, .bptr 2 0), (5, .bptr 5 0), (6, .d (.int .i64 0))] [(2, [.nilsl]), (5, [.ref 14 [] 0 v14.Links.length])] [(14, v14.Links.map implLink.enc)], (le_lit (And.intro (ve rfl) (And.intro (ve rfl) (And.intro (ve rfl) trivial))) (And.intro ⟨_, rfl, (vel rfl)⟩ (And.intro ⟨_, rfl, (vel rfl)⟩ trivial)) (And.intro rfl trivial)), ?_⟩
    refine ⟨{ g : (List implLink) × Int // i_DrainChain.j4 g.1 g.2 = some r }, fun g => i_DrainChain.J4 g.1.1 g.1.2, ?_, ?_⟩
    · skip
      refine ⟨lit [(2, .bptr 2 0), (5, .bptr 5 0), (6, .d (.int .i64 0)), (17, .d (.int .i64 (v14.Links.length : Int))), (18, .d (.int .i64 0))] [(2, [.nilsl]), (5, [.ref 14 [] 0 v14.Links.length])] [(14, v14.Links.map implLink.enc)], (le_lit (And.intro (ve rfl) (And.intro (ve rfl) (And.intro (ve rfl) (And.intro (ve rfl) (And.intro (ve rfl) trivial))))) (And.intro ⟨_, rfl, (vel rfl)⟩ (And.intro ⟨_, rfl, (vel rfl)⟩ trivial)) (And.intro rfl trivial)), ?_⟩
      obtain ⟨_, g1, h4⟩ := bind_some h3
      have q1 := guardP_some g1
      clear h3 g1
      obtain ⟨o1, e1, h5⟩ := bind_some h4
      clear h4
      refine ⟨{ g : Nat × (List implLink) × Int // g.1 ≤ v14.Links.length ∧ i_DrainChain.l1 (v14.Links.drop g.1) g.1 g.2.1 g.2.2 = some o1 }, fun g => i_DrainChain.S1 v14 g.1.1 g.1.2.1 g.1.2.2, fun g => v14.Links.length - g.1.1, ⟨(0, v14.Links, 0), Nat.zero_le _, e1⟩, (le_lit (And.intro (ve rfl) (And.intro (ve rfl) (And.intro (ve rfl) (And.intro (ve rfl) (And.intro (ve rfl) trivial))))) (And.intro ⟨_, rfl, (vel rfl)⟩ (And.intro ⟨_, rfl, (vel rfl)⟩ trivial)) (And.intro rfl trivial)), ?_⟩
      rintro ⟨⟨i1, a14_l1, x6_l1⟩, le1, h6⟩
      change i_DrainChain.l1 (v14.Links.drop i1) i1 a14_l1 x6_l1 = some o1 at h6
      change wMC _ _ _ (i_DrainChain.S1 v14 i1 a14_l1 x6_l1)
      by_cases ci1 : i1 < v14.Links.length
      · obtain ⟨y1, ey1, di1⟩ := drop_cons ci1
        rw [di1, i_DrainChain.l1] at h6
        have ri1 := range_inR (Int.ofNat_lt.mpr ci1) q1
        refine And.intro rfl ?_
        refine and_t (decide_eq_true (Int.ofNat_lt.mpr ci1)) ?_
        refine ⟨lit [(2, .bptr 2 0), (5, .bptr 5 0), (6, .d (.int .i64 x6_l1)), (7, .d (.int .i64 (i1 : Int))), (17, .d (.int .i64 (v14.Links.length : Int))), (18, .d (.int .i64 (i1 : Int)))] [(2, [.nilsl]), (5, [.ref 14 [] 0 a14_l1.length])] [(14, a14_l1.map implLink.enc)], (le_lit (And.intro (ve rfl) (And.intro (ve rfl) (And.intro (ve rfl) (And.intro (ve rfl) (And.intro (ve rfl) (And.intro (ve rfl) trivial)))))) (And.intro ⟨_, rfl, (vel rfl)⟩ (And.intro ⟨_, rfl, (vel rfl)⟩ trivial)) (And.intro rfl trivial)), ?_⟩
        obtain ⟨o3, e3, h7⟩ := bind_some h6
        clear h6
        refine ⟨{ g : Nat × (List implLink) × Int // i_DrainChain.l3 i1 g.1 g.2.1 g.2.2 = some o3 }, fun g => i_DrainChain.S3 v14 i1 g.1.2.1 g.1.2.2, fun g => g.1.1, ⟨(big, a14_l1, x6_l1), e3⟩, (le_lit (And.intro (ve rfl) (And.intro (ve rfl) (And.intro (ve rfl) (And.intro (ve rfl) (And.intro (ve rfl) (And.intro (ve rfl) trivial)))))) (And.intro ⟨_, rfl, (vel rfl)⟩ (And.intro ⟨_, rfl, (vel rfl)⟩ trivial)) (And.intro rfl trivial)), ?_⟩
        rintro ⟨⟨k3, a14_l3, x6_l3⟩, h8⟩
        change i_DrainChain.l3 i1 k3 a14_l3 x6_l3 = some o3 at h8
        change wMC _ _ _ (i_DrainChain.S3 v14 i1 a14_l3 x6_l3)
        cases k3 with
        | zero => rw [i_DrainChain.l3] at h8; cases h8
        | succ k3 =>
          rw [i_DrainChain.l3] at h8
          obtain ⟨v23, ev23, h9⟩ := bind_some h8
          clear h8
          refine ⟨rfl, nod rfl, rfl, rfl, _, rfl, rfl, ?_⟩
          refine ⟨_, rfl, ?_⟩
          refine (i_Chain_pass.ok (implChain.mk a14_l3) (i1 : Int) _ ev23).mono ?_
          rintro _ _ _ _ ⟨rfl, rfl, rfl, rfl⟩
          refine ⟨rfl, rfl, rfl, rfl, trivial, (map_len_map (i_Chain_pass.len (implChain.mk a14_l3) (i1 : Int) _ ev23)), ?_⟩
          refine ⟨lit [(2, .bptr 2 0), (5, .bptr 5 0), (6, .d (.int .i64 x6_l3)), (7, .d (.int .i64 (i1 : Int))), (17, .d (.int .i64 (v14.Links.length : Int))), (18, .d (.int .i64 (i1 : Int))), (23, .d (.bool v23.1))] [(2, [.nilsl]), (5, [.ref 14 [] 0 v23.2.length])] [(14, v23.2.map implLink.enc)], (le_lit (And.intro (ve rfl) (And.intro (ve rfl) (And.intro (ve rfl) (And.intro (ve rfl) (And.intro (ve rfl) (And.intro (ve rfl) (And.intro (ve rfl) trivial))))))) (And.intro ⟨_, rfl, (vel rfl)⟩ (And.intro ⟨_, rfl, (And.intro (ve (congrArg (V.ref 14 [] 0) (i_Chain_pass.len (implChain.mk a14_l3) (i1 : Int) _ ev23).symm)) trivial)⟩ trivial)) (And.intro rfl trivial)), ?_⟩
          by_cases c7 : v23.1 = true
          · have h10 := if_t c7 h9
            clear h9
            refine and_t c7 ?_
            refine ⟨lit [(2, .bptr 2 0), (5, .bptr 5 0), (6, .d (.int .i64 x6_l3)), (7, .d (.int .i64 (i1 : Int))), (17, .d (.int .i64 (v14.Links.length : Int))), (18, .d (.int .i64 (i1 : Int)))] [(2, [.nilsl]), (5, [.ref 14 [] 0 v23.2.length])] [(14, v23.2.map implLink.enc)], (le_lit (And.intro (ve rfl) (And.intro (ve rfl) (And.intro (ve rfl) (And.intro (ve rfl) (And.intro (ve rfl) (And.intro (ve rfl) trivial)))))) (And.intro ⟨_, rfl, (vel rfl)⟩ (And.intro ⟨_, rfl, (vel rfl)⟩ trivial)) (And.intro rfl trivial)), ?_⟩
            obtain ⟨v25, ev25, h11⟩ := bind_some h10
            clear h10
            obtain ⟨ev25, rv25⟩ := ckK_some ev25
            refine And.intro rfl ?_
            refine ⟨v25, ev25, fun _ => rv25, ?_⟩
            exact ⟨⟨(k3, _, _), h11⟩, (le_lit (And.intro (ve rfl) (And.intro (ve rfl) (And.intro (ve rfl) (And.intro (ve rfl) (And.intro (ve rfl) (And.intro (ve rfl) trivial)))))) (And.intro ⟨_, rfl, (vel rfl)⟩ (And.intro ⟨_, rfl, (vel rfl)⟩ trivial)) (And.intro rfl trivial)), Nat.lt_succ_self _⟩
          · have h12 := if_f c7 h9
            clear h9
            refine and_f (ne_t c7) ?_
            cases h12
            refine And.intro rfl ?_
            refine ⟨((i1 + 1 : Nat) : Int), rfl, fun _ => ri1, ?_⟩
            exact ⟨⟨(i1 + 1, _, _), ci1, h7⟩, (le_lit (And.intro (ve rfl) (And.intro (ve rfl) (And.intro (ve rfl) (And.intro (ve rfl) (And.intro (ve rfl) trivial))))) (And.intro ⟨_, rfl, (vel rfl)⟩ (And.intro ⟨_, rfl, (vel rfl)⟩ trivial)) (And.intro rfl trivial)), Nat.sub_lt_sub_left ci1 (Nat.lt_succ_self _)⟩
      · rw [drop_nil ci1, i_DrainChain.l1] at h6
        refine And.intro rfl ?_
        refine and_f (decide_eq_false (fun hh => ci1 (Int.ofNat_lt.mp hh))) ?_
        cases h6
        exact ⟨⟨(_, _), h5⟩, (le_lit (And.intro (ve rfl) (And.intro (ve rfl) (And.intro (ve rfl) trivial))) (And.intro ⟨_, rfl, (vel rfl)⟩ (And.intro ⟨_, rfl, (vel rfl)⟩ trivial)) (And.intro rfl trivial))⟩
    · rintro ⟨⟨a14_4, x6_4⟩, h13⟩
      change i_DrainChain.j4 a14_4 x6_4 = some r at h13
      change wMC _ _ _ (i_DrainChain.J4 a14_4 x6_4)
      unfold i_DrainChain.j4 at h13
      clear h3
      refine ⟨{ g : (List implLink) × Int // i_DrainChain.j8 g.1 g.2 = some r }, fun g => i_DrainChain.J8 g.1.1 g.1.2, ?_, ?_⟩
      · skip
        obtain ⟨v30, ev30, h14⟩ := bind_some h13
        clear h13
        obtain ⟨ev30, rv30⟩ := ckK_some ev30
        refine And.intro rfl ?_
        refine ⟨v30, ev30, fun _ => rv30, ?_⟩
        refine ⟨lit [(2, .bptr 2 0), (5, .bptr 5 0), (6, .d (.int .i64 x6_4)), (8, .d (.int .i64 v30))] [(2, [.nilsl]), (5, [.ref 14 [] 0 a14_4.length])] [(14, a14_4.map implLink.enc)], (le_lit (And.intro (ve rfl) (And.intro (ve rfl) (And.intro (ve rfl) (And.intro (ve rfl) trivial)))) (And.intro ⟨_, rfl, (vel rfl)⟩ (And.intro ⟨_, rfl, (vel rfl)⟩ trivial)) (And.intro rfl trivial)), ?_⟩
        obtain ⟨o5, e5, h15⟩ := bind_some h14
        clear h14
        refine ⟨{ g : Nat × (List implLink) × Int × Int // i_DrainChain.l5 g.1 g.2.1 g.2.2.1 g.2.2.2 = some o5 }, fun g => i_DrainChain.S5 g.1.2.1 g.1.2.2.1 g.1.2.2.2, fun g => g.1.1, ⟨(big, a14_4, x6_4, v30), e5⟩, (le_lit (And.intro (ve rfl) (And.intro (ve rfl) (And.intro (ve rfl) (And.intro (ve rfl) trivial)))) (And.intro ⟨_, rfl, (vel rfl)⟩ (And.intro ⟨_, rfl, (vel rfl)⟩ trivial)) (And.intro rfl trivial)), ?_⟩
        rintro ⟨⟨k5, a14_l5, x6_l5, x8_l5⟩, h16⟩
        change i_DrainChain.l5 k5 a14_l5 x6_l5 x8_l5 = some o5 at h16
        change wMC _ _ _ (i_DrainChain.S5 a14_l5 x6_l5 x8_l5)
        cases k5 with
        | zero => rw [i_DrainChain.l5] at h16; cases h16
        | succ k5 =>
          rw [i_DrainChain.l5] at h16
          refine And.intro rfl ?_
          refine ⟨lit [(2, .bptr 2 0), (5, .bptr 5 0), (6, .d (.int .i64 x6_l5)), (8, .d (.int .i64 x8_l5)), (32, .d (.bool (decide (0 ≤ x8_l5))))] [(2, [.nilsl]), (5, [.ref 14 [] 0 a14_l5.length])] [(14, a14_l5.map implLink.enc)], (le_lit (And.intro (ve rfl) (And.intro (ve rfl) (And.intro (ve rfl) (And.intro (ve rfl) (And.intro (ve rfl) trivial))))) (And.intro ⟨_, rfl, (vel rfl)⟩ (And.intro ⟨_, rfl, (vel rfl)⟩ trivial)) (And.intro rfl trivial)), ?_⟩
          by_cases c10 : 0 ≤ x8_l5
          · have h17 := if_t c10 h16
            clear h16
            refine and_t (decide_eq_true c10) ?_
            refine ⟨lit [(2, .bptr 2 0), (5, .bptr 5 0), (6, .d (.int .i64 x6_l5)), (8, .d (.int .i64 x8_l5))] [(2, [.nilsl]), (5, [.ref 14 [] 0 a14_l5.length])] [(14, a14_l5.map implLink.enc)], (le_lit (And.intro (ve rfl) (And.intro (ve rfl) (And.intro (ve rfl) (And.intro (ve rfl) trivial)))) (And.intro ⟨_, rfl, (vel rfl)⟩ (And.intro ⟨_, rfl, (vel rfl)⟩ trivial)) (And.intro rfl trivial)), ?_⟩
            refine ⟨{ g : (List implLink) × Int // i_DrainChain.j7 x8_l5 (i_DrainChain.l5 k5) g.1 g.2 = some o5 }, fun g => i_DrainChain.J7 x8_l5 g.1.1 g.1.2, ?_, ?_⟩
            · skip
              obtain ⟨v37, ev37, h18⟩ := bind_some h17
              clear h17
              refine ⟨rfl, nod rfl, rfl, rfl, _, rfl, rfl, ?_⟩
              refine ⟨_, rfl, ?_⟩
              refine (i_Chain_back.ok (implChain.mk a14_l5) x8_l5 _ ev37).mono ?_
              rintro _ _ _ _ ⟨rfl, rfl, rfl, rfl⟩
              refine ⟨rfl, rfl, rfl, rfl, trivial, (map_len_map (i_Chain_back.len (implChain.mk a14_l5) x8_l5 _ ev37)), ?_⟩
              refine ⟨lit [(2, .bptr 2 0), (5, .bptr 5 0), (6, .d (.int .i64 x6_l5)), (8, .d (.int .i64 x8_l5)), (37, .d (.bool v37.1))] [(2, [.nilsl]), (5, [.ref 14 [] 0 v37.2.length])] [(14, v37.2.map implLink.enc)], (le_lit (And.intro (ve rfl) (And.intro (ve rfl) (And.intro (ve rfl) (And.intro (ve rfl) (And.intro (ve rfl) trivial))))) (And.intro ⟨_, rfl, (vel rfl)⟩ (And.intro ⟨_, rfl, (And.intro (ve (congrArg (V.ref 14 [] 0) (i_Chain_back.len (implChain.mk a14_l5) x8_l5 _ ev37).symm)) trivial)⟩ trivial)) (And.intro rfl trivial)), ?_⟩
              by_cases c11 : v37.1 = true
              · have h19 := if_t c11 h18
                clear h18
                refine and_t c11 ?_
                obtain ⟨v39, ev39, h20⟩ := bind_some h19
                clear h19
                obtain ⟨ev39, rv39⟩ := ckK_some ev39
                refine And.intro rfl ?_
                refine ⟨v39, ev39, fun _ => rv39, ?_⟩
                exact ⟨⟨(_, _), h20⟩, (le_lit (And.intro (ve rfl) (And.intro (ve rfl) (And.intro (ve rfl) (And.intro (ve rfl) trivial)))) (And.intro ⟨_, rfl, (vel rfl)⟩ (And.intro ⟨_, rfl, (vel rfl)⟩ trivial)) (And.intro rfl trivial))⟩
              · have h21 := if_f c11 h18
                clear h18
                refine and_f (ne_t c11) ?_
                exact ⟨⟨(_, _), h21⟩, (le_lit (And.intro (ve rfl) (And.intro (ve rfl) (And.intro (ve rfl) (And.intro (ve rfl) trivial)))) (And.intro ⟨_, rfl, (vel rfl)⟩ (And.intro ⟨_, rfl, (vel rfl)⟩ trivial)) (And.intro rfl trivial))⟩
            · rintro ⟨⟨a14_7, x6_7⟩, h22⟩
              change i_DrainChain.j7 x8_l5 (i_DrainChain.l5 k5) a14_7 x6_7 = some o5 at h22
              change wMC _ _ _ (i_DrainChain.J7 x8_l5 a14_7 x6_7)
              unfold i_DrainChain.j7 at h22
              clear h17
              obtain ⟨v34, ev34, h23⟩ := bind_some h22
              clear h22
              obtain ⟨ev34, rv34⟩ := ckK_some ev34
              refine And.intro rfl ?_
              refine ⟨v34, ev34, fun _ => rv34, ?_⟩
              exact ⟨⟨(k5, _, _, _), h23⟩, (le_lit (And.intro (ve rfl) (And.intro (ve rfl) (And.intro (ve rfl) (And.intro (ve rfl) trivial)))) (And.intro ⟨_, rfl, (vel rfl)⟩ (And.intro ⟨_, rfl, (vel rfl)⟩ trivial)) (And.intro rfl trivial)), Nat.lt_succ_self _⟩
          · have h24 := if_f c10 h16
            clear h16
            refine and_f (decide_eq_false c10) ?_
            cases h24
            exact ⟨⟨(_, _), h15⟩, (le_lit (And.intro (ve rfl) (And.intro (ve rfl) (And.intro (ve rfl) trivial))) (And.intro ⟨_, rfl, (vel rfl)⟩ (And.intro ⟨_, rfl, (vel rfl)⟩ trivial)) (And.intro rfl trivial))⟩
      · rintro ⟨⟨a14_8, x6_8⟩, h25⟩
        change i_DrainChain.j8 a14_8 x6_8 = some r at h25
        change wMC _ _ _ (i_DrainChain.J8 a14_8 x6_8)
        unfold i_DrainChain.j8 at h25
        clear h13
        refine And.intro rfl (And.intro rfl (And.intro (nle rfl) ?_))
        refine And.intro rfl ?_
        cases h25
        exact ⟨[14], nod rfl, all_lt rfl, blt_lt rfl, _, _, rfl, rfl, rfl, rfl, rfl, rfl⟩
  · have h26 := if_f c1 h1
    clear h1
    refine and_t (not_t (ne_t c1)) ?_
    refine And.intro rfl (And.intro rfl (And.intro (nle rfl) ?_))
    refine And.intro rfl ?_
    cases h26
    exact ⟨[9000], nod rfl, all_lt rfl, blt_lt rfl, _, _, rfl, rfl, rfl, rfl, rfl, rfl⟩
end Go.Vm
end
section
set_option maxRecDepth 4000
set_option maxHeartbeats 1000000
namespace Go.Vm
open Go.Proofs
/- loop.example/g00300/spec.l15Own -/
def s_l15Own.code : MC :=
 (.seq
  (.keep [1, 2] (.reg [⟨(some 1), none, .box (.t 0)⟩, ⟨(some 2), none, .box (.v (.agg [.nilsl]))⟩]))
  (.norm (.seq
   (.keep [1, 2, 3] (.reg [⟨(some 3), none, .mov (.v (.nilsl))⟩]))
   (.norm (.cut
    (.seq
     (.keep [2, 3, 7, 8, 9] (.reg [⟨(some 6), none, .fld 0 (.t 1)⟩, ⟨(some 7), none, .load false 1 (.t 6)⟩, ⟨(some 8), none, .len (.t 7)⟩, ⟨(some 9), none, .mov (.v (.d (.int .i64 0)))⟩]))
     (.norm (.adoptT 3 7100 (.block 0
      (.loop
       (.seq
        (.keep [2, 3, 7, 8, 9, 10] (.reg [⟨(some 10), none, .bin true .lss (.t 9) (.t 8)⟩]))
        (.seq
         (.cond (.t 10)
          .skip
          (.exit 0))
         (.seq
          (.block 1
           (.seq
            (.keep [2, 3, 5, 7, 8, 9] (.reg [⟨(some 11), none, .idx 3 (.t 7) (.t 9)⟩, ⟨(some 12), none, .load true 3 (.t 11)⟩, ⟨(some 5), none, .box (.v (.agg [.nilsl, .d (.int .i64 0), .d (.int .i64 0)]))⟩, ⟨none, none, .store 3 (.t 5) (.t 12)⟩]))
            (.norm (.seq
             (.keep [2, 3, 5, 7, 8, 9] (.reg [⟨(some 13), none, .mkrow 13 1 []⟩, ⟨(some 14), none, .fld 0 (.t 5)⟩, ⟨(some 15), none, .load false 1 (.t 14)⟩, ⟨(some 16), none, .app 16 false 1 16 (.t 13) (.t 15)⟩, ⟨(some 17), none, .fld 0 (.t 5)⟩, ⟨none, none, .store 1 (.t 17) (.t 16)⟩]))
             (.norm (.keep [2, 3, 7, 8, 9] (.reg [⟨(some 18), none, .mov (.t 3)⟩, ⟨(some 19), none, .load true 3 (.t 5)⟩, ⟨(some 20), none, .mkrow 20 3 [.t 19]⟩, ⟨(some 21), none, .app 21 true 3 40 (.t 18) (.t 20)⟩, ⟨(some 3), none, .mov (.t 21)⟩])))))))
          (.keep [2, 3, 7, 8, 9] (.reg [⟨(some 22), none, .bin true .add (.t 9) (.v (.d (.int .i64 1)))⟩, ⟨(some 9), none, .mov (.t 22)⟩]))))))))))
    (.seq
     (.keep [2] (.reg [⟨(some 23), none, .mov (.t 3)⟩, ⟨(some 24), none, .build [.nilsl] [(0, 1, .t 23)]⟩, ⟨none, none, .store 1 (.t 2) (.t 24)⟩]))
     (.adopt 2 0 9000 .ret)))))))
theorem s_l15Own.chk : chkFn Try.prog 42 1 s_l15Own.code [.cell true 1 2] = true := by kernel_rfl
def s_l15Own.j2 (a7100_2 : (List implLink)) : Option implChain :=
  some (implChain.mk a7100_2)
def s_l15Own.J2 (a7100_2 : (List implLink)) : St :=
  lit [(2, .bptr 2 0), (3, .ref 7100 [] 0 a7100_2.length)] [(2, [.nilsl])] [(7100, a7100_2.map implLink.enc)]
def s_l15Own.l1 : List implLink → Nat → (List implLink) → Option (List implLink)
  | [], i1, a7100_l1 => some a7100_l1
  | y1 :: ys, i1, a7100_l1 => (appB 16 ([] : List (List UInt8)) y1.Log).bind fun v16 => (appB 40 a7100_l1 [(implLink.mk v16 y1.Sent y1.Sure)]).bind fun v21 => (s_l15Own.l1 ys) (i1 + 1) v21
def s_l15Own.S1 (p0 : implChain) (i1 : Nat) (a7100_l1 : (List implLink)) : St :=
  lit [(2, .bptr 2 0), (3, .ref 7100 [] 0 a7100_l1.length), (7, .d (.sl (p0.Links.map implLink.enc))), (8, .d (.int .i64 (p0.Links.length : Int))), (9, .d (.int .i64 (i1 : Int)))] [(2, [.nilsl])] [(7100, a7100_l1.map implLink.enc)]
def s_l15Own.O1 (o1 : (List implLink)) : St :=
  lit [(2, .bptr 2 0), (3, .ref 7100 [] 0 o1.length)] [(2, [.nilsl])] [(7100, o1.map implLink.enc)]
def s_l15Own (p0 : implChain) : Option (implChain) :=
  (guardP ((p0.Links.length : Int) < 4611686018427387904)).bind fun _ => (s_l15Own.l1 p0.Links 0 ([] : List implLink)).bind fun o1 => s_l15Own.j2 o1
theorem s_l15Own.ok (p0 : implChain) (r : implChain) (h0 : s_l15Own p0 = some r) : ACall Try.prog 42 [.agg [.d (.sl (p0.Links.map implLink.enc))]] [] [] (fun v ob oa na => v = .agg [.ref 0 [] 0 r.Links.length] ∧ ob = [] ∧ oa = [] ∧ na = [r.Links.map implLink.enc]) := by
  refine wFn_ok s_l15Own.chk rfl ?_
  unfold s_l15Own at h0
  refine And.intro rfl ?_
  refine And.intro rfl ?_
  refine ⟨lit [(1, .bptr 1 0), (2, .bptr 2 0)] [(1, [.d (.sl (p0.Links.map implLink.enc))]), (2, [.nilsl])] [], (le_lit (And.intro (ve rfl) (And.intro (ve rfl) trivial)) (And.intro ⟨_, rfl, (vel rfl)⟩ (And.intro ⟨_, rfl, (vel rfl)⟩ trivial)) trivial), ?_⟩
  refine ⟨lit [(1, .bptr 1 0), (2, .bptr 2 0), (3, .nilsl)] [(1, [.d (.sl (p0.Links.map implLink.enc))]), (2, [.nilsl])] [], (le_lit (And.intro (ve rfl) (And.intro (ve rfl) (And.intro (ve rfl) trivial))) (And.intro ⟨_, rfl, (vel rfl)⟩ (And.intro ⟨_, rfl, (vel rfl)⟩ trivial)) trivial), ?_⟩
  refine ⟨{ g : (List implLink) // s_l15Own.j2 g = some r }, fun g => s_l15Own.J2 g.1, ?_, ?_⟩
  · skip
    refine ⟨_, map_len _, ?_⟩
    refine ⟨lit [(2, .bptr 2 0), (3, .nilsl), (7, .d (.sl (p0.Links.map implLink.enc))), (8, .d (.int .i64 (p0.Links.length : Int))), (9, .d (.int .i64 0))] [(2, [.nilsl])] [], (le_lit (And.intro (ve rfl) (And.intro (ve rfl) (And.intro (ve rfl) (And.intro (ve rfl) (And.intro (ve rfl) trivial))))) (And.intro ⟨_, rfl, (vel rfl)⟩ trivial) trivial), ?_⟩
    refine And.intro rfl ?_
    obtain ⟨_, g1, h1⟩ := bind_some h0
    have q1 := guardP_some g1
    clear h0 g1
    obtain ⟨o1, e1, h2⟩ := bind_some h1
    clear h1
    refine ⟨{ g : Nat × (List implLink) // g.1 ≤ p0.Links.length ∧ s_l15Own.l1 (p0.Links.drop g.1) g.1 g.2 = some o1 }, fun g => s_l15Own.S1 p0 g.1.1 g.1.2, fun g => p0.Links.length - g.1.1, ⟨(0, ([] : List implLink)), Nat.zero_le _, e1⟩, (le_lit (And.intro (ve rfl) (And.intro (ve rfl) (And.intro (ve rfl) (And.intro (ve rfl) (And.intro (ve rfl) trivial))))) (And.intro ⟨_, rfl, (vel rfl)⟩ trivial) (And.intro rfl trivial)), ?_⟩
    rintro ⟨⟨i1, a7100_l1⟩, le1, h3⟩
    change s_l15Own.l1 (p0.Links.drop i1) i1 a7100_l1 = some o1 at h3
    change wMC _ _ _ (s_l15Own.S1 p0 i1 a7100_l1)
    by_cases ci1 : i1 < p0.Links.length
    · obtain ⟨y1, ey1, di1⟩ := drop_cons ci1
      rw [di1, s_l15Own.l1] at h3
      have ri1 := range_inR (Int.ofNat_lt.mpr ci1) q1
      refine And.intro rfl ?_
      refine and_t (decide_eq_true (Int.ofNat_lt.mpr ci1)) ?_
      refine And.intro (Int.natCast_nonneg _) ⟨_, map_get ey1, rfl, ?_⟩
      refine And.intro rfl ?_
      refine And.intro rfl (And.intro rfl (And.intro (nle rfl) ?_))
      refine ⟨lit [(2, .bptr 2 0), (3, .ref 7100 [] 0 a7100_l1.length), (5, .bptr 5 0), (7, .d (.sl (p0.Links.map implLink.enc))), (8, .d (.int .i64 (p0.Links.length : Int))), (9, .d (.int .i64 (i1 : Int)))] [(2, [.nilsl]), (5, [.d (.sl (y1.Log.map encS)), .d (.int .i64 y1.Sent), .d (.int .i64 y1.Sure)])] [(7100, a7100_l1.map implLink.enc)], (le_lit (And.intro (ve rfl) (And.intro (ve rfl) (And.intro (ve rfl) (And.intro (ve rfl) (And.intro (ve rfl) (And.intro (ve rfl) trivial)))))) (And.intro ⟨_, rfl, (vel rfl)⟩ (And.intro ⟨_, rfl, (vel rfl)⟩ trivial)) (And.intro rfl trivial)), ?_⟩
      refine And.intro (nod rfl) (And.intro rfl ?_)
      obtain ⟨v16, ev16, h4⟩ := bind_some h3
      clear h3
      obtain ⟨ev16, fv16⟩ := appB_some ev16
      refine And.intro (all_flat (fun _ => rfl) _) ?_
      refine And.intro rfl ⟨_, _, _, rfl, rfl, (app_fit (f := encS) fv16), (all_len (f := encS) (fun _ => rfl) ([] : List (List UInt8))), (all_len (f := encS) (fun _ => rfl) y1.Log), rfl, map_app (f := encS) ev16, (app_len (f := encS) ev16), ?_⟩
      refine And.intro rfl (And.intro rfl (And.intro (nle rfl) ?_))
      refine ⟨lit [(2, .bptr 2 0), (3, .ref 7100 [] 0 a7100_l1.length), (5, .bptr 5 0), (7, .d (.sl (p0.Links.map implLink.enc))), (8, .d (.int .i64 (p0.Links.length : Int))), (9, .d (.int .i64 (i1 : Int)))] [(2, [.nilsl]), (5, [.ref 13 [] 0 v16.length, .d (.int .i64 y1.Sent), .d (.int .i64 y1.Sure)])] [(13, v16.map encS), (7100, a7100_l1.map implLink.enc)], (le_lit (And.intro (ve rfl) (And.intro (ve rfl) (And.intro (ve rfl) (And.intro (ve rfl) (And.intro (ve rfl) (And.intro (ve rfl) trivial)))))) (And.intro ⟨_, rfl, (vel rfl)⟩ (And.intro ⟨_, rfl, (vel rfl)⟩ trivial)) (And.intro rfl (And.intro rfl trivial))), ?_⟩
      refine And.intro (map_len _) ?_
      refine And.intro rfl ?_
      refine And.intro rfl ?_
      refine And.intro rfl ?_
      refine And.intro (nod rfl) (And.intro rfl ?_)
      obtain ⟨v21, ev21, h5⟩ := bind_some h4
      clear h4
      obtain ⟨ev21, fv21⟩ := appB_some ev21
      refine ⟨_, rfl, rfl, rfl, rfl, ?_⟩
      refine And.intro rfl ⟨_, _, _, rfl, (map_len _), (app_fit (f := implLink.enc) fv21), (all_len (f := implLink.enc) (fun _ => rfl) a7100_l1), (all_len (f := implLink.enc) (fun _ => rfl) [(implLink.mk v16 y1.Sent y1.Sure)]), rfl, map_app (f := implLink.enc) ev21, (app_len (f := implLink.enc) ev21), ?_⟩
      refine And.intro rfl ?_
      refine ⟨((i1 + 1 : Nat) : Int), rfl, fun _ => ri1, ?_⟩
      exact ⟨⟨(i1 + 1, _), ci1, h5⟩, (le_lit (And.intro (ve rfl) (And.intro (ve rfl) (And.intro (ve rfl) (And.intro (ve rfl) (And.intro (ve rfl) trivial))))) (And.intro ⟨_, rfl, (vel rfl)⟩ trivial) (And.intro rfl trivial)), Nat.sub_lt_sub_left ci1 (Nat.lt_succ_self _)⟩
    · rw [drop_nil ci1, s_l15Own.l1] at h3
      refine And.intro rfl ?_
      refine and_f (decide_eq_false (fun hh => ci1 (Int.ofNat_lt.mp hh))) ?_
      cases h3
      exact ⟨⟨_, h2⟩, (le_lit (And.intro (ve rfl) (And.intro (ve rfl) trivial)) (And.intro ⟨_, rfl, (vel rfl)⟩ trivial) (And.intro rfl trivial))⟩
  · rintro ⟨a7100_2, h6⟩
    change s_l15Own.j2 a7100_2 = some r at h6
    change wMC _ _ _ (s_l15Own.J2 a7100_2)
    unfold s_l15Own.j2 at h6
    clear h0
    refine And.intro rfl (And.intro rfl (And.intro (nle rfl) ?_))
    refine And.intro rfl (And.intro rfl (And.intro (nle rfl) ?_))
    refine And.intro rfl ?_
    cases h6
    exact ⟨[7100], nod rfl, all_lt rfl, blt_lt rfl, _, _, rfl, rfl, rfl, rfl, rfl, rfl⟩
end Go.Vm
end
section
set_option maxRecDepth 4000
set_option maxHeartbeats 1000000
namespace Go.Vm
open Go.Proofs
/- loop.example/g00300/spec.l15Tail -/
def s_l15Tail_al.code : MC :=
 (.seq
  (.keep [1, 2] (.reg [⟨(some 1), none, .box (.t 0)⟩, ⟨(some 2), none, .box (.v (.agg [.nilsl]))⟩]))
  (.norm (.seq
   (.keep [1, 2, 3] (.reg [⟨(some 4), none, .fld 0 (.t 1)⟩, ⟨(some 5), none, .load false 1 (.t 4)⟩, ⟨(some 6), none, .len (.t 5)⟩, ⟨(some 7), none, .bin true .sub (.t 6) (.v (.d (.int .i64 1)))⟩, ⟨(some 3), none, .mov (.t 7)⟩]))
   (.norm (.seq
    (.keep [1, 2, 3] (.reg [⟨(some 8), none, .fld 0 (.t 1)⟩, ⟨(some 9), none, .load false 1 (.t 8)⟩, ⟨(some 10), none, .mov (.t 3)⟩, ⟨(some 11), none, .idx 3 (.t 9) (.t 10)⟩, ⟨(some 12), none, .fld 1 (.t 11)⟩, ⟨none, none, .store 1 (.t 12) (.v (.d (.int .i64 0)))⟩]))
    (.norm (.seq
     (.keep [1, 2] (.draw (.take 0 ⟨(some 13), none, .fld 0 (.t 1)⟩ (.take 1 ⟨(some 14), none, .load false 1 (.t 13)⟩ (.take 2 ⟨(some 15), none, .mov (.t 3)⟩ (.take 3 ⟨(some 16), none, .fld 0 (.t 1)⟩ (.take 4 ⟨(some 17), none, .load false 1 (.t 16)⟩ (.take 5 ⟨(some 18), none, .mov (.t 3)⟩ (.take 6 ⟨(some 19), none, .idx 3 (.t 17) (.t 18)⟩ (.take 7 ⟨(some 20), none, .fld 0 (.t 19)⟩ (.take 8 ⟨(some 21), none, .load false 1 (.t 20)⟩ (.nrm (.take 9 ⟨(some 22), none, .len (.t 21)⟩ (.take 10 ⟨(some 23), none, .idx 3 (.t 14) (.t 15)⟩ (.take 11 ⟨(some 24), none, .fld 2 (.t 23)⟩ (.fork 12 ⟨none, none, .store 1 (.t 24) (.t 22)⟩ [] .done .nofork))))))))))))))))
     (.norm (.seq
      (.keep [2] (.reg [⟨(some 25), none, .load true 1 (.t 1)⟩, ⟨none, none, .store 1 (.t 2) (.t 25)⟩]))
      (.adopt 2 0 9000 .ret))))))))))
theorem s_l15Tail_al.chk : chkFn Try.prog 64 1 s_l15Tail_al.code [.cell true 1 2] = true := by kernel_rfl
def s_l15Tail_al (p0 : implChain) : Option (implChain) :=
  (ckK .i64 ((p0.Links.length : Int) - 1)).bind fun v7 => (ix p0.Links v7).bind fun xv11 => (setN p0.Links v7.toNat (implLink.mk xv11.Log 0 xv11.Sure)).bind fun s2 => (ix s2 v7).bind fun xv19 => (setN s2 v7.toNat (implLink.mk xv19.Log xv19.Sent (xv19.Log.length : Int))).bind fun s4 => some (implChain.mk s4)
theorem s_l15Tail_al.len (p0 : implChain) (r : implChain) (h : s_l15Tail_al p0 = some r) : r.Links.length = p0.Links.length := by
  unfold s_l15Tail_al at h
  obtain ⟨v1, e1, h⟩ := bind_some h
  obtain ⟨v2, e2, h⟩ := bind_some h
  obtain ⟨v3, e3, h⟩ := bind_some h
  obtain ⟨v4, e4, h⟩ := bind_some h
  obtain ⟨v5, e5, h⟩ := bind_some h
  cases h
  show v5.length = _
  rw [← (setN_some e5).2, ← (setN_some e3).2]
theorem s_l15Tail_al.ok (p0 : implChain) (r : implChain) (h0 : s_l15Tail_al p0 = some r) : ACall Try.prog 64 [.agg [.ref 10000 [] 0 p0.Links.length]] [] [p0.Links.map implLink.enc] (fun v ob oa na => v = .agg [.ref 10000 [] 0 r.Links.length] ∧ ob = [] ∧ oa = [some (r.Links.map implLink.enc)] ∧ na = []) := by
  refine wFn_ok s_l15Tail_al.chk rfl ?_
  unfold s_l15Tail_al at h0
  refine And.intro rfl ?_
  refine And.intro rfl ?_
  refine ⟨lit [(1, .bptr 1 0), (2, .bptr 2 0)] [(1, [.ref 10000 [] 0 p0.Links.length]), (2, [.nilsl])] [(10000, p0.Links.map implLink.enc)], (le_lit (And.intro (ve rfl) (And.intro (ve rfl) trivial)) (And.intro ⟨_, rfl, (vel rfl)⟩ (And.intro ⟨_, rfl, (vel rfl)⟩ trivial)) (And.intro rfl trivial)), ?_⟩
  obtain ⟨v7, ev7, h1⟩ := bind_some h0
  clear h0
  obtain ⟨ev7, rv7⟩ := ckK_some ev7
  refine And.intro rfl ?_
  refine ⟨v7, ev7, fun _ => rv7, ?_⟩
  refine ⟨lit [(1, .bptr 1 0), (2, .bptr 2 0), (3, .d (.int .i64 v7))] [(1, [.ref 10000 [] 0 p0.Links.length]), (2, [.nilsl])] [(10000, p0.Links.map implLink.enc)], (le_lit (And.intro (ve rfl) (And.intro (ve rfl) (And.intro (ve rfl) trivial))) (And.intro ⟨_, rfl, (vel rfl)⟩ (And.intro ⟨_, rfl, (vel rfl)⟩ trivial)) (And.intro rfl trivial)), ?_⟩
  obtain ⟨xv11, exv11, h2⟩ := bind_some h1
  clear h1
  obtain ⟨av11, exv11⟩ := ix_some exv11
  refine And.intro av11 ⟨_, _, rfl, (get_lt exv11), map_get exv11, rfl, ?_⟩
  obtain ⟨s2, es2, h3⟩ := bind_some h2
  clear h2
  obtain ⟨es2, ls2⟩ := setN_some es2
  refine ⟨_, _, rfl, map_get exv11, ?_⟩
  refine And.intro rfl ?_
  refine And.intro rfl (And.intro (nod rfl) (And.intro (nle rfl) (And.intro rfl ⟨_, (map_set (f := implLink.enc) es2 rfl), ?_⟩)))
  refine ⟨lit [(1, .bptr 1 0), (2, .bptr 2 0), (3, .d (.int .i64 v7))] [(1, [.ref 10000 [] 0 s2.length]), (2, [.nilsl])] [(10000, s2.map implLink.enc)], (le_lit (And.intro (ve rfl) (And.intro (ve rfl) (And.intro (ve rfl) trivial))) (And.intro ⟨_, rfl, (And.intro (ve (congrArg (V.ref 10000 [] 0) ls2)) trivial)⟩ (And.intro ⟨_, rfl, (vel rfl)⟩ trivial)) (And.intro rfl trivial)), ?_⟩
  obtain ⟨xv19, exv19, h4⟩ := bind_some h3
  clear h3
  obtain ⟨av19, exv19⟩ := ix_some exv19
  refine And.intro av19 ⟨_, _, rfl, (get_lt exv19), map_get exv19, rfl, ?_⟩
  refine ⟨_, _, .ref 10000 [(v7.toNat, 0)] 0 xv19.Log.length, rfl, map_get exv19, (by simp [cellsV, packD, implLink.enc]), ?_⟩
  refine ⟨lit [(1, .bptr 1 0), (2, .bptr 2 0), (14, .ref 10000 [] 0 s2.length), (15, .d (.int .i64 v7)), (21, .ref 10000 [(v7.toNat, 0)] 0 xv19.Log.length)] [(1, [.ref 10000 [] 0 s2.length]), (2, [.nilsl])] [(10000, s2.map implLink.enc)], (le_lit (And.intro (ve rfl) (And.intro (ve rfl) (And.intro (ve rfl) (And.intro (ve rfl) (And.intro (ve rfl) trivial))))) (And.intro ⟨_, rfl, (vel rfl)⟩ (And.intro ⟨_, rfl, (vel rfl)⟩ trivial)) (And.intro rfl trivial)), ?_⟩
  refine And.intro av19 ⟨_, _, rfl, (get_lt exv19), map_get exv19, rfl, ?_⟩
  refine And.intro (And.intro trivial ?_) trivial
  obtain ⟨s4, es4, h5⟩ := bind_some h4
  clear h4
  obtain ⟨es4, ls4⟩ := setN_some es4
  refine ⟨_, _, rfl, map_get exv19, ?_⟩
  refine And.intro rfl ?_
  refine And.intro rfl (And.intro (nod rfl) (And.intro (nle rfl) (And.intro rfl ⟨_, (map_set (f := implLink.enc) es4 rfl), ?_⟩)))
  refine ⟨lit [(1, .bptr 1 0), (2, .bptr 2 0)] [(1, [.ref 10000 [] 0 s4.length]), (2, [.nilsl])] [(10000, s4.map implLink.enc)], (le_lit (And.intro (ve rfl) (And.intro (ve rfl) trivial)) (And.intro ⟨_, rfl, (And.intro (ve (congrArg (V.ref 10000 [] 0) ls4)) trivial)⟩ (And.intro ⟨_, rfl, (vel rfl)⟩ trivial)) (And.intro rfl trivial)), ?_⟩
  refine And.intro rfl (And.intro rfl (And.intro (nle rfl) ?_))
  refine And.intro rfl ?_
  cases h5
  exact ⟨[], nod rfl, all_lt rfl, blt_lt rfl, _, _, rfl, rfl, rfl, rfl, rfl, rfl⟩
end Go.Vm
end
section
set_option maxRecDepth 4000
set_option maxHeartbeats 1000000
namespace Go.Vm
open Go.Proofs
/- loop.example/g00300/spec.l15Step -/
def s_l15Step_al.code : MC :=
 (.seq
  (.keep [2, 3, 4] (.reg [⟨(some 2), none, .box (.t 0)⟩, ⟨(some 3), none, .box (.t 1)⟩, ⟨(some 4), none, .box (.v (.agg [.nilsl]))⟩, ⟨(some 5), none, .mov (.v (.d (.bool false)))⟩]))
  (.norm (.seq
   (.keep [2, 3, 4, 6] (.reg [⟨(some 9), none, .fld 0 (.t 2)⟩, ⟨(some 10), none, .load false 1 (.t 9)⟩, ⟨(some 11), none, .len (.t 10)⟩, ⟨(some 6), none, .mov (.t 11)⟩]))
   (.norm (.seq
    (.seq
     (.keep [2, 3, 4, 6, 13] (.reg [⟨(some 12), none, .fld 0 (.t 3)⟩, ⟨(some 13), none, .load false 1 (.t 12)⟩]))
     (.norm (.block 0
      (.seq
       (.keep [2, 3, 4, 6, 13, 14] (.reg [⟨(some 15), none, .bin true .eql (.t 13) (.v (.d (.int .i64 1)))⟩, ⟨(some 14), none, .mov (.t 15)⟩]))
       (.norm (.cond (.t 14)
        (.seq
         (.cut
          (.keep [2, 3, 4, 28] (.reg [⟨(some 16), none, .fld 2 (.t 3)⟩, ⟨(some 17), none, .load false 1 (.t 16)⟩, ⟨(some 18), none, .lens (.t 17)⟩, ⟨(some 19), none, .bin true .gtr (.t 18) (.v (.d (.int .i64 20)))⟩, ⟨(some 20), none, .mov (.t 19)⟩, ⟨(some 21), (some (20, false)), .fld 0 (.t 2)⟩, ⟨(some 22), (some (20, false)), .load false 1 (.t 21)⟩, ⟨(some 23), (some (20, false)), .idx 3 (.t 22) (.v (.d (.int .i64 0)))⟩, ⟨(some 24), (some (20, false)), .fld 0 (.t 23)⟩, ⟨none, none, .nrm⟩, ⟨(some 25), (some (20, false)), .load false 1 (.t 24)⟩, ⟨(some 26), (some (20, false)), .len (.t 25)⟩, ⟨(some 27), (some (20, false)), .bin true .eql (.t 26) (.v (.d (.int .i64 40)))⟩, ⟨(some 28), none, .pick (.t 20) (.v (.d (.bool true))) (.t 27)⟩]))
          (.cond (.t 28)
           (.seq
            (.keep [4, 5] (.reg [⟨(some 29), none, .load true 1 (.t 2)⟩, ⟨none, none, .store 1 (.t 4) (.t 29)⟩, ⟨(some 5), none, .mov (.v (.d (.bool false)))⟩]))
            (.adopt 4 0 9000 .ret))
           .skip))
         (.norm (.seq
          (.keep [2, 4] (.draw (.take 0 ⟨(some 30), none, .fld 0 (.t 2)⟩ (.hold 1 30 ⟨(some 31), none, .load false 1 (.t 30)⟩ (.take 2 ⟨(some 32), none, .fld 0 (.t 2)⟩ (.hold 3 32 ⟨(some 33), none, .load false 1 (.t 32)⟩ (.take 4 ⟨(some 34), none, .idx 3 (.t 33) (.v (.d (.int .i64 0)))⟩ (.take 5 ⟨(some 35), none, .fld 0 (.t 34)⟩ (.hold 6 35 ⟨(some 36), none, .load false 1 (.t 35)⟩ (.take 7 ⟨(some 37), none, .fld 2 (.t 3)⟩ (.nrm (.take 8 ⟨(some 38), none, .load false 1 (.t 37)⟩ (.fork 9 ⟨(some 39), none, .mkrow 39 1 [.t 38]⟩ [30, 32, 35] (.fork 10 ⟨(some 40), none, .app 40 false 1 16 (.t 36) (.t 39)⟩ [30] (.take 11 ⟨(some 41), none, .idx 3 (.t 31) (.v (.d (.int .i64 0)))⟩ (.take 12 ⟨(some 42), none, .fld 0 (.t 41)⟩ (.fork 13 ⟨none, none, .store 1 (.t 42) (.t 40)⟩ [] .done .nofork))) .nofork) .nofork)))))))))))))
          (.norm (.seq
           (.keep [4, 5] (.reg [⟨(some 43), none, .load true 1 (.t 2)⟩, ⟨(some 44), none, .call (.v (.clos 64 [])) [.t 43] [true] []⟩, ⟨none, none, .store 1 (.t 4) (.t 44)⟩, ⟨(some 5), none, .mov (.v (.d (.bool true)))⟩]))
           (.norm (.adopt 4 0 9000 .ret)))))))
        (.seq
         (.keep [2, 3, 4, 6, 45] (.reg [⟨(some 46), none, .bin true .eql (.t 13) (.v (.d (.int .i64 5)))⟩, ⟨(some 45), none, .mov (.t 46)⟩]))
         (.norm (.cond (.t 45)
          (.seq
           (.seq
            (.keep [2, 4, 6, 48] (.reg [⟨(some 47), none, .mov (.t 6)⟩, ⟨(some 48), none, .bin true .eql (.t 47) (.v (.d (.int .i64 6)))⟩]))
            (.norm (.cond (.t 48)
             (.seq
              (.keep [4, 5] (.reg [⟨(some 49), none, .load true 1 (.t 2)⟩, ⟨none, none, .store 1 (.t 4) (.t 49)⟩, ⟨(some 5), none, .mov (.v (.d (.bool false)))⟩]))
              (.adopt 4 0 9000 .ret))
             .skip)))
           (.norm (.seq
            (.keep [2, 4, 6, 7] (.reg [⟨(some 50), none, .fld 0 (.t 2)⟩, ⟨(some 51), none, .load false 1 (.t 50)⟩, ⟨(some 52), none, .mov (.t 6)⟩, ⟨(some 53), none, .bin true .sub (.t 52) (.v (.d (.int .i64 1)))⟩, ⟨(some 54), none, .idx 3 (.t 51) (.t 53)⟩, ⟨(some 55), none, .load true 3 (.t 54)⟩, ⟨(some 7), none, .box (.v (.agg [.nilsl, .d (.int .i64 0), .d (.int .i64 0)]))⟩, ⟨none, none, .store 3 (.t 7) (.t 55)⟩]))
            (.norm (.seq
             (.keep [2, 4, 7] (.reg [⟨(some 56), none, .fld 0 (.t 2)⟩, ⟨(some 57), none, .load false 1 (.t 56)⟩, ⟨(some 58), none, .mov (.t 6)⟩, ⟨(some 59), none, .bin true .sub (.t 58) (.v (.d (.int .i64 1)))⟩, ⟨(some 60), none, .fld 0 (.t 7)⟩, ⟨(some 61), none, .load false 1 (.t 60)⟩, ⟨(some 62), none, .len (.t 61)⟩, ⟨(some 63), none, .idx 3 (.t 57) (.t 59)⟩, ⟨(some 64), none, .fld 1 (.t 63)⟩, ⟨none, none, .store 1 (.t 64) (.t 62)⟩]))
             (.norm (.seq
              (.keep [2, 4] (.draw (.take 0 ⟨(some 65), none, .fld 0 (.t 2)⟩ (.hold 1 65 ⟨(some 66), none, .load false 1 (.t 65)⟩ (.take 3 ⟨(some 68), none, .fld 0 (.t 7)⟩ (.hold 4 68 ⟨(some 69), none, .load false 1 (.t 68)⟩ (.fork 2 ⟨(some 67), none, .mkrow 67 1 []⟩ [65, 68] (.fork 5 ⟨(some 70), none, .app 70 false 1 16 (.t 67) (.t 69)⟩ [65] (.nrm (.take 6 ⟨(some 71), none, .build [.nilsl, .d (.int .i64 0), .d (.int .i64 0)] [(0, 1, .t 70)]⟩ (.fork 7 ⟨(some 72), none, .mkrow 72 3 [.t 71]⟩ [65] (.fork 8 ⟨(some 73), none, .app 73 true 3 40 (.t 66) (.t 72)⟩ [] (.take 9 ⟨(some 74), none, .fld 0 (.t 2)⟩ (.fork 10 ⟨none, none, .store 1 (.t 74) (.t 73)⟩ [] .done .nofork)) .nofork) .nofork))) .nofork) .nofork)))))))
              (.norm (.seq
               (.keep [4, 5] (.reg [⟨(some 75), none, .load true 1 (.t 2)⟩, ⟨(some 76), none, .call (.v (.clos 64 [])) [.t 75] [true] []⟩, ⟨none, none, .store 1 (.t 4) (.t 76)⟩, ⟨(some 5), none, .mov (.v (.d (.bool true)))⟩]))
               (.norm (.adopt 4 0 9000 .ret)))))))))))
          .skip)))))))))
    (.norm (.seq
     (.seq
      (.keep [2, 3, 4, 6, 82] (.reg [⟨(some 77), none, .fld 1 (.t 3)⟩, ⟨(some 78), none, .load false 1 (.t 77)⟩, ⟨(some 79), none, .mov (.t 6)⟩, ⟨(some 80), none, .bin true .sub (.t 79) (.v (.d (.int .i64 1)))⟩, ⟨(some 81), none, .call (.v (.clos 61 [])) [.t 78, .v (.d (.int .i64 0)), .t 80] [] []⟩, ⟨(some 82), none, .un .not (.t 81)⟩]))
      (.norm (.cond (.t 82)
       (.seq
        (.keep [4, 5] (.reg [⟨(some 83), none, .load true 1 (.t 2)⟩, ⟨none, none, .store 1 (.t 4) (.t 83)⟩, ⟨(some 5), none, .mov (.v (.d (.bool false)))⟩]))
        (.adopt 4 0 9000 .ret))
       .skip)))
     (.norm (.seq
      (.seq
       (.keep [2, 3, 4, 6, 85] (.reg [⟨(some 84), none, .fld 0 (.t 3)⟩, ⟨(some 85), none, .load false 1 (.t 84)⟩]))
       (.norm (.block 1
        (.seq
         (.keep [2, 3, 4, 6, 85, 86] (.reg [⟨(some 87), none, .bin true .eql (.t 85) (.v (.d (.int .i64 2)))⟩, ⟨(some 86), none, .mov (.t 87)⟩]))
         (.norm (.cond (.t 86)
          (.seq
           (.cut
            (.keep [2, 3, 4, 112] (.draw (.take 0 ⟨(some 88), none, .fld 1 (.t 3)⟩ (.take 1 ⟨(some 89), none, .load false 1 (.t 88)⟩ (.take 2 ⟨(some 90), none, .mov (.t 6)⟩ (.take 3 ⟨(some 91), none, .bin true .sub (.t 90) (.v (.d (.int .i64 1)))⟩ (.take 4 ⟨(some 92), none, .bin true .eql (.t 89) (.t 91)⟩ (.take 5 ⟨(some 93), none, .mov (.t 92)⟩ (.take 6 ⟨(some 94), (some (93, false)), .fld 0 (.t 2)⟩ (.take 7 ⟨(some 95), (some (93, false)), .load false 1 (.t 94)⟩ (.take 8 ⟨(some 96), (some (93, false)), .fld 1 (.t 3)⟩ (.take 9 ⟨(some 97), (some (93, false)), .load false 1 (.t 96)⟩ (.nrm (.take 10 ⟨(some 98), (some (93, false)), .bin true .add (.t 97) (.v (.d (.int .i64 1)))⟩ (.take 11 ⟨(some 99), (some (93, false)), .idx 3 (.t 95) (.t 98)⟩ (.take 12 ⟨(some 100), (some (93, false)), .fld 0 (.t 99)⟩ (.take 13 ⟨(some 101), (some (93, false)), .load false 1 (.t 100)⟩ (.take 14 ⟨(some 102), (some (93, false)), .len (.t 101)⟩ (.take 15 ⟨(some 103), (some (93, false)), .fld 0 (.t 2)⟩ (.take 16 ⟨(some 104), (some (93, false)), .load false 1 (.t 103)⟩ (.take 17 ⟨(some 105), (some (93, false)), .fld 1 (.t 3)⟩ (.take 18 ⟨(some 106), (some (93, false)), .load false 1 (.t 105)⟩ (.nrm (.take 19 ⟨(some 107), (some (93, false)), .idx 3 (.t 104) (.t 106)⟩ (.take 20 ⟨(some 108), (some (93, false)), .fld 0 (.t 107)⟩ (.take 21 ⟨(some 109), (some (93, false)), .load false 1 (.t 108)⟩ (.take 22 ⟨(some 110), (some (93, false)), .len (.t 109)⟩ (.take 23 ⟨(some 111), (some (93, false)), .bin true .geq (.t 102) (.t 110)⟩ (.take 24 ⟨(some 112), none, .pick (.t 93) (.v (.d (.bool true))) (.t 111)⟩ .done)))))))))))))))))))))))))))))
            (.cond (.t 112)
             (.seq
              (.keep [4, 5] (.reg [⟨(some 113), none, .load true 1 (.t 2)⟩, ⟨none, none, .store 1 (.t 4) (.t 113)⟩, ⟨(some 5), none, .mov (.v (.d (.bool false)))⟩]))
              (.adopt 4 0 9000 .ret))
             .skip))
           (.norm (.seq
            (.keep [2, 3, 4, 8] (.reg [⟨(some 114), none, .fld 0 (.t 2)⟩, ⟨(some 115), none, .load false 1 (.t 114)⟩, ⟨(some 116), none, .fld 1 (.t 3)⟩, ⟨(some 117), none, .load false 1 (.t 116)⟩, ⟨(some 118), none, .bin true .add (.t 117) (.v (.d (.int .i64 1)))⟩, ⟨(some 119), none, .idx 3 (.t 115) (.t 118)⟩, ⟨(some 120), none, .fld 0 (.t 119)⟩, ⟨(some 121), none, .load false 1 (.t 120)⟩, ⟨(some 122), none, .len (.t 121)⟩, ⟨(some 8), none, .mov (.t 122)⟩]))
            (.norm (.seq
             (.keep [2, 3, 4, 8] (.draw (.take 0 ⟨(some 123), none, .fld 0 (.t 2)⟩ (.hold 1 123 ⟨(some 124), none, .load false 1 (.t 123)⟩ (.take 2 ⟨(some 125), none, .fld 1 (.t 3)⟩ (.hold 3 125 ⟨(some 126), none, .load false 1 (.t 125)⟩ (.take 4 ⟨(some 127), none, .bin true .add (.t 126) (.v (.d (.int .i64 1)))⟩ (.take 5 ⟨(some 128), none, .fld 0 (.t 2)⟩ (.hold 6 128 ⟨(some 129), none, .load false 1 (.t 128)⟩ (.take 7 ⟨(some 130), none, .fld 1 (.t 3)⟩ (.hold 8 130 ⟨(some 131), none, .load false 1 (.t 130)⟩ (.nrm (.take 9 ⟨(some 132), none, .bin true .add (.t 131) (.v (.d (.int .i64 1)))⟩ (.take 10 ⟨(some 133), none, .idx 3 (.t 129) (.t 132)⟩ (.take 11 ⟨(some 134), none, .fld 0 (.t 133)⟩ (.hold 12 134 ⟨(some 135), none, .load false 1 (.t 134)⟩ (.take 13 ⟨(some 136), none, .fld 0 (.t 2)⟩ (.take 14 ⟨(some 137), none, .load false 1 (.t 136)⟩ (.take 15 ⟨(some 138), none, .fld 1 (.t 3)⟩ (.take 16 ⟨(some 139), none, .load false 1 (.t 138)⟩ (.nrm (.take 17 ⟨(some 140), none, .idx 3 (.t 137) (.t 139)⟩ (.take 18 ⟨(some 141), none, .fld 0 (.t 140)⟩ (.take 19 ⟨(some 142), none, .load false 1 (.t 141)⟩ (.take 20 ⟨(some 143), none, .mov (.t 8)⟩ (.take 21 ⟨(some 144), none, .idx 1 (.t 142) (.t 143)⟩ (.take 22 ⟨(some 145), none, .load false 1 (.t 144)⟩ (.fork 23 ⟨(some 146), none, .mkrow 146 1 [.t 145]⟩ [123, 125, 128, 130, 134] (.nrm (.fork 24 ⟨(some 147), none, .app 147 false 1 16 (.t 135) (.t 146)⟩ [123, 125] (.take 25 ⟨(some 148), none, .idx 3 (.t 124) (.t 127)⟩ (.take 26 ⟨(some 149), none, .fld 0 (.t 148)⟩ (.fork 27 ⟨none, none, .store 1 (.t 149) (.t 147)⟩ [] .done .nofork))) .nofork)) .nofork))))))))))))))))))))))))))))
             (.norm (.seq
              (.keep [2, 4] (.reg [⟨(some 150), none, .fld 0 (.t 2)⟩, ⟨(some 151), none, .load false 1 (.t 150)⟩, ⟨(some 152), none, .fld 1 (.t 3)⟩, ⟨(some 153), none, .load false 1 (.t 152)⟩, ⟨(some 154), none, .mov (.t 8)⟩, ⟨(some 155), none, .bin true .add (.t 154) (.v (.d (.int .i64 1)))⟩, ⟨(some 156), none, .idx 3 (.t 151) (.t 153)⟩, ⟨(some 157), none, .fld 1 (.t 156)⟩, ⟨none, none, .store 1 (.t 157) (.t 155)⟩]))
              (.norm (.seq
               (.keep [4, 5] (.reg [⟨(some 158), none, .load true 1 (.t 2)⟩, ⟨(some 159), none, .call (.v (.clos 64 [])) [.t 158] [true] []⟩, ⟨none, none, .store 1 (.t 4) (.t 159)⟩, ⟨(some 5), none, .mov (.v (.d (.bool true)))⟩]))
               (.norm (.adopt 4 0 9000 .ret)))))))))))
          (.seq
           (.keep [2, 3, 4, 6, 85, 160] (.reg [⟨(some 161), none, .bin true .eql (.t 85) (.v (.d (.int .i64 3)))⟩, ⟨(some 160), none, .mov (.t 161)⟩]))
           (.norm (.cond (.t 160)
            (.seq
             (.cut
              (.keep [2, 3, 4, 184] (.draw (.take 0 ⟨(some 162), none, .fld 1 (.t 3)⟩ (.take 1 ⟨(some 163), none, .load false 1 (.t 162)⟩ (.take 2 ⟨(some 164), none, .mov (.t 6)⟩ (.take 3 ⟨(some 165), none, .bin true .sub (.t 164) (.v (.d (.int .i64 1)))⟩ (.take 4 ⟨(some 166), none, .bin true .eql (.t 163) (.t 165)⟩ (.take 5 ⟨(some 167), none, .mov (.t 166)⟩ (.take 6 ⟨(some 168), (some (167, false)), .fld 0 (.t 2)⟩ (.take 7 ⟨(some 169), (some (167, false)), .load false 1 (.t 168)⟩ (.take 8 ⟨(some 170), (some (167, false)), .fld 1 (.t 3)⟩ (.take 9 ⟨(some 171), (some (167, false)), .load false 1 (.t 170)⟩ (.nrm (.take 10 ⟨(some 172), (some (167, false)), .bin true .add (.t 171) (.v (.d (.int .i64 1)))⟩ (.take 11 ⟨(some 173), (some (167, false)), .idx 3 (.t 169) (.t 172)⟩ (.take 12 ⟨(some 174), (some (167, false)), .fld 2 (.t 173)⟩ (.take 13 ⟨(some 175), (some (167, false)), .load false 1 (.t 174)⟩ (.take 14 ⟨(some 176), (some (167, false)), .fld 0 (.t 2)⟩ (.take 15 ⟨(some 177), (some (167, false)), .load false 1 (.t 176)⟩ (.take 16 ⟨(some 178), (some (167, false)), .fld 1 (.t 3)⟩ (.take 17 ⟨(some 179), (some (167, false)), .load false 1 (.t 178)⟩ (.nrm (.take 18 ⟨(some 180), (some (167, false)), .idx 3 (.t 177) (.t 179)⟩ (.take 19 ⟨(some 181), (some (167, false)), .fld 2 (.t 180)⟩ (.take 20 ⟨(some 182), (some (167, false)), .load false 1 (.t 181)⟩ (.take 21 ⟨(some 183), (some (167, false)), .bin true .leq (.t 175) (.t 182)⟩ (.take 22 ⟨(some 184), none, .pick (.t 167) (.v (.d (.bool true))) (.t 183)⟩ .done)))))))))))))))))))))))))))
              (.cond (.t 184)
               (.seq
                (.keep [4, 5] (.reg [⟨(some 185), none, .load true 1 (.t 2)⟩, ⟨none, none, .store 1 (.t 4) (.t 185)⟩, ⟨(some 5), none, .mov (.v (.d (.bool false)))⟩]))
                (.adopt 4 0 9000 .ret))
               .skip))
             (.norm (.seq
              (.keep [2, 4] (.draw (.take 0 ⟨(some 186), none, .fld 0 (.t 2)⟩ (.take 1 ⟨(some 187), none, .load false 1 (.t 186)⟩ (.take 2 ⟨(some 188), none, .fld 1 (.t 3)⟩ (.take 3 ⟨(some 189), none, .load false 1 (.t 188)⟩ (.take 4 ⟨(some 190), none, .fld 0 (.t 2)⟩ (.take 5 ⟨(some 191), none, .load false 1 (.t 190)⟩ (.take 6 ⟨(some 192), none, .fld 1 (.t 3)⟩ (.take 7 ⟨(some 193), none, .load false 1 (.t 192)⟩ (.nrm (.take 8 ⟨(some 194), none, .bin true .add (.t 193) (.v (.d (.int .i64 1)))⟩ (.take 9 ⟨(some 195), none, .idx 3 (.t 191) (.t 194)⟩ (.take 10 ⟨(some 196), none, .fld 2 (.t 195)⟩ (.take 11 ⟨(some 197), none, .load false 1 (.t 196)⟩ (.take 12 ⟨(some 198), none, .idx 3 (.t 187) (.t 189)⟩ (.take 13 ⟨(some 199), none, .fld 2 (.t 198)⟩ (.fork 14 ⟨none, none, .store 1 (.t 199) (.t 197)⟩ [] .done .nofork))))))))))))))))))
              (.norm (.seq
               (.keep [4, 5] (.reg [⟨(some 200), none, .load true 1 (.t 2)⟩, ⟨none, none, .store 1 (.t 4) (.t 200)⟩, ⟨(some 5), none, .mov (.v (.d (.bool true)))⟩]))
               (.adopt 4 0 9000 .ret))))))
            (.seq
             (.keep [2, 3, 4, 6, 201] (.reg [⟨(some 202), none, .bin true .eql (.t 85) (.v (.d (.int .i64 4)))⟩, ⟨(some 201), none, .mov (.t 202)⟩]))
             (.norm (.cond (.t 201)
              (.seq
               (.seq
                (.keep [2, 3, 4, 204] (.reg [⟨(some 203), none, .mov (.t 6)⟩, ⟨(some 204), none, .bin true .lss (.t 203) (.v (.d (.int .i64 2)))⟩]))
                (.norm (.cond (.t 204)
                 (.seq
                  (.keep [4, 5] (.reg [⟨(some 205), none, .load true 1 (.t 2)⟩, ⟨none, none, .store 1 (.t 4) (.t 205)⟩, ⟨(some 5), none, .mov (.v (.d (.bool false)))⟩]))
                  (.adopt 4 0 9000 .ret))
                 .skip)))
               (.norm (.seq
                (.keep [2, 3, 4] (.draw (.take 1 ⟨(some 207), none, .fld 0 (.t 2)⟩ (.hold 2 207 ⟨(some 208), none, .load false 1 (.t 207)⟩ (.take 3 ⟨(some 209), none, .fld 1 (.t 3)⟩ (.hold 4 209 ⟨(some 210), none, .load false 1 (.t 209)⟩ (.take 5 ⟨(some 211), none, .sub 3 (.t 208) none (some (.t 210))⟩ (.take 7 ⟨(some 213), none, .fld 0 (.t 2)⟩ (.hold 8 213 ⟨(some 214), none, .load false 1 (.t 213)⟩ (.take 9 ⟨(some 215), none, .fld 1 (.t 3)⟩ (.hold 10 215 ⟨(some 216), none, .load false 1 (.t 215)⟩ (.nrm (.take 11 ⟨(some 217), none, .bin true .add (.t 216) (.v (.d (.int .i64 1)))⟩ (.take 12 ⟨(some 218), none, .sub 3 (.t 214) (some (.t 217)) none⟩ (.fork 0 ⟨(some 206), none, .mkrow 206 3 []⟩ [207, 209, 213, 215] (.fork 6 ⟨(some 212), none, .app 212 true 3 40 (.t 206) (.t 211)⟩ [213, 215] (.fork 13 ⟨(some 219), none, .app 219 true 3 40 (.t 212) (.t 218)⟩ [] (.take 14 ⟨(some 220), none, .fld 0 (.t 2)⟩ (.fork 15 ⟨none, none, .store 1 (.t 220) (.t 219)⟩ [] .done .nofork)) .nofork) .nofork) .nofork)))))))))))))))
                (.seq
                 (.seq
                  (.keep [2, 3, 4, 223] (.reg [⟨(some 221), none, .fld 1 (.t 3)⟩, ⟨(some 222), none, .load false 1 (.t 221)⟩, ⟨(some 223), none, .bin true .gtr (.t 222) (.v (.d (.int .i64 0)))⟩]))
                  (.cond (.t 223)
                   (.keep [2, 4] (.reg [⟨(some 224), none, .fld 0 (.t 2)⟩, ⟨(some 225), none, .load false 1 (.t 224)⟩, ⟨(some 226), none, .fld 1 (.t 3)⟩, ⟨(some 227), none, .load false 1 (.t 226)⟩, ⟨(some 228), none, .bin true .sub (.t 227) (.v (.d (.int .i64 1)))⟩, ⟨(some 229), none, .idx 3 (.t 225) (.t 228)⟩, ⟨(some 230), none, .fld 1 (.t 229)⟩, ⟨none, none, .store 1 (.t 230) (.v (.d (.int .i64 0)))⟩]))
                   .skip))
                 (.seq
                  (.keep [4, 5] (.reg [⟨(some 231), none, .load true 1 (.t 2)⟩, ⟨(some 232), none, .call (.v (.clos 64 [])) [.t 231] [true] []⟩, ⟨none, none, .store 1 (.t 4) (.t 232)⟩, ⟨(some 5), none, .mov (.v (.d (.bool true)))⟩]))
                  .ret)))))
              .skip))))))))))))
      (.seq
       (.keep [4, 5] (.reg [⟨(some 233), none, .load true 1 (.t 2)⟩, ⟨none, none, .store 1 (.t 4) (.t 233)⟩, ⟨(some 5), none, .mov (.v (.d (.bool false)))⟩]))
       (.adopt 4 0 9000 .ret)))))))))))
theorem s_l15Step_al.chk : chkFn Try.prog 43 2 s_l15Step_al.code [.cell true 1 4, .tmp 5] = true := by kernel_rfl
def s_l15Step_al.j1 (p0 : implChain) (p1 : implChainStep) (x28_1 : Bool) : Option (implChain × Bool) :=
  if x28_1 = true then (some (p0, false)) else ((ix p0.Links 0).bind fun xv34 => (appB 16 xv34.Log [p1.Text]).bind fun v40 => (setN p0.Links 0 (implLink.mk v40 xv34.Sent xv34.Sure)).bind fun s6 => (s_l15Tail_al (implChain.mk s6)).bind fun v44 => some (v44, true))
def s_l15Step_al.J1 (p0 : implChain) (p1 : implChainStep) (x28_1 : Bool) : St :=
  lit [(2, .bptr 2 0), (3, .bptr 3 0), (4, .bptr 4 0), (28, .d (.bool x28_1))] [(2, [.ref 10000 [] 0 p0.Links.length]), (3, [.d (.int .i64 p1.Kind), .d (.int .i64 p1.K), .d (.str p1.Text)]), (4, [.nilsl])] [(10000, p0.Links.map implLink.enc)]
def s_l15Step_al.j2 (p0 : implChain) (p1 : implChainStep) (x112_2 : Bool) : Option (implChain × Bool) :=
  if x112_2 = true then (some (p0, false)) else ((ckK .i64 (p1.K + 1)).bind fun v118 => (ix p0.Links v118).bind fun xv119 => (ix p0.Links p1.K).bind fun xv140 => (ix xv140.Log (xv119.Log.length : Int)).bind fun xv144 => (appB 16 xv119.Log [xv144]).bind fun v147 => (setN p0.Links v118.toNat (implLink.mk v147 xv119.Sent xv119.Sure)).bind fun s23 => (ckK .i64 ((xv119.Log.length : Int) + 1)).bind fun v155 => (ix s23 p1.K).bind fun xv156 => (setN s23 p1.K.toNat (implLink.mk xv156.Log v155 xv156.Sure)).bind fun s25 => (s_l15Tail_al (implChain.mk s25)).bind fun v159 => some (v159, true))
def s_l15Step_al.J2 (p0 : implChain) (p1 : implChainStep) (x112_2 : Bool) : St :=
  lit [(2, .bptr 2 0), (3, .bptr 3 0), (4, .bptr 4 0), (112, .d (.bool x112_2))] [(2, [.ref 10000 [] 0 p0.Links.length]), (3, [.d (.int .i64 p1.Kind), .d (.int .i64 p1.K), .d (.str p1.Text)]), (4, [.nilsl])] [(10000, p0.Links.map implLink.enc)]
def s_l15Step_al.j3 (p0 : implChain) (p1 : implChainStep) (x184_3 : Bool) : Option (implChain × Bool) :=
  if x184_3 = true then (some (p0, false)) else ((ckK .i64 (p1.K + 1)).bind fun v194 => (ix p0.Links v194).bind fun xv195 => (ix p0.Links p1.K).bind fun xv198 => (setN p0.Links p1.K.toNat (implLink.mk xv198.Log xv198.Sent xv195.Sure)).bind fun s32 => some ((implChain.mk s32), true))
def s_l15Step_al.J3 (p0 : implChain) (p1 : implChainStep) (x184_3 : Bool) : St :=
  lit [(2, .bptr 2 0), (3, .bptr 3 0), (4, .bptr 4 0), (184, .d (.bool x184_3))] [(2, [.ref 10000 [] 0 p0.Links.length]), (3, [.d (.int .i64 p1.Kind), .d (.int .i64 p1.K), .d (.str p1.Text)]), (4, [.nilsl])] [(10000, p0.Links.map implLink.enc)]
def s_l15Step_al (p0 : implChain) (p1 : implChainStep) : Option (implChain × Bool) :=
  if p1.Kind = 1 then (if 20 < (p1.Text.length : Int) then (s_l15Step_al.j1 p0 p1 true) else ((ix p0.Links 0).bind fun xv23 => s_l15Step_al.j1 p0 p1 (decide ((xv23.Log.length : Int) = 40)))) else (if p1.Kind = 5 then (none) else ((ckK .i64 ((p0.Links.length : Int) - 1)).bind fun v80 => (s_l1In p1.K 0 v80).bind fun v81 => if v81 = true then (if p1.Kind = 2 then (if p1.K = v80 then (s_l15Step_al.j2 p0 p1 true) else ((ckK .i64 (p1.K + 1)).bind fun v98 => (ix p0.Links v98).bind fun xv99 => (ix p0.Links p1.K).bind fun xv107 => s_l15Step_al.j2 p0 p1 (decide ((xv107.Log.length : Int) ≤ (xv99.Log.length : Int))))) else (if p1.Kind = 3 then (if p1.K = v80 then (s_l15Step_al.j3 p0 p1 true) else ((ckK .i64 (p1.K + 1)).bind fun v172 => (ix p0.Links v172).bind fun xv173 => (ix p0.Links p1.K).bind fun xv180 => s_l15Step_al.j3 p0 p1 (decide (xv173.Sure ≤ xv180.Sure)))) else (if p1.Kind = 4 then (none) else (some (p0, false))))) else (some (p0, false))))
theorem s_l15Step_al.j1_len (p0 : implChain) (p1 : implChainStep) (x : Bool) (r : implChain × Bool) (h : s_l15Step_al.j1 p0 p1 x = some r) : r.1.Links.length = p0.Links.length := by
  unfold s_l15Step_al.j1 at h
  split at h
  · cases h; rfl
  · skip
    obtain ⟨v1, e1, h⟩ := bind_some h
    obtain ⟨v2, e2, h⟩ := bind_some h
    obtain ⟨v3, e3, h⟩ := bind_some h
    obtain ⟨v4, e4, h⟩ := bind_some h
    cases h
    show v4.Links.length = _
    rw [s_l15Tail_al.len _ _ e4, ← (setN_some e3).2]
theorem s_l15Step_al.j2_len (p0 : implChain) (p1 : implChainStep) (x : Bool) (r : implChain × Bool) (h : s_l15Step_al.j2 p0 p1 x = some r) : r.1.Links.length = p0.Links.length := by
  unfold s_l15Step_al.j2 at h
  split at h
  · cases h; rfl
  · skip
    obtain ⟨v1, e1, h⟩ := bind_some h
    obtain ⟨v2, e2, h⟩ := bind_some h
    obtain ⟨v3, e3, h⟩ := bind_some h
    obtain ⟨v4, e4, h⟩ := bind_some h
    obtain ⟨v5, e5, h⟩ := bind_some h
    obtain ⟨v6, e6, h⟩ := bind_some h
    obtain ⟨v7, e7, h⟩ := bind_some h
    obtain ⟨v8, e8, h⟩ := bind_some h
    obtain ⟨v9, e9, h⟩ := bind_some h
    obtain ⟨v10, e10, h⟩ := bind_some h
    cases h
    show v10.Links.length = _
    rw [s_l15Tail_al.len _ _ e10, ← (setN_some e9).2, ← (setN_some e6).2]
theorem s_l15Step_al.j3_len (p0 : implChain) (p1 : implChainStep) (x : Bool) (r : implChain × Bool) (h : s_l15Step_al.j3 p0 p1 x = some r) : r.1.Links.length = p0.Links.length := by
  unfold s_l15Step_al.j3 at h
  split at h
  · cases h; rfl
  · skip
    obtain ⟨v1, e1, h⟩ := bind_some h
    obtain ⟨v2, e2, h⟩ := bind_some h
    obtain ⟨v3, e3, h⟩ := bind_some h
    obtain ⟨v4, e4, h⟩ := bind_some h
    cases h
    show v4.length = _
    rw [← (setN_some e4).2]
theorem s_l15Step_al.len (p0 : implChain) (p1 : implChainStep) (r : implChain × Bool) (h : s_l15Step_al p0 p1 = some r) : r.1.Links.length = p0.Links.length := by
  unfold s_l15Step_al at h
  split at h
  · split at h
    · exact s_l15Step_al.j1_len _ _ _ _ h
    · obtain ⟨v1, e1, h⟩ := bind_some h
      exact s_l15Step_al.j1_len _ _ _ _ h
  · split at h
    · cases h
    · obtain ⟨v1, e1, h⟩ := bind_some h
      obtain ⟨v2, e2, h⟩ := bind_some h
      split at h
      · split at h
        · split at h
          · exact s_l15Step_al.j2_len _ _ _ _ h
          · obtain ⟨v3, e3, h⟩ := bind_some h
            obtain ⟨v4, e4, h⟩ := bind_some h
            obtain ⟨v5, e5, h⟩ := bind_some h
            exact s_l15Step_al.j2_len _ _ _ _ h
        · split at h
          · split at h
            · exact s_l15Step_al.j3_len _ _ _ _ h
            · obtain ⟨v3, e3, h⟩ := bind_some h
              obtain ⟨v4, e4, h⟩ := bind_some h
              obtain ⟨v5, e5, h⟩ := bind_some h
              exact s_l15Step_al.j3_len _ _ _ _ h
          · split at h
            · cases h
            · cases h; rfl
      · cases h; rfl
theorem s_l15Step_al.ok (p0 : implChain) (p1 : implChainStep) (r : implChain × Bool) (h0 : s_l15Step_al p0 p1 = some r) : ACall Try.prog 43 [.agg [.ref 10000 [] 0 p0.Links.length], .agg [.d (.int .i64 p1.Kind), .d (.int .i64 p1.K), .d (.str p1.Text)]] [] [p0.Links.map implLink.enc] (fun v ob oa na => v = .tup [.agg [.ref 10000 [] 0 r.1.Links.length], .d (.bool r.2)] ∧ ob = [] ∧ oa = [some (r.1.Links.map implLink.enc)] ∧ na = []) := by
  refine wFn_ok s_l15Step_al.chk rfl ?_
  unfold s_l15Step_al at h0
  refine And.intro rfl ?_
  refine And.intro rfl ?_
  refine And.intro rfl ?_
  refine ⟨lit [(2, .bptr 2 0), (3, .bptr 3 0), (4, .bptr 4 0)] [(2, [.ref 10000 [] 0 p0.Links.length]), (3, [.d (.int .i64 p1.Kind), .d (.int .i64 p1.K), .d (.str p1.Text)]), (4, [.nilsl])] [(10000, p0.Links.map implLink.enc)], (le_lit (And.intro (ve rfl) (And.intro (ve rfl) (And.intro (ve rfl) trivial))) (And.intro ⟨_, rfl, (vel rfl)⟩ (And.intro ⟨_, rfl, (vel rfl)⟩ (And.intro ⟨_, rfl, (vel rfl)⟩ trivial))) (And.intro rfl trivial)), ?_⟩
  refine ⟨lit [(2, .bptr 2 0), (3, .bptr 3 0), (4, .bptr 4 0), (6, .d (.int .i64 (p0.Links.length : Int)))] [(2, [.ref 10000 [] 0 p0.Links.length]), (3, [.d (.int .i64 p1.Kind), .d (.int .i64 p1.K), .d (.str p1.Text)]), (4, [.nilsl])] [(10000, p0.Links.map implLink.enc)], (le_lit (And.intro (ve rfl) (And.intro (ve rfl) (And.intro (ve rfl) (And.intro (ve rfl) trivial)))) (And.intro ⟨_, rfl, (vel rfl)⟩ (And.intro ⟨_, rfl, (vel rfl)⟩ (And.intro ⟨_, rfl, (vel rfl)⟩ trivial))) (And.intro rfl trivial)), ?_⟩
  refine ⟨lit [(2, .bptr 2 0), (3, .bptr 3 0), (4, .bptr 4 0), (6, .d (.int .i64 (p0.Links.length : Int))), (13, .d (.int .i64 p1.Kind))] [(2, [.ref 10000 [] 0 p0.Links.length]), (3, [.d (.int .i64 p1.Kind), .d (.int .i64 p1.K), .d (.str p1.Text)]), (4, [.nilsl])] [(10000, p0.Links.map implLink.enc)], (le_lit (And.intro (ve rfl) (And.intro (ve rfl) (And.intro (ve rfl) (And.intro (ve rfl) (And.intro (ve rfl) trivial))))) (And.intro ⟨_, rfl, (vel rfl)⟩ (And.intro ⟨_, rfl, (vel rfl)⟩ (And.intro ⟨_, rfl, (vel rfl)⟩ trivial))) (And.intro rfl trivial)), ?_⟩
  refine And.intro rfl ?_
  refine ⟨lit [(2, .bptr 2 0), (3, .bptr 3 0), (4, .bptr 4 0), (6, .d (.int .i64 (p0.Links.length : Int))), (13, .d (.int .i64 p1.Kind)), (14, .d (.bool (decide (p1.Kind = 1))))] [(2, [.ref 10000 [] 0 p0.Links.length]), (3, [.d (.int .i64 p1.Kind), .d (.int .i64 p1.K), .d (.str p1.Text)]), (4, [.nilsl])] [(10000, p0.Links.map implLink.enc)], (le_lit (And.intro (ve rfl) (And.intro (ve rfl) (And.intro (ve rfl) (And.intro (ve rfl) (And.intro (ve rfl) (And.intro (ve rfl) trivial)))))) (And.intro ⟨_, rfl, (vel rfl)⟩ (And.intro ⟨_, rfl, (vel rfl)⟩ (And.intro ⟨_, rfl, (vel rfl)⟩ trivial))) (And.intro rfl trivial)), ?_⟩
  by_cases c1 : p1.Kind = 1
  · have h1 := if_t c1 h0
    clear h0
    refine and_t (decide_eq_true c1) ?_
    refine ⟨{ g : Bool // s_l15Step_al.j1 p0 p1 g = some r }, fun g => s_l15Step_al.J1 p0 p1 g.1, ?_, ?_⟩
    · skip
      refine And.intro rfl ?_
      by_cases c2 : 20 < (p1.Text.length : Int)
      · have h2 := if_t c2 h1
        clear h1
        refine and_t' (decide_eq_true c2) ?_
        refine and_t' (decide_eq_true c2) ?_
        refine and_t' (decide_eq_true c2) ?_
        refine and_t' (decide_eq_true c2) ?_
        refine ⟨lit [(2, .bptr 2 0), (3, .bptr 3 0), (4, .bptr 4 0), (20, .d (.bool (decide (20 < (p1.Text.length : Int))))), (24, .tup [])] [(2, [.ref 10000 [] 0 p0.Links.length]), (3, [.d (.int .i64 p1.Kind), .d (.int .i64 p1.K), .d (.str p1.Text)]), (4, [.nilsl])] [(10000, p0.Links.map implLink.enc)], (le_lit (And.intro (ve rfl) (And.intro (ve rfl) (And.intro (ve rfl) (And.intro (ve rfl) (And.intro (ve rfl) trivial))))) (And.intro ⟨_, rfl, (vel rfl)⟩ (And.intro ⟨_, rfl, (vel rfl)⟩ (And.intro ⟨_, rfl, (vel rfl)⟩ trivial))) (And.intro rfl trivial)), ?_⟩
        refine and_t' (decide_eq_true c2) ?_
        refine and_t' (decide_eq_true c2) ?_
        refine and_t' (decide_eq_true c2) ?_
        refine and_t (decide_eq_true c2) ?_
        exact ⟨⟨_, h2⟩, (le_lit (And.intro (ve rfl) (And.intro (ve rfl) (And.intro (ve rfl) (And.intro (ve rfl) trivial)))) (And.intro ⟨_, rfl, (vel rfl)⟩ (And.intro ⟨_, rfl, (vel rfl)⟩ (And.intro ⟨_, rfl, (vel rfl)⟩ trivial))) (And.intro rfl trivial))⟩
      · have h3 := if_f c2 h1
        clear h1
        refine and_f' (decide_eq_false c2) ?_
        refine and_f' (decide_eq_false c2) ?_
        obtain ⟨xv23, exv23, h4⟩ := bind_some h3
        clear h3
        obtain ⟨av23, exv23⟩ := ix_some exv23
        refine and_f' (decide_eq_false c2) ?_
        refine And.intro av23 ⟨_, _, rfl, (get_lt exv23), map_get exv23, rfl, ?_⟩
        refine and_f' (decide_eq_false c2) ?_
        refine ⟨lit [(2, .bptr 2 0), (3, .bptr 3 0), (4, .bptr 4 0), (20, .d (.bool (decide (20 < (p1.Text.length : Int))))), (24, .aptr 10000 [] 0 0)] [(2, [.ref 10000 [] 0 p0.Links.length]), (3, [.d (.int .i64 p1.Kind), .d (.int .i64 p1.K), .d (.str p1.Text)]), (4, [.nilsl])] [(10000, p0.Links.map implLink.enc)], (le_lit (And.intro (ve rfl) (And.intro (ve rfl) (And.intro (ve rfl) (And.intro (ve rfl) (And.intro (ve rfl) trivial))))) (And.intro ⟨_, rfl, (vel rfl)⟩ (And.intro ⟨_, rfl, (vel rfl)⟩ (And.intro ⟨_, rfl, (vel rfl)⟩ trivial))) (And.intro rfl trivial)), ?_⟩
        refine and_f' (decide_eq_false c2) ?_
        refine ⟨_, _, .ref 10000 [(0, 0)] 0 xv23.Log.length, rfl, map_get exv23, (by simp [cellsV, packD, implLink.enc]), ?_⟩
        refine and_f' (decide_eq_false c2) ?_
        refine and_f' (decide_eq_false c2) ?_
        refine And.intro rfl ?_
        refine and_f (decide_eq_false c2) ?_
        exact ⟨⟨_, h4⟩, (le_lit (And.intro (ve rfl) (And.intro (ve rfl) (And.intro (ve rfl) (And.intro (ve rfl) trivial)))) (And.intro ⟨_, rfl, (vel rfl)⟩ (And.intro ⟨_, rfl, (vel rfl)⟩ (And.intro ⟨_, rfl, (vel rfl)⟩ trivial))) (And.intro rfl trivial))⟩
    · rintro ⟨x28_1, h5⟩
      change s_l15Step_al.j1 p0 p1 x28_1 = some r at h5
      change wMC _ _ _ (s_l15Step_al.J1 p0 p1 x28_1)
      unfold s_l15Step_al.j1 at h5
      clear h1
      by_cases c3 : x28_1 = true
      · have h6 := if_t c3 h5
        clear h5
        refine and_t c3 ?_
        refine And.intro rfl (And.intro rfl (And.intro (nle rfl) ?_))
        refine And.intro rfl ?_
        cases h6
        exact ⟨[], nod rfl, all_lt rfl, blt_lt rfl, _, _, rfl, rfl, rfl, rfl, rfl, rfl⟩
      · have h7 := if_f c3 h5
        clear h5
        refine and_f (ne_t c3) ?_
        refine ⟨lit [(2, .bptr 2 0), (3, .bptr 3 0), (4, .bptr 4 0)] [(2, [.ref 10000 [] 0 p0.Links.length]), (3, [.d (.int .i64 p1.Kind), .d (.int .i64 p1.K), .d (.str p1.Text)]), (4, [.nilsl])] [(10000, p0.Links.map implLink.enc)], (le_lit (And.intro (ve rfl) (And.intro (ve rfl) (And.intro (ve rfl) trivial))) (And.intro ⟨_, rfl, (vel rfl)⟩ (And.intro ⟨_, rfl, (vel rfl)⟩ (And.intro ⟨_, rfl, (vel rfl)⟩ trivial))) (And.intro rfl trivial)), ?_⟩
        obtain ⟨xv34, exv34, h8⟩ := bind_some h7
        clear h7
        obtain ⟨av34, exv34⟩ := ix_some exv34
        refine And.intro av34 ⟨_, _, rfl, (get_lt exv34), map_get exv34, rfl, ?_⟩
        refine ⟨_, _, .ref 10000 [(0, 0)] 0 xv34.Log.length, rfl, map_get exv34, (by simp [cellsV, packD, implLink.enc]), ?_⟩
        refine ⟨lit [(2, .bptr 2 0), (4, .bptr 4 0), (30, .bptr 2 0), (31, .ref 10000 [] 0 p0.Links.length), (32, .bptr 2 0), (35, .aptr 10000 [] 0 0), (36, .ref 10000 [(0, 0)] 0 xv34.Log.length), (37, .bptr 3 2)] [(2, [.ref 10000 [] 0 p0.Links.length]), (3, [.d (.int .i64 p1.Kind), .d (.int .i64 p1.K), .d (.str p1.Text)]), (4, [.nilsl])] [(10000, p0.Links.map implLink.enc)], (le_lit (And.intro (ve rfl) (And.intro (ve rfl) (And.intro (ve rfl) (And.intro (ve rfl) (And.intro (ve rfl) (And.intro (ve rfl) (And.intro (ve rfl) (And.intro (ve rfl) trivial)))))))) (And.intro ⟨_, rfl, (vel rfl)⟩ (And.intro ⟨_, rfl, (vel rfl)⟩ (And.intro ⟨_, rfl, (vel rfl)⟩ trivial))) (And.intro rfl trivial)), ?_⟩
        refine And.intro (And.intro (And.intro (And.intro rfl trivial) (And.intro (And.intro rfl trivial) (And.intro (And.intro rfl trivial) trivial))) ?_) trivial
        refine And.intro rfl ?_
        refine And.intro rfl ?_
        refine And.intro (nod rfl) (And.intro rfl ?_)
        refine And.intro (And.intro (And.intro (And.intro rfl (some_of (rowAt1 rfl (map_get exv34) rfl))) trivial) ?_) trivial
        obtain ⟨v40, ev40, h9⟩ := bind_some h8
        clear h8
        obtain ⟨ev40, fv40⟩ := appB_some ev40
        refine ⟨_, ([p1.Text].map encS), rfl, (nle rfl), rfl, all_flat (fun _ => rfl) _, ?_⟩
        refine And.intro rfl (And.intro rfl (And.intro rfl (And.intro rfl ⟨_, _, _, rfl, (rowAt1 rfl (map_get exv34) rfl), goneRow1 (map_get exv34), ?_⟩)))
        refine ⟨_, _, _, rfl, (map_len _), (app_fit (f := encS) fv40), (all_len (f := encS) (fun _ => rfl) xv34.Log), (all_len (f := encS) (fun _ => rfl) [p1.Text]), rfl, map_app (f := encS) ev40, (app_len (f := encS) ev40), ?_⟩
        refine And.intro av34 ⟨_, _, rfl, (get_lt exv34), set_get (map_get exv34), rfl, ?_⟩
        refine And.intro (And.intro trivial ?_) trivial
        obtain ⟨s6, es6, h10⟩ := bind_some h9
        clear h9
        obtain ⟨es6, ls6⟩ := setN_some es6
        refine ⟨_, _, rfl, set_get (map_get exv34), ?_⟩
        refine And.intro (map_len _) ?_
        refine And.intro rfl (And.intro (nod rfl) (And.intro (nle rfl) (And.intro rfl ⟨_, ((List.set_set ..).trans (map_set (f := implLink.enc) es6 rfl)), ?_⟩)))
        refine ⟨lit [(2, .bptr 2 0), (4, .bptr 4 0)] [(2, [.ref 10000 [] 0 s6.length]), (4, [.nilsl])] [(10000, s6.map implLink.enc)], (le_lit (And.intro (ve rfl) (And.intro (ve rfl) trivial)) (And.intro ⟨_, rfl, (And.intro (ve (congrArg (V.ref 10000 [] 0) ls6)) trivial)⟩ (And.intro ⟨_, rfl, (vel rfl)⟩ trivial)) (And.intro rfl trivial)), ?_⟩
        obtain ⟨v44, ev44, h11⟩ := bind_some h10
        clear h10
        refine ⟨rfl, nod rfl, rfl, rfl, _, rfl, rfl, ?_⟩
        refine ⟨_, rfl, ?_⟩
        refine (s_l15Tail_al.ok (implChain.mk s6) _ ev44).mono ?_
        rintro _ _ _ _ ⟨rfl, rfl, rfl, rfl⟩
        refine ⟨rfl, rfl, rfl, rfl, trivial, (map_len_map (s_l15Tail_al.len (implChain.mk s6) _ ev44)), ?_⟩
        refine And.intro rfl (And.intro rfl (And.intro (nle rfl) ?_))
        refine ⟨lit [(4, .bptr 4 0), (5, .d (.bool true))] [(4, [.ref 10000 [] 0 v44.Links.length])] [(10000, v44.Links.map implLink.enc)], (le_lit (And.intro (ve rfl) (And.intro (ve rfl) trivial)) (And.intro ⟨_, rfl, (vel rfl)⟩ trivial) (And.intro rfl trivial)), ?_⟩
        refine And.intro rfl ?_
        cases h11
        exact ⟨[], nod rfl, all_lt rfl, blt_lt rfl, _, _, rfl, rfl, rfl, rfl, rfl, rfl⟩
  · have h12 := if_f c1 h0
    clear h0
    refine and_f (decide_eq_false c1) ?_
    refine And.intro rfl ?_
    refine ⟨lit [(2, .bptr 2 0), (3, .bptr 3 0), (4, .bptr 4 0), (6, .d (.int .i64 (p0.Links.length : Int))), (45, .d (.bool (decide (p1.Kind = 5))))] [(2, [.ref 10000 [] 0 p0.Links.length]), (3, [.d (.int .i64 p1.Kind), .d (.int .i64 p1.K), .d (.str p1.Text)]), (4, [.nilsl])] [(10000, p0.Links.map implLink.enc)], (le_lit (And.intro (ve rfl) (And.intro (ve rfl) (And.intro (ve rfl) (And.intro (ve rfl) (And.intro (ve rfl) trivial))))) (And.intro ⟨_, rfl, (vel rfl)⟩ (And.intro ⟨_, rfl, (vel rfl)⟩ (And.intro ⟨_, rfl, (vel rfl)⟩ trivial))) (And.intro rfl trivial)), ?_⟩
    by_cases c8 : p1.Kind = 5
    · have h13 := if_t c8 h12
      clear h12
      refine and_t (decide_eq_true c8) ?_
      cases h13
    · have h14 := if_f c8 h12
      clear h12
      refine and_f (decide_eq_false c8) ?_
      refine ⟨lit [(2, .bptr 2 0), (3, .bptr 3 0), (4, .bptr 4 0), (6, .d (.int .i64 (p0.Links.length : Int)))] [(2, [.ref 10000 [] 0 p0.Links.length]), (3, [.d (.int .i64 p1.Kind), .d (.int .i64 p1.K), .d (.str p1.Text)]), (4, [.nilsl])] [(10000, p0.Links.map implLink.enc)], (le_lit (And.intro (ve rfl) (And.intro (ve rfl) (And.intro (ve rfl) (And.intro (ve rfl) trivial)))) (And.intro ⟨_, rfl, (vel rfl)⟩ (And.intro ⟨_, rfl, (vel rfl)⟩ (And.intro ⟨_, rfl, (vel rfl)⟩ trivial))) (And.intro rfl trivial)), ?_⟩
      obtain ⟨v80, ev80, h15⟩ := bind_some h14
      clear h14
      obtain ⟨ev80, rv80⟩ := ckK_some ev80
      refine And.intro rfl ?_
      refine ⟨v80, ev80, fun _ => rv80, ?_⟩
      obtain ⟨v81, ev81, h16⟩ := bind_some h15
      clear h15
      refine ⟨rfl, nod rfl, rfl, rfl, _, rfl, rfl, ?_⟩
      refine (s_l1In.ok p1.K 0 v80 _ ev81).mono ?_
      rintro _ _ _ _ ⟨rfl, rfl, rfl, rfl⟩
      refine ⟨rfl, rfl, rfl, rfl, trivial, trivial, ?_⟩
      refine ⟨lit [(2, .bptr 2 0), (3, .bptr 3 0), (4, .bptr 4 0), (6, .d (.int .i64 (p0.Links.length : Int))), (82, .d (.bool (!v81)))] [(2, [.ref 10000 [] 0 p0.Links.length]), (3, [.d (.int .i64 p1.Kind), .d (.int .i64 p1.K), .d (.str p1.Text)]), (4, [.nilsl])] [(10000, p0.Links.map implLink.enc)], (le_lit (And.intro (ve rfl) (And.intro (ve rfl) (And.intro (ve rfl) (And.intro (ve rfl) (And.intro (ve rfl) trivial))))) (And.intro ⟨_, rfl, (vel rfl)⟩ (And.intro ⟨_, rfl, (vel rfl)⟩ (And.intro ⟨_, rfl, (vel rfl)⟩ trivial))) (And.intro rfl trivial)), ?_⟩
      by_cases c16 : v81 = true
      · have h17 := if_t c16 h16
        clear h16
        refine and_f (not_f c16) ?_
        refine ⟨lit [(2, .bptr 2 0), (3, .bptr 3 0), (4, .bptr 4 0), (6, .d (.int .i64 (p0.Links.length : Int)))] [(2, [.ref 10000 [] 0 p0.Links.length]), (3, [.d (.int .i64 p1.Kind), .d (.int .i64 p1.K), .d (.str p1.Text)]), (4, [.nilsl])] [(10000, p0.Links.map implLink.enc)], (le_lit (And.intro (ve rfl) (And.intro (ve rfl) (And.intro (ve rfl) (And.intro (ve rfl) trivial)))) (And.intro ⟨_, rfl, (vel rfl)⟩ (And.intro ⟨_, rfl, (vel rfl)⟩ (And.intro ⟨_, rfl, (vel rfl)⟩ trivial))) (And.intro rfl trivial)), ?_⟩
        refine ⟨lit [(2, .bptr 2 0), (3, .bptr 3 0), (4, .bptr 4 0), (6, .d (.int .i64 (p0.Links.length : Int))), (85, .d (.int .i64 p1.Kind))] [(2, [.ref 10000 [] 0 p0.Links.length]), (3, [.d (.int .i64 p1.Kind), .d (.int .i64 p1.K), .d (.str p1.Text)]), (4, [.nilsl])] [(10000, p0.Links.map implLink.enc)], (le_lit (And.intro (ve rfl) (And.intro (ve rfl) (And.intro (ve rfl) (And.intro (ve rfl) (And.intro (ve rfl) trivial))))) (And.intro ⟨_, rfl, (vel rfl)⟩ (And.intro ⟨_, rfl, (vel rfl)⟩ (And.intro ⟨_, rfl, (vel rfl)⟩ trivial))) (And.intro rfl trivial)), ?_⟩
        refine And.intro rfl ?_
        refine ⟨lit [(2, .bptr 2 0), (3, .bptr 3 0), (4, .bptr 4 0), (6, .d (.int .i64 (p0.Links.length : Int))), (85, .d (.int .i64 p1.Kind)), (86, .d (.bool (decide (p1.Kind = 2))))] [(2, [.ref 10000 [] 0 p0.Links.length]), (3, [.d (.int .i64 p1.Kind), .d (.int .i64 p1.K), .d (.str p1.Text)]), (4, [.nilsl])] [(10000, p0.Links.map implLink.enc)], (le_lit (And.intro (ve rfl) (And.intro (ve rfl) (And.intro (ve rfl) (And.intro (ve rfl) (And.intro (ve rfl) (And.intro (ve rfl) trivial)))))) (And.intro ⟨_, rfl, (vel rfl)⟩ (And.intro ⟨_, rfl, (vel rfl)⟩ (And.intro ⟨_, rfl, (vel rfl)⟩ trivial))) (And.intro rfl trivial)), ?_⟩
        by_cases c18 : p1.Kind = 2
        · have h18 := if_t c18 h17
          clear h17
          refine and_t (decide_eq_true c18) ?_
          refine ⟨{ g : Bool // s_l15Step_al.j2 p0 p1 g = some r }, fun g => s_l15Step_al.J2 p0 p1 g.1, ?_, ?_⟩
          · skip
            refine And.intro rfl ?_
            refine ⟨v80, ev80, fun _ => rv80, ?_⟩
            refine And.intro rfl ?_
            by_cases c19 : p1.K = v80
            · have h19 := if_t c19 h18
              clear h18
              refine and_t' (decide_eq_true c19) ?_
              refine and_t' (decide_eq_true c19) ?_
              refine and_t' (decide_eq_true c19) ?_
              refine and_t' (decide_eq_true c19) ?_
              refine ⟨lit [(2, .bptr 2 0), (3, .bptr 3 0), (4, .bptr 4 0), (93, .d (.bool (decide (p1.K = v80)))), (95, .tup []), (97, .tup [])] [(2, [.ref 10000 [] 0 p0.Links.length]), (3, [.d (.int .i64 p1.Kind), .d (.int .i64 p1.K), .d (.str p1.Text)]), (4, [.nilsl])] [(10000, p0.Links.map implLink.enc)], (le_lit (And.intro (ve rfl) (And.intro (ve rfl) (And.intro (ve rfl) (And.intro (ve rfl) (And.intro (ve rfl) (And.intro (ve rfl) trivial)))))) (And.intro ⟨_, rfl, (vel rfl)⟩ (And.intro ⟨_, rfl, (vel rfl)⟩ (And.intro ⟨_, rfl, (vel rfl)⟩ trivial))) (And.intro rfl trivial)), ?_⟩
              refine and_t' (decide_eq_true c19) ?_
              refine and_t' (decide_eq_true c19) ?_
              refine and_t' (decide_eq_true c19) ?_
              refine and_t' (decide_eq_true c19) ?_
              refine and_t' (decide_eq_true c19) ?_
              refine and_t' (decide_eq_true c19) ?_
              refine and_t' (decide_eq_true c19) ?_
              refine and_t' (decide_eq_true c19) ?_
              refine and_t' (decide_eq_true c19) ?_
              refine ⟨lit [(2, .bptr 2 0), (3, .bptr 3 0), (4, .bptr 4 0), (93, .d (.bool (decide (p1.K = v80)))), (102, .tup []), (104, .tup []), (106, .tup [])] [(2, [.ref 10000 [] 0 p0.Links.length]), (3, [.d (.int .i64 p1.Kind), .d (.int .i64 p1.K), .d (.str p1.Text)]), (4, [.nilsl])] [(10000, p0.Links.map implLink.enc)], (le_lit (And.intro (ve rfl) (And.intro (ve rfl) (And.intro (ve rfl) (And.intro (ve rfl) (And.intro (ve rfl) (And.intro (ve rfl) (And.intro (ve rfl) trivial))))))) (And.intro ⟨_, rfl, (vel rfl)⟩ (And.intro ⟨_, rfl, (vel rfl)⟩ (And.intro ⟨_, rfl, (vel rfl)⟩ trivial))) (And.intro rfl trivial)), ?_⟩
              refine and_t' (decide_eq_true c19) ?_
              refine and_t' (decide_eq_true c19) ?_
              refine and_t' (decide_eq_true c19) ?_
              refine and_t' (decide_eq_true c19) ?_
              refine and_t' (decide_eq_true c19) ?_
              refine and_t (decide_eq_true c19) ?_
              exact ⟨⟨_, h19⟩, (le_lit (And.intro (ve rfl) (And.intro (ve rfl) (And.intro (ve rfl) (And.intro (ve rfl) trivial)))) (And.intro ⟨_, rfl, (vel rfl)⟩ (And.intro ⟨_, rfl, (vel rfl)⟩ (And.intro ⟨_, rfl, (vel rfl)⟩ trivial))) (And.intro rfl trivial))⟩
            · have h20 := if_f c19 h18
              clear h18
              refine and_f' (decide_eq_false c19) ?_
              refine and_f' (decide_eq_false c19) ?_
              refine and_f' (decide_eq_false c19) ?_
              refine and_f' (decide_eq_false c19) ?_
              refine ⟨lit [(2, .bptr 2 0), (3, .bptr 3 0), (4, .bptr 4 0), (93, .d (.bool (decide (p1.K = v80)))), (95, .ref 10000 [] 0 p0.Links.length), (97, .d (.int .i64 p1.K))] [(2, [.ref 10000 [] 0 p0.Links.length]), (3, [.d (.int .i64 p1.Kind), .d (.int .i64 p1.K), .d (.str p1.Text)]), (4, [.nilsl])] [(10000, p0.Links.map implLink.enc)], (le_lit (And.intro (ve rfl) (And.intro (ve rfl) (And.intro (ve rfl) (And.intro (ve rfl) (And.intro (ve rfl) (And.intro (ve rfl) trivial)))))) (And.intro ⟨_, rfl, (vel rfl)⟩ (And.intro ⟨_, rfl, (vel rfl)⟩ (And.intro ⟨_, rfl, (vel rfl)⟩ trivial))) (And.intro rfl trivial)), ?_⟩
              obtain ⟨v98, ev98, h21⟩ := bind_some h20
              clear h20
              obtain ⟨ev98, rv98⟩ := ckK_some ev98
              refine and_f' (decide_eq_false c19) ?_
              refine And.intro rfl ?_
              refine ⟨v98, ev98, fun _ => rv98, ?_⟩
              obtain ⟨xv99, exv99, h22⟩ := bind_some h21
              clear h21
              obtain ⟨av99, exv99⟩ := ix_some exv99
              refine and_f' (decide_eq_false c19) ?_
              refine And.intro av99 ⟨_, _, rfl, (get_lt exv99), map_get exv99, rfl, ?_⟩
              refine and_f' (decide_eq_false c19) ?_
              refine and_f' (decide_eq_false c19) ?_
              refine ⟨_, _, .ref 10000 [(v98.toNat, 0)] 0 xv99.Log.length, rfl, map_get exv99, (by simp [cellsV, packD, implLink.enc]), ?_⟩
              refine and_f' (decide_eq_false c19) ?_
              refine and_f' (decide_eq_false c19) ?_
              refine and_f' (decide_eq_false c19) ?_
              refine and_f' (decide_eq_false c19) ?_
              refine and_f' (decide_eq_false c19) ?_
              refine ⟨lit [(2, .bptr 2 0), (3, .bptr 3 0), (4, .bptr 4 0), (93, .d (.bool (decide (p1.K = v80)))), (102, .d (.int .i64 (xv99.Log.length : Int))), (104, .ref 10000 [] 0 p0.Links.length), (106, .d (.int .i64 p1.K))] [(2, [.ref 10000 [] 0 p0.Links.length]), (3, [.d (.int .i64 p1.Kind), .d (.int .i64 p1.K), .d (.str p1.Text)]), (4, [.nilsl])] [(10000, p0.Links.map implLink.enc)], (le_lit (And.intro (ve rfl) (And.intro (ve rfl) (And.intro (ve rfl) (And.intro (ve rfl) (And.intro (ve rfl) (And.intro (ve rfl) (And.intro (ve rfl) trivial))))))) (And.intro ⟨_, rfl, (vel rfl)⟩ (And.intro ⟨_, rfl, (vel rfl)⟩ (And.intro ⟨_, rfl, (vel rfl)⟩ trivial))) (And.intro rfl trivial)), ?_⟩
              obtain ⟨xv107, exv107, h23⟩ := bind_some h22
              clear h22
              obtain ⟨av107, exv107⟩ := ix_some exv107
              refine and_f' (decide_eq_false c19) ?_
              refine And.intro av107 ⟨_, _, rfl, (get_lt exv107), map_get exv107, rfl, ?_⟩
              refine and_f' (decide_eq_false c19) ?_
              refine and_f' (decide_eq_false c19) ?_
              refine ⟨_, _, .ref 10000 [(p1.K.toNat, 0)] 0 xv107.Log.length, rfl, map_get exv107, (by simp [cellsV, packD, implLink.enc]), ?_⟩
              refine and_f' (decide_eq_false c19) ?_
              refine and_f' (decide_eq_false c19) ?_
              refine And.intro rfl ?_
              refine and_f (decide_eq_false c19) ?_
              exact ⟨⟨_, h23⟩, (le_lit (And.intro (ve rfl) (And.intro (ve rfl) (And.intro (ve rfl) (And.intro (ve rfl) trivial)))) (And.intro ⟨_, rfl, (vel rfl)⟩ (And.intro ⟨_, rfl, (vel rfl)⟩ (And.intro ⟨_, rfl, (vel rfl)⟩ trivial))) (And.intro rfl trivial))⟩
          · rintro ⟨x112_2, h24⟩
            change s_l15Step_al.j2 p0 p1 x112_2 = some r at h24
            change wMC _ _ _ (s_l15Step_al.J2 p0 p1 x112_2)
            unfold s_l15Step_al.j2 at h24
            clear h18
            by_cases c20 : x112_2 = true
            · have h25 := if_t c20 h24
              clear h24
              refine and_t c20 ?_
              refine And.intro rfl (And.intro rfl (And.intro (nle rfl) ?_))
              refine And.intro rfl ?_
              cases h25
              exact ⟨[], nod rfl, all_lt rfl, blt_lt rfl, _, _, rfl, rfl, rfl, rfl, rfl, rfl⟩
            · have h26 := if_f c20 h24
              clear h24
              refine and_f (ne_t c20) ?_
              refine ⟨lit [(2, .bptr 2 0), (3, .bptr 3 0), (4, .bptr 4 0)] [(2, [.ref 10000 [] 0 p0.Links.length]), (3, [.d (.int .i64 p1.Kind), .d (.int .i64 p1.K), .d (.str p1.Text)]), (4, [.nilsl])] [(10000, p0.Links.map implLink.enc)], (le_lit (And.intro (ve rfl) (And.intro (ve rfl) (And.intro (ve rfl) trivial))) (And.intro ⟨_, rfl, (vel rfl)⟩ (And.intro ⟨_, rfl, (vel rfl)⟩ (And.intro ⟨_, rfl, (vel rfl)⟩ trivial))) (And.intro rfl trivial)), ?_⟩
              obtain ⟨v118, ev118, h27⟩ := bind_some h26
              clear h26
              obtain ⟨ev118, rv118⟩ := ckK_some ev118
              refine And.intro rfl ?_
              refine ⟨v118, ev118, fun _ => rv118, ?_⟩
              obtain ⟨xv119, exv119, h28⟩ := bind_some h27
              clear h27
              obtain ⟨av119, exv119⟩ := ix_some exv119
              refine And.intro av119 ⟨_, _, rfl, (get_lt exv119), map_get exv119, rfl, ?_⟩
              refine ⟨_, _, .ref 10000 [(v118.toNat, 0)] 0 xv119.Log.length, rfl, map_get exv119, (by simp [cellsV, packD, implLink.enc]), ?_⟩
              refine ⟨lit [(2, .bptr 2 0), (3, .bptr 3 0), (4, .bptr 4 0), (8, .d (.int .i64 (xv119.Log.length : Int)))] [(2, [.ref 10000 [] 0 p0.Links.length]), (3, [.d (.int .i64 p1.Kind), .d (.int .i64 p1.K), .d (.str p1.Text)]), (4, [.nilsl])] [(10000, p0.Links.map implLink.enc)], (le_lit (And.intro (ve rfl) (And.intro (ve rfl) (And.intro (ve rfl) (And.intro (ve rfl) trivial)))) (And.intro ⟨_, rfl, (vel rfl)⟩ (And.intro ⟨_, rfl, (vel rfl)⟩ (And.intro ⟨_, rfl, (vel rfl)⟩ trivial))) (And.intro rfl trivial)), ?_⟩
              refine And.intro rfl ?_
              refine ⟨v118, ev118, fun _ => rv118, ?_⟩
              refine ⟨lit [(2, .bptr 2 0), (3, .bptr 3 0), (4, .bptr 4 0), (8, .d (.int .i64 (xv119.Log.length : Int))), (123, .bptr 2 0), (124, .ref 10000 [] 0 p0.Links.length), (125, .bptr 3 1), (127, .d (.int .i64 v118)), (128, .bptr 2 0), (129, .ref 10000 [] 0 p0.Links.length), (130, .bptr 3 1), (131, .d (.int .i64 p1.K))] [(2, [.ref 10000 [] 0 p0.Links.length]), (3, [.d (.int .i64 p1.Kind), .d (.int .i64 p1.K), .d (.str p1.Text)]), (4, [.nilsl])] [(10000, p0.Links.map implLink.enc)], (le_lit (And.intro (ve rfl) (And.intro (ve rfl) (And.intro (ve rfl) (And.intro (ve rfl) (And.intro (ve rfl) (And.intro (ve rfl) (And.intro (ve rfl) (And.intro (ve rfl) (And.intro (ve rfl) (And.intro (ve rfl) (And.intro (ve rfl) (And.intro (ve rfl) trivial)))))))))))) (And.intro ⟨_, rfl, (vel rfl)⟩ (And.intro ⟨_, rfl, (vel rfl)⟩ (And.intro ⟨_, rfl, (vel rfl)⟩ trivial))) (And.intro rfl trivial)), ?_⟩
              refine And.intro rfl ?_
              refine ⟨v118, ev118, fun _ => rv118, ?_⟩
              refine And.intro av119 ⟨_, _, rfl, (get_lt exv119), map_get exv119, rfl, ?_⟩
              refine ⟨_, _, .ref 10000 [(v118.toNat, 0)] 0 xv119.Log.length, rfl, map_get exv119, (by simp [cellsV, packD, implLink.enc]), ?_⟩
              refine ⟨lit [(2, .bptr 2 0), (3, .bptr 3 0), (4, .bptr 4 0), (8, .d (.int .i64 (xv119.Log.length : Int))), (123, .bptr 2 0), (124, .ref 10000 [] 0 p0.Links.length), (125, .bptr 3 1), (127, .d (.int .i64 v118)), (128, .bptr 2 0), (130, .bptr 3 1), (134, .aptr 10000 [] v118.toNat 0), (135, .ref 10000 [(v118.toNat, 0)] 0 xv119.Log.length), (137, .ref 10000 [] 0 p0.Links.length), (139, .d (.int .i64 p1.K))] [(2, [.ref 10000 [] 0 p0.Links.length]), (3, [.d (.int .i64 p1.Kind), .d (.int .i64 p1.K), .d (.str p1.Text)]), (4, [.nilsl])] [(10000, p0.Links.map implLink.enc)], (le_lit (And.intro (ve rfl) (And.intro (ve rfl) (And.intro (ve rfl) (And.intro (ve rfl) (And.intro (ve rfl) (And.intro (ve rfl) (And.intro (ve rfl) (And.intro (ve rfl) (And.intro (ve rfl) (And.intro (ve rfl) (And.intro (ve rfl) (And.intro (ve rfl) (And.intro (ve rfl) (And.intro (ve rfl) trivial)))))))))))))) (And.intro ⟨_, rfl, (vel rfl)⟩ (And.intro ⟨_, rfl, (vel rfl)⟩ (And.intro ⟨_, rfl, (vel rfl)⟩ trivial))) (And.intro rfl trivial)), ?_⟩
              obtain ⟨xv140, exv140, h29⟩ := bind_some h28
              clear h28
              obtain ⟨av140, exv140⟩ := ix_some exv140
              refine And.intro av140 ⟨_, _, rfl, (get_lt exv140), map_get exv140, rfl, ?_⟩
              refine ⟨_, _, .ref 10000 [(p1.K.toNat, 0)] 0 xv140.Log.length, rfl, map_get exv140, (by simp [cellsV, packD, implLink.enc]), ?_⟩
              obtain ⟨xv144, exv144, h30⟩ := bind_some h29
              clear h29
              obtain ⟨av144, exv144⟩ := ix_some exv144
              refine And.intro av144 ⟨_, _, (rowAt1 rfl (map_get exv140) rfl), (get_lt exv144), map_get exv144, rfl, ?_⟩
              refine ⟨_, _, .d (.str xv144), (rowAt1 rfl (map_get exv140) rfl), map_get exv144, rfl, ?_⟩
              refine And.intro (And.intro (And.intro (And.intro rfl trivial) (And.intro (And.intro rfl trivial) (And.intro (And.intro rfl trivial) (And.intro (And.intro rfl trivial) (And.intro (And.intro rfl trivial) trivial))))) ?_) trivial
              refine And.intro rfl ?_
              refine And.intro rfl ?_
              refine And.intro (nod rfl) (And.intro rfl ?_)
              refine ⟨lit [(2, .bptr 2 0), (3, .bptr 3 0), (4, .bptr 4 0), (8, .d (.int .i64 (xv119.Log.length : Int))), (123, .bptr 2 0), (124, .ref 10000 [] 0 p0.Links.length), (125, .bptr 3 1), (127, .d (.int .i64 v118)), (128, .bptr 2 0), (130, .bptr 3 1), (134, .aptr 10000 [] v118.toNat 0), (135, .ref 10000 [(v118.toNat, 0)] 0 xv119.Log.length), (146, .ref 146 [] 0 ([xv144].length))] [(2, [.ref 10000 [] 0 p0.Links.length]), (3, [.d (.int .i64 p1.Kind), .d (.int .i64 p1.K), .d (.str p1.Text)]), (4, [.nilsl])] [(146, [xv144].map encS), (10000, p0.Links.map implLink.enc)], (le_lit (And.intro (ve rfl) (And.intro (ve rfl) (And.intro (ve rfl) (And.intro (ve rfl) (And.intro (ve rfl) (And.intro (ve rfl) (And.intro (ve rfl) (And.intro (ve rfl) (And.intro (ve rfl) (And.intro (ve rfl) (And.intro (ve rfl) (And.intro (ve rfl) (And.intro (ve rfl) trivial))))))))))))) (And.intro ⟨_, rfl, (vel rfl)⟩ (And.intro ⟨_, rfl, (vel rfl)⟩ (And.intro ⟨_, rfl, (vel rfl)⟩ trivial))) (And.intro rfl (And.intro rfl trivial))), ?_⟩
              refine And.intro (And.intro (And.intro (And.intro rfl (some_of (rowAt1 rfl (map_get exv119) rfl))) (And.intro (And.intro rfl (some_of (rowAt1 rfl (map_get exv119) rfl))) trivial)) ?_) trivial
              obtain ⟨v147, ev147, h31⟩ := bind_some h30
              clear h30
              obtain ⟨ev147, fv147⟩ := appB_some ev147
              refine ⟨_, ([xv144].map encS), rfl, (le_whole _), (whole _), all_flat (fun _ => rfl) _, ?_⟩
              refine And.intro rfl (And.intro rfl (And.intro rfl (And.intro rfl ⟨_, _, _, rfl, (rowAt1 rfl (map_get exv119) rfl), goneRow1 (map_get exv119), ?_⟩)))
              refine ⟨_, _, _, rfl, (map_len _), (app_fit (f := encS) fv147), (all_len (f := encS) (fun _ => rfl) xv119.Log), (all_len (f := encS) (fun _ => rfl) [xv144]), rfl, map_app (f := encS) ev147, (app_len (f := encS) ev147), ?_⟩
              refine And.intro av119 ⟨_, _, rfl, (get_lt exv119), set_get (map_get exv119), rfl, ?_⟩
              refine And.intro (And.intro trivial ?_) trivial
              obtain ⟨s23, es23, h32⟩ := bind_some h31
              clear h31
              obtain ⟨es23, ls23⟩ := setN_some es23
              refine ⟨_, _, rfl, set_get (map_get exv119), ?_⟩
              refine And.intro (map_len _) ?_
              refine And.intro rfl (And.intro (nod rfl) (And.intro (nle rfl) (And.intro rfl ⟨_, ((List.set_set ..).trans (map_set (f := implLink.enc) es23 rfl)), ?_⟩)))
              refine ⟨lit [(2, .bptr 2 0), (3, .bptr 3 0), (4, .bptr 4 0), (8, .d (.int .i64 (xv119.Log.length : Int)))] [(2, [.ref 10000 [] 0 s23.length]), (3, [.d (.int .i64 p1.Kind), .d (.int .i64 p1.K), .d (.str p1.Text)]), (4, [.nilsl])] [(10000, s23.map implLink.enc)], (le_lit (And.intro (ve rfl) (And.intro (ve rfl) (And.intro (ve rfl) (And.intro (ve rfl) trivial)))) (And.intro ⟨_, rfl, (And.intro (ve (congrArg (V.ref 10000 [] 0) ls23)) trivial)⟩ (And.intro ⟨_, rfl, (vel rfl)⟩ (And.intro ⟨_, rfl, (vel rfl)⟩ trivial))) (And.intro rfl trivial)), ?_⟩
              obtain ⟨v155, ev155, h33⟩ := bind_some h32
              clear h32
              obtain ⟨ev155, rv155⟩ := ckK_some ev155
              refine And.intro rfl ?_
              refine ⟨v155, ev155, fun _ => rv155, ?_⟩
              obtain ⟨xv156, exv156, h34⟩ := bind_some h33
              clear h33
              obtain ⟨av156, exv156⟩ := ix_some exv156
              refine And.intro av156 ⟨_, _, rfl, (get_lt exv156), map_get exv156, rfl, ?_⟩
              obtain ⟨s25, es25, h35⟩ := bind_some h34
              clear h34
              obtain ⟨es25, ls25⟩ := setN_some es25
              refine ⟨_, _, rfl, map_get exv156, ?_⟩
              refine And.intro rfl ?_
              refine And.intro rfl (And.intro (nod rfl) (And.intro (nle rfl) (And.intro rfl ⟨_, (map_set (f := implLink.enc) es25 rfl), ?_⟩)))
              refine ⟨lit [(2, .bptr 2 0), (4, .bptr 4 0)] [(2, [.ref 10000 [] 0 s25.length]), (4, [.nilsl])] [(10000, s25.map implLink.enc)], (le_lit (And.intro (ve rfl) (And.intro (ve rfl) trivial)) (And.intro ⟨_, rfl, (And.intro (ve (congrArg (V.ref 10000 [] 0) ls25)) trivial)⟩ (And.intro ⟨_, rfl, (vel rfl)⟩ trivial)) (And.intro rfl trivial)), ?_⟩
              obtain ⟨v159, ev159, h36⟩ := bind_some h35
              clear h35
              refine ⟨rfl, nod rfl, rfl, rfl, _, rfl, rfl, ?_⟩
              refine ⟨_, rfl, ?_⟩
              refine (s_l15Tail_al.ok (implChain.mk s25) _ ev159).mono ?_
              rintro _ _ _ _ ⟨rfl, rfl, rfl, rfl⟩
              refine ⟨rfl, rfl, rfl, rfl, trivial, (map_len_map (s_l15Tail_al.len (implChain.mk s25) _ ev159)), ?_⟩
              refine And.intro rfl (And.intro rfl (And.intro (nle rfl) ?_))
              refine ⟨lit [(4, .bptr 4 0), (5, .d (.bool true))] [(4, [.ref 10000 [] 0 v159.Links.length])] [(10000, v159.Links.map implLink.enc)], (le_lit (And.intro (ve rfl) (And.intro (ve rfl) trivial)) (And.intro ⟨_, rfl, (vel rfl)⟩ trivial) (And.intro rfl trivial)), ?_⟩
              refine And.intro rfl ?_
              cases h36
              exact ⟨[], nod rfl, all_lt rfl, blt_lt rfl, _, _, rfl, rfl, rfl, rfl, rfl, rfl⟩
        · have h37 := if_f c18 h17
          clear h17
          refine and_f (decide_eq_false c18) ?_
          refine And.intro rfl ?_
          refine ⟨lit [(2, .bptr 2 0), (3, .bptr 3 0), (4, .bptr 4 0), (6, .d (.int .i64 (p0.Links.length : Int))), (85, .d (.int .i64 p1.Kind)), (160, .d (.bool (decide (p1.Kind = 3))))] [(2, [.ref 10000 [] 0 p0.Links.length]), (3, [.d (.int .i64 p1.Kind), .d (.int .i64 p1.K), .d (.str p1.Text)]), (4, [.nilsl])] [(10000, p0.Links.map implLink.enc)], (le_lit (And.intro (ve rfl) (And.intro (ve rfl) (And.intro (ve rfl) (And.intro (ve rfl) (And.intro (ve rfl) (And.intro (ve rfl) trivial)))))) (And.intro ⟨_, rfl, (vel rfl)⟩ (And.intro ⟨_, rfl, (vel rfl)⟩ (And.intro ⟨_, rfl, (vel rfl)⟩ trivial))) (And.intro rfl trivial)), ?_⟩
          by_cases c27 : p1.Kind = 3
          · have h38 := if_t c27 h37
            clear h37
            refine and_t (decide_eq_true c27) ?_
            refine ⟨{ g : Bool // s_l15Step_al.j3 p0 p1 g = some r }, fun g => s_l15Step_al.J3 p0 p1 g.1, ?_, ?_⟩
            · skip
              refine And.intro rfl ?_
              refine ⟨v80, ev80, fun _ => rv80, ?_⟩
              refine And.intro rfl ?_
              by_cases c28 : p1.K = v80
              · have h39 := if_t c28 h38
                clear h38
                refine and_t' (decide_eq_true c28) ?_
                refine and_t' (decide_eq_true c28) ?_
                refine and_t' (decide_eq_true c28) ?_
                refine and_t' (decide_eq_true c28) ?_
                refine ⟨lit [(2, .bptr 2 0), (3, .bptr 3 0), (4, .bptr 4 0), (167, .d (.bool (decide (p1.K = v80)))), (169, .tup []), (171, .tup [])] [(2, [.ref 10000 [] 0 p0.Links.length]), (3, [.d (.int .i64 p1.Kind), .d (.int .i64 p1.K), .d (.str p1.Text)]), (4, [.nilsl])] [(10000, p0.Links.map implLink.enc)], (le_lit (And.intro (ve rfl) (And.intro (ve rfl) (And.intro (ve rfl) (And.intro (ve rfl) (And.intro (ve rfl) (And.intro (ve rfl) trivial)))))) (And.intro ⟨_, rfl, (vel rfl)⟩ (And.intro ⟨_, rfl, (vel rfl)⟩ (And.intro ⟨_, rfl, (vel rfl)⟩ trivial))) (And.intro rfl trivial)), ?_⟩
                refine and_t' (decide_eq_true c28) ?_
                refine and_t' (decide_eq_true c28) ?_
                refine and_t' (decide_eq_true c28) ?_
                refine and_t' (decide_eq_true c28) ?_
                refine and_t' (decide_eq_true c28) ?_
                refine and_t' (decide_eq_true c28) ?_
                refine and_t' (decide_eq_true c28) ?_
                refine and_t' (decide_eq_true c28) ?_
                refine ⟨lit [(2, .bptr 2 0), (3, .bptr 3 0), (4, .bptr 4 0), (167, .d (.bool (decide (p1.K = v80)))), (175, .tup []), (177, .tup []), (179, .tup [])] [(2, [.ref 10000 [] 0 p0.Links.length]), (3, [.d (.int .i64 p1.Kind), .d (.int .i64 p1.K), .d (.str p1.Text)]), (4, [.nilsl])] [(10000, p0.Links.map implLink.enc)], (le_lit (And.intro (ve rfl) (And.intro (ve rfl) (And.intro (ve rfl) (And.intro (ve rfl) (And.intro (ve rfl) (And.intro (ve rfl) (And.intro (ve rfl) trivial))))))) (And.intro ⟨_, rfl, (vel rfl)⟩ (And.intro ⟨_, rfl, (vel rfl)⟩ (And.intro ⟨_, rfl, (vel rfl)⟩ trivial))) (And.intro rfl trivial)), ?_⟩
                refine and_t' (decide_eq_true c28) ?_
                refine and_t' (decide_eq_true c28) ?_
                refine and_t' (decide_eq_true c28) ?_
                refine and_t' (decide_eq_true c28) ?_
                refine and_t (decide_eq_true c28) ?_
                exact ⟨⟨_, h39⟩, (le_lit (And.intro (ve rfl) (And.intro (ve rfl) (And.intro (ve rfl) (And.intro (ve rfl) trivial)))) (And.intro ⟨_, rfl, (vel rfl)⟩ (And.intro ⟨_, rfl, (vel rfl)⟩ (And.intro ⟨_, rfl, (vel rfl)⟩ trivial))) (And.intro rfl trivial))⟩
              · have h40 := if_f c28 h38
                clear h38
                refine and_f' (decide_eq_false c28) ?_
                refine and_f' (decide_eq_false c28) ?_
                refine and_f' (decide_eq_false c28) ?_
                refine and_f' (decide_eq_false c28) ?_
                refine ⟨lit [(2, .bptr 2 0), (3, .bptr 3 0), (4, .bptr 4 0), (167, .d (.bool (decide (p1.K = v80)))), (169, .ref 10000 [] 0 p0.Links.length), (171, .d (.int .i64 p1.K))] [(2, [.ref 10000 [] 0 p0.Links.length]), (3, [.d (.int .i64 p1.Kind), .d (.int .i64 p1.K), .d (.str p1.Text)]), (4, [.nilsl])] [(10000, p0.Links.map implLink.enc)], (le_lit (And.intro (ve rfl) (And.intro (ve rfl) (And.intro (ve rfl) (And.intro (ve rfl) (And.intro (ve rfl) (And.intro (ve rfl) trivial)))))) (And.intro ⟨_, rfl, (vel rfl)⟩ (And.intro ⟨_, rfl, (vel rfl)⟩ (And.intro ⟨_, rfl, (vel rfl)⟩ trivial))) (And.intro rfl trivial)), ?_⟩
                obtain ⟨v172, ev172, h41⟩ := bind_some h40
                clear h40
                obtain ⟨ev172, rv172⟩ := ckK_some ev172
                refine and_f' (decide_eq_false c28) ?_
                refine And.intro rfl ?_
                refine ⟨v172, ev172, fun _ => rv172, ?_⟩
                obtain ⟨xv173, exv173, h42⟩ := bind_some h41
                clear h41
                obtain ⟨av173, exv173⟩ := ix_some exv173
                refine and_f' (decide_eq_false c28) ?_
                refine And.intro av173 ⟨_, _, rfl, (get_lt exv173), map_get exv173, rfl, ?_⟩
                refine and_f' (decide_eq_false c28) ?_
                refine and_f' (decide_eq_false c28) ?_
                refine ⟨_, _, .d (.int .i64 xv173.Sure), rfl, map_get exv173, rfl, ?_⟩
                refine and_f' (decide_eq_false c28) ?_
                refine and_f' (decide_eq_false c28) ?_
                refine and_f' (decide_eq_false c28) ?_
                refine and_f' (decide_eq_false c28) ?_
                refine ⟨lit [(2, .bptr 2 0), (3, .bptr 3 0), (4, .bptr 4 0), (167, .d (.bool (decide (p1.K = v80)))), (175, .d (.int .i64 xv173.Sure)), (177, .ref 10000 [] 0 p0.Links.length), (179, .d (.int .i64 p1.K))] [(2, [.ref 10000 [] 0 p0.Links.length]), (3, [.d (.int .i64 p1.Kind), .d (.int .i64 p1.K), .d (.str p1.Text)]), (4, [.nilsl])] [(10000, p0.Links.map implLink.enc)], (le_lit (And.intro (ve rfl) (And.intro (ve rfl) (And.intro (ve rfl) (And.intro (ve rfl) (And.intro (ve rfl) (And.intro (ve rfl) (And.intro (ve rfl) trivial))))))) (And.intro ⟨_, rfl, (vel rfl)⟩ (And.intro ⟨_, rfl, (vel rfl)⟩ (And.intro ⟨_, rfl, (vel rfl)⟩ trivial))) (And.intro rfl trivial)), ?_⟩
                obtain ⟨xv180, exv180, h43⟩ := bind_some h42
                clear h42
                obtain ⟨av180, exv180⟩ := ix_some exv180
                refine and_f' (decide_eq_false c28) ?_
                refine And.intro av180 ⟨_, _, rfl, (get_lt exv180), map_get exv180, rfl, ?_⟩
                refine and_f' (decide_eq_false c28) ?_
                refine and_f' (decide_eq_false c28) ?_
                refine ⟨_, _, .d (.int .i64 xv180.Sure), rfl, map_get exv180, rfl, ?_⟩
                refine and_f' (decide_eq_false c28) ?_
                refine And.intro rfl ?_
                refine and_f (decide_eq_false c28) ?_
                exact ⟨⟨_, h43⟩, (le_lit (And.intro (ve rfl) (And.intro (ve rfl) (And.intro (ve rfl) (And.intro (ve rfl) trivial)))) (And.intro ⟨_, rfl, (vel rfl)⟩ (And.intro ⟨_, rfl, (vel rfl)⟩ (And.intro ⟨_, rfl, (vel rfl)⟩ trivial))) (And.intro rfl trivial))⟩
            · rintro ⟨x184_3, h44⟩
              change s_l15Step_al.j3 p0 p1 x184_3 = some r at h44
              change wMC _ _ _ (s_l15Step_al.J3 p0 p1 x184_3)
              unfold s_l15Step_al.j3 at h44
              clear h38
              by_cases c29 : x184_3 = true
              · have h45 := if_t c29 h44
                clear h44
                refine and_t c29 ?_
                refine And.intro rfl (And.intro rfl (And.intro (nle rfl) ?_))
                refine And.intro rfl ?_
                cases h45
                exact ⟨[], nod rfl, all_lt rfl, blt_lt rfl, _, _, rfl, rfl, rfl, rfl, rfl, rfl⟩
              · have h46 := if_f c29 h44
                clear h44
                refine and_f (ne_t c29) ?_
                refine ⟨lit [(2, .bptr 2 0), (3, .bptr 3 0), (4, .bptr 4 0)] [(2, [.ref 10000 [] 0 p0.Links.length]), (3, [.d (.int .i64 p1.Kind), .d (.int .i64 p1.K), .d (.str p1.Text)]), (4, [.nilsl])] [(10000, p0.Links.map implLink.enc)], (le_lit (And.intro (ve rfl) (And.intro (ve rfl) (And.intro (ve rfl) trivial))) (And.intro ⟨_, rfl, (vel rfl)⟩ (And.intro ⟨_, rfl, (vel rfl)⟩ (And.intro ⟨_, rfl, (vel rfl)⟩ trivial))) (And.intro rfl trivial)), ?_⟩
                refine ⟨lit [(2, .bptr 2 0), (4, .bptr 4 0), (187, .ref 10000 [] 0 p0.Links.length), (189, .d (.int .i64 p1.K)), (191, .ref 10000 [] 0 p0.Links.length), (193, .d (.int .i64 p1.K))] [(2, [.ref 10000 [] 0 p0.Links.length]), (4, [.nilsl])] [(10000, p0.Links.map implLink.enc)], (le_lit (And.intro (ve rfl) (And.intro (ve rfl) (And.intro (ve rfl) (And.intro (ve rfl) (And.intro (ve rfl) (And.intro (ve rfl) trivial)))))) (And.intro ⟨_, rfl, (vel rfl)⟩ (And.intro ⟨_, rfl, (vel rfl)⟩ trivial)) (And.intro rfl trivial)), ?_⟩
                obtain ⟨v194, ev194, h47⟩ := bind_some h46
                clear h46
                obtain ⟨ev194, rv194⟩ := ckK_some ev194
                refine And.intro rfl ?_
                refine ⟨v194, ev194, fun _ => rv194, ?_⟩
                obtain ⟨xv195, exv195, h48⟩ := bind_some h47
                clear h47
                obtain ⟨av195, exv195⟩ := ix_some exv195
                refine And.intro av195 ⟨_, _, rfl, (get_lt exv195), map_get exv195, rfl, ?_⟩
                refine ⟨_, _, .d (.int .i64 xv195.Sure), rfl, map_get exv195, rfl, ?_⟩
                obtain ⟨xv198, exv198, h49⟩ := bind_some h48
                clear h48
                obtain ⟨av198, exv198⟩ := ix_some exv198
                refine And.intro av198 ⟨_, _, rfl, (get_lt exv198), map_get exv198, rfl, ?_⟩
                refine And.intro (And.intro trivial ?_) trivial
                obtain ⟨s32, es32, h50⟩ := bind_some h49
                clear h49
                obtain ⟨es32, ls32⟩ := setN_some es32
                refine ⟨_, _, rfl, map_get exv198, ?_⟩
                refine And.intro rfl ?_
                refine And.intro rfl (And.intro (nod rfl) (And.intro (nle rfl) (And.intro rfl ⟨_, (map_set (f := implLink.enc) es32 rfl), ?_⟩)))
                refine ⟨lit [(2, .bptr 2 0), (4, .bptr 4 0)] [(2, [.ref 10000 [] 0 s32.length]), (4, [.nilsl])] [(10000, s32.map implLink.enc)], (le_lit (And.intro (ve rfl) (And.intro (ve rfl) trivial)) (And.intro ⟨_, rfl, (And.intro (ve (congrArg (V.ref 10000 [] 0) ls32)) trivial)⟩ (And.intro ⟨_, rfl, (vel rfl)⟩ trivial)) (And.intro rfl trivial)), ?_⟩
                refine And.intro rfl (And.intro rfl (And.intro (nle rfl) ?_))
                refine And.intro rfl ?_
                cases h50
                exact ⟨[], nod rfl, all_lt rfl, blt_lt rfl, _, _, rfl, rfl, rfl, rfl, rfl, rfl⟩
          · have h51 := if_f c27 h37
            clear h37
            refine and_f (decide_eq_false c27) ?_
            refine And.intro rfl ?_
            refine ⟨lit [(2, .bptr 2 0), (3, .bptr 3 0), (4, .bptr 4 0), (6, .d (.int .i64 (p0.Links.length : Int))), (201, .d (.bool (decide (p1.Kind = 4))))] [(2, [.ref 10000 [] 0 p0.Links.length]), (3, [.d (.int .i64 p1.Kind), .d (.int .i64 p1.K), .d (.str p1.Text)]), (4, [.nilsl])] [(10000, p0.Links.map implLink.enc)], (le_lit (And.intro (ve rfl) (And.intro (ve rfl) (And.intro (ve rfl) (And.intro (ve rfl) (And.intro (ve rfl) trivial))))) (And.intro ⟨_, rfl, (vel rfl)⟩ (And.intro ⟨_, rfl, (vel rfl)⟩ (And.intro ⟨_, rfl, (vel rfl)⟩ trivial))) (And.intro rfl trivial)), ?_⟩
            by_cases c34 : p1.Kind = 4
            · have h52 := if_t c34 h51
              clear h51
              refine and_t (decide_eq_true c34) ?_
              cases h52
            · have h53 := if_f c34 h51
              clear h51
              refine and_f (decide_eq_false c34) ?_
              refine And.intro rfl (And.intro rfl (And.intro (nle rfl) ?_))
              refine And.intro rfl ?_
              cases h53
              exact ⟨[], nod rfl, all_lt rfl, blt_lt rfl, _, _, rfl, rfl, rfl, rfl, rfl, rfl⟩
      · have h54 := if_f c16 h16
        clear h16
        refine and_t (not_t (ne_t c16)) ?_
        refine And.intro rfl (And.intro rfl (And.intro (nle rfl) ?_))
        refine And.intro rfl ?_
        cases h54
        exact ⟨[], nod rfl, all_lt rfl, blt_lt rfl, _, _, rfl, rfl, rfl, rfl, rfl, rfl⟩
end Go.Vm
end
section
set_option maxRecDepth 4000
set_option maxHeartbeats 1000000
namespace Go.Vm
open Go.Proofs
/- loop.example/g00300/spec.DrainChain -/
def s_DrainChain.code : MC :=
 (.seq
  (.keep [1, 2] (.reg [⟨(some 1), none, .box (.t 0)⟩, ⟨(some 2), none, .box (.v (.agg [.nilsl]))⟩, ⟨(some 3), none, .mov (.v (.d (.int .i64 0)))⟩, ⟨(some 4), none, .mov (.v (.d (.bool false)))⟩]))
  (.norm (.seq
   (.seq
    (.keep [1, 2, 14] (.reg [⟨(some 12), none, .load true 1 (.t 1)⟩, ⟨(some 13), none, .call (.v (.clos 35 [])) [.t 12] [] []⟩, ⟨(some 14), none, .un .not (.t 13)⟩]))
    (.norm (.cond (.t 14)
     (.seq
      (.keep [2, 3, 4] (.reg [⟨(some 15), none, .build [.nilsl] []⟩, ⟨none, none, .store 1 (.t 2) (.t 15)⟩, ⟨(some 3), none, .mov (.v (.d (.int .i64 0)))⟩, ⟨(some 4), none, .mov (.v (.d (.bool false)))⟩]))
      (.adopt 2 0 9000 .ret))
     .skip)))
   (.norm (.seq
    (.keep [1, 2] (.reg [⟨(some 16), none, .load true 1 (.t 1)⟩, ⟨(some 17), none, .call (.v (.clos 42 [])) [.t 16] [] [17]⟩, ⟨none, none, .store 1 (.t 1) (.t 17)⟩]))
    (.norm (.seq
     (.keep [1, 2, 5] (.reg [⟨(some 5), none, .mov (.v (.d (.int .i64 0)))⟩]))
     (.norm (.cut
      (.seq
       (.keep [1, 2, 5, 6] (.reg [⟨(some 6), none, .mov (.v (.d (.int .i64 0)))⟩]))
       (.norm (.block 0
        (.loop
         (.seq
          (.seq
           (.keep [1, 2, 5, 6, 23] (.reg [⟨(some 18), none, .mov (.t 6)⟩, ⟨(some 19), none, .fld 0 (.t 1)⟩, ⟨(some 20), none, .load false 1 (.t 19)⟩, ⟨(some 21), none, .len (.t 20)⟩, ⟨(some 22), none, .bin true .sub (.t 21) (.v (.d (.int .i64 1)))⟩, ⟨(some 23), none, .bin true .lss (.t 18) (.t 22)⟩]))
           (.norm (.cond (.t 23)
            .skip
            (.exit 0))))
          (.norm (.cut
           (.block 1
            (.block 2
             (.loop
              (.block 3
               (.seq
                (.keep [1, 2, 5, 6, 7, 8] (.reg [⟨(some 27), none, .load true 1 (.t 1)⟩, ⟨(some 28), none, .mov (.t 6)⟩, ⟨(some 29), none, .build [.d (.int .i64 0), .d (.int .i64 0), .d (.str [])] [(0, 1, .v (.d (.int .i64 2))), (1, 1, .t 28)]⟩, ⟨(some 30), none, .call (.v (.clos 43 [])) [.t 27, .t 29] [true] []⟩, ⟨(some 26), none, .mov (.t 30)⟩, ⟨(some 31), none, .ext (.t 26) 0⟩, ⟨(some 32), none, .ext (.t 26) 1⟩, ⟨none, none, .nrm⟩, ⟨(some 7), none, .box (.v (.agg [.nilsl]))⟩, ⟨none, none, .store 1 (.t 7) (.t 31)⟩, ⟨(some 8), none, .mov (.t 32)⟩]))
                (.norm (.seq
                 (.seq
                  (.keep [1, 2, 5, 6, 7, 34] (.reg [⟨(some 33), none, .mov (.t 8)⟩, ⟨(some 34), none, .un .not (.t 33)⟩]))
                  (.norm (.cond (.t 34)
                   (.exit 2)
                   .skip)))
                 (.norm (.seq
                  (.keep [1, 2, 5, 6] (.reg [⟨(some 35), none, .load true 1 (.t 7)⟩, ⟨none, none, .store 1 (.t 1) (.t 35)⟩]))
                  (.norm (.keep [1, 2, 5, 6] (.reg [⟨(some 36), none, .mov (.t 5)⟩, ⟨(some 37), none, .bin true .add (.t 36) (.v (.d (.int .i64 1)))⟩, ⟨(some 5), none, .mov (.t 37)⟩]))))))))))))
           (.keep [1, 2, 5, 6] (.reg [⟨(some 24), none, .mov (.t 6)⟩, ⟨(some 25), none, .bin true .add (.t 24) (.v (.d (.int .i64 1)))⟩, ⟨(some 6), none, .mov (.t 25)⟩])))))))))
      (.cut
       (.seq
        (.keep [1, 2, 5, 9] (.reg [⟨(some 38), none, .fld 0 (.t 1)⟩, ⟨(some 39), none, .load false 1 (.t 38)⟩, ⟨(some 40), none, .len (.t 39)⟩, ⟨(some 41), none, .bin true .sub (.t 40) (.v (.d (.int .i64 2)))⟩, ⟨(some 9), none, .mov (.t 41)⟩]))
        (.norm (.block 4
         (.loop
          (.seq
           (.seq
            (.keep [1, 2, 5, 9, 43] (.reg [⟨(some 42), none, .mov (.t 9)⟩, ⟨(some 43), none, .bin true .geq (.t 42) (.v (.d (.int .i64 0)))⟩]))
            (.norm (.cond (.t 43)
             .skip
             (.exit 4))))
           (.norm (.cut
            (.block 5
             (.seq
              (.keep [1, 2, 5, 9, 10, 11] (.reg [⟨(some 47), none, .load true 1 (.t 1)⟩, ⟨(some 48), none, .mov (.t 9)⟩, ⟨(some 49), none, .build [.d (.int .i64 0), .d (.int .i64 0), .d (.str [])] [(0, 1, .v (.d (.int .i64 3))), (1, 1, .t 48)]⟩, ⟨(some 50), none, .call (.v (.clos 43 [])) [.t 47, .t 49] [true] []⟩, ⟨(some 46), none, .mov (.t 50)⟩, ⟨(some 51), none, .ext (.t 46) 0⟩, ⟨(some 52), none, .ext (.t 46) 1⟩, ⟨none, none, .nrm⟩, ⟨(some 10), none, .box (.v (.agg [.nilsl]))⟩, ⟨none, none, .store 1 (.t 10) (.t 51)⟩, ⟨(some 11), none, .mov (.t 52)⟩]))
              (.norm (.seq
               (.keep [1, 2, 5, 9, 10, 53] (.reg [⟨(some 53), none, .mov (.t 11)⟩]))
               (.norm (.cond (.t 53)
                (.seq
                 (.keep [1, 2, 5, 9] (.reg [⟨(some 54), none, .load true 1 (.t 10)⟩, ⟨none, none, .store 1 (.t 1) (.t 54)⟩]))
                 (.norm (.keep [1, 2, 5, 9] (.reg [⟨(some 55), none, .mov (.t 5)⟩, ⟨(some 56), none, .bin true .add (.t 55) (.v (.d (.int .i64 1)))⟩, ⟨(some 5), none, .mov (.t 56)⟩]))))
                .skip))))))
            (.keep [1, 2, 5, 9] (.reg [⟨(some 44), none, .mov (.t 9)⟩, ⟨(some 45), none, .bin true .sub (.t 44) (.v (.d (.int .i64 1)))⟩, ⟨(some 9), none, .mov (.t 45)⟩])))))))))
       (.seq
        (.keep [2, 3, 4] (.reg [⟨(some 57), none, .load true 1 (.t 1)⟩, ⟨(some 58), none, .mov (.t 5)⟩, ⟨none, none, .store 1 (.t 2) (.t 57)⟩, ⟨(some 3), none, .mov (.t 58)⟩, ⟨(some 4), none, .mov (.v (.d (.bool true)))⟩]))
        (.adopt 2 0 9000 .ret))))))))))))
theorem s_DrainChain.chk : chkFn Try.prog 10 1 s_DrainChain.code [.cell true 1 2, .tmp 3, .tmp 4] = true := by kernel_rfl
def s_DrainChain.j10 (a17_10 : (List implLink)) (x5_10 : Int) : Option (implChain × Int × Bool) :=
  some ((implChain.mk a17_10), x5_10, true)
def s_DrainChain.J10 (a17_10 : (List implLink)) (x5_10 : Int) : St :=
  lit [(1, .bptr 1 0), (2, .bptr 2 0), (5, .d (.int .i64 x5_10))] [(1, [.ref 17 [] 0 a17_10.length]), (2, [.nilsl])] [(17, a17_10.map implLink.enc)]
def s_DrainChain.j9 (x9_l7 : Int) (nx7 : (List implLink) → Int → Int → Option ((List implLink) × Int)) (a17_9 : (List implLink)) (x5_9 : Int) : Option ((List implLink) × Int) :=
  (ckK .i64 (x9_l7 - 1)).bind fun v45 => nx7 a17_9 x5_9 v45
def s_DrainChain.J9 (x9_l7 : Int) (a17_9 : (List implLink)) (x5_9 : Int) : St :=
  lit [(1, .bptr 1 0), (2, .bptr 2 0), (5, .d (.int .i64 x5_9)), (9, .d (.int .i64 x9_l7))] [(1, [.ref 17 [] 0 a17_9.length]), (2, [.nilsl])] [(17, a17_9.map implLink.enc)]
def s_DrainChain.l7 : Nat → (List implLink) → Int → Int → Option ((List implLink) × Int)
  | 0, _, _, _ => none
  | k + 1, a17_l7, x5_l7, x9_l7 => if 0 ≤ x9_l7 then ((s_l15Step_al (implChain.mk a17_l7) (implChainStep.mk 3 x9_l7 [])).bind fun v50 => if v50.2 = true then ((ckK .i64 (x5_l7 + 1)).bind fun v56 => s_DrainChain.j9 x9_l7 (s_DrainChain.l7 k) v50.1.Links v56) else (s_DrainChain.j9 x9_l7 (s_DrainChain.l7 k) v50.1.Links x5_l7)) else (some (a17_l7, x5_l7))
def s_DrainChain.S7 (a17_l7 : (List implLink)) (x5_l7 : Int) (x9_l7 : Int) : St :=
  lit [(1, .bptr 1 0), (2, .bptr 2 0), (5, .d (.int .i64 x5_l7)), (9, .d (.int .i64 x9_l7))] [(1, [.ref 17 [] 0 a17_l7.length]), (2, [.nilsl])] [(17, a17_l7.map implLink.enc)]
def s_DrainChain.O7 (o7 : (List implLink) × Int) : St :=
  lit [(1, .bptr 1 0), (2, .bptr 2 0), (5, .d (.int .i64 o7.2))] [(1, [.ref 17 [] 0 o7.1.length]), (2, [.nilsl])] [(17, o7.1.map implLink.enc)]
def s_DrainChain.j6 (a17_6 : (List implLink)) (x5_6 : Int) : Option (implChain × Int × Bool) :=
  (ckK .i64 ((a17_6.length : Int) - 2)).bind fun v41 => (s_DrainChain.l7 big a17_6 x5_6 v41).bind fun o7 => s_DrainChain.j10 o7.1 o7.2
def s_DrainChain.J6 (a17_6 : (List implLink)) (x5_6 : Int) : St :=
  lit [(1, .bptr 1 0), (2, .bptr 2 0), (5, .d (.int .i64 x5_6))] [(1, [.ref 17 [] 0 a17_6.length]), (2, [.nilsl])] [(17, a17_6.map implLink.enc)]
def s_DrainChain.j5 (x6_l1 : Int) (nx1 : (List implLink) → Int → Int → Option ((List implLink) × Int)) (a17_5 : (List implLink)) (x5_5 : Int) : Option ((List implLink) × Int) :=
  (ckK .i64 (x6_l1 + 1)).bind fun v25 => nx1 a17_5 x5_5 v25
def s_DrainChain.J5 (x6_l1 : Int) (a17_5 : (List implLink)) (x5_5 : Int) : St :=
  lit [(1, .bptr 1 0), (2, .bptr 2 0), (5, .d (.int .i64 x5_5)), (6, .d (.int .i64 x6_l1))] [(1, [.ref 17 [] 0 a17_5.length]), (2, [.nilsl])] [(17, a17_5.map implLink.enc)]
def s_DrainChain.l4 (x6_l1 : Int) : Nat → (List implLink) → Int → Option ((List implLink) × Int)
  | 0, _, _ => none
  | k + 1, a17_l4, x5_l4 => (s_l15Step_al (implChain.mk a17_l4) (implChainStep.mk 2 x6_l1 [])).bind fun v30 => if v30.2 = true then ((ckK .i64 (x5_l4 + 1)).bind fun v37 => (s_DrainChain.l4 x6_l1 k) v30.1.Links v37) else (some (v30.1.Links, x5_l4))
def s_DrainChain.S4 (x6_l1 : Int) (a17_l4 : (List implLink)) (x5_l4 : Int) : St :=
  lit [(1, .bptr 1 0), (2, .bptr 2 0), (5, .d (.int .i64 x5_l4)), (6, .d (.int .i64 x6_l1))] [(1, [.ref 17 [] 0 a17_l4.length]), (2, [.nilsl])] [(17, a17_l4.map implLink.enc)]
def s_DrainChain.O4 (x6_l1 : Int) (o4 : (List implLink) × Int) : St :=
  lit [(1, .bptr 1 0), (2, .bptr 2 0), (5, .d (.int .i64 o4.2)), (6, .d (.int .i64 x6_l1))] [(1, [.ref 17 [] 0 o4.1.length]), (2, [.nilsl])] [(17, o4.1.map implLink.enc)]
def s_DrainChain.l1 : Nat → (List implLink) → Int → Int → Option ((List implLink) × Int)
  | 0, _, _, _ => none
  | k + 1, a17_l1, x5_l1, x6_l1 => (ckK .i64 ((a17_l1.length : Int) - 1)).bind fun v22 => if x6_l1 < v22 then ((s_DrainChain.l4 x6_l1 big a17_l1 x5_l1).bind fun o4 => s_DrainChain.j5 x6_l1 (s_DrainChain.l1 k) o4.1 o4.2) else (some (a17_l1, x5_l1))
def s_DrainChain.S1 (a17_l1 : (List implLink)) (x5_l1 : Int) (x6_l1 : Int) : St :=
  lit [(1, .bptr 1 0), (2, .bptr 2 0), (5, .d (.int .i64 x5_l1)), (6, .d (.int .i64 x6_l1))] [(1, [.ref 17 [] 0 a17_l1.length]), (2, [.nilsl])] [(17, a17_l1.map implLink.enc)]
def s_DrainChain.O1 (o1 : (List implLink) × Int) : St :=
  lit [(1, .bptr 1 0), (2, .bptr 2 0), (5, .d (.int .i64 o1.2))] [(1, [.ref 17 [] 0 o1.1.length]), (2, [.nilsl])] [(17, o1.1.map implLink.enc)]
def s_DrainChain (p0 : implChain) : Option (implChain × Int × Bool) :=
  (s_GoodChain p0).bind fun v13 => if v13 = true then ((s_l15Own p0).bind fun v17 => (s_DrainChain.l1 big v17.Links 0 0).bind fun o1 => s_DrainChain.j6 o1.1 o1.2) else (some ((implChain.mk []), 0, false))
theorem s_DrainChain.ok (p0 : implChain) (r : implChain × Int × Bool) (h0 : s_DrainChain p0 = some r) : ACall Try.prog 10 [.agg [.d (.sl (p0.Links.map implLink.enc))]] [] [] (fun v ob oa na => v = .tup [.agg [.ref 0 [] 0 r.1.Links.length], .d (.int .i64 r.2.1), .d (.bool r.2.2)] ∧ ob = [] ∧ oa = [] ∧ na = [r.1.Links.map implLink.enc]) := by
  refine wFn_ok s_DrainChain.chk rfl ?_
  unfold s_DrainChain at h0
  refine And.intro rfl ?_
  refine And.intro rfl ?_
  refine ⟨lit [(1, .bptr 1 0), (2, .bptr 2 0)] [(1, [.d (.sl (p0.Links.map implLink.enc))]), (2, [.nilsl])] [], (le_lit (And.intro (ve rfl) (And.intro (ve rfl) trivial)) (And.intro ⟨_, rfl, (vel rfl)⟩ (And.intro ⟨_, rfl, (vel rfl)⟩ trivial)) trivial), ?_⟩
  obtain ⟨v13, ev13, h1⟩ := bind_some h0
  clear h0
  refine ⟨rfl, nod rfl, rfl, rfl, _, rfl, rfl, ?_⟩
  refine (s_GoodChain.ok p0 _ ev13).mono ?_
  rintro _ _ _ _ ⟨rfl, rfl, rfl, rfl⟩
  refine ⟨rfl, rfl, rfl, rfl, trivial, trivial, ?_⟩
  refine ⟨lit [(1, .bptr 1 0), (2, .bptr 2 0), (14, .d (.bool (!v13)))] [(1, [.d (.sl (p0.Links.map implLink.enc))]), (2, [.nilsl])] [], (le_lit (And.intro (ve rfl) (And.intro (ve rfl) (And.intro (ve rfl) trivial))) (And.intro ⟨_, rfl, (vel rfl)⟩ (And.intro ⟨_, rfl, (vel rfl)⟩ trivial)) trivial), ?_⟩
  by_cases c1 : v13 = true
  · have h2 := if_t c1 h1
    clear h1
    refine and_f (not_f c1) ?_
    refine ⟨lit [(1, .bptr 1 0), (2, .bptr 2 0)] [(1, [.d (.sl (p0.Links.map implLink.enc))]), (2, [.nilsl])] [], (le_lit (And.intro (ve rfl) (And.intro (ve rfl) trivial)) (And.intro ⟨_, rfl, (vel rfl)⟩ (And.intro ⟨_, rfl, (vel rfl)⟩ trivial)) trivial), ?_⟩
    obtain ⟨v17, ev17, h3⟩ := bind_some h2
    clear h2
    refine ⟨rfl, nod rfl, rfl, rfl, _, rfl, rfl, ?_⟩
    refine (s_l15Own.ok p0 _ ev17).mono ?_
    rintro _ _ _ _ ⟨rfl, rfl, rfl, rfl⟩
    refine ⟨rfl, rfl, rfl, rfl, trivial, trivial, ?_⟩
    refine And.intro rfl (And.intro rfl (And.intro (nle rfl) ?_))
    refine ⟨lit [(1, .bptr 1 0), (2, .bptr 2 0)] [(1, [.ref 17 [] 0 v17.Links.length]), (2, [.nilsl])] [(17, v17.Links.map implLink.enc)], (le_lit (And.intro (ve rfl) (And.intro (ve rfl) trivial)) (And.intro ⟨_, rfl, (vel rfl)⟩ (And.intro ⟨_, rfl, (vel rfl)⟩ trivial)) (And.intro rfl trivial)), ?_⟩
    refine ⟨lit [(1, .bptr 1 0), (2, .bptr 2 0), (5, .d (.int .i64 0))] [(1, [.ref 17 [] 0 v17.Links.length]), (2, [.nilsl])] [(17, v17.Links.map implLink.enc)], (le_lit (And.intro (ve rfl) (And.intro (ve rfl) (And.intro (ve rfl) trivial))) (And.intro ⟨_, rfl, (vel rfl)⟩ (And.intro ⟨_, rfl, (vel rfl)⟩ trivial)) (And.intro rfl trivial)), ?_⟩
    refine ⟨{ g : (List implLink) × Int // s_DrainChain.j6 g.1 g.2 = some r }, fun g => s_DrainChain.J6 g.1.1 g.1.2, ?_, ?_⟩
    · skip
      refine ⟨lit [(1, .bptr 1 0), (2, .bptr 2 0), (5, .d (.int .i64 0)), (6, .d (.int .i64 0))] [(1, [.ref 17 [] 0 v17.Links.length]), (2, [.nilsl])] [(17, v17.Links.map implLink.enc)], (le_lit (And.intro (ve rfl) (And.intro (ve rfl) (And.intro (ve rfl) (And.intro (ve rfl) trivial)))) (And.intro ⟨_, rfl, (vel rfl)⟩ (And.intro ⟨_, rfl, (vel rfl)⟩ trivial)) (And.intro rfl trivial)), ?_⟩
      obtain ⟨o1, e1, h4⟩ := bind_some h3
      clear h3
      refine ⟨{ g : Nat × (List implLink) × Int × Int // s_DrainChain.l1 g.1 g.2.1 g.2.2.1 g.2.2.2 = some o1 }, fun g => s_DrainChain.S1 g.1.2.1 g.1.2.2.1 g.1.2.2.2, fun g => g.1.1, ⟨(big, v17.Links, 0, 0), e1⟩, (le_lit (And.intro (ve rfl) (And.intro (ve rfl) (And.intro (ve rfl) (And.intro (ve rfl) trivial)))) (And.intro ⟨_, rfl, (vel rfl)⟩ (And.intro ⟨_, rfl, (vel rfl)⟩ trivial)) (And.intro rfl trivial)), ?_⟩
      rintro ⟨⟨k1, a17_l1, x5_l1, x6_l1⟩, h5⟩
      change s_DrainChain.l1 k1 a17_l1 x5_l1 x6_l1 = some o1 at h5
      change wMC _ _ _ (s_DrainChain.S1 a17_l1 x5_l1 x6_l1)
      cases k1 with
      | zero => rw [s_DrainChain.l1] at h5; cases h5
      | succ k1 =>
        rw [s_DrainChain.l1] at h5
        obtain ⟨v22, ev22, h6⟩ := bind_some h5
        clear h5
        obtain ⟨ev22, rv22⟩ := ckK_some ev22
        refine And.intro rfl ?_
        refine ⟨v22, ev22, fun _ => rv22, ?_⟩
        refine And.intro rfl ?_
        refine ⟨lit [(1, .bptr 1 0), (2, .bptr 2 0), (5, .d (.int .i64 x5_l1)), (6, .d (.int .i64 x6_l1)), (23, .d (.bool (decide (x6_l1 < v22))))] [(1, [.ref 17 [] 0 a17_l1.length]), (2, [.nilsl])] [(17, a17_l1.map implLink.enc)], (le_lit (And.intro (ve rfl) (And.intro (ve rfl) (And.intro (ve rfl) (And.intro (ve rfl) (And.intro (ve rfl) trivial))))) (And.intro ⟨_, rfl, (vel rfl)⟩ (And.intro ⟨_, rfl, (vel rfl)⟩ trivial)) (And.intro rfl trivial)), ?_⟩
        by_cases c11 : x6_l1 < v22
        · have h7 := if_t c11 h6
          clear h6
          refine and_t (decide_eq_true c11) ?_
          refine ⟨lit [(1, .bptr 1 0), (2, .bptr 2 0), (5, .d (.int .i64 x5_l1)), (6, .d (.int .i64 x6_l1))] [(1, [.ref 17 [] 0 a17_l1.length]), (2, [.nilsl])] [(17, a17_l1.map implLink.enc)], (le_lit (And.intro (ve rfl) (And.intro (ve rfl) (And.intro (ve rfl) (And.intro (ve rfl) trivial)))) (And.intro ⟨_, rfl, (vel rfl)⟩ (And.intro ⟨_, rfl, (vel rfl)⟩ trivial)) (And.intro rfl trivial)), ?_⟩
          refine ⟨{ g : (List implLink) × Int // s_DrainChain.j5 x6_l1 (s_DrainChain.l1 k1) g.1 g.2 = some o1 }, fun g => s_DrainChain.J5 x6_l1 g.1.1 g.1.2, ?_, ?_⟩
          · skip
            obtain ⟨o4, e4, h8⟩ := bind_some h7
            clear h7
            refine ⟨{ g : Nat × (List implLink) × Int // s_DrainChain.l4 x6_l1 g.1 g.2.1 g.2.2 = some o4 }, fun g => s_DrainChain.S4 x6_l1 g.1.2.1 g.1.2.2, fun g => g.1.1, ⟨(big, a17_l1, x5_l1), e4⟩, (le_lit (And.intro (ve rfl) (And.intro (ve rfl) (And.intro (ve rfl) (And.intro (ve rfl) trivial)))) (And.intro ⟨_, rfl, (vel rfl)⟩ (And.intro ⟨_, rfl, (vel rfl)⟩ trivial)) (And.intro rfl trivial)), ?_⟩
            rintro ⟨⟨k4, a17_l4, x5_l4⟩, h9⟩
            change s_DrainChain.l4 x6_l1 k4 a17_l4 x5_l4 = some o4 at h9
            change wMC _ _ _ (s_DrainChain.S4 x6_l1 a17_l4 x5_l4)
            cases k4 with
            | zero => rw [s_DrainChain.l4] at h9; cases h9
            | succ k4 =>
              rw [s_DrainChain.l4] at h9
              refine And.intro rfl (And.intro rfl (And.intro (nle rfl) ?_))
              refine And.intro rfl (And.intro rfl (And.intro (nle rfl) ?_))
              obtain ⟨v30, ev30, h10⟩ := bind_some h9
              clear h9
              refine ⟨rfl, nod rfl, rfl, rfl, _, rfl, rfl, ?_⟩
              refine ⟨_, rfl, ?_⟩
              refine (s_l15Step_al.ok (implChain.mk a17_l4) (implChainStep.mk 2 x6_l1 []) _ ev30).mono ?_
              rintro _ _ _ _ ⟨rfl, rfl, rfl, rfl⟩
              refine ⟨rfl, rfl, rfl, rfl, trivial, (map_len_map (s_l15Step_al.len (implChain.mk a17_l4) (implChainStep.mk 2 x6_l1 []) _ ev30)), ?_⟩
              refine ⟨lit [(1, .bptr 1 0), (2, .bptr 2 0), (5, .d (.int .i64 x5_l4)), (6, .d (.int .i64 x6_l1)), (31, .agg [.ref 17 [] 0 v30.1.Links.length]), (32, .d (.bool v30.2))] [(1, [.ref 17 [] 0 v30.1.Links.length]), (2, [.nilsl])] [(17, v30.1.Links.map implLink.enc)], (le_lit (And.intro (ve rfl) (And.intro (ve rfl) (And.intro (ve rfl) (And.intro (ve rfl) (And.intro (ve rfl) (And.intro (ve rfl) trivial)))))) (And.intro ⟨_, rfl, (And.intro (ve (congrArg (V.ref 17 [] 0) (s_l15Step_al.len (implChain.mk a17_l4) (implChainStep.mk 2 x6_l1 []) _ ev30).symm)) trivial)⟩ (And.intro ⟨_, rfl, (vel rfl)⟩ trivial)) (And.intro rfl trivial)), ?_⟩
              refine And.intro rfl ?_
              refine And.intro rfl (And.intro rfl (And.intro (nle rfl) ?_))
              refine ⟨lit [(1, .bptr 1 0), (2, .bptr 2 0), (5, .d (.int .i64 x5_l4)), (6, .d (.int .i64 x6_l1)), (7, .bptr 7 0), (8, .d (.bool v30.2))] [(1, [.ref 17 [] 0 v30.1.Links.length]), (2, [.nilsl]), (7, [.ref 17 [] 0 v30.1.Links.length])] [(17, v30.1.Links.map implLink.enc)], (le_lit (And.intro (ve rfl) (And.intro (ve rfl) (And.intro (ve rfl) (And.intro (ve rfl) (And.intro (ve rfl) (And.intro (ve rfl) trivial)))))) (And.intro ⟨_, rfl, (vel rfl)⟩ (And.intro ⟨_, rfl, (vel rfl)⟩ (And.intro ⟨_, rfl, (vel rfl)⟩ trivial))) (And.intro rfl trivial)), ?_⟩
              refine ⟨lit [(1, .bptr 1 0), (2, .bptr 2 0), (5, .d (.int .i64 x5_l4)), (6, .d (.int .i64 x6_l1)), (7, .bptr 7 0), (34, .d (.bool (!v30.2)))] [(1, [.ref 17 [] 0 v30.1.Links.length]), (2, [.nilsl]), (7, [.ref 17 [] 0 v30.1.Links.length])] [(17, v30.1.Links.map implLink.enc)], (le_lit (And.intro (ve rfl) (And.intro (ve rfl) (And.intro (ve rfl) (And.intro (ve rfl) (And.intro (ve rfl) (And.intro (ve rfl) trivial)))))) (And.intro ⟨_, rfl, (vel rfl)⟩ (And.intro ⟨_, rfl, (vel rfl)⟩ (And.intro ⟨_, rfl, (vel rfl)⟩ trivial))) (And.intro rfl trivial)), ?_⟩
              by_cases c16 : v30.2 = true
              · have h11 := if_t c16 h10
                clear h10
                refine and_f (not_f c16) ?_
                refine ⟨lit [(1, .bptr 1 0), (2, .bptr 2 0), (5, .d (.int .i64 x5_l4)), (6, .d (.int .i64 x6_l1)), (7, .bptr 7 0)] [(1, [.ref 17 [] 0 v30.1.Links.length]), (2, [.nilsl]), (7, [.ref 17 [] 0 v30.1.Links.length])] [(17, v30.1.Links.map implLink.enc)], (le_lit (And.intro (ve rfl) (And.intro (ve rfl) (And.intro (ve rfl) (And.intro (ve rfl) (And.intro (ve rfl) trivial))))) (And.intro ⟨_, rfl, (vel rfl)⟩ (And.intro ⟨_, rfl, (vel rfl)⟩ (And.intro ⟨_, rfl, (vel rfl)⟩ trivial))) (And.intro rfl trivial)), ?_⟩
                refine And.intro rfl (And.intro rfl (And.intro (nle rfl) ?_))
                refine ⟨lit [(1, .bptr 1 0), (2, .bptr 2 0), (5, .d (.int .i64 x5_l4)), (6, .d (.int .i64 x6_l1))] [(1, [.ref 17 [] 0 v30.1.Links.length]), (2, [.nilsl])] [(17, v30.1.Links.map implLink.enc)], (le_lit (And.intro (ve rfl) (And.intro (ve rfl) (And.intro (ve rfl) (And.intro (ve rfl) trivial)))) (And.intro ⟨_, rfl, (vel rfl)⟩ (And.intro ⟨_, rfl, (vel rfl)⟩ trivial)) (And.intro rfl trivial)), ?_⟩
                obtain ⟨v37, ev37, h12⟩ := bind_some h11
                clear h11
                obtain ⟨ev37, rv37⟩ := ckK_some ev37
                refine And.intro rfl ?_
                refine ⟨v37, ev37, fun _ => rv37, ?_⟩
                exact ⟨⟨(k4, _, _), h12⟩, (le_lit (And.intro (ve rfl) (And.intro (ve rfl) (And.intro (ve rfl) (And.intro (ve rfl) trivial)))) (And.intro ⟨_, rfl, (vel rfl)⟩ (And.intro ⟨_, rfl, (vel rfl)⟩ trivial)) (And.intro rfl trivial)), Nat.lt_succ_self _⟩
              · have h13 := if_f c16 h10
                clear h10
                refine and_t (not_t (ne_t c16)) ?_
                cases h13
                exact ⟨⟨(_, _), h8⟩, (le_lit (And.intro (ve rfl) (And.intro (ve rfl) (And.intro (ve rfl) (And.intro (ve rfl) trivial)))) (And.intro ⟨_, rfl, (vel rfl)⟩ (And.intro ⟨_, rfl, (vel rfl)⟩ trivial)) (And.intro rfl trivial))⟩
          · rintro ⟨⟨a17_5, x5_5⟩, h14⟩
            change s_DrainChain.j5 x6_l1 (s_DrainChain.l1 k1) a17_5 x5_5 = some o1 at h14
            change wMC _ _ _ (s_DrainChain.J5 x6_l1 a17_5 x5_5)
            unfold s_DrainChain.j5 at h14
            clear h7
            obtain ⟨v25, ev25, h15⟩ := bind_some h14
            clear h14
            obtain ⟨ev25, rv25⟩ := ckK_some ev25
            refine And.intro rfl ?_
            refine ⟨v25, ev25, fun _ => rv25, ?_⟩
            exact ⟨⟨(k1, _, _, _), h15⟩, (le_lit (And.intro (ve rfl) (And.intro (ve rfl) (And.intro (ve rfl) (And.intro (ve rfl) trivial)))) (And.intro ⟨_, rfl, (vel rfl)⟩ (And.intro ⟨_, rfl, (vel rfl)⟩ trivial)) (And.intro rfl trivial)), Nat.lt_succ_self _⟩
        · have h16 := if_f c11 h6
          clear h6
          refine and_f (decide_eq_false c11) ?_
          cases h16
          exact ⟨⟨(_, _), h4⟩, (le_lit (And.intro (ve rfl) (And.intro (ve rfl) (And.intro (ve rfl) trivial))) (And.intro ⟨_, rfl, (vel rfl)⟩ (And.intro ⟨_, rfl, (vel rfl)⟩ trivial)) (And.intro rfl trivial))⟩
    · rintro ⟨⟨a17_6, x5_6⟩, h17⟩
      change s_DrainChain.j6 a17_6 x5_6 = some r at h17
      change wMC _ _ _ (s_DrainChain.J6 a17_6 x5_6)
      unfold s_DrainChain.j6 at h17
      clear h3
      refine ⟨{ g : (List implLink) × Int // s_DrainChain.j10 g.1 g.2 = some r }, fun g => s_DrainChain.J10 g.1.1 g.1.2, ?_, ?_⟩
      · skip
        obtain ⟨v41, ev41, h18⟩ := bind_some h17
        clear h17
        obtain ⟨ev41, rv41⟩ := ckK_some ev41
        refine And.intro rfl ?_
        refine ⟨v41, ev41, fun _ => rv41, ?_⟩
        refine ⟨lit [(1, .bptr 1 0), (2, .bptr 2 0), (5, .d (.int .i64 x5_6)), (9, .d (.int .i64 v41))] [(1, [.ref 17 [] 0 a17_6.length]), (2, [.nilsl])] [(17, a17_6.map implLink.enc)], (le_lit (And.intro (ve rfl) (And.intro (ve rfl) (And.intro (ve rfl) (And.intro (ve rfl) trivial)))) (And.intro ⟨_, rfl, (vel rfl)⟩ (And.intro ⟨_, rfl, (vel rfl)⟩ trivial)) (And.intro rfl trivial)), ?_⟩
        obtain ⟨o7, e7, h19⟩ := bind_some h18
        clear h18
        refine ⟨{ g : Nat × (List implLink) × Int × Int // s_DrainChain.l7 g.1 g.2.1 g.2.2.1 g.2.2.2 = some o7 }, fun g => s_DrainChain.S7 g.1.2.1 g.1.2.2.1 g.1.2.2.2, fun g => g.1.1, ⟨(big, a17_6, x5_6, v41), e7⟩, (le_lit (And.intro (ve rfl) (And.intro (ve rfl) (And.intro (ve rfl) (And.intro (ve rfl) trivial)))) (And.intro ⟨_, rfl, (vel rfl)⟩ (And.intro ⟨_, rfl, (vel rfl)⟩ trivial)) (And.intro rfl trivial)), ?_⟩
        rintro ⟨⟨k7, a17_l7, x5_l7, x9_l7⟩, h20⟩
        change s_DrainChain.l7 k7 a17_l7 x5_l7 x9_l7 = some o7 at h20
        change wMC _ _ _ (s_DrainChain.S7 a17_l7 x5_l7 x9_l7)
        cases k7 with
        | zero => rw [s_DrainChain.l7] at h20; cases h20
        | succ k7 =>
          rw [s_DrainChain.l7] at h20
          refine And.intro rfl ?_
          refine ⟨lit [(1, .bptr 1 0), (2, .bptr 2 0), (5, .d (.int .i64 x5_l7)), (9, .d (.int .i64 x9_l7)), (43, .d (.bool (decide (0 ≤ x9_l7))))] [(1, [.ref 17 [] 0 a17_l7.length]), (2, [.nilsl])] [(17, a17_l7.map implLink.enc)], (le_lit (And.intro (ve rfl) (And.intro (ve rfl) (And.intro (ve rfl) (And.intro (ve rfl) (And.intro (ve rfl) trivial))))) (And.intro ⟨_, rfl, (vel rfl)⟩ (And.intro ⟨_, rfl, (vel rfl)⟩ trivial)) (And.intro rfl trivial)), ?_⟩
          by_cases c22 : 0 ≤ x9_l7
          · have h21 := if_t c22 h20
            clear h20
            refine and_t (decide_eq_true c22) ?_
            refine ⟨lit [(1, .bptr 1 0), (2, .bptr 2 0), (5, .d (.int .i64 x5_l7)), (9, .d (.int .i64 x9_l7))] [(1, [.ref 17 [] 0 a17_l7.length]), (2, [.nilsl])] [(17, a17_l7.map implLink.enc)], (le_lit (And.intro (ve rfl) (And.intro (ve rfl) (And.intro (ve rfl) (And.intro (ve rfl) trivial)))) (And.intro ⟨_, rfl, (vel rfl)⟩ (And.intro ⟨_, rfl, (vel rfl)⟩ trivial)) (And.intro rfl trivial)), ?_⟩
            refine ⟨{ g : (List implLink) × Int // s_DrainChain.j9 x9_l7 (s_DrainChain.l7 k7) g.1 g.2 = some o7 }, fun g => s_DrainChain.J9 x9_l7 g.1.1 g.1.2, ?_, ?_⟩
            · skip
              refine And.intro rfl (And.intro rfl (And.intro (nle rfl) ?_))
              refine And.intro rfl (And.intro rfl (And.intro (nle rfl) ?_))
              obtain ⟨v50, ev50, h22⟩ := bind_some h21
              clear h21
              refine ⟨rfl, nod rfl, rfl, rfl, _, rfl, rfl, ?_⟩
              refine ⟨_, rfl, ?_⟩
              refine (s_l15Step_al.ok (implChain.mk a17_l7) (implChainStep.mk 3 x9_l7 []) _ ev50).mono ?_
              rintro _ _ _ _ ⟨rfl, rfl, rfl, rfl⟩
              refine ⟨rfl, rfl, rfl, rfl, trivial, (map_len_map (s_l15Step_al.len (implChain.mk a17_l7) (implChainStep.mk 3 x9_l7 []) _ ev50)), ?_⟩
              refine ⟨lit [(1, .bptr 1 0), (2, .bptr 2 0), (5, .d (.int .i64 x5_l7)), (9, .d (.int .i64 x9_l7)), (51, .agg [.ref 17 [] 0 v50.1.Links.length]), (52, .d (.bool v50.2))] [(1, [.ref 17 [] 0 v50.1.Links.length]), (2, [.nilsl])] [(17, v50.1.Links.map implLink.enc)], (le_lit (And.intro (ve rfl) (And.intro (ve rfl) (And.intro (ve rfl) (And.intro (ve rfl) (And.intro (ve rfl) (And.intro (ve rfl) trivial)))))) (And.intro ⟨_, rfl, (And.intro (ve (congrArg (V.ref 17 [] 0) (s_l15Step_al.len (implChain.mk a17_l7) (implChainStep.mk 3 x9_l7 []) _ ev50).symm)) trivial)⟩ (And.intro ⟨_, rfl, (vel rfl)⟩ trivial)) (And.intro rfl trivial)), ?_⟩
              refine And.intro rfl ?_
              refine And.intro rfl (And.intro rfl (And.intro (nle rfl) ?_))
              refine ⟨lit [(1, .bptr 1 0), (2, .bptr 2 0), (5, .d (.int .i64 x5_l7)), (9, .d (.int .i64 x9_l7)), (10, .bptr 10 0), (11, .d (.bool v50.2))] [(1, [.ref 17 [] 0 v50.1.Links.length]), (2, [.nilsl]), (10, [.ref 17 [] 0 v50.1.Links.length])] [(17, v50.1.Links.map implLink.enc)], (le_lit (And.intro (ve rfl) (And.intro (ve rfl) (And.intro (ve rfl) (And.intro (ve rfl) (And.intro (ve rfl) (And.intro (ve rfl) trivial)))))) (And.intro ⟨_, rfl, (vel rfl)⟩ (And.intro ⟨_, rfl, (vel rfl)⟩ (And.intro ⟨_, rfl, (vel rfl)⟩ trivial))) (And.intro rfl trivial)), ?_⟩
              refine ⟨lit [(1, .bptr 1 0), (2, .bptr 2 0), (5, .d (.int .i64 x5_l7)), (9, .d (.int .i64 x9_l7)), (10, .bptr 10 0), (53, .d (.bool v50.2))] [(1, [.ref 17 [] 0 v50.1.Links.length]), (2, [.nilsl]), (10, [.ref 17 [] 0 v50.1.Links.length])] [(17, v50.1.Links.map implLink.enc)], (le_lit (And.intro (ve rfl) (And.intro (ve rfl) (And.intro (ve rfl) (And.intro (ve rfl) (And.intro (ve rfl) (And.intro (ve rfl) trivial)))))) (And.intro ⟨_, rfl, (vel rfl)⟩ (And.intro ⟨_, rfl, (vel rfl)⟩ (And.intro ⟨_, rfl, (vel rfl)⟩ trivial))) (And.intro rfl trivial)), ?_⟩
              by_cases c24 : v50.2 = true
              · have h23 := if_t c24 h22
                clear h22
                refine and_t c24 ?_
                refine And.intro rfl (And.intro rfl (And.intro (nle rfl) ?_))
                refine ⟨lit [(1, .bptr 1 0), (2, .bptr 2 0), (5, .d (.int .i64 x5_l7)), (9, .d (.int .i64 x9_l7))] [(1, [.ref 17 [] 0 v50.1.Links.length]), (2, [.nilsl])] [(17, v50.1.Links.map implLink.enc)], (le_lit (And.intro (ve rfl) (And.intro (ve rfl) (And.intro (ve rfl) (And.intro (ve rfl) trivial)))) (And.intro ⟨_, rfl, (vel rfl)⟩ (And.intro ⟨_, rfl, (vel rfl)⟩ trivial)) (And.intro rfl trivial)), ?_⟩
                obtain ⟨v56, ev56, h24⟩ := bind_some h23
                clear h23
                obtain ⟨ev56, rv56⟩ := ckK_some ev56
                refine And.intro rfl ?_
                refine ⟨v56, ev56, fun _ => rv56, ?_⟩
                exact ⟨⟨(_, _), h24⟩, (le_lit (And.intro (ve rfl) (And.intro (ve rfl) (And.intro (ve rfl) (And.intro (ve rfl) trivial)))) (And.intro ⟨_, rfl, (vel rfl)⟩ (And.intro ⟨_, rfl, (vel rfl)⟩ trivial)) (And.intro rfl trivial))⟩
              · have h25 := if_f c24 h22
                clear h22
                refine and_f (ne_t c24) ?_
                exact ⟨⟨(_, _), h25⟩, (le_lit (And.intro (ve rfl) (And.intro (ve rfl) (And.intro (ve rfl) (And.intro (ve rfl) trivial)))) (And.intro ⟨_, rfl, (vel rfl)⟩ (And.intro ⟨_, rfl, (vel rfl)⟩ trivial)) (And.intro rfl trivial))⟩
            · rintro ⟨⟨a17_9, x5_9⟩, h26⟩
              change s_DrainChain.j9 x9_l7 (s_DrainChain.l7 k7) a17_9 x5_9 = some o7 at h26
              change wMC _ _ _ (s_DrainChain.J9 x9_l7 a17_9 x5_9)
              unfold s_DrainChain.j9 at h26
              clear h21
              obtain ⟨v45, ev45, h27⟩ := bind_some h26
              clear h26
              obtain ⟨ev45, rv45⟩ := ckK_some ev45
              refine And.intro rfl ?_
              refine ⟨v45, ev45, fun _ => rv45, ?_⟩
              exact ⟨⟨(k7, _, _, _), h27⟩, (le_lit (And.intro (ve rfl) (And.intro (ve rfl) (And.intro (ve rfl) (And.intro (ve rfl) trivial)))) (And.intro ⟨_, rfl, (vel rfl)⟩ (And.intro ⟨_, rfl, (vel rfl)⟩ trivial)) (And.intro rfl trivial)), Nat.lt_succ_self _⟩
          · have h28 := if_f c22 h20
            clear h20
            refine and_f (decide_eq_false c22) ?_
            cases h28
            exact ⟨⟨(_, _), h19⟩, (le_lit (And.intro (ve rfl) (And.intro (ve rfl) (And.intro (ve rfl) trivial))) (And.intro ⟨_, rfl, (vel rfl)⟩ (And.intro ⟨_, rfl, (vel rfl)⟩ trivial)) (And.intro rfl trivial))⟩
      · rintro ⟨⟨a17_10, x5_10⟩, h29⟩
        change s_DrainChain.j10 a17_10 x5_10 = some r at h29
        change wMC _ _ _ (s_DrainChain.J10 a17_10 x5_10)
        unfold s_DrainChain.j10 at h29
        clear h17
        refine And.intro rfl (And.intro rfl (And.intro (nle rfl) ?_))
        refine And.intro rfl ?_
        cases h29
        exact ⟨[17], nod rfl, all_lt rfl, blt_lt rfl, _, _, rfl, rfl, rfl, rfl, rfl, rfl⟩
  · have h30 := if_f c1 h1
    clear h1
    refine and_t (not_t (ne_t c1)) ?_
    refine And.intro rfl (And.intro rfl (And.intro (nle rfl) ?_))
    refine And.intro rfl ?_
    cases h30
    exact ⟨[9000], nod rfl, all_lt rfl, blt_lt rfl, _, _, rfl, rfl, rfl, rfl, rfl, rfl⟩
end Go.Vm
end
