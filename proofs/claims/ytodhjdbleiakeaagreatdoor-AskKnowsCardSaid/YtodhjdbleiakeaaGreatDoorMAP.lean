/-
  Shared texts of this claim.
-/
import Derived.Test.YtodhjdbleiakeaaGreatDoorMAO
import Derived.KernelRfl
import Derived.Laws.Strings
set_option linter.unusedVariables false
set_option maxRecDepth 100000
namespace Rm
open Go Go.Proofs Cx
def QU:PC:=
 (.seq
  (.is [.setO 3 (.mk [(.r 0)]),
    .setR 3 (.con .none),
    .setR 6 (.con (.list []))])
  (.seq
   (.is [.setR 10 (au 4 (.o 3)),
     .setR 11 (.r 1),
     .call [] 12 95 [(.r 10),(.r 11)],
     .setR 9 (.r 12),
     .setR 13 (.tget (.r 9) 0),
     .setR 14 (.tget (.r 9) 1),
     .setO 7 (.con (.agg [(.int 0),(.int 0),(.list [])])),
     .setR 7 (.con .none),
     .setO 12295 (.con (.list [])),
     .setO 7 (.setc (.o 7) 0 (.r 13)),
     .setR 8 (.r 14)])
   (.seq
    (.seq
     (.is [.setR 15 (.r 8),
       .setR 16 (.ci .neq (.r 15) (.con (.int 0)))])
     (.ite (.r 16) [6] []
      (.seq
       (.is [.setR 6 (.con (.list []))])
       (.ret (.r 6)))
      .skip))
    (.seq
     (.is [.setR 17 (.mk [(.cell (.o 7) 0),(.cell (.o 7) 1),(.cell (.o 7) 2)]),
       .setR 18 (.r 2),
       .call [] 19 215 [(.r 17),(.r 18)],
       .setR 6 (.r 19)])
     (.ret (.r 6))))))
theorem aya:AR=some QU:=by kernel_rfl
theorem ayz:tab RA=some QU:=by rw[akG,←aya,←YV]
def Rh:PC:=
 (.seq
  (.is [.setO 2 (.mk [(.r 0)]),
    .setR 2 (.con .none),
    .setO 3 (.mk [(.r 1)]),
    .setR 3 (.con .none),
    .setO 4 (.con (.agg [(.int 0),(.int 0),(.list [])])),
    .setR 4 (.con .none),
    .setO 12292 (.con (.list [])),
    .setR 5 (.con (.int 0))])
  (.seq
   (.is [.setR 13 (.cell (.o 3) 0),
     .call [] 14 97 [(.r 13)],
     .setR 12 (.r 14),
     .setR 15 (.tget (.r 12) 0),
     .setR 16 (.tget (.r 12) 1),
     .setR 6 (.r 15),
     .setR 7 (.r 16)])
   (.seq
    (.seq
     (.is [.setR 17 (.r 7),
       .setR 18 (.nt (.r 17))])
     (.ite (.r 18) [5] [12292,4]
      (.seq
       (.is [.setR 19 (.mk [(.con (.int 0)),(.con (.int 0)),(.con (.list []))]),
        .setO 4 (.setc (.o 4) 0 (.r 19)),
        .setO 12292 (.con (.list [])),
        .setR 5 (.con (.int 1))])
       (.ret (.tup [(.mk [(.cell (.o 4) 0),(.cell (.o 4) 1),(.o 12292)]),(.r 5)])))
      .skip))
    (.seq
     (.is [.setR 20 (.con .none),
       .setR 21 (.cell (.o 2) 3),
       .setO 3 (.cell (.o 3) 0),
       .setR 22 (.clo 169 [(.ref (.o 3))]),
       .call [] 23 168 [(.r 21),(.r 22)],
       .setR 8 (.r 23)])
     (.seq
      (.seq
       (.is [.setR 24 (.r 8),
        .setR 25 (.ci .lss (.r 24) (.con (.int 0)))])
       (.ite (.r 25) [5] [12292,4]
        (.seq
         (.is [.setR 26 (.mk [(.con (.int 0)),(.con (.int 0)),(.con (.list []))]),
          .setO 4 (.setc (.o 4) 0 (.r 26)),
          .setO 12292 (.con (.list [])),
          .setR 5 (.con (.int 4))])
         (.ret (.tup [(.mk [(.cell (.o 4) 0),(.cell (.o 4) 1),(.o 12292)]),(.r 5)])))
        .skip))
      (.seq
       (.is [.setR 27 (.con .none),
        .setR 28 (.cell (.o 2) 3),
        .setR 29 (.r 8),
        .chk (.idx (.r 28) (.r 29)),
        .setR 30 (.ref (.nth (.r 28) (.r 29))),
        .setR 31 (.ref (.sub (.deref (.r 30)) 1 3)),
        .setR 32 (.deref (.r 31)),
        .setO 9 (.con (.agg [(.int 0),(.int 0),(.list [])])),
        .setR 9 (.con .none),
        .setO 12297 (.con (.list [])),
        .setO 9 (.setc (.o 9) 0 (.r 32))])
       (.seq
        (.seq
         (.is [.setR 34 (.mk [(.cell (.o 9) 0),(.cell (.o 9) 1),(.cell (.o 9) 2)]),
          .call [] 35 170 [(.r 34)],
          .setR 33 (.r 35),
          .setR 36 (.tget (.r 33) 0),
          .setR 37 (.tget (.r 33) 1),
          .setR 10 (.r 36),
          .setR 11 (.r 37)])
         (.seq
          (.is [.setR 38 (.r 11),
            .setR 39 (.ci .neq (.r 38) (.con (.int 0))),
            .setR 40 (.r 39),
            .setR 41 (.r 10),
            .setR 42 (.r 6),
            .setR 43 (.ci .neq (.r 41) (.r 42)),
            .setR 44 (.pick (.r 40) (.con (.bool true)) (.r 43))])
          (.ite (.r 44) [5] [12292,4]
           (.seq
            (.is [.setR 45 (.mk [(.con (.int 0)),(.con (.int 0)),(.con (.list []))]),
             .setO 4 (.setc (.o 4) 0 (.r 45)),
             .setO 12292 (.con (.list [])),
             .setR 5 (.con (.int 11))])
            (.ret (.tup [(.mk [(.cell (.o 4) 0),(.cell (.o 4) 1),(.o 12292)]),(.r 5)])))
           .skip)))
        (.seq
         (.is [.setR 46 (.mk [(.cell (.o 9) 0),(.cell (.o 9) 1),(.cell (.o 9) 2)]),
          .setO 4 (.setc (.o 4) 0 (.r 46)),
          .setR 5 (.con (.int 0))])
         (.ret (.tup [(.mk [(.cell (.o 4) 0),(.cell (.o 4) 1),(.cell (.o 4) 2)]),(.r 5)]))))))))))
theorem ayv:AT=some Rh:=by kernel_rfl
theorem ayV:tab RC=some Rh:=by rw[Yi,←ayv,←YY]
def Q4:PC:=
 (.seq
  (.is [.setO 2 (.mk [(.r 0)]),
    .setR 2 (.con .none),
    .setR 4 (.con (.list []))])
  (.seq
   (.seq
    (.is [.setR 10 (.mk [(.cell (.o 2) 0),(.cell (.o 2) 1),(.cell (.o 2) 2)]),
      .call [] 11 170 [(.r 10)],
      .setR 9 (.r 11),
      .setR 12 (.tget (.r 9) 0),
      .setR 13 (.tget (.r 9) 1),
      .setR 5 (.r 12),
      .setR 6 (.r 13)])
    (.seq
     (.is [.setR 14 (.r 6),
       .setR 15 (.ci .neq (.r 14) (.con (.int 0)))])
     (.ite (.r 15) [4] []
      (.seq
       (.is [.setR 4 (.con (.list []))])
       (.ret (.r 4)))
      .skip)))
   (.seq
    (.is [.setR 17 (.r 1),
      .setR 18 (.mk [(.r 17)]),
      .setR 19 (.mk [(.cell (.o 2) 0),(.cell (.o 2) 1),(.cell (.o 2) 2)]),
      .call [] 20 171 [(.r 18),(.r 19)],
      .setR 16 (.r 20),
      .setR 21 (.tget (.r 16) 0),
      .setR 22 (.tget (.r 16) 1),
      .setO 7 (.con (.agg [(.bool false),(.int 0)])),
      .setR 7 (.con .none),
      .setO 7 (.setc (.o 7) 0 (.r 21)),
      .setR 8 (.r 22)])
    (.seq
     (.is [.setR 23 (.r 8),
       .call [] 24 139 [(.r 23)]])
     (.seq
      (.is [.setR 25 (.r 8),
        .call [] 26 140 [(.r 25)],
        .setR 4 (.r 26)])
      (.ret (.r 4)))))))
theorem ayi:BH=some Q4:=by kernel_rfl
theorem ayI:tab aeu=some Q4:=by rw[alU,←ayi,←Zi]
def Ri:PC:=
 (.seq
  (.is [.setR 2 (.con (.int 0)),
    .setR 3 (.con (.bool false))])
  (.seq
   (.block 0 [2,3,4,5,6,7,10,11,12,13,14] []
    (.seq
     (.is [.setR 5 (.r 0),
       .setR 6 (.ci .lss (.r 5) (.con (.int 0))),
       .setR 7 (.r 6),
       .setR 8 (.r 0),
       .setR 9 (.ci .geq (.r 8) (.con (.int 22))),
       .setR 10 (.pick (.r 7) (.con (.bool true)) (.r 9)),
       .setR 4 (.r 10)])
     (.ite (.r 4) [2,3,11,12,13,14] []
      (.seq
       (.is [.setR 2 (.con (.int 0)),
        .setR 3 (.con (.bool false))])
       (.ret (.tup [(.r 2),(.r 3)])))
      (.seq
       (.is [.setR 12 (.lst [(.cell (.deref (.con (.ref (.agg [(.int 6),(.int 7),(.int 10),(.int 12),(.int 13),(.int 14),(.int 15),(.int 16),(.int 20),(.int 21)])))) 0),(.cell (.deref (.con (.ref (.agg [(.int 6),(.int 7),(.int 10),(.int 12),(.int 13),(.int 14),(.int 15),(.int 16),(.int 20),(.int 21)])))) 1),(.cell (.deref (.con (.ref (.agg [(.int 6),(.int 7),(.int 10),(.int 12),(.int 13),(.int 14),(.int 15),(.int 16),(.int 20),(.int 21)])))) 2),(.cell (.deref (.con (.ref (.agg [(.int 6),(.int 7),(.int 10),(.int 12),(.int 13),(.int 14),(.int 15),(.int 16),(.int 20),(.int 21)])))) 3),(.cell (.deref (.con (.ref (.agg [(.int 6),(.int 7),(.int 10),(.int 12),(.int 13),(.int 14),(.int 15),(.int 16),(.int 20),(.int 21)])))) 4),(.cell (.deref (.con (.ref (.agg [(.int 6),(.int 7),(.int 10),(.int 12),(.int 13),(.int 14),(.int 15),(.int 16),(.int 20),(.int 21)])))) 5),(.cell (.deref (.con (.ref (.agg [(.int 6),(.int 7),(.int 10),(.int 12),(.int 13),(.int 14),(.int 15),(.int 16),(.int 20),(.int 21)])))) 6),(.cell (.deref (.con (.ref (.agg [(.int 6),(.int 7),(.int 10),(.int 12),(.int 13),(.int 14),(.int 15),(.int 16),(.int 20),(.int 21)])))) 7),(.cell (.deref (.con (.ref (.agg [(.int 6),(.int 7),(.int 10),(.int 12),(.int 13),(.int 14),(.int 15),(.int 16),(.int 20),(.int 21)])))) 8),(.cell (.deref (.con (.ref (.agg [(.int 6),(.int 7),(.int 10),(.int 12),(.int 13),(.int 14),(.int 15),(.int 16),(.int 20),(.int 21)])))) 9)]),
        .setR 13 (.r 0),
        .call [] 14 94 [(.r 12),(.r 13)],
        .setR 11 (.r 14)])
       (.ite (.r 11) [2,3] []
        (.seq
         (.is [.setR 2 (.con (.int 0)),
           .setR 3 (.con (.bool true))])
         (.ret (.tup [(.r 2),(.r 3)])))
        .skip)))))
   (.seq
    (.is [.setR 2 (.con (.int 1)),
      .setR 3 (.con (.bool true))])
    (.ret (.tup [(.r 2),(.r 3)])))))
theorem ayw:AS=some Ri:=by kernel_rfl
theorem ayW:tab RB=some Ri:=by rw[Yh,←ayw,←YW]
def Rg:PC:=
 (.seq
  (.is [.setR 4 (.con (.bool false))])
  (.seq
   (.is [.setR 5 (.r 0),
     .setR 6 (.r 1),
     .call [] 7 167 [(.r 5),(.r 6)],
     .setR 8 (.ci .geq (.r 7) (.con (.int 0))),
     .setR 4 (.r 8)])
   (.ret (.r 4))))
theorem ayu:Bw=some Rg:=by kernel_rfl
theorem ayU:tab RM=some Rg:=by rw[Ym,←ayu,←Zb]
def amg:PC:=
 (.seq
  (.is [.setR 9 (.ci .lss (.r 8) (.r 7))])
  (.seq
   (.ite (.r 9) [] []
    .skip
    (.exit 0))
   (.seq
    (.block 1 [4,5,10,11,12,13,14,15,16] []
     (.seq
      (.is [.setR 10 (.r 8),
        .setR 5 (.r 10)])
      (.seq
       (.is [.setR 11 (.r 1),
         .setR 12 (.r 0),
         .setR 13 (.r 5),
         .chk (.idx (.r 12) (.r 13)),
         .setR 14 (.ref (.nth (.r 12) (.r 13))),
         .setR 15 (.deref (.r 14)),
         .callc [] 16 (.r 11) [(.r 15)]])
       (.ite (.r 16) [4] []
        (.seq
         (.is [.setR 17 (.r 5),
           .setR 4 (.r 17)])
         (.ret (.r 4)))
        .skip))))
    (.is [.setR 18 (.ai .add .i64 (.r 8) (.con (.int 1))),
      .setR 8 (.r 18)]))))
def awK:PC:=.block 0 [4,8,9] [] (.loop [4,8] [] amg)
def QW:PC:=
 (.seq
  (.is [.setR 4 (.con (.int 0))])
  (.seq
   (.seq
    (.is [.setR 6 (.r 0),
      .setR 7 (.llen (.r 6)),
      .setR 8 (.con (.int 0))])
    awK)
   (.seq
    (.is [.setR 4 (.con (.int (-1)))])
    (.ret (.r 4)))))
theorem ayc:xq=some QW:=by kernel_rfl
theorem ayB:tab RN=some QW:=by rw[Yn,←ayc,←Zc]
def QY:PC:=
 (.seq
  (.is [.setO 1 (.mk [(.r 0)]),
    .setR 1 (.con .none),
    .setR 2 (.con (.int 0)),
    .setR 3 (.con (.int 0))])
  (.seq
   (.seq
    (.is [.setR 4 (.mk [(.cell (.o 1) 0),(.cell (.o 1) 1),(.cell (.o 1) 2)]),
      .call [] 5 217 [(.r 4),(.con (.int 1))],
      .setR 6 (.ci .gtr (.r 5) (.con (.int 60)))])
    (.ite (.r 6) [2,3] []
     (.seq
      (.is [.setR 2 (.con (.int 0)),
        .setR 3 (.con (.int 6))])
      (.ret (.tup [(.r 2),(.r 3)])))
     .skip))
   (.seq
    (.is [.setR 7 (.mk [(.cell (.o 1) 0),(.cell (.o 1) 1),(.cell (.o 1) 2)]),
      .call [] 8 218 [(.r 7)],
      .setR 9 (.tget (.r 8) 0),
      .setR 10 (.tget (.r 8) 1),
      .setR 2 (.r 9),
      .setR 3 (.r 10)])
    (.ret (.tup [(.r 2),(.r 3)])))))
theorem aye:BG=some QY:=by kernel_rfl
theorem ayD:tab RR=some QY:=by rw[Yq,←aye,←Zh]
def QX:PC:=
 (.seq
  (.is [.setO 2 (.mk [(.r 0)]),
    .setR 2 (.con .none),
    .setR 3 (.con (.bool false))])
  (.seq
   (.is [.setR 4 (.con .none),
     .setR 5 (.cell (.o 2) 0),
     .setR 6 (.deref (.r 1)),
     .setR 7 (.ci .eql (.r 5) (.r 6)),
     .setR 3 (.r 7)])
   (.ret (.r 3))))
theorem ayd:AU=some QX:=by kernel_rfl
theorem ayC:tab II=some QX:=by rw[Yj,←ayd,←YX]
def amh:PC:=
 (.seq
  (.is [.setR 46 (.ci .lss (.r 45) (.r 44))])
  (.seq
   (.ite (.r 46) [] []
    .skip
    (.exit 1))
   (.seq
    (.block 2 [9,10,47,48,49,50,51,52,53,54,55,56,57,58,59,60,61] [10,12298,8,7]
     (.seq
      (.is [.setR 47 (.r 45),
        .chk (.idx (.r 43) (.r 45)),
        .setR 48 (.ref (.nth (.r 43) (.r 45))),
        .setR 49 (.deref (.r 48)),
        .setO 10 (.con (.agg [(.int 0),(.int 0),(.list [])])),
        .setR 10 (.con .none),
        .setO 12298 (.con (.list [])),
        .setR 9 (.r 47),
        .setO 10 (.setc (.o 10) 0 (.r 49))])
      (.is [.setR 51 (.r 7),
        .setR 52 (.r 9),
        .setR 53 (.r 8),
        .setR 54 (.r 9),
        .setR 55 (.mk [(.cell (.o 2) 0)]),
        .setR 56 (.mk [(.cell (.o 10) 0),(.cell (.o 10) 1),(.cell (.o 10) 2)]),
        .call [] 57 171 [(.r 55),(.r 56)],
        .setR 50 (.r 57),
        .setR 58 (.tget (.r 50) 0),
        .setR 59 (.tget (.r 50) 1),
        .chk (.idx (.o 7) (.r 52)),
        .setR 60 (.r 52),
        .setO 7 (.setn (.o 7) (.r 60) 0 (.r 58)),
        .chk (.idx (.o 8) (.r 54)),
        .setR 61 (.r 54),
        .setO 8 (.setn (.o 8) (.r 61) 0 (.r 59))])))
    (.is [.setR 62 (.ai .add .i64 (.r 45) (.con (.int 1))),
      .setR 45 (.r 62)]))))
def awL:PC:=.block 1 [45,46] [7,8] (.loop [45] [7,8] amh)
def QZ:PC:=
 (.seq
  (.is [.setO 2 (.mk [(.r 0)]),
    .setR 2 (.con .none),
    .setO 3 (.mk [(.r 1)]),
    .setR 3 (.con .none),
    .setO 4 (.con (.agg [(.bool false),(.int 0)])),
    .setR 4 (.con .none),
    .setR 5 (.con (.list []))])
  (.seq
   (.seq
    (.is [.setR 13 (.con .none),
      .setR 14 (.cell (.o 3) 0)])
    (.block 0 [5,15,16,21,22] [4]
     (.seq
      (.seq
       (.is [.setR 16 (.ci .eql (.r 14) (.con (.int 0))),
         .setR 15 (.r 16)])
       (.ite (.r 15) [15] []
        .skip
        (.is [.setR 17 (.ci .eql (.r 14) (.con (.int 1))),
         .setR 15 (.r 17)])))
      (.ite (.r 15) [5,21,22] [4]
       (.seq
        (.is [.setR 18 (.con .none),
         .setR 19 (.cell (.o 3) 1),
         .setR 20 (.mk [(.con (.bool true)),(.r 19)]),
         .setO 4 (.setc (.o 4) 0 (.r 20)),
         .setR 5 (.con (.list []))])
        (.ret (.tup [(.mk [(.cell (.o 4) 0),(.cell (.o 4) 1)]),(.r 5)])))
       (.seq
        (.is [.setR 22 (.ci .eql (.r 14) (.con (.int 2))),
         .setR 21 (.r 22)])
        (.ite (.r 21) [5] [4]
         (.seq
          (.seq
           (.is [.setR 23 (.mk [(.cell (.o 2) 0)]),
             .setR 24 (.con .none),
             .setR 25 (.cell (.o 3) 1),
             .call [] 26 219 [(.r 23),(.r 25)],
             .setO 6 (.con (.agg [(.bool false),(.int 0)])),
             .setR 6 (.con .none),
             .setO 6 (.setc (.o 6) 0 (.r 26))])
           (.seq
            (.is [.setR 27 (.con .none),
              .setR 28 (.cell (.o 6) 0)])
            (.ite (.r 28) [5] [4]
             (.seq
              (.is [.setR 29 (.mk [(.cell (.o 6) 0),(.cell (.o 6) 1)]),
                .setO 4 (.setc (.o 4) 0 (.r 29)),
                .setR 5 (.con (.list []))])
              (.ret (.tup [(.mk [(.cell (.o 4) 0),(.cell (.o 4) 1)]),(.r 5)])))
             .skip)))
          (.seq
           (.is [.setR 30 (.mk [(.con (.bool false)),(.con (.int 0))]),
             .setR 31 (.con .none),
             .setR 32 (.cell (.o 3) 1),
             .setO 33 (.lst [(.r 32)]),
             .setR 33 (.con .none),
             .setO 4 (.setc (.o 4) 0 (.r 30)),
             .setR 5 (.o 33)])
           (.ret (.tup [(.mk [(.cell (.o 4) 0),(.cell (.o 4) 1)]),(.r 5)]))))
         .skip))))))
   (.seq
    (.is [.setR 34 (.con .none),
      .setR 35 (.cell (.o 3) 2),
      .setR 36 (.llen (.r 35)),
      .chk (.an (.ci .geq (.r 36) (.con (.int 0))) (.ci .leq (.r 36) (.con (.int 4294967296)))),
      .chk (.ci .eql (.r 36) (.r 36)),
      .setO 37 (.rep (.r 36) (.con (.agg [(.bool false),(.int 0)]))),
      .setR 37 (.con .none),
      .setR 7 (.r 37),
      .setO 7 (.o 37)])
    (.seq
     (.is [.setR 38 (.con .none),
       .setR 39 (.cell (.o 3) 2),
       .setR 40 (.llen (.r 39)),
       .chk (.an (.ci .geq (.r 40) (.con (.int 0))) (.ci .leq (.r 40) (.con (.int 4294967296)))),
       .chk (.ci .eql (.r 40) (.r 40)),
       .setO 41 (.rep (.r 40) (.con (.list []))),
       .setR 41 (.con .none),
       .setR 8 (.r 41),
       .setO 8 (.o 41)])
     (.seq
      (.seq
       (.is [.setR 42 (.con .none),
         .setR 43 (.cell (.o 3) 2),
         .setR 44 (.llen (.r 43)),
         .setR 45 (.con (.int 0))])
       awL)
      (.seq
       (.seq
        (.is [.setR 63 (.con .none),
         .setR 64 (.cell (.o 3) 0),
         .setR 65 (.ci .eql (.r 64) (.con (.int 6))),
         .setR 66 (.r 65),
         .setR 67 (.r 7),
         .chk (.imp [(66,true)] (.idx (.o 7) (.con (.int 0)))),
         .setR 68 (.con (.int 0)),
         .setR 69 (.r 68),
         .setR 70 (.cell (.nth (.o 7) (.r 69)) 0),
         .setR 71 (.pick (.r 66) (.r 70) (.con (.bool false)))])
        (.ite (.r 71) [5] [4]
         (.seq
          (.is [.setR 72 (.r 7),
           .chk (.idx (.o 7) (.con (.int 0))),
           .setR 73 (.con (.int 0)),
           .setR 74 (.r 73),
           .setR 75 (.cell (.nth (.o 7) (.r 74)) 1),
           .setR 76 (.ai .sub .i64 (.con (.int 2)) (.r 75)),
           .setR 11 (.r 76)])
          (.seq
           (.is [.setR 77 (.r 7),
             .setR 78 (.r 11),
             .chk (.idx (.o 7) (.r 78)),
             .setR 79 (.r 78),
             .setR 80 (.sub (.nth (.o 7) (.r 79)) 0 2),
             .setR 81 (.r 8),
             .setR 82 (.r 11),
             .chk (.idx (.o 8) (.r 82)),
             .setR 83 (.r 82),
             .setR 84 (.nth (.o 8) (.r 83)),
             .setO 4 (.setc (.o 4) 0 (.r 80)),
             .setR 5 (.r 84)])
           (.ret (.tup [(.mk [(.cell (.o 4) 0),(.cell (.o 4) 1)]),(.r 5)]))))
         .skip))
       (.seq
        (.seq
         (.is [.setR 85 (.con .none),
           .setR 86 (.cell (.o 3) 0),
           .setR 87 (.r 7),
           .call [] 88 220 [(.r 86),(.o 7)],
           .setO 12 (.con (.agg [(.bool false),(.int 0)])),
           .setR 12 (.con .none),
           .setO 12 (.setc (.o 12) 0 (.r 88))])
         (.seq
          (.is [.setR 89 (.con .none),
           .setR 90 (.cell (.o 12) 0)])
          (.ite (.r 90) [5] [4]
           (.seq
            (.is [.setR 91 (.mk [(.cell (.o 12) 0),(.cell (.o 12) 1)]),
              .setO 4 (.setc (.o 4) 0 (.r 91)),
              .setR 5 (.con (.list []))])
            (.ret (.tup [(.mk [(.cell (.o 4) 0),(.cell (.o 4) 1)]),(.r 5)])))
           .skip)))
        (.seq
         (.is [.setR 92 (.mk [(.con (.bool false)),(.con (.int 0))]),
           .setR 93 (.r 8),
           .call [] 94 221 [(.o 8)],
           .setO 4 (.setc (.o 4) 0 (.r 92)),
           .setR 5 (.r 94)])
         (.ret (.tup [(.mk [(.cell (.o 4) 0),(.cell (.o 4) 1)]),(.r 5)]))))))))))
theorem ayf:xu=some QZ:=by kernel_rfl
theorem ayE:tab IL=some QZ:=by rw[Yv,←ayf,←Zn]
def QS:PC:=
 (.seq
  (.seq
   (.is [.setR 3 (.r 0),
     .setR 4 (.llen (.r 3)),
     .setR 2 (.r 4)])
   (.is [.setR 5 (.r 0),
     .setR 6 (.r 2),
     .setR 7 (.r 2),
     .setR 8 (.conv .u64 (.r 7)),
     .call [] 9 207 [(.r 8)],
     .call [] 10 206 [(.r 5),(.con (.int 0)),(.r 6),(.r 9)]]))
  (.ret (.tup [])))
theorem ax8:BB=some QS:=by kernel_rfl
theorem ayx:tab aem=some QS:=by rw[alL,←ax8,←Ze]
def amd:PC:=
 (.seq
  (.seq
   (.is [.setR 29 (.r 5),
     .setR 30 (.r 4),
     .setR 31 (.llen (.r 30)),
     .setR 32 (.ci .lss (.r 29) (.r 31))])
   (.ite (.r 32) [] []
    .skip
    (.exit 2)))
  (.seq
   (.block 3 [3,35,36,37,38,39,40,41,42,43,44] []
    (.seq
     (.is [.setR 35 (.r 4),
       .setR 36 (.r 5),
       .chk (.idx (.r 35) (.r 36)),
       .setR 37 (.ref (.nth (.r 35) (.r 36))),
       .setR 38 (.deref (.r 37)),
       .setR 39 (.r 4),
       .setR 40 (.r 5),
       .setR 41 (.ai .sub .i64 (.r 40) (.con (.int 1))),
       .chk (.idx (.r 39) (.r 41)),
       .setR 42 (.ref (.nth (.r 39) (.r 41))),
       .setR 43 (.deref (.r 42)),
       .setR 44 (.ci .neq (.r 38) (.r 43))])
     (.ite (.r 44) [3] []
      (.seq
       (.is [.setR 45 (.r 0),
         .setR 46 (.r 3),
         .setR 47 (.r 4),
         .setR 48 (.r 5),
         .chk (.idx (.r 47) (.r 48)),
         .setR 49 (.ref (.nth (.r 47) (.r 48))),
         .setR 50 (.deref (.r 49)),
         .chk (.idx (.r 45) (.r 46)),
         .setR 51 (.ref (.nth (.r 45) (.r 46))),
         .chk (.con (.bool false))])
       (.is [.setR 52 (.r 3),
         .setR 53 (.ai .add .i64 (.r 52) (.con (.int 1))),
         .setR 3 (.r 53)]))
      .skip)))
   (.is [.setR 33 (.r 5),
     .setR 34 (.ai .add .i64 (.r 33) (.con (.int 1))),
     .setR 5 (.r 34)])))
def awH:PC:=.block 2 [3,5,29,30,31,32] [] (.loop [3,5] [] amd)
def ame:PC:=
 (.seq
  (.seq
   (.is [.setR 10 (.r 3),
     .setR 11 (.r 0),
     .setR 12 (.llen (.r 11)),
     .setR 13 (.ci .lss (.r 10) (.r 12))])
   (.ite (.r 13) [] []
    .skip
    (.exit 0)))
  (.seq
   (.block 1 [2,3,16,17,18,19,20,21,22,23,24,25] []
    (.seq
     (.is [.setR 16 (.r 0),
       .setR 17 (.r 3),
       .chk (.idx (.r 16) (.r 17)),
       .setR 18 (.ref (.nth (.r 16) (.r 17))),
       .setR 19 (.deref (.r 18)),
       .setR 20 (.r 0),
       .setR 21 (.r 3),
       .setR 22 (.ai .sub .i64 (.r 21) (.con (.int 1))),
       .chk (.idx (.r 20) (.r 22)),
       .setR 23 (.ref (.nth (.r 20) (.r 22))),
       .setR 24 (.deref (.r 23)),
       .setR 25 (.ci .eql (.r 19) (.r 24))])
     (.ite (.r 25) [2,3] []
      (.seq
       (.is [.setR 26 (.r 0),
         .setR 27 (.r 3),
         .chk (.slok (.r 26) (.r 27) (.llen (.r 26))),
         .setR 28 (.slc (.r 26) (.r 27) (.llen (.r 26))),
         .setR 4 (.r 28)])
       (.seq
        (.seq
         (.is [.setR 5 (.con (.int 1))])
         awH)
        (.seq
         (.is [.setR 54 (.r 0),
           .setR 55 (.r 3),
           .chk (.slok (.r 54) (.r 55) (.llen (.r 54))),
           .setR 56 (.slc (.r 54) (.r 55) (.llen (.r 54))),
           .chk (.con (.bool false))])
         (.seq
          (.is [.setR 57 (.r 0),
            .setR 58 (.r 3),
            .chk (.slok (.r 57) (.con (.int 0)) (.r 58)),
            .setR 59 (.slc (.r 57) (.con (.int 0)) (.r 58)),
            .setR 2 (.r 59)])
          (.ret (.r 2))))))
      .skip)))
   (.is [.setR 14 (.r 3),
     .setR 15 (.ai .add .i64 (.r 14) (.con (.int 1))),
     .setR 3 (.r 15)])))
def awI:PC:=.block 0 [2,3,10,11,12,13] [] (.loop [2,3] [] ame)
def QT:PC:=
 (.seq
  (.is [.setR 2 (.con (.list []))])
  (.seq
   (.seq
    (.is [.setR 6 (.r 0),
      .setR 7 (.llen (.r 6)),
      .setR 8 (.ci .lss (.r 7) (.con (.int 2)))])
    (.ite (.r 8) [2] []
     (.seq
      (.is [.setR 9 (.r 0),
        .setR 2 (.r 9)])
      (.ret (.r 2)))
     .skip))
   (.seq
    (.seq
     (.is [.setR 3 (.con (.int 1))])
     awI)
    (.seq
     (.is [.setR 60 (.r 0),
       .setR 2 (.r 60)])
     (.ret (.r 2))))))
theorem ax9:Bv=some QT:=by kernel_rfl
theorem ayy:tab aee=some QT:=by rw[alD,←ax9,←YZ]
def amj:PC:=
 (.seq
  (.is [.setR 14 (.ci .lss (.r 13) (.r 12))])
  (.seq
   (.ite (.r 14) [] []
    .skip
    (.exit 0))
   (.seq
    (.block 1 [5,7,15,16,17,18,19,20,21,22,23,24] [7,12295]
     (.seq
      (.is [.chk (.idx (.r 11) (.r 13)),
        .setR 15 (.ref (.nth (.r 11) (.r 13))),
        .setR 16 (.deref (.r 15)),
        .setO 7 (.con (.agg [(.int 0),(.int 0),(.list [])])),
        .setR 7 (.con .none),
        .setO 12295 (.con (.list [])),
        .setO 7 (.setc (.o 7) 0 (.r 16))])
      (.seq
       (.is [.setR 17 (.r 5),
         .setR 18 (.mk [(.cell (.o 7) 0),(.cell (.o 7) 1),(.cell (.o 7) 2)]),
         .setR 19 (.r 1),
         .setR 20 (.ai .add .i64 (.r 19) (.con (.int 1))),
         .call [] 21 217 [(.r 18),(.r 20)],
         .setR 22 (.ai .add .i64 (.r 17) (.r 21)),
         .setR 5 (.r 22)])
       (.seq
        (.is [.setR 23 (.r 5),
          .setR 24 (.ci .gtr (.r 23) (.con (.int 60)))])
        (.ite (.r 24) [] []
         (.exit 0)
         .skip)))))
    (.is [.setR 25 (.ai .add .i64 (.r 13) (.con (.int 1))),
      .setR 13 (.r 25)]))))
def awN:PC:=.block 0 [5,13,14] [] (.loop [5,13] [] amj)
def Q5:PC:=
 (.seq
  (.is [.setO 2 (.mk [(.r 0)]),
    .setR 2 (.con .none),
    .setR 4 (.con (.int 0))])
  (.seq
   (.seq
    (.is [.setR 8 (.r 1),
      .setR 9 (.ci .gtr (.r 8) (.con (.int 8)))])
    (.ite (.r 9) [4] []
     (.seq
      (.is [.setR 4 (.con (.int 61))])
      (.ret (.r 4)))
     .skip))
   (.seq
    (.is [.setR 5 (.con (.int 1))])
    (.seq
     (.seq
      (.is [.setR 10 (.con .none),
        .setR 11 (.cell (.o 2) 2),
        .setR 12 (.llen (.r 11)),
        .setR 13 (.con (.int 0))])
      awN)
     (.seq
      (.is [.setR 26 (.r 5),
        .setR 4 (.r 26)])
      (.ret (.r 4)))))))
theorem ayj:xw=some Q5:=by kernel_rfl
theorem ayJ:tab RX=some Q5:=by rw[Nt,←ayj,←Zp]
def amk:PC:=
 (.seq
  (.is [.setR 21 (.ci .lss (.r 20) (.r 19))])
  (.seq
   (.ite (.r 21) [] []
    .skip
    (.exit 0))
   (.seq
    (.block 1 [2,3,5,6,7,8,22,23,24,25,26,27,28,29,30,31,33,34,35,36] [6,12294,4]
     (.seq
      (.is [.setR 22 (.r 20),
        .chk (.idx (.r 18) (.r 20)),
        .setR 23 (.ref (.nth (.r 18) (.r 20))),
        .setR 24 (.deref (.r 23)),
        .setO 6 (.con (.agg [(.int 0),(.int 0),(.list [])])),
        .setR 6 (.con .none),
        .setO 12294 (.con (.list [])),
        .setR 5 (.r 22),
        .setO 6 (.setc (.o 6) 0 (.r 24))])
      (.seq
       (.is [.setR 26 (.mk [(.cell (.o 6) 0),(.cell (.o 6) 1),(.cell (.o 6) 2)]),
         .call [] 27 218 [(.r 26)],
         .setR 25 (.r 27),
         .setR 28 (.tget (.r 25) 0),
         .setR 29 (.tget (.r 25) 1),
         .setR 7 (.r 28),
         .setR 8 (.r 29)])
       (.seq
        (.seq
         (.is [.setR 30 (.r 8),
           .setR 31 (.ci .neq (.r 30) (.con (.int 0)))])
         (.ite (.r 31) [2,3] []
          (.seq
           (.is [.setR 32 (.r 8),
             .setR 2 (.con (.int 0)),
             .setR 3 (.r 32)])
           (.ret (.tup [(.r 2),(.r 3)])))
          .skip))
        (.is [.setR 33 (.r 4),
          .setR 34 (.r 5),
          .setR 35 (.r 7),
          .chk (.idx (.o 4) (.r 34)),
          .setR 36 (.r 34),
          .setO 4 (.setn (.o 4) (.r 36) 0 (.r 35))])))))
    (.is [.setR 37 (.ai .add .i64 (.r 20) (.con (.int 1))),
      .setR 20 (.r 37)]))))
def awO:PC:=.block 0 [2,3,20,21] [4] (.loop [2,3,20] [4] amk)
def aml:PC:=
 (.seq
  (.is [.setR 83 (.ci .lss (.r 82) (.r 81))])
  (.seq
   (.ite (.r 83) [] []
    .skip
    (.exit 3))
   (.seq
    (.block 4 [2,3,10,11,12,84,85,86,87,88,89,92,97,98,100,101,102,103,104,105] []
     (.seq
      (.is [.setR 84 (.r 82),
        .chk (.idx (.r 80) (.r 82)),
        .setR 85 (.ref (.nth (.r 80) (.r 82))),
        .setR 86 (.deref (.r 85)),
        .setR 11 (.r 84),
        .setR 12 (.r 86)])
      (.seq
       (.seq
        (.is [.setR 87 (.r 12),
          .setR 88 (.ci .eql (.r 87) (.con (.int (-1)))),
          .setR 89 (.r 88),
          .setR 90 (.r 10),
          .setR 91 (.ci .eql (.r 90) (.con (.int (-1)))),
          .setR 92 (.pick (.r 89) (.r 91) (.con (.bool false)))])
        (.ite (.r 92) [10] []
         (.is [.setR 93 (.r 4),
           .setR 94 (.r 11),
           .chk (.idx (.o 4) (.r 94)),
           .setR 95 (.r 94),
           .setR 96 (.nth (.o 4) (.r 95)),
           .setR 10 (.r 96)])
         .skip))
       (.seq
        (.seq
         (.is [.setR 97 (.r 12),
           .setR 98 (.ci .eql (.r 97) (.con (.int (-1))))])
         (.ite (.r 98) [12] []
          (.is [.setR 99 (.r 10),
            .setR 12 (.r 99)])
          .skip))
        (.seq
         (.is [.setR 100 (.r 4),
           .setR 101 (.r 11),
           .chk (.idx (.o 4) (.r 101)),
           .setR 102 (.r 101),
           .setR 103 (.nth (.o 4) (.r 102)),
           .setR 104 (.r 12),
           .setR 105 (.ci .neq (.r 103) (.r 104))])
         (.ite (.r 105) [2,3] []
          (.seq
           (.is [.setR 2 (.con (.int 0)),
             .setR 3 (.con (.int 11))])
           (.ret (.tup [(.r 2),(.r 3)])))
          .skip))))))
    (.is [.setR 106 (.ai .add .i64 (.r 82) (.con (.int 1))),
      .setR 82 (.r 106)]))))
def awP:PC:=.block 3 [2,3,10,82,83] [] (.loop [2,3,10,82] [] aml)
def Q6:PC:=
 (.seq
  (.is [.setO 1 (.mk [(.r 0)]),
    .setR 1 (.con .none),
    .setR 2 (.con (.int 0)),
    .setR 3 (.con (.int 0))])
  (.seq
   (.is [.setR 13 (.con .none),
     .setR 14 (.cell (.o 1) 2),
     .setR 15 (.llen (.r 14)),
     .chk (.an (.ci .geq (.r 15) (.con (.int 0))) (.ci .leq (.r 15) (.con (.int 4294967296)))),
     .chk (.ci .eql (.r 15) (.r 15)),
     .setO 16 (.rep (.r 15) (.con (.int 0))),
     .setR 16 (.con .none),
     .setR 4 (.r 16),
     .setO 4 (.o 16)])
   (.seq
    (.seq
     (.is [.setR 17 (.con .none),
       .setR 18 (.cell (.o 1) 2),
       .setR 19 (.llen (.r 18)),
       .setR 20 (.con (.int 0))])
     awO)
    (.seq
     (.block 2 [2,3,38,39,40,41,42,46,47,48,49,50,51,55,56,60] []
      (.seq
       (.is [.setR 39 (.con .none),
         .setR 40 (.cell (.o 1) 0),
         .setR 41 (.ci .lss (.r 40) (.con (.int 0))),
         .setR 42 (.r 41),
         .setR 43 (.con .none),
         .setR 44 (.cell (.o 1) 0),
         .setR 45 (.ci .gtr (.r 44) (.con (.int 13))),
         .setR 46 (.pick (.r 42) (.con (.bool true)) (.r 45)),
         .setR 38 (.r 46)])
       (.ite (.r 38) [2,3,47,48,49,50,51,55,56,60] []
        (.seq
         (.is [.setR 2 (.con (.int 0)),
           .setR 3 (.con (.int 1))])
         (.ret (.tup [(.r 2),(.r 3)])))
        (.seq
         (.is [.setR 48 (.con .none),
           .setR 49 (.cell (.o 1) 0),
           .setR 50 (.ci .eql (.r 49) (.con (.int 0))),
           .setR 51 (.r 50),
           .setR 52 (.con .none),
           .setR 53 (.cell (.o 1) 0),
           .setR 54 (.ci .eql (.r 53) (.con (.int 1))),
           .setR 55 (.pick (.r 51) (.con (.bool true)) (.r 54)),
           .setR 56 (.r 55),
           .setR 57 (.con .none),
           .setR 58 (.cell (.o 1) 0),
           .setR 59 (.ci .eql (.r 58) (.con (.int 2))),
           .setR 60 (.pick (.r 56) (.con (.bool true)) (.r 59)),
           .setR 47 (.r 60)])
         (.ite (.r 47) [2,3] []
          (.seq
           (.is [.setR 61 (.mk [(.cell (.o 1) 0),(.cell (.o 1) 1),(.cell (.o 1) 2)]),
             .call [] 62 260 [(.r 61)],
             .setR 63 (.tget (.r 62) 0),
             .setR 64 (.tget (.r 62) 1),
             .setR 2 (.r 63),
             .setR 3 (.r 64)])
           (.ret (.tup [(.r 2),(.r 3)])))
          .skip)))))
     (.seq
      (.is [.setR 65 (.con .none),
        .setR 66 (.cell (.o 1) 0),
        .call [] 67 261 [(.r 66)],
        .setO 9 (.con (.agg [(.list []),(.int 0)])),
        .setR 9 (.con .none),
        .setO 4105 (.con (.list [])),
        .setO 9 (.setc (.o 9) 0 (.r 67))])
      (.seq
       (.seq
        (.is [.setR 68 (.r 4),
         .setR 69 (.llen (.o 4)),
         .setR 70 (.con .none),
         .setR 71 (.cell (.o 9) 0),
         .setR 72 (.llen (.r 71)),
         .setR 73 (.ci .neq (.r 69) (.r 72)),
         .setR 74 (.r 73),
         .setR 75 (.con .none),
         .setR 76 (.cell (.o 1) 1),
         .setR 77 (.ci .neq (.r 76) (.con (.int 0))),
         .setR 78 (.pick (.r 74) (.con (.bool true)) (.r 77))])
        (.ite (.r 78) [2,3] []
         (.seq
          (.is [.setR 2 (.con (.int 0)),
           .setR 3 (.con (.int 2))])
          (.ret (.tup [(.r 2),(.r 3)])))
         .skip))
       (.seq
        (.is [.setR 10 (.con (.int (-1)))])
        (.seq
         (.seq
          (.is [.setR 79 (.con .none),
           .setR 80 (.cell (.o 9) 0),
           .setR 81 (.llen (.r 80)),
           .setR 82 (.con (.int 0))])
          awP)
         (.seq
          (.seq
           (.is [.setR 107 (.con .none),
             .setR 108 (.cell (.o 9) 1),
             .setR 109 (.ci .eql (.r 108) (.con (.int (-1))))])
           (.ite (.r 109) [2,3] []
            (.seq
             (.is [.setR 110 (.r 10),
              .setR 2 (.r 110),
              .setR 3 (.con (.int 0))])
             (.ret (.tup [(.r 2),(.r 3)])))
            .skip))
          (.seq
           (.is [.setR 111 (.con .none),
             .setR 112 (.cell (.o 9) 1),
             .setR 2 (.r 112),
             .setR 3 (.con (.int 0))])
           (.ret (.tup [(.r 2),(.r 3)]))))))))))))
theorem ayk:xt=some Q6:=by kernel_rfl
theorem ayK:tab RT=some Q6:=by rw[Ys,←ayk,←Zk]
def Q7:PC:=
 (.seq
  (.is [.setO 2 (.mk [(.r 0)]),
    .setR 2 (.con .none),
    .setO 4 (.con (.agg [(.bool false),(.int 0)])),
    .setR 4 (.con .none)])
  (.seq
   (.seq
    (.is [.setR 7 (.r 1),
      .setR 8 (.con .none),
      .setR 9 (.cell (.o 2) 0),
      .setR 10 (.llen (.r 9)),
      .setR 11 (.ci .geq (.r 7) (.r 10)),
      .setR 12 (.r 11),
      .setR 13 (.con .none),
      .setR 14 (.cell (.o 2) 0),
      .setR 15 (.r 1),
      .chk (.imp [(12,false)] (.idx (.r 14) (.r 15))),
      .setR 16 (.ref (.nth (.r 14) (.r 15))),
      .setR 17 (.ref (.cell (.deref (.r 16)) 0)),
      .setR 18 (.deref (.r 17)),
      .setR 19 (.nt (.r 18)),
      .setR 20 (.pick (.r 12) (.con (.bool true)) (.r 19))])
    (.ite (.r 20) [] [4]
     (.seq
      (.is [.setR 21 (.mk [(.con (.bool false)),(.con (.int 0))]),
        .setO 4 (.setc (.o 4) 0 (.r 21))])
      (.ret (.mk [(.cell (.o 4) 0),(.cell (.o 4) 1)])))
     .skip))
   (.seq
    (.seq
     (.is [.setR 23 (.r 1),
       .call [] 24 262 [(.r 23)],
       .setR 22 (.r 24),
       .setR 25 (.tget (.r 22) 0),
       .setR 26 (.tget (.r 22) 1),
       .setR 5 (.r 25),
       .setR 6 (.r 26)])
     (.seq
      (.is [.setR 27 (.r 5),
        .setR 28 (.ci .eql (.r 27) (.con (.int 1)))])
      (.ite (.r 28) [] [4]
       (.seq
        (.is [.setR 29 (.con .none),
         .setR 30 (.cell (.o 2) 0),
         .setR 31 (.r 1),
         .chk (.idx (.r 30) (.r 31)),
         .setR 32 (.ref (.nth (.r 30) (.r 31))),
         .setR 33 (.ref (.cell (.deref (.r 32)) 1)),
         .setR 34 (.deref (.r 33)),
         .setR 35 (.ci .neq (.r 34) (.con (.int 0))),
         .call [] 36 263 [(.r 35)],
         .setO 4 (.setc (.o 4) 0 (.r 36))])
        (.ret (.mk [(.cell (.o 4) 0),(.cell (.o 4) 1)])))
       .skip)))
    (.seq
     (.is [.setR 37 (.con .none),
       .setR 38 (.cell (.o 2) 0),
       .setR 39 (.r 1),
       .chk (.idx (.r 38) (.r 39)),
       .setR 40 (.ref (.nth (.r 38) (.r 39))),
       .setR 41 (.ref (.cell (.deref (.r 40)) 1)),
       .setR 42 (.deref (.r 41)),
       .call [] 43 264 [(.r 42)],
       .setR 44 (.mk [(.con (.bool true)),(.r 43)]),
       .setO 4 (.setc (.o 4) 0 (.r 44))])
     (.ret (.mk [(.cell (.o 4) 0),(.cell (.o 4) 1)]))))))
theorem ayl:BL=some Q7:=by kernel_rfl
theorem ayL:tab RW=some Q7:=by rw[Yw,←ayl,←Zo]
def Q8:PC:=
 (.seq
  (.is [.setO 4 (.con (.agg [(.bool false),(.int 0)])),
    .setR 4 (.con .none)])
  (.seq
   (.seq
    (.is [.setR 8 (.r 0)])
    (.block 0 [9,10,22,23] [4]
     (.seq
      (.is [.setR 10 (.ci .eql (.r 8) (.con (.int 3))),
        .setR 9 (.r 10)])
      (.ite (.r 9) [22,23] [4]
       (.seq
        (.seq
         (.is [.setR 11 (.r 1),
           .chk (.idx (.r 11) (.con (.int 0))),
           .setR 12 (.ref (.nth (.r 11) (.con (.int 0)))),
           .setR 13 (.ref (.cell (.deref (.r 12)) 0)),
           .setR 14 (.deref (.r 13))])
         (.ite (.r 14) [] [4]
          (.seq
           (.is [.setR 15 (.r 1),
             .chk (.idx (.r 15) (.con (.int 0))),
             .setR 16 (.ref (.nth (.r 15) (.con (.int 0)))),
             .setR 17 (.ref (.cell (.deref (.r 16)) 1)),
             .setR 18 (.deref (.r 17)),
             .setR 19 (.ci .eql (.r 18) (.con (.int 0))),
             .call [] 20 263 [(.r 19)],
             .setO 4 (.setc (.o 4) 0 (.r 20))])
           (.ret (.mk [(.cell (.o 4) 0),(.cell (.o 4) 1)])))
          .skip))
        (.seq
         (.is [.setR 21 (.mk [(.con (.bool false)),(.con (.int 0))]),
           .setO 4 (.setc (.o 4) 0 (.r 21))])
         (.ret (.mk [(.cell (.o 4) 0),(.cell (.o 4) 1)]))))
       (.seq
        (.seq
         (.is [.setR 23 (.ci .eql (.r 8) (.con (.int 4))),
           .setR 22 (.r 23)])
         (.ite (.r 22) [22] []
          .skip
          (.is [.setR 24 (.ci .eql (.r 8) (.con (.int 5))),
            .setR 22 (.r 24)])))
        (.ite (.r 22) [] [4]
         (.seq
          (.is [.setR 25 (.r 0),
            .setR 26 (.ci .eql (.r 25) (.con (.int 5))),
            .call [] 27 263 [(.r 26)],
            .setO 5 (.con (.agg [(.bool false),(.int 0)])),
            .setR 5 (.con .none),
            .setO 5 (.setc (.o 5) 0 (.r 27))])
          (.seq
           (.is [.setR 28 (.r 1),
             .chk (.idx (.r 28) (.con (.int 0))),
             .setR 29 (.ref (.nth (.r 28) (.con (.int 0)))),
             .setR 30 (.deref (.r 29)),
             .setR 31 (.mk [(.cell (.o 5) 0),(.cell (.o 5) 1)]),
             .setR 32 (.an (.cb .eql (.cell (.r 30) 0) (.cell (.r 31) 0)) (.an (.ci .eql (.cell (.r 30) 1) (.cell (.r 31) 1)) (.con (.bool true)))),
             .setR 33 (.r 32),
             .setR 34 (.r 1),
             .chk (.imp [(33,false)] (.idx (.r 34) (.con (.int 1)))),
             .setR 35 (.ref (.nth (.r 34) (.con (.int 1)))),
             .setR 36 (.deref (.r 35)),
             .setR 37 (.mk [(.cell (.o 5) 0),(.cell (.o 5) 1)]),
             .setR 38 (.an (.cb .eql (.cell (.r 36) 0) (.cell (.r 37) 0)) (.an (.ci .eql (.cell (.r 36) 1) (.cell (.r 37) 1)) (.con (.bool true)))),
             .setR 39 (.pick (.r 33) (.con (.bool true)) (.r 38))])
           (.ite (.r 39) [] [4]
            (.seq
             (.is [.setR 40 (.mk [(.cell (.o 5) 0),(.cell (.o 5) 1)]),
               .setO 4 (.setc (.o 4) 0 (.r 40))])
             (.ret (.mk [(.cell (.o 4) 0),(.cell (.o 4) 1)])))
            .skip)))
         (.seq
          (.is [.setR 42 (.ci .eql (.r 8) (.con (.int 6))),
            .setR 41 (.r 42)])
          (.ite (.r 41) [] [4]
           (.seq
            (.seq
             (.is [.setR 43 (.r 1),
               .chk (.idx (.r 43) (.con (.int 1))),
               .setR 44 (.ref (.nth (.r 43) (.con (.int 1)))),
               .setR 45 (.ref (.cell (.deref (.r 44)) 0)),
               .setR 46 (.deref (.r 45)),
               .setR 47 (.r 46),
               .setR 48 (.r 1),
               .chk (.imp [(47,true)] (.idx (.r 48) (.con (.int 1)))),
               .setR 49 (.ref (.nth (.r 48) (.con (.int 1)))),
               .setR 50 (.deref (.r 49)),
               .setR 51 (.r 1),
               .chk (.imp [(47,true)] (.idx (.r 51) (.con (.int 2)))),
               .setR 52 (.ref (.nth (.r 51) (.con (.int 2)))),
               .setR 53 (.deref (.r 52)),
               .setR 54 (.an (.cb .eql (.cell (.r 50) 0) (.cell (.r 53) 0)) (.an (.ci .eql (.cell (.r 50) 1) (.cell (.r 53) 1)) (.con (.bool true)))),
               .setR 55 (.pick (.r 47) (.r 54) (.con (.bool false)))])
             (.ite (.r 55) [] [4]
              (.seq
               (.is [.setR 56 (.r 1),
                 .chk (.idx (.r 56) (.con (.int 1))),
                 .setR 57 (.ref (.nth (.r 56) (.con (.int 1)))),
                 .setR 58 (.deref (.r 57)),
                 .setO 4 (.setc (.o 4) 0 (.r 58))])
               (.ret (.mk [(.cell (.o 4) 0),(.cell (.o 4) 1)])))
              .skip))
            (.seq
             (.is [.setR 59 (.mk [(.con (.bool false)),(.con (.int 0))]),
               .setO 4 (.setc (.o 4) 0 (.r 59))])
             (.ret (.mk [(.cell (.o 4) 0),(.cell (.o 4) 1)]))))
           .skip))))))))
   (.seq
    (.seq
     (.is [.setR 60 (.r 1),
       .chk (.idx (.r 60) (.con (.int 0))),
       .setR 61 (.ref (.nth (.r 60) (.con (.int 0)))),
       .setR 62 (.ref (.cell (.deref (.r 61)) 0)),
       .setR 63 (.deref (.r 62)),
       .setR 64 (.nt (.r 63)),
       .setR 65 (.r 64),
       .setR 66 (.r 1),
       .chk (.imp [(65,false)] (.idx (.r 66) (.con (.int 1)))),
       .setR 67 (.ref (.nth (.r 66) (.con (.int 1)))),
       .setR 68 (.ref (.cell (.deref (.r 67)) 0)),
       .setR 69 (.deref (.r 68)),
       .setR 70 (.nt (.r 69)),
       .setR 71 (.pick (.r 65) (.con (.bool true)) (.r 70))])
     (.ite (.r 71) [] [4]
      (.seq
       (.is [.setR 72 (.mk [(.con (.bool false)),(.con (.int 0))]),
         .setO 4 (.setc (.o 4) 0 (.r 72))])
       (.ret (.mk [(.cell (.o 4) 0),(.cell (.o 4) 1)])))
      .skip))
    (.seq
     (.is [.setR 73 (.r 1),
       .chk (.idx (.r 73) (.con (.int 0))),
       .setR 74 (.ref (.nth (.r 73) (.con (.int 0)))),
       .setR 75 (.ref (.cell (.deref (.r 74)) 1)),
       .setR 76 (.deref (.r 75)),
       .setR 77 (.r 1),
       .chk (.idx (.r 77) (.con (.int 1))),
       .setR 78 (.ref (.nth (.r 77) (.con (.int 1)))),
       .setR 79 (.ref (.cell (.deref (.r 78)) 1)),
       .setR 80 (.deref (.r 79)),
       .setR 6 (.r 76),
       .setR 7 (.r 80)])
     (.seq
      (.seq
       (.is [.setR 81 (.r 0)])
       (.block 1 [82,83,88,89,94,95] [4]
        (.seq
         (.seq
          (.is [.setR 83 (.ci .eql (.r 81) (.con (.int 4))),
           .setR 82 (.r 83)])
          (.ite (.r 82) [82] []
           .skip
           (.is [.setR 84 (.ci .eql (.r 81) (.con (.int 5))),
             .setR 82 (.r 84)])))
         (.ite (.r 82) [88,89,94,95] [4]
          (.seq
           (.is [.setR 85 (.r 0),
             .setR 86 (.ci .eql (.r 85) (.con (.int 4))),
             .call [] 87 263 [(.r 86)],
             .setO 4 (.setc (.o 4) 0 (.r 87))])
           (.ret (.mk [(.cell (.o 4) 0),(.cell (.o 4) 1)])))
          (.seq
           (.is [.setR 89 (.ci .eql (.r 81) (.con (.int 7))),
             .setR 88 (.r 89)])
           (.ite (.r 88) [94,95] [4]
            (.seq
             (.is [.setR 90 (.r 6),
               .setR 91 (.r 7),
               .setR 92 (.ci .lss (.r 90) (.r 91)),
               .call [] 93 263 [(.r 92)],
               .setO 4 (.setc (.o 4) 0 (.r 93))])
             (.ret (.mk [(.cell (.o 4) 0),(.cell (.o 4) 1)])))
            (.seq
             (.is [.setR 95 (.ci .eql (.r 81) (.con (.int 8))),
               .setR 94 (.r 95)])
             (.ite (.r 94) [] [4]
              (.seq
               (.is [.setR 96 (.r 6),
                 .setR 97 (.r 7),
                 .setR 98 (.ci .eql (.r 96) (.r 97)),
                 .call [] 99 263 [(.r 98)],
                 .setO 4 (.setc (.o 4) 0 (.r 99))])
               (.ret (.mk [(.cell (.o 4) 0),(.cell (.o 4) 1)])))
              .skip))))))))
      (.seq
       (.is [.setR 100 (.r 0),
         .setR 101 (.r 6),
         .setR 102 (.r 7),
         .call [] 103 265 [(.r 100),(.r 101),(.r 102)],
         .setR 104 (.mk [(.con (.bool true)),(.r 103)]),
         .setO 4 (.setc (.o 4) 0 (.r 104))])
       (.ret (.mk [(.cell (.o 4) 0),(.cell (.o 4) 1)]))))))))
theorem aym:BJ=some Q8:=by kernel_rfl
theorem ayM:tab RU=some Q8:=by rw[Yt,←aym,←Zl]
def amm:PC:=
 (.seq
  (.is [.setR 12 (.ci .lss (.r 11) (.r 10))])
  (.seq
   (.ite (.r 12) [] []
    .skip
    (.exit 0))
   (.seq
    (.block 1 [3,5,13,14,15,16,17,18,19,20] []
     (.seq
      (.is [.chk (.idx (.r 9) (.r 11)),
        .setR 13 (.ref (.nth (.r 9) (.r 11))),
        .setR 14 (.deref (.r 13)),
        .setR 5 (.r 14)])
      (.seq
       (.is [.setR 15 (.r 3),
         .setR 16 (.r 5),
         .setR 17 (.llen (.r 16)),
         .setR 18 (.ai .add .i64 (.r 15) (.r 17)),
         .setR 3 (.r 18)])
       (.seq
        (.is [.setR 19 (.r 3),
          .setR 20 (.ci .lss (.r 19) (.con (.int 0)))])
        (.ite (.r 20) [] []
         (.is [.chk (.nt (.con (.bool true))),
           .setR 21 (.con .none),
           .chk (.nt (.con (.bool true)))])
         .skip)))))
    (.is [.setR 22 (.ai .add .i64 (.r 11) (.con (.int 1))),
      .setR 11 (.r 22)]))))
def awQ:PC:=.block 0 [3,11,12] [] (.loop [3,11] [] amm)
def amn:PC:=
 (.seq
  (.is [.setR 28 (.ci .lss (.r 27) (.r 26))])
  (.seq
   (.ite (.r 28) [] []
    .skip
    (.exit 2))
   (.seq
    (.block 3 [6,8,29,30,32,33] [6]
     (.seq
      (.is [.chk (.idx (.r 25) (.r 27)),
        .setR 29 (.ref (.nth (.r 25) (.r 27))),
        .setR 30 (.deref (.r 29)),
        .setR 8 (.r 30)])
      (.is [.setR 31 (.r 6),
        .setR 32 (.r 8),
        .chk (.ci .leq (.llen (.app (.o 6) (.r 32))) (.con (.int 4294967296))),
        .setO 6 (.app (.o 6) (.r 32)),
        .setR 33 (.con .none),
        .setR 6 (.r 33)])))
    (.is [.setR 34 (.ai .add .i64 (.r 27) (.con (.int 1))),
      .setR 27 (.r 34)]))))
def awR:PC:=.block 2 [6,27,28] [6] (.loop [6,27] [6] amn)
def Q9:PC:=
 (.seq
  (.is [.setR 2 (.con (.list []))])
  (.seq
   (.is [.setR 3 (.con (.int 0))])
   (.seq
    (.seq
     (.is [.setR 9 (.r 0),
       .setR 10 (.llen (.r 9)),
       .setR 11 (.con (.int 0))])
     awQ)
    (.seq
     (.is [.setR 23 (.r 3),
       .call [] 24 266 [(.con (.list [])),(.r 23)],
       .setO 24 (.r 24),
       .setR 24 (.con .none),
       .setR 6 (.r 24),
       .setO 6 (.o 24)])
     (.seq
      (.seq
       (.is [.setR 25 (.r 0),
         .setR 26 (.llen (.r 25)),
         .setR 27 (.con (.int 0))])
       awR)
      (.seq
       (.is [.setR 35 (.r 6),
         .setR 2 (.o 6)])
       (.ret (.r 2))))))))
theorem ayn:xp=some Q9:=by kernel_rfl
theorem ayN:tab RL=some Q9:=by rw[Yl,←ayn,←Za]
def Q3:PC:=
 (.seq
  (.is [.setR 2 (.con (.int 0))])
  (.seq
   (.ite (.con (.bool false)) [2] []
    (.seq
     (.is [.setR 3 (.r 0),
       .setR 4 (.conv .u32 (.r 3)),
       .call [] 5 255 [(.r 4)],
       .setR 2 (.r 5)])
     (.ret (.r 2)))
    .skip)
   (.seq
    (.is [.setR 6 (.r 0),
      .call [] 7 256 [(.r 6)],
      .setR 2 (.r 7)])
    (.ret (.r 2)))))
theorem ayh:AK=some Q3:=by kernel_rfl
theorem ayH:tab ac1=some Q3:=by rw[aki,←ayh,←YU]
def ami:PC:=
 (.block 1 [1,2,3,8,9,10,11,12,19,20,21,22,23,28,29,34,35,42,43,44,45,46,47,48,49,50,61,62,64,65,68,73,74,75,87] []
  (.seq
   (.is [.setR 19 (.r 2),
     .setR 20 (.r 1),
     .setR 21 (.ai .sub .i64 (.r 19) (.r 20)),
     .setR 10 (.r 21)])
   (.seq
    (.seq
     (.is [.setR 22 (.r 10),
       .setR 23 (.ci .leq (.r 22) (.con (.int 12)))])
     (.ite (.r 23) [] []
      (.seq
       (.is [.setR 24 (.r 0),
         .setR 25 (.r 1),
         .setR 26 (.r 2),
         .call [] 27 246 [(.r 24),(.r 25),(.r 26)]])
       (.ret (.tup [])))
      .skip))
    (.seq
     (.seq
      (.is [.setR 28 (.r 3),
        .setR 29 (.ci .eql (.r 28) (.con (.int 0)))])
      (.ite (.r 29) [] []
       (.seq
        (.is [.setR 30 (.r 0),
          .setR 31 (.r 1),
          .setR 32 (.r 2),
          .call [] 33 247 [(.r 30),(.r 31),(.r 32)]])
        (.ret (.tup [])))
       .skip))
     (.seq
      (.seq
       (.is [.setR 34 (.r 8),
         .setR 35 (.nt (.r 34))])
       (.ite (.r 35) [3] []
        (.seq
         (.is [.setR 36 (.r 0),
           .setR 37 (.r 1),
           .setR 38 (.r 2),
           .call [] 39 248 [(.r 36),(.r 37),(.r 38)]])
         (.is [.setR 40 (.r 3),
           .setR 41 (.ai .sub .i64 (.r 40) (.con (.int 1))),
           .setR 3 (.r 41)]))
        .skip))
      (.seq
       (.is [.setR 43 (.r 0),
         .setR 44 (.r 1),
         .setR 45 (.r 2),
         .call [] 46 249 [(.r 43),(.r 44),(.r 45)],
         .setR 42 (.r 46),
         .setR 47 (.tget (.r 42) 0),
         .setR 48 (.tget (.r 42) 1),
         .setR 11 (.r 47),
         .setR 12 (.r 48)])
       (.seq
        (.seq
         (.is [.setR 49 (.r 12),
           .setR 50 (.ci .eql (.r 49) (.con (.int 2)))])
         (.ite (.r 50) [11,12] []
          (.seq
           (.is [.setR 51 (.r 0),
             .setR 52 (.r 1),
             .setR 53 (.r 2),
             .call [] 54 250 [(.r 51),(.r 52),(.r 53)]])
           (.seq
            (.is [.setR 55 (.r 2),
             .setR 56 (.ai .sub .i64 (.r 55) (.con (.int 1))),
             .setR 57 (.r 11),
             .setR 58 (.r 1),
             .setR 59 (.ai .sub .i64 (.r 57) (.r 58)),
             .setR 60 (.ai .sub .i64 (.r 56) (.r 59)),
             .setR 11 (.r 60)])
            (.is [.setR 12 (.con (.int 1))])))
          .skip))
        (.seq
         (.seq
          (.is [.setR 61 (.r 8),
            .setR 62 (.r 61),
            .setR 63 (.r 9),
            .setR 64 (.pick (.r 62) (.r 63) (.con (.bool false))),
            .setR 65 (.r 64),
            .setR 66 (.r 12),
            .setR 67 (.ci .eql (.r 66) (.con (.int 1))),
            .setR 68 (.pick (.r 65) (.r 67) (.con (.bool false)))])
          (.ite (.r 68) [] []
           (.seq
            (.is [.setR 69 (.r 0),
             .setR 70 (.r 1),
             .setR 71 (.r 2),
             .call [] 72 251 [(.r 69),(.r 70),(.r 71)]])
            (.ite (.r 72) [] []
             (.ret (.tup []))
             .skip))
           .skip))
         (.seq
          (.seq
           (.is [.setR 73 (.r 1),
             .setR 74 (.ci .gtr (.r 73) (.con (.int 0))),
             .setR 75 (.r 74),
             .setR 76 (.r 0),
             .setR 77 (.r 1),
             .setR 78 (.ai .sub .i64 (.r 77) (.con (.int 1))),
             .chk (.imp [(75,true)] (.idx (.r 76) (.r 78))),
             .setR 79 (.ref (.nth (.r 76) (.r 78))),
             .setR 80 (.deref (.r 79)),
             .setR 81 (.r 0),
             .setR 82 (.r 11),
             .chk (.imp [(75,true)] (.idx (.r 81) (.r 82))),
             .setR 83 (.ref (.nth (.r 81) (.r 82))),
             .setR 84 (.deref (.r 83)),
             .call [(75,true)] 85 252 [(.r 80),(.r 84)],
             .setR 86 (.nt (.r 85)),
             .setR 87 (.pick (.r 75) (.r 86) (.con (.bool false)))])
           (.ite (.r 87) [1] []
            (.seq
             (.is [.setR 88 (.r 0),
              .setR 89 (.r 1),
              .setR 90 (.r 2),
              .setR 91 (.r 11),
              .call [] 92 253 [(.r 88),(.r 89),(.r 90),(.r 91)],
              .setR 13 (.r 92)])
             (.seq
              (.is [.setR 93 (.r 13),
               .setR 1 (.r 93)])
              (.exit 1)))
            .skip))
          (.seq
           (.is [.setR 95 (.r 0),
             .setR 96 (.r 1),
             .setR 97 (.r 2),
             .setR 98 (.r 11),
             .call [] 99 254 [(.r 95),(.r 96),(.r 97),(.r 98)],
             .setR 94 (.r 99),
             .setR 100 (.tget (.r 94) 0),
             .setR 101 (.tget (.r 94) 1),
             .setR 14 (.r 100),
             .setR 15 (.r 101)])
           (.seq
            (.is [.setR 102 (.r 15),
             .setR 9 (.r 102)])
            (.seq
             (.is [.setR 103 (.r 14),
              .setR 104 (.r 1),
              .setR 105 (.ai .sub .i64 (.r 103) (.r 104)),
              .setR 106 (.r 2),
              .setR 107 (.r 14),
              .setR 108 (.ai .sub .i64 (.r 106) (.r 107)),
              .setR 16 (.r 105),
              .setR 17 (.r 108)])
             (.seq
              (.is [.setR 109 (.r 10),
               .chk (.ci .neq (.con (.int 8)) (.con (.int 0))),
               .setR 110 (.ai .quo .i64 (.r 109) (.con (.int 8))),
               .setR 18 (.r 110)])
              (.seq
               (.is [.setR 111 (.r 16),
                .setR 112 (.r 17),
                .setR 113 (.ci .lss (.r 111) (.r 112))])
               (.ite (.r 113) [1,2,8] []
                (.seq
                 (.is [.setR 114 (.r 16),
                  .setR 115 (.r 18),
                  .setR 116 (.ci .geq (.r 114) (.r 115)),
                  .setR 8 (.r 116)])
                 (.seq
                  (.is [.setR 117 (.r 0),
                    .setR 118 (.r 1),
                    .setR 119 (.r 14),
                    .setR 120 (.r 3),
                    .call [] 121 206 [(.r 117),(.r 118),(.r 119),(.r 120)]])
                  (.is [.setR 122 (.r 14),
                    .setR 123 (.ai .add .i64 (.r 122) (.con (.int 1))),
                    .setR 1 (.r 123)])))
                (.seq
                 (.is [.setR 124 (.r 17),
                  .setR 125 (.r 18),
                  .setR 126 (.ci .geq (.r 124) (.r 125)),
                  .setR 8 (.r 126)])
                 (.seq
                  (.is [.setR 127 (.r 0),
                    .setR 128 (.r 14),
                    .setR 129 (.ai .add .i64 (.r 128) (.con (.int 1))),
                    .setR 130 (.r 2),
                    .setR 131 (.r 3),
                    .call [] 132 206 [(.r 127),(.r 129),(.r 130),(.r 131)]])
                  (.is [.setR 133 (.r 14),
                    .setR 2 (.r 133)]))))))))))))))))))
def awM:PC:=.block 0 [] [] (.loop [1,2,3,8,9] [] ami)
def Q0:PC:=
 (.seq
  (.is [.setR 8 (.con (.bool true))])
  (.seq
   (.is [.setR 9 (.con (.bool true))])
   awM))
theorem ayg:BD=some Q0:=by kernel_rfl
theorem ayG:tab aeo=some Q0:=by rw[alN,←ayg,←Zg]
def amf:PC:=
 (.seq
  (.is [.setR 9 (.ci .lss (.r 8) (.r 7))])
  (.seq
   (.ite (.r 9) [] []
    .skip
    (.exit 0))
   (.seq
    (.block 1 [4,5,10,11,12,13,14,15,16] []
     (.seq
      (.is [.setR 10 (.r 8),
        .setR 5 (.r 10)])
      (.seq
       (.is [.setR 11 (.r 1),
         .setR 12 (.r 0),
         .setR 13 (.r 5),
         .chk (.idx (.r 12) (.r 13)),
         .setR 14 (.ref (.nth (.r 12) (.r 13))),
         .setR 15 (.deref (.r 14)),
         .setR 16 (.ci .eql (.r 11) (.r 15))])
       (.ite (.r 16) [4] []
        (.seq
         (.is [.setR 17 (.r 5),
           .setR 4 (.r 17)])
         (.ret (.r 4)))
        .skip))))
    (.is [.setR 18 (.ai .add .i64 (.r 8) (.con (.int 1))),
      .setR 8 (.r 18)]))))
def awJ:PC:=.block 0 [4,8,9] [] (.loop [4,8] [] amf)
def QV:PC:=
 (.seq
  (.is [.setR 4 (.con (.int 0))])
  (.seq
   (.seq
    (.is [.setR 6 (.r 0),
      .setR 7 (.llen (.r 6)),
      .setR 8 (.con (.int 0))])
    awJ)
   (.seq
    (.is [.setR 4 (.con (.int (-1)))])
    (.ret (.r 4)))))
theorem ayb:xr=some QV:=by kernel_rfl
theorem ayA:tab RO=some QV:=by rw[Yo,←ayb,←Zd]
def Rc:PC:=
 (.seq
  (.is [.setO 1 (.mk [(.r 0)]),
    .setR 1 (.con .none),
    .setR 2 (.con (.int 0)),
    .setR 3 (.con (.int 0))])
  (.seq
   (.seq
    (.is [.setR 6 (.con .none),
      .setR 7 (.cell (.o 1) 2),
      .setR 8 (.llen (.r 7)),
      .setR 9 (.ci .gtr (.r 8) (.con (.int 0)))])
    (.ite (.r 9) [2,3] []
     (.seq
      (.is [.setR 2 (.con (.int 0)),
        .setR 3 (.con (.int 2))])
      (.ret (.tup [(.r 2),(.r 3)])))
     .skip))
   (.seq
    (.seq
     (.is [.setR 10 (.con .none),
       .setR 11 (.cell (.o 1) 0)])
     (.block 0 [2,3,12,13,20,21] []
      (.seq
       (.is [.setR 13 (.ci .eql (.r 11) (.con (.int 0))),
         .setR 12 (.r 13)])
       (.ite (.r 12) [2,3,20,21] []
        (.seq
         (.seq
          (.is [.setR 14 (.con .none),
           .setR 15 (.cell (.o 1) 1),
           .call [] 16 264 [(.r 15)],
           .setR 17 (.con .none),
           .setR 18 (.cell (.o 1) 1),
           .setR 19 (.ci .neq (.r 16) (.r 18))])
          (.ite (.r 19) [2,3] []
           (.seq
            (.is [.setR 2 (.con (.int 0)),
              .setR 3 (.con (.int 3))])
            (.ret (.tup [(.r 2),(.r 3)])))
           .skip))
         (.seq
          (.is [.setR 2 (.con (.int 0)),
           .setR 3 (.con (.int 0))])
          (.ret (.tup [(.r 2),(.r 3)]))))
        (.seq
         (.is [.setR 21 (.ci .eql (.r 11) (.con (.int 1))),
           .setR 20 (.r 21)])
         (.ite (.r 20) [2,3] []
          (.seq
           (.seq
            (.is [.setR 22 (.con .none),
              .setR 23 (.cell (.o 1) 1),
              .setR 24 (.ci .lss (.r 23) (.con (.int 0))),
              .setR 25 (.r 24),
              .setR 26 (.con .none),
              .setR 27 (.cell (.o 1) 1),
              .setR 28 (.ci .gtr (.r 27) (.con (.int 1))),
              .setR 29 (.pick (.r 25) (.con (.bool true)) (.r 28))])
            (.ite (.r 29) [2,3] []
             (.seq
              (.is [.setR 2 (.con (.int 0)),
                .setR 3 (.con (.int 3))])
              (.ret (.tup [(.r 2),(.r 3)])))
             .skip))
           (.seq
            (.is [.setR 2 (.con (.int 1)),
              .setR 3 (.con (.int 0))])
            (.ret (.tup [(.r 2),(.r 3)]))))
          .skip))))))
    (.seq
     (.is [.setR 31 (.con .none),
       .setR 32 (.cell (.o 1) 1),
       .call [] 33 262 [(.r 32)],
       .setR 30 (.r 33),
       .setR 34 (.tget (.r 30) 0),
       .setR 35 (.tget (.r 30) 1),
       .setR 4 (.r 34),
       .setR 5 (.r 35)])
     (.seq
      (.seq
       (.is [.setR 36 (.r 5),
         .setR 37 (.nt (.r 36))])
       (.ite (.r 37) [2,3] []
        (.seq
         (.is [.setR 2 (.con (.int 0)),
           .setR 3 (.con (.int 10))])
         (.ret (.tup [(.r 2),(.r 3)])))
        .skip))
      (.seq
       (.is [.setR 38 (.r 4),
         .setR 2 (.r 38),
         .setR 3 (.con (.int 0))])
       (.ret (.tup [(.r 2),(.r 3)]))))))))
theorem ayq:BK=some Rc:=by kernel_rfl
theorem ayQ:tab RV=some Rc:=by rw[Yu,←ayq,←Zm]
def Rd:PC:=
 (.seq
  (.is [.setO 2 (.con (.agg [(.list []),(.int 0)])),
    .setR 2 (.con .none),
    .setO 4098 (.con (.list []))])
  (.seq
   (.seq
    (.is [.setR 3 (.r 0)])
    (.block 0 [4,5,8,9,13,14,17,18,21,22] [2]
     (.seq
      (.is [.setR 5 (.ci .eql (.r 3) (.con (.int 3))),
        .setR 4 (.r 5)])
      (.ite (.r 4) [8,9,13,14,17,18,21,22] [2]
       (.seq
        (.is [.setO 6 (.lst [(.con (.int 1))]),
         .setR 6 (.con .none),
         .setR 7 (.mk [(.o 6),(.con (.int 1))]),
         .setO 2 (.setc (.o 2) 0 (.r 7))])
        (.ret (.mk [(.cell (.o 2) 0),(.cell (.o 2) 1)])))
       (.seq
        (.seq
         (.is [.setR 9 (.ci .eql (.r 3) (.con (.int 4))),
           .setR 8 (.r 9)])
         (.ite (.r 8) [8] []
          .skip
          (.is [.setR 10 (.ci .eql (.r 3) (.con (.int 5))),
            .setR 8 (.r 10)])))
        (.ite (.r 8) [13,14,17,18,21,22] [2]
         (.seq
          (.is [.setO 11 (.lst [(.con (.int 1)),(.con (.int 1))]),
            .setR 11 (.con .none),
            .setR 12 (.mk [(.o 11),(.con (.int 1))]),
            .setO 2 (.setc (.o 2) 0 (.r 12))])
          (.ret (.mk [(.cell (.o 2) 0),(.cell (.o 2) 1)])))
         (.seq
          (.is [.setR 14 (.ci .eql (.r 3) (.con (.int 6))),
            .setR 13 (.r 14)])
          (.ite (.r 13) [17,18,21,22] [2]
           (.seq
            (.is [.setO 15 (.lst [(.con (.int 1)),(.con (.int (-1))),(.con (.int (-1)))]),
              .setR 15 (.con .none),
              .setR 16 (.mk [(.o 15),(.con (.int (-1)))]),
              .setO 2 (.setc (.o 2) 0 (.r 16))])
            (.ret (.mk [(.cell (.o 2) 0),(.cell (.o 2) 1)])))
           (.seq
            (.is [.setR 18 (.ci .eql (.r 3) (.con (.int 7))),
              .setR 17 (.r 18)])
            (.ite (.r 17) [21,22] [2]
             (.seq
              (.is [.setO 19 (.lst [(.con (.int 0)),(.con (.int 0))]),
                .setR 19 (.con .none),
                .setR 20 (.mk [(.o 19),(.con (.int 1))]),
                .setO 2 (.setc (.o 2) 0 (.r 20))])
              (.ret (.mk [(.cell (.o 2) 0),(.cell (.o 2) 1)])))
             (.seq
              (.is [.setR 22 (.ci .eql (.r 3) (.con (.int 8))),
                .setR 21 (.r 22)])
              (.ite (.r 21) [] [2]
               (.seq
                (.is [.setO 23 (.lst [(.con (.int (-1))),(.con (.int (-1)))]),
                  .setR 23 (.con .none),
                  .setR 24 (.mk [(.o 23),(.con (.int 1))]),
                  .setO 2 (.setc (.o 2) 0 (.r 24))])
                (.ret (.mk [(.cell (.o 2) 0),(.cell (.o 2) 1)])))
               .skip))))))))))))
   (.seq
    (.is [.setO 25 (.lst [(.con (.int 0)),(.con (.int 0))]),
      .setR 25 (.con .none),
      .setR 26 (.mk [(.o 25),(.con (.int 0))]),
      .setO 2 (.setc (.o 2) 0 (.r 26))])
    (.ret (.mk [(.cell (.o 2) 0),(.cell (.o 2) 1)])))))
theorem ayr:BM=some Rd:=by kernel_rfl
theorem ayR:tab RY=some Rd:=by rw[Yx,←ayr,←Zq]
def Re:PC:=
 (.seq
  (.is [.setR 2 (.con (.int 0)),
    .setR 3 (.con (.bool false))])
  (.seq
   (.block 0 [2,3,4,5,6,7,10,11,12,13] []
    (.seq
     (.is [.setR 5 (.r 0),
       .setR 6 (.ci .lss (.r 5) (.con (.int 0))),
       .setR 7 (.r 6),
       .setR 8 (.r 0),
       .setR 9 (.ci .gtr (.r 8) (.con (.int 19))),
       .setR 10 (.pick (.r 7) (.con (.bool true)) (.r 9)),
       .setR 4 (.r 10)])
     (.ite (.r 4) [2,3,11,12,13] []
      (.seq
       (.is [.setR 2 (.con (.int 0)),
         .setR 3 (.con (.bool false))])
       (.ret (.tup [(.r 2),(.r 3)])))
      (.seq
       (.is [.setR 12 (.r 0),
         .setR 13 (.ci .lss (.r 12) (.con (.int 7))),
         .setR 11 (.r 13)])
       (.ite (.r 11) [2,3] []
        (.seq
         (.is [.setR 2 (.con (.int 0)),
           .setR 3 (.con (.bool true))])
         (.ret (.tup [(.r 2),(.r 3)])))
        .skip)))))
   (.seq
    (.is [.setR 2 (.con (.int 1)),
      .setR 3 (.con (.bool true))])
    (.ret (.tup [(.r 2),(.r 3)])))))
theorem ays:BI=some Re:=by kernel_rfl
theorem ayS:tab RS=some Re:=by rw[Yr,←ays,←Zj]
def Rf:PC:=
 (.seq
  (.is [.setO 2 (.con (.agg [(.bool false),(.int 0)])),
    .setR 2 (.con .none)])
  (.seq
   (.seq
    (.is [.setR 3 (.r 0)])
    (.ite (.r 3) [] [2]
     (.seq
      (.is [.setR 4 (.mk [(.con (.bool true)),(.con (.int 1))]),
        .setO 2 (.setc (.o 2) 0 (.r 4))])
      (.ret (.mk [(.cell (.o 2) 0),(.cell (.o 2) 1)])))
     .skip))
   (.seq
    (.is [.setR 5 (.mk [(.con (.bool true)),(.con (.int 0))]),
      .setO 2 (.setc (.o 2) 0 (.r 5))])
    (.ret (.mk [(.cell (.o 2) 0),(.cell (.o 2) 1)])))))
theorem ayt:BN=some Rf:=by kernel_rfl
theorem ayT:tab RZ=some Rf:=by rw[Yy,←ayt,←Zr]
def Rb:PC:=
 (.seq
  (.is [.setR 2 (.con (.int 0))])
  (.seq
   (.seq
    (.is [.setR 3 (.r 0),
      .setR 4 (.ci .geq (.r 3) (.con (.v (.int .u64 4294967296))))])
    (.ite (.r 4) [0,2] []
     (.seq
      (.is [.setR 5 (.r 0),
        .chk (.ci .geq (.con (.v (.int .u64 32))) (.con (.int 0))),
        .setR 6 (.ai .shr .u64 (.r 5) (.con (.v (.int .u64 32)))),
        .setR 0 (.r 6)])
      (.is [.setR 2 (.con (.int 32))]))
     .skip))
   (.seq
    (.seq
     (.is [.setR 7 (.r 0),
       .setR 8 (.ci .geq (.r 7) (.con (.v (.int .u64 65536))))])
     (.ite (.r 8) [0,2] []
      (.seq
       (.is [.setR 9 (.r 0),
         .chk (.ci .geq (.con (.v (.int .u64 16))) (.con (.int 0))),
         .setR 10 (.ai .shr .u64 (.r 9) (.con (.v (.int .u64 16)))),
         .setR 0 (.r 10)])
       (.is [.setR 11 (.r 2),
         .setR 12 (.ai .add .i64 (.r 11) (.con (.int 16))),
         .setR 2 (.r 12)]))
      .skip))
    (.seq
     (.seq
      (.is [.setR 13 (.r 0),
        .setR 14 (.ci .geq (.r 13) (.con (.v (.int .u64 256))))])
      (.ite (.r 14) [0,2] []
       (.seq
        (.is [.setR 15 (.r 0),
         .chk (.ci .geq (.con (.v (.int .u64 8))) (.con (.int 0))),
         .setR 16 (.ai .shr .u64 (.r 15) (.con (.v (.int .u64 8)))),
         .setR 0 (.r 16)])
        (.is [.setR 17 (.r 2),
         .setR 18 (.ai .add .i64 (.r 17) (.con (.int 8))),
         .setR 2 (.r 18)]))
       .skip))
     (.seq
      (.is [.setR 19 (.r 2),
        .setR 20 (.r 0),
        .setR 21 (.conv .u8 (.r 20)),
        .chk (.sok (.con (.v (.string ⟨#[0,1,2,2,3,3,3,3,4,4,4,4,4,4,4,4,5,5,5,5,5,5,5,5,5,5,5,5,5,5,5,5,6,6,6,6,6,6,6,6,6,6,6,6,6,6,6,6,6,6,6,6,6,6,6,6,6,6,6,6,6,6,6,6,7,7,7,7,7,7,7,7,7,7,7,7,7,7,7,7,7,7,7,7,7,7,7,7,7,7,7,7,7,7,7,7,7,7,7,7,7,7,7,7,7,7,7,7,7,7,7,7,7,7,7,7,7,7,7,7,7,7,7,7,7,7,7,7,8,8,8,8,8,8,8,8,8,8,8,8,8,8,8,8,8,8,8,8,8,8,8,8,8,8,8,8,8,8,8,8,8,8,8,8,8,8,8,8,8,8,8,8,8,8,8,8,8,8,8,8,8,8,8,8,8,8,8,8,8,8,8,8,8,8,8,8,8,8,8,8,8,8,8,8,8,8,8,8,8,8,8,8,8,8,8,8,8,8,8,8,8,8,8,8,8,8,8,8,8,8,8,8,8,8,8,8,8,8,8,8,8,8,8,8,8,8,8,8,8,8,8,8,8,8,8,8]⟩))) (.r 21)),
        .setR 22 (.sidx (.con (.v (.string ⟨#[0,1,2,2,3,3,3,3,4,4,4,4,4,4,4,4,5,5,5,5,5,5,5,5,5,5,5,5,5,5,5,5,6,6,6,6,6,6,6,6,6,6,6,6,6,6,6,6,6,6,6,6,6,6,6,6,6,6,6,6,6,6,6,6,7,7,7,7,7,7,7,7,7,7,7,7,7,7,7,7,7,7,7,7,7,7,7,7,7,7,7,7,7,7,7,7,7,7,7,7,7,7,7,7,7,7,7,7,7,7,7,7,7,7,7,7,7,7,7,7,7,7,7,7,7,7,7,7,8,8,8,8,8,8,8,8,8,8,8,8,8,8,8,8,8,8,8,8,8,8,8,8,8,8,8,8,8,8,8,8,8,8,8,8,8,8,8,8,8,8,8,8,8,8,8,8,8,8,8,8,8,8,8,8,8,8,8,8,8,8,8,8,8,8,8,8,8,8,8,8,8,8,8,8,8,8,8,8,8,8,8,8,8,8,8,8,8,8,8,8,8,8,8,8,8,8,8,8,8,8,8,8,8,8,8,8,8,8,8,8,8,8,8,8,8,8,8,8,8,8,8,8,8,8,8,8]⟩))) (.r 21)),
        .setR 23 (.conv .i64 (.r 22)),
        .setR 24 (.ai .add .i64 (.r 19) (.r 23)),
        .setR 2 (.r 24)])
      (.ret (.r 2)))))))
theorem ayp:AL=some Rb:=by kernel_rfl
theorem ayP:tab ac2=some Rb:=by rw[akj,←ayp,←YT]
def amo:PC:=
 (.seq
  (.seq
   (.is [.setR 16 (.r 7),
     .setR 17 (.r 1),
     .setR 18 (.ci .gtr (.r 16) (.r 17)),
     .setR 19 (.r 18),
     .setR 20 (.r 0),
     .setR 21 (.r 7),
     .chk (.imp [(19,true)] (.idx (.r 20) (.r 21))),
     .setR 22 (.ref (.nth (.r 20) (.r 21))),
     .setR 23 (.deref (.r 22)),
     .setR 24 (.r 0),
     .setR 25 (.r 7),
     .setR 26 (.ai .sub .i64 (.r 25) (.con (.int 1))),
     .chk (.imp [(19,true)] (.idx (.r 24) (.r 26))),
     .setR 27 (.ref (.nth (.r 24) (.r 26))),
     .setR 28 (.deref (.r 27)),
     .call [(19,true)] 29 252 [(.r 23),(.r 28)],
     .setR 30 (.pick (.r 19) (.r 29) (.con (.bool false)))])
   (.ite (.r 30) [] []
    .skip
    (.exit 2)))
  (.seq
   (.block 3 [33,34,35,36,37,38,39,40,41,42,43,44,45,46,47,48] []
    (.is [.setR 33 (.r 0),
      .setR 34 (.r 7),
      .setR 35 (.r 0),
      .setR 36 (.r 7),
      .setR 37 (.ai .sub .i64 (.r 36) (.con (.int 1))),
      .setR 38 (.r 0),
      .setR 39 (.r 7),
      .setR 40 (.ai .sub .i64 (.r 39) (.con (.int 1))),
      .chk (.idx (.r 38) (.r 40)),
      .setR 41 (.ref (.nth (.r 38) (.r 40))),
      .setR 42 (.deref (.r 41)),
      .setR 43 (.r 0),
      .setR 44 (.r 7),
      .chk (.idx (.r 43) (.r 44)),
      .setR 45 (.ref (.nth (.r 43) (.r 44))),
      .setR 46 (.deref (.r 45)),
      .chk (.idx (.r 33) (.r 34)),
      .setR 47 (.ref (.nth (.r 33) (.r 34))),
      .chk (.con (.bool false)),
      .chk (.idx (.r 35) (.r 37)),
      .setR 48 (.ref (.nth (.r 35) (.r 37))),
      .chk (.con (.bool false))]))
   (.is [.setR 31 (.r 7),
     .setR 32 (.ai .sub .i64 (.r 31) (.con (.int 1))),
     .setR 7 (.r 32)])))
def awS:PC:=.block 2 [7,16,17,18,19,30] [] (.loop [7] [] amo)
def amp:PC:=
 (.seq
  (.seq
   (.is [.setR 10 (.r 6),
     .setR 11 (.r 2),
     .setR 12 (.ci .lss (.r 10) (.r 11))])
   (.ite (.r 12) [] []
    .skip
    (.exit 0)))
  (.seq
   (.block 1 [7,15,16,17,18,19,30] []
    (.seq
     (.is [.setR 15 (.r 6),
       .setR 7 (.r 15)])
     awS))
   (.is [.setR 13 (.r 6),
     .setR 14 (.ai .add .i64 (.r 13) (.con (.int 1))),
     .setR 6 (.r 14)])))
def awT:PC:=.block 0 [6,10,11,12] [] (.loop [6] [] amp)
def Ra:PC:=
 (.seq
  (.seq
   (.is [.setR 8 (.r 1),
     .setR 9 (.ai .add .i64 (.r 8) (.con (.int 1))),
     .setR 6 (.r 9)])
   awT)
  (.ret (.tup [])))
theorem ayo:BC=some Ra:=by kernel_rfl
theorem ayO:tab aen=some Ra:=by rw[alM,←ayo,←Zf]
def ZV:List (Nat×PC):=[(163,QU),(95,Rh),(215,Q4),(97,Ri),(94,Rg),(168,QW),(170,QY),(169,QX),(171,QZ),(139,QS),(140,QT),(217,Q5),(218,Q6),(219,Q7),(220,Q8),(221,Q9),(207,Q3),(206,Q0),(167,QV),(260,Rc),(261,Rd),(262,Re),(263,Rf),(256,Rb),(246,Ra)]
def OL:Nat→Option PC:=ab ZV
theorem ap7:∀f pc,OL f=some pc→tab f=some pc∧ext f=none:=
 Ds (R:=fun f pc=>tab f=some pc∧ext f=none) (l:=ZV) ⟨⟨ayz,rfl⟩,⟨ayV,rfl⟩,⟨ayI,rfl⟩,⟨ayW,rfl⟩,⟨ayU,rfl⟩,⟨ayB,rfl⟩,⟨ayD,rfl⟩,⟨ayC,rfl⟩,⟨ayE,rfl⟩,⟨ayx,rfl⟩,⟨ayy,rfl⟩,⟨ayJ,rfl⟩,⟨ayK,rfl⟩,⟨ayL,rfl⟩,⟨ayM,rfl⟩,⟨ayN,rfl⟩,⟨ayH,rfl⟩,⟨ayG,rfl⟩,⟨ayA,rfl⟩,⟨ayQ,rfl⟩,⟨ayR,rfl⟩,⟨ayS,rfl⟩,⟨ayT,rfl⟩,⟨ayP,rfl⟩,⟨ayO,rfl⟩,trivial⟩
def Hg:Nat→Option (aV→List D→Option D):=fun f=>bif Nat.beq f 266 then some (fun _ ds=>Cl ds) else none
theorem ZW:∀n,Le (cD OL Hg n) (cD tab ext n)
 |0=>fun f ds d h=>by simp[cD] at h
 |n+1=>by
  have ih:=ZW n;intro f ds d h;unfold cD at h ⊢;cases hf:Nat.beq f 266 with
  |true=>
   obtain rfl:=cG hf;exact h
  |false=>
   have hx:Hg f=none:=by unfold Hg;rw[hf];rfl
   rw[hx] at h;dsimp only at h;split at h
   case h_2=>cases h
   rename_i pc hp;obtain⟨h1,h2⟩:=ap7 f pc hp;rw[h2];dsimp only;rw[h1];dsimp only;split at h
   case h_2=>cases h
   rename_i d' he;rw[PC.ev_mono ih (bk _) he];exact h
theorem ao.of_ev (n:Nat){f:Nat}{ds:List D}{d:D}(h:cD OL Hg n f ds=some d):ao T f ds d:=.of_at aqc n (ZW n f ds d h)
end Rm
set_option linter.unusedSimpArgs false
namespace Rm
open Go Go.Proofs Cx
def eu (n:Nat)(p:Nat→Bool):Bool:=(List.range n).all p
theorem X7 {n:Nat}{p:Nat→Bool}(h:∀k,k<n→p k=true):eu n p=true:=bK.2 fun k hk=>h k (cj.1 hk)
theorem ajN {n k:Nat}{p:Nat→Bool}(hk:k<n)(h:p k=false):eu n p=false:=List.all_eq_false.2 ⟨k,cj.2 hk,by simp[h]⟩
theorem xg {n:Nat}{p:Nat→Bool}:eu n p=true↔∀k,k<n→p k=true:=⟨fun h k hk=>bK.1 h k (cj.2 hk),X7⟩
def eU (n:Nat)(f:Nat→Int):Int:=(((List.range n).map f).find? fun x=>x !=0).getD 0
theorem OV {n:Nat}{f:Nat→Int}(h:∀k,k<n→f k=0):eU n f=0:=by
 unfold eU;rw[uH.2]
 ·rfl
 ·intro x hx;obtain⟨k,hk,rfl⟩:=ej.1 hx;simp[h k (cj.1 hk)]
theorem OT {n k:Nat}{f:Nat→Int}(hk:k<n)(hj:∀j,j<k→f j=0)(h:f k≠0):eU n f=f k:=by
 unfold eU;have e:List.range n=List.range k++k::(List.range' (k+1) (n-k-1)):=by
  rw[M8,M8,←Fz];have:=List.range'_append_1 (s:=0) (m:=k) (n:=n-k-1+1);rw[lq] at this;rw[this];congr 1;omega
 rw[e,oy,XK,uH.2,Option.none_or,gn,List.find?_cons_of_pos (by simpa using h)]
 ·rfl
 ·intro x hx;obtain⟨j,tn,rfl⟩:=ej.1 hx;simp[hj j (cj.1 tn)]
theorem OU {n:Nat}{f:Nat→Int}:eU n f=0↔∀k,k<n→f k=0:=by
 refine⟨fun h k=>?_,OV⟩
 induction k using Nat.strongRecOn with
 |ind k ih=>
  intro hk;refine z7 fun aJ=>?_;rw[OT hk (fun j hj=>ih j hj (by omega)) aJ] at h;exact aJ h
section
variable {T:cu} {id:Nat} {bC bB lr lo:List Nat} {a:PC} {ρ:Env} {Q:Out→Prop}
theorem fQ (N:Nat)(p:Nat→Bool)(str fj:Nat→List D)(h0:lr.map ρ.r=str 0∧lo.map ρ.o=fj 0)
 (step:∀k,k<N→p k=true→aP T (round id bC bB lr lo a) (ρ.put lr (str k) lo (fj k)) (eM ρ id bC bB lr lo (fun vr vo=>vr=str (k+1)∧vo=fj (k+1)) Q))
 (bad:∀k,k<N→p k=false→eu N p=false→aP T (round id bC bB lr lo a) (ρ.put lr (str k) lo (fj k)) (eM ρ id bC bB lr lo (fun _ _=>False) Q))
 (last:eu N p=true→aP T (round id bC bB lr lo a) (ρ.put lr (str N) lo (fj N)) (eM ρ id bC bB lr lo (fun _ _=>False) Q)):aY T (.block id bC bB (.loop lr lo a)) ρ Q:=
 .scan N (fun k=>p k=true) str fj h0 (fun k hk _ h=>step k hk h) (fun k hk _ h=>bad k hk (by simpa using h) (ajN hk (by simpa using h))) (fun h=>last (X7 h))
theorem oc (N:Nat)(f:Nat→Int)(str fj:Nat→List D)(h0:lr.map ρ.r=str 0∧lo.map ρ.o=fj 0)
 (step:∀k,k<N→f k=0→aP T (round id bC bB lr lo a) (ρ.put lr (str k) lo (fj k)) (eM ρ id bC bB lr lo (fun vr vo=>vr=str (k+1)∧vo=fj (k+1)) Q))
 (bad:∀k,k<N→f k≠0→eU N f=f k→aP T (round id bC bB lr lo a) (ρ.put lr (str k) lo (fj k)) (eM ρ id bC bB lr lo (fun _ _=>False) Q))
 (last:eU N f=0→aP T (round id bC bB lr lo a) (ρ.put lr (str N) lo (fj N)) (eM ρ id bC bB lr lo (fun _ _=>False) Q)):aY T (.block id bC bB (.loop lr lo a)) ρ Q:=
 .scan N (fun k=>f k=0) str fj h0 (fun k hk _ h=>step k hk h) (fun k hk hj h=>bad k hk h (OT hk hj h)) (fun h=>last (OV h))
end
theorem bx {k n:Nat}(h:k<n)(hn:n≤4294967296):IntKind.i64.wrap ((k:Int)+1)=(k:Int)+1:=bU (by omega)
theorem uz {k:Nat}(hn:k≤4294967296):IntKind.i64.wrap ((k:Int)-1)=(k:Int)-1:=bU (by omega)
def aN (i n:Int):Bool:=decide (0≤i)&&decide (i<n)
def wi (n a b:Int):Bool:=decide (a≤n)&&decide (n≤b)
theorem fF (i n:Int):ao T adZ [.int i,.int n] (.bool (aN i n)):=by
 refine .of_tree rfl aln aDY ?_;simp[Wc,aN];by_cases h:0≤i<;>simp[h]
theorem pP (i n:Int):ao T aed [.int i,.int n] (.bool (aN i n)):=by
 refine .of_tree rfl alC aEc ?_;simp[Wp,aN];by_cases h:0≤i<;>simp[h]
theorem cL (n a b:Int):ao T adG [.int n,.int a,.int b] (.bool (wi n a b)):=by
 refine .of_tree rfl akY aDA ?_;simp[VO,wi];by_cases h:a≤n<;>simp[h]
theorem idx_eq {α:Type}[DecidableEq α]{l:List α}{x z:α}{k:Nat}(hk:k<l.length)(hj:∀j,j<k→l.getD j z≠x)(h:¬l.getD k z≠x):x∈l∧l.findIdx (fun y=>decide (y=x))=k:=by
 have e:l[k]=x:=by simpa [hk] using h
 refine⟨e▸de hk,(List.findIdx_eq hk).2 ⟨by simp[e],fun j gH=>?_⟩⟩;have fL:j<l.length:=by omega
 simpa [fL] using hj j gH
theorem abT {α:Type}[DecidableEq α]{l:List α}{x z:α}(hj:∀j,j<l.length→l.getD j z≠x):¬x∈l:=fun hm=>by
 obtain⟨j,fL,rfl⟩:=nf hm;have:=hj j fL;simp[fL] at this
def tD {α:Type}[DecidableEq α](l:List α)(x:α):Int:=if x∈l then(l.findIdx (fun y=>decide (y=x)):Nat) else-1
def hasB {α:Type}[DecidableEq α](l:List α)(x:α):Bool:=l.any fun y=>decide (y=x)
theorem Pf {α:Type}[DecidableEq α]{l:List α}{x:α}:hasB l x=true↔x∈l:=by simp[hasB]
theorem aaJ {α:Type}[DecidableEq α]{l:List α}{x:α}:hasB l x=false↔¬x∈l:=by rw[←Pf];simp
theorem abS {α:Type}[DecidableEq α](l:List α)(x:α):decide (0≤tD l x)=hasB l x:=by
 unfold tD;by_cases h:x∈l
 ·rw[Pf.2 h];simp[h]
 ·rw[aaJ.2 h];simp[h]
@[simp] theorem aIo (a b:ByteArray):uS .eql a b=decide (a=b):=by
  simp only[uS,ByteArray.toList_eq];by_cases h:a=b
  ·subst h;simp
  ·rw[decide_eq_false h,beq_eq_false_iff_ne];intro e;have:a.data=b.data:=by rw[←sC];exact e
   exact h (by cases a;cases b;cases this;rfl)
@[simp] theorem aJf (ρ:Env)(x i:PE):PE.ev ρ (.sidx x i)=.v (.int .u8 ((PE.ev ρ x).s.data.getD (PE.ev ρ i).i.toNat 0).toNat):=_root_.id rfl
@[simp] theorem aJj (ρ:Env)(x i:PE):PE.ev ρ (.sok x i)=.v (.bool (decide (0≤(PE.ev ρ i).i∧(PE.ev ρ i).i<(PE.ev ρ x).s.size))):=_root_.id rfl
@[simp] theorem aLU (a:ByteArray):(str a).s=a:=_root_.id rfl
theorem ajl (l:List Int)(x:Int)(hl:l.length≤4294967296):ao T RO [ints l,.int x] (.int (tD l x)):=by
 refine .of_tree rfl Yo aEm ?_;simp[Wy];refine .scan l.length (fun k=>l.getD k 0≠x) (fun k=>[.int 0,.int k]) (fun _=>[]) ?_ (fun k hk hj ho=>?_) (fun k hk hj ho=>?_) (fun hj=>?_)
 ·simp
 ·have hw:=bx hk hl;simp[hk] at ho;have dP:¬x=l[k]:=fun e=>ho e.symm;simp[Ur,EN,hk,hw,ints,ho,dP]
 ·obtain⟨hm,he⟩:=idx_eq hk hj ho;simp[hk] at ho;simp[Ur,EN,hk,ints,ho,tD,hm,he]
 ·have:=abT hj;simp[Ur,EN,tD,this,ints]
theorem uC (l:List Int)(x:Int)(hl:l.length≤4294967296):ao T RM [ints l,.int x] (.bool (hasB l x)):=by
 refine .of_tree rfl Ym aEh ?_;simp[Wt];refine⟨_,ajl l x hl,?_⟩;have:=abS l x;simp at this ⊢;exact this
theorem ajm (l:List ByteArray)(x:ByteArray)(hl:l.length≤4294967296):ao T aek [strs l,str x] (.int (tD l x)):=by
 refine .of_tree rfl alJ aEn ?_;simp[Wz];refine .scan l.length (fun k=>l.getD k default≠x) (fun k=>[.int 0,.int k]) (fun _=>[]) ?_ (fun k hk hj ho=>?_) (fun k hk hj ho=>?_) (fun hj=>?_)
 ·simp
 ·have hw:=bx hk hl;simp[hk] at ho;have dP:¬x=l[k]:=fun e=>ho e.symm;simp[Us,EO,hk,hw,strs,ho,dP]
 ·obtain⟨hm,he⟩:=idx_eq hk hj ho;simp[hk] at ho;simp[Us,EO,hk,strs,ho,tD,hm,he]
 ·have:=abT hj;simp[Us,EO,tD,this,strs]
theorem ajg (l:List ByteArray)(x:ByteArray)(hl:l.length≤4294967296):ao T aeh [strs l,str x] (.bool (hasB l x)):=by
 refine .of_tree rfl alG aEi ?_;simp[Wu];refine⟨_,ajm l x hl,?_⟩;have:=abS l x;simp at this ⊢;exact this
def nY (l:List Int)(a b:Int)(k:Nat):Bool:=wi (l.getD k 0) a b&&(k==0||decide (l.getD (k-1) 0<l.getD k 0))
def rising (l:List Int)(a b:Int):Bool:=eu l.length (nY l a b)
theorem EU (l:List Int)(a b:Int)(hl:l.length≤4294967296):ao T ad5 [ints l,.int a,.int b] (.bool (rising l a b)):=by
 refine .of_tree rfl alu aD4 ?_;simp[Wi];refine fQ l.length (nY l a b) (fun k=>[.bool false,.int k]) (fun _=>[]) ?_ (fun k hk ho=>?_) (fun k hk ho hb=>?_) (fun hj=>?_)
 ·simp
 ·have hw:=bx hk hl;simp[nY,wi,hk] at ho;obtain⟨⟨h1,h2⟩,h3⟩:=ho;have cE:¬l[k]<a:=by omega
  have kI:¬b<l[k]:=by omega
  by_cases gI:0<k
  ·have bF:k-1<l.length:=by omega
   have dz:IntKind.i64.wrap ((k:Int)-1)=((k-1:Nat):Int):=by rw[uz (by omega)];omega
   have eW:¬l[k]≤l[k-1]:=by
        rcases h3 with h3|h3
        ·omega
        ·simp[bF] at h3;omega
   simp[zu,tZ,hk,hw,dz,ints,cE,kI,eW,gI,bF]
  ·simp[zu,tZ,hk,hw,ints,cE,kI,gI]
 ·have hf:rising l a b=false:=hb;simp[nY,wi,hk] at ho;by_cases h1:l[k]<a
  ·simp[zu,tZ,hk,ints,h1,hf]
  by_cases h2:b<l[k]
  ·simp[zu,tZ,hk,ints,h1,h2,hf]
  have h3:=ho (by omega) (by omega);have gI:0<k:=by omega
  have bF:k-1<l.length:=by omega
  have dz:IntKind.i64.wrap ((k:Int)-1)=((k-1:Nat):Int):=by rw[uz (by omega)];omega
  have eW:=h3.2;simp[bF] at eW;simp[zu,tZ,hk,dz,ints,h1,h2,eW,gI,bF,hf]
 ·have hf:rising l a b=true:=hj;simp[zu,tZ,hf]
def Dp (c:Int):Bool:=wi c 97 122||wi c 65 90
def vZ (i:Nat)(c:Int):Bool:=Dp c||(i !=0&&(decide (c=95)||wi c 48 57))
def AF (s:ByteArray)(k:Nat):Int:=((s.data.toList.getD k 0).toNat:Nat)
def ic (s:ByteArray):Bool:=decide (1≤s.size)&&decide (s.size≤20)&&eu s.size (fun k=>vZ k (AF s k))
theorem FQ {s:ByteArray}{k:Nat}(h:k<s.data.size):(s.data[k].toNat:Int)=AF s k:=by
 unfold AF;rw[aT,bH (by simpa using h)];rfl
theorem ahU {s:ByteArray}:s=⟨#[]⟩↔s.size=0:=by
 constructor
 ·rintro rfl;rfl
 ·intro h;cases s with|mk d=>congr;exact M0 h
theorem aBz (s:ByteArray):ao T ad0 [str s] (.bool (ic s)):=by
 refine .of_tree rfl alo aDZ ?_;simp[Wd];by_cases h0:s=⟨#[]⟩
 ·have hn:ic s=false:=by simp[ic,ahU.1 h0]
  rw[hn];simp[h0]
 by_cases h1:(20:Int)<s.size
 ·have cE:¬s.size≤20:=by omega
  simp[h0,h1,ic,cE]
 have hz:1≤s.size:=by
  have:s.size≠0:=fun e=>h0 (ahU.2 e);omega
 have cE:s.size≤20:=by omega
 simp[h0,h1];refine⟨by omega,fQ s.size (fun k=>vZ k (AF s k)) (fun k=>[.bool false,.int k]) (fun _=>[]) ?_ (fun k hk ho=>?_) (fun k hk ho hb=>?_) (fun hj=>?_)⟩
 ·simp
 ·have hw:=bx hk (by omega);have bz:k<s.data.size:=hk;have hg:=FQ bz;simp[vZ,Dp,wi] at ho;simp[Ub,Ey,hk,bz,hw,hg];omega
 ·have bz:k<s.data.size:=hk;have hg:=FQ bz;have hn:ic s=false:=by simp[ic,hb]
  simp[vZ,Dp,wi] at ho;simp[Ub,Ey,hk,bz,hg,hn];omega
 ·have hn:ic s=true:=by simp[ic,hj,hz,cE]
  have hd:s.data.size=s.size:=rfl;simp[Ub,Ey,hn,hd]
theorem agP (c:Int):ao T adD [.v (.int .u8 c)] (.bool (Dp c)):=by
 refine .of_tree rfl akT aDv ?_;simp[VJ,Dp,wi];by_cases h:97≤c<;>by_cases h2:c≤122<;>by_cases h3:65≤c<;>by_cases h4:c≤90<;>simp[h,h2,h3,h4]
theorem aAZ (s:ByteArray):ao T adE [str s] (.bool (ic s)):=by
 refine .of_tree rfl akU aDw ?_;simp[VK];by_cases h0:(s.size:Int)<1
 ·have hn:ic s=false:=by simp[ic];omega
  simp[h0,hn]
 by_cases h1:(20:Int)<s.size
 ·have hn:ic s=false:=by simp[ic];omega
  simp[h0,h1,hn]
 rw[if_neg (by omega)];refine fQ s.size (fun k=>vZ k (AF s k)) (fun k=>[.bool false,.int k]) (fun _=>[]) ?_ (fun k hk ho=>?_) (fun k hk ho hb=>?_) (fun hj=>?_)
 ·simp
 ·have hw:=bx hk (by omega);have bz:k<s.data.size:=hk;have hg:=FQ bz;simp[vZ,wi] at ho;simp[TO,Ed,hk,bz,hw,hg];refine⟨_,agP _,?_⟩;simp[hw];intro g1 g2;exfalso;rcases ho with h|h
  ·rw[h] at g1;cases g1
  ·omega
 ·have bz:k<s.data.size:=hk;have hg:=FQ bz;have hn:ic s=false:=by simp[ic,hb]
  simp[vZ,wi] at ho;simp[TO,Ed,hk,bz,hg,hn];refine⟨_,agP _,?_⟩;simp[ho.1];omega
 ·have hn:ic s=true:=by simp[ic,hj];omega
  simp[TO,Ed,hn]
end Rm
namespace Rm
open Go Go.Proofs Cx
theorem aAW (l:List ByteArray)(n:Nat)(x:ByteArray)(hn:n≤l.length)(hl:l.length≤4294967296):ao T adA [strs l,.int n,str x] (.bool (hasB (l.take n) x)):=by
 refine .of_tree rfl akQ aDs ?_;simp[VG];refine .scan n (fun k=>l.getD k default≠x) (fun k=>[.bool false,.int k]) (fun _=>[]) ?_ (fun k hk hj ho=>?_) (fun k hk hj ho=>?_) (fun hj=>?_)
 ·simp
 ·have bz:k<l.length:=by omega
  have hw:=bx bz hl;simp[bz] at ho;simp[TN,Eb,hk,bz,hw,strs,ho]
 ·have bz:k<l.length:=by omega
  simp[bz] at ho;have hm:hasB (l.take n) x=true:=Pf.2 (by rw[←ho,ajt];exact⟨k,by omega,rfl⟩);simp[TN,Eb,hk,bz,strs,ho,hm]
 ·have hm:hasB (l.take n) x=false:=aaJ.2 (fun h=>by
   rw[ajt] at h;obtain⟨k,hk,e⟩:=h;have:=hj k (by omega);simp[show k<l.length by omega] at this;exact this e)
  simp[TN,Eb,hm]
def gw (l:List ByteArray)(i:Nat):Int:=if ic (l.getD i default)=false then 2 else if hasB (l.take i) (l.getD i default) then 5 else 0
theorem R0 (l:List ByteArray)(i n:Nat)(h:i<n):gw (l.take n) i=gw l i:=by
 unfold gw;rw[aT,List.getElem?_take_of_lt h,List.take_take,oC (by omega),←aT]
theorem DV (l:List ByteArray)(i:Nat)(hi:i<l.length)(hl:l.length≤4294967296):ao T Dw [strs l,.int i] (.int (gw l i)):=by
 refine .of_tree rfl ak1 aDD ?_;simp[VR,hi];refine⟨_,by simpa [strs,hi] using aAZ l[i],?_⟩;unfold gw;rw[aT,bH hi,jE];cases h1:ic l[i]<;>simp[h1];refine⟨_,by simpa [strs,hi] using aAW l i l[i] (by omega) hl,?_⟩;cases h2:hasB (l.take i) l[i]<;>simp[h2]
theorem ahm (l:List ByteArray)(i:Nat)(hi:i<l.length)(hl:l.length≤4294967296):ao T ad1 [strs l,.int i] (.int (gw l i)):=by
 refine .of_tree rfl alp aD0 ?_;simp[We,hi];refine⟨_,by simpa [strs,hi] using aBz l[i],?_⟩;unfold gw;rw[aT,bH hi,jE];cases h1:ic l[i]<;>simp[h1];refine⟨by omega,_,by simpa [strs,hi] using ajg (l.take i) l[i] (by rw[dW];omega),?_⟩;cases h2:hasB (l.take i) l[i]<;>simp[h2]
def jJ (l:List ByteArray)(g:Nat→Bool)(i:Nat):Int:=if gw l i≠0 then gw l i else if g i then 0 else 1
def eK (l:List ByteArray)(Du:Int)(g:Nat→Bool):Int:=if Du<l.length then 6 else eU l.length (jJ l g)
theorem Mj (l:List ByteArray)(Du:Int)(f:Nat)(caps:List D)(g:Nat→Bool)(hg:∀i:Nat,i<l.length→ao T f (.int i::caps) (.bool (g i)))(hl:l.length≤4294967296):
 ao T adY [strs l,.int Du,.clo f caps] (.int (eK l Du g)):=by
 refine .of_tree rfl alm aDX ?_;simp[Wb,eK];by_cases h0:Du<l.length
 ·simp[h0];intro h;omega
 simp[h0];refine oc l.length (jJ l g) (fun k=>[.int 0,.int k]) (fun _=>[]) ?_ (fun k hk ho=>?_) (fun k hk ho hb=>?_) (fun hj=>?_)
 ·simp
 ·have hw:=bx hk hl;have h1:gw l k=0:=by
   refine z7 fun h=>?_;unfold jJ at ho;rw[if_pos h] at ho;exact h ho
  have h2:g k=true:=by
   unfold jJ at ho;rw[if_neg (by simpa using h1)] at ho;cases h:g k with
   |true=>rfl
   |false=>rw[h] at ho;simp at ho
  simp[Ua,Ex,hk,hw];refine⟨_,ahm l k hk hl,?_⟩;simp[h1];refine⟨_,_,⟨rfl,rfl⟩,_,hg k hk,?_⟩;simp[h2,hw]
 ·simp[Ua,Ex,hk,hb];refine⟨_,ahm l k hk hl,?_⟩;unfold jJ at ho ⊢;by_cases h1:gw l k=0
  ·simp[h1] at ho ⊢;refine⟨_,_,⟨rfl,rfl⟩,_,hg k hk,?_⟩;simp[ho]
  ·simp[h1]
 ·simp[Ua,Ex,hj]
theorem Tv (l:List Int)(a b:Int)(hl:l.length≤4294967296):ao T adF [ints l,.int a,.int b] (.bool (rising l a b)):=by
 refine .of_tree rfl akX aDz ?_;simp[VN];refine fQ l.length (nY l a b) (fun k=>[.bool false,.int k]) (fun _=>[]) ?_ (fun k hk ho=>?_) (fun k hk ho hb=>?_) (fun hj=>?_)
 ·simp
 ·have hw:=bx hk hl;simp[nY,hk] at ho;simp[TS,Eh,hk,hw,ints];refine⟨_,cL _ _ _,?_⟩;by_cases gI:0<k
  ·have bF:k-1<l.length:=by omega
   have dz:IntKind.i64.wrap ((k:Int)-1)=((k-1:Nat):Int):=by rw[uz (by omega)];omega
   have eW:¬l[k]≤l[k-1]:=by
        rcases ho.2 with h3|h3
        ·omega
        ·simp[bF] at h3;omega
   simp[ho.1,hk,hw,dz,eW,gI,bF]
  ·simp[ho.1,hk,hw,gI];omega
 ·have hf:rising l a b=false:=hb;simp[nY,hk] at ho;simp[TS,Eh,hk,ints,hf];refine⟨_,cL _ _ _,?_⟩;cases h1:wi l[k] a b with
  |false=>simp
  |true=>
   have h3:=ho h1;have gI:0<k:=by omega
   have bF:k-1<l.length:=by omega
   have dz:IntKind.i64.wrap ((k:Int)-1)=((k-1:Nat):Int):=by rw[uz (by omega)];omega
   have eW:=h3.2;simp[bF] at eW;simp[hk,dz,eW,gI,bF]
 ·have hf:rising l a b=true:=hj;simp[TS,Eh,hf]
theorem UT (n:Int):n.tdiv 100=if 0≤n then n/100 else-((-n)/100):=by
 split
 ·rename_i h;exact XC h
 ·rename_i h;have e:n.tdiv 100=-((-n).tdiv 100):=by rw[Int.neg_tdiv,Int.neg_neg]
  rw[e,XC (by omega)]
theorem ah6 (n:Int):n.tmod 100=n-100*n.tdiv 100:=Int.tmod_def n 100
theorem ai4 {n:Int}(h:bh n):IntKind.i64.wrap (n.tdiv 100)=n.tdiv 100:=bU (by rw[UT];unfold bh at h;split<;>omega)
def np (r:Realm)(c:City):Bool:=eu c.feasts.length (fun k=>wi ((c.feasts.getD k 0).tmod 100) 1 31)&&(decide (c.feasts.length≤60)&&decide (c.shut.length≤200)&&aN c.order r.orders.length&&aN c.currency r.currencies.length)&&
 (rising c.rest 0 6&&rising c.feasts 101 1231&&rising c.shut 0 100000)
theorem aBx (r:Realm)(c:City)(h1:c.rest.length≤4294967296)(h2:c.feasts.length≤4294967296)(h3:c.shut.length≤4294967296):ao T adX [bn r,fY c] (.bool (np r c)):=by
 refine .of_tree rfl alk aDW ?_;simp[Wa];refine fQ c.feasts.length (fun k=>wi ((c.feasts.getD k 0).tmod 100) 1 31) (fun k=>[.bool false,.int k]) (fun _=>[]) ?_ (fun k hk ho=>?_) (fun k hk ho hb=>?_) (fun hj=>?_)
 ·simp
 ·have hw:=bx hk h2;simp[wi,hk] at ho;have g1:¬(c.feasts[k].tmod 100<1):=by omega
  have g2:¬(31<c.feasts[k].tmod 100):=by omega
  simp[T9,Ew,hk,hw,ints,g1,g2]
 ·have hf:np r c=false:=by simp only[np,hb,q9]
  simp[wi,hk] at ho;simp[T9,Ew,hk,ints,hf];by_cases g1:c.feasts[k].tmod 100<1
  ·simp[g1]
  ·have g2:=ho (by omega);simp[g1,g2]
 ·simp[T9,Ew];by_cases g1:(c.feasts.length:Int)≤60
  case neg=>
   have hf:np r c=false:=by
        have eV:decide (c.feasts.length≤60)=false:=decide_eq_false (by omega);simp only[np,eV,q9,wV]
   have eV:(60:Int)<c.feasts.length:=by omega
   simp[g1,eV,hf]
  by_cases g2:(c.shut.length:Int)≤200
  case neg=>
   have hf:np r c=false:=by
        have eV:decide (c.shut.length≤200)=false:=decide_eq_false (by omega);simp only[np,eV,q9,wV]
   have nu:(200:Int)<c.shut.length:=by omega
   simp[g1,g2,nu,hf]
  have eV:¬(60:Int)<c.feasts.length:=by omega
  have nu:¬(200:Int)<c.shut.length:=by omega
  have hf:np r c=(aN c.order r.orders.length&&aN c.currency r.currencies.length&&(rising c.rest 0 6&&rising c.feasts 101 1231&&rising c.shut 0 100000)):=by
   have e1:decide (c.feasts.length≤60)=true:=decide_eq_true (by omega);have e2:decide (c.shut.length≤200)=true:=decide_eq_true (by omega);simp only[np,hj,e1,e2,wX]
  rw[hf];simp[g1,g2,eV,nu];refine⟨_,fF _ _,?_⟩;simp;cases e1:aN c.order r.orders.length<;>simp;refine⟨_,fF _ _,?_⟩;simp;cases e2:aN c.currency r.currencies.length<;>simp;refine⟨_,EU _ _ _ h1,?_⟩;simp;cases e3:rising c.rest 0 6<;>simp;refine⟨_,EU _ _ _ h2,?_⟩;simp;cases e4:rising c.feasts 101 1231<;>simp;exact EU _ _ _ h3
def oL (r:Realm)(c:City):Bool:=(wi c.order 0 (r.orders.length-1)&&wi c.currency 0 (r.currencies.length-1)&&decide (c.feasts.length≤60)&&decide (c.shut.length≤200))&&
 eu c.feasts.length (fun k=>wi ((c.feasts.getD k 0).tdiv 100) 1 12&&wi ((c.feasts.getD k 0).tmod 100) 1 31)&&(rising c.rest 0 6&&rising c.feasts 0 2000&&rising c.shut 0 100000)
theorem q8 (n:Nat)(h:n≤4294967296):IntKind.i64.wrap ((n:Int)-1)=(n:Int)-1:=bU (by omega)
theorem aA0 (r:Realm)(c:City)(h1:c.rest.length≤4294967296)(h2:c.feasts.length≤4294967296)(h3:c.shut.length≤4294967296)(h4:r.orders.length≤4294967296)(h5:r.currencies.length≤4294967296)(hi:∀y,y∈c.feasts→bh y):
 ao T RE [bn r,fY c] (.bool (oL r c)):=by
 refine .of_tree rfl akV aDx ?_;simp[VL,q8 _ h4,q8 _ h5];refine⟨_,cL _ _ _,?_⟩;cases e1:wi c.order 0 (r.orders.length-1)
 case false=>simp[oL,e1]
 simp;refine⟨_,cL _ _ _,?_⟩;cases e2:wi c.currency 0 (r.currencies.length-1)
 case false=>simp[oL,e1,e2]
 by_cases g1:(c.feasts.length:Int)≤60
 case neg=>
  have hf:oL r c=false:=by
   have eV:decide (c.feasts.length≤60)=false:=decide_eq_false (by omega);simp only[oL,eV,q9,wV]
  have eV:(60:Int)<c.feasts.length:=by omega
  simp[eV,hf]
 by_cases g2:(c.shut.length:Int)≤200
 case neg=>
  have hf:oL r c=false:=by
   have eV:decide (c.shut.length≤200)=false:=decide_eq_false (by omega);simp only[oL,eV,q9,wV]
  have nu:(200:Int)<c.shut.length:=by omega
  simp[nu,hf]
 have eV:¬(60:Int)<c.feasts.length:=by omega
 have nu:¬(200:Int)<c.shut.length:=by omega
 have hf:oL r c=(eu c.feasts.length (fun k=>wi ((c.feasts.getD k 0).tdiv 100) 1 12&&wi ((c.feasts.getD k 0).tmod 100) 1 31)&&(rising c.rest 0 6&&rising c.feasts 0 2000&&rising c.shut 0 100000)):=by
  have e3:decide (c.feasts.length≤60)=true:=decide_eq_true (by omega);have e4:decide (c.shut.length≤200)=true:=decide_eq_true (by omega);simp only[oL,e1,e2,e3,e4,wX]
 rw[hf];simp[eV,nu];refine fQ c.feasts.length (fun k=>wi ((c.feasts.getD k 0).tdiv 100) 1 12&&wi ((c.feasts.getD k 0).tmod 100) 1 31) (fun k=>[.bool false,.int k]) (fun _=>[]) ?_ (fun k hk ho=>?_) (fun k hk ho hb=>?_) (fun hj=>?_)
 ·simp
 ·have hw:=bx hk h2;have hI:=hi _ (de hk);have hq:IntKind.i64.wrap (c.feasts[k].tdiv 100)=c.feasts[k].tdiv 100:=ai4 hI;simp[hk] at ho;simp[TP,Ee,hk,ints,hq];refine⟨_,cL _ _ _,?_⟩;simp[ho.1,hk];refine⟨_,cL _ _ _,?_⟩;simp[ho.2,hk,hw]
 ·have hI:=hi _ (de hk);have hq:IntKind.i64.wrap (c.feasts[k].tdiv 100)=c.feasts[k].tdiv 100:=ai4 hI;simp[hk] at ho;simp only[aT] at hb;rw[hb];simp[TP,Ee,hk,ints,hq];refine⟨_,cL _ _ _,?_⟩;cases e3:wi (c.feasts[k].tdiv 100) 1 12 with
  |false=>simp
  |true=>
   have:=ho e3;simp[hk];refine⟨_,cL _ _ _,?_⟩;simp[this]
 ·simp only[aT] at hj;rw[hj];simp[TP,Ee];refine⟨_,Tv _ _ _ h1,?_⟩;simp;cases e3:rising c.rest 0 6<;>simp;refine⟨_,Tv _ _ _ h2,?_⟩;simp;cases e4:rising c.feasts 0 2000<;>simp;exact Tv _ _ _ h3
theorem aoM (r:Realm)(c:City):oL r c=np r c:=by
 rw[sD];have bI:∀(i:Int) (n:Nat),(wi i 0 (n-1)=true)↔(aN i n=true):=by intro i n;simp[wi,aN];omega
 simp only[oL,np,ar,decide_eq_true_eq,bI,rising,xg,nY];constructor
 ·rintro⟨⟨⟨⟨⟨a1,a2⟩,a3⟩,a4⟩,a5⟩,⟨a6,a7⟩,a8⟩;refine⟨⟨fun k hk=>(a5 k hk).2,⟨⟨⟨a3,a4⟩,a1⟩,a2⟩⟩,⟨a6,fun k hk=>?_⟩,a8⟩;have h1:=a5 k hk;have h2:=a7 k hk;simp[wi,ah6,UT] at h1 h2 ⊢;split at h1<;>omega
 ·rintro⟨⟨a5,⟨⟨⟨a3,a4⟩,a1⟩,a2⟩⟩,⟨a6,a7⟩,a8⟩;refine⟨⟨⟨⟨⟨a1,a2⟩,a3⟩,a4⟩,fun k hk=>?_⟩,⟨a6,fun k hk=>?_⟩,a8⟩
  ·have h1:=a5 k hk;have h2:=a7 k hk;simp[wi,ah6,UT] at h1 h2 ⊢;split at h1<;>(try split)<;>omega
  ·have h2:=a7 k hk;simp[wi] at h2 ⊢;omega
end Rm
namespace Rm
open Go Go.Proofs Cx
theorem zJ {α β:Type}(f:α→β){l:List α}{k:Nat}(h:k<l.length):(l.take (k+1)).map f=(l.take k).map f++[f l[k]]:=by
 rw[mi h,oy];rfl
theorem mI (i:Int)(n:Nat):aN i n=wi i 0 ((n:Int)-1):=by
 rw[sD];simp[wi,aN];omega
def xk (o:Order):List Int:=o.choices.map (·.ask)
def Al (o:Order):List Int:=o.rules.map (·.ask)
def pC (o:Order):Bool:=eu o.choices.length (fun k=>aN (o.choices.getD k default).by_ 5)&&(rising (xk o) 0 21&&rising (Al o) 0 21)
theorem aBB (o:Order)(h1:o.choices.length≤100000)(h2:o.rules.length≤100000):ao T ad3 [iJ o] (.bool (pC o)):=by
 refine .of_tree rfl alr aD2 ?_;simp[Wg];refine fQ o.choices.length (fun k=>aN (o.choices.getD k default).by_ 5) (fun k=>[.bool false,.none,.int k]) (fun k=>[ints ((o.choices.take k).map (·.ask))]) ?_ (fun k hk ho=>?_) (fun k hk ho hb=>?_) (fun hj=>?_)
 ·simp[ints]
 ·have hw:=bx hk (by omega);have hl:(o.choices.take k).length=k:=by rw[dW];omega
  simp[hk] at ho;rw[zJ _ hk];simp[Uc,Ez,hk,hw,ints,hl];refine⟨by omega,_,fF _ _,?_⟩;simp[ho,hw]
 ·have hf:pC o=false:=by simp only[pC,hb,q9]
  have hl:(o.choices.take k).length=k:=by rw[dW];omega
  simp[hk] at ho;simp[Uc,Ez,hk,ints,hl,hf];refine⟨by omega,_,fF _ _,?_⟩;simp[ho]
 ·have hf:pC o=(rising (xk o) 0 21&&rising (Al o) 0 21):=by simp only[pC,hj,wX]
  rw[hf];simp[Uc,Ez];refine aY.forRounds o.rules.length (fun k=>[.none,.int k]) (fun k=>[ints ((o.rules.take k).map (·.ask))]) ?_ (fun k hk=>?_) ?_
  ·simp[ints]
  ·have hw:=bx hk (by omega);have hl:(o.rules.take k).length=k:=by rw[dW];omega
   rw[zJ _ hk];simp[ahe,Mb,hk,hw,ints,hl];omega
  ·simp[ahe,Mb];refine⟨_,EU (xk o) _ _ (by simp[xk];omega),?_⟩;simp;cases e1:rising (xk o) 0 21<;>simp;exact EU (Al o) _ _ (by simp[Al];omega)
def v8 (o:Order)(k:Nat):Bool:=wi (o.choices.getD k default).ask 0 21&&wi (o.choices.getD k default).by_ 0 4&&(k==0||decide ((o.choices.getD (k-1) default).ask<(o.choices.getD k default).ask))
def yV (o:Order)(k:Nat):Bool:=wi (o.rules.getD k default).ask 0 21&&(k==0||decide ((o.rules.getD (k-1) default).ask<(o.rules.getD k default).ask))
theorem aAr (o:Order):(eu o.choices.length (v8 o)&&eu o.rules.length (yV o))=pC o:=by
 rw[sD];simp only[pC,ar,rising,xg,xk,Al,iw];have g1:∀k,k<o.choices.length→(nY (o.choices.map (·.ask)) 0 21 k=true↔wi (o.choices.getD k default).ask 0 21=true∧(k=0∨(o.choices.getD (k-1) default).ask<(o.choices.getD k default).ask)):=by
  intro k hk;have bF:k-1<o.choices.length:=by omega
  simp[nY,hk,bF]
 have g2:∀k,k<o.rules.length→(nY (o.rules.map (·.ask)) 0 21 k=true↔wi (o.rules.getD k default).ask 0 21=true∧(k=0∨(o.rules.getD (k-1) default).ask<(o.rules.getD k default).ask)):=by
  intro k hk;have bF:k-1<o.rules.length:=by omega
  simp[nY,hk,bF]
 constructor
 ·rintro⟨a,b⟩;refine⟨fun k hk=>?_,fun k hk=>(g1 k hk).2 ?_,fun k hk=>(g2 k hk).2 ?_⟩
  ·have:=a k hk;simp[v8,wi,aN] at this ⊢;omega
  ·have:=a k hk;simp[v8] at this ⊢;exact⟨this.1.1,this.2⟩
  ·have:=b k hk;simp[yV] at this ⊢;exact this
 ·rintro⟨c,a,b⟩;refine⟨fun k hk=>?_,fun k hk=>?_⟩
  ·have h1:=(g1 k hk).1 (a k hk);have h2:=c k hk;simp[v8,wi,aN] at h1 h2 ⊢;omega
  ·have h1:=(g2 k hk).1 (b k hk);simp[yV] at h1 ⊢;exact h1
theorem aA1 (o:Order)(h1:o.choices.length≤100000)(h2:o.rules.length≤100000):ao T RF [iJ o] (.bool (pC o)):=by
 rw[←aAr];refine .of_tree rfl akW aDy ?_;simp[VM];refine fQ o.choices.length (v8 o) (fun k=>[.bool false,.int k]) (fun _=>[]) ?_ (fun k hk ho=>?_) (fun k hk ho hb=>?_) (fun hj=>?_)
 ·simp
 ·have hw:=bx hk (by omega);simp[v8,hk] at ho;simp[TQ,Ef,hk];refine⟨_,cL _ _ _,?_⟩;simp[ho.1.1,hk];refine⟨_,cL _ _ _,?_⟩;by_cases gI:0<k
  ·have bF:k-1<o.choices.length:=by omega
   have dz:IntKind.i64.wrap ((k:Int)-1)=((k-1:Nat):Int):=by rw[uz (by omega)];omega
   have h3:¬o.choices[k].ask≤o.choices[k-1].ask:=by
        rcases ho.2 with h3|h3
        ·omega
        ·simp[bF] at h3;omega
   simp[ho.1.2,hk,hw,dz,h3,gI,bF]
  ·simp[ho.1.2,hk,hw,gI];omega
 ·rw[hb];simp[v8,hk] at ho;simp[TQ,Ef,hk];refine⟨_,cL _ _ _,?_⟩;cases e1:wi o.choices[k].ask 0 21 with
  |false=>simp
  |true=>
   simp[hk];refine⟨_,cL _ _ _,?_⟩;cases e2:wi o.choices[k].by_ 0 4 with
   |false=>simp
   |true=>
    have h3:=ho e1 e2;have gI:0<k:=by omega
    have bF:k-1<o.choices.length:=by omega
    have dz:IntKind.i64.wrap ((k:Int)-1)=((k-1:Nat):Int):=by rw[uz (by omega)];omega
    have eW:=h3.2;simp[bF] at eW;simp[hk,dz,eW,gI,bF]
 ·rw[hj];simp[TQ,Ef];refine fQ o.rules.length (yV o) (fun k=>[.bool false,.int k]) (fun _=>[]) ?_ (fun k hk ho=>?_) (fun k hk ho hb=>?_) (fun hj=>?_)
  ·simp
  ·have hw:=bx hk (by omega);simp[yV,hk] at ho;simp[TR,Eg,hk];refine⟨_,cL _ _ _,?_⟩;by_cases gI:0<k
   ·have bF:k-1<o.rules.length:=by omega
    have dz:IntKind.i64.wrap ((k:Int)-1)=((k-1:Nat):Int):=by rw[uz (by omega)];omega
    have h3:¬o.rules[k].ask≤o.rules[k-1].ask:=by
       rcases ho.2 with h3|h3
       ·omega
       ·simp[bF] at h3;omega
    simp[ho.1,hk,hw,dz,h3,gI,bF]
   ·simp[ho.1,hk,hw,gI];omega
  ·rw[hb];simp[yV,hk] at ho;simp[TR,Eg,hk];refine⟨_,cL _ _ _,?_⟩;cases e1:wi o.rules[k].ask 0 21 with
   |false=>simp
   |true=>
    have h3:=ho e1;have gI:0<k:=by omega
    have bF:k-1<o.rules.length:=by omega
    have dz:IntKind.i64.wrap ((k:Int)-1)=((k-1:Nat):Int):=by rw[uz (by omega)];omega
    have eW:=h3.2;simp[bF] at eW;simp[hk,dz,eW,gI,bF]
  ·rw[hj];simp[TR,Eg]
def fc (r:Realm):List ByteArray:=r.cities.map (·.name)
def fe (r:Realm):List ByteArray:=r.firms.map (·.name)
def eF (r:Realm):List ByteArray:=r.orders.map (·.name)
theorem aBA (r:Realm)(h1:r.cities.length≤100000)(h2:r.firms.length≤100000)(h3:r.orders.length≤100000):ao T ad2 [bn r] (.tup [strs (fc r),strs (fe r),strs (eF r)]):=by
 refine .of_tree rfl alq aD1 ?_;simp[Wf];refine aY.forRounds r.cities.length (fun k=>[.none,.int k]) (fun k=>[strs ((r.cities.take k).map (·.name))]) ?_ (fun k hk=>?_) ?_
 ·simp[strs]
 ·have hw:=bx hk (by omega);have hl:(r.cities.take k).length=k:=by rw[dW];omega
  rw[zJ _ hk];simp[ahb,L8,hk,hw,strs,hl];omega
 ·simp[ahb,L8];refine aY.forRounds r.firms.length (fun k=>[.none,.int k]) (fun k=>[strs ((r.firms.take k).map (·.name))]) ?_ (fun k hk=>?_) ?_
  ·simp[strs]
  ·have hw:=bx hk (by omega);have hl:(r.firms.take k).length=k:=by rw[dW];omega
   rw[zJ _ hk];simp[ahc,L9,hk,hw,strs,hl];omega
  ·simp[ahc,L9];refine aY.forRounds r.orders.length (fun k=>[.none,.int k]) (fun k=>[strs ((r.orders.take k).map (·.name))]) ?_ (fun k hk=>?_) ?_
   ·simp[strs]
   ·have hw:=bx hk (by omega);have hl:(r.orders.take k).length=k:=by rw[dW];omega
    rw[zJ _ hk];simp[ahd,Ma,hk,hw,strs,hl];omega
   ·simp[ahd,Ma,fc,fe,eF]
end Rm
namespace Rm
open Go Go.Proofs Cx
structure Small (r:Realm):Prop where
 cur:r.currencies.length≤1000
 cities:r.cities.length≤1000
 groups:r.groups.length≤1000
 firms:r.firms.length≤1000
 orders:r.orders.length≤1000
 us:r.usances.length≤1000
 rates:r.rates.length≤1000
 halts:r.halts.length≤1000
 city:∀c,c∈r.cities→c.rest.length≤1000∧c.feasts.length≤1000∧c.shut.length≤1000∧∀y,y∈c.feasts→bh y
 order:∀o,o∈r.orders→o.choices.length≤1000∧o.rules.length≤1000
 rate:∀x,x∈r.rates→bh x.num∧bh x.den
def lb (r:Realm)(k j:Nat):Bool:=(r.usances.getD j default).fr !=(r.usances.getD k default).fr||(r.usances.getD j default).to !=(r.usances.getD k default).to
def wP (r:Realm)(k:Nat):Int:=
 if(aN (r.usances.getD k default).fr r.cities.length&&aN (r.usances.getD k default).to r.cities.length&&wi (r.usances.getD k default).days 1 20000)=false then 1 else if eu k (lb r k) then 0 else 5
def uw (r:Realm):Int:=if 100<r.usances.length then 6 else eU r.usances.length (wP r)
theorem aBD (r:Realm)(h:Small r):ao T ad6 [bn r] (.int (uw r)):=by
 refine .of_tree rfl alv aD5 ?_;have hu:=h.us;simp[Wj,uw];by_cases h0:100<r.usances.length
 ·have fI:(100:Int)<r.usances.length:=by omega
  have u7:¬r.usances.length≤100:=by omega
  simp[h0,fI,u7]
 have fI:¬(100:Int)<r.usances.length:=by omega
 simp[h0,fI];refine oc r.usances.length (wP r) (fun k=>[.int 0,.int k]) (fun _=>[]) ?_ (fun k hk ho=>?_) (fun k hk ho hb=>?_) (fun hj=>?_)
 ·simp
 ·have hw:=bx hk (by omega);have ha:aN r.usances[k].fr r.cities.length=true∧aN r.usances[k].to r.cities.length=true∧wi r.usances[k].days 1 20000=true∧eu k (lb r k)=true:=by
   unfold wP at ho;simp only[aT,bH hk,jE] at ho;cases e1:aN r.usances[k].fr r.cities.length<;>cases e2:aN r.usances[k].to r.cities.length<;>cases e3:wi r.usances[k].days 1 20000<;>cases e4:eu k (lb r k)<;>simp[e1,e2,e3,e4] at ho ⊢
  obtain⟨a1,a2,a3,a4⟩:=ha;simp[wi] at a3;have a5:¬r.usances[k].days<1:=by omega
  have a6:¬20000<r.usances[k].days:=by omega
  simp[Uf,EC,hk];refine⟨_,fF _ _,?_⟩;simp[a1];refine⟨_,fF _ _,?_⟩;simp[a2,a5,a6];refine⟨by omega,fQ k (lb r k) (fun j=>[.int 0,.int j]) (fun _=>[]) ?_ (fun j hj ez=>?_) (fun j hj ez dx=>?_) (fun qt=>?_)⟩
  ·simp
  ·have vH:=bx hj (by omega);have bQ:j<r.usances.length:=by omega
   have hm:j<min k r.usances.length:=by omega
   simp[lb,bQ,hk] at ez;simp[Mc,zw,hj,bQ,hk,vH,hm];intro e e';rcases ez with h|h
   ·exact absurd e h
   ·exact absurd e' h
  ·rw[a4] at dx;cases dx
  ·simp[Mc,zw,hw];omega
 ·simp[Uf,EC,hk,hb];refine⟨_,fF _ _,?_⟩;unfold wP at ho ⊢;simp only[aT,bH hk,jE] at ho ⊢;cases e1:aN r.usances[k].fr r.cities.length
  ·simp
  simp;refine⟨_,fF _ _,?_⟩;cases e2:aN r.usances[k].to r.cities.length
  ·simp
  cases e3:wi r.usances[k].days 1 20000
  ·simp[wi] at e3;by_cases g:r.usances[k].days<1
   ·simp[g]
   ·simp[g,e3 (by omega)]
  have Oy:=e3;simp[wi] at Oy;have a5:¬r.usances[k].days<1:=by omega
  have a6:¬20000<r.usances[k].days:=by omega
  simp[e1,e2,e3] at ho;simp[a5,a6];refine⟨by omega,fQ k (lb r k) (fun j=>[.int 0,.int j]) (fun _=>[]) ?_ (fun j hj ez=>?_) (fun j hj ez dx=>?_) (fun qt=>?_)⟩
  ·simp
  ·have vH:=bx hj (by omega);have bQ:j<r.usances.length:=by omega
   have hm:j<min k r.usances.length:=by omega
   simp[lb,bQ,hk] at ez;simp[Mc,zw,hj,bQ,hk,vH,hm];intro e e';rcases ez with h|h
   ·exact absurd e h
   ·exact absurd e' h
  ·have bQ:j<r.usances.length:=by omega
   have hm:j<min k r.usances.length:=by omega
   simp[lb,bQ,hk] at ez;simp[Mc,zw,hj,bQ,hk,ho,hm]
   first|exact ez|simp[ez]
  ·rw[qt] at ho;cases ho
 ·simp[Uf,EC,hj]
theorem aA6 (r:Realm)(h:Small r):ao T adL [bn r] (.int (uw r)):=by
 refine .of_tree rfl ak4 aDG ?_;have hu:=h.us;have hc:=h.cities;simp[VU,uw];by_cases h0:100<r.usances.length
 ·have fI:(100:Int)<r.usances.length:=by omega
  have u7:¬r.usances.length≤100:=by omega
  simp[h0,fI,u7]
 have fI:¬(100:Int)<r.usances.length:=by omega
 simp[h0,fI];refine oc r.usances.length (wP r) (fun k=>[.int 0,.int k]) (fun _=>[]) ?_ (fun k hk ho=>?_) (fun k hk ho hb=>?_) (fun hj=>?_)
 ·simp
 ·have hw:=bx hk (by omega);have ha:aN r.usances[k].fr r.cities.length=true∧aN r.usances[k].to r.cities.length=true∧wi r.usances[k].days 1 20000=true∧eu k (lb r k)=true:=by
   unfold wP at ho;simp only[aT,bH hk,jE] at ho;cases e1:aN r.usances[k].fr r.cities.length<;>cases e2:aN r.usances[k].to r.cities.length<;>cases e3:wi r.usances[k].days 1 20000<;>cases e4:eu k (lb r k)<;>simp[e1,e2,e3,e4] at ho ⊢
  obtain⟨a1,a2,a3,a4⟩:=ha;rw[mI] at a1 a2;simp[T3,Ep,hk,q8 _ (show r.cities.length≤4294967296 by omega)];refine⟨_,cL _ _ _,?_⟩;simp[a1,q8 _ (show r.cities.length≤4294967296 by omega)];refine⟨_,cL _ _ _,?_⟩;simp[a2];refine⟨_,cL _ _ _,?_⟩;simp[a3];refine fQ k (lb r k) (fun j=>[.int 0,.int j]) (fun _=>[]) ?_ (fun j hj ez=>?_) (fun j hj ez dx=>?_) (fun qt=>?_)
  ·simp
  ·have vH:=bx hj (by omega);have bQ:j<r.usances.length:=by omega
   simp[lb,bQ,hk] at ez;simp[L2,zp,hj,bQ,hk,vH];intro e e';rcases ez with h|h
   ·exact absurd e h
   ·exact absurd e' h
  ·rw[a4] at dx;cases dx
  ·simp[L2,zp,hw]
 ·simp[T3,Ep,hk,hb,q8 _ (show r.cities.length≤4294967296 by omega)];refine⟨_,cL _ _ _,?_⟩;unfold wP at ho ⊢;simp only[aT,bH hk,jE,mI] at ho ⊢;cases e1:wi r.usances[k].fr 0 ((r.cities.length:Int)-1)
  ·simp
  simp[q8 _ (show r.cities.length≤4294967296 by omega)];refine⟨_,cL _ _ _,?_⟩;cases e2:wi r.usances[k].to 0 ((r.cities.length:Int)-1)
  ·simp
  simp;refine⟨_,cL _ _ _,?_⟩;cases e3:wi r.usances[k].days 1 20000
  ·simp
  simp[e1,e2,e3] at ho;simp;refine fQ k (lb r k) (fun j=>[.int 0,.int j]) (fun _=>[]) ?_ (fun j hj ez=>?_) (fun j hj ez dx=>?_) (fun qt=>?_)
  ·simp
  ·have vH:=bx hj (by omega);have bQ:j<r.usances.length:=by omega
   simp[lb,bQ,hk] at ez;simp[L2,zp,hj,bQ,hk,vH];intro e e';rcases ez with h|h
   ·exact absurd e h
   ·exact absurd e' h
  ·have bQ:j<r.usances.length:=by omega
   simp[lb,bQ,hk] at ez;simp[L2,zp,hj,bQ,hk,ho]
   first|exact ez|simp[ez]
  ·rw[qt] at ho;cases ho
 ·simp[T3,Ep,hj]
def wD (r:Realm)(k:Nat):Bool:=aN (r.rates.getD k default).fr r.currencies.length&&aN (r.rates.getD k default).to r.currencies.length&&((r.rates.getD k default).fr !=(r.rates.getD k default).to)&&
 wi (r.rates.getD k default).num 1 1073741824&&wi (r.rates.getD k default).den 1 1073741824&&wi (r.rates.getD k default).since 0 100000
def s9 (r:Realm)(k:Nat):Bool:=aN (r.halts.getD k default).order r.orders.length&&wi (r.halts.getD k default).fr 0 (r.halts.getD k default).to&&decide ((r.halts.getD k default).to≤100000)
def nX (r:Realm):Int:=if 100<r.rates.length then 6 else if eu r.rates.length (wD r)=false then 1 else if 20<r.halts.length then 6 else if eu r.halts.length (s9 r) then 0 else 1
theorem Iq {n:Int}(h:bh n)(m:Int)(hm:0≤m∧m≤4294967296):aN (IntKind.i64.wrap (n-1)) m=wi n 1 m:=by
 unfold bh at h;by_cases e:n=-9223372036854775808
 ·subst e;have:IntKind.i64.wrap (-9223372036854775808-1)=9223372036854775807:=by decide
  rw[this,sD];simp[aN,wi];omega
 ·rw[bU (by omega),sD];simp[aN,wi];omega
theorem abW (n:Int):aN n 100001=wi n 0 100000:=by rw[sD];simp[aN,wi];omega
theorem aBC (r:Realm)(h:Small r):ao T ad4 [bn r] (.int (nX r)):=by
 refine .of_tree rfl als aD3 ?_;have hu:=h.rates;have hh:=h.halts;simp[Wh,nX];by_cases h0:100<r.rates.length
 ·have fI:(100:Int)<r.rates.length:=by omega
  have u7:¬r.rates.length≤100:=by omega
  simp[h0,fI,u7]
 have fI:¬(100:Int)<r.rates.length:=by omega
 simp[h0,fI];have key:∀k (hk:k<r.rates.length),∀{ρ:Env} {Q:Out→Prop},True:=fun _ _ _ _=>trivial;refine fQ r.rates.length (wD r) (fun k=>[.int 0,.int k]) (fun _=>[]) ?_ (fun k hk ho=>?_) (fun k hk ho hb=>?_) (fun hj=>?_)
 ·simp
 ·have hw:=bx hk (by omega);have hI:=h.rate _ (de hk);simp[wD,hk] at ho;obtain⟨⟨⟨⟨⟨a1,a2⟩,a3⟩,a4⟩,a5⟩,a6⟩:=ho;simp[Ud,EA,hk];refine⟨_,fF _ _,?_⟩;simp[a1];refine⟨_,fF _ _,?_⟩;simp[a2,a3];refine⟨_,fF _ _,?_⟩;simp[Iq hI.1,a4];refine⟨_,fF _ _,?_⟩;simp[Iq hI.2,a5];refine⟨_,fF _ _,?_⟩;simp[abW,a6,hw]
 ·have hI:=h.rate _ (de hk);rw[hb];simp[wD,hk] at ho;simp[Ud,EA,hk];refine⟨_,fF _ _,?_⟩;cases e1:aN r.rates[k].fr r.currencies.length
  ·simp
  simp;refine⟨_,fF _ _,?_⟩;cases e2:aN r.rates[k].to r.currencies.length
  ·simp
  by_cases e3:r.rates[k].fr=r.rates[k].to
  ·simp[e3]
  simp[e3];refine⟨_,fF _ _,?_⟩;rw[Iq hI.1 _ (by omega)];cases e4:wi r.rates[k].num 1 1073741824
  ·simp
  simp;refine⟨_,fF _ _,?_⟩;rw[Iq hI.2 _ (by omega)];cases e5:wi r.rates[k].den 1 1073741824
  ·simp
  simp;refine⟨_,fF _ _,?_⟩;rw[abW];simp[ho e1 e2 e3 e4 e5]
 ·rw[hj];simp[Ud,EA];by_cases h1:20<r.halts.length
  ·have cE:(20:Int)<r.halts.length:=by omega
   have O3:¬r.halts.length≤20:=by omega
   simp[h1,cE,O3]
  have cE:¬(20:Int)<r.halts.length:=by omega
  simp[h1,cE];refine fQ r.halts.length (s9 r) (fun k=>[.int 0,.int k]) (fun _=>[]) ?_ (fun k hk ho=>?_) (fun k hk ho hb=>?_) (fun hj=>?_)
  ·simp
  ·have hw:=bx hk (by omega);simp[s9,wi,hk] at ho;obtain⟨⟨a1,a2⟩,a3⟩:=ho;have b1:¬r.halts[k].fr<0:=by omega
   have b2:¬r.halts[k].to<r.halts[k].fr:=by omega
   have b3:¬100000<r.halts[k].to:=by omega
   simp[Ue,EB,hk];refine⟨_,fF _ _,?_⟩;simp[a1,b1,b2,b3,hw]
  ·rw[hb];simp[s9,wi,hk] at ho;simp[Ue,EB,hk];refine⟨_,fF _ _,?_⟩;cases e1:aN r.halts[k].order r.orders.length
   ·simp
   have:=ho e1;by_cases b1:r.halts[k].fr<0
   ·simp[b1]
   by_cases b2:r.halts[k].to<r.halts[k].fr
   ·simp[b1,b2]
   have b3:100000<r.halts[k].to:=this (by omega) (by omega);simp[b1,b2,b3]
  ·rw[hj];simp[Ue,EB]
theorem aA5 (r:Realm)(h:Small r):ao T adK [bn r] (.int (nX r)):=by
 refine .of_tree rfl ak3 aDF ?_;have hu:=h.rates;have hh:=h.halts;have hc:=q8 r.currencies.length (by have:=h.cur;omega);have Ic:=q8 r.orders.length (by have:=h.orders;omega);simp[VT,nX];by_cases h0:100<r.rates.length
 ·have fI:(100:Int)<r.rates.length:=by omega
  have u7:¬r.rates.length≤100:=by omega
  simp[h0,fI,u7]
 have fI:¬(100:Int)<r.rates.length:=by omega
 simp[h0,fI];refine fQ r.rates.length (wD r) (fun k=>[.int 0,.int k]) (fun _=>[]) ?_ (fun k hk ho=>?_) (fun k hk ho hb=>?_) (fun hj=>?_)
 ·simp
 ·have hw:=bx hk (by omega);simp[wD,hk,mI] at ho;obtain⟨⟨⟨⟨⟨a1,a2⟩,a3⟩,a4⟩,a5⟩,a6⟩:=ho;simp[TZ,En,hk,hc];refine⟨_,cL _ _ _,?_⟩;simp[a1,hc];refine⟨_,cL _ _ _,?_⟩;simp[a2,a3];refine⟨_,cL _ _ _,?_⟩;simp[a4];refine⟨_,cL _ _ _,?_⟩;simp[a5];refine⟨_,cL _ _ _,?_⟩;simp[a6,hw]
 ·rw[hb];simp[wD,hk,mI] at ho;simp[TZ,En,hk,hc];refine⟨_,cL _ _ _,?_⟩;cases e1:wi r.rates[k].fr 0 ((r.currencies.length:Int)-1)
  ·simp
  simp[hc];refine⟨_,cL _ _ _,?_⟩;cases e2:wi r.rates[k].to 0 ((r.currencies.length:Int)-1)
  ·simp
  by_cases e3:r.rates[k].fr=r.rates[k].to
  ·simp[e3]
  simp[e3];refine⟨_,cL _ _ _,?_⟩;cases e4:wi r.rates[k].num 1 1073741824
  ·simp
  simp;refine⟨_,cL _ _ _,?_⟩;cases e5:wi r.rates[k].den 1 1073741824
  ·simp
  simp;refine⟨_,cL _ _ _,?_⟩;simp[ho e1 e2 e3 e4 e5]
 ·rw[hj];simp[TZ,En];by_cases h1:20<r.halts.length
  ·have cE:(20:Int)<r.halts.length:=by omega
   have O3:¬r.halts.length≤20:=by omega
   simp[h1,cE,O3]
  have cE:¬(20:Int)<r.halts.length:=by omega
  simp[h1,cE];refine fQ r.halts.length (s9 r) (fun k=>[.int 0,.int k]) (fun _=>[]) ?_ (fun k hk ho=>?_) (fun k hk ho hb=>?_) (fun hj=>?_)
  ·simp
  ·have hw:=bx hk (by omega);simp[s9,hk,mI] at ho;obtain⟨⟨a1,a2⟩,a3⟩:=ho;have b3:¬100000<r.halts[k].to:=by omega
   simp[T2,Eo,hk,Ic];refine⟨_,cL _ _ _,?_⟩;simp[a1];refine⟨_,cL _ _ _,?_⟩;simp[a2,b3,hw]
  ·rw[hb];simp[s9,hk,mI] at ho;simp[T2,Eo,hk,Ic];refine⟨_,cL _ _ _,?_⟩;cases e1:wi r.halts[k].order 0 ((r.orders.length:Int)-1)
   ·simp
   simp;refine⟨_,cL _ _ _,?_⟩;cases e2:wi r.halts[k].fr 0 r.halts[k].to
   ·simp
   simp[ho e1 e2]
  ·rw[hj];simp[T2,Eo]
end Rm
