/-
  Shared texts of this claim.
-/
import Derived.Test.YtbemlocmcgcbdaaGreatDoorKAO
import Derived.KernelRfl
import Derived.Test.YtbemlocmcgcbdaaGreatDoorKAR
set_option linter.defProp false
set_option linter.unusedVariables false
set_option maxRecDepth 100000
noncomputable section
namespace Rm
open Go Go.Proofs Cx
def T2:PC:=
 (.seq
  (.is [.setR 0 (.con (.bool false))])
  (.seq
   (.is [.call [] 13 14 [],
     .setO 1 (.con (.agg [(.int 0),(.int 0),(.int 0),(.int 0),(.int 0)])),
     .setR 1 (.con .none),
     .setO 1 (.setc (.o 1) 0 (.r 13))])
   (.seq
    (.is [.call [] 14 15 [],
      .setR 2 (.r 14)])
    (.seq
     (.is [.setR 16 (ar 5 (.o 1)),
       .setR 17 (.r 2),
       .call [] 18 16 [(.r 16),(.r 17),(.con (.int 0))],
       .setR 15 (.r 18),
       .setR 19 (.tget (.r 15) 0),
       .setR 20 (.tget (.r 15) 1),
       .setR 3 (.r 19),
       .setR 4 (.r 20)])
     (.seq
      (.is [.setR 22 (ar 5 (.o 1)),
       .setR 23 (.r 2),
       .call [] 24 17 [(.r 22),(.r 23),(.con (.int 0))],
       .setR 21 (.r 24),
       .setR 25 (.tget (.r 21) 0),
       .setR 26 (.tget (.r 21) 1),
       .setR 5 (.r 25),
       .setR 6 (.r 26)])
      (.seq
       (.is [.setR 28 (ar 5 (.o 1)),
         .setR 29 (.r 2),
         .setO 30 (.lst [(.con (.int 1))]),
         .setR 30 (.con .none),
         .setR 31 (.mk [(.con (.int 32)),(.con (.int 10)),(.con (.int 2))]),
         .setO 32 (.lst [(.r 31)]),
         .setR 32 (.con .none),
         .call [] 33 18 [(.r 28),(.r 29),(.con (.int 0)),(.o 30),(.o 32)],
         .setR 27 (.r 33),
         .setR 34 (.tget (.r 27) 0),
         .setR 35 (.tget (.r 27) 1),
         .setR 7 (.r 34),
         .setR 8 (.r 35)])
       (.seq
        (.is [.setR 37 (ar 5 (.o 1)),
         .setR 38 (.r 2),
         .setO 39 (.lst [(.con (.int 1))]),
         .setR 39 (.con .none),
         .setR 40 (.mk [(.con (.int 30)),(.con (.int 10)),(.con (.int 2))]),
         .setO 41 (.lst [(.r 40)]),
         .setR 41 (.con .none),
         .call [] 42 18 [(.r 37),(.r 38),(.con (.int 0)),(.o 39),(.o 41)],
         .setR 36 (.r 42),
         .setR 43 (.tget (.r 36) 0),
         .setR 44 (.tget (.r 36) 1),
         .setR 9 (.r 43),
         .setR 10 (.r 44)])
        (.seq
         (.is [.setR 46 (ar 5 (.o 1)),
           .setR 47 (.r 2),
           .call [] 48 19 [(.r 46),(.r 47),(.con (.int 0))],
           .setR 45 (.r 48),
           .setR 49 (.tget (.r 45) 0),
           .setR 50 (.tget (.r 45) 1),
           .setR 11 (.r 49),
           .setR 12 (.r 50)])
         (.seq
          (.seq
           (.is [.setR 51 (ar 5 (.o 1)),
            .setR 52 (.r 2),
            .call [] 53 20 [(.r 51),(.r 52),(.con (.int 0))],
            .setR 54 (.ci .neq (.r 53) (.con (.int 0))),
            .setR 55 (.r 54),
            .setR 56 (ar 5 (.o 1)),
            .setR 57 (.r 2),
            .call [(55,false)] 58 20 [(.r 56),(.r 57),(.con (.int (-1)))],
            .setR 59 (.ci .neq (.r 58) (.con (.int 1))),
            .setR 60 (.pick (.r 55) (.con (.bool true)) (.r 59)),
            .setR 61 (.r 60),
            .setR 62 (.r 4),
            .setR 63 (.ci .neq (.r 62) (.con (.int 0))),
            .setR 64 (.pick (.r 61) (.con (.bool true)) (.r 63)),
            .setR 65 (.r 64),
            .setR 66 (.r 6),
            .setR 67 (.ci .neq (.r 66) (.con (.int 0))),
            .setR 68 (.pick (.r 65) (.con (.bool true)) (.r 67)),
            .setR 69 (.r 68),
            .setR 70 (.r 8),
            .setR 71 (.ci .neq (.r 70) (.con (.int 0))),
            .setR 72 (.pick (.r 69) (.con (.bool true)) (.r 71)),
            .setR 73 (.r 72),
            .setR 74 (.r 10),
            .setR 75 (.ci .neq (.r 74) (.con (.int 7))),
            .setR 76 (.pick (.r 73) (.con (.bool true)) (.r 75)),
            .setR 77 (.r 76),
            .setR 78 (.r 12),
            .setR 79 (.ci .neq (.r 78) (.con (.int 0))),
            .setR 80 (.pick (.r 77) (.con (.bool true)) (.r 79)),
            .setR 81 (.r 80),
            .setR 82 (.r 7),
            .setR 83 (.llen (.r 82)),
            .setR 84 (.ci .neq (.r 83) (.con (.int 4))),
            .setR 85 (.pick (.r 81) (.con (.bool true)) (.r 84))])
           (.ite (.r 85) [0] []
            (.seq
             (.is [.setR 0 (.con (.bool false))])
             (.ret (.r 0)))
            .skip))
          (.seq
           (.is [.setR 86 (.r 3),
            .setR 87 (.ci .eql (.r 86) (.con (.int 117))),
            .setR 88 (.r 87),
            .setR 89 (ar 5 (.o 1)),
            .setR 90 (.r 2),
            .chk (.imp [(88,true)] (.idx (.r 90) (.con (.int 1)))),
            .setR 91 (.ref (.nth (.r 90) (.con (.int 1)))),
            .setR 92 (.deref (.r 91)),
            .call [(88,true)] 93 13 [(.r 89),(.r 92),(.con (.int 0))],
            .setR 94 (.ci .eql (.r 93) (.con (.int 45))),
            .setR 95 (.pick (.r 88) (.r 94) (.con (.bool false))),
            .setR 96 (.r 95),
            .setR 97 (.r 5),
            .setR 98 (.lst [(.con (.int 2)),(.con (.int 3))]),
            .call [(96,true)] 99 21 [(.r 97),(.r 98)],
            .setR 100 (.pick (.r 96) (.r 99) (.con (.bool false))),
            .setR 101 (.r 100),
            .setR 102 (.r 7),
            .chk (.imp [(101,true)] (.idx (.r 102) (.con (.int 3)))),
            .setR 103 (.ref (.nth (.r 102) (.con (.int 3)))),
            .setR 104 (.ref (.cell (.deref (.r 103)) 0)),
            .setR 105 (.deref (.r 104)),
            .setR 106 (.ci .eql (.r 105) (.con (.int 32))),
            .setR 107 (.pick (.r 101) (.r 106) (.con (.bool false))),
            .setR 108 (.r 107),
            .setR 109 (.r 11),
            .setR 110 (.ci .eql (.r 109) (.con (.int 92))),
            .setR 111 (.pick (.r 108) (.r 110) (.con (.bool false))),
            .setR 0 (.r 111)])
           (.ret (.r 0))))))))))))
def lq4:Bo=some T2:=by kernel_rfl
def lt4:tab 4=some T2:=by rw[alT,<-lq4,<-(ak Bo ahg)]
def TR:PC:=
 (.seq
  (.is [.setO 0 (.con (.agg [(.int 0),(.int 0),(.int 0),(.int 0),(.int 0)])),
    .setR 0 (.con .none)])
  (.seq
   (.is [.setR 1 (.mk [(.con (.int 100)),(.con (.int 100)),(.con (.int 90)),(.con (.int 2)),(.con (.int 10))]),
     .setO 0 (.setc (.o 0) 0 (.r 1))])
   (.ret (ar 5 (.o 0)))))
def awq:Bp=some TR:=by kernel_rfl
def awN:tab 14=some TR:=by rw[alU,<-awq,<-(ak Bp ahh)]
def TS:PC:=
 (.seq
  (.is [.setR 0 (.con (.list []))])
  (.seq
   (.is [.setR 1 (.mk [(.con (.int 80)),(.con (.int 30)),(.con (.int 2))]),
     .setR 2 (.mk [(.con (.int 50)),(.con (.int 60)),(.con (.int 3))]),
     .setR 3 (.mk [(.con (.int 200)),(.con (.int 91)),(.con (.int 2))]),
     .setR 4 (.mk [(.con (.int 70)),(.con (.int 20)),(.con (.int 1))]),
     .setO 5 (.lst [(.r 1),(.r 2),(.r 3),(.r 4)]),
     .setR 5 (.con .none),
     .setR 0 (.o 5)])
   (.ret (.r 0))))
def awr:Bn=some TS:=by kernel_rfl
def awO:tab 15=some TS:=by rw[alS,<-awr,<-(ak Bn ahf)]
def TU:PC:=
 (.seq
  (.is [.setO 3 (.mk [(.r 0)]),
    .setR 3 (.con .none),
    .setR 6 (.con (.int 0)),
    .setR 7 (.con (.int 0))])
  (.seq
   (.seq
    (.is [.setR 9 (ar 5 (.o 3)),
      .setR 10 (.r 1),
      .setR 11 (.r 2),
      .call [] 12 20 [(.r 9),(.r 10),(.r 11)],
      .setR 8 (.r 12)])
    (.seq
     (.is [.setR 13 (.r 8),
       .setR 14 (.ci .neq (.r 13) (.con (.int 0)))])
     (.ite (.r 14) [6,7] []
      (.seq
       (.is [.setR 15 (.r 8),
        .setR 6 (.con (.int 0)),
        .setR 7 (.r 15)])
       (.ret (.tup [(.r 6),(.r 7)])))
      .skip)))
   (.seq
    (.is [.setR 16 (ar 5 (.o 3)),
      .setR 17 (.r 1),
      .setR 18 (.r 2),
      .call [] 19 46 [(.r 16),(.r 17),(.r 18)],
      .setR 6 (.r 19),
      .setR 7 (.con (.int 0))])
    (.ret (.tup [(.r 6),(.r 7)])))))
def aws:Bu=some TU:=by kernel_rfl
def awP:tab 16=some TU:=by rw[alW,<-aws,<-(ak Bu ahu)]
def amp:PC:=
 (.seq
  (.is [.setR 37 (.ci .lss (.r 36) (.r 35))])
  (.seq
   (.ite (.r 37) [] []
    .skip
    (.exit 0))
   (.seq
    (.block 1 [11,38,39,40,41,42] [10]
     (.seq
      (.is [.setR 38 (.r 36),
        .setR 11 (.r 38)])
      (.is [.setR 39 (.r 10),
        .setR 40 (.r 11),
        .setR 41 (.r 11),
        .chk (.idx (.o 10) (.r 40)),
        .setR 42 (.r 40),
        .setO 10 (.setn (.o 10) (.r 42) 0 (.r 41))])))
    (.is [.setR 43 (.ai .add .i64 (.r 36) (.con (.int 1))),
      .setR 36 (.r 43)]))))
def auH:PC:=.block 0 [36,37] [10] (.loop [36] [10] amp)
def amq:PC:=
 (.seq
  (.is [.setR 50 (.ci .lss (.r 49) (.r 48))])
  (.seq
   (.ite (.r 50) [] []
    .skip
    (.exit 2))
   (.seq
    (.block 3 [9,12,14,51,52,53,54,55,56,57,58,59,60,61,62,63,65,66,67] [12,66]
     (.seq
      (.is [.chk (.idx (.o 10) (.r 49)),
        .setR 51 (.r 49),
        .setR 52 (.nth (.o 10) (.r 51)),
        .setR 14 (.r 52)])
      (.seq
       (.is [.setR 53 (.r 9),
         .setR 54 (.sub (.o 3) 0 5),
         .setR 55 (.o 4),
         .setR 56 (.r 14),
         .chk (.idx (.r 55) (.r 56)),
         .setR 57 (.ref (.nth (.r 55) (.r 56))),
         .setR 58 (.deref (.r 57)),
         .setR 59 (.o 5),
         .call [] 60 13 [(.r 54),(.r 58),(.r 59)],
         .setR 61 (.ai .sub .i64 (.r 53) (.r 60)),
         .setR 9 (.r 61)])
       (.seq
        (.seq
         (.is [.setR 62 (.r 9),
          .setR 63 (.ci .lss (.r 62) (.con (.int 0)))])
         (.ite (.r 63) [] []
          (.exit 2)
          .skip))
        (.is [.setR 64 (.r 12),
          .setR 65 (.r 14),
          .setO 66 (.lst [(.r 65)]),
          .setR 66 (.con .none),
          .chk (.ci .leq (.llen (.app (.o 12) (.o 66))) (.con (.int 4294967296))),
          .setO 12 (.app (.o 12) (.o 66)),
          .setR 67 (.con .none),
          .setR 12 (.r 67)])))))
    (.is [.setR 68 (.ai .add .i64 (.r 49) (.con (.int 1))),
      .setR 49 (.r 68)]))))
def auI:PC:=.block 2 [9,12,49,50] [12] (.loop [9,12,49] [12] amq)
def TV:PC:=
 (.seq
  (.is [.setO 3 (.mk [(.r 0)]),
    .setR 3 (.con .none),
    .setO 4 (.mk [(.r 1)]),
    .setR 4 (.con .none),
    .setO 5 (.mk [(.r 2)]),
    .setR 5 (.con .none),
    .setR 6 (.con (.list [])),
    .setR 7 (.con (.int 0))])
  (.seq
   (.seq
    (.is [.setR 15 (ar 5 (.o 3)),
      .setR 16 (.cell (.o 4) 0),
      .setR 17 (.cell (.o 5) 0),
      .call [] 18 20 [(.r 15),(.r 16),(.r 17)],
      .setR 8 (.r 18)])
    (.seq
     (.is [.setR 19 (.r 8),
       .setR 20 (.ci .neq (.r 19) (.con (.int 0)))])
     (.ite (.r 20) [6,7] []
      (.seq
       (.is [.setR 21 (.r 8),
        .setR 6 (.con (.list [])),
        .setR 7 (.r 21)])
       (.ret (.tup [(.r 6),(.r 7)])))
      .skip)))
   (.seq
    (.is [.setR 22 (ar 5 (.o 3)),
      .setR 23 (.cell (.o 4) 0),
      .setR 24 (.cell (.o 5) 0),
      .call [] 25 46 [(.r 22),(.r 23),(.r 24)],
      .setR 26 (.con .none),
      .setR 27 (.cell (.o 3) 0),
      .setR 28 (.ai .sub .i64 (.r 25) (.r 27)),
      .setR 9 (.r 28)])
    (.seq
     (.seq
      (.is [.setR 29 (.r 9),
        .setR 30 (.ci .lss (.r 29) (.con (.int 0)))])
      (.ite (.r 30) [6,7] []
       (.seq
        (.is [.setR 6 (.con (.list [])),
          .setR 7 (.con (.int 7))])
        (.ret (.tup [(.r 6),(.r 7)])))
       .skip))
     (.seq
      (.is [.setR 31 (.cell (.o 4) 0),
        .setR 32 (.llen (.r 31)),
        .chk (.an (.ci .geq (.r 32) (.con (.int 0))) (.ci .leq (.r 32) (.con (.int 4294967296)))),
        .chk (.ci .eql (.r 32) (.r 32)),
        .setO 33 (.rep (.r 32) (.con (.int 0))),
        .setR 33 (.con .none),
        .setR 10 (.r 33),
        .setO 10 (.o 33)])
      (.seq
       (.seq
        (.is [.setR 34 (.r 10),
          .setR 35 (.llen (.o 10)),
          .setR 36 (.con (.int 0))])
        auH)
       (.seq
        (.is [.setR 44 (.r 10),
          .setO 3 (ar 5 (.o 3)),
          .setO 4 (.cell (.o 4) 0),
          .setO 5 (.cell (.o 5) 0),
          .setR 45 (.clo 48 [(.ref (.o 3)),(.ref (.o 4)),(.ref (.o 5))]),
          .mcall 1000000013 47 [(.con .none),(.r 45),(.o 10)],
          .setO 10 (.tget (.o 1000000013) 1),
          .setR 46 (.tget (.o 1000000013) 0)])
        (.seq
         (.is [.setO 12 (.con (.list [])),
          .setR 12 (.con .none)])
         (.seq
          (.seq
           (.is [.setR 47 (.r 10),
             .setR 48 (.llen (.o 10)),
             .setR 49 (.con (.int 0))])
           auI)
          (.seq
           (.is [.setR 69 (.r 12),
             .mcall 1000000013 49 [(.con .none),(.o 12)],
             .setO 12 (.tget (.o 1000000013) 1),
             .setR 70 (.tget (.o 1000000013) 0)])
           (.seq
            (.is [.setR 71 (.r 12),
             .setR 6 (.o 12),
             .setR 7 (.con (.int 0))])
            (.ret (.tup [(.r 6),(.r 7)])))))))))))))
def awt:yt=some TV:=by kernel_rfl
def awQ:tab 17=some TV:=by rw[alX,<-awt,<-(ak yt ahw)]
def amr:PC:=
 (.seq
  (.is [.setR 29 (.ci .lss (.r 28) (.r 27))])
  (.seq
   (.ite (.r 29) [] []
    .skip
    (.exit 0))
   (.seq
    (.block 1 [10,11,13,14,30,31,32,33,34,35,40,41,53] []
     (.seq
      (.is [.setR 30 (.r 28),
        .chk (.idx (.r 26) (.r 28)),
        .setR 31 (.ref (.nth (.r 26) (.r 28))),
        .setR 32 (.deref (.r 31)),
        .setR 13 (.r 30),
        .setR 14 (.r 32)])
      (.seq
       (.is [.setR 33 (.r 14),
         .setR 34 (.ci .lss (.r 33) (.con (.int 0))),
         .setR 35 (.r 34),
         .setR 36 (.r 14),
         .setR 37 (.r 1),
         .setR 38 (.llen (.r 37)),
         .setR 39 (.ci .geq (.r 36) (.r 38)),
         .setR 40 (.pick (.r 35) (.con (.bool true)) (.r 39)),
         .setR 41 (.r 40),
         .setR 42 (.r 13),
         .setR 43 (.ci .gtr (.r 42) (.con (.int 0))),
         .setR 44 (.r 43),
         .setR 45 (.r 3),
         .setR 46 (.r 13),
         .setR 47 (.ai .sub .i64 (.r 46) (.con (.int 1))),
         .chk (.imp [(44,true),(41,false)] (.idx (.r 45) (.r 47))),
         .setR 48 (.ref (.nth (.r 45) (.r 47))),
         .setR 49 (.deref (.r 48)),
         .setR 50 (.r 14),
         .setR 51 (.ci .geq (.r 49) (.r 50)),
         .setR 52 (.pick (.r 44) (.r 51) (.con (.bool false))),
         .setR 53 (.pick (.r 41) (.con (.bool true)) (.r 52))])
       (.ite (.r 53) [10,11] []
        (.seq
         (.is [.setR 10 (.con (.list [])),
          .setR 11 (.con (.int 4))])
         (.ret (.tup [(.r 10),(.r 11)])))
        .skip))))
    (.is [.setR 54 (.ai .add .i64 (.r 28) (.con (.int 1))),
      .setR 28 (.r 54)]))))
def auJ:PC:=.block 0 [10,11,28,29] [] (.loop [10,11,28] [] amr)
def ams:PC:=
 (.seq
  (.is [.setR 58 (.ci .lss (.r 57) (.r 56))])
  (.seq
   (.ite (.r 58) [] []
    .skip
    (.exit 2))
   (.seq
    (.block 3 [15,16,17,59,60,61,62,63,64,65] [17,15]
     (.seq
      (.is [.setR 59 (.r 57),
        .chk (.idx (.r 55) (.r 57)),
        .setR 60 (.ref (.nth (.r 55) (.r 57))),
        .setR 61 (.deref (.r 60)),
        .setO 17 (.con (.agg [(.int 0),(.int 0),(.int 0)])),
        .setR 17 (.con .none),
        .setR 16 (.r 59),
        .setO 17 (.setc (.o 17) 0 (.r 61))])
      (.seq
       (.is [.setR 62 (.r 3),
         .setR 63 (.r 16),
         .call [] 64 50 [(.r 62),(.r 63)],
         .setR 65 (.nt (.r 64))])
       (.ite (.r 65) [15] [15]
        (.is [.setR 66 (.r 15),
          .setR 67 (.mk [(.cell (.o 17) 0),(.cell (.o 17) 1),(.cell (.o 17) 2)]),
          .setO 68 (.lst [(.r 67)]),
          .setR 68 (.con .none),
          .chk (.ci .leq (.llen (.app (.o 15) (.o 68))) (.con (.int 4294967296))),
          .setO 15 (.app (.o 15) (.o 68)),
          .setR 69 (.con .none),
          .setR 15 (.r 69)])
        .skip))))
    (.is [.setR 70 (.ai .add .i64 (.r 57) (.con (.int 1))),
      .setR 57 (.r 70)]))))
def auK:PC:=.block 2 [15,57,58] [15] (.loop [15,57] [15] ams)
def TW:PC:=
 (.seq
  (.is [.setO 5 (.mk [(.r 0)]),
    .setR 5 (.con .none),
    .setR 10 (.con (.list [])),
    .setR 11 (.con (.int 0))])
  (.seq
   (.seq
    (.is [.setR 19 (ar 5 (.o 5)),
      .setR 20 (.r 1),
      .setR 21 (.r 2),
      .call [] 22 20 [(.r 19),(.r 20),(.r 21)],
      .setR 12 (.r 22)])
    (.seq
     (.is [.setR 23 (.r 12),
       .setR 24 (.ci .neq (.r 23) (.con (.int 0)))])
     (.ite (.r 24) [10,11] []
      (.seq
       (.is [.setR 25 (.r 12),
        .setR 10 (.con (.list [])),
        .setR 11 (.r 25)])
       (.ret (.tup [(.r 10),(.r 11)])))
      .skip)))
   (.seq
    (.seq
     (.is [.setR 26 (.r 3),
       .setR 27 (.llen (.r 26)),
       .setR 28 (.con (.int 0))])
     auJ)
    (.seq
     (.is [.setO 15 (.con (.list [])),
       .setR 15 (.con .none)])
     (.seq
      (.seq
       (.is [.setR 55 (.r 1),
        .setR 56 (.llen (.r 55)),
        .setR 57 (.con (.int 0))])
       auK)
      (.seq
       (.is [.setR 71 (.r 15),
        .setR 72 (.r 4),
        .chk (.ci .leq (.llen (.app (.o 15) (.r 72))) (.con (.int 4294967296))),
        .setO 15 (.app (.o 15) (.r 72)),
        .setR 73 (.con .none),
        .setR 15 (.r 73)])
       (.seq
        (.seq
         (.is [.setR 74 (ar 5 (.o 5)),
          .setR 75 (.r 15),
          .setR 76 (.r 2),
          .call [] 77 20 [(.r 74),(.o 15),(.r 76)],
          .setR 18 (.r 77)])
         (.seq
          (.is [.setR 78 (.r 18),
            .setR 79 (.ci .neq (.r 78) (.con (.int 0)))])
          (.ite (.r 79) [10,11] []
           (.seq
            (.is [.setR 80 (.r 18),
             .setR 10 (.con (.list [])),
             .setR 11 (.r 80)])
            (.ret (.tup [(.r 10),(.r 11)])))
           .skip)))
        (.seq
         (.seq
          (.is [.setR 81 (ar 5 (.o 5)),
            .setR 82 (.r 15),
            .setR 83 (.r 2),
            .call [] 84 46 [(.r 81),(.o 15),(.r 83)],
            .setR 85 (.con .none),
            .setR 86 (.cell (.o 5) 0),
            .setR 87 (.ci .lss (.r 84) (.r 86))])
          (.ite (.r 87) [10,11] []
           (.seq
            (.is [.setR 10 (.con (.list [])),
             .setR 11 (.con (.int 7))])
            (.ret (.tup [(.r 10),(.r 11)])))
           .skip))
         (.seq
          (.is [.setR 88 (.r 15),
            .setR 10 (.o 15),
            .setR 11 (.con (.int 0))])
          (.ret (.tup [(.r 10),(.r 11)])))))))))))
def awu:yu=some TW:=by kernel_rfl
def awR:tab 18=some TW:=by rw[alZ,<-awu,<-(ak yu ahy)]
def amt:PC:=
 (.seq
  (.is [.setR 26 (.ci .lss (.r 25) (.r 24))])
  (.seq
   (.ite (.r 26) [] []
    .skip
    (.exit 0))
   (.seq
    (.block 1 [9,11,27,28,29,30,31,32,33,37] [11,9]
     (.seq
      (.is [.chk (.idx (.r 23) (.r 25)),
        .setR 27 (.ref (.nth (.r 23) (.r 25))),
        .setR 28 (.deref (.r 27)),
        .setO 11 (.con (.agg [(.int 0),(.int 0),(.int 0)])),
        .setR 11 (.con .none),
        .setO 11 (.setc (.o 11) 0 (.r 28))])
      (.seq
       (.is [.setR 29 (.con .none),
         .setR 30 (.cell (.o 11) 1),
         .setR 31 (.r 2),
         .setR 32 (.ci .geq (.r 30) (.r 31)),
         .setR 33 (.r 32),
         .setR 34 (.con .none),
         .setR 35 (.cell (.o 11) 1),
         .setR 36 (.ci .lss (.r 35) (.con (.int 100000))),
         .setR 37 (.pick (.r 33) (.r 36) (.con (.bool false)))])
       (.ite (.r 37) [9] [9]
        (.is [.setR 38 (.r 9),
          .setR 39 (.con .none),
          .setR 40 (.cell (.o 11) 1),
          .setR 41 (.ai .add .i64 (.r 40) (.con (.int 1))),
          .setO 42 (.lst [(.r 41)]),
          .setR 42 (.con .none),
          .chk (.ci .leq (.llen (.app (.o 9) (.o 42))) (.con (.int 4294967296))),
          .setO 9 (.app (.o 9) (.o 42)),
          .setR 43 (.con .none),
          .setR 9 (.r 43)])
        .skip))))
    (.is [.setR 44 (.ai .add .i64 (.r 25) (.con (.int 1))),
      .setR 25 (.r 44)]))))
def auL:PC:=.block 0 [9,25,26] [9] (.loop [9,25] [9] amt)
def amu:PC:=
 (.seq
  (.is [.setR 50 (.ci .lss (.r 49) (.r 48))])
  (.seq
   (.ite (.r 50) [] []
    .skip
    (.exit 2))
   (.seq
    (.block 3 [6,7,13,51,52,53,54,55,56,57,58,59] []
     (.seq
      (.is [.chk (.idx (.o 9) (.r 49)),
        .setR 51 (.r 49),
        .setR 52 (.nth (.o 9) (.r 51)),
        .setR 13 (.r 52)])
      (.seq
       (.is [.setR 53 (ar 5 (.o 3)),
         .setR 54 (.r 1),
         .setR 55 (.r 13),
         .call [] 56 46 [(.r 53),(.r 54),(.r 55)],
         .setR 57 (.con .none),
         .setR 58 (.cell (.o 3) 0),
         .setR 59 (.ci .lss (.r 56) (.r 58))])
       (.ite (.r 59) [6,7] []
        (.seq
         (.is [.setR 60 (.r 13),
          .setR 6 (.r 60),
          .setR 7 (.con (.int 0))])
         (.ret (.tup [(.r 6),(.r 7)])))
        .skip))))
    (.is [.setR 61 (.ai .add .i64 (.r 49) (.con (.int 1))),
      .setR 49 (.r 61)]))))
def auM:PC:=.block 2 [6,7,49,50] [] (.loop [6,7,49] [] amu)
def TX:PC:=
 (.seq
  (.is [.setO 3 (.mk [(.r 0)]),
    .setR 3 (.con .none),
    .setR 6 (.con (.int 0)),
    .setR 7 (.con (.int 0))])
  (.seq
   (.seq
    (.is [.setR 14 (ar 5 (.o 3)),
      .setR 15 (.r 1),
      .setR 16 (.r 2),
      .call [] 17 20 [(.r 14),(.r 15),(.r 16)],
      .setR 8 (.r 17)])
    (.seq
     (.is [.setR 18 (.r 8),
       .setR 19 (.ci .neq (.r 18) (.con (.int 0)))])
     (.ite (.r 19) [6,7] []
      (.seq
       (.is [.setR 20 (.r 8),
        .setR 6 (.con (.int 0)),
        .setR 7 (.r 20)])
       (.ret (.tup [(.r 6),(.r 7)])))
      .skip)))
   (.seq
    (.is [.setR 21 (.r 2),
      .setO 22 (.lst [(.r 21)]),
      .setR 22 (.con .none),
      .setR 9 (.r 22),
      .setO 9 (.o 22)])
    (.seq
     (.seq
      (.is [.setR 23 (.r 1),
        .setR 24 (.llen (.r 23)),
        .setR 25 (.con (.int 0))])
      auL)
     (.seq
      (.is [.setR 45 (.r 9),
        .mcall 1000000013 49 [(.con .none),(.o 9)],
        .setO 9 (.tget (.o 1000000013) 1),
        .setR 46 (.tget (.o 1000000013) 0)])
      (.seq
       (.seq
        (.is [.setR 47 (.r 9),
          .setR 48 (.llen (.o 9)),
          .setR 49 (.con (.int 0))])
        auM)
       (.seq
        (.is [.setR 6 (.con (.int (-1))),
          .setR 7 (.con (.int 0))])
        (.ret (.tup [(.r 6),(.r 7)])))))))))
def awv:yw=some TX:=by kernel_rfl
def awS:tab 19=some TX:=by rw[al0,<-awv,<-(ak yw ahz)]
def TY:PC:=
 (.seq
  (.is [.setO 3 (.mk [(.r 0)]),
    .setR 3 (.con .none),
    .setR 6 (.con (.int 0))])
  (.seq
   (.seq
    (.is [.setR 7 (.r 1),
      .setR 8 (.llen (.r 7)),
      .setR 9 (.ci .gtr (.r 8) (.con (.int 50)))])
    (.ite (.r 9) [6] []
     (.seq
      (.is [.setR 6 (.con (.int 6))])
      (.ret (.r 6)))
     .skip))
   (.seq
    (.seq
     (.is [.setR 10 (ar 5 (.o 3)),
       .call [] 11 51 [(.r 10)],
       .setR 12 (.nt (.r 11)),
       .setR 13 (.r 12),
       .setR 14 (.r 2),
       .call [(13,false)] 15 52 [(.r 14),(.con (.int 100000))],
       .setR 16 (.nt (.r 15)),
       .setR 17 (.pick (.r 13) (.con (.bool true)) (.r 16)),
       .setR 18 (.r 17),
       .setR 19 (.r 1),
       .call [(18,false)] 20 53 [(.r 19),(.con (.clo 54 []))],
       .setR 21 (.pick (.r 18) (.con (.bool true)) (.r 20))])
     (.ite (.r 21) [6] []
      (.seq
       (.is [.setR 6 (.con (.int 1))])
       (.ret (.r 6)))
      .skip))
    (.seq
     (.is [.setR 6 (.con (.int 0))])
     (.ret (.r 6))))))
def aww:yq=some TY:=by kernel_rfl
def awU:tab 20=some TY:=by rw[abO,<-aww,<-(ak yq UO)]
def TQ:PC:=
 (.seq
  (.is [.setO 3 (.mk [(.r 0)]),
    .setR 3 (.con .none),
    .setO 4 (.mk [(.r 1)]),
    .setR 4 (.con .none),
    .setR 6 (.con (.int 0))])
  (.seq
   (.seq
    (.is [.setR 7 (ar 5 (.o 3)),
      .setR 8 (.mk [(.cell (.o 4) 0),(.cell (.o 4) 1),(.cell (.o 4) 2)]),
      .setO 9 (.lst [(.r 8)]),
      .setR 9 (.con .none),
      .setR 10 (.r 2),
      .call [] 11 20 [(.r 7),(.o 9),(.r 10)],
      .setR 12 (.ci .neq (.r 11) (.con (.int 0))),
      .setR 13 (.r 12),
      .setR 14 (.con .none),
      .setR 15 (.cell (.o 4) 0),
      .setR 16 (.con .none),
      .setR 17 (.cell (.o 3) 4),
      .setR 18 (.ci .lss (.r 15) (.r 17)),
      .setR 19 (.pick (.r 13) (.con (.bool true)) (.r 18)),
      .setR 20 (.r 19),
      .setR 21 (.con .none),
      .setR 22 (.cell (.o 4) 2),
      .setR 23 (.con .none),
      .setR 24 (.cell (.o 3) 3),
      .setR 25 (.ci .lss (.r 22) (.r 24)),
      .setR 26 (.pick (.r 20) (.con (.bool true)) (.r 25)),
      .setR 27 (.r 26),
      .setR 28 (.con .none),
      .setR 29 (.cell (.o 4) 1),
      .setR 30 (.r 2),
      .setR 31 (.ci .lss (.r 29) (.r 30)),
      .setR 32 (.pick (.r 27) (.con (.bool true)) (.r 31)),
      .setR 33 (.r 32),
      .setR 34 (.con .none),
      .setR 35 (.cell (.o 4) 1),
      .setR 36 (.r 2),
      .setR 37 (.con .none),
      .setR 38 (.cell (.o 3) 2),
      .setR 39 (.ai .add .i64 (.r 36) (.r 38)),
      .setR 40 (.ci .gtr (.r 35) (.r 39)),
      .setR 41 (.pick (.r 33) (.con (.bool true)) (.r 40))])
    (.ite (.r 41) [6] []
     (.seq
      (.is [.setR 6 (.con (.int 0))])
      (.ret (.r 6)))
     .skip))
   (.seq
    (.is [.setR 42 (.con .none),
      .setR 43 (.cell (.o 4) 0),
      .setR 44 (.con .none),
      .setR 45 (.cell (.o 3) 1),
      .setR 46 (.ai .sub .i64 (.con (.int 1000)) (.r 45)),
      .setR 47 (.ai .mul .i64 (.r 43) (.r 46)),
      .chk (.ci .neq (.con (.int 1000)) (.con (.int 0))),
      .setR 48 (.ai .quo .i64 (.r 47) (.con (.int 1000))),
      .setR 6 (.r 48)])
    (.ret (.r 6)))))
def awp:yx=some TQ:=by kernel_rfl
def awM:tab 13=some TQ:=by rw[abQ,<-awp,<-(ak yx UQ)]
def amw:PC:=
 (.seq
  (.is [.setR 13 (.ci .lss (.r 12) (.r 11))])
  (.seq
   (.ite (.r 13) [] []
    .skip
    (.exit 0))
   (.seq
    (.block 1 [7,9,14,15,16,17,18,19,20,21] [9]
     (.seq
      (.is [.chk (.idx (.r 10) (.r 12)),
        .setR 14 (.ref (.nth (.r 10) (.r 12))),
        .setR 15 (.deref (.r 14)),
        .setO 9 (.con (.agg [(.int 0),(.int 0),(.int 0)])),
        .setR 9 (.con .none),
        .setO 9 (.setc (.o 9) 0 (.r 15))])
      (.is [.setR 16 (.r 7),
        .setR 17 (ar 5 (.o 3)),
        .setR 18 (.mk [(.cell (.o 9) 0),(.cell (.o 9) 1),(.cell (.o 9) 2)]),
        .setR 19 (.r 2),
        .call [] 20 13 [(.r 17),(.r 18),(.r 19)],
        .setR 21 (.ai .add .i64 (.r 16) (.r 20)),
        .setR 7 (.r 21)])))
    (.is [.setR 22 (.ai .add .i64 (.r 12) (.con (.int 1))),
      .setR 12 (.r 22)]))))
def auO:PC:=.block 0 [7,12,13] [] (.loop [7,12] [] amw)
def T3:PC:=
 (.seq
  (.is [.setO 3 (.mk [(.r 0)]),
    .setR 3 (.con .none),
    .setR 6 (.con (.int 0))])
  (.seq
   (.is [.setR 7 (.con (.int 0))])
   (.seq
    (.seq
     (.is [.setR 10 (.r 1),
       .setR 11 (.llen (.r 10)),
       .setR 12 (.con (.int 0))])
     auO)
    (.seq
     (.is [.setR 23 (.r 7),
       .setR 6 (.r 23)])
     (.ret (.r 6))))))
def awz:yy=some T3:=by kernel_rfl
def awX:tab 46=some T3:=by rw[al3,<-awz,<-(ak yy ahA)]
def T4:PC:=
 (.seq
  (.is [.setO 0 (.r 2)])
  (.seq
   (.is [.setR 4 (.r 0),
     .setR 5 (.r 0),
     .setR 6 (.llen (.o 0)),
     .setR 7 (.r 1),
     .mcall 1000000013 87 [(.con .none),(.r 6),(.r 7),(.o 0)],
     .setO 0 (.tget (.o 1000000013) 1),
     .setR 8 (.tget (.o 1000000013) 0)])
   (.ret (.tup [(.tup []),(.o 0)]))))
def awA:B8=some T4:=by kernel_rfl
def awY:tab 47=some T4:=by rw[al5,<-awA,<-(ak B8 ah2)]
def T5:PC:=
 (.seq
  (.is [.setR 7 (.con (.int 0))])
  (.seq
   (.is [.setR 8 (.deref (.r 2)),
     .setR 9 (.deref (.r 3)),
     .setR 10 (.r 0),
     .chk (.idx (.r 9) (.r 10)),
     .setR 11 (.ref (.nth (.r 9) (.r 10))),
     .setR 12 (.deref (.r 11)),
     .setR 13 (.deref (.r 4)),
     .call [] 14 13 [(.r 8),(.r 12),(.r 13)],
     .setR 15 (.deref (.r 2)),
     .setR 16 (.deref (.r 3)),
     .setR 17 (.r 1),
     .chk (.idx (.r 16) (.r 17)),
     .setR 18 (.ref (.nth (.r 16) (.r 17))),
     .setR 19 (.deref (.r 18)),
     .setR 20 (.deref (.r 4)),
     .call [] 21 13 [(.r 15),(.r 19),(.r 20)],
     .setR 22 (.ai .sub .i64 (.r 14) (.r 21)),
     .setR 7 (.r 22)])
   (.ret (.r 7))))
def awB:Bv=some T5:=by kernel_rfl
def awZ:tab 48=some T5:=by rw[alY,<-awB,<-(ak Bv ahx)]
def T6:PC:=
 (.seq
  (.is [.setR 4 (.con (.bool false))])
  (.seq
   (.is [.setR 5 (.r 0),
     .setR 6 (.r 1),
     .call [] 7 90 [(.r 5),(.r 6)],
     .setR 8 (.ci .geq (.r 7) (.con (.int 0))),
     .setR 4 (.r 8)])
   (.ret (.r 4))))
def awC:yG=some T6:=by kernel_rfl
def aw0:tab 50=some T6:=by rw[abX,<-awC,<-(ak yG Vf)]
def T7:PC:=
 (.seq
  (.is [.setO 1 (.mk [(.r 0)]),
    .setR 1 (.con .none),
    .setR 2 (.con (.bool false))])
  (.seq
   (.is [.setR 3 (.con .none),
     .setR 4 (.cell (.o 1) 0),
     .call [] 5 52 [(.r 4),(.con (.int 1099511627776))],
     .setR 6 (.r 5),
     .setR 7 (.con .none),
     .setR 8 (.cell (.o 1) 4),
     .call [(6,true)] 9 52 [(.r 8),(.con (.int 1099511627776))],
     .setR 10 (.pick (.r 6) (.r 9) (.con (.bool false))),
     .setR 11 (.r 10),
     .setR 12 (.con .none),
     .setR 13 (.cell (.o 1) 1),
     .call [(11,true)] 14 52 [(.r 13),(.con (.int 1000))],
     .setR 15 (.pick (.r 11) (.r 14) (.con (.bool false))),
     .setR 16 (.r 15),
     .setR 17 (.con .none),
     .setR 18 (.cell (.o 1) 2),
     .call [(16,true)] 19 52 [(.r 18),(.con (.int 20000))],
     .setR 20 (.pick (.r 16) (.r 19) (.con (.bool false))),
     .setR 21 (.r 20),
     .setR 22 (.con .none),
     .setR 23 (.cell (.o 1) 3),
     .call [(21,true)] 24 52 [(.r 23),(.con (.int 40))],
     .setR 25 (.pick (.r 21) (.r 24) (.con (.bool false))),
     .setR 2 (.r 25)])
   (.ret (.r 2))))
def awD:yA=some T7:=by kernel_rfl
def aw1:tab 51=some T7:=by rw[abS,<-awD,<-(ak yA US)]
def T8:PC:=
 (.seq
  (.is [.setR 4 (.con (.bool false))])
  (.seq
   (.is [.setR 5 (.r 0),
     .setR 6 (.ci .geq (.r 5) (.con (.int 0))),
     .setR 7 (.r 6),
     .setR 8 (.r 0),
     .setR 9 (.r 1),
     .setR 10 (.ci .leq (.r 8) (.r 9)),
     .setR 11 (.pick (.r 7) (.r 10) (.con (.bool false))),
     .setR 4 (.r 11)])
   (.ret (.r 4))))
def awE:yB=some T8:=by kernel_rfl
def aw2:tab 52=some T8:=by rw[abT,<-awE,<-(ak yB UT)]
def T9:PC:=
 (.seq
  (.is [.setR 4 (.con (.bool false))])
  (.seq
   (.is [.setR 5 (.r 0),
     .setR 6 (.r 1),
     .call [] 7 91 [(.r 5),(.r 6)],
     .setR 8 (.ci .geq (.r 7) (.con (.int 0))),
     .setR 4 (.r 8)])
   (.ret (.r 4))))
def awF:yF=some T9:=by kernel_rfl
def aw3:tab 53=some T9:=by rw[abW,<-awF,<-(ak yF Ve)]
def Ua:PC:=
 (.seq
  (.is [.setO 1 (.mk [(.r 0)]),
    .setR 1 (.con .none),
    .setR 2 (.con (.bool false))])
  (.seq
   (.is [.setR 3 (.mk [(.cell (.o 1) 0),(.cell (.o 1) 1),(.cell (.o 1) 2)]),
     .call [] 4 55 [(.r 3)],
     .setR 5 (.nt (.r 4)),
     .setR 2 (.r 5)])
   (.ret (.r 2))))
def awG:yr=some Ua:=by kernel_rfl
def aw4:tab 54=some Ua:=by rw[abP,<-awG,<-(ak yr UP)]
def Ub:PC:=
 (.seq
  (.is [.setO 1 (.mk [(.r 0)]),
    .setR 1 (.con .none),
    .setR 2 (.con (.bool false))])
  (.seq
   (.is [.setR 3 (.con .none),
     .setR 4 (.cell (.o 1) 0),
     .call [] 5 52 [(.r 4),(.con (.int 1099511627776))],
     .setR 6 (.r 5),
     .setR 7 (.con .none),
     .setR 8 (.cell (.o 1) 1),
     .call [(6,true)] 9 52 [(.r 8),(.con (.int 100000))],
     .setR 10 (.pick (.r 6) (.r 9) (.con (.bool false))),
     .setR 11 (.r 10),
     .setR 12 (.con .none),
     .setR 13 (.cell (.o 1) 2),
     .call [(11,true)] 14 52 [(.r 13),(.con (.int 40))],
     .setR 15 (.pick (.r 11) (.r 14) (.con (.bool false))),
     .setR 2 (.r 15)])
   (.ret (.r 2))))
def awH:yz=some Ub:=by kernel_rfl
def aw5:tab 55=some Ub:=by rw[abR,<-awH,<-(ak yz UR)]
def amx:PC:=
 (.seq
  (.seq
   (.is [.setR 11 (.r 8),
     .setR 12 (.r 1),
     .setR 13 (.ci .leq (.r 11) (.r 12))])
   (.ite (.r 13) [] []
    .skip
    (.exit 0)))
  (.block 1 [7,8,14,15,16,17,18,19,20,21,22] [0]
   (.seq
    (.is [.setR 14 (.r 0),
      .setR 15 (.r 7),
      .setR 16 (.r 8),
      .setR 17 (.r 2),
      .mcall 1000000013 127 [(.con .none),(.r 15),(.r 16),(.r 17),(.o 0)],
      .setO 0 (.tget (.o 1000000013) 1),
      .setR 18 (.tget (.o 1000000013) 0)])
    (.seq
     (.is [.setR 19 (.r 8),
       .setR 7 (.r 19)])
     (.is [.setR 20 (.r 8),
       .setR 21 (.r 6),
       .setR 22 (.ai .add .i64 (.r 20) (.r 21)),
       .setR 8 (.r 22)])))))
def auP:PC:=.block 0 [7,8,11,12,13] [0] (.loop [7,8] [0] amx)
def amy:PC:=
 (.seq
  (.seq
   (.is [.setR 33 (.r 8),
     .setR 34 (.r 1),
     .setR 35 (.ci .leq (.r 33) (.r 34))])
   (.ite (.r 35) [] []
    .skip
    (.exit 4)))
  (.block 5 [7,8,36,37,38,39,40,41,42,43,44,45,46,47,48] [0]
   (.seq
    (.is [.setR 36 (.r 0),
      .setR 37 (.r 7),
      .setR 38 (.r 7),
      .setR 39 (.r 6),
      .setR 40 (.ai .add .i64 (.r 38) (.r 39)),
      .setR 41 (.r 8),
      .setR 42 (.r 2),
      .mcall 1000000013 128 [(.con .none),(.r 37),(.r 40),(.r 41),(.r 42),(.o 0)],
      .setO 0 (.tget (.o 1000000013) 1),
      .setR 43 (.tget (.o 1000000013) 0)])
    (.seq
     (.is [.setR 44 (.r 8),
       .setR 7 (.r 44)])
     (.is [.setR 45 (.r 8),
       .setR 46 (.r 6),
       .setR 47 (.ai .mul .i64 (.con (.int 2)) (.r 46)),
       .setR 48 (.ai .add .i64 (.r 45) (.r 47)),
       .setR 8 (.r 48)])))))
def auQ:PC:=.block 4 [7,8,33,34,35] [0] (.loop [7,8] [0] amy)
def amz:PC:=
 (.seq
  (.seq
   (.is [.setR 28 (.r 6),
     .setR 29 (.r 1),
     .setR 30 (.ci .lss (.r 28) (.r 29))])
   (.ite (.r 30) [] []
    .skip
    (.exit 2)))
  (.block 3 [6,7,8,9,31,32,33,34,35,49,50,51,52,53,54,61,62] [0]
   (.seq
    (.is [.setR 31 (.r 6),
      .setR 32 (.ai .mul .i64 (.con (.int 2)) (.r 31)),
      .setR 7 (.con (.int 0)),
      .setR 8 (.r 32)])
    (.seq
     auQ
     (.seq
      (.seq
       (.is [.setR 49 (.r 7),
         .setR 50 (.r 6),
         .setR 51 (.ai .add .i64 (.r 49) (.r 50)),
         .setR 9 (.r 51)])
       (.seq
        (.is [.setR 52 (.r 9),
          .setR 53 (.r 1),
          .setR 54 (.ci .lss (.r 52) (.r 53))])
        (.ite (.r 54) [] [0]
         (.is [.setR 55 (.r 0),
          .setR 56 (.r 7),
          .setR 57 (.r 9),
          .setR 58 (.r 1),
          .setR 59 (.r 2),
          .mcall 1000000013 128 [(.con .none),(.r 56),(.r 57),(.r 58),(.r 59),(.o 0)],
          .setO 0 (.tget (.o 1000000013) 1),
          .setR 60 (.tget (.o 1000000013) 0)])
         .skip)))
      (.is [.setR 61 (.r 6),
        .setR 62 (.ai .mul .i64 (.r 61) (.con (.int 2))),
        .setR 6 (.r 62)]))))))
def auR:PC:=.block 2 [6,7,8,28,29,30] [0] (.loop [6,7,8] [0] amz)
def Uc:PC:=
 (.seq
  (.is [.setO 0 (.r 3)])
  (.seq
   (.seq
    (.is [.setR 6 (.con (.int 20))])
    (.seq
     (.is [.setR 10 (.r 6),
       .setR 7 (.con (.int 0)),
       .setR 8 (.r 10)])
     (.seq
      auP
      (.seq
       (.is [.setR 23 (.r 0),
        .setR 24 (.r 7),
        .setR 25 (.r 1),
        .setR 26 (.r 2),
        .mcall 1000000013 127 [(.con .none),(.r 24),(.r 25),(.r 26),(.o 0)],
        .setO 0 (.tget (.o 1000000013) 1),
        .setR 27 (.tget (.o 1000000013) 0)])
       auR))))
   (.ret (.tup [(.tup []),(.o 0)]))))
def awI:yI=some Uc:=by kernel_rfl
def aw6:tab 87=some Uc:=by rw[al7,<-awI,<-(ak yI ah4)]
def amA:PC:=
 (.seq
  (.is [.setR 9 (.ci .lss (.r 8) (.r 7))])
  (.seq
   (.ite (.r 9) [] []
    .skip
    (.exit 0))
   (.seq
    (.block 1 [4,5,10,11,12,13,14,15,16] []
     (.seq
      (.is [.setR 10 (.r 8),
        .setR 5 (.r 10)])
      (.seq
       (.is [.setR 11 (.r 1),
         .setR 12 (.r 0),
         .setR 13 (.r 5),
         .chk (.idx (.r 12) (.r 13)),
         .setR 14 (.ref (.nth (.r 12) (.r 13))),
         .setR 15 (.deref (.r 14)),
         .setR 16 (.ci .eql (.r 11) (.r 15))])
       (.ite (.r 16) [4] []
        (.seq
         (.is [.setR 17 (.r 5),
          .setR 4 (.r 17)])
         (.ret (.r 4)))
        .skip))))
    (.is [.setR 18 (.ai .add .i64 (.r 8) (.con (.int 1))),
      .setR 8 (.r 18)]))))
def auS:PC:=.block 0 [4,8,9] [] (.loop [4,8] [] amA)
def Ud:PC:=
 (.seq
  (.is [.setR 4 (.con (.int 0))])
  (.seq
   (.seq
    (.is [.setR 6 (.r 0),
      .setR 7 (.llen (.r 6)),
      .setR 8 (.con (.int 0))])
    auS)
   (.seq
    (.is [.setR 4 (.con (.int (-1)))])
    (.ret (.r 4)))))
def awJ:uA=some Ud:=by kernel_rfl
def aw7:tab 90=some Ud:=by rw[abZ,<-awJ,<-(ak uA Nh)]
def amB:PC:=
 (.seq
  (.is [.setR 9 (.ci .lss (.r 8) (.r 7))])
  (.seq
   (.ite (.r 9) [] []
    .skip
    (.exit 0))
   (.seq
    (.block 1 [4,5,10,11,12,13,14,15,16] []
     (.seq
      (.is [.setR 10 (.r 8),
        .setR 5 (.r 10)])
      (.seq
       (.is [.setR 11 (.r 1),
         .setR 12 (.r 0),
         .setR 13 (.r 5),
         .chk (.idx (.r 12) (.r 13)),
         .setR 14 (.ref (.nth (.r 12) (.r 13))),
         .setR 15 (.deref (.r 14)),
         .callc [] 16 (.r 11) [(.r 15)]])
       (.ite (.r 16) [4] []
        (.seq
         (.is [.setR 17 (.r 5),
          .setR 4 (.r 17)])
         (.ret (.r 4)))
        .skip))))
    (.is [.setR 18 (.ai .add .i64 (.r 8) (.con (.int 1))),
      .setR 8 (.r 18)]))))
def auT:PC:=.block 0 [4,8,9] [] (.loop [4,8] [] amB)
def Ue:PC:=
 (.seq
  (.is [.setR 4 (.con (.int 0))])
  (.seq
   (.seq
    (.is [.setR 6 (.r 0),
      .setR 7 (.llen (.r 6)),
      .setR 8 (.con (.int 0))])
    auT)
   (.seq
    (.is [.setR 4 (.con (.int (-1)))])
    (.ret (.r 4)))))
def awK:uz=some Ue:=by kernel_rfl
def aw8:tab 91=some Ue:=by rw[abY,<-awK,<-(ak uz Ng)]
def amn:PC:=
 (.seq
  (.seq
   (.is [.setR 18 (.r 9),
     .setR 19 (.r 1),
     .setR 20 (.ci .gtr (.r 18) (.r 19)),
     .setR 21 (.r 20),
     .setR 22 (.r 3),
     .setR 23 (.r 0),
     .setR 24 (.r 9),
     .chk (.imp [(21,true)] (.idx (.o 0) (.r 24))),
     .setR 25 (.r 24),
     .setR 26 (.nth (.o 0) (.r 25)),
     .setR 27 (.r 0),
     .setR 28 (.r 9),
     .setR 29 (.ai .sub .i64 (.r 28) (.con (.int 1))),
     .chk (.imp [(21,true)] (.idx (.o 0) (.r 29))),
     .setR 30 (.r 29),
     .setR 31 (.nth (.o 0) (.r 30)),
     .callc [(21,true)] 32 (.r 22) [(.r 26),(.r 31)],
     .setR 33 (.ci .lss (.r 32) (.con (.int 0))),
     .setR 34 (.pick (.r 21) (.r 33) (.con (.bool false)))])
   (.ite (.r 34) [] []
    .skip
    (.exit 2)))
  (.seq
   (.block 3 [37,38,39,40,41,42,43,44,45,46,47,48,49,50,51,52] [0]
    (.is [.setR 37 (.r 0),
      .setR 38 (.r 9),
      .setR 39 (.r 0),
      .setR 40 (.r 9),
      .setR 41 (.ai .sub .i64 (.r 40) (.con (.int 1))),
      .setR 42 (.r 0),
      .setR 43 (.r 9),
      .setR 44 (.ai .sub .i64 (.r 43) (.con (.int 1))),
      .chk (.idx (.o 0) (.r 44)),
      .setR 45 (.r 44),
      .setR 46 (.nth (.o 0) (.r 45)),
      .setR 47 (.r 0),
      .setR 48 (.r 9),
      .chk (.idx (.o 0) (.r 48)),
      .setR 49 (.r 48),
      .setR 50 (.nth (.o 0) (.r 49)),
      .chk (.idx (.o 0) (.r 38)),
      .setR 51 (.r 38),
      .setO 0 (.setn (.o 0) (.r 51) 0 (.r 46)),
      .chk (.idx (.o 0) (.r 41)),
      .setR 52 (.r 41),
      .setO 0 (.setn (.o 0) (.r 52) 0 (.r 50))]))
   (.is [.setR 35 (.r 9),
     .setR 36 (.ai .sub .i64 (.r 35) (.con (.int 1))),
     .setR 9 (.r 36)])))
def auF:PC:=.block 2 [9,18,19,20,21,34] [0] (.loop [9] [0] amn)
def amo:PC:=
 (.seq
  (.seq
   (.is [.setR 12 (.r 8),
     .setR 13 (.r 2),
     .setR 14 (.ci .lss (.r 12) (.r 13))])
   (.ite (.r 14) [] []
    .skip
    (.exit 0)))
  (.seq
   (.block 1 [9,17,18,19,20,21,34] [0]
    (.seq
     (.is [.setR 17 (.r 8),
       .setR 9 (.r 17)])
     auF))
   (.is [.setR 15 (.r 8),
     .setR 16 (.ai .add .i64 (.r 15) (.con (.int 1))),
     .setR 8 (.r 16)])))
def auG:PC:=.block 0 [8,12,13,14] [0] (.loop [8] [0] amo)
def TP:PC:=
 (.seq
  (.is [.setO 0 (.r 4)])
  (.seq
   (.seq
    (.is [.setR 10 (.r 1),
      .setR 11 (.ai .add .i64 (.r 10) (.con (.int 1))),
      .setR 8 (.r 11)])
    auG)
   (.ret (.tup [(.tup []),(.o 0)]))))
def awo:yH=some TP:=by kernel_rfl
def awL:tab 127=some TP:=by rw[al6,<-awo,<-(ak yH ah3)]
def amv:PC:=
 (.seq
  (.seq
   (.is [.setR 11 (.r 5),
     .setR 12 (.r 0),
     .setR 13 (.llen (.r 12)),
     .setR 14 (.ci .lss (.r 11) (.r 13))])
   (.ite (.r 14) [] []
    .skip
    (.exit 0)))
  (.seq
   (.block 1 [4,17,18,19,20,21,22,23,24,25] []
    (.seq
     (.is [.setR 17 (.r 0),
       .setR 18 (.r 5),
       .chk (.idx (.r 17) (.r 18)),
       .setR 19 (.ref (.nth (.r 17) (.r 18))),
       .setR 20 (.deref (.r 19)),
       .setR 21 (.r 1),
       .setR 22 (.r 5),
       .chk (.idx (.r 21) (.r 22)),
       .setR 23 (.ref (.nth (.r 21) (.r 22))),
       .setR 24 (.deref (.r 23)),
       .setR 25 (.ci .neq (.r 20) (.r 24))])
     (.ite (.r 25) [4] []
      (.seq
       (.is [.setR 4 (.con (.bool false))])
       (.ret (.r 4)))
      .skip)))
   (.is [.setR 15 (.r 5),
     .setR 16 (.ai .add .i64 (.r 15) (.con (.int 1))),
     .setR 5 (.r 16)])))
def auN:PC:=.block 0 [4,5,11,12,13,14] [] (.loop [4,5] [] amv)
def TZ:PC:=
 (.seq
  (.is [.setR 4 (.con (.bool false))])
  (.seq
   (.seq
    (.is [.setR 6 (.r 0),
      .setR 7 (.llen (.r 6)),
      .setR 8 (.r 1),
      .setR 9 (.llen (.r 8)),
      .setR 10 (.ci .neq (.r 7) (.r 9))])
    (.ite (.r 10) [4] []
     (.seq
      (.is [.setR 4 (.con (.bool false))])
      (.ret (.r 4)))
     .skip))
   (.seq
    (.seq
     (.is [.setR 5 (.con (.int 0))])
     auN)
    (.seq
     (.is [.setR 4 (.con (.bool true))])
     (.ret (.r 4))))))
def awx:yC=some TZ:=by kernel_rfl
def awV:tab 21=some TZ:=by rw[al4,<-awx,<-(ak yC ahN)]
def evL:List (Nat×PC):=[(4,T2),(14,TR),(15,TS),(16,TU),(17,TV),(18,TW),(19,TX),(20,TY),(13,TQ),(46,T3),(47,T4),(48,T5),(50,T6),(51,T7),(52,T8),(53,T9),(54,Ua),(55,Ub),(87,Uc),(90,Ud),(91,Ue),(127,TP),(21,TZ)]
def Rq:Nat->Option PC:=bI evL
def ao2:∀f pc,Rq f=some pc->tab f=some pc/\ext f=none:=
 GU (R:=λf pc=>tab f=some pc/\ext f=none) (l:=evL) ⟨⟨lt4,rfl⟩,⟨awN,rfl⟩,⟨awO,rfl⟩,⟨awP,rfl⟩,⟨awQ,rfl⟩,⟨awR,rfl⟩,⟨awS,rfl⟩,⟨awU,rfl⟩,⟨awM,rfl⟩,⟨awX,rfl⟩,⟨awY,rfl⟩,⟨awZ,rfl⟩,⟨aw0,rfl⟩,⟨aw1,rfl⟩,⟨aw2,rfl⟩,⟨aw3,rfl⟩,⟨aw4,rfl⟩,⟨aw5,rfl⟩,⟨aw6,rfl⟩,⟨aw7,rfl⟩,⟨aw8,rfl⟩,⟨awL,rfl⟩,⟨awV,rfl⟩,trivial⟩
def Ln:Nat->Option (aO->List D->Option D):=λf=>bif Nat.beq f 228 then some (λ_ ds=>FD ds) else bif Nat.beq f 49 then some (λ_ ds=>D5 ds) else none
def ac5:∀n,Le (cP Rq Ln n) (cP tab ext n)
 |0=>λf ds d h=>by simp[cP] at h
 |n+1=>by
  have ih:=ac5 n;intro f ds d h;unfold cP at h ⊢;cases hf:Nat.beq f 228 with
  |true=>
   obtain rfl:=df hf;exact h
  |false=>
   cases hs:Nat.beq f 49 with
   |true=>
    obtain rfl:=df hs;exact h
   |false=>
   have hx:Ln f=none:=by unfold Ln;rw[hf,hs];rfl
   rw[hx] at h;dsimp only at h;split at h
   case h_2=>cases h
   rename_i pc hp;obtain⟨h1,h2⟩:=ao2 f pc hp;rw[h2];dsimp only;rw[h1];dsimp only;split at h
   case h_2=>cases h
   rename_i d' he;rw[PC.ev_mono ih (aZ _) he];exact h
def aj.of_ev (n:Nat){f:Nat}{ds:List D}{d:D}(h:cP Rq Ln n f ds=some d):aj T f ds d:=.of_at ao7 n (ac5 n f ds d h)
def aAk:aj T 4 [] (.bool true):=aj.of_ev 200 (by kernel_rfl)
end Rm
set_option linter.unusedSimpArgs false
namespace Rm
open Go Go.Proofs Cx
def apa {r:Realm}{f:File}(h:yW r f=true):f.facts.length<=220:=by
 unfold yW sQ Co at h;simp only[au,decide_eq_true_eq] at h;omega
def aqI {r:Realm}{f:File}(G:Good r f)(hg:yW r f=true){l:List Fact}(hl:l.length<=30):FewS (eD f l):=by
 have aI2:=apa hg;have hm:=PY f l;have:=abD f l;exact⟨by rw[hm.same.signs];exact G.few.signs,by rw[hm.same.alters];exact G.few.alters,by rw[hm.same.acts];exact G.few.acts,by have:=G.few.facts;omega⟩
def ayo {r:Realm}{f:File}(G:Good r f)(hc:iV r=0)(hP:PaperOK r f)(forum day:Int){g:File}(h:MoreF f g):PayOK r (dG r forum g day):=by
 have de:=Li r forum g day;have rk:=G.few.signs;obtain⟨FX,mX⟩:=adx hc;have hS:=hP.sums;have vZ:SumsOK g:=⟨by rw[h.same.bill];exact hS.bill,by rw[h.same.bill];exact hS.rate,by rw[h.same.alters];exact hS.alters,by rw[h.same.signs];exact hS.signs⟩
 have each:∀e,e∈qZ r forum g day->(0<=e.firm/\e.firm<r.firms.length)/\0<=e.sum/\e.sum<=1099511627776:=by
  intro e he;unfold qZ at he;obtain⟨k,hk,rfl⟩:=cd.1 he;have bn:k<(bT g day).signs.length:=fR.1 hk;have h1:=acY (v:=gF r forum g day) (vZ.at_ day) k (by omega) (by show(k:Int)<((bT g day).signs.length:Int);omega);refine⟨?_,by omega,h1.2⟩;have hm:(bT g day).signs[k]∈g.signs:=(Ji _).subset (bQ bn);rw[h.same.signs] at hm;obtain⟨i,hi,e⟩:=fw hm;have h2:=(hP.sign i hi).who;have h3:(jK (gF r forum g day) k).firm=((bT g day).signs[k]).who:=by
   show((bT g day).signs.getD (k:Int).toNat default).who=_;simp[bn]
  rw[h3,<-e];exact h2
 refine⟨λe he=>(each e (dK.1 he).1).1,λe he=>(each e (dK.1 he).1).2,FX,mX,?_⟩;exact fb (kJ _ _) (by rw[h.same.signs] at de;omega)
def abt (r:Realm)(hr:Right r)(hd:RightD r)(forum:Int)(f:File)(day s:Int)(hf:FewS f)(ho:0<=forum/\forum<r.orders.length)(hp:PayOK r (dG r forum f day)):aj T 12 [aV r,.int forum,cr f,.int day,.int s] (ints (dN r (dG r forum f day) s)):=by
 refine zyw 170 aCk ?_;simp[YU];refine⟨_,TH r forum,?_⟩;simp[ho];refine⟨_,afR r hr hd forum f day hf,?_⟩;exact ady r _ s hp.firms hp.len
def Dq (r:Realm)(forum:Int)(f:File)(day:Int)(q:Quote):Pledge:=
 if(fa r forum f day q).2≠0 then⟨0,0,0⟩ else⟨(fa r forum f day q).1,eI r forum f day,(dN r (dG r forum f day) 1).length⟩
def aiO {r:Realm}{forum:Int}{f:File}{day:Int}{q:Quote}(h:(fa r forum f day q).2=0):lf q=0/\uW r forum:=by
 rcases Pm r forum f day q with e|⟨h1,h2,_⟩
 .unfold fa at h;rw[e] at h;simp at h
 .exact⟨h1,h2⟩
def abp (r:Realm)(hr:Right r)(hd:RightD r)(forum:Int)(f:File)(day:Int)(hf:FewS f)(q:Quote)(tq:q.fails.length<=4294967296)(hp:PayOK r (dG r forum f day))(pM:aX day)(hm:eI r forum f day=-1\/(0<=eI r forum f day/\eI r forum f day<=100000/\0<=day)):
 aj T 9 [aV r,.int forum,cr f,.int day,q7 q] (.tup [q6 (Dq r forum f day q),.int (fa r forum f day q).2]):=by
 refine zyw 79 aB8 ?_;have p1:=abu r hr hd forum f day hf q tq hp pM hm;have m1:=Jl r hr hd forum f day hf;simp[YO];refine⟨_,p1,?_⟩;unfold Dq;by_cases he:(fa r forum f day q).2=0
 .have l1:=abt r hr hd forum f day 1 hf (aiO he).2 hp;generalize fa r forum f day q=pe at*;obtain⟨v,e⟩:=pe;simp only at he;subst he;simp;refine⟨_,m1,_,l1,?_⟩;rw[show(ints (dN r (dG r forum f day) 1)).l.length=(dN r (dG r forum f day) 1).length by simp[ints]];rfl
 .generalize fa r forum f day q=pe at*;obtain⟨v,e⟩:=pe;simp only at he;simp[he];rfl
def aiP {r:Realm}{forum:Int}{f:File}{day:Int}{q:Quote}:0<=(fa r forum f day q).1/\(fa r forum f day q).1<=1099511627776:=by
 unfold fa;rcases Pm r forum f day q with e|⟨hq,ho,e⟩
 .rw[e];simp
 .obtain⟨q0,q1,hQ⟩:=Hn hq;have lP:=aaN (r:=r) (l:=dG r forum f day) hQ;have GC:=akJ (r:=r) (l:=dG r forum f day) hQ;rw[e];generalize pv r (dG r forum f day) q.fails=w at*;have Ge:=Uu (w:=w) (x:=q.perMille*max (eI r forum f day-day) 0) lP (uk q0 (by omega));simp only;rw[if_neg (by simp)];unfold w6;split
  .exact⟨l7 _,by decide⟩
  split
  .exact⟨l7 _,by decide⟩
  .exact⟨Ge.1,by have:=Ge.2;omega⟩
def alj (r:Realm)(hr:r.OK)(forum:Int)(f:File)(RO:f.OK)(day:Int)(pM:aX day)(q:Quote)(S7:q.OK)(t:PTerms)(ht:t.OK)(on:Int)(SP:aX on)(more:List Fact)(aJC:∀x,x∈more->x.OK):
 aj T 3 [aV r,.int forum,cr f,.int day,q7 q,yO t,.int on,facts more] (.bool true):=by
 refine zyw 0 aBK ?_;simp[Yu];refine⟨_,aAk,?_⟩;by_cases hl:q.fails.length<=20/\more.length<=30
 case neg=>
  have hn:¬((q.fails.length:Int)<=20/\(more.length:Int)<=30):=by omega
  have mf:20<(q.fails.length:Int)\/30<(more.length:Int):=by omega
  simp[hn,mf]
 obtain⟨hl,rq⟩:=hl;have wj:(q.fails.length:Int)<=20:=by omega
 have asw:(more.length:Int)<=30:=by omega
 have hn:¬(20:Int)<(q.fails.length:Int):=by omega
 have mf:¬(30:Int)<(more.length:Int):=by omega
 simp[wj,asw,hn,mf];refine⟨_,aza r f hr,?_⟩;cases e1:sQ r f
 .simp
 have hs:Small r:=Rt hr (by simp only[sQ,au] at e1;exact e1.1.1);simp;refine⟨_,ayU r hs,?_⟩;by_cases e2:iV r=0
 case neg=>simp[e2]
 obtain⟨d,hd,e,rfl,he⟩:=aye r hs f RO;simp[e2];refine⟨_,hd,?_⟩;by_cases e0:e=0
 case neg=>simp[e0]
 subst e0;have hP:=he.1 rfl;have hg:yW r f=true:=by simp[yW,e1,e2]
 have G:=aqJ hr hg;have S6:q.fails.length<=4294967296:=by omega
 have CQ:=PY f more;have arV:=aqI G hg rq;have uS:=ayp G e2 hP forum day;have eR:=ayo G e2 hP forum day CQ;have bu:=anH G.rightD hP forum day;have dv:eI r forum (eD f more) day=-1\/(0<=eI r forum (eD f more) day/\eI r forum (eD f more) day<=100000/\0<=day):=by rw[MM r forum CQ.same];exact bu
 have o1:=abp r G.right G.rightD forum f day G.few q S6 uS pM bu;have o2:=abp r G.right G.rightD forum (eD f more) day arV q S6 eR pM dv;have p1:=abu r G.right G.rightD forum f day G.few q S6 uS pM bu;have m1:=Jl r G.right G.rightD forum f day G.few;obtain⟨c1,c2⟩:=ayK (r:=r) forum CQ day q;simp;refine aK.forRounds more.length (λk=>[.int k]) (λk=>[cr (eD f (more.take k))]) ?_ (λk hk=>?_) ?_
 .simp
  try rfl
 .have hw:=bq hk (by omega);have hlen:=abD f (more.take k);rw[dY] at hlen;have lN:(eD f (more.take k)).signs=f.signs:=(PY f (more.take k)).same.signs;have za:=G.few.facts;rw[alB f more hk];generalize eD f (more.take k)=g at*;simp[ajx,N8,hk,hw];generalize more[k]=x at*;have hm:((((0<=x.kind/\x.kind<5)/\0<=x.at_)/\x.at_<(f.signs.length:Int))/\0<=x.n)/\x.n<=1↔uZ g x=true:=by
   simp[uZ,and_assoc,lN]
  by_cases h:uZ g x=true
  .rw[if_pos (hm.2 h),if_pos h];exact⟨_,alq g x (by omega),rfl⟩
  .rw[if_neg (λe=>h (hm.1 e)),if_neg h]
 .rw[Jk];simp[ajx,N8];have hA:Dq r forum f day q=if(fa r forum f day q).2≠0 then⟨0,0,0⟩ else⟨(fa r forum f day q).1,eI r forum f day,(dN r (dG r forum f day) 1).length⟩:=rfl;have hB:Dq r forum (eD f more) day q=if(fa r forum (eD f more) day q).2≠0 then⟨0,0,0⟩ else⟨(fa r forum (eD f more) day q).1,eI r forum (eD f more) day,(dN r (dG r forum (eD f more) day) 1).length⟩:=rfl;have kS:=aiP (r:=r) (forum:=forum) (f:=f) (day:=day) (q:=q);have ng:=aiP (r:=r) (forum:=forum) (f:=eD f more) (day:=day) (q:=q);have kP:=λh:(fa r forum f day q).2=0=>abt r G.right G.rightD forum f day 1 G.few (aiO (q:=q) h).2 uS;have rn:(dN r (dG r forum f day) 1).length<=(dN r (dG r forum (eD f more) day) 1).length:=aqS λe he=>afQ forum CQ day he;have ar2:(dN r (dG r forum (eD f more) day) 1).length<=40:=by
   have h1:=adw r (dG r forum (eD f more) day) 1;have h2:(dG r forum (eD f more) day).length<=(qZ r forum (eD f more) day).length:=kJ _ _;have h3:=Li r forum (eD f more) day;rw[CQ.same.signs] at h3;have h4:=hP.full.1.1;omega
  rw[MM r forum CQ.same,<-c2] at hB;refine⟨_,o1,_,o2,_,p1,?_⟩;rw[<-c2];generalize (dN r (dG r forum (eD f more) day) 1).length=L2 at*;generalize hG1:dN r (dG r forum f day) 1=G1 at*;generalize Dq r forum f day q=a at*;generalize Dq r forum (eD f more) day q=b at*;generalize (fa r forum f day q).2=e at*;generalize (fa r forum f day q).1=v at*;generalize (fa r forum (eD f more) day q).1=v' at*;generalize eI r forum f day=m at*;obtain⟨x1,x2,x3⟩:=a;obtain⟨y1,y2,y3⟩:=b;refine⟨⟨⟨rfl,rfl⟩,λh=>?_⟩,λh=>?_⟩
  .have h:¬e=0:=h;rw[if_pos h] at hA;cases hA;exact⟨rfl,rfl,rfl⟩
  .have h:e=0:=h;subst h;rw[if_neg (by simp)] at hA hB;cases hA;cases hB;rw[if_pos (by show v=v;rfl)];refine⟨_,m1,?_⟩;rw[if_pos (by show v=v/\m=m;exact⟨rfl,rfl⟩)];have zd:(G1.length:Int)=((ints G1).l.length:Int):=by simp[ints]
   have V1:=abz t ⟨v,m,G1.length⟩ on;have V2:=abz t ⟨v',m,L2⟩ on;have hv:vx t ⟨v,m,G1.length⟩ on<=vx t ⟨v',m,L2⟩ on:=aD7 t on kS.1 c1 rfl (Int.natCast_nonneg _) (Int.ofNat_le.2 rn) ng.2 (Int.ofNat_le.2 ar2);generalize vx t ⟨v,m,G1.length⟩ on=X1 at*;generalize vx t ⟨v',m,L2⟩ on=X2 at*;have ev:v=v:=rfl;have em:m=m:=rfl;exact⟨_,kP rfl,⟨⟨⟨ev,em⟩,zd⟩,em⟩,_,V1,_,V2,hv⟩
end Rm
