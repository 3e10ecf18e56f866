/-
  The functions of this seat, compiled (2); the table.
-/
import Derived.Test.YtjkeifcibnadcaaProg
import Derived.Test.YtjkeifcibnadcaaEsA
set_option maxRecDepth 100000
namespace Esta
open Go Go.Proofs Cx


/-! allonge/allongelaw48.EstateLeft -/
def bd9_0 : PC :=
 (.seq
  (.seq
   (.is [.setR 81 (.r 15),
     .setR 82 (.r 2),
     .setR 83 (.llen (.r 82)),
     .setR 84 (.ci .lss (.r 81) (.r 83))])
   (.ite (.r 84) [] []
    .skip
    (.exit 4)))
  (.seq
   (.block 5 [6, 87, 88, 89, 90, 91, 92, 93, 94, 106, 107, 114, 115, 125] []
    (.seq
     (.is [.setR 87 (.r 2),
       .setR 88 (.r 15),
       .chk (.idx (.r 87) (.r 88)),
       .setR 89 (.ref (.nth (.r 87) (.r 88))),
       .setR 90 (.ref (.cell (.deref (.r 89)) 1)),
       .setR 91 (.deref (.r 90)),
       .setR 92 (.r 10),
       .setR 93 (.ci .eql (.r 91) (.r 92)),
       .setR 94 (.r 93),
       .setR 95 (.r 2),
       .setR 96 (.r 15),
       .chk (.imp [(94, true)] (.idx (.r 95) (.r 96))),
       .setR 97 (.ref (.nth (.r 95) (.r 96))),
       .setR 98 (.ref (.cell (.deref (.r 97)) 2)),
       .setR 99 (.deref (.r 98)),
       .setR 100 (.r 2),
       .setR 101 (.r 14),
       .chk (.imp [(94, true)] (.idx (.r 100) (.r 101))),
       .setR 102 (.ref (.nth (.r 100) (.r 101))),
       .setR 103 (.ref (.cell (.deref (.r 102)) 2)),
       .setR 104 (.deref (.r 103)),
       .setR 105 (.ci .eql (.r 99) (.r 104)),
       .setR 106 (.pick (.r 94) (.r 105) (.con (.bool false))),
       .setR 107 (.r 106),
       .setR 108 (.r 1),
       .setR 109 (.r 2),
       .setR 110 (.r 11),
       .setR 111 (.r 15),
       .call [(107, true)] 112 39 [(.r 108), (.r 109), (.r 110), (.r 111)],
       .setR 113 (.ci .gtr (.r 112) (.con (.int 0))),
       .setR 114 (.pick (.r 107) (.r 113) (.con (.bool false))),
       .setR 115 (.r 114),
       .setR 116 (.r 8),
       .setR 117 (.r 15),
       .chk (.imp [(115, true)] (.idx (.r 116) (.r 117))),
       .setR 118 (.ref (.nth (.r 116) (.r 117))),
       .setR 119 (.deref (.r 118)),
       .setR 120 (.r 8),
       .setR 121 (.r 14),
       .chk (.imp [(115, true)] (.idx (.r 120) (.r 121))),
       .setR 122 (.ref (.nth (.r 120) (.r 121))),
       .setR 123 (.deref (.r 122)),
       .setR 124 (.ci .neq (.r 119) (.r 123)),
       .setR 125 (.pick (.r 115) (.r 124) (.con (.bool false)))])
     (.ite (.r 125) [6] []
      (.seq
       (.is [.setR 6 (.con (.bool false))])
       (.ret (.r 6)))
      .skip)))
   (.is [.setR 85 (.r 15),
     .setR 86 (.ai .add .i64 (.r 85) (.con (.int 1))),
     .setR 15 (.r 86)])))
def lp9_0 : PC := .block 4 [6, 15, 81, 82, 83, 84] [] (.loop [6, 15] [] bd9_0)
def rd9_0 : PT :=
 (.ite (.ci .lss (.r 15) (.llen (.r 2)))
  (.blockS ⟨[(84, (.ci .lss (.r 15) (.llen (.r 2)))), (83, (.llen (.r 2))), (82, (.r 2)), (81, (.r 15))], []⟩ 5 [6, 87, 88, 89, 90, 91, 92, 93, 94, 106, 107, 114, 115, 125] []
   (.chk (.idx (.r 2) (.r 15))
   (.chk (.nt (.an (.an (.ci .eql (.cell (.nth (.r 2) (.r 15)) 1) (.r 10)) (.con (.bool true))) (.nt (.idx (.r 2) (.r 15)))))
   (.chk (.nt (.an (.an (.ci .eql (.cell (.nth (.r 2) (.r 15)) 1) (.r 10)) (.con (.bool true))) (.nt (.idx (.r 2) (.r 14)))))
   (.call ⟨[(111, (.r 15)), (110, (.r 11)), (109, (.r 2)), (108, (.r 1)), (107, (.pick (.ci .eql (.cell (.nth (.r 2) (.r 15)) 1) (.r 10)) (.ci .eql (.cell (.nth (.r 2) (.r 15)) 2) (.cell (.nth (.r 2) (.r 14)) 2)) (.con (.bool false)))), (106, (.pick (.ci .eql (.cell (.nth (.r 2) (.r 15)) 1) (.r 10)) (.ci .eql (.cell (.nth (.r 2) (.r 15)) 2) (.cell (.nth (.r 2) (.r 14)) 2)) (.con (.bool false)))), (105, (.ci .eql (.cell (.nth (.r 2) (.r 15)) 2) (.cell (.nth (.r 2) (.r 14)) 2))), (104, (.cell (.nth (.r 2) (.r 14)) 2)), (103, (.ref (.cell (.nth (.r 2) (.r 14)) 2))), (102, (.ref (.nth (.r 2) (.r 14)))), (101, (.r 14)), (100, (.r 2)), (99, (.cell (.nth (.r 2) (.r 15)) 2)), (98, (.ref (.cell (.nth (.r 2) (.r 15)) 2))), (97, (.ref (.nth (.r 2) (.r 15)))), (96, (.r 15)), (95, (.r 2)), (94, (.ci .eql (.cell (.nth (.r 2) (.r 15)) 1) (.r 10))), (93, (.ci .eql (.cell (.nth (.r 2) (.r 15)) 1) (.r 10))), (92, (.r 10)), (91, (.cell (.nth (.r 2) (.r 15)) 1)), (90, (.ref (.cell (.nth (.r 2) (.r 15)) 1))), (89, (.ref (.nth (.r 2) (.r 15)))), (88, (.r 15)), (87, (.r 2))], []⟩ [(107, true)] 112 39 [(.r 108), (.r 109), (.r 110), (.r 111)]
   (.chk (.nt (.an (.an (.pick (.r 107) (.ci .gtr (.r 112) (.con (.int 0))) (.con (.bool false))) (.con (.bool true))) (.nt (.idx (.r 8) (.r 15)))))
   (.chk (.nt (.an (.an (.pick (.r 107) (.ci .gtr (.r 112) (.con (.int 0))) (.con (.bool false))) (.con (.bool true))) (.nt (.idx (.r 8) (.r 14)))))
   (.ite (.pick (.pick (.r 107) (.ci .gtr (.r 112) (.con (.int 0))) (.con (.bool false))) (.ci .neq (.nth (.r 8) (.r 15)) (.nth (.r 8) (.r 14))) (.con (.bool false)))
    (.ret (.con (.bool false)))
    (.next ⟨[(6, (.r 6)), (125, (.pick (.pick (.r 107) (.ci .gtr (.r 112) (.con (.int 0))) (.con (.bool false))) (.ci .neq (.nth (.r 8) (.r 15)) (.nth (.r 8) (.r 14))) (.con (.bool false)))), (124, (.ci .neq (.nth (.r 8) (.r 15)) (.nth (.r 8) (.r 14)))), (123, (.nth (.r 8) (.r 14))), (122, (.ref (.nth (.r 8) (.r 14)))), (121, (.r 14)), (120, (.r 8)), (119, (.nth (.r 8) (.r 15))), (118, (.ref (.nth (.r 8) (.r 15)))), (117, (.r 15)), (116, (.r 8)), (115, (.pick (.r 107) (.ci .gtr (.r 112) (.con (.int 0))) (.con (.bool false)))), (114, (.pick (.r 107) (.ci .gtr (.r 112) (.con (.int 0))) (.con (.bool false)))), (113, (.ci .gtr (.r 112) (.con (.int 0))))], []⟩))))))))
  (.next ⟨[(6, (.r 6)), (15, (.ai .add .i64 (.r 15) (.con (.int 1))))], []⟩))
  (.exit 4 ⟨[(6, (.r 6)), (15, (.r 15)), (81, (.r 15)), (82, (.r 2)), (83, (.llen (.r 2))), (84, (.ci .lss (.r 15) (.llen (.r 2))))], []⟩))
theorem rd9_0_eq : round 4 [6, 15, 81, 82, 83, 84] [] [6, 15] [] bd9_0 = rd9_0 := by kernel_rfl
def bd9_1 : PC :=
 (.seq
  (.seq
   (.is [.setR 54 (.r 14),
     .setR 55 (.r 2),
     .setR 56 (.llen (.r 55)),
     .setR 57 (.ci .lss (.r 54) (.r 56))])
   (.ite (.r 57) [] []
    .skip
    (.exit 2)))
  (.seq
   (.block 3 [6, 12, 13, 60, 61, 62, 63, 64, 65, 66] []
    (.seq
     (.seq
      (.is [.setR 60 (.r 2),
        .setR 61 (.r 14),
        .chk (.idx (.r 60) (.r 61)),
        .setR 62 (.ref (.nth (.r 60) (.r 61))),
        .setR 63 (.ref (.cell (.deref (.r 62)) 1)),
        .setR 64 (.deref (.r 63)),
        .setR 65 (.r 10),
        .setR 66 (.ci .neq (.r 64) (.r 65))])
      (.ite (.r 66) [] []
       (.exit 3)
       .skip))
     (.seq
      (.is [.setR 67 (.r 12),
        .setR 68 (.r 8),
        .setR 69 (.r 14),
        .chk (.idx (.r 68) (.r 69)),
        .setR 70 (.ref (.nth (.r 68) (.r 69))),
        .setR 71 (.deref (.r 70)),
        .setR 72 (.ai .sub .i64 (.r 67) (.r 71)),
        .setR 12 (.r 72)])
      (.seq
       (.seq
        (.is [.setR 73 (.r 1),
          .setR 74 (.r 2),
          .setR 75 (.r 11),
          .setR 76 (.r 14),
          .call [] 77 39 [(.r 73), (.r 74), (.r 75), (.r 76)],
          .setR 78 (.ci .eql (.r 77) (.con (.int 0)))])
        (.ite (.r 78) [] []
         (.exit 3)
         .skip))
       (.seq
        (.is [.setR 79 (.r 13),
          .setR 80 (.ai .add .i64 (.r 79) (.con (.int 1))),
          .setR 13 (.r 80)])
        (.seq
         (.is [.setR 15 (.con (.int 0))])
         lp9_0))))))
   (.is [.setR 58 (.r 14),
     .setR 59 (.ai .add .i64 (.r 58) (.con (.int 1))),
     .setR 14 (.r 59)])))
def lp9_1 : PC := .block 2 [6, 12, 13, 14, 54, 55, 56, 57] [] (.loop [6, 12, 13, 14] [] bd9_1)
def rd9_1 : PT :=
 (.ite (.ci .lss (.r 14) (.llen (.r 2)))
  (.blockS ⟨[(57, (.ci .lss (.r 14) (.llen (.r 2)))), (56, (.llen (.r 2))), (55, (.r 2)), (54, (.r 14))], []⟩ 3 [6, 12, 13, 60, 61, 62, 63, 64, 65, 66] []
   (.chk (.idx (.r 2) (.r 14))
   (.ite (.ci .neq (.cell (.nth (.r 2) (.r 14)) 1) (.r 10))
    (.exit 3 ⟨[(66, (.ci .neq (.cell (.nth (.r 2) (.r 14)) 1) (.r 10))), (65, (.r 10)), (64, (.cell (.nth (.r 2) (.r 14)) 1)), (63, (.ref (.cell (.nth (.r 2) (.r 14)) 1))), (62, (.ref (.nth (.r 2) (.r 14)))), (61, (.r 14)), (60, (.r 2))], []⟩)
    (.chk (.idx (.r 8) (.r 14))
    (.call ⟨[(76, (.r 14)), (75, (.r 11)), (74, (.r 2)), (73, (.r 1)), (12, (.ai .sub .i64 (.r 12) (.nth (.r 8) (.r 14)))), (72, (.ai .sub .i64 (.r 12) (.nth (.r 8) (.r 14)))), (71, (.nth (.r 8) (.r 14))), (70, (.ref (.nth (.r 8) (.r 14)))), (69, (.r 14)), (68, (.r 8)), (67, (.r 12)), (66, (.ci .neq (.cell (.nth (.r 2) (.r 14)) 1) (.r 10))), (65, (.r 10)), (64, (.cell (.nth (.r 2) (.r 14)) 1)), (63, (.ref (.cell (.nth (.r 2) (.r 14)) 1))), (62, (.ref (.nth (.r 2) (.r 14)))), (61, (.r 14)), (60, (.r 2))], []⟩ [] 77 39 [(.r 73), (.r 74), (.r 75), (.r 76)]
    (.ite (.ci .eql (.r 77) (.con (.int 0)))
     (.exit 3 ⟨[(78, (.ci .eql (.r 77) (.con (.int 0))))], []⟩)
     (.brk ⟨[(15, (.con (.int 0))), (13, (.ai .add .i64 (.r 13) (.con (.int 1)))), (80, (.ai .add .i64 (.r 13) (.con (.int 1)))), (79, (.r 13)), (78, (.ci .eql (.r 77) (.con (.int 0))))], []⟩
      lp9_0
     (.next ⟨[], []⟩)))))))
  (.next ⟨[(6, (.r 6)), (12, (.r 12)), (13, (.r 13)), (14, (.ai .add .i64 (.r 14) (.con (.int 1))))], []⟩))
  (.exit 2 ⟨[(6, (.r 6)), (12, (.r 12)), (13, (.r 13)), (14, (.r 14)), (54, (.r 14)), (55, (.r 2)), (56, (.llen (.r 2))), (57, (.ci .lss (.r 14) (.llen (.r 2))))], []⟩))
theorem rd9_1_eq : round 2 [6, 12, 13, 14, 54, 55, 56, 57] [] [6, 12, 13, 14] [] bd9_1 = rd9_1 := by kernel_rfl
def bd9_2 : PC :=
 (.seq
  (.seq
   (.is [.setR 39 (.r 10),
     .setR 40 (.r 0),
     .setR 41 (.llen (.r 40)),
     .setR 42 (.ci .lss (.r 39) (.r 41))])
   (.ite (.r 42) [] []
    .skip
    (.exit 0)))
  (.seq
   (.block 1 [6, 11, 12, 13, 14, 45, 46, 47, 48, 49, 50, 51, 52, 53, 54, 55, 56, 57, 126, 127, 128, 132] []
    (.seq
     (.is [.setR 45 (.r 2),
       .setR 46 (.r 8),
       .setR 47 (.r 10),
       .call [] 48 38 [(.r 45), (.r 46), (.r 47)],
       .setR 11 (.r 48)])
     (.seq
      (.is [.setR 49 (.r 0),
        .setR 50 (.r 10),
        .chk (.idx (.r 49) (.r 50)),
        .setR 51 (.ref (.nth (.r 49) (.r 50))),
        .setR 52 (.ref (.cell (.deref (.r 51)) 2)),
        .setR 53 (.deref (.r 52)),
        .setR 12 (.r 53)])
      (.seq
       (.is [.setR 13 (.con (.int 0))])
       (.seq
        (.seq
         (.is [.setR 14 (.con (.int 0))])
         lp9_1)
        (.seq
         (.is [.setR 126 (.r 13),
           .setR 127 (.ci .gtr (.r 126) (.con (.int 0))),
           .setR 128 (.r 127),
           .setR 129 (.r 12),
           .setR 130 (.r 13),
           .setR 131 (.ci .geq (.r 129) (.r 130)),
           .setR 132 (.pick (.r 128) (.r 131) (.con (.bool false)))])
         (.ite (.r 132) [6] []
          (.seq
           (.is [.setR 6 (.con (.bool false))])
           (.ret (.r 6)))
          .skip)))))))
   (.is [.setR 43 (.r 10),
     .setR 44 (.ai .add .i64 (.r 43) (.con (.int 1))),
     .setR 10 (.r 44)])))
def lp9_2 : PC := .block 0 [6, 10, 39, 40, 41, 42] [] (.loop [6, 10] [] bd9_2)
def rd9_2 : PT :=
 (.ite (.ci .lss (.r 10) (.llen (.r 0)))
  (.blockS ⟨[(42, (.ci .lss (.r 10) (.llen (.r 0)))), (41, (.llen (.r 0))), (40, (.r 0)), (39, (.r 10))], []⟩ 1 [6, 11, 12, 13, 14, 45, 46, 47, 48, 49, 50, 51, 52, 53, 54, 55, 56, 57, 126, 127, 128, 132] []
   (.call ⟨[(47, (.r 10)), (46, (.r 8)), (45, (.r 2))], []⟩ [] 48 38 [(.r 45), (.r 46), (.r 47)]
   (.chk (.idx (.r 0) (.r 10))
   (.brk ⟨[(14, (.con (.int 0))), (13, (.con (.int 0))), (12, (.cell (.nth (.r 0) (.r 10)) 2)), (53, (.cell (.nth (.r 0) (.r 10)) 2)), (52, (.ref (.cell (.nth (.r 0) (.r 10)) 2))), (51, (.ref (.nth (.r 0) (.r 10)))), (50, (.r 10)), (49, (.r 0)), (11, (.r 48))], []⟩
    lp9_1
   (.ite (.pick (.ci .gtr (.r 13) (.con (.int 0))) (.ci .geq (.r 12) (.r 13)) (.con (.bool false)))
    (.ret (.con (.bool false)))
    (.next ⟨[(6, (.r 6)), (132, (.pick (.ci .gtr (.r 13) (.con (.int 0))) (.ci .geq (.r 12) (.r 13)) (.con (.bool false)))), (131, (.ci .geq (.r 12) (.r 13))), (130, (.r 13)), (129, (.r 12)), (128, (.ci .gtr (.r 13) (.con (.int 0)))), (127, (.ci .gtr (.r 13) (.con (.int 0)))), (126, (.r 13))], []⟩)))))
  (.next ⟨[(6, (.r 6)), (10, (.ai .add .i64 (.r 10) (.con (.int 1))))], []⟩))
  (.exit 0 ⟨[(6, (.r 6)), (10, (.r 10)), (39, (.r 10)), (40, (.r 0)), (41, (.llen (.r 0))), (42, (.ci .lss (.r 10) (.llen (.r 0))))], []⟩))
theorem rd9_2_eq : round 0 [6, 10, 39, 40, 41, 42] [] [6, 10] [] bd9_2 = rd9_2 := by kernel_rfl
def pc9 : PC :=
 (.seq
  (.is [.setR 6 (.con (.bool false))])
  (.seq
   (.is [.call [] 16 26 [],
     .setR 7 (.r 16)])
   (.seq
    (.seq
     (.is [.setR 17 (.r 0),
       .setR 18 (.r 1),
       .setR 19 (.r 2),
       .call [] 20 27 [(.r 17), (.r 18), (.r 19)],
       .setR 21 (.nt (.r 20)),
       .setR 22 (.r 21),
       .setR 23 (.r 0),
       .setR 24 (.r 1),
       .setR 25 (.r 2),
       .call [(22, false)] 26 31 [(.r 23), (.r 24), (.r 25)],
       .setR 27 (.nt (.r 26)),
       .setR 28 (.pick (.r 22) (.con (.bool true)) (.r 27))])
     (.ite (.r 28) [6] []
      (.seq
       (.is [.setR 29 (.r 7),
         .setR 6 (.r 29)])
       (.ret (.r 6)))
      .skip))
    (.seq
     (.is [.setR 31 (.r 0),
       .setR 32 (.r 1),
       .setR 33 (.r 2),
       .call [] 34 37 [(.r 31), (.r 32), (.r 33)],
       .setR 30 (.r 34),
       .setR 35 (.tget (.r 30) 0),
       .setR 36 (.tget (.r 30) 1),
       .setR 8 (.r 35),
       .setR 9 (.r 36)])
     (.seq
      (.seq
       (.is [.setR 37 (.r 9),
         .setR 38 (.nt (.r 37))])
       (.ite (.r 38) [6] []
        (.seq
         (.is [.setR 6 (.con (.bool false))])
         (.ret (.r 6)))
        .skip))
      (.seq
       (.seq
        (.is [.setR 10 (.con (.int 0))])
        lp9_2)
       (.seq
        (.is [.setR 133 (.r 7),
          .setR 6 (.r 133)])
        (.ret (.r 6)))))))))
def tr9 : PT :=
 (.call ⟨[(6, (.con (.bool false)))], []⟩ [] 16 26 []
 (.call ⟨[(19, (.r 2)), (18, (.r 1)), (17, (.r 0)), (7, (.r 16))], []⟩ [] 20 27 [(.r 17), (.r 18), (.r 19)]
 (.call ⟨[(25, (.r 2)), (24, (.r 1)), (23, (.r 0)), (22, (.nt (.r 20))), (21, (.nt (.r 20)))], []⟩ [(22, false)] 26 31 [(.r 23), (.r 24), (.r 25)]
 (.ite (.pick (.r 22) (.con (.bool true)) (.nt (.r 26)))
  (.ret (.r 7))
  (.call ⟨[(33, (.r 2)), (32, (.r 1)), (31, (.r 0)), (6, (.r 6)), (28, (.pick (.r 22) (.con (.bool true)) (.nt (.r 26)))), (27, (.nt (.r 26)))], []⟩ [] 34 37 [(.r 31), (.r 32), (.r 33)]
  (.ite (.nt (.tget (.r 34) 1))
   (.ret (.con (.bool false)))
   (.brk ⟨[(10, (.con (.int 0))), (6, (.r 6)), (38, (.nt (.tget (.r 34) 1))), (37, (.tget (.r 34) 1)), (9, (.tget (.r 34) 1)), (8, (.tget (.r 34) 0)), (36, (.tget (.r 34) 1)), (35, (.tget (.r 34) 0)), (30, (.r 34))], []⟩
    lp9_2
   (.ret (.r 7)))))))))
theorem tr9_eq : tree pc9 = tr9 := by kernel_rfl
/-! allonge/allongelaw48.until -/
def bd38_0 : PC :=
 (.seq
  (.seq
   (.is [.setR 9 (.r 8),
     .setR 10 (.r 0),
     .setR 11 (.llen (.r 10)),
     .setR 12 (.ci .lss (.r 9) (.r 11))])
   (.ite (.r 12) [] []
    .skip
    (.exit 0)))
  (.seq
   (.block 1 [7, 15, 16, 17, 18, 19, 20, 21] [7]
    (.seq
     (.is [.setR 15 (.r 0),
       .setR 16 (.r 8),
       .chk (.idx (.r 15) (.r 16)),
       .setR 17 (.ref (.nth (.r 15) (.r 16))),
       .setR 18 (.ref (.cell (.deref (.r 17)) 1)),
       .setR 19 (.deref (.r 18)),
       .setR 20 (.r 2),
       .setR 21 (.ci .gtr (.r 19) (.r 20))])
     (.ite (.r 21) [7] [7]
      (.is [.setR 22 (.r 7),
        .setO 23 (.lst [(.con (.int 0))]),
        .setR 23 (.con .none),
        .chk (.ci .leq (.llen (.app (.o 7) (.o 23))) (.con (.int 4294967296))),
        .setO 7 (.app (.o 7) (.o 23)),
        .setR 24 (.con .none),
        .setR 7 (.r 24)])
      (.is [.setR 25 (.r 7),
        .setR 26 (.r 1),
        .setR 27 (.r 8),
        .chk (.idx (.r 26) (.r 27)),
        .setR 28 (.ref (.nth (.r 26) (.r 27))),
        .setR 29 (.deref (.r 28)),
        .setO 30 (.lst [(.r 29)]),
        .setR 30 (.con .none),
        .chk (.ci .leq (.llen (.app (.o 7) (.o 30))) (.con (.int 4294967296))),
        .setO 7 (.app (.o 7) (.o 30)),
        .setR 31 (.con .none),
        .setR 7 (.r 31)]))))
   (.is [.setR 13 (.r 8),
     .setR 14 (.ai .add .i64 (.r 13) (.con (.int 1))),
     .setR 8 (.r 14)])))
def lp38_0 : PC := .block 0 [7, 8, 9, 10, 11, 12] [7] (.loop [7, 8] [7] bd38_0)
def rd38_0 : PT :=
 (.ite (.ci .lss (.r 8) (.llen (.r 0)))
  (.chk (.idx (.r 0) (.r 8))
  (.ite (.ci .gtr (.cell (.nth (.r 0) (.r 8)) 1) (.r 2))
   (.chk (.ci .leq (.llen (.app (.o 7) (.lst [(.con (.int 0))]))) (.con (.int 4294967296)))
   (.next ⟨[(7, (.con .none)), (8, (.ai .add .i64 (.r 8) (.con (.int 1))))], [(7, (.app (.o 7) (.lst [(.con (.int 0))])))]⟩))
   (.chk (.idx (.r 1) (.r 8))
   (.chk (.ci .leq (.llen (.app (.o 7) (.lst [(.nth (.r 1) (.r 8))]))) (.con (.int 4294967296)))
   (.next ⟨[(7, (.con .none)), (8, (.ai .add .i64 (.r 8) (.con (.int 1))))], [(7, (.app (.o 7) (.lst [(.nth (.r 1) (.r 8))])))]⟩)))))
  (.exit 0 ⟨[(7, (.r 7)), (8, (.r 8)), (9, (.r 8)), (10, (.r 0)), (11, (.llen (.r 0))), (12, (.ci .lss (.r 8) (.llen (.r 0))))], [(7, (.o 7))]⟩))
theorem rd38_0_eq : round 0 [7, 8, 9, 10, 11, 12] [7] [7, 8] [7] bd38_0 = rd38_0 := by kernel_rfl
def pc38 : PC :=
 (.seq
  (.is [.setR 6 (.con (.list []))])
  (.seq
   (.is [.setO 7 (.con (.list [])),
     .setR 7 (.con .none)])
   (.seq
    (.seq
     (.is [.setR 8 (.con (.int 0))])
     lp38_0)
    (.seq
     (.is [.setR 32 (.r 7),
       .setR 6 (.o 7)])
     (.ret (.r 6))))))
def tr38 : PT :=
 (.brk ⟨[(8, (.con (.int 0))), (7, (.con .none)), (6, (.con (.list [])))], [(7, (.con (.list [])))]⟩
  lp38_0
 (.ret (.o 7)))
theorem tr38_eq : tree pc38 = tr38 := by kernel_rfl
/-! allonge/allongelaw48.EstateOrder -/
def bd10_0 : PC :=
 (.seq
  (.seq
   (.is [.setR 82 (.r 18),
     .setR 83 (.r 2),
     .setR 84 (.llen (.r 83)),
     .setR 85 (.ci .lss (.r 82) (.r 84))])
   (.ite (.r 85) [] []
    .skip
    (.exit 0)))
  (.seq
   (.block 1 [8, 16, 17, 88, 89, 90, 91, 92, 93, 94, 95, 96, 97, 98, 99, 100, 101, 102, 103, 104, 105, 106, 107, 108] [17, 16]
    (.seq
     (.seq
      (.is [.setR 88 (.r 11),
        .setR 89 (.r 18),
        .setR 90 (.r 3),
        .setR 91 (.ai .add .i64 (.r 89) (.r 90)),
        .setR 92 (.r 2),
        .setR 93 (.llen (.r 92)),
        .chk (.ci .neq (.r 93) (.con (.int 0))),
        .setR 94 (.ai .rem .i64 (.r 91) (.r 93)),
        .chk (.idx (.r 88) (.r 94)),
        .setR 95 (.ref (.nth (.r 88) (.r 94))),
        .setR 96 (.deref (.r 95)),
        .setR 97 (.r 13),
        .setR 98 (.r 18),
        .chk (.idx (.r 97) (.r 98)),
        .setR 99 (.ref (.nth (.r 97) (.r 98))),
        .setR 100 (.deref (.r 99)),
        .setR 101 (.ci .neq (.r 96) (.r 100))])
      (.ite (.r 101) [8] []
       (.seq
        (.is [.setR 8 (.con (.bool false))])
        (.ret (.r 8)))
       .skip))
     (.seq
      (.is [.setR 102 (.r 2),
        .setR 103 (.r 18),
        .chk (.idx (.r 102) (.r 103)),
        .setR 104 (.ref (.nth (.r 102) (.r 103))),
        .setR 105 (.ref (.cell (.deref (.r 104)) 1)),
        .setR 106 (.deref (.r 105)),
        .setR 107 (.r 15),
        .setR 108 (.ci .neq (.r 106) (.r 107))])
      (.ite (.r 108) [16, 17] [17, 16]
       (.seq
        (.is [.setR 109 (.r 16),
          .setR 110 (.r 2),
          .setR 111 (.r 18),
          .chk (.idx (.r 110) (.r 111)),
          .setR 112 (.ref (.nth (.r 110) (.r 111))),
          .setR 113 (.deref (.r 112)),
          .setO 114 (.lst [(.r 113)]),
          .setR 114 (.con .none),
          .chk (.ci .leq (.llen (.app (.o 16) (.o 114))) (.con (.int 4294967296))),
          .setO 16 (.app (.o 16) (.o 114)),
          .setR 115 (.con .none),
          .setR 16 (.r 115)])
        (.is [.setR 116 (.r 17),
          .setR 117 (.r 11),
          .setR 118 (.r 18),
          .chk (.idx (.r 117) (.r 118)),
          .setR 119 (.ref (.nth (.r 117) (.r 118))),
          .setR 120 (.deref (.r 119)),
          .setO 121 (.lst [(.r 120)]),
          .setR 121 (.con .none),
          .chk (.ci .leq (.llen (.app (.o 17) (.o 121))) (.con (.int 4294967296))),
          .setO 17 (.app (.o 17) (.o 121)),
          .setR 122 (.con .none),
          .setR 17 (.r 122)]))
       .skip))))
   (.is [.setR 86 (.r 18),
     .setR 87 (.ai .add .i64 (.r 86) (.con (.int 1))),
     .setR 18 (.r 87)])))
def lp10_0 : PC := .block 0 [8, 16, 17, 18, 82, 83, 84, 85] [16, 17] (.loop [8, 16, 17, 18] [16, 17] bd10_0)
def rd10_0 : PT :=
 (.ite (.ci .lss (.r 18) (.llen (.r 2)))
  (.chk (.ci .neq (.llen (.r 2)) (.con (.int 0)))
  (.chk (.idx (.r 11) (.ai .rem .i64 (.ai .add .i64 (.r 18) (.r 3)) (.llen (.r 2))))
  (.chk (.idx (.r 13) (.r 18))
  (.ite (.ci .neq (.nth (.r 11) (.ai .rem .i64 (.ai .add .i64 (.r 18) (.r 3)) (.llen (.r 2)))) (.nth (.r 13) (.r 18)))
   (.ret (.con (.bool false)))
   (.chk (.idx (.r 2) (.r 18))
   (.ite (.ci .neq (.cell (.nth (.r 2) (.r 18)) 1) (.r 15))
    (.chk (.ci .leq (.llen (.app (.o 16) (.lst [(.nth (.r 2) (.r 18))]))) (.con (.int 4294967296)))
    (.chk (.idx (.r 11) (.r 18))
    (.chk (.ci .leq (.llen (.app (.o 17) (.lst [(.nth (.r 11) (.r 18))]))) (.con (.int 4294967296)))
    (.next ⟨[(8, (.r 8)), (16, (.con .none)), (17, (.con .none)), (18, (.ai .add .i64 (.r 18) (.con (.int 1))))], [(16, (.app (.o 16) (.lst [(.nth (.r 2) (.r 18))]))), (17, (.app (.o 17) (.lst [(.nth (.r 11) (.r 18))])))]⟩))))
    (.next ⟨[(8, (.r 8)), (16, (.r 16)), (17, (.r 17)), (18, (.ai .add .i64 (.r 18) (.con (.int 1))))], [(16, (.o 16)), (17, (.o 17))]⟩)))))))
  (.exit 0 ⟨[(8, (.r 8)), (16, (.r 16)), (17, (.r 17)), (18, (.r 18)), (82, (.r 18)), (83, (.r 2)), (84, (.llen (.r 2))), (85, (.ci .lss (.r 18) (.llen (.r 2))))], [(16, (.o 16)), (17, (.o 17))]⟩))
theorem rd10_0_eq : round 0 [8, 16, 17, 18, 82, 83, 84, 85] [16, 17] [8, 16, 17, 18] [16, 17] bd10_0 = rd10_0 := by kernel_rfl
def pc10 : PC :=
 (.seq
  (.is [.setR 8 (.con (.bool false))])
  (.seq
   (.is [.call [] 21 26 [],
     .setR 9 (.r 21)])
   (.seq
    (.seq
     (.is [.setR 22 (.r 0),
       .setR 23 (.r 1),
       .setR 24 (.r 2),
       .call [] 25 27 [(.r 22), (.r 23), (.r 24)],
       .setR 26 (.nt (.r 25)),
       .setR 27 (.r 26),
       .setR 28 (.r 0),
       .setR 29 (.r 1),
       .setR 30 (.r 2),
       .call [(27, false)] 31 31 [(.r 28), (.r 29), (.r 30)],
       .setR 32 (.nt (.r 31)),
       .setR 33 (.pick (.r 27) (.con (.bool true)) (.r 32)),
       .setR 34 (.r 33),
       .setR 35 (.r 3),
       .setR 36 (.ci .lss (.r 35) (.con (.int 0))),
       .setR 37 (.pick (.r 34) (.con (.bool true)) (.r 36)),
       .setR 38 (.r 37),
       .setR 39 (.r 3),
       .setR 40 (.r 2),
       .setR 41 (.llen (.r 40)),
       .setR 42 (.ci .gtr (.r 39) (.r 41)),
       .setR 43 (.pick (.r 38) (.con (.bool true)) (.r 42)),
       .setR 44 (.r 43),
       .setR 45 (.r 0),
       .setR 46 (.llen (.r 45)),
       .setR 47 (.ci .eql (.r 46) (.con (.int 0))),
       .setR 48 (.pick (.r 44) (.con (.bool true)) (.r 47))])
     (.ite (.r 48) [8] []
      (.seq
       (.is [.setR 49 (.r 9),
         .setR 8 (.r 49)])
       (.ret (.r 8)))
      .skip))
    (.seq
     (.is [.setO 50 (.lst []),
       .setR 50 (.con .none),
       .setR 51 (.r 2),
       .setR 52 (.r 3),
       .chk (.slok (.r 51) (.r 52) (.llen (.r 51))),
       .setR 53 (.slc (.r 51) (.r 52) (.llen (.r 51))),
       .chk (.ci .leq (.llen (.app (.o 50) (.r 53))) (.con (.int 4294967296))),
       .setO 50 (.app (.o 50) (.r 53)),
       .setR 54 (.con .none),
       .setR 55 (.r 2),
       .setR 56 (.r 3),
       .chk (.slok (.r 55) (.con (.int 0)) (.r 56)),
       .setR 57 (.slc (.r 55) (.con (.int 0)) (.r 56)),
       .chk (.ci .leq (.llen (.app (.o 50) (.r 57))) (.con (.int 4294967296))),
       .setO 50 (.app (.o 50) (.r 57)),
       .setR 58 (.con .none),
       .setR 10 (.o 50)])
     (.seq
      (.is [.setR 60 (.r 0),
        .setR 61 (.r 1),
        .setR 62 (.r 2),
        .call [] 63 37 [(.r 60), (.r 61), (.r 62)],
        .setR 59 (.r 63),
        .setR 64 (.tget (.r 59) 0),
        .setR 65 (.tget (.r 59) 1),
        .setR 11 (.r 64),
        .setR 12 (.r 65)])
      (.seq
       (.is [.setR 67 (.r 0),
         .setR 68 (.r 1),
         .setR 69 (.r 10),
         .call [] 70 37 [(.r 67), (.r 68), (.r 69)],
         .setR 66 (.r 70),
         .setR 71 (.tget (.r 66) 0),
         .setR 72 (.tget (.r 66) 1),
         .setR 13 (.r 71),
         .setR 14 (.r 72)])
       (.seq
        (.seq
         (.is [.setR 73 (.r 12),
           .setR 74 (.nt (.r 73)),
           .setR 75 (.r 74),
           .setR 76 (.r 14),
           .setR 77 (.nt (.r 76)),
           .setR 78 (.pick (.r 75) (.con (.bool true)) (.r 77))])
         (.ite (.r 78) [8] []
          (.seq
           (.is [.setR 8 (.con (.bool false))])
           (.ret (.r 8)))
          .skip))
        (.seq
         (.is [.setR 79 (.r 0),
           .setR 80 (.llen (.r 79)),
           .setR 81 (.ai .sub .i64 (.r 80) (.con (.int 1))),
           .setR 15 (.r 81)])
         (.seq
          (.is [.setO 16 (.con (.list [])),
            .setR 16 (.con .none)])
          (.seq
           (.is [.setO 17 (.con (.list [])),
             .setR 17 (.con .none)])
           (.seq
            (.seq
             (.is [.setR 18 (.con (.int 0))])
             lp10_0)
            (.seq
             (.is [.setR 124 (.r 0),
               .setR 125 (.r 15),
               .chk (.slok (.r 124) (.con (.int 0)) (.r 125)),
               .setR 126 (.slc (.r 124) (.con (.int 0)) (.r 125)),
               .setR 127 (.r 1),
               .setR 128 (.r 16),
               .call [] 129 37 [(.r 126), (.r 127), (.o 16)],
               .setR 123 (.r 129),
               .setR 130 (.tget (.r 123) 0),
               .setR 131 (.tget (.r 123) 1),
               .setR 19 (.r 130),
               .setR 20 (.r 131)])
             (.seq
              (.is [.setR 132 (.r 9),
                .setR 133 (.r 132),
                .setR 134 (.r 20),
                .setR 135 (.pick (.r 133) (.r 134) (.con (.bool false))),
                .setR 136 (.r 135),
                .setR 137 (.r 19),
                .setR 138 (.r 17),
                .call [(136, true)] 139 15 [(.r 137), (.o 17)],
                .setR 140 (.pick (.r 136) (.r 139) (.con (.bool false))),
                .setR 8 (.r 140)])
              (.ret (.r 8)))))))))))))))
def tr10 : PT :=
 (.call ⟨[(8, (.con (.bool false)))], []⟩ [] 21 26 []
 (.call ⟨[(24, (.r 2)), (23, (.r 1)), (22, (.r 0)), (9, (.r 21))], []⟩ [] 25 27 [(.r 22), (.r 23), (.r 24)]
 (.call ⟨[(30, (.r 2)), (29, (.r 1)), (28, (.r 0)), (27, (.nt (.r 25))), (26, (.nt (.r 25)))], []⟩ [(27, false)] 31 31 [(.r 28), (.r 29), (.r 30)]
 (.ite (.pick (.pick (.pick (.pick (.r 27) (.con (.bool true)) (.nt (.r 31))) (.con (.bool true)) (.ci .lss (.r 3) (.con (.int 0)))) (.con (.bool true)) (.ci .gtr (.r 3) (.llen (.r 2)))) (.con (.bool true)) (.ci .eql (.llen (.r 0)) (.con (.int 0))))
  (.ret (.r 9))
  (.chk (.slok (.r 2) (.r 3) (.llen (.r 2)))
  (.chk (.ci .leq (.llen (.app (.lst []) (.slc (.r 2) (.r 3) (.llen (.r 2))))) (.con (.int 4294967296)))
  (.chk (.slok (.r 2) (.con (.int 0)) (.r 3))
  (.chk (.ci .leq (.llen (.app (.app (.lst []) (.slc (.r 2) (.r 3) (.llen (.r 2)))) (.slc (.r 2) (.con (.int 0)) (.r 3)))) (.con (.int 4294967296)))
  (.call ⟨[(62, (.r 2)), (61, (.r 1)), (60, (.r 0)), (10, (.app (.app (.lst []) (.slc (.r 2) (.r 3) (.llen (.r 2)))) (.slc (.r 2) (.con (.int 0)) (.r 3)))), (58, (.con .none)), (57, (.slc (.r 2) (.con (.int 0)) (.r 3))), (56, (.r 3)), (55, (.r 2)), (54, (.con .none)), (53, (.slc (.r 2) (.r 3) (.llen (.r 2)))), (52, (.r 3)), (51, (.r 2)), (50, (.con .none)), (8, (.r 8)), (48, (.pick (.pick (.pick (.pick (.r 27) (.con (.bool true)) (.nt (.r 31))) (.con (.bool true)) (.ci .lss (.r 3) (.con (.int 0)))) (.con (.bool true)) (.ci .gtr (.r 3) (.llen (.r 2)))) (.con (.bool true)) (.ci .eql (.llen (.r 0)) (.con (.int 0))))), (47, (.ci .eql (.llen (.r 0)) (.con (.int 0)))), (46, (.llen (.r 0))), (45, (.r 0)), (44, (.pick (.pick (.pick (.r 27) (.con (.bool true)) (.nt (.r 31))) (.con (.bool true)) (.ci .lss (.r 3) (.con (.int 0)))) (.con (.bool true)) (.ci .gtr (.r 3) (.llen (.r 2))))), (43, (.pick (.pick (.pick (.r 27) (.con (.bool true)) (.nt (.r 31))) (.con (.bool true)) (.ci .lss (.r 3) (.con (.int 0)))) (.con (.bool true)) (.ci .gtr (.r 3) (.llen (.r 2))))), (42, (.ci .gtr (.r 3) (.llen (.r 2)))), (41, (.llen (.r 2))), (40, (.r 2)), (39, (.r 3)), (38, (.pick (.pick (.r 27) (.con (.bool true)) (.nt (.r 31))) (.con (.bool true)) (.ci .lss (.r 3) (.con (.int 0))))), (37, (.pick (.pick (.r 27) (.con (.bool true)) (.nt (.r 31))) (.con (.bool true)) (.ci .lss (.r 3) (.con (.int 0))))), (36, (.ci .lss (.r 3) (.con (.int 0)))), (35, (.r 3)), (34, (.pick (.r 27) (.con (.bool true)) (.nt (.r 31)))), (33, (.pick (.r 27) (.con (.bool true)) (.nt (.r 31)))), (32, (.nt (.r 31)))], [(50, (.app (.app (.lst []) (.slc (.r 2) (.r 3) (.llen (.r 2)))) (.slc (.r 2) (.con (.int 0)) (.r 3)))), (50, (.app (.lst []) (.slc (.r 2) (.r 3) (.llen (.r 2))))), (50, (.lst []))]⟩ [] 63 37 [(.r 60), (.r 61), (.r 62)]
  (.call ⟨[(69, (.r 10)), (68, (.r 1)), (67, (.r 0)), (12, (.tget (.r 63) 1)), (11, (.tget (.r 63) 0)), (65, (.tget (.r 63) 1)), (64, (.tget (.r 63) 0)), (59, (.r 63))], []⟩ [] 70 37 [(.r 67), (.r 68), (.r 69)]
  (.ite (.pick (.nt (.r 12)) (.con (.bool true)) (.nt (.tget (.r 70) 1)))
   (.ret (.con (.bool false)))
   (.brk ⟨[(18, (.con (.int 0))), (17, (.con .none)), (16, (.con .none)), (15, (.ai .sub .i64 (.llen (.r 0)) (.con (.int 1)))), (81, (.ai .sub .i64 (.llen (.r 0)) (.con (.int 1)))), (80, (.llen (.r 0))), (79, (.r 0)), (8, (.r 8)), (78, (.pick (.nt (.r 12)) (.con (.bool true)) (.nt (.tget (.r 70) 1)))), (77, (.nt (.tget (.r 70) 1))), (76, (.tget (.r 70) 1)), (75, (.nt (.r 12))), (74, (.nt (.r 12))), (73, (.r 12)), (14, (.tget (.r 70) 1)), (13, (.tget (.r 70) 0)), (72, (.tget (.r 70) 1)), (71, (.tget (.r 70) 0)), (66, (.r 70))], [(17, (.con (.list []))), (16, (.con (.list [])))]⟩
    lp10_0
   (.chk (.slok (.r 0) (.con (.int 0)) (.r 15))
   (.call ⟨[(128, (.r 16)), (127, (.r 1)), (126, (.slc (.r 0) (.con (.int 0)) (.r 15))), (125, (.r 15)), (124, (.r 0))], []⟩ [] 129 37 [(.r 126), (.r 127), (.o 16)]
   (.call ⟨[(138, (.r 17)), (137, (.tget (.r 129) 0)), (136, (.pick (.r 9) (.tget (.r 129) 1) (.con (.bool false)))), (135, (.pick (.r 9) (.tget (.r 129) 1) (.con (.bool false)))), (134, (.tget (.r 129) 1)), (133, (.r 9)), (132, (.r 9)), (20, (.tget (.r 129) 1)), (19, (.tget (.r 129) 0)), (131, (.tget (.r 129) 1)), (130, (.tget (.r 129) 0)), (123, (.r 129))], []⟩ [(136, true)] 139 15 [(.r 137), (.o 17)]
   (.ret (.pick (.r 136) (.r 139) (.con (.bool false)))))))))))))))))))
theorem tr10_eq : tree pc10 = tr10 := by kernel_rfl

noncomputable def ctx : Ctx := { P := Try.prog, cap := lookL capL, sig := lookL sigL, msig := fun _ => none, glob := fun _ => none }
theorem ok7 : compF { ctx with fr := [10, 11, 12, 13, 14, 15], nh := [] } Try.f7 ((lookL sigL 7).getD default) [] = some pc7 := by kernel_rfl
theorem ok26 : compF { ctx with fr := [0, 1, 2, 3, 4, 5, 6, 7], nh := [] } Try.f26 ((lookL sigL 26).getD default) [] = some pc26 := by kernel_rfl
theorem ok46 : compF { ctx with fr := [8, 10, 11, 12, 13], nh := [] } Try.f46 ((lookL sigL 46).getD default) [9, 26] = some pc46 := by kernel_rfl
theorem ok28 : compF { ctx with fr := [6, 7, 9, 11, 13, 15, 17], nh := [] } Try.f28 ((lookL sigL 28).getD default) [5, 8, 4104, 31, 10, 4106, 12, 14, 16] = some pc28 := by kernel_rfl
theorem ok31 : compF { ctx with fr := [6, 10], nh := [] } Try.f31 ((lookL sigL 31).getD default) [8, 11, 13, 14] = some pc31 := by kernel_rfl
theorem ok51 : compF { ctx with fr := [6], nh := [] } Try.f51 ((lookL sigL 51).getD default) [] = some pc51 := by kernel_rfl
theorem ok47 : compF { ctx with fr := [10, 11, 12, 14, 15, 17], nh := [] } Try.f47 ((lookL sigL 47).getD default) [900, 901, 902, 903, 904, 13, 16] = some pc47 := by kernel_rfl
theorem ok54 : compF { ctx with fr := [6, 7, 8, 9, 10], nh := [] } Try.f54 ((lookL sigL 54).getD default) [] = some pc54 := by kernel_rfl
theorem ok56 : compF { ctx with fr := [4, 5, 6, 7, 8, 9, 10, 11, 12, 13], nh := [] } Try.f56 ((lookL sigL 56).getD default) [] = some pc56 := by kernel_rfl
theorem ok57 : compF { ctx with fr := [6, 7, 8, 2, 9, 10, 11, 12, 13, 14, 15, 16, 17, 18], nh := [] } Try.f57 ((lookL sigL 57).getD default) [] = some pc57 := by kernel_rfl
theorem ok61 : compF { ctx with fr := [2], nh := [] } Try.f61 ((lookL sigL 61).getD default) [] = some pc61 := by kernel_rfl
theorem ok65 : compF { ctx with fr := [2, 0], nh := [] } Try.f65 ((lookL sigL 65).getD default) [] = some pc65 := by kernel_rfl
theorem ok48 : compF { ctx with fr := [], nh := [] } Try.f48 ((lookL sigL 48).getD default) [900, 901, 902, 903, 904] = some pc48 := by kernel_rfl
theorem ok35 : compF { ctx with fr := [6, 8], nh := [] } Try.f35 ((lookL sigL 35).getD default) [7, 9, 11] = some pc35 := by kernel_rfl
theorem ok15 : compF { ctx with fr := [4, 5], nh := [] } Try.f15 ((lookL sigL 15).getD default) [] = some pc15 := by kernel_rfl
theorem ok33 : compF { ctx with fr := [6, 7], nh := [] } Try.f33 ((lookL sigL 33).getD default) [9] = some pc33 := by kernel_rfl
theorem ok27 : compF { ctx with fr := [6], nh := [] } Try.f27 ((lookL sigL 27).getD default) [] = some pc27 := by kernel_rfl
theorem ok29 : compF { ctx with fr := [6, 7, 8, 9, 10, 11, 12, 13, 15], nh := [] } Try.f29 ((lookL sigL 29).getD default) [14, 66] = some pc29 := by kernel_rfl
theorem ok32 : compF { ctx with fr := [6, 7, 8, 9, 11], nh := [] } Try.f32 ((lookL sigL 32).getD default) [10] = some pc32 := by kernel_rfl
theorem ok52 : compF { ctx with fr := [6], nh := [] } Try.f52 ((lookL sigL 52).getD default) [] = some pc52 := by kernel_rfl
theorem ok49 : compF { ctx with fr := [10, 12, 13, 14, 15], nh := [] } Try.f49 ((lookL sigL 49).getD default) [11] = some pc49 := by kernel_rfl
theorem ok39 : compF { ctx with fr := [8, 9, 10], nh := [] } Try.f39 ((lookL sigL 39).getD default) [] = some pc39 := by kernel_rfl
theorem ok55 : compF { ctx with fr := [6, 7, 8], nh := [] } Try.f55 ((lookL sigL 55).getD default) [] = some pc55 := by kernel_rfl
theorem ok60 : compF { ctx with fr := [2, 4, 5, 0], nh := [] } Try.f60 ((lookL sigL 60).getD default) [3] = some pc60 := by kernel_rfl
theorem ok59 : compF { ctx with fr := [4, 6, 7, 8], nh := [] } Try.f59 ((lookL sigL 59).getD default) [5] = some pc59 := by kernel_rfl
theorem ok58 : compF { ctx with fr := [4, 5, 8], nh := [] } Try.f58 ((lookL sigL 58).getD default) [6, 7] = some pc58 := by kernel_rfl
theorem ok62 : compF { ctx with fr := [6, 7], nh := [] } Try.f62 ((lookL sigL 62).getD default) [4, 5] = some pc62 := by kernel_rfl
theorem ok63 : compF { ctx with fr := [4, 5], nh := [] } Try.f63 ((lookL sigL 63).getD default) [] = some pc63 := by kernel_rfl
theorem ok64 : compF { ctx with fr := [6, 7, 8], nh := [] } Try.f64 ((lookL sigL 64).getD default) [4, 5] = some pc64 := by kernel_rfl
theorem ok50 : compF { ctx with fr := [2, 3, 4], nh := [] } Try.f50 ((lookL sigL 50).getD default) [] = some pc50 := by kernel_rfl
theorem ok30 : compF { ctx with fr := [4, 5], nh := [] } Try.f30 ((lookL sigL 30).getD default) [] = some pc30 := by kernel_rfl
theorem ok34 : compF { ctx with fr := [6, 7, 8, 9], nh := [] } Try.f34 ((lookL sigL 34).getD default) [] = some pc34 := by kernel_rfl
theorem ok36 : compF { ctx with fr := [6, 8, 9, 10, 11], nh := [] } Try.f36 ((lookL sigL 36).getD default) [7, 58] = some pc36 := by kernel_rfl
theorem ok8 : compF { ctx with fr := [6, 7, 8, 9, 10, 11, 12, 13, 14, 15, 16, 17, 18, 19], nh := [] } Try.f8 ((lookL sigL 8).getD default) [] = some pc8 := by kernel_rfl
theorem ok37 : compF { ctx with fr := [6, 7, 8, 9, 11], nh := [] } Try.f37 ((lookL sigL 37).getD default) [10, 55] = some pc37 := by kernel_rfl
theorem ok9 : compF { ctx with fr := [6, 7, 8, 9, 10, 11, 12, 13, 14, 15], nh := [] } Try.f9 ((lookL sigL 9).getD default) [] = some pc9 := by kernel_rfl
theorem ok38 : compF { ctx with fr := [6, 8], nh := [] } Try.f38 ((lookL sigL 38).getD default) [7] = some pc38 := by kernel_rfl
theorem ok10 : compF { ctx with fr := [8, 9, 10, 11, 12, 13, 14, 15, 18, 19, 20], nh := [] } Try.f10 ((lookL sigL 10).getD default) [50, 16, 17] = some pc10 := by kernel_rfl
def pcL : List (Nat × PC) := [(7, pc7), (26, pc26), (46, pc46), (28, pc28), (31, pc31), (51, pc51), (47, pc47), (54, pc54), (56, pc56), (57, pc57), (61, pc61), (65, pc65), (48, pc48), (35, pc35), (15, pc15), (33, pc33), (27, pc27), (29, pc29), (32, pc32), (52, pc52), (49, pc49), (39, pc39), (55, pc55), (60, pc60), (59, pc59), (58, pc58), (62, pc62), (63, pc63), (64, pc64), (50, pc50), (30, pc30), (34, pc34), (36, pc36), (8, pc8), (37, pc37), (9, pc9), (38, pc38), (10, pc10)]
def pcN : List Nat := [7, 26, 46, 28, 31, 51, 47, 54, 56, 57, 61, 65, 48, 35, 15, 33, 27, 29, 32, 52, 49, 39, 55, 60, 59, 58, 62, 63, 64, 50, 30, 34, 36, 8, 37, 9, 38, 10]
noncomputable def tab : Nat → Option PC := lookL pcL
theorem caps : ∀ f cs, lookL capL f = some cs → (itOf cs.args cs.res = none → lookL sigL f = some ⟨cs.args ++ cs.caps, cs.res, .dat⟩) ∧ ∀ ys, itOf cs.args cs.res = some ys → memB pcN f = false ∧ thereF Try.prog f = true := capsB_ok (l := capL) (sig := sigL) (P := Try.prog) (pcs := pcN) (by kernel_rfl)
theorem clos : ClosOK ctx := ⟨(fun f cs h => (caps f cs h).1), fun f s h => thereB_ok (l := sigL) (P := Try.prog) (by kernel_rfl) f s h⟩
theorem its : ∀ f cs ys, ctx.cap f = some cs → itOf cs.args cs.res = some ys → tab f = none ∧ ∃ fn, ctx.P.funcs[f]? = some fn ∧ fn.body.isSome = true ∧ (fn.name == "runtime.NumGoroutine") = false := fun f cs ys h hi => ⟨lookL_none ((caps f cs h).2 ys hi).1, thereF_ok ((caps f cs h).2 ys hi).2⟩
theorem tabs : ∀ f pc, tab f = some pc → ∃ fn s ids fr nh, ctx.P.funcs[f]? = some fn ∧ ctx.sig f = some s ∧ compF { ctx with fr := fr, nh := nh } fn s ids = some pc :=
  look_all (R := fun f pc => ∃ fn s ids fr nh, ctx.P.funcs[f]? = some fn ∧ ctx.sig f = some s ∧ compF { ctx with fr := fr, nh := nh } fn s ids = some pc) (l := pcL) ⟨
    ⟨Try.f7, _, [], [10, 11, 12, 13, 14, 15], [], Try.func7, rfl, ok7⟩,
    ⟨Try.f26, _, [], [0, 1, 2, 3, 4, 5, 6, 7], [], Try.func26, rfl, ok26⟩,
    ⟨Try.f46, _, [9, 26], [8, 10, 11, 12, 13], [], Try.func46, rfl, ok46⟩,
    ⟨Try.f28, _, [5, 8, 4104, 31, 10, 4106, 12, 14, 16], [6, 7, 9, 11, 13, 15, 17], [], Try.func28, rfl, ok28⟩,
    ⟨Try.f31, _, [8, 11, 13, 14], [6, 10], [], Try.func31, rfl, ok31⟩,
    ⟨Try.f51, _, [], [6], [], Try.func51, rfl, ok51⟩,
    ⟨Try.f47, _, [900, 901, 902, 903, 904, 13, 16], [10, 11, 12, 14, 15, 17], [], Try.func47, rfl, ok47⟩,
    ⟨Try.f54, _, [], [6, 7, 8, 9, 10], [], Try.func54, rfl, ok54⟩,
    ⟨Try.f56, _, [], [4, 5, 6, 7, 8, 9, 10, 11, 12, 13], [], Try.func56, rfl, ok56⟩,
    ⟨Try.f57, _, [], [6, 7, 8, 2, 9, 10, 11, 12, 13, 14, 15, 16, 17, 18], [], Try.func57, rfl, ok57⟩,
    ⟨Try.f61, _, [], [2], [], Try.func61, rfl, ok61⟩,
    ⟨Try.f65, _, [], [2, 0], [], Try.func65, rfl, ok65⟩,
    ⟨Try.f48, _, [900, 901, 902, 903, 904], [], [], Try.func48, rfl, ok48⟩,
    ⟨Try.f35, _, [7, 9, 11], [6, 8], [], Try.func35, rfl, ok35⟩,
    ⟨Try.f15, _, [], [4, 5], [], Try.func15, rfl, ok15⟩,
    ⟨Try.f33, _, [9], [6, 7], [], Try.func33, rfl, ok33⟩,
    ⟨Try.f27, _, [], [6], [], Try.func27, rfl, ok27⟩,
    ⟨Try.f29, _, [14, 66], [6, 7, 8, 9, 10, 11, 12, 13, 15], [], Try.func29, rfl, ok29⟩,
    ⟨Try.f32, _, [10], [6, 7, 8, 9, 11], [], Try.func32, rfl, ok32⟩,
    ⟨Try.f52, _, [], [6], [], Try.func52, rfl, ok52⟩,
    ⟨Try.f49, _, [11], [10, 12, 13, 14, 15], [], Try.func49, rfl, ok49⟩,
    ⟨Try.f39, _, [], [8, 9, 10], [], Try.func39, rfl, ok39⟩,
    ⟨Try.f55, _, [], [6, 7, 8], [], Try.func55, rfl, ok55⟩,
    ⟨Try.f60, _, [3], [2, 4, 5, 0], [], Try.func60, rfl, ok60⟩,
    ⟨Try.f59, _, [5], [4, 6, 7, 8], [], Try.func59, rfl, ok59⟩,
    ⟨Try.f58, _, [6, 7], [4, 5, 8], [], Try.func58, rfl, ok58⟩,
    ⟨Try.f62, _, [4, 5], [6, 7], [], Try.func62, rfl, ok62⟩,
    ⟨Try.f63, _, [], [4, 5], [], Try.func63, rfl, ok63⟩,
    ⟨Try.f64, _, [4, 5], [6, 7, 8], [], Try.func64, rfl, ok64⟩,
    ⟨Try.f50, _, [], [2, 3, 4], [], Try.func50, rfl, ok50⟩,
    ⟨Try.f30, _, [], [4, 5], [], Try.func30, rfl, ok30⟩,
    ⟨Try.f34, _, [], [6, 7, 8, 9], [], Try.func34, rfl, ok34⟩,
    ⟨Try.f36, _, [7, 58], [6, 8, 9, 10, 11], [], Try.func36, rfl, ok36⟩,
    ⟨Try.f8, _, [], [6, 7, 8, 9, 10, 11, 12, 13, 14, 15, 16, 17, 18, 19], [], Try.func8, rfl, ok8⟩,
    ⟨Try.f37, _, [10, 55], [6, 7, 8, 9, 11], [], Try.func37, rfl, ok37⟩,
    ⟨Try.f9, _, [], [6, 7, 8, 9, 10, 11, 12, 13, 14, 15], [], Try.func9, rfl, ok9⟩,
    ⟨Try.f38, _, [7], [6, 8], [], Try.func38, rfl, ok38⟩,
    ⟨Try.f10, _, [50, 16, 17], [8, 9, 10, 11, 12, 13, 14, 15, 18, 19, 20], [], Try.func10, rfl, ok10⟩, trivial⟩
end Esta
