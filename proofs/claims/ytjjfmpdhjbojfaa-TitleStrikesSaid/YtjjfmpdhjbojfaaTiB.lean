/-
  The functions of this seat, compiled (2); the table.
-/
import Derived.Test.YtjjfmpdhjbojfaaProg
import Derived.Test.YtjjfmpdhjbojfaaTiA
set_option maxRecDepth 100000
namespace Title
open Go Go.Proofs Cx


/-! allonge/allongelaw13.TitleStrikes -/
def bd7_0 : PC :=
 (.seq
  (.seq
   (.is [.setR 49 (.r 14),
     .setR 50 (.con .none),
     .setR 51 (.cell (.o 12) 0),
     .setR 52 (.llen (.r 51)),
     .setR 53 (.ci .lss (.r 49) (.r 52))])
   (.ite (.r 53) [] []
    .skip
    (.exit 0)))
  (.seq
   (.block 1 [13, 56, 57, 65] []
    (.is [.setR 56 (.r 13),
      .setR 57 (.r 56),
      .setR 58 (.con .none),
      .setR 59 (.cell (.o 12) 0),
      .setR 60 (.r 14),
      .chk (.imp [(57, false)] (.idx (.r 59) (.r 60))),
      .setR 61 (.ref (.nth (.r 59) (.r 60))),
      .setR 62 (.deref (.r 61)),
      .setR 63 (.r 3),
      .setR 64 (.ci .eql (.r 62) (.r 63)),
      .setR 65 (.pick (.r 57) (.con (.bool true)) (.r 64)),
      .setR 13 (.r 65)]))
   (.is [.setR 54 (.r 14),
     .setR 55 (.ai .add .i64 (.r 54) (.con (.int 1))),
     .setR 14 (.r 55)])))
def lp7_0 : PC := .block 0 [13, 14, 49, 50, 51, 52, 53] [] (.loop [13, 14] [] bd7_0)
def rd7_0 : PT :=
 (.ite (.ci .lss (.r 14) (.llen (.cell (.o 12) 0)))
  (.chk (.nt (.an (.an (.nt (.r 13)) (.con (.bool true))) (.nt (.idx (.cell (.o 12) 0) (.r 14)))))
  (.next ⟨[(13, (.pick (.r 13) (.con (.bool true)) (.ci .eql (.nth (.cell (.o 12) 0) (.r 14)) (.r 3)))), (14, (.ai .add .i64 (.r 14) (.con (.int 1))))], []⟩))
  (.exit 0 ⟨[(13, (.r 13)), (14, (.r 14)), (49, (.r 14)), (50, (.con .none)), (51, (.cell (.o 12) 0)), (52, (.llen (.cell (.o 12) 0))), (53, (.ci .lss (.r 14) (.llen (.cell (.o 12) 0))))], []⟩))
theorem rd7_0_eq : round 0 [13, 14, 49, 50, 51, 52, 53] [] [13, 14] [] bd7_0 = rd7_0 := by kernel_rfl
def pc7 : PC :=
 (.seq
  (.is [.setO 5 (.mk [(.r 0)]),
    .setR 5 (.con .none),
    .setR 10 (.con (.bool false))])
  (.seq
   (.is [.call [] 18 9 [],
     .setR 11 (.r 18)])
   (.seq
    (.seq
     (.is [.setR 19 (mkA 19 (.o 5)),
       .call [] 20 10 [(.r 19)],
       .setR 21 (.nt (.r 20))])
     (.ite (.r 21) [10] []
      (.seq
       (.is [.setR 22 (.r 11),
         .setR 10 (.r 22)])
       (.ret (.r 10)))
      .skip))
    (.seq
     (.seq
      (.is [.setR 23 (mkA 19 (.o 5)),
        .setR 24 (.r 3),
        .setR 25 (.r 2),
        .call [] 26 11 [(.r 23), (.r 24), (.r 25)],
        .setR 27 (.r 26),
        .setR 28 (mkA 19 (.o 5)),
        .setR 29 (.r 3),
        .setR 30 (.r 2),
        .setR 31 (.r 4),
        .setR 32 (.conv .i64 (.r 31)),
        .setR 33 (.ai .add .i64 (.r 30) (.r 32)),
        .call [(27, true)] 34 11 [(.r 28), (.r 29), (.r 33)],
        .setR 35 (.nt (.r 34)),
        .setR 36 (.pick (.r 27) (.r 35) (.con (.bool false))),
        .setR 37 (.r 36),
        .setR 38 (.r 2),
        .setR 39 (.ci .leq (.r 38) (.con (.int 100000))),
        .setR 40 (.pick (.r 37) (.r 39) (.con (.bool false)))])
      (.ite (.r 40) [10] []
       (.seq
        (.is [.setR 10 (.con (.bool false))])
        (.ret (.r 10)))
       .skip))
     (.seq
      (.is [.setR 41 (mkA 19 (.o 5)),
        .setR 42 (.r 1),
        .setR 43 (.r 2),
        .call [] 44 14 [(.r 41), (.r 42), (.r 43)],
        .setO 12 (.con (.agg [(.list []), (.int 0), (.int 0), (.bool false), (.int 0), (.list [])])),
        .setR 12 (.con .none),
        .setO 4108 (.con (.list [])),
        .setO 24588 (.con (.list [])),
        .setO 12 (.setc (.o 12) 0 (.r 44))])
      (.seq
       (.is [.setR 45 (.r 3),
         .setR 46 (.con .none),
         .setR 47 (.cell (.o 12) 2),
         .setR 48 (.ci .eql (.r 45) (.r 47)),
         .setR 13 (.r 48)])
       (.seq
        (.seq
         (.is [.setR 14 (.con (.int 0))])
         lp7_0)
        (.seq
         (.is [.setR 66 (mkA 19 (.o 5)),
           .setO 15 (.con (.agg [(.int 0), (.int 0), (.int 0), (.int 0), (.int 0), (.int 0), (.int 0), (.int 0), (.int 0), (.int 0), (.int 0), (.int 0), (.int 0), (.int 0), (.int 0), (.list []), (.list []), (.list []), (.list [])])),
           .setR 15 (.con .none),
           .setO 65551 (.con (.list [])),
           .setO 69647 (.con (.list [])),
           .setO 73743 (.con (.list [])),
           .setO 77839 (.con (.list [])),
           .setO 15 (.setc (.o 15) 0 (.r 66))])
         (.seq
          (.is [.setO 67 (.lst []),
            .setR 67 (.con .none),
            .setR 68 (.con .none),
            .setR 69 (.cell (.o 5) 17),
            .chk (.ci .leq (.llen (.app (.o 67) (.r 69))) (.con (.int 4294967296))),
            .setO 67 (.app (.o 67) (.r 69)),
            .setR 70 (.con .none),
            .setR 71 (.r 3),
            .setR 72 (.r 2),
            .setR 73 (.mk [(.con (.int 7)), (.con (.int 0)), (.con (.int 0)), (.con (.int 0)), (.r 71), (.con (.int 0)), (.r 72), (.con (.int 0)), (.con (.int 0))]),
            .setO 74 (.lst [(.r 73)]),
            .setR 74 (.con .none),
            .chk (.ci .leq (.llen (.app (.o 67) (.o 74))) (.con (.int 4294967296))),
            .setO 67 (.app (.o 67) (.o 74)),
            .setR 75 (.con .none),
            .setR 76 (.con .none),
            .setO 15 (.setc (.o 15) 17 (.con .none)),
            .setO 73743 (.o 67)])
          (.seq
           (.seq
            (.is [.setR 77 (.r 13),
              .setR 78 (.nt (.r 77)),
              .setR 79 (.r 78),
              .setR 80 (.mk [(.cell (.o 15) 0), (.cell (.o 15) 1), (.cell (.o 15) 2), (.cell (.o 15) 3), (.cell (.o 15) 4), (.cell (.o 15) 5), (.cell (.o 15) 6), (.cell (.o 15) 7), (.cell (.o 15) 8), (.cell (.o 15) 9), (.cell (.o 15) 10), (.cell (.o 15) 11), (.cell (.o 15) 12), (.cell (.o 15) 13), (.cell (.o 15) 14), (.cell (.o 15) 15), (.cell (.o 15) 16), (.o 73743), (.cell (.o 15) 18)]),
              .setR 81 (.r 1),
              .setR 82 (.r 2),
              .call [(79, true)] 83 14 [(.r 80), (.r 81), (.r 82)],
              .setR 84 (mkA 6 (.o 12)),
              .call [(79, true)] 85 13 [(.r 83), (.r 84)],
              .setR 86 (.nt (.r 85)),
              .setR 87 (.pick (.r 79) (.r 86) (.con (.bool false)))])
            (.ite (.r 87) [10] []
             (.seq
              (.is [.setR 10 (.con (.bool false))])
              (.ret (.r 10)))
             .skip))
           (.seq
            (.seq
             (.is [.setR 88 (.con .none),
               .setR 89 (.cell (.o 12) 2),
               .setR 90 (.ci .neq (.r 89) (.con (.int (-1)))),
               .setR 91 (.r 90),
               .setR 92 (.con .none),
               .setR 93 (.cell (.o 12) 0),
               .setR 94 (.llen (.r 93)),
               .setR 95 (.ci .eql (.r 94) (.con (.int 0))),
               .setR 96 (.pick (.r 91) (.con (.bool true)) (.r 95))])
             (.ite (.r 96) [10] []
              (.seq
               (.is [.setR 97 (.r 11),
                 .setR 10 (.r 97)])
               (.ret (.r 10)))
              .skip))
            (.seq
             (.is [.setR 98 (.con .none),
               .setR 99 (.cell (.o 12) 0),
               .setR 100 (.con .none),
               .setR 101 (.cell (.o 12) 0),
               .setR 102 (.llen (.r 101)),
               .setR 103 (.ai .sub .i64 (.r 102) (.con (.int 1))),
               .chk (.idx (.r 99) (.r 103)),
               .setR 104 (.ref (.nth (.r 99) (.r 103))),
               .setR 105 (.deref (.r 104)),
               .setR 16 (.r 105)])
             (.seq
              (.is [.setO 106 (.lst []),
                .setR 106 (.con .none),
                .setR 107 (.con .none),
                .setR 108 (.cell (.o 5) 17),
                .chk (.ci .leq (.llen (.app (.o 106) (.r 108))) (.con (.int 4294967296))),
                .setO 106 (.app (.o 106) (.r 108)),
                .setR 109 (.con .none),
                .setR 110 (.r 16),
                .setR 111 (.r 2),
                .setR 112 (.mk [(.con (.int 7)), (.con (.int 0)), (.con (.int 0)), (.con (.int 0)), (.r 110), (.con (.int 0)), (.r 111), (.con (.int 0)), (.con (.int 0))]),
                .setO 113 (.lst [(.r 112)]),
                .setR 113 (.con .none),
                .chk (.ci .leq (.llen (.app (.o 106) (.o 113))) (.con (.int 4294967296))),
                .setO 106 (.app (.o 106) (.o 113)),
                .setR 114 (.con .none),
                .setR 115 (.con .none),
                .setO 15 (.setc (.o 15) 17 (.con .none)),
                .setO 73743 (.o 106)])
              (.seq
               (.is [.setR 116 (mkA 19 (.o 5)),
                 .setO 17 (.con (.agg [(.int 0), (.int 0), (.int 0), (.int 0), (.int 0), (.int 0), (.int 0), (.int 0), (.int 0), (.int 0), (.int 0), (.int 0), (.int 0), (.int 0), (.int 0), (.list []), (.list []), (.list []), (.list [])])),
                 .setR 17 (.con .none),
                 .setO 65553 (.con (.list [])),
                 .setO 69649 (.con (.list [])),
                 .setO 73745 (.con (.list [])),
                 .setO 77841 (.con (.list [])),
                 .setO 17 (.setc (.o 17) 0 (.r 116))])
               (.seq
                (.is [.setO 117 (.lst []),
                  .setR 117 (.con .none),
                  .setR 118 (.con .none),
                  .setR 119 (.cell (.o 5) 15),
                  .chk (.ci .leq (.llen (.app (.o 117) (.r 119))) (.con (.int 4294967296))),
                  .setO 117 (.app (.o 117) (.r 119)),
                  .setR 120 (.con .none),
                  .setR 121 (.con .none),
                  .setO 17 (.setc (.o 17) 15 (.con .none)),
                  .setO 65553 (.o 117)])
                (.seq
                 (.seq
                  (.is [.setR 122 (.r 16),
                    .setR 123 (.ci .lss (.r 122) (.con (.int 0))),
                    .setR 124 (.r 123),
                    .setR 125 (.r 16),
                    .setR 126 (.con .none),
                    .setR 127 (.con .none),
                    .setR 128 (.llen (.o 65553)),
                    .setR 129 (.ci .geq (.r 125) (.r 128)),
                    .setR 130 (.pick (.r 124) (.con (.bool true)) (.r 129))])
                  (.ite (.r 130) [10] []
                   (.seq
                    (.is [.setR 10 (.con (.bool false))])
                    (.ret (.r 10)))
                   .skip))
                 (.seq
                  (.is [.setR 131 (.con .none),
                    .setR 132 (.con .none),
                    .setR 133 (.r 16),
                    .chk (.idx (.o 65553) (.r 133)),
                    .setR 134 (.r 133),
                    .setR 135 (.r 134),
                    .setO 65553 (.setn (.o 65553) (.r 135) 0 (.con (.int 1)))])
                  (.seq
                   (.is [.setR 136 (.r 11),
                     .setR 137 (.r 136),
                     .setR 138 (.mk [(.cell (.o 15) 0), (.cell (.o 15) 1), (.cell (.o 15) 2), (.cell (.o 15) 3), (.cell (.o 15) 4), (.cell (.o 15) 5), (.cell (.o 15) 6), (.cell (.o 15) 7), (.cell (.o 15) 8), (.cell (.o 15) 9), (.cell (.o 15) 10), (.cell (.o 15) 11), (.cell (.o 15) 12), (.cell (.o 15) 13), (.cell (.o 15) 14), (.cell (.o 15) 15), (.cell (.o 15) 16), (.o 73743), (.cell (.o 15) 18)]),
                     .setR 139 (.r 1),
                     .setR 140 (.r 2),
                     .call [(137, true)] 141 14 [(.r 138), (.r 139), (.r 140)],
                     .setR 142 (.mk [(.cell (.o 17) 0), (.cell (.o 17) 1), (.cell (.o 17) 2), (.cell (.o 17) 3), (.cell (.o 17) 4), (.cell (.o 17) 5), (.cell (.o 17) 6), (.cell (.o 17) 7), (.cell (.o 17) 8), (.cell (.o 17) 9), (.cell (.o 17) 10), (.cell (.o 17) 11), (.cell (.o 17) 12), (.cell (.o 17) 13), (.cell (.o 17) 14), (.o 65553), (.cell (.o 17) 16), (.cell (.o 17) 17), (.cell (.o 17) 18)]),
                     .setR 143 (.r 1),
                     .setR 144 (.r 2),
                     .call [(137, true)] 145 14 [(.r 142), (.r 143), (.r 144)],
                     .call [(137, true)] 146 13 [(.r 141), (.r 145)],
                     .setR 147 (.pick (.r 137) (.r 146) (.con (.bool false))),
                     .setR 10 (.r 147)])
                   (.ret (.r 10))))))))))))))))))))
def tr7 : PT :=
 (.call ⟨[(10, (.con (.bool false))), (5, (.con .none))], [(5, (.mk [(.r 0)]))]⟩ [] 18 9 []
 (.call ⟨[(19, (mkA 19 (.o 5))), (11, (.r 18))], []⟩ [] 20 10 [(.r 19)]
 (.ite (.nt (.r 20))
  (.ret (.r 11))
  (.call ⟨[(25, (.r 2)), (24, (.r 3)), (23, (mkA 19 (.o 5))), (10, (.r 10)), (21, (.nt (.r 20)))], []⟩ [] 26 11 [(.r 23), (.r 24), (.r 25)]
  (.call ⟨[(33, (.ai .add .i64 (.r 2) (.conv .i64 (.r 4)))), (32, (.conv .i64 (.r 4))), (31, (.r 4)), (30, (.r 2)), (29, (.r 3)), (28, (mkA 19 (.o 5))), (27, (.r 26))], []⟩ [(27, true)] 34 11 [(.r 28), (.r 29), (.r 33)]
  (.ite (.pick (.pick (.r 27) (.nt (.r 34)) (.con (.bool false))) (.ci .leq (.r 2) (.con (.int 100000))) (.con (.bool false)))
   (.ret (.con (.bool false)))
   (.call ⟨[(43, (.r 2)), (42, (.r 1)), (41, (mkA 19 (.o 5))), (10, (.r 10)), (40, (.pick (.pick (.r 27) (.nt (.r 34)) (.con (.bool false))) (.ci .leq (.r 2) (.con (.int 100000))) (.con (.bool false)))), (39, (.ci .leq (.r 2) (.con (.int 100000)))), (38, (.r 2)), (37, (.pick (.r 27) (.nt (.r 34)) (.con (.bool false)))), (36, (.pick (.r 27) (.nt (.r 34)) (.con (.bool false)))), (35, (.nt (.r 34)))], []⟩ [] 44 14 [(.r 41), (.r 42), (.r 43)]
   (.brk ⟨[(14, (.con (.int 0))), (13, (.ci .eql (.r 3) (.cell (.setc (.con (.agg [(.list []), (.int 0), (.int 0), (.bool false), (.int 0), (.list [])])) 0 (.r 44)) 2))), (48, (.ci .eql (.r 3) (.cell (.setc (.con (.agg [(.list []), (.int 0), (.int 0), (.bool false), (.int 0), (.list [])])) 0 (.r 44)) 2))), (47, (.cell (.setc (.con (.agg [(.list []), (.int 0), (.int 0), (.bool false), (.int 0), (.list [])])) 0 (.r 44)) 2)), (46, (.con .none)), (45, (.r 3)), (12, (.con .none))], [(12, (.setc (.con (.agg [(.list []), (.int 0), (.int 0), (.bool false), (.int 0), (.list [])])) 0 (.r 44))), (24588, (.con (.list []))), (4108, (.con (.list []))), (12, (.con (.agg [(.list []), (.int 0), (.int 0), (.bool false), (.int 0), (.list [])])))]⟩
    lp7_0
   (.chk (.ci .leq (.llen (.app (.lst []) (.cell (.o 5) 17))) (.con (.int 4294967296)))
   (.chk (.ci .leq (.llen (.app (.app (.lst []) (.cell (.o 5) 17)) (.lst [(.mk [(.con (.int 7)), (.con (.int 0)), (.con (.int 0)), (.con (.int 0)), (.r 3), (.con (.int 0)), (.r 2), (.con (.int 0)), (.con (.int 0))])]))) (.con (.int 4294967296)))
   (.call ⟨[(82, (.r 2)), (81, (.r 1)), (80, (.mk [(.cell (.setc (.setc (.con (.agg [(.int 0), (.int 0), (.int 0), (.int 0), (.int 0), (.int 0), (.int 0), (.int 0), (.int 0), (.int 0), (.int 0), (.int 0), (.int 0), (.int 0), (.int 0), (.list []), (.list []), (.list []), (.list [])])) 0 (mkA 19 (.o 5))) 17 (.con .none)) 0), (.cell (.setc (.setc (.con (.agg [(.int 0), (.int 0), (.int 0), (.int 0), (.int 0), (.int 0), (.int 0), (.int 0), (.int 0), (.int 0), (.int 0), (.int 0), (.int 0), (.int 0), (.int 0), (.list []), (.list []), (.list []), (.list [])])) 0 (mkA 19 (.o 5))) 17 (.con .none)) 1), (.cell (.setc (.setc (.con (.agg [(.int 0), (.int 0), (.int 0), (.int 0), (.int 0), (.int 0), (.int 0), (.int 0), (.int 0), (.int 0), (.int 0), (.int 0), (.int 0), (.int 0), (.int 0), (.list []), (.list []), (.list []), (.list [])])) 0 (mkA 19 (.o 5))) 17 (.con .none)) 2), (.cell (.setc (.setc (.con (.agg [(.int 0), (.int 0), (.int 0), (.int 0), (.int 0), (.int 0), (.int 0), (.int 0), (.int 0), (.int 0), (.int 0), (.int 0), (.int 0), (.int 0), (.int 0), (.list []), (.list []), (.list []), (.list [])])) 0 (mkA 19 (.o 5))) 17 (.con .none)) 3), (.cell (.setc (.setc (.con (.agg [(.int 0), (.int 0), (.int 0), (.int 0), (.int 0), (.int 0), (.int 0), (.int 0), (.int 0), (.int 0), (.int 0), (.int 0), (.int 0), (.int 0), (.int 0), (.list []), (.list []), (.list []), (.list [])])) 0 (mkA 19 (.o 5))) 17 (.con .none)) 4), (.cell (.setc (.setc (.con (.agg [(.int 0), (.int 0), (.int 0), (.int 0), (.int 0), (.int 0), (.int 0), (.int 0), (.int 0), (.int 0), (.int 0), (.int 0), (.int 0), (.int 0), (.int 0), (.list []), (.list []), (.list []), (.list [])])) 0 (mkA 19 (.o 5))) 17 (.con .none)) 5), (.cell (.setc (.setc (.con (.agg [(.int 0), (.int 0), (.int 0), (.int 0), (.int 0), (.int 0), (.int 0), (.int 0), (.int 0), (.int 0), (.int 0), (.int 0), (.int 0), (.int 0), (.int 0), (.list []), (.list []), (.list []), (.list [])])) 0 (mkA 19 (.o 5))) 17 (.con .none)) 6), (.cell (.setc (.setc (.con (.agg [(.int 0), (.int 0), (.int 0), (.int 0), (.int 0), (.int 0), (.int 0), (.int 0), (.int 0), (.int 0), (.int 0), (.int 0), (.int 0), (.int 0), (.int 0), (.list []), (.list []), (.list []), (.list [])])) 0 (mkA 19 (.o 5))) 17 (.con .none)) 7), (.cell (.setc (.setc (.con (.agg [(.int 0), (.int 0), (.int 0), (.int 0), (.int 0), (.int 0), (.int 0), (.int 0), (.int 0), (.int 0), (.int 0), (.int 0), (.int 0), (.int 0), (.int 0), (.list []), (.list []), (.list []), (.list [])])) 0 (mkA 19 (.o 5))) 17 (.con .none)) 8), (.cell (.setc (.setc (.con (.agg [(.int 0), (.int 0), (.int 0), (.int 0), (.int 0), (.int 0), (.int 0), (.int 0), (.int 0), (.int 0), (.int 0), (.int 0), (.int 0), (.int 0), (.int 0), (.list []), (.list []), (.list []), (.list [])])) 0 (mkA 19 (.o 5))) 17 (.con .none)) 9), (.cell (.setc (.setc (.con (.agg [(.int 0), (.int 0), (.int 0), (.int 0), (.int 0), (.int 0), (.int 0), (.int 0), (.int 0), (.int 0), (.int 0), (.int 0), (.int 0), (.int 0), (.int 0), (.list []), (.list []), (.list []), (.list [])])) 0 (mkA 19 (.o 5))) 17 (.con .none)) 10), (.cell (.setc (.setc (.con (.agg [(.int 0), (.int 0), (.int 0), (.int 0), (.int 0), (.int 0), (.int 0), (.int 0), (.int 0), (.int 0), (.int 0), (.int 0), (.int 0), (.int 0), (.int 0), (.list []), (.list []), (.list []), (.list [])])) 0 (mkA 19 (.o 5))) 17 (.con .none)) 11), (.cell (.setc (.setc (.con (.agg [(.int 0), (.int 0), (.int 0), (.int 0), (.int 0), (.int 0), (.int 0), (.int 0), (.int 0), (.int 0), (.int 0), (.int 0), (.int 0), (.int 0), (.int 0), (.list []), (.list []), (.list []), (.list [])])) 0 (mkA 19 (.o 5))) 17 (.con .none)) 12), (.cell (.setc (.setc (.con (.agg [(.int 0), (.int 0), (.int 0), (.int 0), (.int 0), (.int 0), (.int 0), (.int 0), (.int 0), (.int 0), (.int 0), (.int 0), (.int 0), (.int 0), (.int 0), (.list []), (.list []), (.list []), (.list [])])) 0 (mkA 19 (.o 5))) 17 (.con .none)) 13), (.cell (.setc (.setc (.con (.agg [(.int 0), (.int 0), (.int 0), (.int 0), (.int 0), (.int 0), (.int 0), (.int 0), (.int 0), (.int 0), (.int 0), (.int 0), (.int 0), (.int 0), (.int 0), (.list []), (.list []), (.list []), (.list [])])) 0 (mkA 19 (.o 5))) 17 (.con .none)) 14), (.cell (.setc (.setc (.con (.agg [(.int 0), (.int 0), (.int 0), (.int 0), (.int 0), (.int 0), (.int 0), (.int 0), (.int 0), (.int 0), (.int 0), (.int 0), (.int 0), (.int 0), (.int 0), (.list []), (.list []), (.list []), (.list [])])) 0 (mkA 19 (.o 5))) 17 (.con .none)) 15), (.cell (.setc (.setc (.con (.agg [(.int 0), (.int 0), (.int 0), (.int 0), (.int 0), (.int 0), (.int 0), (.int 0), (.int 0), (.int 0), (.int 0), (.int 0), (.int 0), (.int 0), (.int 0), (.list []), (.list []), (.list []), (.list [])])) 0 (mkA 19 (.o 5))) 17 (.con .none)) 16), (.app (.app (.lst []) (.cell (.o 5) 17)) (.lst [(.mk [(.con (.int 7)), (.con (.int 0)), (.con (.int 0)), (.con (.int 0)), (.r 3), (.con (.int 0)), (.r 2), (.con (.int 0)), (.con (.int 0))])])), (.cell (.setc (.setc (.con (.agg [(.int 0), (.int 0), (.int 0), (.int 0), (.int 0), (.int 0), (.int 0), (.int 0), (.int 0), (.int 0), (.int 0), (.int 0), (.int 0), (.int 0), (.int 0), (.list []), (.list []), (.list []), (.list [])])) 0 (mkA 19 (.o 5))) 17 (.con .none)) 18)])), (79, (.nt (.r 13))), (78, (.nt (.r 13))), (77, (.r 13)), (76, (.con .none)), (75, (.con .none)), (74, (.con .none)), (73, (.mk [(.con (.int 7)), (.con (.int 0)), (.con (.int 0)), (.con (.int 0)), (.r 3), (.con (.int 0)), (.r 2), (.con (.int 0)), (.con (.int 0))])), (72, (.r 2)), (71, (.r 3)), (70, (.con .none)), (69, (.cell (.o 5) 17)), (68, (.con .none)), (67, (.con .none)), (15, (.con .none)), (66, (mkA 19 (.o 5)))], [(73743, (.app (.app (.lst []) (.cell (.o 5) 17)) (.lst [(.mk [(.con (.int 7)), (.con (.int 0)), (.con (.int 0)), (.con (.int 0)), (.r 3), (.con (.int 0)), (.r 2), (.con (.int 0)), (.con (.int 0))])]))), (15, (.setc (.setc (.con (.agg [(.int 0), (.int 0), (.int 0), (.int 0), (.int 0), (.int 0), (.int 0), (.int 0), (.int 0), (.int 0), (.int 0), (.int 0), (.int 0), (.int 0), (.int 0), (.list []), (.list []), (.list []), (.list [])])) 0 (mkA 19 (.o 5))) 17 (.con .none))), (67, (.app (.app (.lst []) (.cell (.o 5) 17)) (.lst [(.mk [(.con (.int 7)), (.con (.int 0)), (.con (.int 0)), (.con (.int 0)), (.r 3), (.con (.int 0)), (.r 2), (.con (.int 0)), (.con (.int 0))])]))), (74, (.lst [(.mk [(.con (.int 7)), (.con (.int 0)), (.con (.int 0)), (.con (.int 0)), (.r 3), (.con (.int 0)), (.r 2), (.con (.int 0)), (.con (.int 0))])])), (67, (.app (.lst []) (.cell (.o 5) 17))), (67, (.lst [])), (15, (.setc (.con (.agg [(.int 0), (.int 0), (.int 0), (.int 0), (.int 0), (.int 0), (.int 0), (.int 0), (.int 0), (.int 0), (.int 0), (.int 0), (.int 0), (.int 0), (.int 0), (.list []), (.list []), (.list []), (.list [])])) 0 (mkA 19 (.o 5)))), (77839, (.con (.list []))), (73743, (.con (.list []))), (69647, (.con (.list []))), (65551, (.con (.list []))), (15, (.con (.agg [(.int 0), (.int 0), (.int 0), (.int 0), (.int 0), (.int 0), (.int 0), (.int 0), (.int 0), (.int 0), (.int 0), (.int 0), (.int 0), (.int 0), (.int 0), (.list []), (.list []), (.list []), (.list [])])))]⟩ [(79, true)] 83 14 [(.r 80), (.r 81), (.r 82)]
   (.call ⟨[(84, (mkA 6 (.o 12)))], []⟩ [(79, true)] 85 13 [(.r 83), (.r 84)]
   (.ite (.pick (.r 79) (.nt (.r 85)) (.con (.bool false)))
    (.ret (.con (.bool false)))
    (.ite (.pick (.ci .neq (.cell (.o 12) 2) (.con (.int (-1)))) (.con (.bool true)) (.ci .eql (.llen (.cell (.o 12) 0)) (.con (.int 0))))
     (.ret (.r 11))
     (.chk (.idx (.cell (.o 12) 0) (.ai .sub .i64 (.llen (.cell (.o 12) 0)) (.con (.int 1))))
     (.chk (.ci .leq (.llen (.app (.lst []) (.cell (.o 5) 17))) (.con (.int 4294967296)))
     (.chk (.ci .leq (.llen (.app (.app (.lst []) (.cell (.o 5) 17)) (.lst [(.mk [(.con (.int 7)), (.con (.int 0)), (.con (.int 0)), (.con (.int 0)), (.nth (.cell (.o 12) 0) (.ai .sub .i64 (.llen (.cell (.o 12) 0)) (.con (.int 1)))), (.con (.int 0)), (.r 2), (.con (.int 0)), (.con (.int 0))])]))) (.con (.int 4294967296)))
     (.chk (.ci .leq (.llen (.app (.lst []) (.cell (.o 5) 15))) (.con (.int 4294967296)))
     (.ite (.pick (.ci .lss (.nth (.cell (.o 12) 0) (.ai .sub .i64 (.llen (.cell (.o 12) 0)) (.con (.int 1)))) (.con (.int 0))) (.con (.bool true)) (.ci .geq (.nth (.cell (.o 12) 0) (.ai .sub .i64 (.llen (.cell (.o 12) 0)) (.con (.int 1)))) (.llen (.app (.lst []) (.cell (.o 5) 15)))))
      (.ret (.con (.bool false)))
      (.chk (.idx (.app (.lst []) (.cell (.o 5) 15)) (.nth (.cell (.o 12) 0) (.ai .sub .i64 (.llen (.cell (.o 12) 0)) (.con (.int 1)))))
      (.call ⟨[(140, (.r 2)), (139, (.r 1)), (138, (.mk [(.cell (.setc (.o 15) 17 (.con .none)) 0), (.cell (.setc (.o 15) 17 (.con .none)) 1), (.cell (.setc (.o 15) 17 (.con .none)) 2), (.cell (.setc (.o 15) 17 (.con .none)) 3), (.cell (.setc (.o 15) 17 (.con .none)) 4), (.cell (.setc (.o 15) 17 (.con .none)) 5), (.cell (.setc (.o 15) 17 (.con .none)) 6), (.cell (.setc (.o 15) 17 (.con .none)) 7), (.cell (.setc (.o 15) 17 (.con .none)) 8), (.cell (.setc (.o 15) 17 (.con .none)) 9), (.cell (.setc (.o 15) 17 (.con .none)) 10), (.cell (.setc (.o 15) 17 (.con .none)) 11), (.cell (.setc (.o 15) 17 (.con .none)) 12), (.cell (.setc (.o 15) 17 (.con .none)) 13), (.cell (.setc (.o 15) 17 (.con .none)) 14), (.cell (.setc (.o 15) 17 (.con .none)) 15), (.cell (.setc (.o 15) 17 (.con .none)) 16), (.app (.app (.lst []) (.cell (.o 5) 17)) (.lst [(.mk [(.con (.int 7)), (.con (.int 0)), (.con (.int 0)), (.con (.int 0)), (.nth (.cell (.o 12) 0) (.ai .sub .i64 (.llen (.cell (.o 12) 0)) (.con (.int 1)))), (.con (.int 0)), (.r 2), (.con (.int 0)), (.con (.int 0))])])), (.cell (.setc (.o 15) 17 (.con .none)) 18)])), (137, (.r 11)), (136, (.r 11)), (135, (.nth (.cell (.o 12) 0) (.ai .sub .i64 (.llen (.cell (.o 12) 0)) (.con (.int 1))))), (134, (.nth (.cell (.o 12) 0) (.ai .sub .i64 (.llen (.cell (.o 12) 0)) (.con (.int 1))))), (133, (.nth (.cell (.o 12) 0) (.ai .sub .i64 (.llen (.cell (.o 12) 0)) (.con (.int 1))))), (132, (.con .none)), (131, (.con .none)), (10, (.r 10)), (130, (.pick (.ci .lss (.nth (.cell (.o 12) 0) (.ai .sub .i64 (.llen (.cell (.o 12) 0)) (.con (.int 1)))) (.con (.int 0))) (.con (.bool true)) (.ci .geq (.nth (.cell (.o 12) 0) (.ai .sub .i64 (.llen (.cell (.o 12) 0)) (.con (.int 1)))) (.llen (.app (.lst []) (.cell (.o 5) 15)))))), (129, (.ci .geq (.nth (.cell (.o 12) 0) (.ai .sub .i64 (.llen (.cell (.o 12) 0)) (.con (.int 1)))) (.llen (.app (.lst []) (.cell (.o 5) 15))))), (128, (.llen (.app (.lst []) (.cell (.o 5) 15)))), (127, (.con .none)), (126, (.con .none)), (125, (.nth (.cell (.o 12) 0) (.ai .sub .i64 (.llen (.cell (.o 12) 0)) (.con (.int 1))))), (124, (.ci .lss (.nth (.cell (.o 12) 0) (.ai .sub .i64 (.llen (.cell (.o 12) 0)) (.con (.int 1)))) (.con (.int 0)))), (123, (.ci .lss (.nth (.cell (.o 12) 0) (.ai .sub .i64 (.llen (.cell (.o 12) 0)) (.con (.int 1)))) (.con (.int 0)))), (122, (.nth (.cell (.o 12) 0) (.ai .sub .i64 (.llen (.cell (.o 12) 0)) (.con (.int 1))))), (121, (.con .none)), (120, (.con .none)), (119, (.cell (.o 5) 15)), (118, (.con .none)), (117, (.con .none)), (17, (.con .none)), (116, (mkA 19 (.o 5))), (115, (.con .none)), (114, (.con .none)), (113, (.con .none)), (112, (.mk [(.con (.int 7)), (.con (.int 0)), (.con (.int 0)), (.con (.int 0)), (.nth (.cell (.o 12) 0) (.ai .sub .i64 (.llen (.cell (.o 12) 0)) (.con (.int 1)))), (.con (.int 0)), (.r 2), (.con (.int 0)), (.con (.int 0))])), (111, (.r 2)), (110, (.nth (.cell (.o 12) 0) (.ai .sub .i64 (.llen (.cell (.o 12) 0)) (.con (.int 1))))), (109, (.con .none)), (108, (.cell (.o 5) 17)), (107, (.con .none)), (106, (.con .none)), (16, (.nth (.cell (.o 12) 0) (.ai .sub .i64 (.llen (.cell (.o 12) 0)) (.con (.int 1))))), (105, (.nth (.cell (.o 12) 0) (.ai .sub .i64 (.llen (.cell (.o 12) 0)) (.con (.int 1))))), (104, (.ref (.nth (.cell (.o 12) 0) (.ai .sub .i64 (.llen (.cell (.o 12) 0)) (.con (.int 1)))))), (103, (.ai .sub .i64 (.llen (.cell (.o 12) 0)) (.con (.int 1)))), (102, (.llen (.cell (.o 12) 0))), (101, (.cell (.o 12) 0)), (100, (.con .none)), (99, (.cell (.o 12) 0)), (98, (.con .none)), (10, (.r 10)), (96, (.pick (.ci .neq (.cell (.o 12) 2) (.con (.int (-1)))) (.con (.bool true)) (.ci .eql (.llen (.cell (.o 12) 0)) (.con (.int 0))))), (95, (.ci .eql (.llen (.cell (.o 12) 0)) (.con (.int 0)))), (94, (.llen (.cell (.o 12) 0))), (93, (.cell (.o 12) 0)), (92, (.con .none)), (91, (.ci .neq (.cell (.o 12) 2) (.con (.int (-1))))), (90, (.ci .neq (.cell (.o 12) 2) (.con (.int (-1))))), (89, (.cell (.o 12) 2)), (88, (.con .none)), (10, (.r 10)), (87, (.pick (.r 79) (.nt (.r 85)) (.con (.bool false)))), (86, (.nt (.r 85)))], [(65553, (.setn (.app (.lst []) (.cell (.o 5) 15)) (.nth (.cell (.o 12) 0) (.ai .sub .i64 (.llen (.cell (.o 12) 0)) (.con (.int 1)))) 0 (.con (.int 1)))), (65553, (.app (.lst []) (.cell (.o 5) 15))), (17, (.setc (.setc (.con (.agg [(.int 0), (.int 0), (.int 0), (.int 0), (.int 0), (.int 0), (.int 0), (.int 0), (.int 0), (.int 0), (.int 0), (.int 0), (.int 0), (.int 0), (.int 0), (.list []), (.list []), (.list []), (.list [])])) 0 (mkA 19 (.o 5))) 15 (.con .none))), (117, (.app (.lst []) (.cell (.o 5) 15))), (117, (.lst [])), (17, (.setc (.con (.agg [(.int 0), (.int 0), (.int 0), (.int 0), (.int 0), (.int 0), (.int 0), (.int 0), (.int 0), (.int 0), (.int 0), (.int 0), (.int 0), (.int 0), (.int 0), (.list []), (.list []), (.list []), (.list [])])) 0 (mkA 19 (.o 5)))), (77841, (.con (.list []))), (73745, (.con (.list []))), (69649, (.con (.list []))), (65553, (.con (.list []))), (17, (.con (.agg [(.int 0), (.int 0), (.int 0), (.int 0), (.int 0), (.int 0), (.int 0), (.int 0), (.int 0), (.int 0), (.int 0), (.int 0), (.int 0), (.int 0), (.int 0), (.list []), (.list []), (.list []), (.list [])]))), (73743, (.app (.app (.lst []) (.cell (.o 5) 17)) (.lst [(.mk [(.con (.int 7)), (.con (.int 0)), (.con (.int 0)), (.con (.int 0)), (.nth (.cell (.o 12) 0) (.ai .sub .i64 (.llen (.cell (.o 12) 0)) (.con (.int 1)))), (.con (.int 0)), (.r 2), (.con (.int 0)), (.con (.int 0))])]))), (15, (.setc (.o 15) 17 (.con .none))), (106, (.app (.app (.lst []) (.cell (.o 5) 17)) (.lst [(.mk [(.con (.int 7)), (.con (.int 0)), (.con (.int 0)), (.con (.int 0)), (.nth (.cell (.o 12) 0) (.ai .sub .i64 (.llen (.cell (.o 12) 0)) (.con (.int 1)))), (.con (.int 0)), (.r 2), (.con (.int 0)), (.con (.int 0))])]))), (113, (.lst [(.mk [(.con (.int 7)), (.con (.int 0)), (.con (.int 0)), (.con (.int 0)), (.nth (.cell (.o 12) 0) (.ai .sub .i64 (.llen (.cell (.o 12) 0)) (.con (.int 1)))), (.con (.int 0)), (.r 2), (.con (.int 0)), (.con (.int 0))])])), (106, (.app (.lst []) (.cell (.o 5) 17))), (106, (.lst []))]⟩ [(137, true)] 141 14 [(.r 138), (.r 139), (.r 140)]
      (.call ⟨[(144, (.r 2)), (143, (.r 1)), (142, (.mk [(.cell (.o 17) 0), (.cell (.o 17) 1), (.cell (.o 17) 2), (.cell (.o 17) 3), (.cell (.o 17) 4), (.cell (.o 17) 5), (.cell (.o 17) 6), (.cell (.o 17) 7), (.cell (.o 17) 8), (.cell (.o 17) 9), (.cell (.o 17) 10), (.cell (.o 17) 11), (.cell (.o 17) 12), (.cell (.o 17) 13), (.cell (.o 17) 14), (.o 65553), (.cell (.o 17) 16), (.cell (.o 17) 17), (.cell (.o 17) 18)]))], []⟩ [(137, true)] 145 14 [(.r 142), (.r 143), (.r 144)]
      (.call ⟨[], []⟩ [(137, true)] 146 13 [(.r 141), (.r 145)]
      (.ret (.pick (.r 137) (.r 146) (.con (.bool false)))))))))))))))))))))))))))
theorem tr7_eq : tree pc7 = tr7 := by kernel_rfl
/-! allonge/allongelaw13.TitleRivals -/
def bd8_0 : PC :=
 (.seq
  (.seq
   (.is [.setR 58 (.r 13),
     .setR 59 (.r 10),
     .setR 60 (.ci .lss (.r 58) (.r 59))])
   (.ite (.r 60) [] []
    .skip
    (.exit 2)))
  (.seq
   (.block 3 [4, 8, 14, 63, 64, 65, 66, 67, 68, 69, 70, 71, 76, 77, 83] [14, 4110, 24590]
    (.seq
     (.is [.setR 63 (mkA 19 (.o 2)),
       .setR 64 (.r 13),
       .setR 65 (.r 1),
       .call [] 66 14 [(.r 63), (.r 64), (.r 65)],
       .setO 14 (.con (.agg [(.list []), (.int 0), (.int 0), (.bool false), (.int 0), (.list [])])),
       .setR 14 (.con .none),
       .setO 4110 (.con (.list [])),
       .setO 24590 (.con (.list [])),
       .setO 14 (.setc (.o 14) 0 (.r 66))])
     (.seq
      (.is [.setR 67 (.con .none),
        .setR 68 (.cell (.o 11) 0),
        .setR 69 (.llen (.r 68)),
        .setR 70 (.ci .gtr (.r 69) (.con (.int 0))),
        .setR 71 (.r 70),
        .setR 72 (.con .none),
        .setR 73 (.cell (.o 14) 0),
        .setR 74 (.llen (.r 73)),
        .setR 75 (.ci .gtr (.r 74) (.con (.int 0))),
        .setR 76 (.pick (.r 71) (.r 75) (.con (.bool false))),
        .setR 77 (.r 76),
        .setR 78 (.con .none),
        .setR 79 (.cell (.o 11) 1),
        .setR 80 (.con .none),
        .setR 81 (.cell (.o 14) 1),
        .setR 82 (.ci .neq (.r 79) (.r 81)),
        .setR 83 (.pick (.r 77) (.r 82) (.con (.bool false)))])
      (.ite (.r 83) [4, 8] []
       (.seq
        (.is [.setR 8 (.con (.bool true))])
        (.seq
         (.is [.setR 84 (.r 12),
           .setR 85 (.nt (.r 84))])
         (.ite (.r 85) [4] []
          (.seq
           (.is [.setR 4 (.con (.bool false))])
           (.ret (.r 4)))
          .skip)))
       .skip))))
   (.is [.setR 61 (.r 13),
     .setR 62 (.ai .add .i64 (.r 61) (.con (.int 1))),
     .setR 13 (.r 62)])))
def lp8_0 : PC := .block 2 [4, 8, 13, 58, 59, 60] [] (.loop [4, 8, 13] [] bd8_0)
def rd8_0 : PT :=
 (.ite (.ci .lss (.r 13) (.r 10))
  (.blockS ⟨[(60, (.ci .lss (.r 13) (.r 10))), (59, (.r 10)), (58, (.r 13))], []⟩ 3 [4, 8, 14, 63, 64, 65, 66, 67, 68, 69, 70, 71, 76, 77, 83] [14, 4110, 24590]
   (.call ⟨[(65, (.r 1)), (64, (.r 13)), (63, (mkA 19 (.o 2)))], []⟩ [] 66 14 [(.r 63), (.r 64), (.r 65)]
   (.ite (.pick (.pick (.ci .gtr (.llen (.cell (.o 11) 0)) (.con (.int 0))) (.ci .gtr (.llen (.cell (.setc (.con (.agg [(.list []), (.int 0), (.int 0), (.bool false), (.int 0), (.list [])])) 0 (.r 66)) 0)) (.con (.int 0))) (.con (.bool false))) (.ci .neq (.cell (.o 11) 1) (.cell (.setc (.con (.agg [(.list []), (.int 0), (.int 0), (.bool false), (.int 0), (.list [])])) 0 (.r 66)) 1)) (.con (.bool false)))
    (.ite (.nt (.r 12))
     (.ret (.con (.bool false)))
     (.next ⟨[(4, (.r 4)), (8, (.con (.bool true))), (83, (.pick (.pick (.ci .gtr (.llen (.cell (.o 11) 0)) (.con (.int 0))) (.ci .gtr (.llen (.cell (.setc (.con (.agg [(.list []), (.int 0), (.int 0), (.bool false), (.int 0), (.list [])])) 0 (.r 66)) 0)) (.con (.int 0))) (.con (.bool false))) (.ci .neq (.cell (.o 11) 1) (.cell (.setc (.con (.agg [(.list []), (.int 0), (.int 0), (.bool false), (.int 0), (.list [])])) 0 (.r 66)) 1)) (.con (.bool false)))), (82, (.ci .neq (.cell (.o 11) 1) (.cell (.setc (.con (.agg [(.list []), (.int 0), (.int 0), (.bool false), (.int 0), (.list [])])) 0 (.r 66)) 1))), (81, (.cell (.setc (.con (.agg [(.list []), (.int 0), (.int 0), (.bool false), (.int 0), (.list [])])) 0 (.r 66)) 1)), (80, (.con .none)), (79, (.cell (.o 11) 1)), (78, (.con .none)), (77, (.pick (.ci .gtr (.llen (.cell (.o 11) 0)) (.con (.int 0))) (.ci .gtr (.llen (.cell (.setc (.con (.agg [(.list []), (.int 0), (.int 0), (.bool false), (.int 0), (.list [])])) 0 (.r 66)) 0)) (.con (.int 0))) (.con (.bool false)))), (76, (.pick (.ci .gtr (.llen (.cell (.o 11) 0)) (.con (.int 0))) (.ci .gtr (.llen (.cell (.setc (.con (.agg [(.list []), (.int 0), (.int 0), (.bool false), (.int 0), (.list [])])) 0 (.r 66)) 0)) (.con (.int 0))) (.con (.bool false)))), (75, (.ci .gtr (.llen (.cell (.setc (.con (.agg [(.list []), (.int 0), (.int 0), (.bool false), (.int 0), (.list [])])) 0 (.r 66)) 0)) (.con (.int 0)))), (74, (.llen (.cell (.setc (.con (.agg [(.list []), (.int 0), (.int 0), (.bool false), (.int 0), (.list [])])) 0 (.r 66)) 0))), (73, (.cell (.setc (.con (.agg [(.list []), (.int 0), (.int 0), (.bool false), (.int 0), (.list [])])) 0 (.r 66)) 0)), (72, (.con .none)), (71, (.ci .gtr (.llen (.cell (.o 11) 0)) (.con (.int 0)))), (70, (.ci .gtr (.llen (.cell (.o 11) 0)) (.con (.int 0)))), (69, (.llen (.cell (.o 11) 0))), (68, (.cell (.o 11) 0)), (67, (.con .none)), (14, (.con .none))], [(14, (.setc (.con (.agg [(.list []), (.int 0), (.int 0), (.bool false), (.int 0), (.list [])])) 0 (.r 66))), (24590, (.con (.list []))), (4110, (.con (.list []))), (14, (.con (.agg [(.list []), (.int 0), (.int 0), (.bool false), (.int 0), (.list [])])))]⟩))
    (.next ⟨[(4, (.r 4)), (8, (.r 8)), (83, (.pick (.pick (.ci .gtr (.llen (.cell (.o 11) 0)) (.con (.int 0))) (.ci .gtr (.llen (.cell (.setc (.con (.agg [(.list []), (.int 0), (.int 0), (.bool false), (.int 0), (.list [])])) 0 (.r 66)) 0)) (.con (.int 0))) (.con (.bool false))) (.ci .neq (.cell (.o 11) 1) (.cell (.setc (.con (.agg [(.list []), (.int 0), (.int 0), (.bool false), (.int 0), (.list [])])) 0 (.r 66)) 1)) (.con (.bool false)))), (82, (.ci .neq (.cell (.o 11) 1) (.cell (.setc (.con (.agg [(.list []), (.int 0), (.int 0), (.bool false), (.int 0), (.list [])])) 0 (.r 66)) 1))), (81, (.cell (.setc (.con (.agg [(.list []), (.int 0), (.int 0), (.bool false), (.int 0), (.list [])])) 0 (.r 66)) 1)), (80, (.con .none)), (79, (.cell (.o 11) 1)), (78, (.con .none)), (77, (.pick (.ci .gtr (.llen (.cell (.o 11) 0)) (.con (.int 0))) (.ci .gtr (.llen (.cell (.setc (.con (.agg [(.list []), (.int 0), (.int 0), (.bool false), (.int 0), (.list [])])) 0 (.r 66)) 0)) (.con (.int 0))) (.con (.bool false)))), (76, (.pick (.ci .gtr (.llen (.cell (.o 11) 0)) (.con (.int 0))) (.ci .gtr (.llen (.cell (.setc (.con (.agg [(.list []), (.int 0), (.int 0), (.bool false), (.int 0), (.list [])])) 0 (.r 66)) 0)) (.con (.int 0))) (.con (.bool false)))), (75, (.ci .gtr (.llen (.cell (.setc (.con (.agg [(.list []), (.int 0), (.int 0), (.bool false), (.int 0), (.list [])])) 0 (.r 66)) 0)) (.con (.int 0)))), (74, (.llen (.cell (.setc (.con (.agg [(.list []), (.int 0), (.int 0), (.bool false), (.int 0), (.list [])])) 0 (.r 66)) 0))), (73, (.cell (.setc (.con (.agg [(.list []), (.int 0), (.int 0), (.bool false), (.int 0), (.list [])])) 0 (.r 66)) 0)), (72, (.con .none)), (71, (.ci .gtr (.llen (.cell (.o 11) 0)) (.con (.int 0)))), (70, (.ci .gtr (.llen (.cell (.o 11) 0)) (.con (.int 0)))), (69, (.llen (.cell (.o 11) 0))), (68, (.cell (.o 11) 0)), (67, (.con .none)), (14, (.con .none))], [(14, (.setc (.con (.agg [(.list []), (.int 0), (.int 0), (.bool false), (.int 0), (.list [])])) 0 (.r 66))), (24590, (.con (.list []))), (4110, (.con (.list []))), (14, (.con (.agg [(.list []), (.int 0), (.int 0), (.bool false), (.int 0), (.list [])])))]⟩)))
  (.next ⟨[(4, (.r 4)), (8, (.r 8)), (13, (.ai .add .i64 (.r 13) (.con (.int 1))))], []⟩))
  (.exit 2 ⟨[(4, (.r 4)), (8, (.r 8)), (13, (.r 13)), (58, (.r 13)), (59, (.r 10)), (60, (.ci .lss (.r 13) (.r 10)))], []⟩))
theorem rd8_0_eq : round 2 [4, 8, 13, 58, 59, 60] [] [4, 8, 13] [] bd8_0 = rd8_0 := by kernel_rfl
def bd8_1 : PC :=
 (.seq
  (.seq
   (.is [.setR 27 (.r 10),
     .setR 28 (.r 7),
     .setR 29 (.ci .lss (.r 27) (.r 28))])
   (.ite (.r 29) [] []
    .skip
    (.exit 0)))
  (.seq
   (.block 1 [4, 8, 9, 11, 12, 13, 32, 33, 34, 35, 36, 37, 38, 39, 40, 47, 48, 51, 52, 57, 58, 59, 60] [11, 4107, 24587]
    (.seq
     (.is [.setR 32 (mkA 19 (.o 2)),
       .setR 33 (.r 10),
       .setR 34 (.r 1),
       .call [] 35 14 [(.r 32), (.r 33), (.r 34)],
       .setO 11 (.con (.agg [(.list []), (.int 0), (.int 0), (.bool false), (.int 0), (.list [])])),
       .setR 11 (.con .none),
       .setO 4107 (.con (.list [])),
       .setO 24587 (.con (.list [])),
       .setO 11 (.setc (.o 11) 0 (.r 35))])
     (.seq
      (.is [.setR 36 (.r 9),
        .setR 37 (.r 6),
        .setR 38 (.llen (.r 37)),
        .setR 39 (.ci .lss (.r 36) (.r 38)),
        .setR 40 (.r 39),
        .setR 41 (.r 6),
        .setR 42 (.r 9),
        .chk (.imp [(40, true)] (.idx (.r 41) (.r 42))),
        .setR 43 (.ref (.nth (.r 41) (.r 42))),
        .setR 44 (.deref (.r 43)),
        .setR 45 (.r 10),
        .setR 46 (.ci .eql (.r 44) (.r 45)),
        .setR 47 (.pick (.r 40) (.r 46) (.con (.bool false))),
        .setR 12 (.r 47)])
      (.seq
       (.seq
        (.is [.setR 48 (.r 12)])
        (.ite (.r 48) [9] []
         (.is [.setR 49 (.r 9),
           .setR 50 (.ai .add .i64 (.r 49) (.con (.int 1))),
           .setR 9 (.r 50)])
         .skip))
       (.seq
        (.seq
         (.is [.setR 51 (.r 12),
           .setR 52 (.r 51),
           .setR 53 (.con .none),
           .setR 54 (.cell (.o 11) 0),
           .setR 55 (.llen (.r 54)),
           .setR 56 (.ci .eql (.r 55) (.con (.int 0))),
           .setR 57 (.pick (.r 52) (.r 56) (.con (.bool false)))])
         (.ite (.r 57) [4] []
          (.seq
           (.is [.setR 4 (.con (.bool false))])
           (.ret (.r 4)))
          .skip))
        (.seq
         (.is [.setR 13 (.con (.int 0))])
         lp8_0))))))
   (.is [.setR 30 (.r 10),
     .setR 31 (.ai .add .i64 (.r 30) (.con (.int 1))),
     .setR 10 (.r 31)])))
def lp8_1 : PC := .block 0 [4, 8, 9, 10, 27, 28, 29] [] (.loop [4, 8, 9, 10] [] bd8_1)
def rd8_1 : PT :=
 (.ite (.ci .lss (.r 10) (.r 7))
  (.blockS ⟨[(29, (.ci .lss (.r 10) (.r 7))), (28, (.r 7)), (27, (.r 10))], []⟩ 1 [4, 8, 9, 11, 12, 13, 32, 33, 34, 35, 36, 37, 38, 39, 40, 47, 48, 51, 52, 57, 58, 59, 60] [11, 4107, 24587]
   (.call ⟨[(34, (.r 1)), (33, (.r 10)), (32, (mkA 19 (.o 2)))], []⟩ [] 35 14 [(.r 32), (.r 33), (.r 34)]
   (.chk (.nt (.an (.an (.ci .lss (.r 9) (.llen (.r 6))) (.con (.bool true))) (.nt (.idx (.r 6) (.r 9)))))
   (.ite (.pick (.pick (.ci .lss (.r 9) (.llen (.r 6))) (.ci .eql (.nth (.r 6) (.r 9)) (.r 10)) (.con (.bool false))) (.ci .eql (.llen (.cell (.setc (.con (.agg [(.list []), (.int 0), (.int 0), (.bool false), (.int 0), (.list [])])) 0 (.r 35)) 0)) (.con (.int 0))) (.con (.bool false)))
    (.ret (.con (.bool false)))
    (.brk ⟨[(13, (.con (.int 0))), (4, (.r 4)), (57, (.pick (.pick (.ci .lss (.r 9) (.llen (.r 6))) (.ci .eql (.nth (.r 6) (.r 9)) (.r 10)) (.con (.bool false))) (.ci .eql (.llen (.cell (.setc (.con (.agg [(.list []), (.int 0), (.int 0), (.bool false), (.int 0), (.list [])])) 0 (.r 35)) 0)) (.con (.int 0))) (.con (.bool false)))), (56, (.ci .eql (.llen (.cell (.setc (.con (.agg [(.list []), (.int 0), (.int 0), (.bool false), (.int 0), (.list [])])) 0 (.r 35)) 0)) (.con (.int 0)))), (55, (.llen (.cell (.setc (.con (.agg [(.list []), (.int 0), (.int 0), (.bool false), (.int 0), (.list [])])) 0 (.r 35)) 0))), (54, (.cell (.setc (.con (.agg [(.list []), (.int 0), (.int 0), (.bool false), (.int 0), (.list [])])) 0 (.r 35)) 0)), (53, (.con .none)), (52, (.pick (.ci .lss (.r 9) (.llen (.r 6))) (.ci .eql (.nth (.r 6) (.r 9)) (.r 10)) (.con (.bool false)))), (51, (.pick (.ci .lss (.r 9) (.llen (.r 6))) (.ci .eql (.nth (.r 6) (.r 9)) (.r 10)) (.con (.bool false)))), (9, (.pick (.pick (.ci .lss (.r 9) (.llen (.r 6))) (.ci .eql (.nth (.r 6) (.r 9)) (.r 10)) (.con (.bool false))) (.ai .add .i64 (.r 9) (.con (.int 1))) (.r 9))), (48, (.pick (.ci .lss (.r 9) (.llen (.r 6))) (.ci .eql (.nth (.r 6) (.r 9)) (.r 10)) (.con (.bool false)))), (12, (.pick (.ci .lss (.r 9) (.llen (.r 6))) (.ci .eql (.nth (.r 6) (.r 9)) (.r 10)) (.con (.bool false)))), (47, (.pick (.ci .lss (.r 9) (.llen (.r 6))) (.ci .eql (.nth (.r 6) (.r 9)) (.r 10)) (.con (.bool false)))), (46, (.ci .eql (.nth (.r 6) (.r 9)) (.r 10))), (45, (.r 10)), (44, (.nth (.r 6) (.r 9))), (43, (.ref (.nth (.r 6) (.r 9)))), (42, (.r 9)), (41, (.r 6)), (40, (.ci .lss (.r 9) (.llen (.r 6)))), (39, (.ci .lss (.r 9) (.llen (.r 6)))), (38, (.llen (.r 6))), (37, (.r 6)), (36, (.r 9)), (11, (.con .none))], [(11, (.setc (.con (.agg [(.list []), (.int 0), (.int 0), (.bool false), (.int 0), (.list [])])) 0 (.r 35))), (24587, (.con (.list []))), (4107, (.con (.list []))), (11, (.con (.agg [(.list []), (.int 0), (.int 0), (.bool false), (.int 0), (.list [])])))]⟩
     lp8_0
    (.next ⟨[], []⟩)))))
  (.next ⟨[(4, (.r 4)), (8, (.r 8)), (9, (.r 9)), (10, (.ai .add .i64 (.r 10) (.con (.int 1))))], []⟩))
  (.exit 0 ⟨[(4, (.r 4)), (8, (.r 8)), (9, (.r 9)), (10, (.r 10)), (27, (.r 10)), (28, (.r 7)), (29, (.ci .lss (.r 10) (.r 7)))], []⟩))
theorem rd8_1_eq : round 0 [4, 8, 9, 10, 27, 28, 29] [] [4, 8, 9, 10] [] bd8_1 = rd8_1 := by kernel_rfl
def pc8 : PC :=
 (.seq
  (.is [.setO 2 (.mk [(.r 0)]),
    .setR 2 (.con .none),
    .setR 4 (.con (.bool false))])
  (.seq
   (.is [.call [] 15 9 [],
     .setR 5 (.r 15)])
   (.seq
    (.seq
     (.is [.setR 16 (mkA 19 (.o 2)),
       .call [] 17 10 [(.r 16)],
       .setR 18 (.nt (.r 17))])
     (.ite (.r 18) [4] []
      (.seq
       (.is [.setR 19 (.r 5),
         .setR 4 (.r 19)])
       (.ret (.r 4)))
      .skip))
    (.seq
     (.is [.setR 20 (mkA 19 (.o 2)),
       .setR 21 (.r 1),
       .call [] 22 17 [(.r 20), (.r 21)],
       .setR 6 (.r 22)])
     (.seq
      (.is [.setR 23 (.con .none),
        .setR 24 (.con .none),
        .setR 25 (.cell (.o 2) 14),
        .setR 26 (.mn (.r 25) (.con (.int 4))),
        .setR 7 (.r 26)])
      (.seq
       (.is [.setR 8 (.con (.bool false))])
       (.seq
        (.is [.setR 9 (.con (.int 0))])
        (.seq
         (.seq
          (.is [.setR 10 (.con (.int 0))])
          lp8_1)
         (.seq
          (.is [.setR 86 (.r 5),
            .setR 87 (.r 86),
            .setR 88 (.r 9),
            .setR 89 (.r 6),
            .setR 90 (.llen (.r 89)),
            .setR 91 (.ci .eql (.r 88) (.r 90)),
            .setR 92 (.pick (.r 87) (.r 91) (.con (.bool false))),
            .setR 93 (.r 92),
            .setR 94 (.r 6),
            .setR 95 (.llen (.r 94)),
            .setR 96 (.ci .gtr (.r 95) (.con (.int 1))),
            .setR 97 (.r 8),
            .setR 98 (.cb .eql (.r 96) (.r 97)),
            .setR 99 (.pick (.r 93) (.r 98) (.con (.bool false))),
            .setR 100 (.r 99),
            .setR 101 (.r 6),
            .setR 102 (.llen (.r 101)),
            .setR 103 (.ci .neq (.r 102) (.con (.int 1))),
            .setR 104 (.pick (.r 100) (.r 103) (.con (.bool false))),
            .setR 4 (.r 104)])
          (.ret (.r 4)))))))))))
def tr8 : PT :=
 (.call ⟨[(4, (.con (.bool false))), (2, (.con .none))], [(2, (.mk [(.r 0)]))]⟩ [] 15 9 []
 (.call ⟨[(16, (mkA 19 (.o 2))), (5, (.r 15))], []⟩ [] 17 10 [(.r 16)]
 (.ite (.nt (.r 17))
  (.ret (.r 5))
  (.call ⟨[(21, (.r 1)), (20, (mkA 19 (.o 2))), (4, (.r 4)), (18, (.nt (.r 17)))], []⟩ [] 22 17 [(.r 20), (.r 21)]
  (.brk ⟨[(10, (.con (.int 0))), (9, (.con (.int 0))), (8, (.con (.bool false))), (7, (.mn (.cell (.o 2) 14) (.con (.int 4)))), (26, (.mn (.cell (.o 2) 14) (.con (.int 4)))), (25, (.cell (.o 2) 14)), (24, (.con .none)), (23, (.con .none)), (6, (.r 22))], []⟩
   lp8_1
  (.ret (.pick (.pick (.pick (.r 5) (.ci .eql (.r 9) (.llen (.r 6))) (.con (.bool false))) (.cb .eql (.ci .gtr (.llen (.r 6)) (.con (.int 1))) (.r 8)) (.con (.bool false))) (.ci .neq (.llen (.r 6)) (.con (.int 1))) (.con (.bool false)))))))))
theorem tr8_eq : tree pc8 = tr8 := by kernel_rfl

noncomputable def ctx : Ctx := { P := Try.prog, cap := lookL capL, sig := lookL sigL, msig := fun _ => none, glob := fun _ => none }
theorem ok3 : compF { ctx with fr := [8, 9], nh := [] } Try.f3 ((lookL sigL 3).getD default) [4] = some pc3 := by kernel_rfl
theorem ok9 : compF { ctx with fr := [0, 6, 7], nh := [65537, 69633, 73729, 77825, 4098, 24578, 4099, 24579, 4100, 24580, 4101, 24581] } Try.f9 ((lookL sigL 9).getD default) [1, 73729, 2, 3, 4, 5] = some pc9 := by kernel_rfl
theorem ok19 : compF { ctx with fr := [], nh := [65536, 69632, 73728, 77824, 65537, 69633, 73729, 77825] } Try.f19 ((lookL sigL 19).getD default) [0, 1, 65537] = some pc19 := by kernel_rfl
theorem ok14 : compF { ctx with fr := [10], nh := [] } Try.f14 ((lookL sigL 14).getD default) [3, 6, 7, 4103, 24583, 8, 9, 11, 47] = some pc14 := by kernel_rfl
theorem ok21 : compF { ctx with fr := [4, 5, 6, 7], nh := [] } Try.f21 ((lookL sigL 21).getD default) [2, 9] = some pc21 := by kernel_rfl
theorem ok22 : compF { ctx with fr := [6], nh := [] } Try.f22 ((lookL sigL 22).getD default) [3, 4, 5] = some pc22 := by kernel_rfl
theorem ok20 : compF { ctx with fr := [4], nh := [] } Try.f20 ((lookL sigL 20).getD default) [2, 5, 7] = some pc20 := by kernel_rfl
theorem ok23 : compF { ctx with fr := [4, 5, 13], nh := [] } Try.f23 ((lookL sigL 23).getD default) [] = some pc23 := by kernel_rfl
theorem ok11 : compF { ctx with fr := [6], nh := [] } Try.f11 ((lookL sigL 11).getD default) [3] = some pc11 := by kernel_rfl
theorem ok17 : compF { ctx with fr := [4, 7, 10, 11, 12], nh := [] } Try.f17 ((lookL sigL 17).getD default) [2, 5, 6, 8, 4104, 24584, 9] = some pc17 := by kernel_rfl
theorem ok10 : compF { ctx with fr := [2], nh := [] } Try.f10 ((lookL sigL 10).getD default) [1] = some pc10 := by kernel_rfl
theorem ok12 : compF { ctx with fr := [6, 7], nh := [] } Try.f12 ((lookL sigL 12).getD default) [3] = some pc12 := by kernel_rfl
theorem ok15 : compF { ctx with fr := [8, 9], nh := [] } Try.f15 ((lookL sigL 15).getD default) [3, 6, 7, 4103, 24583, 10, 59, 82] = some pc15 := by kernel_rfl
theorem ok24 : compF { ctx with fr := [6, 8], nh := [] } Try.f24 ((lookL sigL 24).getD default) [3, 7, 9] = some pc24 := by kernel_rfl
theorem ok25 : compF { ctx with fr := [4], nh := [] } Try.f25 ((lookL sigL 25).getD default) [] = some pc25 := by kernel_rfl
theorem ok26 : compF { ctx with fr := [6, 7], nh := [] } Try.f26 ((lookL sigL 26).getD default) [3, 8] = some pc26 := by kernel_rfl
theorem ok13 : compF { ctx with fr := [4], nh := [] } Try.f13 ((lookL sigL 13).getD default) [2, 3] = some pc13 := by kernel_rfl
theorem ok16 : compF { ctx with fr := [4, 5], nh := [] } Try.f16 ((lookL sigL 16).getD default) [] = some pc16 := by kernel_rfl
theorem ok18 : compF { ctx with fr := [4, 6, 8, 9], nh := [] } Try.f18 ((lookL sigL 18).getD default) [2, 5, 7, 4103, 24583, 10, 4106, 24586] = some pc18 := by kernel_rfl
theorem ok4 : compF { ctx with fr := [6, 7, 9, 10, 11], nh := [] } Try.f4 ((lookL sigL 4).getD default) [3, 8, 12, 13] = some pc4 := by kernel_rfl
theorem ok5 : compF { ctx with fr := [10, 11, 12], nh := [] } Try.f5 ((lookL sigL 5).getD default) [5, 8, 9, 13, 65549, 69645, 73741, 77837, 90, 95, 98, 103] = some pc5 := by kernel_rfl
theorem ok6 : compF { ctx with fr := [8, 9, 10, 15], nh := [] } Try.f6 ((lookL sigL 6).getD default) [4, 7, 11, 65547, 58, 63, 12, 13, 14] = some pc6 := by kernel_rfl
theorem ok7 : compF { ctx with fr := [10, 11, 13, 14, 16], nh := [] } Try.f7 ((lookL sigL 7).getD default) [5, 12, 15, 73743, 17, 65553] = some pc7 := by kernel_rfl
theorem ok8 : compF { ctx with fr := [4, 5, 6, 7, 8, 9, 10, 12, 13], nh := [] } Try.f8 ((lookL sigL 8).getD default) [2, 11, 4107, 24587, 14, 4110, 24590] = some pc8 := by kernel_rfl
theorem ok27 : ∀ yv, compI { ctx with fr := [5, 6], nh := [], yv := yv } Try.f27 [(.ref (.agg [(.int .i64), (.int .i64), (.int .i64), (.int .i64), (.int .i64), (.int .i64), (.int .i64), (.int .i64), (.int .i64), (.int .i64), (.int .i64), (.int .i64), (.int .i64), (.int .i64), (.int .i64), (.slice (.agg [(.int .i64), (.int .i64), (.int .i64), (.int .i64), (.int .i64), (.int .i64), (.int .i64), (.int .i64), (.int .i64)])), (.slice (.agg [(.int .i64), (.int .i64)])), (.slice (.agg [(.int .i64), (.int .i64), (.int .i64), (.int .i64), (.int .i64), (.int .i64), (.int .i64), (.int .i64), (.int .i64)])), (.slice (.agg [(.int .i64), (.int .i64), (.int .i64)]))])), (.ref (.int .i64)), (.ref (.int .i64))] [(.int .i64), (.agg [(.int .i64), (.int .i64), (.int .i64), (.int .i64), (.int .i64), (.int .i64), (.int .i64), (.int .i64), (.int .i64)])] 1000 [1000, 7] = some pc27 := fun yv => by kernel_rfl
def pcL : List (Nat × PC) := [(3, pc3), (9, pc9), (19, pc19), (14, pc14), (21, pc21), (22, pc22), (20, pc20), (23, pc23), (11, pc11), (17, pc17), (10, pc10), (12, pc12), (15, pc15), (24, pc24), (25, pc25), (26, pc26), (13, pc13), (16, pc16), (18, pc18), (4, pc4), (5, pc5), (6, pc6), (7, pc7), (8, pc8)]
def pcN : List Nat := [3, 9, 19, 14, 21, 22, 20, 23, 11, 17, 10, 12, 15, 24, 25, 26, 13, 16, 18, 4, 5, 6, 7, 8]
noncomputable def tab : Nat → Option PC := lookL pcL
theorem caps : ∀ f cs, lookL capL f = some cs → (itOf cs.args cs.res = none → lookL sigL f = some ⟨cs.args ++ cs.caps, cs.res, .dat⟩) ∧ ∀ ys, itOf cs.args cs.res = some ys → memB pcN f = false ∧ thereF Try.prog f = true := capsB_ok (l := capL) (sig := sigL) (P := Try.prog) (pcs := pcN) (by kernel_rfl)
theorem clos : ClosOK ctx := ⟨(fun f cs h => (caps f cs h).1), fun f s h => thereB_ok (l := sigL) (P := Try.prog) (by kernel_rfl) f s h⟩
theorem its : ∀ f cs ys, ctx.cap f = some cs → itOf cs.args cs.res = some ys → tab f = none ∧ ∃ fn, ctx.P.funcs[f]? = some fn ∧ fn.body.isSome = true ∧ (fn.name == "runtime.NumGoroutine") = false := fun f cs ys h hi => ⟨lookL_none ((caps f cs h).2 ys hi).1, thereF_ok ((caps f cs h).2 ys hi).2⟩
theorem tabs : ∀ f pc, tab f = some pc → ∃ fn s ids fr nh, ctx.P.funcs[f]? = some fn ∧ ctx.sig f = some s ∧ compF { ctx with fr := fr, nh := nh } fn s ids = some pc :=
  look_all (R := fun f pc => ∃ fn s ids fr nh, ctx.P.funcs[f]? = some fn ∧ ctx.sig f = some s ∧ compF { ctx with fr := fr, nh := nh } fn s ids = some pc) (l := pcL) ⟨
    ⟨Try.f3, _, [4], [8, 9], [], Try.func3, rfl, ok3⟩,
    ⟨Try.f9, _, [1, 73729, 2, 3, 4, 5], [0, 6, 7], [65537, 69633, 73729, 77825, 4098, 24578, 4099, 24579, 4100, 24580, 4101, 24581], Try.func9, rfl, ok9⟩,
    ⟨Try.f19, _, [0, 1, 65537], [], [65536, 69632, 73728, 77824, 65537, 69633, 73729, 77825], Try.func19, rfl, ok19⟩,
    ⟨Try.f14, _, [3, 6, 7, 4103, 24583, 8, 9, 11, 47], [10], [], Try.func14, rfl, ok14⟩,
    ⟨Try.f21, _, [2, 9], [4, 5, 6, 7], [], Try.func21, rfl, ok21⟩,
    ⟨Try.f22, _, [3, 4, 5], [6], [], Try.func22, rfl, ok22⟩,
    ⟨Try.f20, _, [2, 5, 7], [4], [], Try.func20, rfl, ok20⟩,
    ⟨Try.f23, _, [], [4, 5, 13], [], Try.func23, rfl, ok23⟩,
    ⟨Try.f11, _, [3], [6], [], Try.func11, rfl, ok11⟩,
    ⟨Try.f17, _, [2, 5, 6, 8, 4104, 24584, 9], [4, 7, 10, 11, 12], [], Try.func17, rfl, ok17⟩,
    ⟨Try.f10, _, [1], [2], [], Try.func10, rfl, ok10⟩,
    ⟨Try.f12, _, [3], [6, 7], [], Try.func12, rfl, ok12⟩,
    ⟨Try.f15, _, [3, 6, 7, 4103, 24583, 10, 59, 82], [8, 9], [], Try.func15, rfl, ok15⟩,
    ⟨Try.f24, _, [3, 7, 9], [6, 8], [], Try.func24, rfl, ok24⟩,
    ⟨Try.f25, _, [], [4], [], Try.func25, rfl, ok25⟩,
    ⟨Try.f26, _, [3, 8], [6, 7], [], Try.func26, rfl, ok26⟩,
    ⟨Try.f13, _, [2, 3], [4], [], Try.func13, rfl, ok13⟩,
    ⟨Try.f16, _, [], [4, 5], [], Try.func16, rfl, ok16⟩,
    ⟨Try.f18, _, [2, 5, 7, 4103, 24583, 10, 4106, 24586], [4, 6, 8, 9], [], Try.func18, rfl, ok18⟩,
    ⟨Try.f4, _, [3, 8, 12, 13], [6, 7, 9, 10, 11], [], Try.func4, rfl, ok4⟩,
    ⟨Try.f5, _, [5, 8, 9, 13, 65549, 69645, 73741, 77837, 90, 95, 98, 103], [10, 11, 12], [], Try.func5, rfl, ok5⟩,
    ⟨Try.f6, _, [4, 7, 11, 65547, 58, 63, 12, 13, 14], [8, 9, 10, 15], [], Try.func6, rfl, ok6⟩,
    ⟨Try.f7, _, [5, 12, 15, 73743, 17, 65553], [10, 11, 13, 14, 16], [], Try.func7, rfl, ok7⟩,
    ⟨Try.f8, _, [2, 11, 4107, 24587, 14, 4110, 24590], [4, 5, 6, 7, 8, 9, 10, 12, 13], [], Try.func8, rfl, ok8⟩, trivial⟩
end Title
