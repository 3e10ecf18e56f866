/-
  The functions of this seat, compiled.
-/
import Derived.Test.YtjkeifcibnadcaaProg
import Derived.Test.YtjkeifcibnadcaaCyI
import Derived.KernelRfl
set_option maxRecDepth 100000
namespace Expo
open Go Go.Proofs Cx

/-- how each function is called -/
def sigL : List (Nat × Sig) := [
  (3, ⟨[(.slice (.agg [(.int .i64), (.slice (.int .i64))])), (.slice (.int .i64)), (.slice (.int .i64)), (.int .i64), (.int .i64)], .bool, .dat⟩),
  (4, ⟨[(.slice (.agg [(.int .i64), (.slice (.int .i64))])), (.int .i64), (.int .i64), (.int .u32)], .bool, .dat⟩),
  (5, ⟨[(.slice (.agg [(.int .i64), (.slice (.int .i64))])), (.slice (.int .i64)), (.int .i64), (.int .i64), (.slice (.int .i64)), (.agg [(.int .i64), (.slice (.int .i64))])], .bool, .dat⟩),
  (6, ⟨[(.slice (.agg [(.int .i64), (.slice (.int .i64))])), (.int .i64), (.int .i64)], .bool, .dat⟩),
  (11, ⟨[], .bool, .dat⟩),
  (12, ⟨[(.slice (.agg [(.int .i64), (.slice (.int .i64))]))], .bool, .dat⟩),
  (13, ⟨[(.slice (.agg [(.int .i64), (.slice (.int .i64))])), (.int .i64), (.int .i64)], (.tup [(.int .i64), (.slice (.int .i64)), (.int .i64)]), .dat⟩),
  (14, ⟨[(.slice (.agg [(.int .i64), (.slice (.int .i64))])), (.int .i64), (.int .i64)], (.tup [(.int .i64), (.slice (.int .i64)), (.int .i64)]), .dat⟩),
  (15, ⟨[(.slice (.int .i64)), (.slice (.int .i64))], .bool, .dat⟩),
  (16, ⟨[(.slice (.agg [(.int .i64), (.slice (.int .i64))]))], .bool, .dat⟩),
  (17, ⟨[(.slice (.agg [(.int .i64), (.slice (.int .i64))]))], .bool, .dat⟩),
  (18, ⟨[(.slice (.agg [(.int .i64), (.slice (.int .i64))])), (.slice (.int .i64))], (.int .i64), .dat⟩),
  (19, ⟨[(.slice (.agg [(.int .i64), (.slice (.int .i64))])), (.slice (.int .i64))], (.int .i64), .dat⟩),
  (20, ⟨[(.slice (.agg [(.int .i64), (.slice (.int .i64))])), (.int .i64)], (.slice (.int .i64)), .dat⟩),
  (21, ⟨[(.slice (.agg [(.int .i64), (.slice (.int .i64))])), (.int .i64)], (.slice (.int .i64)), .dat⟩),
  (22, ⟨[(.slice (.agg [(.int .i64), (.slice (.int .i64))])), (.slice (.int .i64))], (.slice (.int .i64)), .dat⟩),
  (23, ⟨[(.slice (.agg [(.int .i64), (.slice (.int .i64))])), (.slice (.int .i64))], (.slice (.int .i64)), .dat⟩),
  (24, ⟨[(.int .i64), (.int .i64)], (.slice (.int .i64)), .dat⟩),
  (25, ⟨[(.slice (.int .i64)), (.slice (.int .i64))], .bool, .dat⟩),
  (40, ⟨[], (.slice (.agg [(.int .i64), (.slice (.int .i64))])), .dat⟩),
  (41, ⟨[(.slice (.agg [(.int .i64), (.slice (.int .i64))]))], (.slice (.int .u32)), .dat⟩),
  (42, ⟨[(.slice (.agg [(.int .i64), (.slice (.int .i64))])), (.slice (.int .u32)), (.int .u32)], (.int .i64), .dat⟩),
  (43, ⟨[(.slice (.int .i64))], (.int .u32), .dat⟩),
  (44, ⟨[(.slice (.int .i64))], (.slice (.int .i64)), (.row 3 (.int .i64))⟩),
  (45, ⟨[(.agg [(.int .i64), (.slice (.int .i64))]), (.slice (.int .i64))], .bool, .dat⟩),
  (53, ⟨[(.slice (.int .i64)), (.int .i64)], .bool, .dat⟩)]
/-! allonge/allongelaw39.ExposureTells -/
def pc3 : PC :=
 (.seq
  (.is [.setR 10 (.con (.bool false))])
  (.seq
   (.is [.call [] 18 11 [],
     .setR 11 (.r 18)])
   (.seq
    (.seq
     (.is [.setR 19 (.r 0),
       .call [] 20 12 [(.r 19)],
       .setR 21 (.nt (.r 20)),
       .setR 22 (.r 21),
       .setR 23 (.r 1),
       .setR 24 (.llen (.r 23)),
       .setR 25 (.ci .gtr (.r 24) (.con (.int 25))),
       .setR 26 (.pick (.r 22) (.con (.bool true)) (.r 25)),
       .setR 27 (.r 26),
       .setR 28 (.r 2),
       .setR 29 (.llen (.r 28)),
       .setR 30 (.ci .gtr (.r 29) (.con (.int 25))),
       .setR 31 (.pick (.r 27) (.con (.bool true)) (.r 30)),
       .setR 32 (.r 31),
       .setR 33 (.r 3),
       .setR 34 (.ci .gtr (.r 33) (.con (.int 10))),
       .setR 35 (.r 34),
       .setR 36 (.r 3),
       .setR 37 (.ci .leq (.r 36) (.con (.int 20))),
       .setR 38 (.pick (.r 35) (.r 37) (.con (.bool false))),
       .setR 39 (.pick (.r 32) (.con (.bool true)) (.r 38))])
     (.ite (.r 39) [10] []
      (.seq
       (.is [.setR 40 (.r 11),
         .setR 10 (.r 40)])
       (.ret (.r 10)))
      .skip))
    (.seq
     (.is [.setR 42 (.r 0),
       .setR 43 (.r 3),
       .setR 44 (.r 4),
       .call [] 45 13 [(.r 42), (.r 43), (.r 44)],
       .setR 41 (.r 45),
       .setR 46 (.tget (.r 41) 0),
       .setR 47 (.tget (.r 41) 1),
       .setR 48 (.tget (.r 41) 2),
       .setR 12 (.r 46),
       .setR 13 (.r 47),
       .setR 14 (.r 48)])
     (.seq
      (.is [.setR 50 (.r 0),
        .setR 51 (.r 3),
        .setR 52 (.r 4),
        .call [] 53 14 [(.r 50), (.r 51), (.r 52)],
        .setR 49 (.r 53),
        .setR 54 (.tget (.r 49) 0),
        .setR 55 (.tget (.r 49) 1),
        .setR 56 (.tget (.r 49) 2),
        .setR 15 (.r 54),
        .setR 16 (.r 55),
        .setR 17 (.r 56)])
      (.seq
       (.seq
        (.is [.setR 57 (.r 12),
          .setR 58 (.r 15),
          .setR 59 (.ci .neq (.r 57) (.r 58)),
          .setR 60 (.r 59),
          .setR 61 (.r 14),
          .setR 62 (.r 17),
          .setR 63 (.ci .neq (.r 61) (.r 62)),
          .setR 64 (.pick (.r 60) (.con (.bool true)) (.r 63)),
          .setR 65 (.r 64),
          .setR 66 (.r 13),
          .setR 67 (.r 16),
          .call [(65, false)] 68 15 [(.r 66), (.r 67)],
          .setR 69 (.nt (.r 68)),
          .setR 70 (.pick (.r 65) (.con (.bool true)) (.r 69)),
          .setR 71 (.r 70),
          .setR 72 (.r 0),
          .call [(71, false)] 73 16 [(.r 72)],
          .setR 74 (.r 0),
          .call [(71, false)] 75 17 [(.r 74)],
          .setR 76 (.cb .neq (.r 73) (.r 75)),
          .setR 77 (.pick (.r 71) (.con (.bool true)) (.r 76))])
        (.ite (.r 77) [10] []
         (.seq
          (.is [.setR 10 (.con (.bool false))])
          (.ret (.r 10)))
         .skip))
       (.seq
        (.is [.setR 78 (.r 11),
          .setR 79 (.r 78),
          .setR 80 (.r 0),
          .setR 81 (.r 1),
          .call [(79, true)] 82 18 [(.r 80), (.r 81)],
          .setR 83 (.r 0),
          .setR 84 (.r 1),
          .call [(79, true)] 85 19 [(.r 83), (.r 84)],
          .setR 86 (.ci .eql (.r 82) (.r 85)),
          .setR 87 (.pick (.r 79) (.r 86) (.con (.bool false))),
          .setR 88 (.r 87),
          .setR 89 (.r 0),
          .setR 90 (.r 3),
          .call [(88, true)] 91 20 [(.r 89), (.r 90)],
          .setR 92 (.r 0),
          .setR 93 (.r 3),
          .call [(88, true)] 94 21 [(.r 92), (.r 93)],
          .call [(88, true)] 95 15 [(.r 91), (.r 94)],
          .setR 96 (.pick (.r 88) (.r 95) (.con (.bool false))),
          .setR 97 (.r 96),
          .setR 98 (.r 0),
          .setR 99 (.r 2),
          .call [(97, true)] 100 22 [(.r 98), (.r 99)],
          .setR 101 (.r 0),
          .setR 102 (.r 2),
          .call [(97, true)] 103 23 [(.r 101), (.r 102)],
          .call [(97, true)] 104 15 [(.r 100), (.r 103)],
          .setR 105 (.pick (.r 97) (.r 104) (.con (.bool false))),
          .setR 10 (.r 105)])
        (.ret (.r 10)))))))))
def tr3 : PT :=
 (.call ⟨[(10, (.con (.bool false)))], []⟩ [] 18 11 []
 (.call ⟨[(19, (.r 0)), (11, (.r 18))], []⟩ [] 20 12 [(.r 19)]
 (.ite (.pick (.pick (.pick (.nt (.r 20)) (.con (.bool true)) (.ci .gtr (.llen (.r 1)) (.con (.int 25)))) (.con (.bool true)) (.ci .gtr (.llen (.r 2)) (.con (.int 25)))) (.con (.bool true)) (.pick (.ci .gtr (.r 3) (.con (.int 10))) (.ci .leq (.r 3) (.con (.int 20))) (.con (.bool false))))
  (.ret (.r 11))
  (.call ⟨[(44, (.r 4)), (43, (.r 3)), (42, (.r 0)), (10, (.r 10)), (39, (.pick (.pick (.pick (.nt (.r 20)) (.con (.bool true)) (.ci .gtr (.llen (.r 1)) (.con (.int 25)))) (.con (.bool true)) (.ci .gtr (.llen (.r 2)) (.con (.int 25)))) (.con (.bool true)) (.pick (.ci .gtr (.r 3) (.con (.int 10))) (.ci .leq (.r 3) (.con (.int 20))) (.con (.bool false))))), (38, (.pick (.ci .gtr (.r 3) (.con (.int 10))) (.ci .leq (.r 3) (.con (.int 20))) (.con (.bool false)))), (37, (.ci .leq (.r 3) (.con (.int 20)))), (36, (.r 3)), (35, (.ci .gtr (.r 3) (.con (.int 10)))), (34, (.ci .gtr (.r 3) (.con (.int 10)))), (33, (.r 3)), (32, (.pick (.pick (.nt (.r 20)) (.con (.bool true)) (.ci .gtr (.llen (.r 1)) (.con (.int 25)))) (.con (.bool true)) (.ci .gtr (.llen (.r 2)) (.con (.int 25))))), (31, (.pick (.pick (.nt (.r 20)) (.con (.bool true)) (.ci .gtr (.llen (.r 1)) (.con (.int 25)))) (.con (.bool true)) (.ci .gtr (.llen (.r 2)) (.con (.int 25))))), (30, (.ci .gtr (.llen (.r 2)) (.con (.int 25)))), (29, (.llen (.r 2))), (28, (.r 2)), (27, (.pick (.nt (.r 20)) (.con (.bool true)) (.ci .gtr (.llen (.r 1)) (.con (.int 25))))), (26, (.pick (.nt (.r 20)) (.con (.bool true)) (.ci .gtr (.llen (.r 1)) (.con (.int 25))))), (25, (.ci .gtr (.llen (.r 1)) (.con (.int 25)))), (24, (.llen (.r 1))), (23, (.r 1)), (22, (.nt (.r 20))), (21, (.nt (.r 20)))], []⟩ [] 45 13 [(.r 42), (.r 43), (.r 44)]
  (.call ⟨[(52, (.r 4)), (51, (.r 3)), (50, (.r 0)), (14, (.tget (.r 45) 2)), (13, (.tget (.r 45) 1)), (12, (.tget (.r 45) 0)), (48, (.tget (.r 45) 2)), (47, (.tget (.r 45) 1)), (46, (.tget (.r 45) 0)), (41, (.r 45))], []⟩ [] 53 14 [(.r 50), (.r 51), (.r 52)]
  (.call ⟨[(67, (.tget (.r 53) 1)), (66, (.r 13)), (65, (.pick (.ci .neq (.r 12) (.tget (.r 53) 0)) (.con (.bool true)) (.ci .neq (.r 14) (.tget (.r 53) 2)))), (64, (.pick (.ci .neq (.r 12) (.tget (.r 53) 0)) (.con (.bool true)) (.ci .neq (.r 14) (.tget (.r 53) 2)))), (63, (.ci .neq (.r 14) (.tget (.r 53) 2))), (62, (.tget (.r 53) 2)), (61, (.r 14)), (60, (.ci .neq (.r 12) (.tget (.r 53) 0))), (59, (.ci .neq (.r 12) (.tget (.r 53) 0))), (58, (.tget (.r 53) 0)), (57, (.r 12)), (17, (.tget (.r 53) 2)), (16, (.tget (.r 53) 1)), (15, (.tget (.r 53) 0)), (56, (.tget (.r 53) 2)), (55, (.tget (.r 53) 1)), (54, (.tget (.r 53) 0)), (49, (.r 53))], []⟩ [(65, false)] 68 15 [(.r 66), (.r 67)]
  (.call ⟨[(72, (.r 0)), (71, (.pick (.r 65) (.con (.bool true)) (.nt (.r 68)))), (70, (.pick (.r 65) (.con (.bool true)) (.nt (.r 68)))), (69, (.nt (.r 68)))], []⟩ [(71, false)] 73 16 [(.r 72)]
  (.call ⟨[(74, (.r 0))], []⟩ [(71, false)] 75 17 [(.r 74)]
  (.ite (.pick (.r 71) (.con (.bool true)) (.cb .neq (.r 73) (.r 75)))
   (.ret (.con (.bool false)))
   (.call ⟨[(81, (.r 1)), (80, (.r 0)), (79, (.r 11)), (78, (.r 11)), (10, (.r 10)), (77, (.pick (.r 71) (.con (.bool true)) (.cb .neq (.r 73) (.r 75)))), (76, (.cb .neq (.r 73) (.r 75)))], []⟩ [(79, true)] 82 18 [(.r 80), (.r 81)]
   (.call ⟨[(84, (.r 1)), (83, (.r 0))], []⟩ [(79, true)] 85 19 [(.r 83), (.r 84)]
   (.call ⟨[(90, (.r 3)), (89, (.r 0)), (88, (.pick (.r 79) (.ci .eql (.r 82) (.r 85)) (.con (.bool false)))), (87, (.pick (.r 79) (.ci .eql (.r 82) (.r 85)) (.con (.bool false)))), (86, (.ci .eql (.r 82) (.r 85)))], []⟩ [(88, true)] 91 20 [(.r 89), (.r 90)]
   (.call ⟨[(93, (.r 3)), (92, (.r 0))], []⟩ [(88, true)] 94 21 [(.r 92), (.r 93)]
   (.call ⟨[], []⟩ [(88, true)] 95 15 [(.r 91), (.r 94)]
   (.call ⟨[(99, (.r 2)), (98, (.r 0)), (97, (.pick (.r 88) (.r 95) (.con (.bool false)))), (96, (.pick (.r 88) (.r 95) (.con (.bool false))))], []⟩ [(97, true)] 100 22 [(.r 98), (.r 99)]
   (.call ⟨[(102, (.r 2)), (101, (.r 0))], []⟩ [(97, true)] 103 23 [(.r 101), (.r 102)]
   (.call ⟨[], []⟩ [(97, true)] 104 15 [(.r 100), (.r 103)]
   (.ret (.pick (.r 97) (.r 104) (.con (.bool false)))))))))))))))))))))
theorem tr3_eq : tree pc3 = tr3 := by kernel_rfl
/-! allonge/allongelaw39.sane -/
def pc11 : PC :=
 (.seq
  (.is [.setR 0 (.con (.bool false))])
  (.seq
   (.is [.call [] 11 40 [],
     .setR 1 (.r 11)])
   (.seq
    (.is [.setR 13 (.r 1),
      .call [] 14 13 [(.r 13), (.con (.int 3)), (.con (.int 1))],
      .setR 12 (.r 14),
      .setR 15 (.tget (.r 12) 0),
      .setR 16 (.tget (.r 12) 1),
      .setR 17 (.tget (.r 12) 2),
      .setR 2 (.r 15),
      .setR 3 (.r 16),
      .setR 4 (.r 17)])
    (.seq
     (.is [.setR 19 (.r 1),
       .call [] 20 13 [(.r 19), (.con (.int 3)), (.con (.int 2))],
       .setR 18 (.r 20),
       .setR 21 (.tget (.r 18) 0),
       .setR 22 (.tget (.r 18) 1),
       .setR 23 (.tget (.r 18) 2),
       .setR 5 (.r 21),
       .setR 6 (.r 22),
       .setR 7 (.r 23)])
     (.seq
      (.is [.setR 25 (.r 1),
        .call [] 26 13 [(.r 25), (.con (.int 3)), (.con (.int 3))],
        .setR 24 (.r 26),
        .setR 27 (.tget (.r 24) 0),
        .setR 28 (.tget (.r 24) 1),
        .setR 29 (.tget (.r 24) 2),
        .setR 8 (.r 27),
        .setR 9 (.r 28),
        .setR 10 (.r 29)])
      (.seq
       (.seq
        (.is [.setR 30 (.r 4),
          .setR 31 (.ci .neq (.r 30) (.con (.int 0))),
          .setR 32 (.r 31),
          .setR 33 (.r 7),
          .setR 34 (.ci .neq (.r 33) (.con (.int 0))),
          .setR 35 (.pick (.r 32) (.con (.bool true)) (.r 34)),
          .setR 36 (.r 35),
          .setR 37 (.r 10),
          .setR 38 (.ci .neq (.r 37) (.con (.int 0))),
          .setR 39 (.pick (.r 36) (.con (.bool true)) (.r 38)),
          .setR 40 (.r 39),
          .setR 41 (.r 2),
          .setR 42 (.ci .neq (.r 41) (.con (.int 300))),
          .setR 43 (.pick (.r 40) (.con (.bool true)) (.r 42)),
          .setR 44 (.r 43),
          .setR 45 (.r 5),
          .setR 46 (.ci .neq (.r 45) (.con (.int 800))),
          .setR 47 (.pick (.r 44) (.con (.bool true)) (.r 46)),
          .setR 48 (.r 47),
          .setR 49 (.r 8),
          .setR 50 (.ci .neq (.r 49) (.con (.int 1100))),
          .setR 51 (.pick (.r 48) (.con (.bool true)) (.r 50))])
        (.ite (.r 51) [0] []
         (.seq
          (.is [.setR 0 (.con (.bool false))])
          (.ret (.r 0)))
         .skip))
       (.seq
        (.seq
         (.is [.setR 52 (.r 3),
           .setO 53 (.lst [(.con (.int 1))]),
           .setR 53 (.con .none),
           .call [] 54 15 [(.r 52), (.o 53)],
           .setR 55 (.nt (.r 54)),
           .setR 56 (.r 55),
           .setR 57 (.r 6),
           .setR 58 (.lst [(.con (.int 0)), (.con (.int 1))]),
           .call [(56, false)] 59 15 [(.r 57), (.r 58)],
           .setR 60 (.nt (.r 59)),
           .setR 61 (.pick (.r 56) (.con (.bool true)) (.r 60)),
           .setR 62 (.r 61),
           .setR 63 (.r 9),
           .setR 64 (.lst [(.con (.int 0)), (.con (.int 1)), (.con (.int 2))]),
           .call [(62, false)] 65 15 [(.r 63), (.r 64)],
           .setR 66 (.nt (.r 65)),
           .setR 67 (.pick (.r 62) (.con (.bool true)) (.r 66)),
           .setR 68 (.r 67),
           .setR 69 (.r 1),
           .call [(68, false)] 70 16 [(.r 69)],
           .setR 71 (.nt (.r 70)),
           .setR 72 (.pick (.r 68) (.con (.bool true)) (.r 71))])
         (.ite (.r 72) [0] []
          (.seq
           (.is [.setR 0 (.con (.bool false))])
           (.ret (.r 0)))
          .skip))
        (.seq
         (.is [.setR 73 (.r 1),
           .setO 74 (.lst [(.con (.int 1))]),
           .setR 74 (.con .none),
           .call [] 75 18 [(.r 73), (.o 74)],
           .setR 76 (.ci .eql (.r 75) (.con (.int 300))),
           .setR 77 (.r 76),
           .setR 78 (.r 1),
           .setR 79 (.lst [(.con (.int 1)), (.con (.int 0))]),
           .call [(77, true)] 80 18 [(.r 78), (.r 79)],
           .setR 81 (.ci .eql (.r 80) (.con (.int 800))),
           .setR 82 (.pick (.r 77) (.r 81) (.con (.bool false))),
           .setR 83 (.r 82),
           .setR 84 (.r 1),
           .call [(83, true)] 85 18 [(.r 84), (.con (.list []))],
           .setR 86 (.ci .eql (.r 85) (.con (.int 0))),
           .setR 87 (.pick (.r 83) (.r 86) (.con (.bool false))),
           .setR 88 (.r 87),
           .setR 89 (.r 1),
           .call [(88, true)] 90 20 [(.r 89), (.con (.int 3))],
           .setR 91 (.lst [(.con (.int 0)), (.con (.int 300)), (.con (.int 100))]),
           .call [(88, true)] 92 15 [(.r 90), (.r 91)],
           .setR 93 (.pick (.r 88) (.r 92) (.con (.bool false))),
           .setR 94 (.r 93),
           .setR 95 (.r 1),
           .setR 96 (.lst [(.con (.int 0)), (.con (.int 300)), (.con (.int 50))]),
           .call [(94, true)] 97 22 [(.r 95), (.r 96)],
           .setR 98 (.lst [(.con (.int 2))]),
           .call [(94, true)] 99 15 [(.r 97), (.r 98)],
           .setR 100 (.pick (.r 94) (.r 99) (.con (.bool false))),
           .setR 0 (.r 100)])
         (.ret (.r 0))))))))))
def tr11 : PT :=
 (.call ⟨[(0, (.con (.bool false)))], []⟩ [] 11 40 []
 (.call ⟨[(13, (.r 11)), (1, (.r 11))], []⟩ [] 14 13 [(.r 13), (.con (.int 3)), (.con (.int 1))]
 (.call ⟨[(19, (.r 1)), (4, (.tget (.r 14) 2)), (3, (.tget (.r 14) 1)), (2, (.tget (.r 14) 0)), (17, (.tget (.r 14) 2)), (16, (.tget (.r 14) 1)), (15, (.tget (.r 14) 0)), (12, (.r 14))], []⟩ [] 20 13 [(.r 19), (.con (.int 3)), (.con (.int 2))]
 (.call ⟨[(25, (.r 1)), (7, (.tget (.r 20) 2)), (6, (.tget (.r 20) 1)), (5, (.tget (.r 20) 0)), (23, (.tget (.r 20) 2)), (22, (.tget (.r 20) 1)), (21, (.tget (.r 20) 0)), (18, (.r 20))], []⟩ [] 26 13 [(.r 25), (.con (.int 3)), (.con (.int 3))]
 (.ite (.pick (.pick (.pick (.pick (.pick (.ci .neq (.r 4) (.con (.int 0))) (.con (.bool true)) (.ci .neq (.r 7) (.con (.int 0)))) (.con (.bool true)) (.ci .neq (.tget (.r 26) 2) (.con (.int 0)))) (.con (.bool true)) (.ci .neq (.r 2) (.con (.int 300)))) (.con (.bool true)) (.ci .neq (.r 5) (.con (.int 800)))) (.con (.bool true)) (.ci .neq (.tget (.r 26) 0) (.con (.int 1100))))
  (.ret (.con (.bool false)))
  (.call ⟨[(53, (.con .none)), (52, (.r 3)), (0, (.r 0)), (51, (.pick (.pick (.pick (.pick (.pick (.ci .neq (.r 4) (.con (.int 0))) (.con (.bool true)) (.ci .neq (.r 7) (.con (.int 0)))) (.con (.bool true)) (.ci .neq (.tget (.r 26) 2) (.con (.int 0)))) (.con (.bool true)) (.ci .neq (.r 2) (.con (.int 300)))) (.con (.bool true)) (.ci .neq (.r 5) (.con (.int 800)))) (.con (.bool true)) (.ci .neq (.tget (.r 26) 0) (.con (.int 1100))))), (50, (.ci .neq (.tget (.r 26) 0) (.con (.int 1100)))), (49, (.tget (.r 26) 0)), (48, (.pick (.pick (.pick (.pick (.ci .neq (.r 4) (.con (.int 0))) (.con (.bool true)) (.ci .neq (.r 7) (.con (.int 0)))) (.con (.bool true)) (.ci .neq (.tget (.r 26) 2) (.con (.int 0)))) (.con (.bool true)) (.ci .neq (.r 2) (.con (.int 300)))) (.con (.bool true)) (.ci .neq (.r 5) (.con (.int 800))))), (47, (.pick (.pick (.pick (.pick (.ci .neq (.r 4) (.con (.int 0))) (.con (.bool true)) (.ci .neq (.r 7) (.con (.int 0)))) (.con (.bool true)) (.ci .neq (.tget (.r 26) 2) (.con (.int 0)))) (.con (.bool true)) (.ci .neq (.r 2) (.con (.int 300)))) (.con (.bool true)) (.ci .neq (.r 5) (.con (.int 800))))), (46, (.ci .neq (.r 5) (.con (.int 800)))), (45, (.r 5)), (44, (.pick (.pick (.pick (.ci .neq (.r 4) (.con (.int 0))) (.con (.bool true)) (.ci .neq (.r 7) (.con (.int 0)))) (.con (.bool true)) (.ci .neq (.tget (.r 26) 2) (.con (.int 0)))) (.con (.bool true)) (.ci .neq (.r 2) (.con (.int 300))))), (43, (.pick (.pick (.pick (.ci .neq (.r 4) (.con (.int 0))) (.con (.bool true)) (.ci .neq (.r 7) (.con (.int 0)))) (.con (.bool true)) (.ci .neq (.tget (.r 26) 2) (.con (.int 0)))) (.con (.bool true)) (.ci .neq (.r 2) (.con (.int 300))))), (42, (.ci .neq (.r 2) (.con (.int 300)))), (41, (.r 2)), (40, (.pick (.pick (.ci .neq (.r 4) (.con (.int 0))) (.con (.bool true)) (.ci .neq (.r 7) (.con (.int 0)))) (.con (.bool true)) (.ci .neq (.tget (.r 26) 2) (.con (.int 0))))), (39, (.pick (.pick (.ci .neq (.r 4) (.con (.int 0))) (.con (.bool true)) (.ci .neq (.r 7) (.con (.int 0)))) (.con (.bool true)) (.ci .neq (.tget (.r 26) 2) (.con (.int 0))))), (38, (.ci .neq (.tget (.r 26) 2) (.con (.int 0)))), (37, (.tget (.r 26) 2)), (36, (.pick (.ci .neq (.r 4) (.con (.int 0))) (.con (.bool true)) (.ci .neq (.r 7) (.con (.int 0))))), (35, (.pick (.ci .neq (.r 4) (.con (.int 0))) (.con (.bool true)) (.ci .neq (.r 7) (.con (.int 0))))), (34, (.ci .neq (.r 7) (.con (.int 0)))), (33, (.r 7)), (32, (.ci .neq (.r 4) (.con (.int 0)))), (31, (.ci .neq (.r 4) (.con (.int 0)))), (30, (.r 4)), (10, (.tget (.r 26) 2)), (9, (.tget (.r 26) 1)), (8, (.tget (.r 26) 0)), (29, (.tget (.r 26) 2)), (28, (.tget (.r 26) 1)), (27, (.tget (.r 26) 0)), (24, (.r 26))], [(53, (.lst [(.con (.int 1))]))]⟩ [] 54 15 [(.r 52), (.o 53)]
  (.call ⟨[(58, (.lst [(.con (.int 0)), (.con (.int 1))])), (57, (.r 6)), (56, (.nt (.r 54))), (55, (.nt (.r 54)))], []⟩ [(56, false)] 59 15 [(.r 57), (.r 58)]
  (.call ⟨[(64, (.lst [(.con (.int 0)), (.con (.int 1)), (.con (.int 2))])), (63, (.r 9)), (62, (.pick (.r 56) (.con (.bool true)) (.nt (.r 59)))), (61, (.pick (.r 56) (.con (.bool true)) (.nt (.r 59)))), (60, (.nt (.r 59)))], []⟩ [(62, false)] 65 15 [(.r 63), (.r 64)]
  (.call ⟨[(69, (.r 1)), (68, (.pick (.r 62) (.con (.bool true)) (.nt (.r 65)))), (67, (.pick (.r 62) (.con (.bool true)) (.nt (.r 65)))), (66, (.nt (.r 65)))], []⟩ [(68, false)] 70 16 [(.r 69)]
  (.ite (.pick (.r 68) (.con (.bool true)) (.nt (.r 70)))
   (.ret (.con (.bool false)))
   (.call ⟨[(74, (.con .none)), (73, (.r 1)), (0, (.r 0)), (72, (.pick (.r 68) (.con (.bool true)) (.nt (.r 70)))), (71, (.nt (.r 70)))], [(74, (.lst [(.con (.int 1))]))]⟩ [] 75 18 [(.r 73), (.o 74)]
   (.call ⟨[(79, (.lst [(.con (.int 1)), (.con (.int 0))])), (78, (.r 1)), (77, (.ci .eql (.r 75) (.con (.int 300)))), (76, (.ci .eql (.r 75) (.con (.int 300))))], []⟩ [(77, true)] 80 18 [(.r 78), (.r 79)]
   (.call ⟨[(84, (.r 1)), (83, (.pick (.r 77) (.ci .eql (.r 80) (.con (.int 800))) (.con (.bool false)))), (82, (.pick (.r 77) (.ci .eql (.r 80) (.con (.int 800))) (.con (.bool false)))), (81, (.ci .eql (.r 80) (.con (.int 800))))], []⟩ [(83, true)] 85 18 [(.r 84), (.con (.list []))]
   (.call ⟨[(89, (.r 1)), (88, (.pick (.r 83) (.ci .eql (.r 85) (.con (.int 0))) (.con (.bool false)))), (87, (.pick (.r 83) (.ci .eql (.r 85) (.con (.int 0))) (.con (.bool false)))), (86, (.ci .eql (.r 85) (.con (.int 0))))], []⟩ [(88, true)] 90 20 [(.r 89), (.con (.int 3))]
   (.call ⟨[(91, (.lst [(.con (.int 0)), (.con (.int 300)), (.con (.int 100))]))], []⟩ [(88, true)] 92 15 [(.r 90), (.r 91)]
   (.call ⟨[(96, (.lst [(.con (.int 0)), (.con (.int 300)), (.con (.int 50))])), (95, (.r 1)), (94, (.pick (.r 88) (.r 92) (.con (.bool false)))), (93, (.pick (.r 88) (.r 92) (.con (.bool false))))], []⟩ [(94, true)] 97 22 [(.r 95), (.r 96)]
   (.call ⟨[(98, (.lst [(.con (.int 2))]))], []⟩ [(94, true)] 99 15 [(.r 97), (.r 98)]
   (.ret (.pick (.r 94) (.r 99) (.con (.bool false)))))))))))))))))))))
theorem tr11_eq : tree pc11 = tr11 := by kernel_rfl
/-! allonge/allongelaw39.example -/
def pc40 : PC :=
 (.seq
  (.is [.setR 0 (.con (.list []))])
  (.seq
   (.is [.setO 1 (.lst [(.con (.int 0)), (.con (.int 1))]),
     .setR 1 (.con .none),
     .setR 2 (.mk [(.con (.int 500)), (.o 1)]),
     .setO 3 (.lst [(.con (.int 1))]),
     .setR 3 (.con .none),
     .setR 4 (.mk [(.con (.int 300)), (.o 3)]),
     .setO 5 (.lst [(.con (.int 0)), (.con (.int 2))]),
     .setR 5 (.con .none),
     .setR 6 (.mk [(.con (.int 200)), (.o 5)]),
     .setO 7 (.lst [(.con (.int 2))]),
     .setR 7 (.con .none),
     .setR 8 (.mk [(.con (.int 100)), (.o 7)]),
     .setO 9 (.lst [(.r 2), (.r 4), (.r 6), (.r 8)]),
     .setR 9 (.con .none),
     .setR 0 (.o 9)])
   (.ret (.r 0))))
def tr40 : PT :=
 (.ret (.lst [(.mk [(.con (.int 500)), (.lst [(.con (.int 0)), (.con (.int 1))])]), (.mk [(.con (.int 300)), (.lst [(.con (.int 1))])]), (.mk [(.con (.int 200)), (.lst [(.con (.int 0)), (.con (.int 2))])]), (.mk [(.con (.int 100)), (.lst [(.con (.int 2))])])]))
theorem tr40_eq : tree pc40 = tr40 := by kernel_rfl
/-! allonge/exposure.Worst -/
def bd13_0 : PC :=
 (.seq
  (.is [.setR 53 (.ci .lss (.r 52) (.r 51))])
  (.seq
   (.ite (.r 53) [] []
    .skip
    (.exit 2))
   (.seq
    (.block 3 [12, 54, 55, 56, 57, 58] [11]
     (.seq
      (.is [.setR 54 (.r 52),
        .setR 12 (.r 54)])
      (.is [.setR 55 (.r 11),
        .setR 56 (.r 12),
        .setR 57 (.r 12),
        .chk (.idx (.o 11) (.r 56)),
        .setR 58 (.r 56),
        .setO 11 (.setn (.o 11) (.r 58) 0 (.r 57))])))
    (.is [.setR 59 (.ai .add .i64 (.r 52) (.con (.int 1))),
      .setR 52 (.r 59)]))))
def lp13_0 : PC := .block 2 [52, 53] [11] (.loop [52] [11] bd13_0)
def rd13_0 : PT :=
 (.ite (.ci .lss (.r 52) (.r 51))
  (.chk (.idx (.o 11) (.r 52))
  (.next ⟨[(52, (.ai .add .i64 (.r 52) (.con (.int 1))))], [(11, (.setn (.o 11) (.r 52) 0 (.r 52)))]⟩))
  (.exit 2 ⟨[(52, (.r 52)), (53, (.ci .lss (.r 52) (.r 51)))], [(11, (.o 11))]⟩))
theorem rd13_0_eq : round 2 [52, 53] [11] [52] [11] bd13_0 = rd13_0 := by kernel_rfl
def bd13_1 : PC :=
 (.seq
  (.seq
   (.is [.setR 73 (.r 14),
     .setR 74 (.ci .geq (.r 73) (.con (.int 0))),
     .setR 75 (.r 74),
     .setR 76 (.r 11),
     .setR 77 (.r 14),
     .chk (.imp [(75, true)] (.idx (.o 11) (.r 77))),
     .setR 78 (.r 77),
     .setR 79 (.nth (.o 11) (.r 78)),
     .setR 80 (.r 1),
     .setR 81 (.r 10),
     .setR 82 (.ai .sub .i64 (.r 80) (.r 81)),
     .setR 83 (.r 14),
     .setR 84 (.ai .add .i64 (.r 82) (.r 83)),
     .setR 85 (.ci .eql (.r 79) (.r 84)),
     .setR 86 (.pick (.r 75) (.r 85) (.con (.bool false)))])
   (.ite (.r 86) [] []
    .skip
    (.exit 6)))
  (.block 7 [14, 87, 88] []
   (.is [.setR 87 (.r 14),
     .setR 88 (.ai .sub .i64 (.r 87) (.con (.int 1))),
     .setR 14 (.r 88)])))
def lp13_1 : PC := .block 6 [14, 73, 74, 75, 86] [] (.loop [14] [] bd13_1)
def rd13_1 : PT :=
 (.chk (.nt (.an (.an (.ci .geq (.r 14) (.con (.int 0))) (.con (.bool true))) (.nt (.idx (.o 11) (.r 14)))))
 (.ite (.pick (.ci .geq (.r 14) (.con (.int 0))) (.ci .eql (.nth (.o 11) (.r 14)) (.ai .add .i64 (.ai .sub .i64 (.r 1) (.r 10)) (.r 14))) (.con (.bool false)))
  (.next ⟨[(14, (.ai .sub .i64 (.r 14) (.con (.int 1))))], []⟩)
  (.exit 6 ⟨[(14, (.r 14)), (73, (.r 14)), (74, (.ci .geq (.r 14) (.con (.int 0)))), (75, (.ci .geq (.r 14) (.con (.int 0)))), (86, (.pick (.ci .geq (.r 14) (.con (.int 0))) (.ci .eql (.nth (.o 11) (.r 14)) (.ai .add .i64 (.ai .sub .i64 (.r 1) (.r 10)) (.r 14))) (.con (.bool false))))], []⟩)))
theorem rd13_1_eq : round 6 [14, 73, 74, 75, 86] [] [14] [] bd13_1 = rd13_1 := by kernel_rfl
def bd13_2 : PC :=
 (.seq
  (.seq
   (.is [.setR 99 (.r 15),
     .setR 100 (.r 10),
     .setR 101 (.ci .lss (.r 99) (.r 100))])
   (.ite (.r 101) [] []
    .skip
    (.exit 8)))
  (.seq
   (.block 9 [104, 105, 106, 107, 108, 109, 110, 111, 112] [11]
    (.is [.setR 104 (.r 11),
      .setR 105 (.r 15),
      .setR 106 (.r 11),
      .setR 107 (.r 15),
      .setR 108 (.ai .sub .i64 (.r 107) (.con (.int 1))),
      .chk (.idx (.o 11) (.r 108)),
      .setR 109 (.r 108),
      .setR 110 (.nth (.o 11) (.r 109)),
      .setR 111 (.ai .add .i64 (.r 110) (.con (.int 1))),
      .chk (.idx (.o 11) (.r 105)),
      .setR 112 (.r 105),
      .setO 11 (.setn (.o 11) (.r 112) 0 (.r 111))]))
   (.is [.setR 102 (.r 15),
     .setR 103 (.ai .add .i64 (.r 102) (.con (.int 1))),
     .setR 15 (.r 103)])))
def lp13_2 : PC := .block 8 [15, 99, 100, 101] [11] (.loop [15] [11] bd13_2)
def rd13_2 : PT :=
 (.ite (.ci .lss (.r 15) (.r 10))
  (.chk (.idx (.o 11) (.ai .sub .i64 (.r 15) (.con (.int 1))))
  (.chk (.idx (.o 11) (.r 15))
  (.next ⟨[(15, (.ai .add .i64 (.r 15) (.con (.int 1))))], [(11, (.setn (.o 11) (.r 15) 0 (.ai .add .i64 (.nth (.o 11) (.ai .sub .i64 (.r 15) (.con (.int 1)))) (.con (.int 1)))))]⟩)))
  (.exit 8 ⟨[(15, (.r 15)), (99, (.r 15)), (100, (.r 10)), (101, (.ci .lss (.r 15) (.r 10)))], [(11, (.o 11))]⟩))
theorem rd13_2_eq : round 8 [15, 99, 100, 101] [11] [15] [11] bd13_2 = rd13_2 := by kernel_rfl
def bd13_3 : PC :=
 (.block 5 [6, 7, 13, 14, 15, 60, 61, 62, 63, 64, 65, 66, 67, 71, 72, 73, 74, 75, 86, 89, 90, 91, 92, 93, 94, 95, 96, 97, 98, 99, 100, 101] [11]
  (.seq
   (.seq
    (.is [.setR 60 (.r 0),
      .setR 61 (.r 9),
      .setR 62 (.r 11),
      .call [] 63 43 [(.o 11)],
      .call [] 64 42 [(.r 60), (.r 61), (.r 63)],
      .setR 13 (.r 64)])
    (.seq
     (.is [.setR 65 (.r 13),
       .setR 66 (.r 6),
       .setR 67 (.ci .gtr (.r 65) (.r 66))])
     (.ite (.r 67) [6, 7] []
      (.is [.setR 68 (.r 13),
        .setR 69 (.r 11),
        .call [] 70 44 [(.o 11)],
        .setO 70 (.r 70),
        .setR 70 (.con .none),
        .setR 6 (.r 68),
        .setR 7 (.o 70)])
      .skip)))
   (.seq
    (.is [.setR 71 (.r 10),
      .setR 72 (.ai .sub .i64 (.r 71) (.con (.int 1))),
      .setR 14 (.r 72)])
    (.seq
     lp13_1
     (.seq
      (.seq
       (.is [.setR 89 (.r 14),
         .setR 90 (.ci .lss (.r 89) (.con (.int 0)))])
       (.ite (.r 90) [] []
        (.exit 4)
        .skip))
      (.seq
       (.is [.setR 91 (.r 11),
         .setR 92 (.r 14),
         .chk (.idx (.o 11) (.r 92)),
         .setR 93 (.r 92),
         .setR 94 (.nth (.o 11) (.r 93)),
         .setR 95 (.ai .add .i64 (.r 94) (.con (.int 1))),
         .chk (.idx (.o 11) (.r 92)),
         .setR 96 (.r 92),
         .setO 11 (.setn (.o 11) (.r 96) 0 (.r 95))])
       (.seq
        (.is [.setR 97 (.r 14),
          .setR 98 (.ai .add .i64 (.r 97) (.con (.int 1))),
          .setR 15 (.r 98)])
        lp13_2)))))))
def lp13_3 : PC := .block 4 [6, 7, 13, 14, 60, 61, 62, 63, 64, 65, 66, 67, 71, 72, 73, 74, 75, 86, 89, 90] [11] (.loop [6, 7] [11] bd13_3)
def rd13_3 : PT :=
 (.blockS ⟨[], []⟩ 5 [6, 7, 13, 14, 15, 60, 61, 62, 63, 64, 65, 66, 67, 71, 72, 73, 74, 75, 86, 89, 90, 91, 92, 93, 94, 95, 96, 97, 98, 99, 100, 101] [11]
  (.call ⟨[(62, (.r 11)), (61, (.r 9)), (60, (.r 0))], []⟩ [] 63 43 [(.o 11)]
  (.call ⟨[], []⟩ [] 64 42 [(.r 60), (.r 61), (.r 63)]
  (.iteS ⟨[(67, (.ci .gtr (.r 64) (.r 6))), (66, (.r 6)), (65, (.r 64)), (13, (.r 64))], []⟩ (.r 67) [6, 7] []
   (.call ⟨[(69, (.r 11)), (68, (.r 13))], []⟩ [] 70 44 [(.o 11)]
   (.next ⟨[(7, (.r 70)), (6, (.r 68)), (70, (.con .none))], [(70, (.r 70))]⟩))
   (.next ⟨[], []⟩)
  (.brk ⟨[(14, (.ai .sub .i64 (.r 10) (.con (.int 1)))), (72, (.ai .sub .i64 (.r 10) (.con (.int 1)))), (71, (.r 10))], []⟩
   lp13_1
  (.ite (.ci .lss (.r 14) (.con (.int 0)))
   (.exit 4 ⟨[(90, (.ci .lss (.r 14) (.con (.int 0)))), (89, (.r 14))], []⟩)
   (.chk (.idx (.o 11) (.r 14))
   (.brk ⟨[(15, (.ai .add .i64 (.r 14) (.con (.int 1)))), (98, (.ai .add .i64 (.r 14) (.con (.int 1)))), (97, (.r 14)), (96, (.r 14)), (95, (.ai .add .i64 (.nth (.o 11) (.r 14)) (.con (.int 1)))), (94, (.nth (.o 11) (.r 14))), (93, (.r 14)), (92, (.r 14)), (91, (.r 11)), (90, (.ci .lss (.r 14) (.con (.int 0)))), (89, (.r 14))], [(11, (.setn (.o 11) (.r 14) 0 (.ai .add .i64 (.nth (.o 11) (.r 14)) (.con (.int 1)))))]⟩
    lp13_2
   (.next ⟨[], []⟩))))))))
 (.next ⟨[(6, (.r 6)), (7, (.r 7))], [(11, (.o 11))]⟩))
theorem rd13_3_eq : round 4 [6, 7, 13, 14, 60, 61, 62, 63, 64, 65, 66, 67, 71, 72, 73, 74, 75, 86, 89, 90] [11] [6, 7] [11] bd13_3 = rd13_3 := by kernel_rfl
def bd13_4 : PC :=
 (.seq
  (.seq
   (.is [.setR 43 (.r 10),
     .setR 44 (.r 2),
     .setR 45 (.ci .leq (.r 43) (.r 44))])
   (.ite (.r 45) [] []
    .skip
    (.exit 0)))
  (.seq
   (.block 1 [6, 7, 11, 13, 14, 48, 50, 51, 52, 53, 60, 61, 62, 63, 64, 65, 66, 67, 71, 72, 73, 74, 75, 86, 89, 90] [11]
    (.seq
     (.is [.setR 48 (.r 10),
       .chk (.an (.ci .geq (.r 48) (.con (.int 0))) (.ci .leq (.r 48) (.con (.int 4294967296)))),
       .chk (.ci .eql (.r 48) (.r 48)),
       .setO 49 (.rep (.r 48) (.con (.int 0))),
       .setR 49 (.con .none),
       .setR 11 (.r 49),
       .setO 11 (.o 49)])
     (.seq
      (.seq
       (.is [.setR 50 (.r 11),
         .setR 51 (.llen (.o 11)),
         .setR 52 (.con (.int 0))])
       lp13_0)
      lp13_3)))
   (.is [.setR 46 (.r 10),
     .setR 47 (.ai .add .i64 (.r 46) (.con (.int 1))),
     .setR 10 (.r 47)])))
def lp13_4 : PC := .block 0 [6, 7, 10, 43, 44, 45] [] (.loop [6, 7, 10] [] bd13_4)
def rd13_4 : PT :=
 (.ite (.ci .leq (.r 10) (.r 2))
  (.blockS ⟨[(45, (.ci .leq (.r 10) (.r 2))), (44, (.r 2)), (43, (.r 10))], []⟩ 1 [6, 7, 11, 13, 14, 48, 50, 51, 52, 53, 60, 61, 62, 63, 64, 65, 66, 67, 71, 72, 73, 74, 75, 86, 89, 90] [11]
   (.chk (.an (.ci .geq (.r 10) (.con (.int 0))) (.ci .leq (.r 10) (.con (.int 4294967296))))
   (.chk (.ci .eql (.r 10) (.r 10))
   (.brk ⟨[(52, (.con (.int 0))), (51, (.llen (.rep (.r 10) (.con (.int 0))))), (50, (.con .none)), (11, (.con .none)), (49, (.con .none)), (48, (.r 10))], [(11, (.rep (.r 10) (.con (.int 0)))), (49, (.rep (.r 10) (.con (.int 0))))]⟩
    lp13_0
   (.brk ⟨[], []⟩
    lp13_3
   (.next ⟨[], []⟩)))))
  (.next ⟨[(6, (.r 6)), (7, (.r 7)), (10, (.ai .add .i64 (.r 10) (.con (.int 1))))], []⟩))
  (.exit 0 ⟨[(6, (.r 6)), (7, (.r 7)), (10, (.r 10)), (43, (.r 10)), (44, (.r 2)), (45, (.ci .leq (.r 10) (.r 2)))], []⟩))
theorem rd13_4_eq : round 0 [6, 7, 10, 43, 44, 45] [] [6, 7, 10] [] bd13_4 = rd13_4 := by kernel_rfl
def pc13 : PC :=
 (.seq
  (.is [.setR 6 (.con (.int 0)),
    .setR 7 (.con (.list [])),
    .setR 8 (.con (.int 0))])
  (.seq
   (.seq
    (.is [.setR 16 (.r 0),
      .call [] 17 16 [(.r 16)],
      .setR 18 (.nt (.r 17)),
      .setR 19 (.r 18),
      .setR 20 (.r 1),
      .setR 21 (.ci .lss (.r 20) (.con (.int 0))),
      .setR 22 (.pick (.r 19) (.con (.bool true)) (.r 21)),
      .setR 23 (.r 22),
      .setR 24 (.r 1),
      .setR 25 (.ci .gtr (.r 24) (.con (.int 20))),
      .setR 26 (.pick (.r 23) (.con (.bool true)) (.r 25)),
      .setR 27 (.r 26),
      .setR 28 (.r 2),
      .setR 29 (.ci .lss (.r 28) (.con (.int 0))),
      .setR 30 (.pick (.r 27) (.con (.bool true)) (.r 29)),
      .setR 31 (.r 30),
      .setR 32 (.r 2),
      .setR 33 (.r 1),
      .setR 34 (.ci .gtr (.r 32) (.r 33)),
      .setR 35 (.pick (.r 31) (.con (.bool true)) (.r 34))])
    (.ite (.r 35) [6, 7, 8] []
     (.seq
      (.is [.setR 6 (.con (.int 0)),
        .setR 7 (.con (.list [])),
        .setR 8 (.con (.int 1))])
      (.ret (.tup [(.r 6), (.r 7), (.r 8)])))
     .skip))
   (.seq
    (.seq
     (.is [.setR 36 (.r 2),
       .setR 37 (.ci .gtr (.r 36) (.con (.int 6)))])
     (.ite (.r 37) [6, 7, 8] []
      (.seq
       (.is [.setR 6 (.con (.int 0)),
         .setR 7 (.con (.list [])),
         .setR 8 (.con (.int 6))])
       (.ret (.tup [(.r 6), (.r 7), (.r 8)])))
      .skip))
    (.seq
     (.is [.setR 38 (.r 0),
       .call [] 39 41 [(.r 38)],
       .setR 9 (.r 39)])
     (.seq
      (.is [.setR 40 (.r 0),
        .setR 41 (.r 9),
        .call [] 42 42 [(.r 40), (.r 41), (.con (.v (.int .u32 0)))],
        .setR 6 (.r 42)])
      (.seq
       (.seq
        (.is [.setR 10 (.con (.int 1))])
        lp13_4)
       (.seq
        (.is [.setR 113 (.r 6),
          .setR 114 (.r 7),
          .setR 6 (.r 113),
          .setR 7 (.r 114),
          .setR 8 (.con (.int 0))])
        (.ret (.tup [(.r 6), (.r 7), (.r 8)])))))))))
def tr13 : PT :=
 (.call ⟨[(16, (.r 0)), (8, (.con (.int 0))), (7, (.con (.list []))), (6, (.con (.int 0)))], []⟩ [] 17 16 [(.r 16)]
 (.ite (.pick (.pick (.pick (.pick (.nt (.r 17)) (.con (.bool true)) (.ci .lss (.r 1) (.con (.int 0)))) (.con (.bool true)) (.ci .gtr (.r 1) (.con (.int 20)))) (.con (.bool true)) (.ci .lss (.r 2) (.con (.int 0)))) (.con (.bool true)) (.ci .gtr (.r 2) (.r 1)))
  (.ret (.tup [(.con (.int 0)), (.con (.list [])), (.con (.int 1))]))
  (.ite (.ci .gtr (.r 2) (.con (.int 6)))
   (.ret (.tup [(.con (.int 0)), (.con (.list [])), (.con (.int 6))]))
   (.call ⟨[(38, (.r 0)), (6, (.r 6)), (7, (.r 7)), (8, (.r 8)), (37, (.ci .gtr (.r 2) (.con (.int 6)))), (36, (.r 2)), (6, (.r 6)), (7, (.r 7)), (8, (.r 8)), (35, (.pick (.pick (.pick (.pick (.nt (.r 17)) (.con (.bool true)) (.ci .lss (.r 1) (.con (.int 0)))) (.con (.bool true)) (.ci .gtr (.r 1) (.con (.int 20)))) (.con (.bool true)) (.ci .lss (.r 2) (.con (.int 0)))) (.con (.bool true)) (.ci .gtr (.r 2) (.r 1)))), (34, (.ci .gtr (.r 2) (.r 1))), (33, (.r 1)), (32, (.r 2)), (31, (.pick (.pick (.pick (.nt (.r 17)) (.con (.bool true)) (.ci .lss (.r 1) (.con (.int 0)))) (.con (.bool true)) (.ci .gtr (.r 1) (.con (.int 20)))) (.con (.bool true)) (.ci .lss (.r 2) (.con (.int 0))))), (30, (.pick (.pick (.pick (.nt (.r 17)) (.con (.bool true)) (.ci .lss (.r 1) (.con (.int 0)))) (.con (.bool true)) (.ci .gtr (.r 1) (.con (.int 20)))) (.con (.bool true)) (.ci .lss (.r 2) (.con (.int 0))))), (29, (.ci .lss (.r 2) (.con (.int 0)))), (28, (.r 2)), (27, (.pick (.pick (.nt (.r 17)) (.con (.bool true)) (.ci .lss (.r 1) (.con (.int 0)))) (.con (.bool true)) (.ci .gtr (.r 1) (.con (.int 20))))), (26, (.pick (.pick (.nt (.r 17)) (.con (.bool true)) (.ci .lss (.r 1) (.con (.int 0)))) (.con (.bool true)) (.ci .gtr (.r 1) (.con (.int 20))))), (25, (.ci .gtr (.r 1) (.con (.int 20)))), (24, (.r 1)), (23, (.pick (.nt (.r 17)) (.con (.bool true)) (.ci .lss (.r 1) (.con (.int 0))))), (22, (.pick (.nt (.r 17)) (.con (.bool true)) (.ci .lss (.r 1) (.con (.int 0))))), (21, (.ci .lss (.r 1) (.con (.int 0)))), (20, (.r 1)), (19, (.nt (.r 17))), (18, (.nt (.r 17)))], []⟩ [] 39 41 [(.r 38)]
   (.call ⟨[(41, (.r 39)), (40, (.r 0)), (9, (.r 39))], []⟩ [] 42 42 [(.r 40), (.r 41), (.con (.v (.int .u32 0)))]
   (.brk ⟨[(10, (.con (.int 1))), (6, (.r 42))], []⟩
    lp13_4
   (.ret (.tup [(.r 6), (.r 7), (.con (.int 0))]))))))))
theorem tr13_eq : tree pc13 = tr13 := by kernel_rfl
/-! allonge/exposure.Right -/
def bd16_0 : PC :=
 (.seq
  (.is [.setR 28 (.ci .lss (.r 27) (.r 26))])
  (.seq
   (.ite (.r 28) [] []
    .skip
    (.exit 2))
   (.seq
    (.block 3 [2, 5, 6, 29, 30, 31, 32, 33, 34, 37, 38, 51] []
     (.seq
      (.is [.setR 29 (.r 27),
        .chk (.idx (.r 25) (.r 27)),
        .setR 30 (.ref (.nth (.r 25) (.r 27))),
        .setR 31 (.deref (.r 30)),
        .setR 5 (.r 29),
        .setR 6 (.r 31)])
      (.seq
       (.is [.setR 32 (.r 6),
         .setR 33 (.ci .lss (.r 32) (.con (.int 0))),
         .setR 34 (.r 33),
         .setR 35 (.r 6),
         .setR 36 (.ci .geq (.r 35) (.con (.int 20))),
         .setR 37 (.pick (.r 34) (.con (.bool true)) (.r 36)),
         .setR 38 (.r 37),
         .setR 39 (.r 5),
         .setR 40 (.ci .gtr (.r 39) (.con (.int 0))),
         .setR 41 (.r 40),
         .setR 42 (.r 6),
         .setR 43 (.con .none),
         .setR 44 (.cell (.o 4) 1),
         .setR 45 (.r 5),
         .setR 46 (.ai .sub .i64 (.r 45) (.con (.int 1))),
         .chk (.imp [(41, true), (38, false)] (.idx (.r 44) (.r 46))),
         .setR 47 (.ref (.nth (.r 44) (.r 46))),
         .setR 48 (.deref (.r 47)),
         .setR 49 (.ci .leq (.r 42) (.r 48)),
         .setR 50 (.pick (.r 41) (.r 49) (.con (.bool false))),
         .setR 51 (.pick (.r 38) (.con (.bool true)) (.r 50))])
       (.ite (.r 51) [2] []
        (.seq
         (.is [.setR 2 (.con (.bool false))])
         (.ret (.r 2)))
        .skip))))
    (.is [.setR 52 (.ai .add .i64 (.r 27) (.con (.int 1))),
      .setR 27 (.r 52)]))))
def lp16_0 : PC := .block 2 [2, 27, 28] [] (.loop [2, 27] [] bd16_0)
def rd16_0 : PT :=
 (.ite (.ci .lss (.r 27) (.r 26))
  (.chk (.idx (.r 25) (.r 27))
  (.chk (.nt (.an (.an (.ci .gtr (.r 27) (.con (.int 0))) (.an (.nt (.pick (.ci .lss (.nth (.r 25) (.r 27)) (.con (.int 0))) (.con (.bool true)) (.ci .geq (.nth (.r 25) (.r 27)) (.con (.int 20))))) (.con (.bool true)))) (.nt (.idx (.cell (.o 4) 1) (.ai .sub .i64 (.r 27) (.con (.int 1)))))))
  (.ite (.pick (.pick (.ci .lss (.nth (.r 25) (.r 27)) (.con (.int 0))) (.con (.bool true)) (.ci .geq (.nth (.r 25) (.r 27)) (.con (.int 20)))) (.con (.bool true)) (.pick (.ci .gtr (.r 27) (.con (.int 0))) (.ci .leq (.nth (.r 25) (.r 27)) (.nth (.cell (.o 4) 1) (.ai .sub .i64 (.r 27) (.con (.int 1))))) (.con (.bool false))))
   (.ret (.con (.bool false)))
   (.next ⟨[(2, (.r 2)), (27, (.ai .add .i64 (.r 27) (.con (.int 1))))], []⟩))))
  (.exit 2 ⟨[(2, (.r 2)), (27, (.r 27)), (28, (.ci .lss (.r 27) (.r 26)))], []⟩))
theorem rd16_0_eq : round 2 [2, 27, 28] [] [2, 27] [] bd16_0 = rd16_0 := by kernel_rfl
def bd16_1 : PC :=
 (.seq
  (.is [.setR 13 (.ci .lss (.r 12) (.r 11))])
  (.seq
   (.ite (.r 13) [] []
    .skip
    (.exit 0))
   (.seq
    (.block 1 [2, 4, 14, 15, 16, 17, 18, 19, 23, 24, 25, 26, 27, 28] [4, 8196]
     (.seq
      (.is [.chk (.idx (.r 10) (.r 12)),
        .setR 14 (.ref (.nth (.r 10) (.r 12))),
        .setR 15 (.deref (.r 14)),
        .setO 4 (.con (.agg [(.int 0), (.list [])])),
        .setR 4 (.con .none),
        .setO 8196 (.con (.list [])),
        .setO 4 (.setc (.o 4) 0 (.r 15))])
      (.seq
       (.seq
        (.is [.setR 16 (.con .none),
          .setR 17 (.cell (.o 4) 0),
          .setR 18 (.ci .lss (.r 17) (.con (.int 0))),
          .setR 19 (.r 18),
          .setR 20 (.con .none),
          .setR 21 (.cell (.o 4) 0),
          .setR 22 (.ci .gtr (.r 21) (.con (.int 1099511627776))),
          .setR 23 (.pick (.r 19) (.con (.bool true)) (.r 22))])
        (.ite (.r 23) [2] []
         (.seq
          (.is [.setR 2 (.con (.bool false))])
          (.ret (.r 2)))
         .skip))
       (.seq
        (.is [.setR 24 (.con .none),
          .setR 25 (.cell (.o 4) 1),
          .setR 26 (.llen (.r 25)),
          .setR 27 (.con (.int 0))])
        lp16_0))))
    (.is [.setR 53 (.ai .add .i64 (.r 12) (.con (.int 1))),
      .setR 12 (.r 53)]))))
def lp16_1 : PC := .block 0 [2, 12, 13] [] (.loop [2, 12] [] bd16_1)
def rd16_1 : PT :=
 (.ite (.ci .lss (.r 12) (.r 11))
  (.blockS ⟨[(13, (.ci .lss (.r 12) (.r 11)))], []⟩ 1 [2, 4, 14, 15, 16, 17, 18, 19, 23, 24, 25, 26, 27, 28] [4, 8196]
   (.chk (.idx (.r 10) (.r 12))
   (.ite (.pick (.ci .lss (.cell (.setc (.con (.agg [(.int 0), (.list [])])) 0 (.nth (.r 10) (.r 12))) 0) (.con (.int 0))) (.con (.bool true)) (.ci .gtr (.cell (.setc (.con (.agg [(.int 0), (.list [])])) 0 (.nth (.r 10) (.r 12))) 0) (.con (.int 1099511627776))))
    (.ret (.con (.bool false)))
    (.brk ⟨[(27, (.con (.int 0))), (26, (.llen (.cell (.setc (.con (.agg [(.int 0), (.list [])])) 0 (.nth (.r 10) (.r 12))) 1))), (25, (.cell (.setc (.con (.agg [(.int 0), (.list [])])) 0 (.nth (.r 10) (.r 12))) 1)), (24, (.con .none)), (2, (.r 2)), (23, (.pick (.ci .lss (.cell (.setc (.con (.agg [(.int 0), (.list [])])) 0 (.nth (.r 10) (.r 12))) 0) (.con (.int 0))) (.con (.bool true)) (.ci .gtr (.cell (.setc (.con (.agg [(.int 0), (.list [])])) 0 (.nth (.r 10) (.r 12))) 0) (.con (.int 1099511627776))))), (22, (.ci .gtr (.cell (.setc (.con (.agg [(.int 0), (.list [])])) 0 (.nth (.r 10) (.r 12))) 0) (.con (.int 1099511627776)))), (21, (.cell (.setc (.con (.agg [(.int 0), (.list [])])) 0 (.nth (.r 10) (.r 12))) 0)), (20, (.con .none)), (19, (.ci .lss (.cell (.setc (.con (.agg [(.int 0), (.list [])])) 0 (.nth (.r 10) (.r 12))) 0) (.con (.int 0)))), (18, (.ci .lss (.cell (.setc (.con (.agg [(.int 0), (.list [])])) 0 (.nth (.r 10) (.r 12))) 0) (.con (.int 0)))), (17, (.cell (.setc (.con (.agg [(.int 0), (.list [])])) 0 (.nth (.r 10) (.r 12))) 0)), (16, (.con .none)), (4, (.con .none)), (15, (.nth (.r 10) (.r 12))), (14, (.ref (.nth (.r 10) (.r 12))))], [(4, (.setc (.con (.agg [(.int 0), (.list [])])) 0 (.nth (.r 10) (.r 12)))), (8196, (.con (.list []))), (4, (.con (.agg [(.int 0), (.list [])])))]⟩
     lp16_0
    (.next ⟨[], []⟩))))
  (.next ⟨[(2, (.r 2)), (12, (.ai .add .i64 (.r 12) (.con (.int 1))))], []⟩))
  (.exit 0 ⟨[(2, (.r 2)), (12, (.r 12)), (13, (.ci .lss (.r 12) (.r 11)))], []⟩))
theorem rd16_1_eq : round 0 [2, 12, 13] [] [2, 12] [] bd16_1 = rd16_1 := by kernel_rfl
def pc16 : PC :=
 (.seq
  (.is [.setR 2 (.con (.bool false))])
  (.seq
   (.seq
    (.is [.setR 7 (.r 0),
      .setR 8 (.llen (.r 7)),
      .setR 9 (.ci .gtr (.r 8) (.con (.int 100)))])
    (.ite (.r 9) [2] []
     (.seq
      (.is [.setR 2 (.con (.bool false))])
      (.ret (.r 2)))
     .skip))
   (.seq
    (.seq
     (.is [.setR 10 (.r 0),
       .setR 11 (.llen (.r 10)),
       .setR 12 (.con (.int 0))])
     lp16_1)
    (.seq
     (.is [.setR 2 (.con (.bool true))])
     (.ret (.r 2))))))
def tr16 : PT :=
 (.ite (.ci .gtr (.llen (.r 0)) (.con (.int 100)))
  (.ret (.con (.bool false)))
  (.brk ⟨[(12, (.con (.int 0))), (11, (.llen (.r 0))), (10, (.r 0)), (2, (.con (.bool false))), (9, (.ci .gtr (.llen (.r 0)) (.con (.int 100)))), (8, (.llen (.r 0))), (7, (.r 0)), (2, (.con (.bool false)))], []⟩
   lp16_1
  (.ret (.con (.bool true)))))
theorem tr16_eq : tree pc16 = tr16 := by kernel_rfl
/-! allonge/exposure.masks -/
def bd41_0 : PC :=
 (.seq
  (.is [.setR 9 (.ci .lss (.r 8) (.r 7))])
  (.seq
   (.ite (.r 9) [] []
    .skip
    (.exit 0))
   (.seq
    (.block 1 [3, 5, 10, 11, 13, 14, 15, 16, 17] [5, 8197, 3, 16]
     (.seq
      (.is [.chk (.idx (.r 6) (.r 8)),
        .setR 10 (.ref (.nth (.r 6) (.r 8))),
        .setR 11 (.deref (.r 10)),
        .setO 5 (.con (.agg [(.int 0), (.list [])])),
        .setR 5 (.con .none),
        .setO 8197 (.con (.list [])),
        .setO 5 (.setc (.o 5) 0 (.r 11))])
      (.is [.setR 12 (.r 3),
        .setR 13 (.con .none),
        .setR 14 (.cell (.o 5) 1),
        .call [] 15 43 [(.r 14)],
        .setO 16 (.lst [(.r 15)]),
        .setR 16 (.con .none),
        .chk (.ci .leq (.llen (.app (.o 3) (.o 16))) (.con (.int 4294967296))),
        .setO 3 (.app (.o 3) (.o 16)),
        .setR 17 (.con .none),
        .setR 3 (.r 17)])))
    (.is [.setR 18 (.ai .add .i64 (.r 8) (.con (.int 1))),
      .setR 8 (.r 18)]))))
def lp41_0 : PC := .block 0 [3, 8, 9] [3] (.loop [3, 8] [3] bd41_0)
def rd41_0 : PT :=
 (.ite (.ci .lss (.r 8) (.r 7))
  (.blockS ⟨[(9, (.ci .lss (.r 8) (.r 7)))], []⟩ 1 [3, 5, 10, 11, 13, 14, 15, 16, 17] [5, 8197, 3, 16]
   (.chk (.idx (.r 6) (.r 8))
   (.call ⟨[(14, (.cell (.setc (.con (.agg [(.int 0), (.list [])])) 0 (.nth (.r 6) (.r 8))) 1)), (13, (.con .none)), (12, (.r 3)), (5, (.con .none)), (11, (.nth (.r 6) (.r 8))), (10, (.ref (.nth (.r 6) (.r 8))))], [(5, (.setc (.con (.agg [(.int 0), (.list [])])) 0 (.nth (.r 6) (.r 8)))), (8197, (.con (.list []))), (5, (.con (.agg [(.int 0), (.list [])])))]⟩ [] 15 43 [(.r 14)]
   (.chk (.ci .leq (.llen (.app (.o 3) (.lst [(.r 15)]))) (.con (.int 4294967296)))
   (.next ⟨[(3, (.con .none)), (17, (.con .none)), (16, (.con .none))], [(3, (.app (.o 3) (.lst [(.r 15)]))), (16, (.lst [(.r 15)]))]⟩))))
  (.next ⟨[(3, (.r 3)), (8, (.ai .add .i64 (.r 8) (.con (.int 1))))], [(3, (.o 3))]⟩))
  (.exit 0 ⟨[(3, (.r 3)), (8, (.r 8)), (9, (.ci .lss (.r 8) (.r 7)))], [(3, (.o 3))]⟩))
theorem rd41_0_eq : round 0 [3, 8, 9] [3] [3, 8] [3] bd41_0 = rd41_0 := by kernel_rfl
def pc41 : PC :=
 (.seq
  (.is [.setR 2 (.con (.list []))])
  (.seq
   (.is [.setO 3 (.con (.list [])),
     .setR 3 (.con .none)])
   (.seq
    (.seq
     (.is [.setR 6 (.r 0),
       .setR 7 (.llen (.r 6)),
       .setR 8 (.con (.int 0))])
     lp41_0)
    (.seq
     (.is [.setR 19 (.r 3),
       .setR 2 (.o 3)])
     (.ret (.r 2))))))
def tr41 : PT :=
 (.brk ⟨[(8, (.con (.int 0))), (7, (.llen (.r 0))), (6, (.r 0)), (3, (.con .none)), (2, (.con (.list [])))], [(3, (.con (.list [])))]⟩
  lp41_0
 (.ret (.o 3)))
theorem tr41_eq : tree pc41 = tr41 := by kernel_rfl
/-! allonge/exposure.mask -/
def bd43_0 : PC :=
 (.seq
  (.is [.setR 9 (.ci .lss (.r 8) (.r 7))])
  (.seq
   (.ite (.r 9) [] []
    .skip
    (.exit 0))
   (.seq
    (.block 1 [3, 5, 10, 11, 12, 13, 14, 17] []
     (.seq
      (.is [.chk (.idx (.r 6) (.r 8)),
        .setR 10 (.ref (.nth (.r 6) (.r 8))),
        .setR 11 (.deref (.r 10)),
        .setR 5 (.r 11)])
      (.seq
       (.is [.setR 12 (.r 5),
         .setR 13 (.ci .geq (.r 12) (.con (.int 0))),
         .setR 14 (.r 13),
         .setR 15 (.r 5),
         .setR 16 (.ci .lss (.r 15) (.con (.int 20))),
         .setR 17 (.pick (.r 14) (.r 16) (.con (.bool false)))])
       (.ite (.r 17) [3] []
        (.is [.setR 18 (.r 3),
          .setR 19 (.r 5),
          .chk (.ci .geq (.r 19) (.con (.int 0))),
          .setR 20 (.ai .shl .u32 (.con (.v (.int .u32 1))) (.r 19)),
          .setR 21 (.ai .or .u32 (.r 18) (.r 20)),
          .setR 3 (.r 21)])
        .skip))))
    (.is [.setR 22 (.ai .add .i64 (.r 8) (.con (.int 1))),
      .setR 8 (.r 22)]))))
def lp43_0 : PC := .block 0 [3, 8, 9] [] (.loop [3, 8] [] bd43_0)
def rd43_0 : PT :=
 (.ite (.ci .lss (.r 8) (.r 7))
  (.chk (.idx (.r 6) (.r 8))
  (.ite (.pick (.ci .geq (.nth (.r 6) (.r 8)) (.con (.int 0))) (.ci .lss (.nth (.r 6) (.r 8)) (.con (.int 20))) (.con (.bool false)))
   (.chk (.ci .geq (.nth (.r 6) (.r 8)) (.con (.int 0)))
   (.next ⟨[(3, (.ai .or .u32 (.r 3) (.ai .shl .u32 (.con (.v (.int .u32 1))) (.nth (.r 6) (.r 8))))), (8, (.ai .add .i64 (.r 8) (.con (.int 1))))], []⟩))
   (.next ⟨[(3, (.r 3)), (8, (.ai .add .i64 (.r 8) (.con (.int 1))))], []⟩)))
  (.exit 0 ⟨[(3, (.r 3)), (8, (.r 8)), (9, (.ci .lss (.r 8) (.r 7)))], []⟩))
theorem rd43_0_eq : round 0 [3, 8, 9] [] [3, 8] [] bd43_0 = rd43_0 := by kernel_rfl
def pc43 : PC :=
 (.seq
  (.is [.setR 2 (.con (.v (.int .u32 0)))])
  (.seq
   (.is [.setR 3 (.con (.v (.int .u32 0)))])
   (.seq
    (.seq
     (.is [.setR 6 (.r 0),
       .setR 7 (.llen (.r 6)),
       .setR 8 (.con (.int 0))])
     lp43_0)
    (.seq
     (.is [.setR 23 (.r 3),
       .setR 2 (.r 23)])
     (.ret (.r 2))))))
def tr43 : PT :=
 (.brk ⟨[(8, (.con (.int 0))), (7, (.llen (.r 0))), (6, (.r 0)), (3, (.con (.v (.int .u32 0)))), (2, (.con (.v (.int .u32 0))))], []⟩
  lp43_0
 (.ret (.r 3)))
theorem tr43_eq : tree pc43 = tr43 := by kernel_rfl
/-! allonge/exposure.loss -/
def bd42_0 : PC :=
 (.seq
  (.is [.setR 13 (.ci .lss (.r 12) (.r 11))])
  (.seq
   (.ite (.r 13) [] []
    .skip
    (.exit 0))
   (.seq
    (.block 1 [7, 8, 9, 14, 15, 16, 17, 18, 19, 20, 21, 22, 23] [9, 8201]
     (.seq
      (.is [.setR 14 (.r 12),
        .chk (.idx (.r 10) (.r 12)),
        .setR 15 (.ref (.nth (.r 10) (.r 12))),
        .setR 16 (.deref (.r 15)),
        .setO 9 (.con (.agg [(.int 0), (.list [])])),
        .setR 9 (.con .none),
        .setO 8201 (.con (.list [])),
        .setR 8 (.r 14),
        .setO 9 (.setc (.o 9) 0 (.r 16))])
      (.seq
       (.is [.setR 17 (.r 1),
         .setR 18 (.r 8),
         .chk (.idx (.r 17) (.r 18)),
         .setR 19 (.ref (.nth (.r 17) (.r 18))),
         .setR 20 (.deref (.r 19)),
         .setR 21 (.r 2),
         .setR 22 (.ai .andNot .u32 (.r 20) (.r 21)),
         .setR 23 (.ci .eql (.r 22) (.con (.v (.int .u32 0))))])
       (.ite (.r 23) [7] []
        (.is [.setR 24 (.r 7),
          .setR 25 (.con .none),
          .setR 26 (.cell (.o 9) 0),
          .setR 27 (.ai .add .i64 (.r 24) (.r 26)),
          .setR 7 (.r 27)])
        .skip))))
    (.is [.setR 28 (.ai .add .i64 (.r 12) (.con (.int 1))),
      .setR 12 (.r 28)]))))
def lp42_0 : PC := .block 0 [7, 12, 13] [] (.loop [7, 12] [] bd42_0)
def rd42_0 : PT :=
 (.ite (.ci .lss (.r 12) (.r 11))
  (.chk (.idx (.r 10) (.r 12))
  (.chk (.idx (.r 1) (.r 12))
  (.next ⟨[(7, (.pick (.ci .eql (.ai .andNot .u32 (.nth (.r 1) (.r 12)) (.r 2)) (.con (.v (.int .u32 0)))) (.ai .add .i64 (.r 7) (.cell (.setc (.con (.agg [(.int 0), (.list [])])) 0 (.nth (.r 10) (.r 12))) 0)) (.r 7))), (12, (.ai .add .i64 (.r 12) (.con (.int 1))))], []⟩)))
  (.exit 0 ⟨[(7, (.r 7)), (12, (.r 12)), (13, (.ci .lss (.r 12) (.r 11)))], []⟩))
theorem rd42_0_eq : round 0 [7, 12, 13] [] [7, 12] [] bd42_0 = rd42_0 := by kernel_rfl
def pc42 : PC :=
 (.seq
  (.is [.setR 6 (.con (.int 0))])
  (.seq
   (.is [.setR 7 (.con (.int 0))])
   (.seq
    (.seq
     (.is [.setR 10 (.r 0),
       .setR 11 (.llen (.r 10)),
       .setR 12 (.con (.int 0))])
     lp42_0)
    (.seq
     (.is [.setR 29 (.r 7),
       .setR 6 (.r 29)])
     (.ret (.r 6))))))
def tr42 : PT :=
 (.brk ⟨[(12, (.con (.int 0))), (11, (.llen (.r 0))), (10, (.r 0)), (7, (.con (.int 0))), (6, (.con (.int 0)))], []⟩
  lp42_0
 (.ret (.r 7)))
theorem tr42_eq : tree pc42 = tr42 := by kernel_rfl
/-! allonge/allongeref06.SameInts -/
def bd15_0 : PC :=
 (.seq
  (.seq
   (.is [.setR 11 (.r 5),
     .setR 12 (.r 0),
     .setR 13 (.llen (.r 12)),
     .setR 14 (.ci .lss (.r 11) (.r 13))])
   (.ite (.r 14) [] []
    .skip
    (.exit 0)))
  (.seq
   (.block 1 [4, 17, 18, 19, 20, 21, 22, 23, 24, 25] []
    (.seq
     (.is [.setR 17 (.r 0),
       .setR 18 (.r 5),
       .chk (.idx (.r 17) (.r 18)),
       .setR 19 (.ref (.nth (.r 17) (.r 18))),
       .setR 20 (.deref (.r 19)),
       .setR 21 (.r 1),
       .setR 22 (.r 5),
       .chk (.idx (.r 21) (.r 22)),
       .setR 23 (.ref (.nth (.r 21) (.r 22))),
       .setR 24 (.deref (.r 23)),
       .setR 25 (.ci .neq (.r 20) (.r 24))])
     (.ite (.r 25) [4] []
      (.seq
       (.is [.setR 4 (.con (.bool false))])
       (.ret (.r 4)))
      .skip)))
   (.is [.setR 15 (.r 5),
     .setR 16 (.ai .add .i64 (.r 15) (.con (.int 1))),
     .setR 5 (.r 16)])))
def lp15_0 : PC := .block 0 [4, 5, 11, 12, 13, 14] [] (.loop [4, 5] [] bd15_0)
def rd15_0 : PT :=
 (.ite (.ci .lss (.r 5) (.llen (.r 0)))
  (.chk (.idx (.r 0) (.r 5))
  (.chk (.idx (.r 1) (.r 5))
  (.ite (.ci .neq (.nth (.r 0) (.r 5)) (.nth (.r 1) (.r 5)))
   (.ret (.con (.bool false)))
   (.next ⟨[(4, (.r 4)), (5, (.ai .add .i64 (.r 5) (.con (.int 1))))], []⟩))))
  (.exit 0 ⟨[(4, (.r 4)), (5, (.r 5)), (11, (.r 5)), (12, (.r 0)), (13, (.llen (.r 0))), (14, (.ci .lss (.r 5) (.llen (.r 0))))], []⟩))
theorem rd15_0_eq : round 0 [4, 5, 11, 12, 13, 14] [] [4, 5] [] bd15_0 = rd15_0 := by kernel_rfl
def pc15 : PC :=
 (.seq
  (.is [.setR 4 (.con (.bool false))])
  (.seq
   (.seq
    (.is [.setR 6 (.r 0),
      .setR 7 (.llen (.r 6)),
      .setR 8 (.r 1),
      .setR 9 (.llen (.r 8)),
      .setR 10 (.ci .neq (.r 7) (.r 9))])
    (.ite (.r 10) [4] []
     (.seq
      (.is [.setR 4 (.con (.bool false))])
      (.ret (.r 4)))
     .skip))
   (.seq
    (.seq
     (.is [.setR 5 (.con (.int 0))])
     lp15_0)
    (.seq
     (.is [.setR 4 (.con (.bool true))])
     (.ret (.r 4))))))
def tr15 : PT :=
 (.ite (.ci .neq (.llen (.r 0)) (.llen (.r 1)))
  (.ret (.con (.bool false)))
  (.brk ⟨[(5, (.con (.int 0))), (4, (.con (.bool false))), (10, (.ci .neq (.llen (.r 0)) (.llen (.r 1)))), (9, (.llen (.r 1))), (8, (.r 1)), (7, (.llen (.r 0))), (6, (.r 0)), (4, (.con (.bool false)))], []⟩
   lp15_0
  (.ret (.con (.bool true)))))
theorem tr15_eq : tree pc15 = tr15 := by kernel_rfl
/-! allonge/exposure.Loss -/
def pc18 : PC :=
 (.seq
  (.is [.setR 4 (.con (.int 0))])
  (.seq
   (.seq
    (.is [.setR 5 (.r 0),
      .call [] 6 16 [(.r 5)],
      .setR 7 (.nt (.r 6))])
    (.ite (.r 7) [4] []
     (.seq
      (.is [.setR 4 (.con (.int 0))])
      (.ret (.r 4)))
     .skip))
   (.seq
    (.is [.setR 8 (.r 0),
      .setR 9 (.r 0),
      .call [] 10 41 [(.r 9)],
      .setR 11 (.r 1),
      .call [] 12 43 [(.r 11)],
      .call [] 13 42 [(.r 8), (.r 10), (.r 12)],
      .setR 4 (.r 13)])
    (.ret (.r 4)))))
def tr18 : PT :=
 (.call ⟨[(5, (.r 0)), (4, (.con (.int 0)))], []⟩ [] 6 16 [(.r 5)]
 (.ite (.nt (.r 6))
  (.ret (.con (.int 0)))
  (.call ⟨[(9, (.r 0)), (8, (.r 0)), (4, (.r 4)), (7, (.nt (.r 6)))], []⟩ [] 10 41 [(.r 9)]
  (.call ⟨[(11, (.r 1))], []⟩ [] 12 43 [(.r 11)]
  (.call ⟨[], []⟩ [] 13 42 [(.r 8), (.r 10), (.r 12)]
  (.ret (.r 13)))))))
theorem tr18_eq : tree pc18 = tr18 := by kernel_rfl
/-! allonge/exposure.Alone -/
def bd20_0 : PC :=
 (.seq
  (.is [.setR 25 (.ci .lss (.r 24) (.r 23))])
  (.seq
   (.ite (.r 25) [] []
    .skip
    (.exit 0))
   (.seq
    (.block 1 [7, 26, 27, 28, 29, 30, 31, 32, 33, 34] [5]
     (.seq
      (.is [.setR 26 (.r 24),
        .setR 7 (.r 26)])
      (.is [.setR 27 (.r 5),
        .setR 28 (.r 7),
        .setR 29 (.r 0),
        .setR 30 (.r 6),
        .setR 31 (.r 7),
        .chk (.ci .geq (.r 31) (.con (.int 0))),
        .setR 32 (.ai .shl .u32 (.con (.v (.int .u32 1))) (.r 31)),
        .call [] 33 42 [(.r 29), (.r 30), (.r 32)],
        .chk (.idx (.o 5) (.r 28)),
        .setR 34 (.r 28),
        .setO 5 (.setn (.o 5) (.r 34) 0 (.r 33))])))
    (.is [.setR 35 (.ai .add .i64 (.r 24) (.con (.int 1))),
      .setR 24 (.r 35)]))))
def lp20_0 : PC := .block 0 [24, 25] [5] (.loop [24] [5] bd20_0)
def rd20_0 : PT :=
 (.ite (.ci .lss (.r 24) (.r 23))
  (.blockS ⟨[(25, (.ci .lss (.r 24) (.r 23)))], []⟩ 1 [7, 26, 27, 28, 29, 30, 31, 32, 33, 34] [5]
   (.chk (.ci .geq (.r 24) (.con (.int 0)))
   (.call ⟨[(32, (.ai .shl .u32 (.con (.v (.int .u32 1))) (.r 24))), (31, (.r 24)), (30, (.r 6)), (29, (.r 0)), (28, (.r 24)), (27, (.r 5)), (7, (.r 24)), (26, (.r 24))], []⟩ [] 33 42 [(.r 29), (.r 30), (.r 32)]
   (.chk (.idx (.o 5) (.r 28))
   (.next ⟨[(34, (.r 28))], [(5, (.setn (.o 5) (.r 28) 0 (.r 33)))]⟩))))
  (.next ⟨[(24, (.ai .add .i64 (.r 24) (.con (.int 1))))], [(5, (.o 5))]⟩))
  (.exit 0 ⟨[(24, (.r 24)), (25, (.ci .lss (.r 24) (.r 23)))], [(5, (.o 5))]⟩))
theorem rd20_0_eq : round 0 [24, 25] [5] [24] [5] bd20_0 = rd20_0 := by kernel_rfl
def pc20 : PC :=
 (.seq
  (.is [.setR 4 (.con (.list []))])
  (.seq
   (.seq
    (.is [.setR 8 (.r 0),
      .call [] 9 16 [(.r 8)],
      .setR 10 (.nt (.r 9)),
      .setR 11 (.r 10),
      .setR 12 (.r 1),
      .setR 13 (.ci .lss (.r 12) (.con (.int 0))),
      .setR 14 (.pick (.r 11) (.con (.bool true)) (.r 13)),
      .setR 15 (.r 14),
      .setR 16 (.r 1),
      .setR 17 (.ci .gtr (.r 16) (.con (.int 20))),
      .setR 18 (.pick (.r 15) (.con (.bool true)) (.r 17))])
    (.ite (.r 18) [4] []
     (.seq
      (.is [.setR 4 (.con (.list []))])
      (.ret (.r 4)))
     .skip))
   (.seq
    (.is [.setR 19 (.r 1),
      .chk (.an (.ci .geq (.r 19) (.con (.int 0))) (.ci .leq (.r 19) (.con (.int 4294967296)))),
      .chk (.ci .eql (.r 19) (.r 19)),
      .setO 20 (.rep (.r 19) (.con (.int 0))),
      .setR 20 (.con .none),
      .setR 5 (.r 20),
      .setO 5 (.o 20)])
    (.seq
     (.is [.setR 21 (.r 0),
       .call [] 22 41 [(.r 21)],
       .setR 6 (.r 22)])
     (.seq
      (.seq
       (.is [.setR 23 (.r 1),
         .setR 24 (.con (.int 0))])
       lp20_0)
      (.seq
       (.is [.setR 36 (.r 5),
         .setR 4 (.o 5)])
       (.ret (.r 4))))))))
def tr20 : PT :=
 (.call ⟨[(8, (.r 0)), (4, (.con (.list [])))], []⟩ [] 9 16 [(.r 8)]
 (.ite (.pick (.pick (.nt (.r 9)) (.con (.bool true)) (.ci .lss (.r 1) (.con (.int 0)))) (.con (.bool true)) (.ci .gtr (.r 1) (.con (.int 20))))
  (.ret (.con (.list [])))
  (.chk (.an (.ci .geq (.r 1) (.con (.int 0))) (.ci .leq (.r 1) (.con (.int 4294967296))))
  (.chk (.ci .eql (.r 1) (.r 1))
  (.call ⟨[(21, (.r 0)), (5, (.con .none)), (20, (.con .none)), (19, (.r 1)), (4, (.r 4)), (18, (.pick (.pick (.nt (.r 9)) (.con (.bool true)) (.ci .lss (.r 1) (.con (.int 0)))) (.con (.bool true)) (.ci .gtr (.r 1) (.con (.int 20))))), (17, (.ci .gtr (.r 1) (.con (.int 20)))), (16, (.r 1)), (15, (.pick (.nt (.r 9)) (.con (.bool true)) (.ci .lss (.r 1) (.con (.int 0))))), (14, (.pick (.nt (.r 9)) (.con (.bool true)) (.ci .lss (.r 1) (.con (.int 0))))), (13, (.ci .lss (.r 1) (.con (.int 0)))), (12, (.r 1)), (11, (.nt (.r 9))), (10, (.nt (.r 9)))], [(5, (.rep (.r 1) (.con (.int 0)))), (20, (.rep (.r 1) (.con (.int 0))))]⟩ [] 22 41 [(.r 21)]
  (.brk ⟨[(24, (.con (.int 0))), (23, (.r 1)), (6, (.r 22))], []⟩
   lp20_0
  (.ret (.o 5))))))))
theorem tr20_eq : tree pc20 = tr20 := by kernel_rfl
/-! allonge/exposure.Over -/
def bd22_0 : PC :=
 (.seq
  (.is [.setR 14 (.ci .lss (.r 13) (.r 12))])
  (.seq
   (.ite (.r 14) [] []
    .skip
    (.exit 0))
   (.seq
    (.block 1 [5, 6, 7, 15, 16, 17, 18, 19, 20, 21, 22, 23] [5]
     (.seq
      (.is [.setR 15 (.r 13),
        .chk (.idx (.r 11) (.r 13)),
        .setR 16 (.ref (.nth (.r 11) (.r 13))),
        .setR 17 (.deref (.r 16)),
        .setR 6 (.r 15),
        .setR 7 (.r 17)])
      (.seq
       (.is [.setR 18 (.r 7),
         .setR 19 (.r 1),
         .setR 20 (.r 6),
         .chk (.idx (.r 19) (.r 20)),
         .setR 21 (.ref (.nth (.r 19) (.r 20))),
         .setR 22 (.deref (.r 21)),
         .setR 23 (.ci .gtr (.r 18) (.r 22))])
       (.ite (.r 23) [5] [5]
        (.is [.setR 24 (.r 5),
          .setR 25 (.r 6),
          .setO 26 (.lst [(.r 25)]),
          .setR 26 (.con .none),
          .chk (.ci .leq (.llen (.app (.o 5) (.o 26))) (.con (.int 4294967296))),
          .setO 5 (.app (.o 5) (.o 26)),
          .setR 27 (.con .none),
          .setR 5 (.r 27)])
        .skip))))
    (.is [.setR 28 (.ai .add .i64 (.r 13) (.con (.int 1))),
      .setR 13 (.r 28)]))))
def lp22_0 : PC := .block 0 [5, 13, 14] [5] (.loop [5, 13] [5] bd22_0)
def rd22_0 : PT :=
 (.ite (.ci .lss (.r 13) (.r 12))
  (.chk (.idx (.r 11) (.r 13))
  (.chk (.idx (.r 1) (.r 13))
  (.ite (.ci .gtr (.nth (.r 11) (.r 13)) (.nth (.r 1) (.r 13)))
   (.chk (.ci .leq (.llen (.app (.o 5) (.lst [(.r 13)]))) (.con (.int 4294967296)))
   (.next ⟨[(5, (.con .none)), (13, (.ai .add .i64 (.r 13) (.con (.int 1))))], [(5, (.app (.o 5) (.lst [(.r 13)])))]⟩))
   (.next ⟨[(5, (.r 5)), (13, (.ai .add .i64 (.r 13) (.con (.int 1))))], [(5, (.o 5))]⟩))))
  (.exit 0 ⟨[(5, (.r 5)), (13, (.r 13)), (14, (.ci .lss (.r 13) (.r 12)))], [(5, (.o 5))]⟩))
theorem rd22_0_eq : round 0 [5, 13, 14] [5] [5, 13] [5] bd22_0 = rd22_0 := by kernel_rfl
def pc22 : PC :=
 (.seq
  (.is [.setR 4 (.con (.list []))])
  (.seq
   (.is [.setO 5 (.con (.list [])),
     .setR 5 (.con .none)])
   (.seq
    (.seq
     (.is [.setR 8 (.r 0),
       .setR 9 (.r 1),
       .setR 10 (.llen (.r 9)),
       .call [] 11 20 [(.r 8), (.r 10)],
       .setR 12 (.llen (.r 11)),
       .setR 13 (.con (.int 0))])
     lp22_0)
    (.seq
     (.is [.setR 29 (.r 5),
       .setR 4 (.o 5)])
     (.ret (.r 4))))))
def tr22 : PT :=
 (.call ⟨[(10, (.llen (.r 1))), (9, (.r 1)), (8, (.r 0)), (5, (.con .none)), (4, (.con (.list [])))], [(5, (.con (.list [])))]⟩ [] 11 20 [(.r 8), (.r 10)]
 (.brk ⟨[(13, (.con (.int 0))), (12, (.llen (.r 11)))], []⟩
  lp22_0
 (.ret (.o 5))))
theorem tr22_eq : tree pc22 = tr22 := by kernel_rfl
/-! allonge/allongeref39.Few -/
def bd12_0 : PC :=
 (.seq
  (.seq
   (.is [.setR 4 (.r 3),
     .setR 5 (.r 0),
     .setR 6 (.llen (.r 5)),
     .setR 7 (.ci .lss (.r 4) (.r 6)),
     .setR 8 (.r 7),
     .setR 9 (.r 3),
     .setR 10 (.ci .lss (.r 9) (.con (.int 120))),
     .setR 11 (.pick (.r 8) (.r 10) (.con (.bool false)))])
   (.ite (.r 11) [] []
    .skip
    (.exit 0)))
  (.seq
   (.block 1 [2, 14, 15, 16, 17, 18, 19, 20] []
    (.seq
     (.is [.setR 14 (.r 0),
       .setR 15 (.r 3),
       .chk (.idx (.r 14) (.r 15)),
       .setR 16 (.ref (.nth (.r 14) (.r 15))),
       .setR 17 (.ref (.cell (.deref (.r 16)) 1)),
       .setR 18 (.deref (.r 17)),
       .setR 19 (.llen (.r 18)),
       .setR 20 (.ci .gtr (.r 19) (.con (.int 25)))])
     (.ite (.r 20) [2] []
      (.seq
       (.is [.setR 2 (.con (.bool false))])
       (.ret (.r 2)))
      .skip)))
   (.is [.setR 12 (.r 3),
     .setR 13 (.ai .add .i64 (.r 12) (.con (.int 1))),
     .setR 3 (.r 13)])))
def lp12_0 : PC := .block 0 [2, 3, 4, 5, 6, 7, 8, 11] [] (.loop [2, 3] [] bd12_0)
def rd12_0 : PT :=
 (.ite (.pick (.ci .lss (.r 3) (.llen (.r 0))) (.ci .lss (.r 3) (.con (.int 120))) (.con (.bool false)))
  (.chk (.idx (.r 0) (.r 3))
  (.ite (.ci .gtr (.llen (.cell (.nth (.r 0) (.r 3)) 1)) (.con (.int 25)))
   (.ret (.con (.bool false)))
   (.next ⟨[(2, (.r 2)), (3, (.ai .add .i64 (.r 3) (.con (.int 1))))], []⟩)))
  (.exit 0 ⟨[(2, (.r 2)), (3, (.r 3)), (4, (.r 3)), (5, (.r 0)), (6, (.llen (.r 0))), (7, (.ci .lss (.r 3) (.llen (.r 0)))), (8, (.ci .lss (.r 3) (.llen (.r 0)))), (11, (.pick (.ci .lss (.r 3) (.llen (.r 0))) (.ci .lss (.r 3) (.con (.int 120))) (.con (.bool false))))], []⟩))
theorem rd12_0_eq : round 0 [2, 3, 4, 5, 6, 7, 8, 11] [] [2, 3] [] bd12_0 = rd12_0 := by kernel_rfl
def pc12 : PC :=
 (.seq
  (.is [.setR 2 (.con (.bool false))])
  (.seq
   (.seq
    (.is [.setR 3 (.con (.int 0))])
    lp12_0)
   (.seq
    (.is [.setR 21 (.r 0),
      .setR 22 (.llen (.r 21)),
      .setR 23 (.ci .leq (.r 22) (.con (.int 20))),
      .setR 24 (.r 23),
      .setR 25 (.r 0),
      .setR 26 (.llen (.r 25)),
      .setR 27 (.ci .gtr (.r 26) (.con (.int 100))),
      .setR 28 (.r 27),
      .setR 29 (.r 0),
      .setR 30 (.llen (.r 29)),
      .setR 31 (.ci .lss (.r 30) (.con (.int 120))),
      .setR 32 (.pick (.r 28) (.r 31) (.con (.bool false))),
      .setR 33 (.pick (.r 24) (.con (.bool true)) (.r 32)),
      .setR 2 (.r 33)])
    (.ret (.r 2)))))
def tr12 : PT :=
 (.brk ⟨[(3, (.con (.int 0))), (2, (.con (.bool false)))], []⟩
  lp12_0
 (.ret (.pick (.ci .leq (.llen (.r 0)) (.con (.int 20))) (.con (.bool true)) (.pick (.ci .gtr (.llen (.r 0)) (.con (.int 100))) (.ci .lss (.llen (.r 0)) (.con (.int 120))) (.con (.bool false))))))
theorem tr12_eq : tree pc12 = tr12 := by kernel_rfl
/-! allonge/allongeref39.Worst -/
def bd14_0 : PC :=
 (.seq
  (.seq
   (.is [.setR 36 (.r 11),
     .setR 37 (.r 1),
     .chk (.ci .geq (.r 37) (.con (.int 0))),
     .setR 38 (.ai .shl .i64 (.con (.int 1)) (.r 37)),
     .setR 39 (.ci .lss (.r 36) (.r 38))])
   (.ite (.r 39) [] []
    .skip
    (.exit 0)))
  (.seq
   (.block 1 [9, 10, 12, 42, 43, 44, 45, 46, 47, 48] []
    (.seq
     (.is [.setR 42 (.r 11),
       .setR 43 (.r 1),
       .call [] 44 24 [(.r 42), (.r 43)],
       .setR 12 (.r 44)])
     (.seq
      (.seq
       (.is [.setR 45 (.r 12),
         .setR 46 (.llen (.r 45)),
         .setR 47 (.r 2),
         .setR 48 (.ci .gtr (.r 46) (.r 47))])
       (.ite (.r 48) [] []
        (.exit 1)
        .skip))
      (.seq
       (.is [.setR 49 (.r 0),
         .setR 50 (.r 12),
         .call [] 51 19 [(.r 49), (.r 50)],
         .setR 13 (.r 51)])
       (.seq
        (.is [.setR 52 (.r 13),
          .setR 53 (.r 9),
          .setR 54 (.ci .gtr (.r 52) (.r 53)),
          .setR 55 (.r 54),
          .setR 56 (.r 13),
          .setR 57 (.r 9),
          .setR 58 (.ci .eql (.r 56) (.r 57)),
          .setR 59 (.r 58),
          .setR 60 (.r 12),
          .setR 61 (.r 10),
          .call [(59, true), (55, false)] 62 25 [(.r 60), (.r 61)],
          .setR 63 (.pick (.r 59) (.r 62) (.con (.bool false))),
          .setR 64 (.pick (.r 55) (.con (.bool true)) (.r 63))])
        (.ite (.r 64) [9, 10] []
         (.seq
          (.is [.setR 65 (.r 13),
            .setR 9 (.r 65)])
          (.is [.setR 66 (.r 12),
            .setR 10 (.r 66)]))
         .skip))))))
   (.is [.setR 40 (.r 11),
     .setR 41 (.ai .add .i64 (.r 40) (.con (.int 1))),
     .setR 11 (.r 41)])))
def lp14_0 : PC := .block 0 [9, 10, 11, 36, 37, 38, 39] [] (.loop [9, 10, 11] [] bd14_0)
def rd14_0 : PT :=
 (.chk (.ci .geq (.r 1) (.con (.int 0)))
 (.ite (.ci .lss (.r 11) (.ai .shl .i64 (.con (.int 1)) (.r 1)))
  (.blockS ⟨[(39, (.ci .lss (.r 11) (.ai .shl .i64 (.con (.int 1)) (.r 1)))), (38, (.ai .shl .i64 (.con (.int 1)) (.r 1))), (37, (.r 1)), (36, (.r 11))], []⟩ 1 [9, 10, 12, 42, 43, 44, 45, 46, 47, 48] []
   (.call ⟨[(43, (.r 1)), (42, (.r 11))], []⟩ [] 44 24 [(.r 42), (.r 43)]
   (.ite (.ci .gtr (.llen (.r 44)) (.r 2))
    (.exit 1 ⟨[(48, (.ci .gtr (.llen (.r 44)) (.r 2))), (47, (.r 2)), (46, (.llen (.r 44))), (45, (.r 44)), (12, (.r 44))], []⟩)
    (.call ⟨[(50, (.r 44)), (49, (.r 0)), (48, (.ci .gtr (.llen (.r 44)) (.r 2))), (47, (.r 2)), (46, (.llen (.r 44))), (45, (.r 44)), (12, (.r 44))], []⟩ [] 51 19 [(.r 49), (.r 50)]
    (.call ⟨[(61, (.r 10)), (60, (.r 12)), (59, (.ci .eql (.r 51) (.r 9))), (58, (.ci .eql (.r 51) (.r 9))), (57, (.r 9)), (56, (.r 51)), (55, (.ci .gtr (.r 51) (.r 9))), (54, (.ci .gtr (.r 51) (.r 9))), (53, (.r 9)), (52, (.r 51)), (13, (.r 51))], []⟩ [(59, true), (55, false)] 62 25 [(.r 60), (.r 61)]
    (.next ⟨[(9, (.pick (.pick (.r 55) (.con (.bool true)) (.pick (.r 59) (.r 62) (.con (.bool false)))) (.r 13) (.r 9))), (10, (.pick (.pick (.r 55) (.con (.bool true)) (.pick (.r 59) (.r 62) (.con (.bool false)))) (.r 12) (.r 10))), (64, (.pick (.r 55) (.con (.bool true)) (.pick (.r 59) (.r 62) (.con (.bool false))))), (63, (.pick (.r 59) (.r 62) (.con (.bool false))))], []⟩)))))
  (.next ⟨[(9, (.r 9)), (10, (.r 10)), (11, (.ai .add .i64 (.r 11) (.con (.int 1))))], []⟩))
  (.exit 0 ⟨[(9, (.r 9)), (10, (.r 10)), (11, (.r 11)), (36, (.r 11)), (37, (.r 1)), (38, (.ai .shl .i64 (.con (.int 1)) (.r 1))), (39, (.ci .lss (.r 11) (.ai .shl .i64 (.con (.int 1)) (.r 1))))], []⟩)))
theorem rd14_0_eq : round 0 [9, 10, 11, 36, 37, 38, 39] [] [9, 10, 11] [] bd14_0 = rd14_0 := by kernel_rfl
def pc14 : PC :=
 (.seq
  (.is [.setR 6 (.con (.int 0)),
    .setR 7 (.con (.list [])),
    .setR 8 (.con (.int 0))])
  (.seq
   (.seq
    (.is [.setR 14 (.r 0),
      .call [] 15 17 [(.r 14)],
      .setR 16 (.nt (.r 15)),
      .setR 17 (.r 16),
      .setR 18 (.r 1),
      .setR 19 (.ci .lss (.r 18) (.con (.int 0))),
      .setR 20 (.pick (.r 17) (.con (.bool true)) (.r 19)),
      .setR 21 (.r 20),
      .setR 22 (.r 1),
      .setR 23 (.ci .gtr (.r 22) (.con (.int 20))),
      .setR 24 (.pick (.r 21) (.con (.bool true)) (.r 23)),
      .setR 25 (.r 24),
      .setR 26 (.r 2),
      .setR 27 (.ci .lss (.r 26) (.con (.int 0))),
      .setR 28 (.pick (.r 25) (.con (.bool true)) (.r 27)),
      .setR 29 (.r 28),
      .setR 30 (.r 2),
      .setR 31 (.r 1),
      .setR 32 (.ci .gtr (.r 30) (.r 31)),
      .setR 33 (.pick (.r 29) (.con (.bool true)) (.r 32))])
    (.ite (.r 33) [6, 7, 8] []
     (.seq
      (.is [.setR 6 (.con (.int 0)),
        .setR 7 (.con (.list [])),
        .setR 8 (.con (.int 1))])
      (.ret (.tup [(.r 6), (.r 7), (.r 8)])))
     .skip))
   (.seq
    (.seq
     (.is [.setR 34 (.r 2),
       .setR 35 (.ci .gtr (.r 34) (.con (.int 6)))])
     (.ite (.r 35) [6, 7, 8] []
      (.seq
       (.is [.setR 6 (.con (.int 0)),
         .setR 7 (.con (.list [])),
         .setR 8 (.con (.int 6))])
       (.ret (.tup [(.r 6), (.r 7), (.r 8)])))
      .skip))
    (.seq
     (.is [.setR 9 (.con (.int (-1)))])
     (.seq
      (.is [.setR 10 (.con (.list []))])
      (.seq
       (.seq
        (.is [.setR 11 (.con (.int 0))])
        lp14_0)
       (.seq
        (.is [.setR 67 (.r 9),
          .setR 68 (.r 10),
          .setR 6 (.r 67),
          .setR 7 (.r 68),
          .setR 8 (.con (.int 0))])
        (.ret (.tup [(.r 6), (.r 7), (.r 8)])))))))))
def tr14 : PT :=
 (.call ⟨[(14, (.r 0)), (8, (.con (.int 0))), (7, (.con (.list []))), (6, (.con (.int 0)))], []⟩ [] 15 17 [(.r 14)]
 (.ite (.pick (.pick (.pick (.pick (.nt (.r 15)) (.con (.bool true)) (.ci .lss (.r 1) (.con (.int 0)))) (.con (.bool true)) (.ci .gtr (.r 1) (.con (.int 20)))) (.con (.bool true)) (.ci .lss (.r 2) (.con (.int 0)))) (.con (.bool true)) (.ci .gtr (.r 2) (.r 1)))
  (.ret (.tup [(.con (.int 0)), (.con (.list [])), (.con (.int 1))]))
  (.ite (.ci .gtr (.r 2) (.con (.int 6)))
   (.ret (.tup [(.con (.int 0)), (.con (.list [])), (.con (.int 6))]))
   (.brk ⟨[(11, (.con (.int 0))), (10, (.con (.list []))), (9, (.con (.int (-1)))), (6, (.r 6)), (7, (.r 7)), (8, (.r 8)), (35, (.ci .gtr (.r 2) (.con (.int 6)))), (34, (.r 2)), (6, (.r 6)), (7, (.r 7)), (8, (.r 8)), (33, (.pick (.pick (.pick (.pick (.nt (.r 15)) (.con (.bool true)) (.ci .lss (.r 1) (.con (.int 0)))) (.con (.bool true)) (.ci .gtr (.r 1) (.con (.int 20)))) (.con (.bool true)) (.ci .lss (.r 2) (.con (.int 0)))) (.con (.bool true)) (.ci .gtr (.r 2) (.r 1)))), (32, (.ci .gtr (.r 2) (.r 1))), (31, (.r 1)), (30, (.r 2)), (29, (.pick (.pick (.pick (.nt (.r 15)) (.con (.bool true)) (.ci .lss (.r 1) (.con (.int 0)))) (.con (.bool true)) (.ci .gtr (.r 1) (.con (.int 20)))) (.con (.bool true)) (.ci .lss (.r 2) (.con (.int 0))))), (28, (.pick (.pick (.pick (.nt (.r 15)) (.con (.bool true)) (.ci .lss (.r 1) (.con (.int 0)))) (.con (.bool true)) (.ci .gtr (.r 1) (.con (.int 20)))) (.con (.bool true)) (.ci .lss (.r 2) (.con (.int 0))))), (27, (.ci .lss (.r 2) (.con (.int 0)))), (26, (.r 2)), (25, (.pick (.pick (.nt (.r 15)) (.con (.bool true)) (.ci .lss (.r 1) (.con (.int 0)))) (.con (.bool true)) (.ci .gtr (.r 1) (.con (.int 20))))), (24, (.pick (.pick (.nt (.r 15)) (.con (.bool true)) (.ci .lss (.r 1) (.con (.int 0)))) (.con (.bool true)) (.ci .gtr (.r 1) (.con (.int 20))))), (23, (.ci .gtr (.r 1) (.con (.int 20)))), (22, (.r 1)), (21, (.pick (.nt (.r 15)) (.con (.bool true)) (.ci .lss (.r 1) (.con (.int 0))))), (20, (.pick (.nt (.r 15)) (.con (.bool true)) (.ci .lss (.r 1) (.con (.int 0))))), (19, (.ci .lss (.r 1) (.con (.int 0)))), (18, (.r 1)), (17, (.nt (.r 15))), (16, (.nt (.r 15)))], []⟩
    lp14_0
   (.ret (.tup [(.r 9), (.r 10), (.con (.int 0))]))))))
theorem tr14_eq : tree pc14 = tr14 := by kernel_rfl
/-! allonge/allongeref39.Right -/
def bd17_0 : PC :=
 (.seq
  (.seq
   (.is [.setR 30 (.r 5),
     .setR 31 (.r 0),
     .setR 32 (.r 3),
     .chk (.idx (.r 31) (.r 32)),
     .setR 33 (.ref (.nth (.r 31) (.r 32))),
     .setR 34 (.ref (.cell (.deref (.r 33)) 1)),
     .setR 35 (.deref (.r 34)),
     .setR 36 (.llen (.r 35)),
     .setR 37 (.ci .lss (.r 30) (.r 36))])
   (.ite (.r 37) [] []
    .skip
    (.exit 2)))
  (.seq
   (.block 3 [2, 4, 40, 41, 42, 43, 44, 45, 46, 47, 48, 49, 50, 60, 61, 62, 63, 64, 65, 66, 67, 68] []
    (.seq
     (.seq
      (.is [.setR 40 (.r 0),
        .setR 41 (.r 3),
        .chk (.idx (.r 40) (.r 41)),
        .setR 42 (.ref (.nth (.r 40) (.r 41))),
        .setR 43 (.ref (.cell (.deref (.r 42)) 1)),
        .setR 44 (.deref (.r 43)),
        .setR 45 (.r 5),
        .chk (.idx (.r 44) (.r 45)),
        .setR 46 (.ref (.nth (.r 44) (.r 45))),
        .setR 47 (.deref (.r 46)),
        .setR 48 (.r 4),
        .setR 49 (.ci .leq (.r 47) (.r 48)),
        .setR 50 (.r 49),
        .setR 51 (.r 0),
        .setR 52 (.r 3),
        .chk (.imp [(50, false)] (.idx (.r 51) (.r 52))),
        .setR 53 (.ref (.nth (.r 51) (.r 52))),
        .setR 54 (.ref (.cell (.deref (.r 53)) 1)),
        .setR 55 (.deref (.r 54)),
        .setR 56 (.r 5),
        .chk (.imp [(50, false)] (.idx (.r 55) (.r 56))),
        .setR 57 (.ref (.nth (.r 55) (.r 56))),
        .setR 58 (.deref (.r 57)),
        .setR 59 (.ci .geq (.r 58) (.con (.int 20))),
        .setR 60 (.pick (.r 50) (.con (.bool true)) (.r 59))])
      (.ite (.r 60) [2] []
       (.seq
        (.is [.setR 2 (.con (.bool false))])
        (.ret (.r 2)))
       .skip))
     (.is [.setR 61 (.r 0),
       .setR 62 (.r 3),
       .chk (.idx (.r 61) (.r 62)),
       .setR 63 (.ref (.nth (.r 61) (.r 62))),
       .setR 64 (.ref (.cell (.deref (.r 63)) 1)),
       .setR 65 (.deref (.r 64)),
       .setR 66 (.r 5),
       .chk (.idx (.r 65) (.r 66)),
       .setR 67 (.ref (.nth (.r 65) (.r 66))),
       .setR 68 (.deref (.r 67)),
       .setR 4 (.r 68)])))
   (.is [.setR 38 (.r 5),
     .setR 39 (.ai .add .i64 (.r 38) (.con (.int 1))),
     .setR 5 (.r 39)])))
def lp17_0 : PC := .block 2 [2, 4, 5, 30, 31, 32, 33, 34, 35, 36, 37] [] (.loop [2, 4, 5] [] bd17_0)
def rd17_0 : PT :=
 (.chk (.idx (.r 0) (.r 3))
 (.ite (.ci .lss (.r 5) (.llen (.cell (.nth (.r 0) (.r 3)) 1)))
  (.chk (.idx (.cell (.nth (.r 0) (.r 3)) 1) (.r 5))
  (.chk (.nt (.an (.an (.nt (.ci .leq (.nth (.cell (.nth (.r 0) (.r 3)) 1) (.r 5)) (.r 4))) (.con (.bool true))) (.nt (.idx (.r 0) (.r 3)))))
  (.chk (.nt (.an (.an (.nt (.ci .leq (.nth (.cell (.nth (.r 0) (.r 3)) 1) (.r 5)) (.r 4))) (.con (.bool true))) (.nt (.idx (.cell (.nth (.r 0) (.r 3)) 1) (.r 5)))))
  (.ite (.pick (.ci .leq (.nth (.cell (.nth (.r 0) (.r 3)) 1) (.r 5)) (.r 4)) (.con (.bool true)) (.ci .geq (.nth (.cell (.nth (.r 0) (.r 3)) 1) (.r 5)) (.con (.int 20))))
   (.ret (.con (.bool false)))
   (.next ⟨[(2, (.r 2)), (4, (.nth (.cell (.nth (.r 0) (.r 3)) 1) (.r 5))), (5, (.ai .add .i64 (.r 5) (.con (.int 1))))], []⟩)))))
  (.exit 2 ⟨[(2, (.r 2)), (4, (.r 4)), (5, (.r 5)), (30, (.r 5)), (31, (.r 0)), (32, (.r 3)), (33, (.ref (.nth (.r 0) (.r 3)))), (34, (.ref (.cell (.nth (.r 0) (.r 3)) 1))), (35, (.cell (.nth (.r 0) (.r 3)) 1)), (36, (.llen (.cell (.nth (.r 0) (.r 3)) 1))), (37, (.ci .lss (.r 5) (.llen (.cell (.nth (.r 0) (.r 3)) 1))))], []⟩)))
theorem rd17_0_eq : round 2 [2, 4, 5, 30, 31, 32, 33, 34, 35, 36, 37] [] [2, 4, 5] [] bd17_0 = rd17_0 := by kernel_rfl
def bd17_1 : PC :=
 (.seq
  (.seq
   (.is [.setR 6 (.r 3),
     .setR 7 (.r 0),
     .setR 8 (.llen (.r 7)),
     .setR 9 (.ci .lss (.r 6) (.r 8)),
     .setR 10 (.r 9),
     .setR 11 (.r 3),
     .setR 12 (.ci .leq (.r 11) (.con (.int 100))),
     .setR 13 (.pick (.r 10) (.r 12) (.con (.bool false)))])
   (.ite (.r 13) [] []
    .skip
    (.exit 0)))
  (.seq
   (.block 1 [2, 4, 5, 16, 17, 18, 19, 20, 21, 22, 29, 30, 31, 32, 33, 34, 35, 36, 37] []
    (.seq
     (.seq
      (.is [.setR 16 (.r 0),
        .setR 17 (.r 3),
        .chk (.idx (.r 16) (.r 17)),
        .setR 18 (.ref (.nth (.r 16) (.r 17))),
        .setR 19 (.ref (.cell (.deref (.r 18)) 0)),
        .setR 20 (.deref (.r 19)),
        .setR 21 (.ci .lss (.r 20) (.con (.int 0))),
        .setR 22 (.r 21),
        .setR 23 (.r 0),
        .setR 24 (.r 3),
        .chk (.imp [(22, false)] (.idx (.r 23) (.r 24))),
        .setR 25 (.ref (.nth (.r 23) (.r 24))),
        .setR 26 (.ref (.cell (.deref (.r 25)) 0)),
        .setR 27 (.deref (.r 26)),
        .setR 28 (.ci .gtr (.r 27) (.con (.int 1099511627776))),
        .setR 29 (.pick (.r 22) (.con (.bool true)) (.r 28))])
      (.ite (.r 29) [2] []
       (.seq
        (.is [.setR 2 (.con (.bool false))])
        (.ret (.r 2)))
       .skip))
     (.seq
      (.is [.setR 4 (.con (.int (-1)))])
      (.seq
       (.is [.setR 5 (.con (.int 0))])
       lp17_0))))
   (.is [.setR 14 (.r 3),
     .setR 15 (.ai .add .i64 (.r 14) (.con (.int 1))),
     .setR 3 (.r 15)])))
def lp17_1 : PC := .block 0 [2, 3, 6, 7, 8, 9, 10, 13] [] (.loop [2, 3] [] bd17_1)
def rd17_1 : PT :=
 (.ite (.pick (.ci .lss (.r 3) (.llen (.r 0))) (.ci .leq (.r 3) (.con (.int 100))) (.con (.bool false)))
  (.blockS ⟨[(13, (.pick (.ci .lss (.r 3) (.llen (.r 0))) (.ci .leq (.r 3) (.con (.int 100))) (.con (.bool false)))), (12, (.ci .leq (.r 3) (.con (.int 100)))), (11, (.r 3)), (10, (.ci .lss (.r 3) (.llen (.r 0)))), (9, (.ci .lss (.r 3) (.llen (.r 0)))), (8, (.llen (.r 0))), (7, (.r 0)), (6, (.r 3))], []⟩ 1 [2, 4, 5, 16, 17, 18, 19, 20, 21, 22, 29, 30, 31, 32, 33, 34, 35, 36, 37] []
   (.chk (.idx (.r 0) (.r 3))
   (.chk (.nt (.an (.an (.nt (.ci .lss (.cell (.nth (.r 0) (.r 3)) 0) (.con (.int 0)))) (.con (.bool true))) (.nt (.idx (.r 0) (.r 3)))))
   (.ite (.pick (.ci .lss (.cell (.nth (.r 0) (.r 3)) 0) (.con (.int 0))) (.con (.bool true)) (.ci .gtr (.cell (.nth (.r 0) (.r 3)) 0) (.con (.int 1099511627776))))
    (.ret (.con (.bool false)))
    (.brk ⟨[(5, (.con (.int 0))), (4, (.con (.int (-1)))), (2, (.r 2)), (29, (.pick (.ci .lss (.cell (.nth (.r 0) (.r 3)) 0) (.con (.int 0))) (.con (.bool true)) (.ci .gtr (.cell (.nth (.r 0) (.r 3)) 0) (.con (.int 1099511627776))))), (28, (.ci .gtr (.cell (.nth (.r 0) (.r 3)) 0) (.con (.int 1099511627776)))), (27, (.cell (.nth (.r 0) (.r 3)) 0)), (26, (.ref (.cell (.nth (.r 0) (.r 3)) 0))), (25, (.ref (.nth (.r 0) (.r 3)))), (24, (.r 3)), (23, (.r 0)), (22, (.ci .lss (.cell (.nth (.r 0) (.r 3)) 0) (.con (.int 0)))), (21, (.ci .lss (.cell (.nth (.r 0) (.r 3)) 0) (.con (.int 0)))), (20, (.cell (.nth (.r 0) (.r 3)) 0)), (19, (.ref (.cell (.nth (.r 0) (.r 3)) 0))), (18, (.ref (.nth (.r 0) (.r 3)))), (17, (.r 3)), (16, (.r 0))], []⟩
     lp17_0
    (.next ⟨[], []⟩)))))
  (.next ⟨[(2, (.r 2)), (3, (.ai .add .i64 (.r 3) (.con (.int 1))))], []⟩))
  (.exit 0 ⟨[(2, (.r 2)), (3, (.r 3)), (6, (.r 3)), (7, (.r 0)), (8, (.llen (.r 0))), (9, (.ci .lss (.r 3) (.llen (.r 0)))), (10, (.ci .lss (.r 3) (.llen (.r 0)))), (13, (.pick (.ci .lss (.r 3) (.llen (.r 0))) (.ci .leq (.r 3) (.con (.int 100))) (.con (.bool false))))], []⟩))
theorem rd17_1_eq : round 0 [2, 3, 6, 7, 8, 9, 10, 13] [] [2, 3] [] bd17_1 = rd17_1 := by kernel_rfl
def pc17 : PC :=
 (.seq
  (.is [.setR 2 (.con (.bool false))])
  (.seq
   (.seq
    (.is [.setR 3 (.con (.int 0))])
    lp17_1)
   (.seq
    (.is [.setR 69 (.r 0),
      .setR 70 (.llen (.r 69)),
      .setR 71 (.ci .leq (.r 70) (.con (.int 100))),
      .setR 2 (.r 71)])
    (.ret (.r 2)))))
def tr17 : PT :=
 (.brk ⟨[(3, (.con (.int 0))), (2, (.con (.bool false)))], []⟩
  lp17_1
 (.ret (.ci .leq (.llen (.r 0)) (.con (.int 100)))))
theorem tr17_eq : tree pc17 = tr17 := by kernel_rfl
/-! allonge/allongeref39.Members -/
def bd24_0 : PC :=
 (.seq
  (.seq
   (.is [.setR 7 (.r 6),
     .setR 8 (.r 1),
     .setR 9 (.ci .lss (.r 7) (.r 8))])
   (.ite (.r 9) [] []
    .skip
    (.exit 0)))
  (.seq
   (.block 1 [5, 12, 13, 14, 15, 16] [5]
    (.seq
     (.is [.setR 12 (.r 0),
       .setR 13 (.r 6),
       .chk (.ci .geq (.r 13) (.con (.int 0))),
       .setR 14 (.ai .shr .i64 (.r 12) (.r 13)),
       .setR 15 (.ai .and .i64 (.r 14) (.con (.int 1))),
       .setR 16 (.ci .eql (.r 15) (.con (.int 1)))])
     (.ite (.r 16) [5] [5]
      (.is [.setR 17 (.r 5),
        .setR 18 (.r 6),
        .setO 19 (.lst [(.r 18)]),
        .setR 19 (.con .none),
        .chk (.ci .leq (.llen (.app (.o 5) (.o 19))) (.con (.int 4294967296))),
        .setO 5 (.app (.o 5) (.o 19)),
        .setR 20 (.con .none),
        .setR 5 (.r 20)])
      .skip)))
   (.is [.setR 10 (.r 6),
     .setR 11 (.ai .add .i64 (.r 10) (.con (.int 1))),
     .setR 6 (.r 11)])))
def lp24_0 : PC := .block 0 [5, 6, 7, 8, 9] [5] (.loop [5, 6] [5] bd24_0)
def rd24_0 : PT :=
 (.ite (.ci .lss (.r 6) (.r 1))
  (.chk (.ci .geq (.r 6) (.con (.int 0)))
  (.ite (.ci .eql (.ai .and .i64 (.ai .shr .i64 (.r 0) (.r 6)) (.con (.int 1))) (.con (.int 1)))
   (.chk (.ci .leq (.llen (.app (.o 5) (.lst [(.r 6)]))) (.con (.int 4294967296)))
   (.next ⟨[(5, (.con .none)), (6, (.ai .add .i64 (.r 6) (.con (.int 1))))], [(5, (.app (.o 5) (.lst [(.r 6)])))]⟩))
   (.next ⟨[(5, (.r 5)), (6, (.ai .add .i64 (.r 6) (.con (.int 1))))], [(5, (.o 5))]⟩)))
  (.exit 0 ⟨[(5, (.r 5)), (6, (.r 6)), (7, (.r 6)), (8, (.r 1)), (9, (.ci .lss (.r 6) (.r 1)))], [(5, (.o 5))]⟩))
theorem rd24_0_eq : round 0 [5, 6, 7, 8, 9] [5] [5, 6] [5] bd24_0 = rd24_0 := by kernel_rfl
def pc24 : PC :=
 (.seq
  (.is [.setR 4 (.con (.list []))])
  (.seq
   (.is [.setO 5 (.con (.list [])),
     .setR 5 (.con .none)])
   (.seq
    (.seq
     (.is [.setR 6 (.con (.int 0))])
     lp24_0)
    (.seq
     (.is [.setR 21 (.r 5),
       .setR 4 (.o 5)])
     (.ret (.r 4))))))
def tr24 : PT :=
 (.brk ⟨[(6, (.con (.int 0))), (5, (.con .none)), (4, (.con (.list [])))], [(5, (.con (.list [])))]⟩
  lp24_0
 (.ret (.o 5)))
theorem tr24_eq : tree pc24 = tr24 := by kernel_rfl
/-! allonge/allongeref39.Loss -/
def bd19_0 : PC :=
 (.seq
  (.seq
   (.is [.setR 10 (.r 6),
     .setR 11 (.r 0),
     .setR 12 (.llen (.r 11)),
     .setR 13 (.ci .lss (.r 10) (.r 12))])
   (.ite (.r 13) [] []
    .skip
    (.exit 0)))
  (.seq
   (.block 1 [5, 16, 17, 18, 19, 20, 21] []
    (.seq
     (.is [.setR 16 (.r 0),
       .setR 17 (.r 6),
       .chk (.idx (.r 16) (.r 17)),
       .setR 18 (.ref (.nth (.r 16) (.r 17))),
       .setR 19 (.deref (.r 18)),
       .setR 20 (.r 1),
       .call [] 21 45 [(.r 19), (.r 20)]])
     (.ite (.r 21) [5] []
      (.is [.setR 22 (.r 5),
        .setR 23 (.r 0),
        .setR 24 (.r 6),
        .chk (.idx (.r 23) (.r 24)),
        .setR 25 (.ref (.nth (.r 23) (.r 24))),
        .setR 26 (.ref (.cell (.deref (.r 25)) 0)),
        .setR 27 (.deref (.r 26)),
        .setR 28 (.ai .add .i64 (.r 22) (.r 27)),
        .setR 5 (.r 28)])
      .skip)))
   (.is [.setR 14 (.r 6),
     .setR 15 (.ai .add .i64 (.r 14) (.con (.int 1))),
     .setR 6 (.r 15)])))
def lp19_0 : PC := .block 0 [5, 6, 10, 11, 12, 13] [] (.loop [5, 6] [] bd19_0)
def rd19_0 : PT :=
 (.ite (.ci .lss (.r 6) (.llen (.r 0)))
  (.blockS ⟨[(13, (.ci .lss (.r 6) (.llen (.r 0)))), (12, (.llen (.r 0))), (11, (.r 0)), (10, (.r 6))], []⟩ 1 [5, 16, 17, 18, 19, 20, 21] []
   (.chk (.idx (.r 0) (.r 6))
   (.call ⟨[(20, (.r 1)), (19, (.nth (.r 0) (.r 6))), (18, (.ref (.nth (.r 0) (.r 6)))), (17, (.r 6)), (16, (.r 0))], []⟩ [] 21 45 [(.r 19), (.r 20)]
   (.ite (.r 21)
    (.chk (.idx (.r 0) (.r 6))
    (.next ⟨[(5, (.ai .add .i64 (.r 5) (.cell (.nth (.r 0) (.r 6)) 0)))], []⟩))
    (.next ⟨[(5, (.r 5))], []⟩))))
  (.next ⟨[(5, (.r 5)), (6, (.ai .add .i64 (.r 6) (.con (.int 1))))], []⟩))
  (.exit 0 ⟨[(5, (.r 5)), (6, (.r 6)), (10, (.r 6)), (11, (.r 0)), (12, (.llen (.r 0))), (13, (.ci .lss (.r 6) (.llen (.r 0))))], []⟩))
theorem rd19_0_eq : round 0 [5, 6, 10, 11, 12, 13] [] [5, 6] [] bd19_0 = rd19_0 := by kernel_rfl
def pc19 : PC :=
 (.seq
  (.is [.setR 4 (.con (.int 0))])
  (.seq
   (.seq
    (.is [.setR 7 (.r 0),
      .call [] 8 17 [(.r 7)],
      .setR 9 (.nt (.r 8))])
    (.ite (.r 9) [4] []
     (.seq
      (.is [.setR 4 (.con (.int 0))])
      (.ret (.r 4)))
     .skip))
   (.seq
    (.is [.setR 5 (.con (.int 0))])
    (.seq
     (.seq
      (.is [.setR 6 (.con (.int 0))])
      lp19_0)
     (.seq
      (.is [.setR 29 (.r 5),
        .setR 4 (.r 29)])
      (.ret (.r 4)))))))
def tr19 : PT :=
 (.call ⟨[(7, (.r 0)), (4, (.con (.int 0)))], []⟩ [] 8 17 [(.r 7)]
 (.ite (.nt (.r 8))
  (.ret (.con (.int 0)))
  (.brk ⟨[(6, (.con (.int 0))), (5, (.con (.int 0))), (4, (.r 4)), (9, (.nt (.r 8)))], []⟩
   lp19_0
  (.ret (.r 5)))))
theorem tr19_eq : tree pc19 = tr19 := by kernel_rfl
/-! allonge/allongeref39.Lost -/
def bd45_0 : PC :=
 (.seq
  (.seq
   (.is [.setR 6 (.r 5),
     .setR 7 (.con .none),
     .setR 8 (.cell (.o 2) 1),
     .setR 9 (.llen (.r 8)),
     .setR 10 (.ci .lss (.r 6) (.r 9))])
   (.ite (.r 10) [] []
    .skip
    (.exit 0)))
  (.seq
   (.block 1 [4, 13, 14, 15, 16, 17, 18, 19, 20] []
    (.seq
     (.is [.setR 13 (.r 1),
       .setR 14 (.con .none),
       .setR 15 (.cell (.o 2) 1),
       .setR 16 (.r 5),
       .chk (.idx (.r 15) (.r 16)),
       .setR 17 (.ref (.nth (.r 15) (.r 16))),
       .setR 18 (.deref (.r 17)),
       .call [] 19 53 [(.r 13), (.r 18)],
       .setR 20 (.nt (.r 19))])
     (.ite (.r 20) [4] []
      (.seq
       (.is [.setR 4 (.con (.bool false))])
       (.ret (.r 4)))
      .skip)))
   (.is [.setR 11 (.r 5),
     .setR 12 (.ai .add .i64 (.r 11) (.con (.int 1))),
     .setR 5 (.r 12)])))
def lp45_0 : PC := .block 0 [4, 5, 6, 7, 8, 9, 10] [] (.loop [4, 5] [] bd45_0)
def rd45_0 : PT :=
 (.ite (.ci .lss (.r 5) (.llen (.cell (.o 2) 1)))
  (.blockS ⟨[(10, (.ci .lss (.r 5) (.llen (.cell (.o 2) 1)))), (9, (.llen (.cell (.o 2) 1))), (8, (.cell (.o 2) 1)), (7, (.con .none)), (6, (.r 5))], []⟩ 1 [4, 13, 14, 15, 16, 17, 18, 19, 20] []
   (.chk (.idx (.cell (.o 2) 1) (.r 5))
   (.call ⟨[(18, (.nth (.cell (.o 2) 1) (.r 5))), (17, (.ref (.nth (.cell (.o 2) 1) (.r 5)))), (16, (.r 5)), (15, (.cell (.o 2) 1)), (14, (.con .none)), (13, (.r 1))], []⟩ [] 19 53 [(.r 13), (.r 18)]
   (.ite (.nt (.r 19))
    (.ret (.con (.bool false)))
    (.next ⟨[(4, (.r 4)), (20, (.nt (.r 19)))], []⟩))))
  (.next ⟨[(4, (.r 4)), (5, (.ai .add .i64 (.r 5) (.con (.int 1))))], []⟩))
  (.exit 0 ⟨[(4, (.r 4)), (5, (.r 5)), (6, (.r 5)), (7, (.con .none)), (8, (.cell (.o 2) 1)), (9, (.llen (.cell (.o 2) 1))), (10, (.ci .lss (.r 5) (.llen (.cell (.o 2) 1))))], []⟩))
theorem rd45_0_eq : round 0 [4, 5, 6, 7, 8, 9, 10] [] [4, 5] [] bd45_0 = rd45_0 := by kernel_rfl
def pc45 : PC :=
 (.seq
  (.is [.setO 2 (.mk [(.r 0)]),
    .setR 2 (.con .none),
    .setR 4 (.con (.bool false))])
  (.seq
   (.seq
    (.is [.setR 5 (.con (.int 0))])
    lp45_0)
   (.seq
    (.is [.setR 4 (.con (.bool true))])
    (.ret (.r 4)))))
def tr45 : PT :=
 (.brk ⟨[(5, (.con (.int 0))), (4, (.con (.bool false))), (2, (.con .none))], [(2, (.mk [(.r 0)]))]⟩
  lp45_0
 (.ret (.con (.bool true))))
theorem tr45_eq : tree pc45 = tr45 := by kernel_rfl
/-! allonge/allongeref39.has -/
def bd53_0 : PC :=
 (.seq
  (.seq
   (.is [.setR 6 (.r 5),
     .setR 7 (.r 0),
     .setR 8 (.llen (.r 7)),
     .setR 9 (.ci .lss (.r 6) (.r 8))])
   (.ite (.r 9) [] []
    .skip
    (.exit 0)))
  (.seq
   (.block 1 [4, 12, 13, 14, 15, 16, 17] []
    (.seq
     (.is [.setR 12 (.r 0),
       .setR 13 (.r 5),
       .chk (.idx (.r 12) (.r 13)),
       .setR 14 (.ref (.nth (.r 12) (.r 13))),
       .setR 15 (.deref (.r 14)),
       .setR 16 (.r 1),
       .setR 17 (.ci .eql (.r 15) (.r 16))])
     (.ite (.r 17) [4] []
      (.seq
       (.is [.setR 4 (.con (.bool true))])
       (.ret (.r 4)))
      .skip)))
   (.is [.setR 10 (.r 5),
     .setR 11 (.ai .add .i64 (.r 10) (.con (.int 1))),
     .setR 5 (.r 11)])))
def lp53_0 : PC := .block 0 [4, 5, 6, 7, 8, 9] [] (.loop [4, 5] [] bd53_0)
def rd53_0 : PT :=
 (.ite (.ci .lss (.r 5) (.llen (.r 0)))
  (.chk (.idx (.r 0) (.r 5))
  (.ite (.ci .eql (.nth (.r 0) (.r 5)) (.r 1))
   (.ret (.con (.bool true)))
   (.next ⟨[(4, (.r 4)), (5, (.ai .add .i64 (.r 5) (.con (.int 1))))], []⟩)))
  (.exit 0 ⟨[(4, (.r 4)), (5, (.r 5)), (6, (.r 5)), (7, (.r 0)), (8, (.llen (.r 0))), (9, (.ci .lss (.r 5) (.llen (.r 0))))], []⟩))
theorem rd53_0_eq : round 0 [4, 5, 6, 7, 8, 9] [] [4, 5] [] bd53_0 = rd53_0 := by kernel_rfl
def pc53 : PC :=
 (.seq
  (.is [.setR 4 (.con (.bool false))])
  (.seq
   (.seq
    (.is [.setR 5 (.con (.int 0))])
    lp53_0)
   (.seq
    (.is [.setR 4 (.con (.bool false))])
    (.ret (.r 4)))))
def tr53 : PT :=
 (.brk ⟨[(5, (.con (.int 0))), (4, (.con (.bool false)))], []⟩
  lp53_0
 (.ret (.con (.bool false))))
theorem tr53_eq : tree pc53 = tr53 := by kernel_rfl
/-! allonge/allongeref39.Before -/
def bd25_0 : PC :=
 (.seq
  (.seq
   (.is [.setR 16 (.r 5),
     .setR 17 (.r 0),
     .setR 18 (.llen (.r 17)),
     .setR 19 (.ci .lss (.r 16) (.r 18))])
   (.ite (.r 19) [] []
    .skip
    (.exit 0)))
  (.seq
   (.block 1 [4, 22, 23, 24, 25, 26, 27, 28, 29, 30] []
    (.seq
     (.is [.setR 22 (.r 0),
       .setR 23 (.r 5),
       .chk (.idx (.r 22) (.r 23)),
       .setR 24 (.ref (.nth (.r 22) (.r 23))),
       .setR 25 (.deref (.r 24)),
       .setR 26 (.r 1),
       .setR 27 (.r 5),
       .chk (.idx (.r 26) (.r 27)),
       .setR 28 (.ref (.nth (.r 26) (.r 27))),
       .setR 29 (.deref (.r 28)),
       .setR 30 (.ci .neq (.r 25) (.r 29))])
     (.ite (.r 30) [4] []
      (.seq
       (.is [.setR 31 (.r 0),
         .setR 32 (.r 5),
         .chk (.idx (.r 31) (.r 32)),
         .setR 33 (.ref (.nth (.r 31) (.r 32))),
         .setR 34 (.deref (.r 33)),
         .setR 35 (.r 1),
         .setR 36 (.r 5),
         .chk (.idx (.r 35) (.r 36)),
         .setR 37 (.ref (.nth (.r 35) (.r 36))),
         .setR 38 (.deref (.r 37)),
         .setR 39 (.ci .lss (.r 34) (.r 38)),
         .setR 4 (.r 39)])
       (.ret (.r 4)))
      .skip)))
   (.is [.setR 20 (.r 5),
     .setR 21 (.ai .add .i64 (.r 20) (.con (.int 1))),
     .setR 5 (.r 21)])))
def lp25_0 : PC := .block 0 [4, 5, 16, 17, 18, 19] [] (.loop [4, 5] [] bd25_0)
def rd25_0 : PT :=
 (.ite (.ci .lss (.r 5) (.llen (.r 0)))
  (.chk (.idx (.r 0) (.r 5))
  (.chk (.idx (.r 1) (.r 5))
  (.ite (.ci .neq (.nth (.r 0) (.r 5)) (.nth (.r 1) (.r 5)))
   (.ret (.ci .lss (.nth (.r 0) (.r 5)) (.nth (.r 1) (.r 5))))
   (.next ⟨[(4, (.r 4)), (5, (.ai .add .i64 (.r 5) (.con (.int 1))))], []⟩))))
  (.exit 0 ⟨[(4, (.r 4)), (5, (.r 5)), (16, (.r 5)), (17, (.r 0)), (18, (.llen (.r 0))), (19, (.ci .lss (.r 5) (.llen (.r 0))))], []⟩))
theorem rd25_0_eq : round 0 [4, 5, 16, 17, 18, 19] [] [4, 5] [] bd25_0 = rd25_0 := by kernel_rfl
def pc25 : PC :=
 (.seq
  (.is [.setR 4 (.con (.bool false))])
  (.seq
   (.seq
    (.is [.setR 6 (.r 0),
      .setR 7 (.llen (.r 6)),
      .setR 8 (.r 1),
      .setR 9 (.llen (.r 8)),
      .setR 10 (.ci .neq (.r 7) (.r 9))])
    (.ite (.r 10) [4] []
     (.seq
      (.is [.setR 11 (.r 0),
        .setR 12 (.llen (.r 11)),
        .setR 13 (.r 1),
        .setR 14 (.llen (.r 13)),
        .setR 15 (.ci .lss (.r 12) (.r 14)),
        .setR 4 (.r 15)])
      (.ret (.r 4)))
     .skip))
   (.seq
    (.seq
     (.is [.setR 5 (.con (.int 0))])
     lp25_0)
    (.seq
     (.is [.setR 4 (.con (.bool false))])
     (.ret (.r 4))))))
def tr25 : PT :=
 (.ite (.ci .neq (.llen (.r 0)) (.llen (.r 1)))
  (.ret (.ci .lss (.llen (.r 0)) (.llen (.r 1))))
  (.brk ⟨[(5, (.con (.int 0))), (4, (.con (.bool false))), (10, (.ci .neq (.llen (.r 0)) (.llen (.r 1)))), (9, (.llen (.r 1))), (8, (.r 1)), (7, (.llen (.r 0))), (6, (.r 0)), (4, (.con (.bool false)))], []⟩
   lp25_0
  (.ret (.con (.bool false)))))
theorem tr25_eq : tree pc25 = tr25 := by kernel_rfl
/-! allonge/allongeref39.Alone -/
def bd21_0 : PC :=
 (.seq
  (.seq
   (.is [.setR 18 (.r 6),
     .setR 19 (.r 1),
     .setR 20 (.ci .lss (.r 18) (.r 19))])
   (.ite (.r 20) [] []
    .skip
    (.exit 0)))
  (.seq
   (.block 1 [5, 24, 25, 26, 27, 28, 29] [5, 28, 26]
    (.is [.setR 23 (.r 5),
      .setR 24 (.r 0),
      .setR 25 (.r 6),
      .setO 26 (.lst [(.r 25)]),
      .setR 26 (.con .none),
      .call [] 27 19 [(.r 24), (.o 26)],
      .setO 28 (.lst [(.r 27)]),
      .setR 28 (.con .none),
      .chk (.ci .leq (.llen (.app (.o 5) (.o 28))) (.con (.int 4294967296))),
      .setO 5 (.app (.o 5) (.o 28)),
      .setR 29 (.con .none),
      .setR 5 (.r 29)]))
   (.is [.setR 21 (.r 6),
     .setR 22 (.ai .add .i64 (.r 21) (.con (.int 1))),
     .setR 6 (.r 22)])))
def lp21_0 : PC := .block 0 [5, 6, 18, 19, 20] [5] (.loop [5, 6] [5] bd21_0)
def rd21_0 : PT :=
 (.ite (.ci .lss (.r 6) (.r 1))
  (.blockS ⟨[(20, (.ci .lss (.r 6) (.r 1))), (19, (.r 1)), (18, (.r 6))], []⟩ 1 [5, 24, 25, 26, 27, 28, 29] [5, 28, 26]
   (.call ⟨[(26, (.con .none)), (25, (.r 6)), (24, (.r 0)), (23, (.r 5))], [(26, (.lst [(.r 6)]))]⟩ [] 27 19 [(.r 24), (.o 26)]
   (.chk (.ci .leq (.llen (.app (.o 5) (.lst [(.r 27)]))) (.con (.int 4294967296)))
   (.next ⟨[(5, (.con .none)), (29, (.con .none)), (28, (.con .none))], [(5, (.app (.o 5) (.lst [(.r 27)]))), (28, (.lst [(.r 27)]))]⟩)))
  (.next ⟨[(5, (.r 5)), (6, (.ai .add .i64 (.r 6) (.con (.int 1))))], [(5, (.o 5))]⟩))
  (.exit 0 ⟨[(5, (.r 5)), (6, (.r 6)), (18, (.r 6)), (19, (.r 1)), (20, (.ci .lss (.r 6) (.r 1)))], [(5, (.o 5))]⟩))
theorem rd21_0_eq : round 0 [5, 6, 18, 19, 20] [5] [5, 6] [5] bd21_0 = rd21_0 := by kernel_rfl
def pc21 : PC :=
 (.seq
  (.is [.setR 4 (.con (.list []))])
  (.seq
   (.seq
    (.is [.setR 7 (.r 0),
      .call [] 8 17 [(.r 7)],
      .setR 9 (.nt (.r 8)),
      .setR 10 (.r 9),
      .setR 11 (.r 1),
      .setR 12 (.ci .lss (.r 11) (.con (.int 0))),
      .setR 13 (.pick (.r 10) (.con (.bool true)) (.r 12)),
      .setR 14 (.r 13),
      .setR 15 (.r 1),
      .setR 16 (.ci .gtr (.r 15) (.con (.int 20))),
      .setR 17 (.pick (.r 14) (.con (.bool true)) (.r 16))])
    (.ite (.r 17) [4] []
     (.seq
      (.is [.setR 4 (.con (.list []))])
      (.ret (.r 4)))
     .skip))
   (.seq
    (.is [.setO 5 (.con (.list [])),
      .setR 5 (.con .none)])
    (.seq
     (.seq
      (.is [.setR 6 (.con (.int 0))])
      lp21_0)
     (.seq
      (.is [.setR 30 (.r 5),
        .setR 4 (.o 5)])
      (.ret (.r 4)))))))
def tr21 : PT :=
 (.call ⟨[(7, (.r 0)), (4, (.con (.list [])))], []⟩ [] 8 17 [(.r 7)]
 (.ite (.pick (.pick (.nt (.r 8)) (.con (.bool true)) (.ci .lss (.r 1) (.con (.int 0)))) (.con (.bool true)) (.ci .gtr (.r 1) (.con (.int 20))))
  (.ret (.con (.list [])))
  (.brk ⟨[(6, (.con (.int 0))), (5, (.con .none)), (4, (.r 4)), (17, (.pick (.pick (.nt (.r 8)) (.con (.bool true)) (.ci .lss (.r 1) (.con (.int 0)))) (.con (.bool true)) (.ci .gtr (.r 1) (.con (.int 20))))), (16, (.ci .gtr (.r 1) (.con (.int 20)))), (15, (.r 1)), (14, (.pick (.nt (.r 8)) (.con (.bool true)) (.ci .lss (.r 1) (.con (.int 0))))), (13, (.pick (.nt (.r 8)) (.con (.bool true)) (.ci .lss (.r 1) (.con (.int 0))))), (12, (.ci .lss (.r 1) (.con (.int 0)))), (11, (.r 1)), (10, (.nt (.r 8))), (9, (.nt (.r 8)))], [(5, (.con (.list [])))]⟩
   lp21_0
  (.ret (.o 5)))))
theorem tr21_eq : tree pc21 = tr21 := by kernel_rfl
/-! allonge/allongeref39.Over -/
def bd23_0 : PC :=
 (.seq
  (.seq
   (.is [.setR 12 (.r 7),
     .setR 13 (.r 5),
     .setR 14 (.llen (.r 13)),
     .setR 15 (.ci .lss (.r 12) (.r 14))])
   (.ite (.r 15) [] []
    .skip
    (.exit 0)))
  (.seq
   (.block 1 [6, 18, 19, 20, 21, 22, 23, 24, 25, 26] [6]
    (.seq
     (.is [.setR 18 (.r 5),
       .setR 19 (.r 7),
       .chk (.idx (.r 18) (.r 19)),
       .setR 20 (.ref (.nth (.r 18) (.r 19))),
       .setR 21 (.deref (.r 20)),
       .setR 22 (.r 1),
       .setR 23 (.r 7),
       .chk (.idx (.r 22) (.r 23)),
       .setR 24 (.ref (.nth (.r 22) (.r 23))),
       .setR 25 (.deref (.r 24)),
       .setR 26 (.ci .gtr (.r 21) (.r 25))])
     (.ite (.r 26) [6] [6]
      (.is [.setR 27 (.r 6),
        .setR 28 (.r 7),
        .setO 29 (.lst [(.r 28)]),
        .setR 29 (.con .none),
        .chk (.ci .leq (.llen (.app (.o 6) (.o 29))) (.con (.int 4294967296))),
        .setO 6 (.app (.o 6) (.o 29)),
        .setR 30 (.con .none),
        .setR 6 (.r 30)])
      .skip)))
   (.is [.setR 16 (.r 7),
     .setR 17 (.ai .add .i64 (.r 16) (.con (.int 1))),
     .setR 7 (.r 17)])))
def lp23_0 : PC := .block 0 [6, 7, 12, 13, 14, 15] [6] (.loop [6, 7] [6] bd23_0)
def rd23_0 : PT :=
 (.ite (.ci .lss (.r 7) (.llen (.r 5)))
  (.chk (.idx (.r 5) (.r 7))
  (.chk (.idx (.r 1) (.r 7))
  (.ite (.ci .gtr (.nth (.r 5) (.r 7)) (.nth (.r 1) (.r 7)))
   (.chk (.ci .leq (.llen (.app (.o 6) (.lst [(.r 7)]))) (.con (.int 4294967296)))
   (.next ⟨[(6, (.con .none)), (7, (.ai .add .i64 (.r 7) (.con (.int 1))))], [(6, (.app (.o 6) (.lst [(.r 7)])))]⟩))
   (.next ⟨[(6, (.r 6)), (7, (.ai .add .i64 (.r 7) (.con (.int 1))))], [(6, (.o 6))]⟩))))
  (.exit 0 ⟨[(6, (.r 6)), (7, (.r 7)), (12, (.r 7)), (13, (.r 5)), (14, (.llen (.r 5))), (15, (.ci .lss (.r 7) (.llen (.r 5))))], [(6, (.o 6))]⟩))
theorem rd23_0_eq : round 0 [6, 7, 12, 13, 14, 15] [6] [6, 7] [6] bd23_0 = rd23_0 := by kernel_rfl
def pc23 : PC :=
 (.seq
  (.is [.setR 4 (.con (.list []))])
  (.seq
   (.is [.setR 8 (.r 0),
     .setR 9 (.r 1),
     .setR 10 (.llen (.r 9)),
     .call [] 11 21 [(.r 8), (.r 10)],
     .setR 5 (.r 11)])
   (.seq
    (.is [.setO 6 (.con (.list [])),
      .setR 6 (.con .none)])
    (.seq
     (.seq
      (.is [.setR 7 (.con (.int 0))])
      lp23_0)
     (.seq
      (.is [.setR 31 (.r 6),
        .setR 4 (.o 6)])
      (.ret (.r 4)))))))
def tr23 : PT :=
 (.call ⟨[(10, (.llen (.r 1))), (9, (.r 1)), (8, (.r 0)), (4, (.con (.list [])))], []⟩ [] 11 21 [(.r 8), (.r 10)]
 (.brk ⟨[(7, (.con (.int 0))), (6, (.con .none)), (5, (.r 11))], [(6, (.con (.list [])))]⟩
  lp23_0
 (.ret (.o 6))))
theorem tr23_eq : tree pc23 = tr23 := by kernel_rfl
/-! allonge/allongelaw39.ExposureWorst -/
def bd4_0 : PC :=
 (.seq
  (.seq
   (.is [.setR 70 (.r 13),
     .setR 71 (.r 11),
     .setR 72 (.llen (.r 71)),
     .setR 73 (.ci .lss (.r 70) (.r 72))])
   (.ite (.r 73) [] []
    .skip
    (.exit 0)))
  (.seq
   (.block 1 [8, 76, 77, 78, 79, 80, 81, 88, 89, 104] []
    (.seq
     (.is [.setR 76 (.r 11),
       .setR 77 (.r 13),
       .chk (.idx (.r 76) (.r 77)),
       .setR 78 (.ref (.nth (.r 76) (.r 77))),
       .setR 79 (.deref (.r 78)),
       .setR 80 (.ci .lss (.r 79) (.con (.int 0))),
       .setR 81 (.r 80),
       .setR 82 (.r 11),
       .setR 83 (.r 13),
       .chk (.imp [(81, false)] (.idx (.r 82) (.r 83))),
       .setR 84 (.ref (.nth (.r 82) (.r 83))),
       .setR 85 (.deref (.r 84)),
       .setR 86 (.r 1),
       .setR 87 (.ci .geq (.r 85) (.r 86)),
       .setR 88 (.pick (.r 81) (.con (.bool true)) (.r 87)),
       .setR 89 (.r 88),
       .setR 90 (.r 13),
       .setR 91 (.ci .gtr (.r 90) (.con (.int 0))),
       .setR 92 (.r 91),
       .setR 93 (.r 11),
       .setR 94 (.r 13),
       .setR 95 (.ai .sub .i64 (.r 94) (.con (.int 1))),
       .chk (.imp [(92, true), (89, false)] (.idx (.r 93) (.r 95))),
       .setR 96 (.ref (.nth (.r 93) (.r 95))),
       .setR 97 (.deref (.r 96)),
       .setR 98 (.r 11),
       .setR 99 (.r 13),
       .chk (.imp [(92, true), (89, false)] (.idx (.r 98) (.r 99))),
       .setR 100 (.ref (.nth (.r 98) (.r 99))),
       .setR 101 (.deref (.r 100)),
       .setR 102 (.ci .geq (.r 97) (.r 101)),
       .setR 103 (.pick (.r 92) (.r 102) (.con (.bool false))),
       .setR 104 (.pick (.r 89) (.con (.bool true)) (.r 103))])
     (.ite (.r 104) [8] []
      (.seq
       (.is [.setR 8 (.con (.bool false))])
       (.ret (.r 8)))
      .skip)))
   (.is [.setR 74 (.r 13),
     .setR 75 (.ai .add .i64 (.r 74) (.con (.int 1))),
     .setR 13 (.r 75)])))
def lp4_0 : PC := .block 0 [8, 13, 70, 71, 72, 73] [] (.loop [8, 13] [] bd4_0)
def rd4_0 : PT :=
 (.ite (.ci .lss (.r 13) (.llen (.r 11)))
  (.chk (.idx (.r 11) (.r 13))
  (.chk (.nt (.an (.an (.nt (.ci .lss (.nth (.r 11) (.r 13)) (.con (.int 0)))) (.con (.bool true))) (.nt (.idx (.r 11) (.r 13)))))
  (.chk (.nt (.an (.an (.ci .gtr (.r 13) (.con (.int 0))) (.an (.nt (.pick (.ci .lss (.nth (.r 11) (.r 13)) (.con (.int 0))) (.con (.bool true)) (.ci .geq (.nth (.r 11) (.r 13)) (.r 1)))) (.con (.bool true)))) (.nt (.idx (.r 11) (.ai .sub .i64 (.r 13) (.con (.int 1)))))))
  (.chk (.nt (.an (.an (.ci .gtr (.r 13) (.con (.int 0))) (.an (.nt (.pick (.ci .lss (.nth (.r 11) (.r 13)) (.con (.int 0))) (.con (.bool true)) (.ci .geq (.nth (.r 11) (.r 13)) (.r 1)))) (.con (.bool true)))) (.nt (.idx (.r 11) (.r 13)))))
  (.ite (.pick (.pick (.ci .lss (.nth (.r 11) (.r 13)) (.con (.int 0))) (.con (.bool true)) (.ci .geq (.nth (.r 11) (.r 13)) (.r 1))) (.con (.bool true)) (.pick (.ci .gtr (.r 13) (.con (.int 0))) (.ci .geq (.nth (.r 11) (.ai .sub .i64 (.r 13) (.con (.int 1)))) (.nth (.r 11) (.r 13))) (.con (.bool false))))
   (.ret (.con (.bool false)))
   (.next ⟨[(8, (.r 8)), (13, (.ai .add .i64 (.r 13) (.con (.int 1))))], []⟩))))))
  (.exit 0 ⟨[(8, (.r 8)), (13, (.r 13)), (70, (.r 13)), (71, (.r 11)), (72, (.llen (.r 11))), (73, (.ci .lss (.r 13) (.llen (.r 11))))], []⟩))
theorem rd4_0_eq : round 0 [8, 13, 70, 71, 72, 73] [] [8, 13] [] bd4_0 = rd4_0 := by kernel_rfl
def pc4 : PC :=
 (.seq
  (.is [.setR 8 (.con (.bool false))])
  (.seq
   (.is [.call [] 16 11 [],
     .setR 9 (.r 16)])
   (.seq
    (.seq
     (.is [.setR 17 (.r 0),
       .call [] 18 12 [(.r 17)],
       .setR 19 (.nt (.r 18)),
       .setR 20 (.r 19),
       .setR 21 (.r 0),
       .call [(20, false)] 22 16 [(.r 21)],
       .setR 23 (.nt (.r 22)),
       .setR 24 (.pick (.r 20) (.con (.bool true)) (.r 23)),
       .setR 25 (.r 24),
       .setR 26 (.r 1),
       .setR 27 (.ci .lss (.r 26) (.con (.int 0))),
       .setR 28 (.pick (.r 25) (.con (.bool true)) (.r 27)),
       .setR 29 (.r 28),
       .setR 30 (.r 1),
       .setR 31 (.ci .gtr (.r 30) (.con (.int 20))),
       .setR 32 (.pick (.r 29) (.con (.bool true)) (.r 31)),
       .setR 33 (.r 32),
       .setR 34 (.r 2),
       .setR 35 (.ci .lss (.r 34) (.con (.int 0))),
       .setR 36 (.pick (.r 33) (.con (.bool true)) (.r 35)),
       .setR 37 (.r 36),
       .setR 38 (.r 2),
       .setR 39 (.ci .gtr (.r 38) (.con (.int 3))),
       .setR 40 (.pick (.r 37) (.con (.bool true)) (.r 39)),
       .setR 41 (.r 40),
       .setR 42 (.r 2),
       .setR 43 (.r 1),
       .setR 44 (.ci .gtr (.r 42) (.r 43)),
       .setR 45 (.pick (.r 41) (.con (.bool true)) (.r 44))])
     (.ite (.r 45) [8] []
      (.seq
       (.is [.setR 46 (.r 9),
         .setR 8 (.r 46)])
       (.ret (.r 8)))
      .skip))
    (.seq
     (.is [.setR 48 (.r 0),
       .setR 49 (.r 1),
       .setR 50 (.r 2),
       .call [] 51 13 [(.r 48), (.r 49), (.r 50)],
       .setR 47 (.r 51),
       .setR 52 (.tget (.r 47) 0),
       .setR 53 (.tget (.r 47) 1),
       .setR 54 (.tget (.r 47) 2),
       .setR 10 (.r 52),
       .setR 11 (.r 53),
       .setR 12 (.r 54)])
     (.seq
      (.seq
       (.is [.setR 55 (.r 12),
         .setR 56 (.ci .neq (.r 55) (.con (.int 0))),
         .setR 57 (.r 56),
         .setR 58 (.r 11),
         .setR 59 (.llen (.r 58)),
         .setR 60 (.r 2),
         .setR 61 (.ci .gtr (.r 59) (.r 60)),
         .setR 62 (.pick (.r 57) (.con (.bool true)) (.r 61)),
         .setR 63 (.r 62),
         .setR 64 (.r 0),
         .setR 65 (.r 11),
         .call [(63, false)] 66 18 [(.r 64), (.r 65)],
         .setR 67 (.r 10),
         .setR 68 (.ci .neq (.r 66) (.r 67)),
         .setR 69 (.pick (.r 63) (.con (.bool true)) (.r 68))])
       (.ite (.r 69) [8] []
        (.seq
         (.is [.setR 8 (.con (.bool false))])
         (.ret (.r 8)))
        .skip))
      (.seq
       (.seq
        (.is [.setR 13 (.con (.int 0))])
        lp4_0)
       (.seq
        (.is [.setR 105 (.r 3),
          .setR 106 (.conv .i64 (.r 105)),
          .setR 107 (.r 1),
          .call [] 108 24 [(.r 106), (.r 107)],
          .setR 14 (.r 108)])
        (.seq
         (.seq
          (.is [.setR 109 (.r 14),
            .setR 110 (.llen (.r 109)),
            .setR 111 (.r 2),
            .setR 112 (.ci .gtr (.r 110) (.r 111))])
          (.ite (.r 112) [14] []
           (.is [.setR 113 (.r 14),
             .setR 114 (.r 2),
             .chk (.slok (.r 113) (.con (.int 0)) (.r 114)),
             .setR 115 (.slc (.r 113) (.con (.int 0)) (.r 114)),
             .setR 14 (.r 115)])
           .skip))
         (.seq
          (.is [.setR 116 (.r 0),
            .setR 117 (.r 14),
            .call [] 118 18 [(.r 116), (.r 117)],
            .setR 15 (.r 118)])
          (.seq
           (.is [.setR 119 (.r 9),
             .setR 120 (.r 119),
             .setR 121 (.r 15),
             .setR 122 (.r 10),
             .setR 123 (.ci .lss (.r 121) (.r 122)),
             .setR 124 (.r 123),
             .setR 125 (.r 15),
             .setR 126 (.r 10),
             .setR 127 (.ci .eql (.r 125) (.r 126)),
             .setR 128 (.r 127),
             .setR 129 (.r 14),
             .setR 130 (.r 11),
             .call [(128, true), (124, false), (120, true)] 131 25 [(.r 129), (.r 130)],
             .setR 132 (.nt (.r 131)),
             .setR 133 (.pick (.r 128) (.r 132) (.con (.bool false))),
             .setR 134 (.pick (.r 124) (.con (.bool true)) (.r 133)),
             .setR 135 (.pick (.r 120) (.r 134) (.con (.bool false))),
             .setR 8 (.r 135)])
           (.ret (.r 8))))))))))))
def tr4 : PT :=
 (.call ⟨[(8, (.con (.bool false)))], []⟩ [] 16 11 []
 (.call ⟨[(17, (.r 0)), (9, (.r 16))], []⟩ [] 18 12 [(.r 17)]
 (.call ⟨[(21, (.r 0)), (20, (.nt (.r 18))), (19, (.nt (.r 18)))], []⟩ [(20, false)] 22 16 [(.r 21)]
 (.ite (.pick (.pick (.pick (.pick (.pick (.pick (.r 20) (.con (.bool true)) (.nt (.r 22))) (.con (.bool true)) (.ci .lss (.r 1) (.con (.int 0)))) (.con (.bool true)) (.ci .gtr (.r 1) (.con (.int 20)))) (.con (.bool true)) (.ci .lss (.r 2) (.con (.int 0)))) (.con (.bool true)) (.ci .gtr (.r 2) (.con (.int 3)))) (.con (.bool true)) (.ci .gtr (.r 2) (.r 1)))
  (.ret (.r 9))
  (.call ⟨[(50, (.r 2)), (49, (.r 1)), (48, (.r 0)), (8, (.r 8)), (45, (.pick (.pick (.pick (.pick (.pick (.pick (.r 20) (.con (.bool true)) (.nt (.r 22))) (.con (.bool true)) (.ci .lss (.r 1) (.con (.int 0)))) (.con (.bool true)) (.ci .gtr (.r 1) (.con (.int 20)))) (.con (.bool true)) (.ci .lss (.r 2) (.con (.int 0)))) (.con (.bool true)) (.ci .gtr (.r 2) (.con (.int 3)))) (.con (.bool true)) (.ci .gtr (.r 2) (.r 1)))), (44, (.ci .gtr (.r 2) (.r 1))), (43, (.r 1)), (42, (.r 2)), (41, (.pick (.pick (.pick (.pick (.pick (.r 20) (.con (.bool true)) (.nt (.r 22))) (.con (.bool true)) (.ci .lss (.r 1) (.con (.int 0)))) (.con (.bool true)) (.ci .gtr (.r 1) (.con (.int 20)))) (.con (.bool true)) (.ci .lss (.r 2) (.con (.int 0)))) (.con (.bool true)) (.ci .gtr (.r 2) (.con (.int 3))))), (40, (.pick (.pick (.pick (.pick (.pick (.r 20) (.con (.bool true)) (.nt (.r 22))) (.con (.bool true)) (.ci .lss (.r 1) (.con (.int 0)))) (.con (.bool true)) (.ci .gtr (.r 1) (.con (.int 20)))) (.con (.bool true)) (.ci .lss (.r 2) (.con (.int 0)))) (.con (.bool true)) (.ci .gtr (.r 2) (.con (.int 3))))), (39, (.ci .gtr (.r 2) (.con (.int 3)))), (38, (.r 2)), (37, (.pick (.pick (.pick (.pick (.r 20) (.con (.bool true)) (.nt (.r 22))) (.con (.bool true)) (.ci .lss (.r 1) (.con (.int 0)))) (.con (.bool true)) (.ci .gtr (.r 1) (.con (.int 20)))) (.con (.bool true)) (.ci .lss (.r 2) (.con (.int 0))))), (36, (.pick (.pick (.pick (.pick (.r 20) (.con (.bool true)) (.nt (.r 22))) (.con (.bool true)) (.ci .lss (.r 1) (.con (.int 0)))) (.con (.bool true)) (.ci .gtr (.r 1) (.con (.int 20)))) (.con (.bool true)) (.ci .lss (.r 2) (.con (.int 0))))), (35, (.ci .lss (.r 2) (.con (.int 0)))), (34, (.r 2)), (33, (.pick (.pick (.pick (.r 20) (.con (.bool true)) (.nt (.r 22))) (.con (.bool true)) (.ci .lss (.r 1) (.con (.int 0)))) (.con (.bool true)) (.ci .gtr (.r 1) (.con (.int 20))))), (32, (.pick (.pick (.pick (.r 20) (.con (.bool true)) (.nt (.r 22))) (.con (.bool true)) (.ci .lss (.r 1) (.con (.int 0)))) (.con (.bool true)) (.ci .gtr (.r 1) (.con (.int 20))))), (31, (.ci .gtr (.r 1) (.con (.int 20)))), (30, (.r 1)), (29, (.pick (.pick (.r 20) (.con (.bool true)) (.nt (.r 22))) (.con (.bool true)) (.ci .lss (.r 1) (.con (.int 0))))), (28, (.pick (.pick (.r 20) (.con (.bool true)) (.nt (.r 22))) (.con (.bool true)) (.ci .lss (.r 1) (.con (.int 0))))), (27, (.ci .lss (.r 1) (.con (.int 0)))), (26, (.r 1)), (25, (.pick (.r 20) (.con (.bool true)) (.nt (.r 22)))), (24, (.pick (.r 20) (.con (.bool true)) (.nt (.r 22)))), (23, (.nt (.r 22)))], []⟩ [] 51 13 [(.r 48), (.r 49), (.r 50)]
  (.call ⟨[(65, (.tget (.r 51) 1)), (64, (.r 0)), (63, (.pick (.ci .neq (.tget (.r 51) 2) (.con (.int 0))) (.con (.bool true)) (.ci .gtr (.llen (.tget (.r 51) 1)) (.r 2)))), (62, (.pick (.ci .neq (.tget (.r 51) 2) (.con (.int 0))) (.con (.bool true)) (.ci .gtr (.llen (.tget (.r 51) 1)) (.r 2)))), (61, (.ci .gtr (.llen (.tget (.r 51) 1)) (.r 2))), (60, (.r 2)), (59, (.llen (.tget (.r 51) 1))), (58, (.tget (.r 51) 1)), (57, (.ci .neq (.tget (.r 51) 2) (.con (.int 0)))), (56, (.ci .neq (.tget (.r 51) 2) (.con (.int 0)))), (55, (.tget (.r 51) 2)), (12, (.tget (.r 51) 2)), (11, (.tget (.r 51) 1)), (10, (.tget (.r 51) 0)), (54, (.tget (.r 51) 2)), (53, (.tget (.r 51) 1)), (52, (.tget (.r 51) 0)), (47, (.r 51))], []⟩ [(63, false)] 66 18 [(.r 64), (.r 65)]
  (.ite (.pick (.r 63) (.con (.bool true)) (.ci .neq (.r 66) (.r 10)))
   (.ret (.con (.bool false)))
   (.brk ⟨[(13, (.con (.int 0))), (8, (.r 8)), (69, (.pick (.r 63) (.con (.bool true)) (.ci .neq (.r 66) (.r 10)))), (68, (.ci .neq (.r 66) (.r 10))), (67, (.r 10))], []⟩
    lp4_0
   (.call ⟨[(107, (.r 1)), (106, (.conv .i64 (.r 3))), (105, (.r 3))], []⟩ [] 108 24 [(.r 106), (.r 107)]
   (.ite (.ci .gtr (.llen (.r 108)) (.r 2))
    (.chk (.slok (.r 108) (.con (.int 0)) (.r 2))
    (.call ⟨[(117, (.slc (.r 108) (.con (.int 0)) (.r 2))), (116, (.r 0)), (14, (.slc (.r 108) (.con (.int 0)) (.r 2))), (112, (.ci .gtr (.llen (.r 108)) (.r 2))), (111, (.r 2)), (110, (.llen (.r 108))), (109, (.r 108)), (14, (.r 108))], []⟩ [] 118 18 [(.r 116), (.r 117)]
    (.call ⟨[(130, (.r 11)), (129, (.r 14)), (128, (.ci .eql (.r 118) (.r 10))), (127, (.ci .eql (.r 118) (.r 10))), (126, (.r 10)), (125, (.r 118)), (124, (.ci .lss (.r 118) (.r 10))), (123, (.ci .lss (.r 118) (.r 10))), (122, (.r 10)), (121, (.r 118)), (120, (.r 9)), (119, (.r 9)), (15, (.r 118))], []⟩ [(128, true), (124, false), (120, true)] 131 25 [(.r 129), (.r 130)]
    (.ret (.pick (.r 120) (.pick (.r 124) (.con (.bool true)) (.pick (.r 128) (.nt (.r 131)) (.con (.bool false)))) (.con (.bool false)))))))
    (.call ⟨[(117, (.r 108)), (116, (.r 0)), (14, (.r 108)), (112, (.ci .gtr (.llen (.r 108)) (.r 2))), (111, (.r 2)), (110, (.llen (.r 108))), (109, (.r 108)), (14, (.r 108))], []⟩ [] 118 18 [(.r 116), (.r 117)]
    (.call ⟨[(130, (.r 11)), (129, (.r 14)), (128, (.ci .eql (.r 118) (.r 10))), (127, (.ci .eql (.r 118) (.r 10))), (126, (.r 10)), (125, (.r 118)), (124, (.ci .lss (.r 118) (.r 10))), (123, (.ci .lss (.r 118) (.r 10))), (122, (.r 10)), (121, (.r 118)), (120, (.r 9)), (119, (.r 9)), (15, (.r 118))], []⟩ [(128, true), (124, false), (120, true)] 131 25 [(.r 129), (.r 130)]
    (.ret (.pick (.r 120) (.pick (.r 124) (.con (.bool true)) (.pick (.r 128) (.nt (.r 131)) (.con (.bool false)))) (.con (.bool false))))))))))))))))
theorem tr4_eq : tree pc4 = tr4 := by kernel_rfl
/-! allonge/allongelaw39.ExposureGrows -/
def bd5_0 : PC :=
 (.seq
  (.seq
   (.is [.setR 81 (.r 19),
     .setR 82 (.r 4),
     .setR 83 (.llen (.r 82)),
     .setR 84 (.ci .lss (.r 81) (.r 83))])
   (.ite (.r 84) [] []
    .skip
    (.exit 2)))
  (.seq
   (.block 3 [18, 87, 88, 102] []
    (.is [.setR 87 (.r 18),
      .setR 88 (.r 87),
      .setR 89 (.r 4),
      .setR 90 (.r 19),
      .chk (.imp [(88, false)] (.idx (.r 89) (.r 90))),
      .setR 91 (.ref (.nth (.r 89) (.r 90))),
      .setR 92 (.deref (.r 91)),
      .setR 93 (.r 0),
      .setR 94 (.r 3),
      .chk (.imp [(88, false)] (.idx (.r 93) (.r 94))),
      .setR 95 (.ref (.nth (.r 93) (.r 94))),
      .setR 96 (.ref (.cell (.deref (.r 95)) 1)),
      .setR 97 (.deref (.r 96)),
      .setR 98 (.r 17),
      .chk (.imp [(88, false)] (.idx (.r 97) (.r 98))),
      .setR 99 (.ref (.nth (.r 97) (.r 98))),
      .setR 100 (.deref (.r 99)),
      .setR 101 (.ci .eql (.r 92) (.r 100)),
      .setR 102 (.pick (.r 88) (.con (.bool true)) (.r 101)),
      .setR 18 (.r 102)]))
   (.is [.setR 85 (.r 19),
     .setR 86 (.ai .add .i64 (.r 85) (.con (.int 1))),
     .setR 19 (.r 86)])))
def lp5_0 : PC := .block 2 [18, 19, 81, 82, 83, 84] [] (.loop [18, 19] [] bd5_0)
def rd5_0 : PT :=
 (.ite (.ci .lss (.r 19) (.llen (.r 4)))
  (.chk (.nt (.an (.an (.nt (.r 18)) (.con (.bool true))) (.nt (.idx (.r 4) (.r 19)))))
  (.chk (.nt (.an (.an (.nt (.r 18)) (.con (.bool true))) (.nt (.idx (.r 0) (.r 3)))))
  (.chk (.nt (.an (.an (.nt (.r 18)) (.con (.bool true))) (.nt (.idx (.cell (.nth (.r 0) (.r 3)) 1) (.r 17)))))
  (.next ⟨[(18, (.pick (.r 18) (.con (.bool true)) (.ci .eql (.nth (.r 4) (.r 19)) (.nth (.cell (.nth (.r 0) (.r 3)) 1) (.r 17))))), (19, (.ai .add .i64 (.r 19) (.con (.int 1))))], []⟩))))
  (.exit 2 ⟨[(18, (.r 18)), (19, (.r 19)), (81, (.r 19)), (82, (.r 4)), (83, (.llen (.r 4))), (84, (.ci .lss (.r 19) (.llen (.r 4))))], []⟩))
theorem rd5_0_eq : round 2 [18, 19, 81, 82, 83, 84] [] [18, 19] [] bd5_0 = rd5_0 := by kernel_rfl
def bd5_1 : PC :=
 (.seq
  (.seq
   (.is [.setR 71 (.r 17),
     .setR 72 (.r 0),
     .setR 73 (.r 3),
     .chk (.idx (.r 72) (.r 73)),
     .setR 74 (.ref (.nth (.r 72) (.r 73))),
     .setR 75 (.ref (.cell (.deref (.r 74)) 1)),
     .setR 76 (.deref (.r 75)),
     .setR 77 (.llen (.r 76)),
     .setR 78 (.ci .lss (.r 71) (.r 77))])
   (.ite (.r 78) [] []
    .skip
    (.exit 0)))
  (.seq
   (.block 1 [16, 18, 19, 81, 82, 83, 84, 103, 104, 106] []
    (.seq
     (.is [.setR 18 (.con (.bool false))])
     (.seq
      (.seq
       (.is [.setR 19 (.con (.int 0))])
       lp5_0)
      (.is [.setR 103 (.r 16),
        .setR 104 (.r 103),
        .setR 105 (.r 18),
        .setR 106 (.pick (.r 104) (.r 105) (.con (.bool false))),
        .setR 16 (.r 106)]))))
   (.is [.setR 79 (.r 17),
     .setR 80 (.ai .add .i64 (.r 79) (.con (.int 1))),
     .setR 17 (.r 80)])))
def lp5_1 : PC := .block 0 [16, 17, 71, 72, 73, 74, 75, 76, 77, 78] [] (.loop [16, 17] [] bd5_1)
def rd5_1 : PT :=
 (.chk (.idx (.r 0) (.r 3))
 (.ite (.ci .lss (.r 17) (.llen (.cell (.nth (.r 0) (.r 3)) 1)))
  (.blockS ⟨[(78, (.ci .lss (.r 17) (.llen (.cell (.nth (.r 0) (.r 3)) 1)))), (77, (.llen (.cell (.nth (.r 0) (.r 3)) 1))), (76, (.cell (.nth (.r 0) (.r 3)) 1)), (75, (.ref (.cell (.nth (.r 0) (.r 3)) 1))), (74, (.ref (.nth (.r 0) (.r 3)))), (73, (.r 3)), (72, (.r 0)), (71, (.r 17))], []⟩ 1 [16, 18, 19, 81, 82, 83, 84, 103, 104, 106] []
   (.brk ⟨[(19, (.con (.int 0))), (18, (.con (.bool false)))], []⟩
    lp5_0
   (.next ⟨[(16, (.pick (.r 16) (.r 18) (.con (.bool false)))), (106, (.pick (.r 16) (.r 18) (.con (.bool false)))), (105, (.r 18)), (104, (.r 16)), (103, (.r 16))], []⟩))
  (.next ⟨[(16, (.r 16)), (17, (.ai .add .i64 (.r 17) (.con (.int 1))))], []⟩))
  (.exit 0 ⟨[(16, (.r 16)), (17, (.r 17)), (71, (.r 17)), (72, (.r 0)), (73, (.r 3)), (74, (.ref (.nth (.r 0) (.r 3)))), (75, (.ref (.cell (.nth (.r 0) (.r 3)) 1))), (76, (.cell (.nth (.r 0) (.r 3)) 1)), (77, (.llen (.cell (.nth (.r 0) (.r 3)) 1))), (78, (.ci .lss (.r 17) (.llen (.cell (.nth (.r 0) (.r 3)) 1))))], []⟩)))
theorem rd5_1_eq : round 0 [16, 17, 71, 72, 73, 74, 75, 76, 77, 78] [] [16, 17] [] bd5_1 = rd5_1 := by kernel_rfl
def pc5 : PC :=
 (.seq
  (.is [.setO 11 (.mk [(.r 5)]),
    .setR 11 (.con .none),
    .setR 12 (.con (.bool false))])
  (.seq
   (.is [.call [] 22 11 [],
     .setR 13 (.r 22)])
   (.seq
    (.seq
     (.is [.setR 23 (.r 0),
       .call [] 24 12 [(.r 23)],
       .setR 25 (.nt (.r 24)),
       .setR 26 (.r 25),
       .setR 27 (.r 0),
       .call [(26, false)] 28 16 [(.r 27)],
       .setR 29 (.nt (.r 28)),
       .setR 30 (.pick (.r 26) (.con (.bool true)) (.r 29)),
       .setR 31 (.r 30),
       .setR 32 (.r 1),
       .setR 33 (.llen (.r 32)),
       .setR 34 (.ci .gtr (.r 33) (.con (.int 25))),
       .setR 35 (.pick (.r 31) (.con (.bool true)) (.r 34)),
       .setR 36 (.r 35),
       .setR 37 (.r 4),
       .setR 38 (.llen (.r 37)),
       .setR 39 (.ci .gtr (.r 38) (.con (.int 25))),
       .setR 40 (.pick (.r 36) (.con (.bool true)) (.r 39))])
     (.ite (.r 40) [12] []
      (.seq
       (.is [.setR 41 (.r 13),
         .setR 12 (.r 41)])
       (.ret (.r 12)))
      .skip))
    (.seq
     (.is [.setR 42 (.r 0),
       .setR 43 (.r 1),
       .call [] 44 18 [(.r 42), (.r 43)],
       .setR 14 (.r 44)])
     (.seq
      (.seq
       (.is [.setR 45 (.r 0),
         .setO 46 (.lst []),
         .setR 46 (.con .none),
         .setR 47 (.r 1),
         .chk (.ci .leq (.llen (.app (.o 46) (.r 47))) (.con (.int 4294967296))),
         .setO 46 (.app (.o 46) (.r 47)),
         .setR 48 (.con .none),
         .setR 49 (.r 2),
         .setO 50 (.lst [(.r 49)]),
         .setR 50 (.con .none),
         .chk (.ci .leq (.llen (.app (.o 46) (.o 50))) (.con (.int 4294967296))),
         .setO 46 (.app (.o 46) (.o 50)),
         .setR 51 (.con .none),
         .call [] 52 18 [(.r 45), (.o 46)],
         .setR 53 (.r 14),
         .setR 54 (.ci .lss (.r 52) (.r 53))])
       (.ite (.r 54) [12] []
        (.seq
         (.is [.setR 12 (.con (.bool false))])
         (.ret (.r 12)))
        .skip))
      (.seq
       (.seq
        (.is [.setR 55 (.r 3),
          .setR 56 (.ci .geq (.r 55) (.con (.int 0))),
          .setR 57 (.r 56),
          .setR 58 (.r 3),
          .setR 59 (.r 0),
          .setR 60 (.llen (.r 59)),
          .setR 61 (.ci .lss (.r 58) (.r 60)),
          .setR 62 (.pick (.r 57) (.r 61) (.con (.bool false)))])
        (.ite (.r 62) [12] []
         (.seq
          (.is [.setO 63 (.lst []),
            .setR 63 (.con .none),
            .setR 64 (.r 0),
            .chk (.ci .leq (.llen (.app (.o 63) (.r 64))) (.con (.int 4294967296))),
            .setO 63 (.app (.o 63) (.r 64)),
            .setR 65 (.con .none),
            .setR 15 (.r 65),
            .setO 15 (.o 63)])
          (.seq
           (.is [.setR 66 (.r 15),
             .setR 67 (.r 3),
             .setR 68 (.r 4),
             .chk (.idx (.o 15) (.r 67)),
             .setR 69 (.r 67),
             .setR 70 (.r 69),
             .setO 15 (.setn (.o 15) (.r 70) 1 (.r 68))])
           (.seq
            (.is [.setR 16 (.con (.bool true))])
            (.seq
             (.seq
              (.is [.setR 17 (.con (.int 0))])
              lp5_1)
             (.seq
              (.is [.setR 107 (.r 16),
                .setR 108 (.r 107),
                .setR 109 (.r 15),
                .call [(108, true)] 110 16 [(.o 15)],
                .setR 111 (.pick (.r 108) (.r 110) (.con (.bool false))),
                .setR 112 (.r 111),
                .setR 113 (.r 15),
                .setR 114 (.r 1),
                .call [(112, true)] 115 18 [(.o 15), (.r 114)],
                .setR 116 (.r 14),
                .setR 117 (.ci .gtr (.r 115) (.r 116)),
                .setR 118 (.pick (.r 112) (.r 117) (.con (.bool false)))])
              (.ite (.r 118) [12] []
               (.seq
                (.is [.setR 12 (.con (.bool false))])
                (.ret (.r 12)))
               .skip))))))
         .skip))
       (.seq
        (.is [.setO 119 (.lst []),
          .setR 119 (.con .none),
          .setR 120 (.r 0),
          .chk (.ci .leq (.llen (.app (.o 119) (.r 120))) (.con (.int 4294967296))),
          .setO 119 (.app (.o 119) (.r 120)),
          .setR 121 (.con .none),
          .setR 122 (.mk [(.cell (.o 11) 0), (.cell (.o 11) 1)]),
          .setO 123 (.lst [(.r 122)]),
          .setR 123 (.con .none),
          .chk (.ci .leq (.llen (.app (.o 119) (.o 123))) (.con (.int 4294967296))),
          .setO 119 (.app (.o 119) (.o 123)),
          .setR 124 (.con .none),
          .setR 20 (.o 119)])
        (.seq
         (.seq
          (.is [.setR 125 (.r 20),
            .call [] 126 16 [(.r 125)],
            .setR 127 (.nt (.r 126)),
            .setR 128 (.r 127),
            .setR 129 (.con .none),
            .setR 130 (.cell (.o 11) 1),
            .setR 131 (.llen (.r 130)),
            .setR 132 (.ci .gtr (.r 131) (.con (.int 25))),
            .setR 133 (.pick (.r 128) (.con (.bool true)) (.r 132))])
          (.ite (.r 133) [12] []
           (.seq
            (.is [.setR 134 (.r 13),
              .setR 12 (.r 134)])
            (.ret (.r 12)))
           .skip))
         (.seq
          (.is [.setR 135 (.r 20),
            .setR 136 (.r 1),
            .call [] 137 18 [(.r 135), (.r 136)],
            .setR 21 (.r 137)])
          (.seq
           (.is [.setR 138 (.r 13),
             .setR 139 (.r 138),
             .setR 140 (.r 21),
             .setR 141 (.r 14),
             .setR 142 (.ci .geq (.r 140) (.r 141)),
             .setR 143 (.pick (.r 139) (.r 142) (.con (.bool false))),
             .setR 144 (.r 143),
             .setR 145 (.r 21),
             .setR 146 (.r 14),
             .setR 147 (.con .none),
             .setR 148 (.cell (.o 11) 0),
             .setR 149 (.ai .add .i64 (.r 146) (.r 148)),
             .setR 150 (.ci .leq (.r 145) (.r 149)),
             .setR 151 (.pick (.r 144) (.r 150) (.con (.bool false))),
             .setR 12 (.r 151)])
           (.ret (.r 12))))))))))))
def tr5 : PT :=
 (.call ⟨[(12, (.con (.bool false))), (11, (.con .none))], [(11, (.mk [(.r 5)]))]⟩ [] 22 11 []
 (.call ⟨[(23, (.r 0)), (13, (.r 22))], []⟩ [] 24 12 [(.r 23)]
 (.call ⟨[(27, (.r 0)), (26, (.nt (.r 24))), (25, (.nt (.r 24)))], []⟩ [(26, false)] 28 16 [(.r 27)]
 (.ite (.pick (.pick (.pick (.r 26) (.con (.bool true)) (.nt (.r 28))) (.con (.bool true)) (.ci .gtr (.llen (.r 1)) (.con (.int 25)))) (.con (.bool true)) (.ci .gtr (.llen (.r 4)) (.con (.int 25))))
  (.ret (.r 13))
  (.call ⟨[(43, (.r 1)), (42, (.r 0)), (12, (.r 12)), (40, (.pick (.pick (.pick (.r 26) (.con (.bool true)) (.nt (.r 28))) (.con (.bool true)) (.ci .gtr (.llen (.r 1)) (.con (.int 25)))) (.con (.bool true)) (.ci .gtr (.llen (.r 4)) (.con (.int 25))))), (39, (.ci .gtr (.llen (.r 4)) (.con (.int 25)))), (38, (.llen (.r 4))), (37, (.r 4)), (36, (.pick (.pick (.r 26) (.con (.bool true)) (.nt (.r 28))) (.con (.bool true)) (.ci .gtr (.llen (.r 1)) (.con (.int 25))))), (35, (.pick (.pick (.r 26) (.con (.bool true)) (.nt (.r 28))) (.con (.bool true)) (.ci .gtr (.llen (.r 1)) (.con (.int 25))))), (34, (.ci .gtr (.llen (.r 1)) (.con (.int 25)))), (33, (.llen (.r 1))), (32, (.r 1)), (31, (.pick (.r 26) (.con (.bool true)) (.nt (.r 28)))), (30, (.pick (.r 26) (.con (.bool true)) (.nt (.r 28)))), (29, (.nt (.r 28)))], []⟩ [] 44 18 [(.r 42), (.r 43)]
  (.chk (.ci .leq (.llen (.app (.lst []) (.r 1))) (.con (.int 4294967296)))
  (.chk (.ci .leq (.llen (.app (.app (.lst []) (.r 1)) (.lst [(.r 2)]))) (.con (.int 4294967296)))
  (.call ⟨[(51, (.con .none)), (50, (.con .none)), (49, (.r 2)), (48, (.con .none)), (47, (.r 1)), (46, (.con .none)), (45, (.r 0)), (14, (.r 44))], [(46, (.app (.app (.lst []) (.r 1)) (.lst [(.r 2)]))), (50, (.lst [(.r 2)])), (46, (.app (.lst []) (.r 1))), (46, (.lst []))]⟩ [] 52 18 [(.r 45), (.o 46)]
  (.ite (.ci .lss (.r 52) (.r 14))
   (.ret (.con (.bool false)))
   (.iteS ⟨[(62, (.pick (.ci .geq (.r 3) (.con (.int 0))) (.ci .lss (.r 3) (.llen (.r 0))) (.con (.bool false)))), (61, (.ci .lss (.r 3) (.llen (.r 0)))), (60, (.llen (.r 0))), (59, (.r 0)), (58, (.r 3)), (57, (.ci .geq (.r 3) (.con (.int 0)))), (56, (.ci .geq (.r 3) (.con (.int 0)))), (55, (.r 3)), (12, (.r 12)), (54, (.ci .lss (.r 52) (.r 14))), (53, (.r 14))], []⟩ (.r 62) [12] []
    (.chk (.ci .leq (.llen (.app (.lst []) (.r 0))) (.con (.int 4294967296)))
    (.chk (.idx (.app (.lst []) (.r 0)) (.r 3))
    (.brk ⟨[(17, (.con (.int 0))), (16, (.con (.bool true))), (70, (.r 3)), (69, (.r 3)), (68, (.r 4)), (67, (.r 3)), (66, (.con .none)), (15, (.con .none)), (65, (.con .none)), (64, (.r 0)), (63, (.con .none))], [(15, (.setn (.app (.lst []) (.r 0)) (.r 3) 1 (.r 4))), (15, (.app (.lst []) (.r 0))), (63, (.app (.lst []) (.r 0))), (63, (.lst []))]⟩
     lp5_1
    (.call ⟨[(109, (.r 15)), (108, (.r 16)), (107, (.r 16))], []⟩ [(108, true)] 110 16 [(.o 15)]
    (.call ⟨[(114, (.r 1)), (113, (.r 15)), (112, (.pick (.r 108) (.r 110) (.con (.bool false)))), (111, (.pick (.r 108) (.r 110) (.con (.bool false))))], []⟩ [(112, true)] 115 18 [(.o 15), (.r 114)]
    (.ite (.pick (.r 112) (.ci .gtr (.r 115) (.r 14)) (.con (.bool false)))
     (.ret (.con (.bool false)))
     (.next ⟨[(12, (.r 12)), (118, (.pick (.r 112) (.ci .gtr (.r 115) (.r 14)) (.con (.bool false)))), (117, (.ci .gtr (.r 115) (.r 14))), (116, (.r 14))], []⟩)))))))
    (.next ⟨[], []⟩)
   (.chk (.ci .leq (.llen (.app (.lst []) (.r 0))) (.con (.int 4294967296)))
   (.chk (.ci .leq (.llen (.app (.app (.lst []) (.r 0)) (.lst [(.mk [(.cell (.o 11) 0), (.cell (.o 11) 1)])]))) (.con (.int 4294967296)))
   (.call ⟨[(125, (.app (.app (.lst []) (.r 0)) (.lst [(.mk [(.cell (.o 11) 0), (.cell (.o 11) 1)])]))), (20, (.app (.app (.lst []) (.r 0)) (.lst [(.mk [(.cell (.o 11) 0), (.cell (.o 11) 1)])]))), (124, (.con .none)), (123, (.con .none)), (122, (.mk [(.cell (.o 11) 0), (.cell (.o 11) 1)])), (121, (.con .none)), (120, (.r 0)), (119, (.con .none))], [(119, (.app (.app (.lst []) (.r 0)) (.lst [(.mk [(.cell (.o 11) 0), (.cell (.o 11) 1)])]))), (123, (.lst [(.mk [(.cell (.o 11) 0), (.cell (.o 11) 1)])])), (119, (.app (.lst []) (.r 0))), (119, (.lst []))]⟩ [] 126 16 [(.r 125)]
   (.ite (.pick (.nt (.r 126)) (.con (.bool true)) (.ci .gtr (.llen (.cell (.o 11) 1)) (.con (.int 25))))
    (.ret (.r 13))
    (.call ⟨[(136, (.r 1)), (135, (.r 20)), (12, (.r 12)), (133, (.pick (.nt (.r 126)) (.con (.bool true)) (.ci .gtr (.llen (.cell (.o 11) 1)) (.con (.int 25))))), (132, (.ci .gtr (.llen (.cell (.o 11) 1)) (.con (.int 25)))), (131, (.llen (.cell (.o 11) 1))), (130, (.cell (.o 11) 1)), (129, (.con .none)), (128, (.nt (.r 126))), (127, (.nt (.r 126)))], []⟩ [] 137 18 [(.r 135), (.r 136)]
    (.ret (.pick (.pick (.r 13) (.ci .geq (.r 137) (.r 14)) (.con (.bool false))) (.ci .leq (.r 137) (.ai .add .i64 (.r 14) (.cell (.o 11) 0))) (.con (.bool false)))))))))))))))))))
theorem tr5_eq : tree pc5 = tr5 := by kernel_rfl
/-! allonge/allongelaw39.ExposureSteps -/
def bd6_0 : PC :=
 (.seq
  (.seq
   (.is [.setR 57 (.r 10),
     .setR 58 (.r 0),
     .setR 59 (.llen (.r 58)),
     .setR 60 (.ci .lss (.r 57) (.r 59))])
   (.ite (.r 60) [] []
    .skip
    (.exit 0)))
  (.seq
   (.block 1 [8, 9, 63, 64, 65, 66, 67, 68, 69, 70, 71, 72, 73, 74, 75, 76] []
    (.seq
     (.is [.setR 63 (.r 8),
       .setR 64 (.r 0),
       .setR 65 (.r 10),
       .chk (.idx (.r 64) (.r 65)),
       .setR 66 (.ref (.nth (.r 64) (.r 65))),
       .setR 67 (.ref (.cell (.deref (.r 66)) 0)),
       .setR 68 (.deref (.r 67)),
       .setR 69 (.ai .add .i64 (.r 63) (.r 68)),
       .setR 8 (.r 69)])
     (.seq
      (.is [.setR 70 (.r 0),
        .setR 71 (.r 10),
        .chk (.idx (.r 70) (.r 71)),
        .setR 72 (.ref (.nth (.r 70) (.r 71))),
        .setR 73 (.ref (.cell (.deref (.r 72)) 1)),
        .setR 74 (.deref (.r 73)),
        .setR 75 (.llen (.r 74)),
        .setR 76 (.ci .eql (.r 75) (.con (.int 0)))])
      (.ite (.r 76) [9] []
       (.is [.setR 77 (.r 9),
         .setR 78 (.r 0),
         .setR 79 (.r 10),
         .chk (.idx (.r 78) (.r 79)),
         .setR 80 (.ref (.nth (.r 78) (.r 79))),
         .setR 81 (.ref (.cell (.deref (.r 80)) 0)),
         .setR 82 (.deref (.r 81)),
         .setR 83 (.ai .add .i64 (.r 77) (.r 82)),
         .setR 9 (.r 83)])
       .skip))))
   (.is [.setR 61 (.r 10),
     .setR 62 (.ai .add .i64 (.r 61) (.con (.int 1))),
     .setR 10 (.r 62)])))
def lp6_0 : PC := .block 0 [8, 9, 10, 57, 58, 59, 60] [] (.loop [8, 9, 10] [] bd6_0)
def rd6_0 : PT :=
 (.ite (.ci .lss (.r 10) (.llen (.r 0)))
  (.chk (.idx (.r 0) (.r 10))
  (.ite (.ci .eql (.llen (.cell (.nth (.r 0) (.r 10)) 1)) (.con (.int 0)))
   (.next ⟨[(8, (.ai .add .i64 (.r 8) (.cell (.nth (.r 0) (.r 10)) 0))), (9, (.ai .add .i64 (.r 9) (.cell (.nth (.r 0) (.r 10)) 0))), (10, (.ai .add .i64 (.r 10) (.con (.int 1))))], []⟩)
   (.next ⟨[(8, (.ai .add .i64 (.r 8) (.cell (.nth (.r 0) (.r 10)) 0))), (9, (.r 9)), (10, (.ai .add .i64 (.r 10) (.con (.int 1))))], []⟩)))
  (.exit 0 ⟨[(8, (.r 8)), (9, (.r 9)), (10, (.r 10)), (57, (.r 10)), (58, (.r 0)), (59, (.llen (.r 0))), (60, (.ci .lss (.r 10) (.llen (.r 0))))], []⟩))
theorem rd6_0_eq : round 0 [8, 9, 10, 57, 58, 59, 60] [] [8, 9, 10] [] bd6_0 = rd6_0 := by kernel_rfl
def bd6_1 : PC :=
 (.seq
  (.seq
   (.is [.setR 118 (.r 25),
     .setR 119 (.r 23),
     .setR 120 (.llen (.r 119)),
     .setR 121 (.ci .lss (.r 118) (.r 120))])
   (.ite (.r 121) [] []
    .skip
    (.exit 2)))
  (.seq
   (.block 3 [24, 124, 125, 126, 127, 128, 129] []
    (.is [.setR 124 (.r 24),
      .setR 125 (.r 23),
      .setR 126 (.r 25),
      .chk (.idx (.r 125) (.r 126)),
      .setR 127 (.ref (.nth (.r 125) (.r 126))),
      .setR 128 (.deref (.r 127)),
      .setR 129 (.mx (.r 124) (.r 128)),
      .setR 24 (.r 129)]))
   (.is [.setR 122 (.r 25),
     .setR 123 (.ai .add .i64 (.r 122) (.con (.int 1))),
     .setR 25 (.r 123)])))
def lp6_1 : PC := .block 2 [24, 25, 118, 119, 120, 121] [] (.loop [24, 25] [] bd6_1)
def rd6_1 : PT :=
 (.ite (.ci .lss (.r 25) (.llen (.r 23)))
  (.chk (.idx (.r 23) (.r 25))
  (.next ⟨[(24, (.mx (.r 24) (.nth (.r 23) (.r 25)))), (25, (.ai .add .i64 (.r 25) (.con (.int 1))))], []⟩))
  (.exit 2 ⟨[(24, (.r 24)), (25, (.r 25)), (118, (.r 25)), (119, (.r 23)), (120, (.llen (.r 23))), (121, (.ci .lss (.r 25) (.llen (.r 23))))], []⟩))
theorem rd6_1_eq : round 2 [24, 25, 118, 119, 120, 121] [] [24, 25] [] bd6_1 = rd6_1 := by kernel_rfl
def pc6 : PC :=
 (.seq
  (.is [.setR 6 (.con (.bool false))])
  (.seq
   (.is [.call [] 26 11 [],
     .setR 7 (.r 26)])
   (.seq
    (.seq
     (.is [.setR 27 (.r 0),
       .call [] 28 12 [(.r 27)],
       .setR 29 (.nt (.r 28)),
       .setR 30 (.r 29),
       .setR 31 (.r 0),
       .call [(30, false)] 32 16 [(.r 31)],
       .setR 33 (.nt (.r 32)),
       .setR 34 (.pick (.r 30) (.con (.bool true)) (.r 33)),
       .setR 35 (.r 34),
       .setR 36 (.r 1),
       .setR 37 (.ci .lss (.r 36) (.con (.int 1))),
       .setR 38 (.pick (.r 35) (.con (.bool true)) (.r 37)),
       .setR 39 (.r 38),
       .setR 40 (.r 1),
       .setR 41 (.ci .gtr (.r 40) (.con (.int 20))),
       .setR 42 (.pick (.r 39) (.con (.bool true)) (.r 41)),
       .setR 43 (.r 42),
       .setR 44 (.r 2),
       .setR 45 (.ci .lss (.r 44) (.con (.int 0))),
       .setR 46 (.pick (.r 43) (.con (.bool true)) (.r 45)),
       .setR 47 (.r 46),
       .setR 48 (.r 2),
       .setR 49 (.ci .gtr (.r 48) (.con (.int 2))),
       .setR 50 (.pick (.r 47) (.con (.bool true)) (.r 49)),
       .setR 51 (.r 50),
       .setR 52 (.r 2),
       .setR 53 (.r 1),
       .setR 54 (.ci .geq (.r 52) (.r 53)),
       .setR 55 (.pick (.r 51) (.con (.bool true)) (.r 54))])
     (.ite (.r 55) [6] []
      (.seq
       (.is [.setR 56 (.r 7),
         .setR 6 (.r 56)])
       (.ret (.r 6)))
      .skip))
    (.seq
     (.is [.setR 8 (.con (.int 0))])
     (.seq
      (.is [.setR 9 (.con (.int 0))])
      (.seq
       (.seq
        (.is [.setR 10 (.con (.int 0))])
        lp6_0)
       (.seq
        (.is [.setR 85 (.r 0),
          .setR 86 (.r 1),
          .setR 87 (.r 2),
          .call [] 88 13 [(.r 85), (.r 86), (.r 87)],
          .setR 84 (.r 88),
          .setR 89 (.tget (.r 84) 0),
          .setR 90 (.tget (.r 84) 1),
          .setR 91 (.tget (.r 84) 2),
          .setR 11 (.r 89),
          .setR 12 (.r 90),
          .setR 13 (.r 91)])
        (.seq
         (.is [.setR 93 (.r 0),
           .setR 94 (.r 1),
           .setR 95 (.r 2),
           .setR 96 (.ai .add .i64 (.r 95) (.con (.int 1))),
           .call [] 97 13 [(.r 93), (.r 94), (.r 96)],
           .setR 92 (.r 97),
           .setR 98 (.tget (.r 92) 0),
           .setR 99 (.tget (.r 92) 1),
           .setR 100 (.tget (.r 92) 2),
           .setR 14 (.r 98),
           .setR 15 (.r 99),
           .setR 16 (.r 100)])
         (.seq
          (.is [.setR 102 (.r 0),
            .setR 103 (.r 1),
            .call [] 104 13 [(.r 102), (.r 103), (.con (.int 0))],
            .setR 101 (.r 104),
            .setR 105 (.tget (.r 101) 0),
            .setR 106 (.tget (.r 101) 1),
            .setR 107 (.tget (.r 101) 2),
            .setR 17 (.r 105),
            .setR 18 (.r 106),
            .setR 19 (.r 107)])
          (.seq
           (.is [.setR 109 (.r 0),
             .setR 110 (.r 1),
             .call [] 111 13 [(.r 109), (.r 110), (.con (.int 1))],
             .setR 108 (.r 111),
             .setR 112 (.tget (.r 108) 0),
             .setR 113 (.tget (.r 108) 1),
             .setR 114 (.tget (.r 108) 2),
             .setR 20 (.r 112),
             .setR 21 (.r 113),
             .setR 22 (.r 114)])
           (.seq
            (.is [.setR 115 (.r 0),
              .setR 116 (.r 1),
              .call [] 117 20 [(.r 115), (.r 116)],
              .setR 23 (.r 117)])
            (.seq
             (.is [.setR 24 (.con (.int 0))])
             (.seq
              (.seq
               (.is [.setR 25 (.con (.int 0))])
               lp6_1)
              (.seq
               (.seq
                (.is [.setR 130 (.r 13),
                  .setR 131 (.ci .neq (.r 130) (.con (.int 0))),
                  .setR 132 (.r 131),
                  .setR 133 (.r 16),
                  .setR 134 (.ci .neq (.r 133) (.con (.int 0))),
                  .setR 135 (.pick (.r 132) (.con (.bool true)) (.r 134)),
                  .setR 136 (.r 135),
                  .setR 137 (.r 19),
                  .setR 138 (.ci .neq (.r 137) (.con (.int 0))),
                  .setR 139 (.pick (.r 136) (.con (.bool true)) (.r 138)),
                  .setR 140 (.r 139),
                  .setR 141 (.r 22),
                  .setR 142 (.ci .neq (.r 141) (.con (.int 0))),
                  .setR 143 (.pick (.r 140) (.con (.bool true)) (.r 142)),
                  .setR 144 (.r 143),
                  .setR 145 (.r 23),
                  .setR 146 (.llen (.r 145)),
                  .setR 147 (.r 1),
                  .setR 148 (.ci .neq (.r 146) (.r 147)),
                  .setR 149 (.pick (.r 144) (.con (.bool true)) (.r 148))])
                (.ite (.r 149) [6] []
                 (.seq
                  (.is [.setR 6 (.con (.bool false))])
                  (.ret (.r 6)))
                 .skip))
               (.seq
                (.is [.setR 150 (.r 7),
                  .setR 151 (.r 150),
                  .setR 152 (.r 11),
                  .setR 153 (.r 14),
                  .setR 154 (.ci .leq (.r 152) (.r 153)),
                  .setR 155 (.pick (.r 151) (.r 154) (.con (.bool false))),
                  .setR 156 (.r 155),
                  .setR 157 (.r 14),
                  .setR 158 (.r 8),
                  .setR 159 (.ci .leq (.r 157) (.r 158)),
                  .setR 160 (.pick (.r 156) (.r 159) (.con (.bool false))),
                  .setR 161 (.r 160),
                  .setR 162 (.r 17),
                  .setR 163 (.r 9),
                  .setR 164 (.ci .eql (.r 162) (.r 163)),
                  .setR 165 (.pick (.r 161) (.r 164) (.con (.bool false))),
                  .setR 166 (.r 165),
                  .setR 167 (.r 18),
                  .setR 168 (.llen (.r 167)),
                  .setR 169 (.ci .eql (.r 168) (.con (.int 0))),
                  .setR 170 (.pick (.r 166) (.r 169) (.con (.bool false))),
                  .setR 171 (.r 170),
                  .setR 172 (.r 20),
                  .setR 173 (.r 24),
                  .setR 174 (.ci .eql (.r 172) (.r 173)),
                  .setR 175 (.pick (.r 171) (.r 174) (.con (.bool false))),
                  .setR 6 (.r 175)])
                (.ret (.r 6)))))))))))))))))
def tr6 : PT :=
 (.call ⟨[(6, (.con (.bool false)))], []⟩ [] 26 11 []
 (.call ⟨[(27, (.r 0)), (7, (.r 26))], []⟩ [] 28 12 [(.r 27)]
 (.call ⟨[(31, (.r 0)), (30, (.nt (.r 28))), (29, (.nt (.r 28)))], []⟩ [(30, false)] 32 16 [(.r 31)]
 (.ite (.pick (.pick (.pick (.pick (.pick (.pick (.r 30) (.con (.bool true)) (.nt (.r 32))) (.con (.bool true)) (.ci .lss (.r 1) (.con (.int 1)))) (.con (.bool true)) (.ci .gtr (.r 1) (.con (.int 20)))) (.con (.bool true)) (.ci .lss (.r 2) (.con (.int 0)))) (.con (.bool true)) (.ci .gtr (.r 2) (.con (.int 2)))) (.con (.bool true)) (.ci .geq (.r 2) (.r 1)))
  (.ret (.r 7))
  (.brk ⟨[(10, (.con (.int 0))), (9, (.con (.int 0))), (8, (.con (.int 0))), (6, (.r 6)), (55, (.pick (.pick (.pick (.pick (.pick (.pick (.r 30) (.con (.bool true)) (.nt (.r 32))) (.con (.bool true)) (.ci .lss (.r 1) (.con (.int 1)))) (.con (.bool true)) (.ci .gtr (.r 1) (.con (.int 20)))) (.con (.bool true)) (.ci .lss (.r 2) (.con (.int 0)))) (.con (.bool true)) (.ci .gtr (.r 2) (.con (.int 2)))) (.con (.bool true)) (.ci .geq (.r 2) (.r 1)))), (54, (.ci .geq (.r 2) (.r 1))), (53, (.r 1)), (52, (.r 2)), (51, (.pick (.pick (.pick (.pick (.pick (.r 30) (.con (.bool true)) (.nt (.r 32))) (.con (.bool true)) (.ci .lss (.r 1) (.con (.int 1)))) (.con (.bool true)) (.ci .gtr (.r 1) (.con (.int 20)))) (.con (.bool true)) (.ci .lss (.r 2) (.con (.int 0)))) (.con (.bool true)) (.ci .gtr (.r 2) (.con (.int 2))))), (50, (.pick (.pick (.pick (.pick (.pick (.r 30) (.con (.bool true)) (.nt (.r 32))) (.con (.bool true)) (.ci .lss (.r 1) (.con (.int 1)))) (.con (.bool true)) (.ci .gtr (.r 1) (.con (.int 20)))) (.con (.bool true)) (.ci .lss (.r 2) (.con (.int 0)))) (.con (.bool true)) (.ci .gtr (.r 2) (.con (.int 2))))), (49, (.ci .gtr (.r 2) (.con (.int 2)))), (48, (.r 2)), (47, (.pick (.pick (.pick (.pick (.r 30) (.con (.bool true)) (.nt (.r 32))) (.con (.bool true)) (.ci .lss (.r 1) (.con (.int 1)))) (.con (.bool true)) (.ci .gtr (.r 1) (.con (.int 20)))) (.con (.bool true)) (.ci .lss (.r 2) (.con (.int 0))))), (46, (.pick (.pick (.pick (.pick (.r 30) (.con (.bool true)) (.nt (.r 32))) (.con (.bool true)) (.ci .lss (.r 1) (.con (.int 1)))) (.con (.bool true)) (.ci .gtr (.r 1) (.con (.int 20)))) (.con (.bool true)) (.ci .lss (.r 2) (.con (.int 0))))), (45, (.ci .lss (.r 2) (.con (.int 0)))), (44, (.r 2)), (43, (.pick (.pick (.pick (.r 30) (.con (.bool true)) (.nt (.r 32))) (.con (.bool true)) (.ci .lss (.r 1) (.con (.int 1)))) (.con (.bool true)) (.ci .gtr (.r 1) (.con (.int 20))))), (42, (.pick (.pick (.pick (.r 30) (.con (.bool true)) (.nt (.r 32))) (.con (.bool true)) (.ci .lss (.r 1) (.con (.int 1)))) (.con (.bool true)) (.ci .gtr (.r 1) (.con (.int 20))))), (41, (.ci .gtr (.r 1) (.con (.int 20)))), (40, (.r 1)), (39, (.pick (.pick (.r 30) (.con (.bool true)) (.nt (.r 32))) (.con (.bool true)) (.ci .lss (.r 1) (.con (.int 1))))), (38, (.pick (.pick (.r 30) (.con (.bool true)) (.nt (.r 32))) (.con (.bool true)) (.ci .lss (.r 1) (.con (.int 1))))), (37, (.ci .lss (.r 1) (.con (.int 1)))), (36, (.r 1)), (35, (.pick (.r 30) (.con (.bool true)) (.nt (.r 32)))), (34, (.pick (.r 30) (.con (.bool true)) (.nt (.r 32)))), (33, (.nt (.r 32)))], []⟩
   lp6_0
  (.call ⟨[(87, (.r 2)), (86, (.r 1)), (85, (.r 0))], []⟩ [] 88 13 [(.r 85), (.r 86), (.r 87)]
  (.call ⟨[(96, (.ai .add .i64 (.r 2) (.con (.int 1)))), (95, (.r 2)), (94, (.r 1)), (93, (.r 0)), (13, (.tget (.r 88) 2)), (12, (.tget (.r 88) 1)), (11, (.tget (.r 88) 0)), (91, (.tget (.r 88) 2)), (90, (.tget (.r 88) 1)), (89, (.tget (.r 88) 0)), (84, (.r 88))], []⟩ [] 97 13 [(.r 93), (.r 94), (.r 96)]
  (.call ⟨[(103, (.r 1)), (102, (.r 0)), (16, (.tget (.r 97) 2)), (15, (.tget (.r 97) 1)), (14, (.tget (.r 97) 0)), (100, (.tget (.r 97) 2)), (99, (.tget (.r 97) 1)), (98, (.tget (.r 97) 0)), (92, (.r 97))], []⟩ [] 104 13 [(.r 102), (.r 103), (.con (.int 0))]
  (.call ⟨[(110, (.r 1)), (109, (.r 0)), (19, (.tget (.r 104) 2)), (18, (.tget (.r 104) 1)), (17, (.tget (.r 104) 0)), (107, (.tget (.r 104) 2)), (106, (.tget (.r 104) 1)), (105, (.tget (.r 104) 0)), (101, (.r 104))], []⟩ [] 111 13 [(.r 109), (.r 110), (.con (.int 1))]
  (.call ⟨[(116, (.r 1)), (115, (.r 0)), (22, (.tget (.r 111) 2)), (21, (.tget (.r 111) 1)), (20, (.tget (.r 111) 0)), (114, (.tget (.r 111) 2)), (113, (.tget (.r 111) 1)), (112, (.tget (.r 111) 0)), (108, (.r 111))], []⟩ [] 117 20 [(.r 115), (.r 116)]
  (.brk ⟨[(25, (.con (.int 0))), (24, (.con (.int 0))), (23, (.r 117))], []⟩
   lp6_1
  (.ite (.pick (.pick (.pick (.pick (.ci .neq (.r 13) (.con (.int 0))) (.con (.bool true)) (.ci .neq (.r 16) (.con (.int 0)))) (.con (.bool true)) (.ci .neq (.r 19) (.con (.int 0)))) (.con (.bool true)) (.ci .neq (.r 22) (.con (.int 0)))) (.con (.bool true)) (.ci .neq (.llen (.r 23)) (.r 1)))
   (.ret (.con (.bool false)))
   (.ret (.pick (.pick (.pick (.pick (.pick (.r 7) (.ci .leq (.r 11) (.r 14)) (.con (.bool false))) (.ci .leq (.r 14) (.r 8)) (.con (.bool false))) (.ci .eql (.r 17) (.r 9)) (.con (.bool false))) (.ci .eql (.llen (.r 18)) (.con (.int 0))) (.con (.bool false))) (.ci .eql (.r 20) (.r 24)) (.con (.bool false))))))))))))))))
theorem tr6_eq : tree pc6 = tr6 := by kernel_rfl

noncomputable def ctx : Ctx := { P := Try.prog, cap := fun _ => none, sig := lookL sigL, msig := fun _ => none, glob := fun _ => none }
theorem ok3 : compF { ctx with fr := [10, 11, 12, 13, 14, 15, 16, 17], nh := [] } Try.f3 ((lookL sigL 3).getD default) [] = some pc3 := by kernel_rfl
theorem ok11 : compF { ctx with fr := [0, 1, 2, 3, 4, 5, 6, 7, 8, 9, 10], nh := [] } Try.f11 ((lookL sigL 11).getD default) [] = some pc11 := by kernel_rfl
theorem ok40 : compF { ctx with fr := [0], nh := [] } Try.f40 ((lookL sigL 40).getD default) [] = some pc40 := by kernel_rfl
theorem ok13 : compF { ctx with fr := [6, 7, 8, 9, 10, 12, 13, 14, 15], nh := [] } Try.f13 ((lookL sigL 13).getD default) [11] = some pc13 := by kernel_rfl
theorem ok16 : compF { ctx with fr := [2, 5, 6], nh := [] } Try.f16 ((lookL sigL 16).getD default) [4, 8196] = some pc16 := by kernel_rfl
theorem ok41 : compF { ctx with fr := [2], nh := [] } Try.f41 ((lookL sigL 41).getD default) [3, 5, 8197, 16] = some pc41 := by kernel_rfl
theorem ok43 : compF { ctx with fr := [2, 3, 5], nh := [] } Try.f43 ((lookL sigL 43).getD default) [] = some pc43 := by kernel_rfl
theorem ok42 : compF { ctx with fr := [6, 7, 8], nh := [] } Try.f42 ((lookL sigL 42).getD default) [9, 8201] = some pc42 := by kernel_rfl
theorem ok15 : compF { ctx with fr := [4, 5], nh := [] } Try.f15 ((lookL sigL 15).getD default) [] = some pc15 := by kernel_rfl
theorem ok18 : compF { ctx with fr := [4], nh := [] } Try.f18 ((lookL sigL 18).getD default) [] = some pc18 := by kernel_rfl
theorem ok20 : compF { ctx with fr := [4, 6, 7], nh := [] } Try.f20 ((lookL sigL 20).getD default) [5] = some pc20 := by kernel_rfl
theorem ok22 : compF { ctx with fr := [4, 6, 7], nh := [] } Try.f22 ((lookL sigL 22).getD default) [5] = some pc22 := by kernel_rfl
theorem ok12 : compF { ctx with fr := [2, 3], nh := [] } Try.f12 ((lookL sigL 12).getD default) [] = some pc12 := by kernel_rfl
theorem ok14 : compF { ctx with fr := [6, 7, 8, 9, 10, 11, 12, 13], nh := [] } Try.f14 ((lookL sigL 14).getD default) [] = some pc14 := by kernel_rfl
theorem ok17 : compF { ctx with fr := [2, 3, 4, 5], nh := [] } Try.f17 ((lookL sigL 17).getD default) [] = some pc17 := by kernel_rfl
theorem ok24 : compF { ctx with fr := [4, 6], nh := [] } Try.f24 ((lookL sigL 24).getD default) [5] = some pc24 := by kernel_rfl
theorem ok19 : compF { ctx with fr := [4, 5, 6], nh := [] } Try.f19 ((lookL sigL 19).getD default) [] = some pc19 := by kernel_rfl
theorem ok45 : compF { ctx with fr := [4, 5], nh := [] } Try.f45 ((lookL sigL 45).getD default) [2] = some pc45 := by kernel_rfl
theorem ok53 : compF { ctx with fr := [4, 5], nh := [] } Try.f53 ((lookL sigL 53).getD default) [] = some pc53 := by kernel_rfl
theorem ok25 : compF { ctx with fr := [4, 5], nh := [] } Try.f25 ((lookL sigL 25).getD default) [] = some pc25 := by kernel_rfl
theorem ok21 : compF { ctx with fr := [4, 6], nh := [] } Try.f21 ((lookL sigL 21).getD default) [5, 26, 28] = some pc21 := by kernel_rfl
theorem ok23 : compF { ctx with fr := [4, 5, 7], nh := [] } Try.f23 ((lookL sigL 23).getD default) [6] = some pc23 := by kernel_rfl
theorem ok4 : compF { ctx with fr := [8, 9, 10, 11, 12, 13, 14, 15], nh := [] } Try.f4 ((lookL sigL 4).getD default) [] = some pc4 := by kernel_rfl
theorem ok5 : compF { ctx with fr := [12, 13, 14, 16, 17, 18, 19, 20, 21], nh := [] } Try.f5 ((lookL sigL 5).getD default) [11, 15, 119, 123] = some pc5 := by kernel_rfl
theorem ok6 : compF { ctx with fr := [6, 7, 8, 9, 10, 11, 12, 13, 14, 15, 16, 17, 18, 19, 20, 21, 22, 23, 24, 25], nh := [] } Try.f6 ((lookL sigL 6).getD default) [] = some pc6 := by kernel_rfl
def pcL : List (Nat × PC) := [(3, pc3), (11, pc11), (40, pc40), (13, pc13), (16, pc16), (41, pc41), (43, pc43), (42, pc42), (15, pc15), (18, pc18), (20, pc20), (22, pc22), (12, pc12), (14, pc14), (17, pc17), (24, pc24), (19, pc19), (45, pc45), (53, pc53), (25, pc25), (21, pc21), (23, pc23), (4, pc4), (5, pc5), (6, pc6)]
noncomputable def tab : Nat → Option PC := lookL pcL
theorem clos : ClosOK ctx := ⟨(fun f cs h => nomatch h), fun f s h => thereB_ok (l := sigL) (P := Try.prog) (by kernel_rfl) f s h⟩
theorem tabs : ∀ f pc, tab f = some pc → ∃ fn s ids fr nh, ctx.P.funcs[f]? = some fn ∧ ctx.sig f = some s ∧ compF { ctx with fr := fr, nh := nh } fn s ids = some pc :=
  look_all (R := fun f pc => ∃ fn s ids fr nh, ctx.P.funcs[f]? = some fn ∧ ctx.sig f = some s ∧ compF { ctx with fr := fr, nh := nh } fn s ids = some pc) (l := pcL) ⟨
    ⟨Try.f3, _, [], [10, 11, 12, 13, 14, 15, 16, 17], [], Try.func3, rfl, ok3⟩,
    ⟨Try.f11, _, [], [0, 1, 2, 3, 4, 5, 6, 7, 8, 9, 10], [], Try.func11, rfl, ok11⟩,
    ⟨Try.f40, _, [], [0], [], Try.func40, rfl, ok40⟩,
    ⟨Try.f13, _, [11], [6, 7, 8, 9, 10, 12, 13, 14, 15], [], Try.func13, rfl, ok13⟩,
    ⟨Try.f16, _, [4, 8196], [2, 5, 6], [], Try.func16, rfl, ok16⟩,
    ⟨Try.f41, _, [3, 5, 8197, 16], [2], [], Try.func41, rfl, ok41⟩,
    ⟨Try.f43, _, [], [2, 3, 5], [], Try.func43, rfl, ok43⟩,
    ⟨Try.f42, _, [9, 8201], [6, 7, 8], [], Try.func42, rfl, ok42⟩,
    ⟨Try.f15, _, [], [4, 5], [], Try.func15, rfl, ok15⟩,
    ⟨Try.f18, _, [], [4], [], Try.func18, rfl, ok18⟩,
    ⟨Try.f20, _, [5], [4, 6, 7], [], Try.func20, rfl, ok20⟩,
    ⟨Try.f22, _, [5], [4, 6, 7], [], Try.func22, rfl, ok22⟩,
    ⟨Try.f12, _, [], [2, 3], [], Try.func12, rfl, ok12⟩,
    ⟨Try.f14, _, [], [6, 7, 8, 9, 10, 11, 12, 13], [], Try.func14, rfl, ok14⟩,
    ⟨Try.f17, _, [], [2, 3, 4, 5], [], Try.func17, rfl, ok17⟩,
    ⟨Try.f24, _, [5], [4, 6], [], Try.func24, rfl, ok24⟩,
    ⟨Try.f19, _, [], [4, 5, 6], [], Try.func19, rfl, ok19⟩,
    ⟨Try.f45, _, [2], [4, 5], [], Try.func45, rfl, ok45⟩,
    ⟨Try.f53, _, [], [4, 5], [], Try.func53, rfl, ok53⟩,
    ⟨Try.f25, _, [], [4, 5], [], Try.func25, rfl, ok25⟩,
    ⟨Try.f21, _, [5, 26, 28], [4, 6], [], Try.func21, rfl, ok21⟩,
    ⟨Try.f23, _, [6], [4, 5, 7], [], Try.func23, rfl, ok23⟩,
    ⟨Try.f4, _, [], [8, 9, 10, 11, 12, 13, 14, 15], [], Try.func4, rfl, ok4⟩,
    ⟨Try.f5, _, [11, 15, 119, 123], [12, 13, 14, 16, 17, 18, 19, 20, 21], [], Try.func5, rfl, ok5⟩,
    ⟨Try.f6, _, [], [6, 7, 8, 9, 10, 11, 12, 13, 14, 15, 16, 17, 18, 19, 20, 21, 22, 23, 24, 25], [], Try.func6, rfl, ok6⟩, trivial⟩
end Expo
