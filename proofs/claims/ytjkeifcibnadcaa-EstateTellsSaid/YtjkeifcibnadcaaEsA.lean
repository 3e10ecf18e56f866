/-
  The functions of this seat, compiled (1).
-/
import Derived.Test.YtjkeifcibnadcaaCyI
import Derived.KernelRfl
set_option maxRecDepth 100000
namespace Esta
open Go Cx

/-- how each function is called -/
def sigL : List (Nat × Sig) := [
  (7, ⟨[(.slice (.agg [(.int .i64), (.int .i64), (.int .i64)])), (.slice (.int .i64)), (.slice (.agg [(.int .i64), (.int .i64), (.int .i64)])), (.slice (.agg [(.int .i64), (.int .i64)])), (.int .i64)], .bool, .dat⟩),
  (8, ⟨[(.slice (.agg [(.int .i64), (.int .i64), (.int .i64)])), (.slice (.int .i64)), (.slice (.agg [(.int .i64), (.int .i64), (.int .i64)]))], .bool, .dat⟩),
  (9, ⟨[(.slice (.agg [(.int .i64), (.int .i64), (.int .i64)])), (.slice (.int .i64)), (.slice (.agg [(.int .i64), (.int .i64), (.int .i64)]))], .bool, .dat⟩),
  (10, ⟨[(.slice (.agg [(.int .i64), (.int .i64), (.int .i64)])), (.slice (.int .i64)), (.slice (.agg [(.int .i64), (.int .i64), (.int .i64)])), (.int .i64)], .bool, .dat⟩),
  (15, ⟨[(.slice (.int .i64)), (.slice (.int .i64))], .bool, .dat⟩),
  (26, ⟨[], .bool, .dat⟩),
  (27, ⟨[(.slice (.agg [(.int .i64), (.int .i64), (.int .i64)])), (.slice (.int .i64)), (.slice (.agg [(.int .i64), (.int .i64), (.int .i64)]))], .bool, .dat⟩),
  (28, ⟨[(.slice (.agg [(.int .i64), (.int .i64), (.int .i64)])), (.slice (.int .i64)), (.slice (.agg [(.int .i64), (.int .i64), (.int .i64)]))], (.tup [(.slice (.agg [(.int .i64), (.int .i64)])), (.int .i64)]), .dat⟩),
  (29, ⟨[(.slice (.agg [(.int .i64), (.int .i64), (.int .i64)])), (.slice (.int .i64)), (.slice (.agg [(.int .i64), (.int .i64), (.int .i64)]))], (.tup [(.slice (.agg [(.int .i64), (.int .i64)])), (.int .i64)]), .dat⟩),
  (30, ⟨[(.slice (.agg [(.int .i64), (.int .i64)])), (.slice (.agg [(.int .i64), (.int .i64)]))], .bool, .dat⟩),
  (31, ⟨[(.slice (.agg [(.int .i64), (.int .i64), (.int .i64)])), (.slice (.int .i64)), (.slice (.agg [(.int .i64), (.int .i64), (.int .i64)]))], .bool, .dat⟩),
  (32, ⟨[(.slice (.agg [(.int .i64), (.int .i64), (.int .i64)])), (.slice (.int .i64)), (.slice (.agg [(.int .i64), (.int .i64), (.int .i64)]))], .bool, .dat⟩),
  (33, ⟨[(.slice (.agg [(.int .i64), (.int .i64), (.int .i64)])), (.slice (.agg [(.int .i64), (.int .i64)])), (.int .i64)], (.int .i64), .dat⟩),
  (34, ⟨[(.slice (.agg [(.int .i64), (.int .i64), (.int .i64)])), (.slice (.agg [(.int .i64), (.int .i64)])), (.int .i64)], (.int .i64), .dat⟩),
  (35, ⟨[(.slice (.agg [(.int .i64), (.int .i64), (.int .i64)])), (.slice (.agg [(.int .i64), (.int .i64), (.int .i64)])), (.slice (.agg [(.int .i64), (.int .i64)]))], (.slice (.int .i64)), .dat⟩),
  (36, ⟨[(.slice (.agg [(.int .i64), (.int .i64), (.int .i64)])), (.slice (.agg [(.int .i64), (.int .i64), (.int .i64)])), (.slice (.agg [(.int .i64), (.int .i64)]))], (.slice (.int .i64)), .dat⟩),
  (37, ⟨[(.slice (.agg [(.int .i64), (.int .i64), (.int .i64)])), (.slice (.int .i64)), (.slice (.agg [(.int .i64), (.int .i64), (.int .i64)]))], (.tup [(.slice (.int .i64)), .bool]), .dat⟩),
  (38, ⟨[(.slice (.agg [(.int .i64), (.int .i64), (.int .i64)])), (.slice (.int .i64)), (.int .i64)], (.slice (.int .i64)), .dat⟩),
  (39, ⟨[(.slice (.int .i64)), (.slice (.agg [(.int .i64), (.int .i64), (.int .i64)])), (.slice (.int .i64)), (.int .i64)], (.int .i64), .dat⟩),
  (46, ⟨[(.slice (.int .i64)), (.slice (.int .i64)), (.slice (.agg [(.int .i64), (.int .i64), (.int .i64)])), (.slice (.int .i64))], .bool, .dat⟩),
  (47, ⟨[(.int .i64), (.int .i64), (.slice (.int .i64)), (.slice (.agg [(.int .i64), (.int .i64), (.int .i64)])), (.fn [(.int .i64), (.int .i64)] (.tup []))], (.int .i64), (.ob [(.dat (.int .i64)), (.dat (.int .i64)), (.dat (.slice (.int .i64))), (.dat (.slice (.agg [(.int .i64), (.int .i64), (.int .i64)]))), (.fclo 48 [(900, 0), (902, 0), (904, 0)])] [(900, (.box false [(.obj 901 0)])), (901, (.row 69 (.agg [(.int .i64), (.int .i64)]))), (902, (.box false [(.obj 903 0)])), (903, (.row 3 (.int .i64))), (904, (.box false [(.dat (.slice (.agg [(.int .i64), (.int .i64), (.int .i64)])))]))])⟩),
  (48, ⟨[(.int .i64), (.int .i64)], (.tup []), (.ob [(.dat (.int .i64)), (.dat (.int .i64)), (.ptr 900 0 0), (.ptr 902 0 0), (.ptr 904 0 0)] [(900, (.box false [(.obj 901 0)])), (901, (.row 69 (.agg [(.int .i64), (.int .i64)]))), (902, (.box false [(.obj 903 0)])), (903, (.row 3 (.int .i64))), (904, (.box false [(.dat (.slice (.agg [(.int .i64), (.int .i64), (.int .i64)])))]))])⟩),
  (49, ⟨[(.slice (.int .i64)), (.slice (.agg [(.int .i64), (.int .i64), (.int .i64)])), (.slice (.int .i64)), (.int .i64), (.int .i64)], (.slice (.int .i64)), .dat⟩),
  (50, ⟨[(.slice (.int .i64))], (.int .i64), .dat⟩),
  (51, ⟨[(.int .i64), (.int .i64), (.int .i64)], .bool, .dat⟩),
  (52, ⟨[(.int .i64), (.int .i64), (.int .i64)], .bool, .dat⟩),
  (54, ⟨[(.int .i64), (.int .i64), (.int .i64)], (.int .i64), .dat⟩),
  (55, ⟨[(.int .i64), (.int .i64), (.int .i64)], (.int .i64), .dat⟩),
  (56, ⟨[(.int .u64), (.int .u64)], (.tup [(.int .u64), (.int .u64)]), .dat⟩),
  (57, ⟨[(.int .u64), (.int .u64), (.int .u64)], (.tup [(.int .u64), (.int .u64)]), .dat⟩),
  (58, ⟨[(.slice (.int .i64)), (.slice (.int .i64))], (.tup [(.slice (.int .i64)), (.slice (.int .i64))]), .dat⟩),
  (59, ⟨[(.slice (.int .i64)), (.slice (.int .i64))], (.slice (.int .i64)), .dat⟩),
  (60, ⟨[(.int .i64)], (.slice (.int .i64)), .dat⟩),
  (61, ⟨[(.int .u64)], (.int .i64), .dat⟩),
  (62, ⟨[(.slice (.int .i64)), (.slice (.int .i64))], (.slice (.int .i64)), (.row 3 (.int .i64))⟩),
  (63, ⟨[(.slice (.int .i64)), (.slice (.int .i64))], (.int .i64), .dat⟩),
  (64, ⟨[(.slice (.int .i64)), (.slice (.int .i64))], (.slice (.int .i64)), (.row 3 (.int .i64))⟩),
  (65, ⟨[(.int .u64)], (.int .i64), .dat⟩)]
def capL : List (Nat × CSig) := [
]
/-! allonge/allongelaw48.EstateTells -/
def pc7 : PC :=
 (.seq
  (.is [.setR 10 (.con (.bool false))])
  (.seq
   (.is [.call [] 16 26 [],
     .setR 11 (.r 16)])
   (.seq
    (.seq
     (.is [.setR 17 (.r 0),
       .setR 18 (.r 1),
       .setR 19 (.r 2),
       .call [] 20 27 [(.r 17), (.r 18), (.r 19)],
       .setR 21 (.nt (.r 20)),
       .setR 22 (.r 21),
       .setR 23 (.r 3),
       .setR 24 (.llen (.r 23)),
       .setR 25 (.ci .gtr (.r 24) (.con (.int 60))),
       .setR 26 (.pick (.r 22) (.con (.bool true)) (.r 25))])
     (.ite (.r 26) [10] []
      (.seq
       (.is [.setR 27 (.r 11),
         .setR 10 (.r 27)])
       (.ret (.r 10)))
      .skip))
    (.seq
     (.is [.setR 29 (.r 0),
       .setR 30 (.r 1),
       .setR 31 (.r 2),
       .call [] 32 28 [(.r 29), (.r 30), (.r 31)],
       .setR 28 (.r 32),
       .setR 33 (.tget (.r 28) 0),
       .setR 34 (.tget (.r 28) 1),
       .setR 12 (.r 33),
       .setR 13 (.r 34)])
     (.seq
      (.is [.setR 36 (.r 0),
        .setR 37 (.r 1),
        .setR 38 (.r 2),
        .call [] 39 29 [(.r 36), (.r 37), (.r 38)],
        .setR 35 (.r 39),
        .setR 40 (.tget (.r 35) 0),
        .setR 41 (.tget (.r 35) 1),
        .setR 14 (.r 40),
        .setR 15 (.r 41)])
      (.seq
       (.seq
        (.is [.setR 42 (.r 13),
          .setR 43 (.r 15),
          .setR 44 (.ci .neq (.r 42) (.r 43)),
          .setR 45 (.r 44),
          .setR 46 (.r 12),
          .setR 47 (.r 14),
          .call [(45, false)] 48 30 [(.r 46), (.r 47)],
          .setR 49 (.nt (.r 48)),
          .setR 50 (.pick (.r 45) (.con (.bool true)) (.r 49)),
          .setR 51 (.r 50),
          .setR 52 (.r 0),
          .setR 53 (.r 1),
          .setR 54 (.r 2),
          .call [(51, false)] 55 31 [(.r 52), (.r 53), (.r 54)],
          .setR 56 (.r 0),
          .setR 57 (.r 1),
          .setR 58 (.r 2),
          .call [(51, false)] 59 32 [(.r 56), (.r 57), (.r 58)],
          .setR 60 (.cb .neq (.r 55) (.r 59)),
          .setR 61 (.pick (.r 51) (.con (.bool true)) (.r 60))])
        (.ite (.r 61) [10] []
         (.seq
          (.is [.setR 10 (.con (.bool false))])
          (.ret (.r 10)))
         .skip))
       (.seq
        (.is [.setR 62 (.r 11),
          .setR 63 (.r 62),
          .setR 64 (.r 2),
          .setR 65 (.r 3),
          .setR 66 (.r 4),
          .call [(63, true)] 67 33 [(.r 64), (.r 65), (.r 66)],
          .setR 68 (.r 2),
          .setR 69 (.r 3),
          .setR 70 (.r 4),
          .call [(63, true)] 71 34 [(.r 68), (.r 69), (.r 70)],
          .setR 72 (.ci .eql (.r 67) (.r 71)),
          .setR 73 (.pick (.r 63) (.r 72) (.con (.bool false))),
          .setR 74 (.r 73),
          .setR 75 (.r 0),
          .setR 76 (.r 2),
          .setR 77 (.r 3),
          .call [(74, true)] 78 35 [(.r 75), (.r 76), (.r 77)],
          .setR 79 (.r 0),
          .setR 80 (.r 2),
          .setR 81 (.r 3),
          .call [(74, true)] 82 36 [(.r 79), (.r 80), (.r 81)],
          .call [(74, true)] 83 15 [(.r 78), (.r 82)],
          .setR 84 (.pick (.r 74) (.r 83) (.con (.bool false))),
          .setR 10 (.r 84)])
        (.ret (.r 10)))))))))
def tr7 : PT :=
 (.call ⟨[(10, (.con (.bool false)))], []⟩ [] 16 26 []
 (.call ⟨[(19, (.r 2)), (18, (.r 1)), (17, (.r 0)), (11, (.r 16))], []⟩ [] 20 27 [(.r 17), (.r 18), (.r 19)]
 (.ite (.pick (.nt (.r 20)) (.con (.bool true)) (.ci .gtr (.llen (.r 3)) (.con (.int 60))))
  (.ret (.r 11))
  (.call ⟨[(31, (.r 2)), (30, (.r 1)), (29, (.r 0)), (10, (.r 10)), (26, (.pick (.nt (.r 20)) (.con (.bool true)) (.ci .gtr (.llen (.r 3)) (.con (.int 60))))), (25, (.ci .gtr (.llen (.r 3)) (.con (.int 60)))), (24, (.llen (.r 3))), (23, (.r 3)), (22, (.nt (.r 20))), (21, (.nt (.r 20)))], []⟩ [] 32 28 [(.r 29), (.r 30), (.r 31)]
  (.call ⟨[(38, (.r 2)), (37, (.r 1)), (36, (.r 0)), (13, (.tget (.r 32) 1)), (12, (.tget (.r 32) 0)), (34, (.tget (.r 32) 1)), (33, (.tget (.r 32) 0)), (28, (.r 32))], []⟩ [] 39 29 [(.r 36), (.r 37), (.r 38)]
  (.call ⟨[(47, (.tget (.r 39) 0)), (46, (.r 12)), (45, (.ci .neq (.r 13) (.tget (.r 39) 1))), (44, (.ci .neq (.r 13) (.tget (.r 39) 1))), (43, (.tget (.r 39) 1)), (42, (.r 13)), (15, (.tget (.r 39) 1)), (14, (.tget (.r 39) 0)), (41, (.tget (.r 39) 1)), (40, (.tget (.r 39) 0)), (35, (.r 39))], []⟩ [(45, false)] 48 30 [(.r 46), (.r 47)]
  (.call ⟨[(54, (.r 2)), (53, (.r 1)), (52, (.r 0)), (51, (.pick (.r 45) (.con (.bool true)) (.nt (.r 48)))), (50, (.pick (.r 45) (.con (.bool true)) (.nt (.r 48)))), (49, (.nt (.r 48)))], []⟩ [(51, false)] 55 31 [(.r 52), (.r 53), (.r 54)]
  (.call ⟨[(58, (.r 2)), (57, (.r 1)), (56, (.r 0))], []⟩ [(51, false)] 59 32 [(.r 56), (.r 57), (.r 58)]
  (.ite (.pick (.r 51) (.con (.bool true)) (.cb .neq (.r 55) (.r 59)))
   (.ret (.con (.bool false)))
   (.call ⟨[(66, (.r 4)), (65, (.r 3)), (64, (.r 2)), (63, (.r 11)), (62, (.r 11)), (10, (.r 10)), (61, (.pick (.r 51) (.con (.bool true)) (.cb .neq (.r 55) (.r 59)))), (60, (.cb .neq (.r 55) (.r 59)))], []⟩ [(63, true)] 67 33 [(.r 64), (.r 65), (.r 66)]
   (.call ⟨[(70, (.r 4)), (69, (.r 3)), (68, (.r 2))], []⟩ [(63, true)] 71 34 [(.r 68), (.r 69), (.r 70)]
   (.call ⟨[(77, (.r 3)), (76, (.r 2)), (75, (.r 0)), (74, (.pick (.r 63) (.ci .eql (.r 67) (.r 71)) (.con (.bool false)))), (73, (.pick (.r 63) (.ci .eql (.r 67) (.r 71)) (.con (.bool false)))), (72, (.ci .eql (.r 67) (.r 71)))], []⟩ [(74, true)] 78 35 [(.r 75), (.r 76), (.r 77)]
   (.call ⟨[(81, (.r 3)), (80, (.r 2)), (79, (.r 0))], []⟩ [(74, true)] 82 36 [(.r 79), (.r 80), (.r 81)]
   (.call ⟨[], []⟩ [(74, true)] 83 15 [(.r 78), (.r 82)]
   (.ret (.pick (.r 74) (.r 83) (.con (.bool false))))))))))))))))))
theorem tr7_eq : tree pc7 = tr7 := by kernel_rfl
/-! allonge/allongelaw48.sane -/
def pc26 : PC :=
 (.seq
  (.is [.setR 0 (.con (.bool false))])
  (.seq
   (.is [.setO 8 (.lst [(.con (.int 50))]),
     .setR 8 (.con .none),
     .setO 9 (.lst [(.con (.int 100)), (.con (.int 100))]),
     .setR 9 (.con .none),
     .setR 10 (.mk [(.con (.int 0)), (.con (.int 0)), (.con (.int 100))]),
     .setR 11 (.mk [(.con (.int 1)), (.con (.int 0)), (.con (.int 100))]),
     .setO 12 (.lst [(.r 10), (.r 11)]),
     .setR 12 (.con .none),
     .setO 13 (.lst [(.con (.int 25)), (.con (.int 25))]),
     .setR 13 (.con .none),
     .call [] 14 46 [(.o 8), (.o 9), (.o 12), (.o 13)],
     .setR 1 (.r 14)])
   (.seq
    (.is [.setO 15 (.lst [(.con (.int 50)), (.con (.int 80))]),
      .setR 15 (.con .none),
      .setO 16 (.lst [(.con (.int 100))]),
      .setR 16 (.con .none),
      .setR 17 (.mk [(.con (.int 0)), (.con (.int 0)), (.con (.int 100))]),
      .setR 18 (.mk [(.con (.int 0)), (.con (.int 1)), (.con (.int 100))]),
      .setO 19 (.lst [(.r 17), (.r 18)]),
      .setR 19 (.con .none),
      .setO 20 (.lst [(.con (.int 50)), (.con (.int 50))]),
      .setR 20 (.con .none),
      .call [] 21 46 [(.o 15), (.o 16), (.o 19), (.o 20)],
      .setR 2 (.r 21)])
    (.seq
     (.is [.setO 22 (.lst [(.con (.int 10))]),
       .setR 22 (.con .none),
       .setO 23 (.lst [(.con (.int 7)), (.con (.int 7)), (.con (.int 7))]),
       .setR 23 (.con .none),
       .setR 24 (.mk [(.con (.int 0)), (.con (.int 0)), (.con (.int 7))]),
       .setR 25 (.mk [(.con (.int 1)), (.con (.int 0)), (.con (.int 7))]),
       .setR 26 (.mk [(.con (.int 2)), (.con (.int 0)), (.con (.int 7))]),
       .setO 27 (.lst [(.r 24), (.r 25), (.r 26)]),
       .setR 27 (.con .none),
       .setO 28 (.lst [(.con (.int 3)), (.con (.int 3)), (.con (.int 3))]),
       .setR 28 (.con .none),
       .call [] 29 46 [(.o 22), (.o 23), (.o 27), (.o 28)],
       .setR 3 (.r 29)])
     (.seq
      (.is [.setO 30 (.lst [(.con (.int 90)), (.con (.int 60))]),
        .setR 30 (.con .none),
        .setO 31 (.lst [(.con (.int 100)), (.con (.int 20))]),
        .setR 31 (.con .none),
        .setR 32 (.mk [(.con (.int 0)), (.con (.int 0)), (.con (.int 100))]),
        .setR 33 (.mk [(.con (.int 0)), (.con (.int 1)), (.con (.int 100))]),
        .setR 34 (.mk [(.con (.int 1)), (.con (.int 1)), (.con (.int 20))]),
        .setO 35 (.lst [(.r 32), (.r 33), (.r 34)]),
        .setR 35 (.con .none),
        .setO 36 (.lst [(.con (.int 90)), (.con (.int 10)), (.con (.int 20))]),
        .setR 36 (.con .none),
        .call [] 37 46 [(.o 30), (.o 31), (.o 35), (.o 36)],
        .setR 4 (.r 37)])
      (.seq
       (.is [.setO 39 (.lst [(.con (.int 5))]),
         .setR 39 (.con .none),
         .setR 40 (.mk [(.con (.int 0)), (.con (.int 0)), (.con (.int 5))]),
         .setO 41 (.lst [(.r 40)]),
         .setR 41 (.con .none),
         .call [] 42 28 [(.con (.list [])), (.o 39), (.o 41)],
         .setR 38 (.r 42),
         .setR 43 (.tget (.r 38) 0),
         .setR 44 (.tget (.r 38) 1),
         .setR 5 (.r 43),
         .setR 6 (.r 44)])
       (.seq
        (.is [.setR 45 (.mk [(.con (.int 0)), (.con (.int 0)), (.con (.int 10))]),
          .setO 46 (.lst [(.r 45)]),
          .setR 46 (.con .none),
          .setR 47 (.mk [(.con (.int 0)), (.con (.int 0)), (.con (.int 7))]),
          .setO 48 (.lst [(.r 47)]),
          .setR 48 (.con .none),
          .setR 49 (.mk [(.con (.int 0)), (.con (.int 3))]),
          .setR 50 (.mk [(.con (.int 1)), (.con (.int 5))]),
          .setO 51 (.lst [(.r 49), (.r 50)]),
          .setR 51 (.con .none),
          .call [] 52 35 [(.o 46), (.o 48), (.o 51)],
          .setR 7 (.r 52)])
        (.seq
         (.is [.setR 53 (.r 1),
           .setR 54 (.r 53),
           .setR 55 (.r 2),
           .setR 56 (.pick (.r 54) (.r 55) (.con (.bool false))),
           .setR 57 (.r 56),
           .setR 58 (.r 3),
           .setR 59 (.pick (.r 57) (.r 58) (.con (.bool false))),
           .setR 60 (.r 59),
           .setR 61 (.r 4),
           .setR 62 (.pick (.r 60) (.r 61) (.con (.bool false))),
           .setR 63 (.r 62),
           .setR 64 (.r 6),
           .setR 65 (.ci .eql (.r 64) (.con (.int 1))),
           .setR 66 (.pick (.r 63) (.r 65) (.con (.bool false))),
           .setR 67 (.r 66),
           .setR 68 (.r 7),
           .setR 69 (.lst [(.con (.int 7))]),
           .call [(67, true)] 70 15 [(.r 68), (.r 69)],
           .setR 71 (.pick (.r 67) (.r 70) (.con (.bool false))),
           .setR 72 (.r 71),
           .setR 73 (.mk [(.con (.int 0)), (.con (.int 0)), (.con (.int 7))]),
           .setR 74 (.lst [(.r 73)]),
           .setR 75 (.mk [(.con (.int 0)), (.con (.int 3))]),
           .setR 76 (.lst [(.r 75)]),
           .call [(72, true)] 77 33 [(.r 74), (.r 76), (.con (.int 0))],
           .setR 78 (.ci .eql (.r 77) (.con (.int 3))),
           .setR 79 (.pick (.r 72) (.r 78) (.con (.bool false))),
           .setR 80 (.r 79),
           .call [(80, true)] 81 31 [(.con (.list [])), (.con (.list [])), (.con (.list []))],
           .setR 82 (.pick (.r 80) (.r 81) (.con (.bool false))),
           .setR 0 (.r 82)])
         (.ret (.r 0))))))))))
/-! allonge/allongelaw48.says -/
def bd46_0 : PC :=
 (.seq
  (.seq
   (.is [.setR 14 (.r 10),
     .setR 15 (.r 0),
     .setR 16 (.llen (.r 15)),
     .setR 17 (.ci .lss (.r 14) (.r 16))])
   (.ite (.r 17) [] []
    .skip
    (.exit 0)))
  (.seq
   (.block 1 [9, 21, 22, 23, 24, 25, 26, 27] [9, 26]
    (.is [.setR 20 (.r 9),
      .setR 21 (.r 0),
      .setR 22 (.r 10),
      .chk (.idx (.r 21) (.r 22)),
      .setR 23 (.ref (.nth (.r 21) (.r 22))),
      .setR 24 (.deref (.r 23)),
      .setR 25 (.mk [(.con (.int 0)), (.con (.int 0)), (.r 24)]),
      .setO 26 (.lst [(.r 25)]),
      .setR 26 (.con .none),
      .chk (.ci .leq (.llen (.app (.o 9) (.o 26))) (.con (.int 4294967296))),
      .setO 9 (.app (.o 9) (.o 26)),
      .setR 27 (.con .none),
      .setR 9 (.r 27)]))
   (.is [.setR 18 (.r 10),
     .setR 19 (.ai .add .i64 (.r 18) (.con (.int 1))),
     .setR 10 (.r 19)])))
def lp46_0 : PC := .block 0 [9, 10, 14, 15, 16, 17] [9] (.loop [9, 10] [9] bd46_0)
def bd46_1 : PC :=
 (.seq
  (.seq
   (.is [.setR 44 (.r 13),
     .setR 45 (.r 11),
     .setR 46 (.llen (.r 45)),
     .setR 47 (.ci .lss (.r 44) (.r 46))])
   (.ite (.r 47) [] []
    .skip
    (.exit 2)))
  (.seq
   (.block 3 [8, 50, 51, 52, 53, 54, 55, 56, 57, 58, 59, 60] []
    (.seq
     (.is [.setR 50 (.r 11),
       .setR 51 (.r 13),
       .chk (.idx (.r 50) (.r 51)),
       .setR 52 (.ref (.nth (.r 50) (.r 51))),
       .setR 53 (.deref (.r 52)),
       .setR 54 (.r 13),
       .setR 55 (.r 3),
       .setR 56 (.r 13),
       .chk (.idx (.r 55) (.r 56)),
       .setR 57 (.ref (.nth (.r 55) (.r 56))),
       .setR 58 (.deref (.r 57)),
       .setR 59 (.mk [(.r 54), (.r 58)]),
       .setR 60 (.nt (.an (.ci .eql (.cell (.r 53) 0) (.cell (.r 59) 0)) (.an (.ci .eql (.cell (.r 53) 1) (.cell (.r 59) 1)) (.con (.bool true)))))])
     (.ite (.r 60) [8] []
      (.seq
       (.is [.setR 8 (.con (.bool false))])
       (.ret (.r 8)))
      .skip)))
   (.is [.setR 48 (.r 13),
     .setR 49 (.ai .add .i64 (.r 48) (.con (.int 1))),
     .setR 13 (.r 49)])))
def lp46_1 : PC := .block 2 [8, 13, 44, 45, 46, 47] [] (.loop [8, 13] [] bd46_1)
def pc46 : PC :=
 (.seq
  (.is [.setR 8 (.con (.bool false))])
  (.seq
   (.is [.setO 9 (.con (.list [])),
     .setR 9 (.con .none)])
   (.seq
    (.seq
     (.is [.setR 10 (.con (.int 0))])
     lp46_0)
    (.seq
     (.is [.setR 29 (.r 9),
       .setR 30 (.r 1),
       .setR 31 (.r 2),
       .call [] 32 28 [(.o 9), (.r 30), (.r 31)],
       .setR 28 (.r 32),
       .setR 33 (.tget (.r 28) 0),
       .setR 34 (.tget (.r 28) 1),
       .setR 11 (.r 33),
       .setR 12 (.r 34)])
     (.seq
      (.seq
       (.is [.setR 35 (.r 12),
         .setR 36 (.ci .neq (.r 35) (.con (.int 0))),
         .setR 37 (.r 36),
         .setR 38 (.r 11),
         .setR 39 (.llen (.r 38)),
         .setR 40 (.r 3),
         .setR 41 (.llen (.r 40)),
         .setR 42 (.ci .neq (.r 39) (.r 41)),
         .setR 43 (.pick (.r 37) (.con (.bool true)) (.r 42))])
       (.ite (.r 43) [8] []
        (.seq
         (.is [.setR 8 (.con (.bool false))])
         (.ret (.r 8)))
        .skip))
      (.seq
       (.seq
        (.is [.setR 13 (.con (.int 0))])
        lp46_1)
       (.seq
        (.is [.setR 8 (.con (.bool true))])
        (.ret (.r 8)))))))))
/-! allonge/estate.Share -/
def bd28_0 : PC :=
 (.seq
  (.is [.setR 26 (.ci .lss (.r 25) (.r 24))])
  (.seq
   (.ite (.r 26) [] []
    .skip
    (.exit 0))
   (.seq
    (.block 1 [9, 27, 29, 30, 31, 32] [8, 4104, 31]
     (.seq
      (.is [.setR 27 (.r 25),
        .setR 9 (.r 27)])
      (.is [.setR 28 (.con .none),
        .setR 29 (.r 9),
        .setR 30 (.mk [(.r 29), (.con (.int 0))]),
        .setO 31 (.lst [(.r 30)]),
        .setR 31 (.con .none),
        .chk (.ci .leq (.llen (.app (.o 4104) (.o 31))) (.con (.int 4294967296))),
        .setO 4104 (.app (.o 4104) (.o 31)),
        .setR 32 (.con .none),
        .setO 8 (.setc (.o 8) 0 (.con .none))])))
    (.is [.setR 33 (.ai .add .i64 (.r 25) (.con (.int 1))),
      .setR 25 (.r 33)]))))
def lp28_0 : PC := .block 0 [25, 26] [4104, 8] (.loop [25] [4104, 8] bd28_0)
def rd28_0 : PT :=
 (.ite (.ci .lss (.r 25) (.r 24))
  (.chk (.ci .leq (.llen (.app (.o 4104) (.lst [(.mk [(.r 25), (.con (.int 0))])]))) (.con (.int 4294967296)))
  (.next ⟨[(25, (.ai .add .i64 (.r 25) (.con (.int 1))))], [(4104, (.app (.o 4104) (.lst [(.mk [(.r 25), (.con (.int 0))])]))), (8, (.setc (.o 8) 0 (.con .none)))]⟩))
  (.exit 0 ⟨[(25, (.r 25)), (26, (.ci .lss (.r 25) (.r 24)))], [(4104, (.o 4104)), (8, (.o 8))]⟩))
theorem rd28_0_eq : round 0 [25, 26] [4104, 8] [25] [4104, 8] bd28_0 = rd28_0 := by kernel_rfl
def bd28_1 : PC :=
 (.seq
  (.is [.setR 52 (.ci .lss (.r 51) (.r 50))])
  (.seq
   (.ite (.r 52) [] []
    .skip
    (.exit 6))
   (.seq
    (.block 7 [15, 16, 53, 54, 55, 56, 57, 58, 59, 60, 61, 62, 63, 64, 65, 66, 67, 68, 69, 70, 71, 72, 73, 74, 75, 76, 77, 78] [16, 14]
     (.seq
      (.is [.setR 53 (.r 51),
        .chk (.idx (.r 49) (.r 51)),
        .setR 54 (.ref (.nth (.r 49) (.r 51))),
        .setR 55 (.deref (.r 54)),
        .setO 16 (.con (.agg [(.int 0), (.int 0), (.int 0)])),
        .setR 16 (.con .none),
        .setR 15 (.r 53),
        .setO 16 (.setc (.o 16) 0 (.r 55))])
      (.is [.setR 56 (.r 14),
        .setR 57 (.r 15),
        .setR 58 (.con .none),
        .setR 59 (.cell (.o 16) 2),
        .setR 60 (.con .none),
        .setR 61 (.r 15),
        .chk (.idx (.o 4104) (.r 61)),
        .setR 62 (.r 61),
        .setR 63 (.r 62),
        .setR 64 (.cell (.nth (.o 4104) (.r 63)) 1),
        .setR 65 (.ai .sub .i64 (.r 59) (.r 64)),
        .setR 66 (.r 1),
        .setR 67 (.con .none),
        .setR 68 (.cell (.o 16) 0),
        .chk (.idx (.r 66) (.r 68)),
        .setR 69 (.ref (.nth (.r 66) (.r 68))),
        .setR 70 (.deref (.r 69)),
        .setR 71 (.con .none),
        .setR 72 (.con .none),
        .setR 73 (.cell (.o 16) 0),
        .chk (.idx (.o 4106) (.r 73)),
        .setR 74 (.r 73),
        .setR 75 (.nth (.o 4106) (.r 74)),
        .setR 76 (.ai .sub .i64 (.r 70) (.r 75)),
        .setR 77 (.mn (.r 65) (.r 76)),
        .chk (.idx (.o 14) (.r 57)),
        .setR 78 (.r 57),
        .setO 14 (.setn (.o 14) (.r 78) 0 (.r 77))])))
    (.is [.setR 79 (.ai .add .i64 (.r 51) (.con (.int 1))),
      .setR 51 (.r 79)]))))
def lp28_1 : PC := .block 6 [51, 52] [14] (.loop [51] [14] bd28_1)
def rd28_1 : PT :=
 (.ite (.ci .lss (.r 51) (.r 50))
  (.chk (.idx (.r 49) (.r 51))
  (.chk (.idx (.o 4104) (.r 51))
  (.chk (.idx (.r 1) (.cell (.setc (.con (.agg [(.int 0), (.int 0), (.int 0)])) 0 (.nth (.r 49) (.r 51))) 0))
  (.chk (.idx (.o 4106) (.cell (.setc (.con (.agg [(.int 0), (.int 0), (.int 0)])) 0 (.nth (.r 49) (.r 51))) 0))
  (.chk (.idx (.o 14) (.r 51))
  (.next ⟨[(51, (.ai .add .i64 (.r 51) (.con (.int 1))))], [(14, (.setn (.o 14) (.r 51) 0 (.mn (.ai .sub .i64 (.cell (.setc (.con (.agg [(.int 0), (.int 0), (.int 0)])) 0 (.nth (.r 49) (.r 51))) 2) (.cell (.nth (.o 4104) (.r 51)) 1)) (.ai .sub .i64 (.nth (.r 1) (.cell (.setc (.con (.agg [(.int 0), (.int 0), (.int 0)])) 0 (.nth (.r 49) (.r 51))) 0)) (.nth (.o 4106) (.cell (.setc (.con (.agg [(.int 0), (.int 0), (.int 0)])) 0 (.nth (.r 49) (.r 51))) 0))))))]⟩))))))
  (.exit 6 ⟨[(51, (.r 51)), (52, (.ci .lss (.r 51) (.r 50)))], [(14, (.o 14))]⟩))
theorem rd28_1_eq : round 6 [51, 52] [14] [51] [14] bd28_1 = rd28_1 := by kernel_rfl
def bd28_2 : PC :=
 (.block 5 [13, 14, 17, 46, 47, 49, 50, 51, 52, 80, 81, 82, 83, 84, 85, 86, 87, 88, 89, 90] [14, 8, 4104, 10, 4106, 5]
  (.seq
   (.is [.setR 46 (.cell (.o 5) 0),
     .setR 47 (.llen (.r 46)),
     .chk (.an (.ci .geq (.r 47) (.con (.int 0))) (.ci .leq (.r 47) (.con (.int 4294967296)))),
     .chk (.ci .eql (.r 47) (.r 47)),
     .setO 48 (.rep (.r 47) (.con (.int 0))),
     .setR 48 (.con .none),
     .setR 14 (.r 48),
     .setO 14 (.o 48)])
   (.seq
    (.seq
     (.is [.setR 49 (.cell (.o 5) 0),
       .setR 50 (.llen (.r 49)),
       .setR 51 (.con (.int 0))])
     lp28_1)
    (.seq
     (.is [.setR 80 (.r 11),
       .setR 81 (.r 13),
       .setR 82 (.r 14),
       .setR 83 (.cell (.o 5) 0),
       .setR 84 (.con .none),
       .mcall 1000000013 47 [(.r 80), (.r 81), (.o 14), (.r 83), (.con .none), (.o 8), (.o 4104), (.o 10), (.o 4106), (.o 5)],
       .setO 8 (.tget (.o 1000000013) 1),
       .setO 4104 (.tget (.o 1000000013) 2),
       .setO 10 (.tget (.o 1000000013) 3),
       .setO 4106 (.tget (.o 1000000013) 4),
       .setO 5 (.tget (.o 1000000013) 5),
       .setR 85 (.tget (.o 1000000013) 0),
       .setR 17 (.r 85)])
     (.seq
      (.seq
       (.is [.setR 86 (.r 17),
         .setR 87 (.ci .eql (.r 86) (.con (.int 0)))])
       (.ite (.r 87) [] []
        (.exit 4)
        .skip))
      (.is [.setR 88 (.r 13),
        .setR 89 (.r 17),
        .setR 90 (.ai .sub .i64 (.r 88) (.r 89)),
        .setR 13 (.r 90)]))))))
def lp28_2 : PC := .block 4 [13, 14, 17, 46, 47, 49, 50, 51, 52, 80, 81, 82, 83, 84, 85, 86, 87] [14, 8, 4104, 10, 4106, 5] (.loop [13] [8, 4104, 10, 4106, 5] bd28_2)
def rd28_2 : PT :=
 (.blockS ⟨[], []⟩ 5 [13, 14, 17, 46, 47, 49, 50, 51, 52, 80, 81, 82, 83, 84, 85, 86, 87, 88, 89, 90] [14, 8, 4104, 10, 4106, 5]
  (.chk (.an (.ci .geq (.llen (.cell (.o 5) 0)) (.con (.int 0))) (.ci .leq (.llen (.cell (.o 5) 0)) (.con (.int 4294967296))))
  (.chk (.ci .eql (.llen (.cell (.o 5) 0)) (.llen (.cell (.o 5) 0)))
  (.brk ⟨[(51, (.con (.int 0))), (50, (.llen (.cell (.o 5) 0))), (49, (.cell (.o 5) 0)), (14, (.con .none)), (48, (.con .none)), (47, (.llen (.cell (.o 5) 0))), (46, (.cell (.o 5) 0))], [(14, (.rep (.llen (.cell (.o 5) 0)) (.con (.int 0)))), (48, (.rep (.llen (.cell (.o 5) 0)) (.con (.int 0))))]⟩
   lp28_1
  (.mcall ⟨[(84, (.con .none)), (83, (.cell (.o 5) 0)), (82, (.r 14)), (81, (.r 13)), (80, (.r 11))], []⟩ 1000000013 47 [(.r 80), (.r 81), (.o 14), (.r 83), (.con .none), (.o 8), (.o 4104), (.o 10), (.o 4106), (.o 5)]
  (.ite (.ci .eql (.tget (.o 1000000013) 0) (.con (.int 0)))
   (.exit 4 ⟨[(87, (.ci .eql (.tget (.o 1000000013) 0) (.con (.int 0)))), (86, (.tget (.o 1000000013) 0)), (17, (.tget (.o 1000000013) 0)), (85, (.tget (.o 1000000013) 0))], [(5, (.tget (.o 1000000013) 5)), (4106, (.tget (.o 1000000013) 4)), (10, (.tget (.o 1000000013) 3)), (4104, (.tget (.o 1000000013) 2)), (8, (.tget (.o 1000000013) 1))]⟩)
   (.next ⟨[(13, (.ai .sub .i64 (.r 13) (.tget (.o 1000000013) 0))), (90, (.ai .sub .i64 (.r 13) (.tget (.o 1000000013) 0))), (89, (.tget (.o 1000000013) 0)), (88, (.r 13)), (87, (.ci .eql (.tget (.o 1000000013) 0) (.con (.int 0)))), (86, (.tget (.o 1000000013) 0)), (17, (.tget (.o 1000000013) 0)), (85, (.tget (.o 1000000013) 0))], [(5, (.tget (.o 1000000013) 5)), (4106, (.tget (.o 1000000013) 4)), (10, (.tget (.o 1000000013) 3)), (4104, (.tget (.o 1000000013) 2)), (8, (.tget (.o 1000000013) 1))]⟩))))))
 (.next ⟨[(13, (.r 13))], [(8, (.o 8)), (4104, (.o 4104)), (10, (.o 10)), (4106, (.o 4106)), (5, (.o 5))]⟩))
theorem rd28_2_eq : round 4 [13, 14, 17, 46, 47, 49, 50, 51, 52, 80, 81, 82, 83, 84, 85, 86, 87] [14, 8, 4104, 10, 4106, 5] [13] [8, 4104, 10, 4106, 5] bd28_2 = rd28_2 := by kernel_rfl
def bd28_3 : PC :=
 (.seq
  (.is [.setR 40 (.ci .lss (.r 39) (.r 38))])
  (.seq
   (.ite (.r 40) [] []
    .skip
    (.exit 2))
   (.seq
    (.block 3 [11, 12, 13, 14, 17, 41, 42, 43, 44, 45, 46, 47, 49, 50, 51, 52, 80, 81, 82, 83, 84, 85, 86, 87] [12, 14, 8, 4104, 10, 4106, 5]
     (.seq
      (.is [.setR 41 (.r 39),
        .chk (.idx (.r 37) (.r 39)),
        .setR 42 (.ref (.nth (.r 37) (.r 39))),
        .setR 43 (.deref (.r 42)),
        .setO 12 (.con (.agg [(.int 0), (.int 0), (.int 0)])),
        .setR 12 (.con .none),
        .setR 11 (.r 41),
        .setO 12 (.setc (.o 12) 0 (.r 43))])
      (.seq
       (.is [.setR 44 (.con .none),
         .setR 45 (.cell (.o 12) 2),
         .setR 13 (.r 45)])
       lp28_2)))
    (.is [.setR 91 (.ai .add .i64 (.r 39) (.con (.int 1))),
      .setR 39 (.r 91)]))))
def lp28_3 : PC := .block 2 [39, 40] [5, 4106, 10, 4104, 8] (.loop [39] [5, 4106, 10, 4104, 8] bd28_3)
def rd28_3 : PT :=
 (.ite (.ci .lss (.r 39) (.r 38))
  (.blockS ⟨[(40, (.ci .lss (.r 39) (.r 38)))], []⟩ 3 [11, 12, 13, 14, 17, 41, 42, 43, 44, 45, 46, 47, 49, 50, 51, 52, 80, 81, 82, 83, 84, 85, 86, 87] [12, 14, 8, 4104, 10, 4106, 5]
   (.chk (.idx (.r 37) (.r 39))
   (.brk ⟨[(13, (.cell (.setc (.con (.agg [(.int 0), (.int 0), (.int 0)])) 0 (.nth (.r 37) (.r 39))) 2)), (45, (.cell (.setc (.con (.agg [(.int 0), (.int 0), (.int 0)])) 0 (.nth (.r 37) (.r 39))) 2)), (44, (.con .none)), (11, (.r 39)), (12, (.con .none)), (43, (.nth (.r 37) (.r 39))), (42, (.ref (.nth (.r 37) (.r 39)))), (41, (.r 39))], [(12, (.setc (.con (.agg [(.int 0), (.int 0), (.int 0)])) 0 (.nth (.r 37) (.r 39)))), (12, (.con (.agg [(.int 0), (.int 0), (.int 0)])))]⟩
    lp28_2
   (.next ⟨[], []⟩)))
  (.next ⟨[(39, (.ai .add .i64 (.r 39) (.con (.int 1))))], [(5, (.o 5)), (4106, (.o 4106)), (10, (.o 10)), (4104, (.o 4104)), (8, (.o 8))]⟩))
  (.exit 2 ⟨[(39, (.r 39)), (40, (.ci .lss (.r 39) (.r 38)))], [(5, (.o 5)), (4106, (.o 4106)), (10, (.o 10)), (4104, (.o 4104)), (8, (.o 8))]⟩))
theorem rd28_3_eq : round 2 [39, 40] [5, 4106, 10, 4104, 8] [39] [5, 4106, 10, 4104, 8] bd28_3 = rd28_3 := by kernel_rfl
def pc28 : PC :=
 (.seq
  (.is [.setO 5 (.mk [(.r 2)]),
    .setR 5 (.con .none),
    .setR 6 (.con (.list [])),
    .setR 7 (.con (.int 0))])
  (.seq
   (.seq
    (.is [.setR 18 (.r 0),
      .setR 19 (.r 1),
      .setR 20 (.cell (.o 5) 0),
      .call [] 21 31 [(.r 18), (.r 19), (.r 20)],
      .setR 22 (.nt (.r 21))])
    (.ite (.r 22) [6, 7] []
     (.seq
      (.is [.setR 6 (.con (.list [])),
        .setR 7 (.con (.int 1))])
      (.ret (.tup [(.r 6), (.r 7)])))
     .skip))
   (.seq
    (.is [.setO 8 (.con (.agg [(.list [])])),
      .setR 8 (.con .none),
      .setO 4104 (.con (.list []))])
    (.seq
     (.seq
      (.is [.setR 23 (.cell (.o 5) 0),
        .setR 24 (.llen (.r 23)),
        .setR 25 (.con (.int 0))])
      lp28_0)
     (.seq
      (.is [.setR 34 (.r 1),
        .setR 35 (.llen (.r 34)),
        .chk (.an (.ci .geq (.r 35) (.con (.int 0))) (.ci .leq (.r 35) (.con (.int 4294967296)))),
        .chk (.ci .eql (.r 35) (.r 35)),
        .setO 36 (.rep (.r 35) (.con (.int 0))),
        .setR 36 (.con .none),
        .setO 10 (.con (.agg [(.list [])])),
        .setR 10 (.con .none),
        .setO 4106 (.con (.list [])),
        .setO 10 (.setc (.o 10) 0 (.con .none)),
        .setO 4106 (.o 36)])
      (.seq
       (.seq
        (.is [.setR 37 (.r 0),
          .setR 38 (.llen (.r 37)),
          .setR 39 (.con (.int 0))])
        lp28_3)
       (.seq
        (.is [.setR 92 (.con .none),
          .setR 6 (.o 4104),
          .setR 7 (.con (.int 0))])
        (.ret (.tup [(.r 6), (.r 7)])))))))))
def tr28 : PT :=
 (.call ⟨[(20, (.cell (.mk [(.r 2)]) 0)), (19, (.r 1)), (18, (.r 0)), (7, (.con (.int 0))), (6, (.con (.list []))), (5, (.con .none))], [(5, (.mk [(.r 2)]))]⟩ [] 21 31 [(.r 18), (.r 19), (.r 20)]
 (.ite (.nt (.r 21))
  (.ret (.tup [(.con (.list [])), (.con (.int 1))]))
  (.brk ⟨[(25, (.con (.int 0))), (24, (.llen (.cell (.o 5) 0))), (23, (.cell (.o 5) 0)), (8, (.con .none)), (6, (.r 6)), (7, (.r 7)), (22, (.nt (.r 21)))], [(4104, (.con (.list []))), (8, (.con (.agg [(.list [])])))]⟩
   lp28_0
  (.chk (.an (.ci .geq (.llen (.r 1)) (.con (.int 0))) (.ci .leq (.llen (.r 1)) (.con (.int 4294967296))))
  (.chk (.ci .eql (.llen (.r 1)) (.llen (.r 1)))
  (.brk ⟨[(39, (.con (.int 0))), (38, (.llen (.r 0))), (37, (.r 0)), (10, (.con .none)), (36, (.con .none)), (35, (.llen (.r 1))), (34, (.r 1))], [(4106, (.rep (.llen (.r 1)) (.con (.int 0)))), (10, (.setc (.con (.agg [(.list [])])) 0 (.con .none))), (4106, (.con (.list []))), (10, (.con (.agg [(.list [])]))), (36, (.rep (.llen (.r 1)) (.con (.int 0))))]⟩
   lp28_3
  (.ret (.tup [(.o 4104), (.con (.int 0))]))))))))
theorem tr28_eq : tree pc28 = tr28 := by kernel_rfl
/-! allonge/estate.Right -/
def bd31_0 : PC :=
 (.seq
  (.is [.setR 31 (.ci .lss (.r 30) (.r 29))])
  (.seq
   (.ite (.r 31) [] []
    .skip
    (.exit 0))
   (.seq
    (.block 1 [6, 8, 32, 33, 34, 35, 36, 37] [8]
     (.seq
      (.is [.chk (.idx (.r 28) (.r 30)),
        .setR 32 (.ref (.nth (.r 28) (.r 30))),
        .setR 33 (.deref (.r 32)),
        .setO 8 (.con (.agg [(.int 0), (.int 0), (.int 0)])),
        .setR 8 (.con .none),
        .setO 8 (.setc (.o 8) 0 (.r 33))])
      (.seq
       (.is [.setR 34 (.con .none),
         .setR 35 (.cell (.o 8) 2),
         .call [] 36 51 [(.r 35), (.con (.int 0)), (.con (.int 1099511627776))],
         .setR 37 (.nt (.r 36))])
       (.ite (.r 37) [6] []
        (.seq
         (.is [.setR 6 (.con (.bool false))])
         (.ret (.r 6)))
        .skip))))
    (.is [.setR 38 (.ai .add .i64 (.r 30) (.con (.int 1))),
      .setR 30 (.r 38)]))))
def lp31_0 : PC := .block 0 [6, 30, 31] [] (.loop [6, 30] [] bd31_0)
def rd31_0 : PT :=
 (.ite (.ci .lss (.r 30) (.r 29))
  (.blockS ⟨[(31, (.ci .lss (.r 30) (.r 29)))], []⟩ 1 [6, 8, 32, 33, 34, 35, 36, 37] [8]
   (.chk (.idx (.r 28) (.r 30))
   (.call ⟨[(35, (.cell (.setc (.con (.agg [(.int 0), (.int 0), (.int 0)])) 0 (.nth (.r 28) (.r 30))) 2)), (34, (.con .none)), (8, (.con .none)), (33, (.nth (.r 28) (.r 30))), (32, (.ref (.nth (.r 28) (.r 30))))], [(8, (.setc (.con (.agg [(.int 0), (.int 0), (.int 0)])) 0 (.nth (.r 28) (.r 30)))), (8, (.con (.agg [(.int 0), (.int 0), (.int 0)])))]⟩ [] 36 51 [(.r 35), (.con (.int 0)), (.con (.int 1099511627776))]
   (.ite (.nt (.r 36))
    (.ret (.con (.bool false)))
    (.next ⟨[(6, (.r 6)), (37, (.nt (.r 36)))], []⟩))))
  (.next ⟨[(6, (.r 6)), (30, (.ai .add .i64 (.r 30) (.con (.int 1))))], []⟩))
  (.exit 0 ⟨[(6, (.r 6)), (30, (.r 30)), (31, (.ci .lss (.r 30) (.r 29)))], []⟩))
theorem rd31_0_eq : round 0 [6, 30, 31] [] [6, 30] [] bd31_0 = rd31_0 := by kernel_rfl
def bd31_1 : PC :=
 (.seq
  (.is [.setR 42 (.ci .lss (.r 41) (.r 40))])
  (.seq
   (.ite (.r 42) [] []
    .skip
    (.exit 2))
   (.seq
    (.block 3 [6, 10, 43, 44, 45, 46, 47] []
     (.seq
      (.is [.chk (.idx (.r 39) (.r 41)),
        .setR 43 (.ref (.nth (.r 39) (.r 41))),
        .setR 44 (.deref (.r 43)),
        .setR 10 (.r 44)])
      (.seq
       (.is [.setR 45 (.r 10),
         .call [] 46 51 [(.r 45), (.con (.int 1)), (.con (.int 1099511627776))],
         .setR 47 (.nt (.r 46))])
       (.ite (.r 47) [6] []
        (.seq
         (.is [.setR 6 (.con (.bool false))])
         (.ret (.r 6)))
        .skip))))
    (.is [.setR 48 (.ai .add .i64 (.r 41) (.con (.int 1))),
      .setR 41 (.r 48)]))))
def lp31_1 : PC := .block 2 [6, 41, 42] [] (.loop [6, 41] [] bd31_1)
def rd31_1 : PT :=
 (.ite (.ci .lss (.r 41) (.r 40))
  (.blockS ⟨[(42, (.ci .lss (.r 41) (.r 40)))], []⟩ 3 [6, 10, 43, 44, 45, 46, 47] []
   (.chk (.idx (.r 39) (.r 41))
   (.call ⟨[(45, (.nth (.r 39) (.r 41))), (10, (.nth (.r 39) (.r 41))), (44, (.nth (.r 39) (.r 41))), (43, (.ref (.nth (.r 39) (.r 41))))], []⟩ [] 46 51 [(.r 45), (.con (.int 1)), (.con (.int 1099511627776))]
   (.ite (.nt (.r 46))
    (.ret (.con (.bool false)))
    (.next ⟨[(6, (.r 6)), (47, (.nt (.r 46)))], []⟩))))
  (.next ⟨[(6, (.r 6)), (41, (.ai .add .i64 (.r 41) (.con (.int 1))))], []⟩))
  (.exit 2 ⟨[(6, (.r 6)), (41, (.r 41)), (42, (.ci .lss (.r 41) (.r 40)))], []⟩))
theorem rd31_1_eq : round 2 [6, 41, 42] [] [6, 41] [] bd31_1 = rd31_1 := by kernel_rfl
def bd31_2 : PC :=
 (.seq
  (.is [.setR 53 (.ci .lss (.r 52) (.r 51))])
  (.seq
   (.ite (.r 53) [] []
    .skip
    (.exit 4))
   (.seq
    (.block 5 [6, 13, 14, 54, 55, 56, 57, 58, 59, 60, 61, 62, 63, 64, 65, 66, 67, 68, 76, 77, 81, 82, 92, 93, 94] [13, 14, 11]
     (.seq
      (.is [.chk (.idx (.r 50) (.r 52)),
        .setR 54 (.ref (.nth (.r 50) (.r 52))),
        .setR 55 (.deref (.r 54)),
        .setO 13 (.con (.agg [(.int 0), (.int 0), (.int 0)])),
        .setR 13 (.con .none),
        .setO 13 (.setc (.o 13) 0 (.r 55))])
      (.seq
       (.is [.setR 56 (.con .none),
         .setR 57 (.cell (.o 13) 0),
         .setR 58 (.con .none),
         .setR 59 (.cell (.o 13) 1),
         .setR 60 (.mk [(.r 57), (.r 59)]),
         .setO 14 (.con (.agg [(.int 0), (.int 0)])),
         .setR 14 (.con .none),
         .setO 14 (.setc (.o 14) 0 (.r 60))])
       (.seq
        (.seq
         (.is [.setR 61 (.con .none),
           .setR 62 (.cell (.o 13) 0),
           .setR 63 (.r 1),
           .setR 64 (.llen (.r 63)),
           .setR 65 (.ai .sub .i64 (.r 64) (.con (.int 1))),
           .call [] 66 51 [(.r 62), (.con (.int 0)), (.r 65)],
           .setR 67 (.nt (.r 66)),
           .setR 68 (.r 67),
           .setR 69 (.con .none),
           .setR 70 (.cell (.o 13) 1),
           .setR 71 (.r 0),
           .setR 72 (.llen (.r 71)),
           .setR 73 (.ai .sub .i64 (.r 72) (.con (.int 1))),
           .call [(68, false)] 74 51 [(.r 70), (.con (.int 0)), (.r 73)],
           .setR 75 (.nt (.r 74)),
           .setR 76 (.pick (.r 68) (.con (.bool true)) (.r 75)),
           .setR 77 (.r 76),
           .setR 78 (.r 11),
           .setR 79 (.mk [(.cell (.o 14) 0), (.cell (.o 14) 1)]),
           .setR 80 (.look (.o 11) (.r 79) (.con (.bool false))),
           .setR 81 (.pick (.r 77) (.con (.bool true)) (.r 80)),
           .setR 82 (.r 81),
           .setR 83 (.con .none),
           .setR 84 (.cell (.o 13) 2),
           .setR 85 (.r 1),
           .setR 86 (.con .none),
           .setR 87 (.cell (.o 13) 0),
           .chk (.imp [(82, false)] (.idx (.r 85) (.r 87))),
           .setR 88 (.ref (.nth (.r 85) (.r 87))),
           .setR 89 (.deref (.r 88)),
           .call [(82, false)] 90 51 [(.r 84), (.con (.int 1)), (.r 89)],
           .setR 91 (.nt (.r 90)),
           .setR 92 (.pick (.r 82) (.con (.bool true)) (.r 91))])
         (.ite (.r 92) [6] []
          (.seq
           (.is [.setR 6 (.con (.bool false))])
           (.ret (.r 6)))
          .skip))
        (.is [.setR 93 (.r 11),
          .setR 94 (.mk [(.cell (.o 14) 0), (.cell (.o 14) 1)]),
          .chk (.ci .lss (.mlen (.o 11)) (.con (.int 4294967296))),
          .setO 11 (.put (.o 11) (.r 94) (.con (.bool true)))])))))
    (.is [.setR 95 (.ai .add .i64 (.r 52) (.con (.int 1))),
      .setR 52 (.r 95)]))))
def lp31_2 : PC := .block 4 [6, 52, 53] [11] (.loop [6, 52] [11] bd31_2)
def rd31_2 : PT :=
 (.ite (.ci .lss (.r 52) (.r 51))
  (.blockS ⟨[(53, (.ci .lss (.r 52) (.r 51)))], []⟩ 5 [6, 13, 14, 54, 55, 56, 57, 58, 59, 60, 61, 62, 63, 64, 65, 66, 67, 68, 76, 77, 81, 82, 92, 93, 94] [13, 14, 11]
   (.chk (.idx (.r 50) (.r 52))
   (.call ⟨[(65, (.ai .sub .i64 (.llen (.r 1)) (.con (.int 1)))), (64, (.llen (.r 1))), (63, (.r 1)), (62, (.cell (.setc (.con (.agg [(.int 0), (.int 0), (.int 0)])) 0 (.nth (.r 50) (.r 52))) 0)), (61, (.con .none)), (14, (.con .none)), (60, (.mk [(.cell (.setc (.con (.agg [(.int 0), (.int 0), (.int 0)])) 0 (.nth (.r 50) (.r 52))) 0), (.cell (.setc (.con (.agg [(.int 0), (.int 0), (.int 0)])) 0 (.nth (.r 50) (.r 52))) 1)])), (59, (.cell (.setc (.con (.agg [(.int 0), (.int 0), (.int 0)])) 0 (.nth (.r 50) (.r 52))) 1)), (58, (.con .none)), (57, (.cell (.setc (.con (.agg [(.int 0), (.int 0), (.int 0)])) 0 (.nth (.r 50) (.r 52))) 0)), (56, (.con .none)), (13, (.con .none)), (55, (.nth (.r 50) (.r 52))), (54, (.ref (.nth (.r 50) (.r 52))))], [(14, (.setc (.con (.agg [(.int 0), (.int 0)])) 0 (.mk [(.cell (.setc (.con (.agg [(.int 0), (.int 0), (.int 0)])) 0 (.nth (.r 50) (.r 52))) 0), (.cell (.setc (.con (.agg [(.int 0), (.int 0), (.int 0)])) 0 (.nth (.r 50) (.r 52))) 1)]))), (14, (.con (.agg [(.int 0), (.int 0)]))), (13, (.setc (.con (.agg [(.int 0), (.int 0), (.int 0)])) 0 (.nth (.r 50) (.r 52)))), (13, (.con (.agg [(.int 0), (.int 0), (.int 0)])))]⟩ [] 66 51 [(.r 62), (.con (.int 0)), (.r 65)]
   (.call ⟨[(73, (.ai .sub .i64 (.llen (.r 0)) (.con (.int 1)))), (72, (.llen (.r 0))), (71, (.r 0)), (70, (.cell (.o 13) 1)), (69, (.con .none)), (68, (.nt (.r 66))), (67, (.nt (.r 66)))], []⟩ [(68, false)] 74 51 [(.r 70), (.con (.int 0)), (.r 73)]
   (.chk (.nt (.an (.an (.nt (.pick (.pick (.r 68) (.con (.bool true)) (.nt (.r 74))) (.con (.bool true)) (.look (.o 11) (.mk [(.cell (.o 14) 0), (.cell (.o 14) 1)]) (.con (.bool false))))) (.con (.bool true))) (.nt (.idx (.r 1) (.cell (.o 13) 0)))))
   (.call ⟨[(89, (.nth (.r 1) (.cell (.o 13) 0))), (88, (.ref (.nth (.r 1) (.cell (.o 13) 0)))), (87, (.cell (.o 13) 0)), (86, (.con .none)), (85, (.r 1)), (84, (.cell (.o 13) 2)), (83, (.con .none)), (82, (.pick (.pick (.r 68) (.con (.bool true)) (.nt (.r 74))) (.con (.bool true)) (.look (.o 11) (.mk [(.cell (.o 14) 0), (.cell (.o 14) 1)]) (.con (.bool false))))), (81, (.pick (.pick (.r 68) (.con (.bool true)) (.nt (.r 74))) (.con (.bool true)) (.look (.o 11) (.mk [(.cell (.o 14) 0), (.cell (.o 14) 1)]) (.con (.bool false))))), (80, (.look (.o 11) (.mk [(.cell (.o 14) 0), (.cell (.o 14) 1)]) (.con (.bool false)))), (79, (.mk [(.cell (.o 14) 0), (.cell (.o 14) 1)])), (78, (.r 11)), (77, (.pick (.r 68) (.con (.bool true)) (.nt (.r 74)))), (76, (.pick (.r 68) (.con (.bool true)) (.nt (.r 74)))), (75, (.nt (.r 74)))], []⟩ [(82, false)] 90 51 [(.r 84), (.con (.int 1)), (.r 89)]
   (.ite (.pick (.r 82) (.con (.bool true)) (.nt (.r 90)))
    (.ret (.con (.bool false)))
    (.chk (.ci .lss (.mlen (.o 11)) (.con (.int 4294967296)))
    (.next ⟨[(94, (.mk [(.cell (.o 14) 0), (.cell (.o 14) 1)])), (93, (.r 11)), (6, (.r 6)), (92, (.pick (.r 82) (.con (.bool true)) (.nt (.r 90)))), (91, (.nt (.r 90)))], [(11, (.put (.o 11) (.mk [(.cell (.o 14) 0), (.cell (.o 14) 1)]) (.con (.bool true))))]⟩))))))))
  (.next ⟨[(6, (.r 6)), (52, (.ai .add .i64 (.r 52) (.con (.int 1))))], [(11, (.o 11))]⟩))
  (.exit 4 ⟨[(6, (.r 6)), (52, (.r 52)), (53, (.ci .lss (.r 52) (.r 51)))], [(11, (.o 11))]⟩))
theorem rd31_2_eq : round 4 [6, 52, 53] [11] [6, 52] [11] bd31_2 = rd31_2 := by kernel_rfl
def pc31 : PC :=
 (.seq
  (.is [.setR 6 (.con (.bool false))])
  (.seq
   (.seq
    (.is [.setR 15 (.r 0),
      .setR 16 (.llen (.r 15)),
      .setR 17 (.ci .gtr (.r 16) (.con (.int 10))),
      .setR 18 (.r 17),
      .setR 19 (.r 1),
      .setR 20 (.llen (.r 19)),
      .setR 21 (.ci .gtr (.r 20) (.con (.int 50))),
      .setR 22 (.pick (.r 18) (.con (.bool true)) (.r 21)),
      .setR 23 (.r 22),
      .setR 24 (.r 2),
      .setR 25 (.llen (.r 24)),
      .setR 26 (.ci .gtr (.r 25) (.con (.int 100))),
      .setR 27 (.pick (.r 23) (.con (.bool true)) (.r 26))])
    (.ite (.r 27) [6] []
     (.seq
      (.is [.setR 6 (.con (.bool false))])
      (.ret (.r 6)))
     .skip))
   (.seq
    (.seq
     (.is [.setR 28 (.r 0),
       .setR 29 (.llen (.r 28)),
       .setR 30 (.con (.int 0))])
     lp31_0)
    (.seq
     (.seq
      (.is [.setR 39 (.r 1),
        .setR 40 (.llen (.r 39)),
        .setR 41 (.con (.int 0))])
      lp31_1)
     (.seq
      (.is [.setO 49 (.con (.map [])),
        .setR 49 (.con .none),
        .setR 11 (.r 49),
        .setO 11 (.o 49)])
      (.seq
       (.seq
        (.is [.setR 50 (.r 2),
          .setR 51 (.llen (.r 50)),
          .setR 52 (.con (.int 0))])
        lp31_2)
       (.seq
        (.is [.setR 6 (.con (.bool true))])
        (.ret (.r 6)))))))))
def tr31 : PT :=
 (.ite (.pick (.pick (.ci .gtr (.llen (.r 0)) (.con (.int 10))) (.con (.bool true)) (.ci .gtr (.llen (.r 1)) (.con (.int 50)))) (.con (.bool true)) (.ci .gtr (.llen (.r 2)) (.con (.int 100))))
  (.ret (.con (.bool false)))
  (.brk ⟨[(30, (.con (.int 0))), (29, (.llen (.r 0))), (28, (.r 0)), (6, (.con (.bool false))), (27, (.pick (.pick (.ci .gtr (.llen (.r 0)) (.con (.int 10))) (.con (.bool true)) (.ci .gtr (.llen (.r 1)) (.con (.int 50)))) (.con (.bool true)) (.ci .gtr (.llen (.r 2)) (.con (.int 100))))), (26, (.ci .gtr (.llen (.r 2)) (.con (.int 100)))), (25, (.llen (.r 2))), (24, (.r 2)), (23, (.pick (.ci .gtr (.llen (.r 0)) (.con (.int 10))) (.con (.bool true)) (.ci .gtr (.llen (.r 1)) (.con (.int 50))))), (22, (.pick (.ci .gtr (.llen (.r 0)) (.con (.int 10))) (.con (.bool true)) (.ci .gtr (.llen (.r 1)) (.con (.int 50))))), (21, (.ci .gtr (.llen (.r 1)) (.con (.int 50)))), (20, (.llen (.r 1))), (19, (.r 1)), (18, (.ci .gtr (.llen (.r 0)) (.con (.int 10)))), (17, (.ci .gtr (.llen (.r 0)) (.con (.int 10)))), (16, (.llen (.r 0))), (15, (.r 0)), (6, (.con (.bool false)))], []⟩
   lp31_0
  (.brk ⟨[(41, (.con (.int 0))), (40, (.llen (.r 1))), (39, (.r 1))], []⟩
   lp31_1
  (.brk ⟨[(52, (.con (.int 0))), (51, (.llen (.r 2))), (50, (.r 2)), (11, (.con .none)), (49, (.con .none))], [(11, (.con (.map []))), (49, (.con (.map [])))]⟩
   lp31_2
  (.ret (.con (.bool true)))))))
theorem tr31_eq : tree pc31 = tr31 := by kernel_rfl
/-! allonge/estate.in -/
def pc51 : PC :=
 (.seq
  (.is [.setR 6 (.con (.bool false))])
  (.seq
   (.is [.setR 7 (.r 0),
     .setR 8 (.r 1),
     .setR 9 (.ci .geq (.r 7) (.r 8)),
     .setR 10 (.r 9),
     .setR 11 (.r 0),
     .setR 12 (.r 2),
     .setR 13 (.ci .leq (.r 11) (.r 12)),
     .setR 14 (.pick (.r 10) (.r 13) (.con (.bool false))),
     .setR 6 (.r 14)])
   (.ret (.r 6))))
def tr51 : PT :=
 (.ret (.pick (.ci .geq (.r 0) (.r 1)) (.ci .leq (.r 0) (.r 2)) (.con (.bool false))))
theorem tr51_eq : tree pc51 = tr51 := by kernel_rfl
/-! allonge/estate.round -/
def bd47_0 : PC :=
 (.seq
  (.is [.setR 21 (.ci .lss (.r 20) (.r 19))])
  (.seq
   (.ite (.r 21) [] []
    .skip
    (.exit 0))
   (.seq
    (.block 1 [11, 12, 13, 22, 23, 24, 25, 26, 27, 28, 29, 35] [13]
     (.seq
      (.is [.setR 22 (.r 20),
        .chk (.idx (.r 18) (.r 20)),
        .setR 23 (.ref (.nth (.r 18) (.r 20))),
        .setR 24 (.deref (.r 23)),
        .setO 13 (.con (.agg [(.int 0), (.int 0), (.int 0)])),
        .setR 13 (.con .none),
        .setR 12 (.r 22),
        .setO 13 (.setc (.o 13) 0 (.r 24))])
      (.seq
       (.is [.setR 25 (.con .none),
         .setR 26 (.cell (.o 13) 1),
         .setR 27 (.r 0),
         .setR 28 (.ci .eql (.r 26) (.r 27)),
         .setR 29 (.r 28),
         .setR 30 (.r 2),
         .setR 31 (.r 12),
         .chk (.imp [(29, true)] (.idx (.r 30) (.r 31))),
         .setR 32 (.ref (.nth (.r 30) (.r 31))),
         .setR 33 (.deref (.r 32)),
         .setR 34 (.ci .gtr (.r 33) (.con (.int 0))),
         .setR 35 (.pick (.r 29) (.r 34) (.con (.bool false)))])
       (.ite (.r 35) [11] []
        (.is [.setR 36 (.r 11),
          .setR 37 (.con .none),
          .setR 38 (.cell (.o 13) 2),
          .setR 39 (.ai .add .i64 (.r 36) (.r 38)),
          .setR 11 (.r 39)])
        .skip))))
    (.is [.setR 40 (.ai .add .i64 (.r 20) (.con (.int 1))),
      .setR 20 (.r 40)]))))
def lp47_0 : PC := .block 0 [11, 20, 21] [] (.loop [11, 20] [] bd47_0)
def rd47_0 : PT :=
 (.ite (.ci .lss (.r 20) (.r 19))
  (.chk (.idx (.r 18) (.r 20))
  (.chk (.nt (.an (.an (.ci .eql (.cell (.setc (.con (.agg [(.int 0), (.int 0), (.int 0)])) 0 (.nth (.r 18) (.r 20))) 1) (.r 0)) (.con (.bool true))) (.nt (.idx (.r 2) (.r 20)))))
  (.next ⟨[(11, (.pick (.pick (.ci .eql (.cell (.setc (.con (.agg [(.int 0), (.int 0), (.int 0)])) 0 (.nth (.r 18) (.r 20))) 1) (.r 0)) (.ci .gtr (.nth (.r 2) (.r 20)) (.con (.int 0))) (.con (.bool false))) (.ai .add .i64 (.r 11) (.cell (.setc (.con (.agg [(.int 0), (.int 0), (.int 0)])) 0 (.nth (.r 18) (.r 20))) 2)) (.r 11))), (20, (.ai .add .i64 (.r 20) (.con (.int 1))))], []⟩)))
  (.exit 0 ⟨[(11, (.r 11)), (20, (.r 20)), (21, (.ci .lss (.r 20) (.r 19)))], []⟩))
theorem rd47_0_eq : round 0 [11, 20, 21] [] [11, 20] [] bd47_0 = rd47_0 := by kernel_rfl
def bd47_1 : PC :=
 (.seq
  (.is [.setR 44 (.ci .lss (.r 43) (.r 42))])
  (.seq
   (.ite (.r 44) [] []
    .skip
    (.exit 2))
   (.seq
    (.block 3 [14, 15, 16, 45, 46, 47, 48, 49, 50, 51, 52, 58] [16, 900, 901, 902, 903, 904]
     (.seq
      (.is [.setR 45 (.r 43),
        .chk (.idx (.r 41) (.r 43)),
        .setR 46 (.ref (.nth (.r 41) (.r 43))),
        .setR 47 (.deref (.r 46)),
        .setO 16 (.con (.agg [(.int 0), (.int 0), (.int 0)])),
        .setR 16 (.con .none),
        .setR 15 (.r 45),
        .setO 16 (.setc (.o 16) 0 (.r 47))])
      (.seq
       (.is [.setR 48 (.con .none),
         .setR 49 (.cell (.o 16) 1),
         .setR 50 (.r 0),
         .setR 51 (.ci .eql (.r 49) (.r 50)),
         .setR 52 (.r 51),
         .setR 53 (.r 2),
         .setR 54 (.r 15),
         .chk (.imp [(52, true)] (.idx (.r 53) (.r 54))),
         .setR 55 (.ref (.nth (.r 53) (.r 54))),
         .setR 56 (.deref (.r 55)),
         .setR 57 (.ci .gtr (.r 56) (.con (.int 0))),
         .setR 58 (.pick (.r 52) (.r 57) (.con (.bool false)))])
       (.ite (.r 58) [14] [900, 901, 902, 903, 904]
        (.seq
         (.is [.setR 59 (.r 2),
           .setR 60 (.r 15),
           .chk (.idx (.r 59) (.r 60)),
           .setR 61 (.ref (.nth (.r 59) (.r 60))),
           .setR 62 (.deref (.r 61)),
           .setR 63 (.r 1),
           .setR 64 (.con .none),
           .setR 65 (.cell (.o 16) 2),
           .setR 66 (.r 11),
           .call [] 67 54 [(.r 63), (.r 65), (.r 66)],
           .setR 68 (.mn (.r 62) (.r 67)),
           .setR 17 (.r 68)])
         (.seq
          (.is [.setR 69 (.r 14),
            .setR 70 (.r 17),
            .setR 71 (.ai .add .i64 (.r 69) (.r 70)),
            .setR 14 (.r 71)])
          (.is [.setR 72 (.r 4),
            .setR 73 (.r 15),
            .setR 74 (.r 17),
            .mcall 1000000013 48 [(.r 73), (.r 74), (.con .none), (.con .none), (.con .none), (.o 900), (.o 901), (.o 902), (.o 903), (.o 904)],
            .setO 900 (.tget (.o 1000000013) 1),
            .setO 901 (.tget (.o 1000000013) 2),
            .setO 902 (.tget (.o 1000000013) 3),
            .setO 903 (.tget (.o 1000000013) 4),
            .setO 904 (.tget (.o 1000000013) 5),
            .setR 75 (.tget (.o 1000000013) 0)])))
        .skip))))
    (.is [.setR 76 (.ai .add .i64 (.r 43) (.con (.int 1))),
      .setR 43 (.r 76)]))))
def lp47_1 : PC := .block 2 [14, 43, 44] [904, 903, 902, 901, 900] (.loop [14, 43] [904, 903, 902, 901, 900] bd47_1)
def rd47_1 : PT :=
 (.ite (.ci .lss (.r 43) (.r 42))
  (.blockS ⟨[(44, (.ci .lss (.r 43) (.r 42)))], []⟩ 3 [14, 15, 16, 45, 46, 47, 48, 49, 50, 51, 52, 58] [16, 900, 901, 902, 903, 904]
   (.chk (.idx (.r 41) (.r 43))
   (.chk (.nt (.an (.an (.ci .eql (.cell (.setc (.con (.agg [(.int 0), (.int 0), (.int 0)])) 0 (.nth (.r 41) (.r 43))) 1) (.r 0)) (.con (.bool true))) (.nt (.idx (.r 2) (.r 43)))))
   (.iteS ⟨[(58, (.pick (.ci .eql (.cell (.setc (.con (.agg [(.int 0), (.int 0), (.int 0)])) 0 (.nth (.r 41) (.r 43))) 1) (.r 0)) (.ci .gtr (.nth (.r 2) (.r 43)) (.con (.int 0))) (.con (.bool false)))), (57, (.ci .gtr (.nth (.r 2) (.r 43)) (.con (.int 0)))), (56, (.nth (.r 2) (.r 43))), (55, (.ref (.nth (.r 2) (.r 43)))), (54, (.r 43)), (53, (.r 2)), (52, (.ci .eql (.cell (.setc (.con (.agg [(.int 0), (.int 0), (.int 0)])) 0 (.nth (.r 41) (.r 43))) 1) (.r 0))), (51, (.ci .eql (.cell (.setc (.con (.agg [(.int 0), (.int 0), (.int 0)])) 0 (.nth (.r 41) (.r 43))) 1) (.r 0))), (50, (.r 0)), (49, (.cell (.setc (.con (.agg [(.int 0), (.int 0), (.int 0)])) 0 (.nth (.r 41) (.r 43))) 1)), (48, (.con .none)), (15, (.r 43)), (16, (.con .none)), (47, (.nth (.r 41) (.r 43))), (46, (.ref (.nth (.r 41) (.r 43)))), (45, (.r 43))], [(16, (.setc (.con (.agg [(.int 0), (.int 0), (.int 0)])) 0 (.nth (.r 41) (.r 43)))), (16, (.con (.agg [(.int 0), (.int 0), (.int 0)])))]⟩ (.r 58) [14] [900, 901, 902, 903, 904]
    (.chk (.idx (.r 2) (.r 15))
    (.call ⟨[(66, (.r 11)), (65, (.cell (.o 16) 2)), (64, (.con .none)), (63, (.r 1)), (62, (.nth (.r 2) (.r 15))), (61, (.ref (.nth (.r 2) (.r 15)))), (60, (.r 15)), (59, (.r 2))], []⟩ [] 67 54 [(.r 63), (.r 65), (.r 66)]
    (.mcall ⟨[(74, (.mn (.r 62) (.r 67))), (73, (.r 15)), (72, (.r 4)), (14, (.ai .add .i64 (.r 14) (.mn (.r 62) (.r 67)))), (71, (.ai .add .i64 (.r 14) (.mn (.r 62) (.r 67)))), (70, (.mn (.r 62) (.r 67))), (69, (.r 14)), (17, (.mn (.r 62) (.r 67))), (68, (.mn (.r 62) (.r 67)))], []⟩ 1000000013 48 [(.r 73), (.r 74), (.con .none), (.con .none), (.con .none), (.o 900), (.o 901), (.o 902), (.o 903), (.o 904)]
    (.next ⟨[(75, (.tget (.o 1000000013) 0))], [(904, (.tget (.o 1000000013) 5)), (903, (.tget (.o 1000000013) 4)), (902, (.tget (.o 1000000013) 3)), (901, (.tget (.o 1000000013) 2)), (900, (.tget (.o 1000000013) 1))]⟩))))
    (.next ⟨[], []⟩)
   (.next ⟨[], []⟩))))
  (.next ⟨[(14, (.r 14)), (43, (.ai .add .i64 (.r 43) (.con (.int 1))))], [(904, (.o 904)), (903, (.o 903)), (902, (.o 902)), (901, (.o 901)), (900, (.o 900))]⟩))
  (.exit 2 ⟨[(14, (.r 14)), (43, (.r 43)), (44, (.ci .lss (.r 43) (.r 42)))], [(904, (.o 904)), (903, (.o 903)), (902, (.o 902)), (901, (.o 901)), (900, (.o 900))]⟩))
theorem rd47_1_eq : round 2 [14, 43, 44] [904, 903, 902, 901, 900] [14, 43] [904, 903, 902, 901, 900] bd47_1 = rd47_1 := by kernel_rfl
def pc47 : PC :=
 (.seq
  (.is [.setO 904 (.r 9),
    .setO 903 (.r 8),
    .setO 902 (.r 7),
    .setO 901 (.r 6),
    .setO 900 (.r 5)])
  (.seq
   (.is [.setR 10 (.con (.int 0))])
   (.seq
    (.is [.setR 11 (.con (.int 0))])
    (.seq
     (.seq
      (.is [.setR 18 (.r 3),
        .setR 19 (.llen (.r 18)),
        .setR 20 (.con (.int 0))])
      lp47_0)
     (.seq
      (.is [.setR 14 (.con (.int 0))])
      (.seq
       (.seq
        (.is [.setR 41 (.r 3),
          .setR 42 (.llen (.r 41)),
          .setR 43 (.con (.int 0))])
        lp47_1)
       (.seq
        (.is [.setR 77 (.r 14),
          .setR 10 (.r 77)])
        (.ret (.tup [(.r 10), (.o 900), (.o 901), (.o 902), (.o 903), (.o 904)])))))))))
def tr47 : PT :=
 (.brk ⟨[(20, (.con (.int 0))), (19, (.llen (.r 3))), (18, (.r 3)), (11, (.con (.int 0))), (10, (.con (.int 0)))], [(900, (.r 5)), (901, (.r 6)), (902, (.r 7)), (903, (.r 8)), (904, (.r 9))]⟩
  lp47_0
 (.brk ⟨[(43, (.con (.int 0))), (42, (.llen (.r 3))), (41, (.r 3)), (14, (.con (.int 0)))], []⟩
  lp47_1
 (.ret (.tup [(.r 14), (.o 900), (.o 901), (.o 902), (.o 903), (.o 904)]))))
theorem tr47_eq : tree pc47 = tr47 := by kernel_rfl
/-! allonge/estate.part -/
def pc54 : PC :=
 (.seq
  (.is [.setR 6 (.con (.int 0))])
  (.seq
   (.is [.setR 12 (.r 0),
     .setR 13 (.conv .u64 (.r 12)),
     .setR 14 (.r 1),
     .setR 15 (.conv .u64 (.r 14)),
     .call [] 16 56 [(.r 13), (.r 15)],
     .setR 11 (.r 16),
     .setR 17 (.tget (.r 11) 0),
     .setR 18 (.tget (.r 11) 1),
     .setR 7 (.r 17),
     .setR 8 (.r 18)])
   (.seq
    (.is [.setR 20 (.r 7),
      .setR 21 (.r 8),
      .setR 22 (.r 2),
      .setR 23 (.conv .u64 (.r 22)),
      .call [] 24 57 [(.r 20), (.r 21), (.r 23)],
      .setR 19 (.r 24),
      .setR 25 (.tget (.r 19) 0),
      .setR 26 (.tget (.r 19) 1),
      .setR 9 (.r 25),
      .setR 10 (.r 26)])
    (.seq
     (.is [.setR 27 (.r 9),
       .setR 28 (.conv .i64 (.r 27)),
       .setR 6 (.r 28)])
     (.ret (.r 6))))))
def tr54 : PT :=
 (.call ⟨[(15, (.conv .u64 (.r 1))), (14, (.r 1)), (13, (.conv .u64 (.r 0))), (12, (.r 0)), (6, (.con (.int 0)))], []⟩ [] 16 56 [(.r 13), (.r 15)]
 (.call ⟨[(23, (.conv .u64 (.r 2))), (22, (.r 2)), (21, (.tget (.r 16) 1)), (20, (.tget (.r 16) 0)), (8, (.tget (.r 16) 1)), (7, (.tget (.r 16) 0)), (18, (.tget (.r 16) 1)), (17, (.tget (.r 16) 0)), (11, (.r 16))], []⟩ [] 24 57 [(.r 20), (.r 21), (.r 23)]
 (.ret (.conv .i64 (.tget (.r 24) 0)))))
theorem tr54_eq : tree pc54 = tr54 := by kernel_rfl
/-! math/bits.Mul64 -/
def pc56 : PC :=
 (.seq
  (.is [.setR 4 (.con (.v (.int .u64 0))),
    .setR 5 (.con (.v (.int .u64 0)))])
  (.seq
   (.is [.setR 14 (.r 0),
     .setR 15 (.ai .and .u64 (.r 14) (.con (.v (.int .u64 4294967295)))),
     .setR 6 (.r 15)])
   (.seq
    (.is [.setR 16 (.r 0),
      .chk (.ci .geq (.con (.v (.int .u64 32))) (.con (.int 0))),
      .setR 17 (.ai .shr .u64 (.r 16) (.con (.v (.int .u64 32)))),
      .setR 7 (.r 17)])
    (.seq
     (.is [.setR 18 (.r 1),
       .setR 19 (.ai .and .u64 (.r 18) (.con (.v (.int .u64 4294967295)))),
       .setR 8 (.r 19)])
     (.seq
      (.is [.setR 20 (.r 1),
        .chk (.ci .geq (.con (.v (.int .u64 32))) (.con (.int 0))),
        .setR 21 (.ai .shr .u64 (.r 20) (.con (.v (.int .u64 32)))),
        .setR 9 (.r 21)])
      (.seq
       (.is [.setR 22 (.r 6),
         .setR 23 (.r 8),
         .setR 24 (.ai .mul .u64 (.r 22) (.r 23)),
         .setR 10 (.r 24)])
       (.seq
        (.is [.setR 25 (.r 7),
          .setR 26 (.r 8),
          .setR 27 (.ai .mul .u64 (.r 25) (.r 26)),
          .setR 28 (.r 10),
          .chk (.ci .geq (.con (.v (.int .u64 32))) (.con (.int 0))),
          .setR 29 (.ai .shr .u64 (.r 28) (.con (.v (.int .u64 32)))),
          .setR 30 (.ai .add .u64 (.r 27) (.r 29)),
          .setR 11 (.r 30)])
        (.seq
         (.is [.setR 31 (.r 11),
           .setR 32 (.ai .and .u64 (.r 31) (.con (.v (.int .u64 4294967295)))),
           .setR 12 (.r 32)])
         (.seq
          (.is [.setR 33 (.r 11),
            .chk (.ci .geq (.con (.v (.int .u64 32))) (.con (.int 0))),
            .setR 34 (.ai .shr .u64 (.r 33) (.con (.v (.int .u64 32)))),
            .setR 13 (.r 34)])
          (.seq
           (.is [.setR 35 (.r 12),
             .setR 36 (.r 6),
             .setR 37 (.r 9),
             .setR 38 (.ai .mul .u64 (.r 36) (.r 37)),
             .setR 39 (.ai .add .u64 (.r 35) (.r 38)),
             .setR 12 (.r 39)])
           (.seq
            (.is [.setR 40 (.r 7),
              .setR 41 (.r 9),
              .setR 42 (.ai .mul .u64 (.r 40) (.r 41)),
              .setR 43 (.r 13),
              .setR 44 (.ai .add .u64 (.r 42) (.r 43)),
              .setR 45 (.r 12),
              .chk (.ci .geq (.con (.v (.int .u64 32))) (.con (.int 0))),
              .setR 46 (.ai .shr .u64 (.r 45) (.con (.v (.int .u64 32)))),
              .setR 47 (.ai .add .u64 (.r 44) (.r 46)),
              .setR 4 (.r 47)])
            (.seq
             (.is [.setR 48 (.r 0),
               .setR 49 (.r 1),
               .setR 50 (.ai .mul .u64 (.r 48) (.r 49)),
               .setR 5 (.r 50)])
             (.ret (.tup [(.r 4), (.r 5)]))))))))))))))
def tr56 : PT :=
 (.chk (.ci .geq (.con (.v (.int .u64 32))) (.con (.int 0)))
 (.ret (.tup [(.ai .add .u64 (.ai .add .u64 (.ai .mul .u64 (.ai .shr .u64 (.r 0) (.con (.v (.int .u64 32)))) (.ai .shr .u64 (.r 1) (.con (.v (.int .u64 32))))) (.ai .shr .u64 (.ai .add .u64 (.ai .mul .u64 (.ai .shr .u64 (.r 0) (.con (.v (.int .u64 32)))) (.ai .and .u64 (.r 1) (.con (.v (.int .u64 4294967295))))) (.ai .shr .u64 (.ai .mul .u64 (.ai .and .u64 (.r 0) (.con (.v (.int .u64 4294967295)))) (.ai .and .u64 (.r 1) (.con (.v (.int .u64 4294967295))))) (.con (.v (.int .u64 32))))) (.con (.v (.int .u64 32))))) (.ai .shr .u64 (.ai .add .u64 (.ai .and .u64 (.ai .add .u64 (.ai .mul .u64 (.ai .shr .u64 (.r 0) (.con (.v (.int .u64 32)))) (.ai .and .u64 (.r 1) (.con (.v (.int .u64 4294967295))))) (.ai .shr .u64 (.ai .mul .u64 (.ai .and .u64 (.r 0) (.con (.v (.int .u64 4294967295)))) (.ai .and .u64 (.r 1) (.con (.v (.int .u64 4294967295))))) (.con (.v (.int .u64 32))))) (.con (.v (.int .u64 4294967295)))) (.ai .mul .u64 (.ai .and .u64 (.r 0) (.con (.v (.int .u64 4294967295)))) (.ai .shr .u64 (.r 1) (.con (.v (.int .u64 32)))))) (.con (.v (.int .u64 32))))), (.ai .mul .u64 (.r 0) (.r 1))])))
theorem tr56_eq : tree pc56 = tr56 := by kernel_rfl
/-! math/bits.Div64 -/
def bd57_0 : PC :=
 (.seq
  (.seq
   (.is [.setR 67 (.r 15),
     .setR 68 (.ci .geq (.r 67) (.con (.v (.int .u64 4294967296)))),
     .setR 69 (.r 68),
     .setR 70 (.r 15),
     .setR 71 (.r 10),
     .setR 72 (.ai .mul .u64 (.r 70) (.r 71)),
     .setR 73 (.r 16),
     .setR 74 (.ai .mul .u64 (.con (.v (.int .u64 4294967296))) (.r 73)),
     .setR 75 (.r 13),
     .setR 76 (.ai .add .u64 (.r 74) (.r 75)),
     .setR 77 (.ci .gtr (.r 72) (.r 76)),
     .setR 78 (.pick (.r 69) (.con (.bool true)) (.r 77))])
   (.ite (.r 78) [] []
    .skip
    (.exit 0)))
  (.block 1 [15, 16, 79, 80, 81, 82, 83, 84, 85] []
   (.seq
    (.is [.setR 79 (.r 15),
      .setR 80 (.ai .sub .u64 (.r 79) (.con (.v (.int .u64 1)))),
      .setR 15 (.r 80)])
    (.seq
     (.is [.setR 81 (.r 16),
       .setR 82 (.r 9),
       .setR 83 (.ai .add .u64 (.r 81) (.r 82)),
       .setR 16 (.r 83)])
     (.seq
      (.is [.setR 84 (.r 16),
        .setR 85 (.ci .geq (.r 84) (.con (.v (.int .u64 4294967296))))])
      (.ite (.r 85) [] []
       (.exit 0)
       .skip))))))
def lp57_0 : PC := .block 0 [15, 16, 67, 68, 69, 78] [] (.loop [15, 16] [] bd57_0)
def rd57_0 : PT :=
 (.ite (.pick (.ci .geq (.r 15) (.con (.v (.int .u64 4294967296)))) (.con (.bool true)) (.ci .gtr (.ai .mul .u64 (.r 15) (.r 10)) (.ai .add .u64 (.ai .mul .u64 (.con (.v (.int .u64 4294967296))) (.r 16)) (.r 13))))
  (.ite (.ci .geq (.ai .add .u64 (.r 16) (.r 9)) (.con (.v (.int .u64 4294967296))))
   (.exit 0 ⟨[(15, (.ai .sub .u64 (.r 15) (.con (.v (.int .u64 1))))), (16, (.ai .add .u64 (.r 16) (.r 9))), (67, (.r 15)), (68, (.ci .geq (.r 15) (.con (.v (.int .u64 4294967296))))), (69, (.ci .geq (.r 15) (.con (.v (.int .u64 4294967296))))), (78, (.pick (.ci .geq (.r 15) (.con (.v (.int .u64 4294967296)))) (.con (.bool true)) (.ci .gtr (.ai .mul .u64 (.r 15) (.r 10)) (.ai .add .u64 (.ai .mul .u64 (.con (.v (.int .u64 4294967296))) (.r 16)) (.r 13)))))], []⟩)
   (.next ⟨[(15, (.ai .sub .u64 (.r 15) (.con (.v (.int .u64 1))))), (16, (.ai .add .u64 (.r 16) (.r 9)))], []⟩))
  (.exit 0 ⟨[(15, (.r 15)), (16, (.r 16)), (67, (.r 15)), (68, (.ci .geq (.r 15) (.con (.v (.int .u64 4294967296))))), (69, (.ci .geq (.r 15) (.con (.v (.int .u64 4294967296))))), (78, (.pick (.ci .geq (.r 15) (.con (.v (.int .u64 4294967296)))) (.con (.bool true)) (.ci .gtr (.ai .mul .u64 (.r 15) (.r 10)) (.ai .add .u64 (.ai .mul .u64 (.con (.v (.int .u64 4294967296))) (.r 16)) (.r 13)))))], []⟩))
theorem rd57_0_eq : round 0 [15, 16, 67, 68, 69, 78] [] [15, 16] [] bd57_0 = rd57_0 := by kernel_rfl
def bd57_1 : PC :=
 (.seq
  (.seq
   (.is [.setR 102 (.r 18),
     .setR 103 (.ci .geq (.r 102) (.con (.v (.int .u64 4294967296)))),
     .setR 104 (.r 103),
     .setR 105 (.r 18),
     .setR 106 (.r 10),
     .setR 107 (.ai .mul .u64 (.r 105) (.r 106)),
     .setR 108 (.r 16),
     .setR 109 (.ai .mul .u64 (.con (.v (.int .u64 4294967296))) (.r 108)),
     .setR 110 (.r 14),
     .setR 111 (.ai .add .u64 (.r 109) (.r 110)),
     .setR 112 (.ci .gtr (.r 107) (.r 111)),
     .setR 113 (.pick (.r 104) (.con (.bool true)) (.r 112))])
   (.ite (.r 113) [] []
    .skip
    (.exit 2)))
  (.block 3 [16, 18, 114, 115, 116, 117, 118, 119, 120] []
   (.seq
    (.is [.setR 114 (.r 18),
      .setR 115 (.ai .sub .u64 (.r 114) (.con (.v (.int .u64 1)))),
      .setR 18 (.r 115)])
    (.seq
     (.is [.setR 116 (.r 16),
       .setR 117 (.r 9),
       .setR 118 (.ai .add .u64 (.r 116) (.r 117)),
       .setR 16 (.r 118)])
     (.seq
      (.is [.setR 119 (.r 16),
        .setR 120 (.ci .geq (.r 119) (.con (.v (.int .u64 4294967296))))])
      (.ite (.r 120) [] []
       (.exit 2)
       .skip))))))
def lp57_1 : PC := .block 2 [16, 18, 102, 103, 104, 113] [] (.loop [16, 18] [] bd57_1)
def rd57_1 : PT :=
 (.ite (.pick (.ci .geq (.r 18) (.con (.v (.int .u64 4294967296)))) (.con (.bool true)) (.ci .gtr (.ai .mul .u64 (.r 18) (.r 10)) (.ai .add .u64 (.ai .mul .u64 (.con (.v (.int .u64 4294967296))) (.r 16)) (.r 14))))
  (.ite (.ci .geq (.ai .add .u64 (.r 16) (.r 9)) (.con (.v (.int .u64 4294967296))))
   (.exit 2 ⟨[(16, (.ai .add .u64 (.r 16) (.r 9))), (18, (.ai .sub .u64 (.r 18) (.con (.v (.int .u64 1))))), (102, (.r 18)), (103, (.ci .geq (.r 18) (.con (.v (.int .u64 4294967296))))), (104, (.ci .geq (.r 18) (.con (.v (.int .u64 4294967296))))), (113, (.pick (.ci .geq (.r 18) (.con (.v (.int .u64 4294967296)))) (.con (.bool true)) (.ci .gtr (.ai .mul .u64 (.r 18) (.r 10)) (.ai .add .u64 (.ai .mul .u64 (.con (.v (.int .u64 4294967296))) (.r 16)) (.r 14)))))], []⟩)
   (.next ⟨[(16, (.ai .add .u64 (.r 16) (.r 9))), (18, (.ai .sub .u64 (.r 18) (.con (.v (.int .u64 1)))))], []⟩))
  (.exit 2 ⟨[(16, (.r 16)), (18, (.r 18)), (102, (.r 18)), (103, (.ci .geq (.r 18) (.con (.v (.int .u64 4294967296))))), (104, (.ci .geq (.r 18) (.con (.v (.int .u64 4294967296))))), (113, (.pick (.ci .geq (.r 18) (.con (.v (.int .u64 4294967296)))) (.con (.bool true)) (.ci .gtr (.ai .mul .u64 (.r 18) (.r 10)) (.ai .add .u64 (.ai .mul .u64 (.con (.v (.int .u64 4294967296))) (.r 16)) (.r 14)))))], []⟩))
theorem rd57_1_eq : round 2 [16, 18, 102, 103, 104, 113] [] [16, 18] [] bd57_1 = rd57_1 := by kernel_rfl
def pc57 : PC :=
 (.seq
  (.is [.setR 6 (.con (.v (.int .u64 0))),
    .setR 7 (.con (.v (.int .u64 0)))])
  (.seq
   (.seq
    (.is [.setR 19 (.r 2),
      .setR 20 (.ci .eql (.r 19) (.con (.v (.int .u64 0))))])
    (.ite (.r 20) [] []
     (.is [.chk (.con (.bool false)),
       .chk (.nt (.con (.bool true)))])
     .skip))
   (.seq
    (.seq
     (.is [.setR 22 (.r 2),
       .setR 23 (.r 0),
       .setR 24 (.ci .leq (.r 22) (.r 23))])
     (.ite (.r 24) [] []
      (.is [.chk (.con (.bool false)),
        .chk (.nt (.con (.bool true)))])
      .skip))
    (.seq
     (.seq
      (.is [.setR 26 (.r 0),
        .setR 27 (.ci .eql (.r 26) (.con (.v (.int .u64 0))))])
      (.ite (.r 27) [6, 7] []
       (.seq
        (.is [.setR 28 (.r 1),
          .setR 29 (.r 2),
          .chk (.ci .neq (.r 29) (.con (.int 0))),
          .setR 30 (.ai .quo .u64 (.r 28) (.r 29)),
          .setR 31 (.r 1),
          .setR 32 (.r 2),
          .chk (.ci .neq (.r 32) (.con (.int 0))),
          .setR 33 (.ai .rem .u64 (.r 31) (.r 32)),
          .setR 6 (.r 30),
          .setR 7 (.r 33)])
        (.ret (.tup [(.r 6), (.r 7)])))
       .skip))
     (.seq
      (.is [.setR 34 (.r 2),
        .call [] 35 61 [(.r 34)],
        .setR 36 (.conv .u64 (.r 35)),
        .setR 8 (.r 36)])
      (.seq
       (.is [.setR 37 (.r 2),
         .setR 38 (.r 8),
         .chk (.ci .geq (.r 38) (.con (.int 0))),
         .setR 39 (.ai .shl .u64 (.r 37) (.r 38)),
         .setR 2 (.r 39)])
       (.seq
        (.is [.setR 40 (.r 2),
          .chk (.ci .geq (.con (.v (.int .u64 32))) (.con (.int 0))),
          .setR 41 (.ai .shr .u64 (.r 40) (.con (.v (.int .u64 32)))),
          .setR 9 (.r 41)])
        (.seq
         (.is [.setR 42 (.r 2),
           .setR 43 (.ai .and .u64 (.r 42) (.con (.v (.int .u64 4294967295)))),
           .setR 10 (.r 43)])
         (.seq
          (.is [.setR 44 (.r 0),
            .setR 45 (.r 8),
            .chk (.ci .geq (.r 45) (.con (.int 0))),
            .setR 46 (.ai .shl .u64 (.r 44) (.r 45)),
            .setR 47 (.r 1),
            .setR 48 (.r 8),
            .setR 49 (.ai .sub .u64 (.con (.v (.int .u64 64))) (.r 48)),
            .chk (.ci .geq (.r 49) (.con (.int 0))),
            .setR 50 (.ai .shr .u64 (.r 47) (.r 49)),
            .setR 51 (.ai .or .u64 (.r 46) (.r 50)),
            .setR 11 (.r 51)])
          (.seq
           (.is [.setR 52 (.r 1),
             .setR 53 (.r 8),
             .chk (.ci .geq (.r 53) (.con (.int 0))),
             .setR 54 (.ai .shl .u64 (.r 52) (.r 53)),
             .setR 12 (.r 54)])
           (.seq
            (.is [.setR 55 (.r 12),
              .chk (.ci .geq (.con (.v (.int .u64 32))) (.con (.int 0))),
              .setR 56 (.ai .shr .u64 (.r 55) (.con (.v (.int .u64 32)))),
              .setR 13 (.r 56)])
            (.seq
             (.is [.setR 57 (.r 12),
               .setR 58 (.ai .and .u64 (.r 57) (.con (.v (.int .u64 4294967295)))),
               .setR 14 (.r 58)])
             (.seq
              (.is [.setR 59 (.r 11),
                .setR 60 (.r 9),
                .chk (.ci .neq (.r 60) (.con (.int 0))),
                .setR 61 (.ai .quo .u64 (.r 59) (.r 60)),
                .setR 15 (.r 61)])
              (.seq
               (.is [.setR 62 (.r 11),
                 .setR 63 (.r 15),
                 .setR 64 (.r 9),
                 .setR 65 (.ai .mul .u64 (.r 63) (.r 64)),
                 .setR 66 (.ai .sub .u64 (.r 62) (.r 65)),
                 .setR 16 (.r 66)])
               (.seq
                lp57_0
                (.seq
                 (.is [.setR 86 (.r 11),
                   .setR 87 (.ai .mul .u64 (.r 86) (.con (.v (.int .u64 4294967296)))),
                   .setR 88 (.r 13),
                   .setR 89 (.ai .add .u64 (.r 87) (.r 88)),
                   .setR 90 (.r 15),
                   .setR 91 (.r 2),
                   .setR 92 (.ai .mul .u64 (.r 90) (.r 91)),
                   .setR 93 (.ai .sub .u64 (.r 89) (.r 92)),
                   .setR 17 (.r 93)])
                 (.seq
                  (.is [.setR 94 (.r 17),
                    .setR 95 (.r 9),
                    .chk (.ci .neq (.r 95) (.con (.int 0))),
                    .setR 96 (.ai .quo .u64 (.r 94) (.r 95)),
                    .setR 18 (.r 96)])
                  (.seq
                   (.is [.setR 97 (.r 17),
                     .setR 98 (.r 18),
                     .setR 99 (.r 9),
                     .setR 100 (.ai .mul .u64 (.r 98) (.r 99)),
                     .setR 101 (.ai .sub .u64 (.r 97) (.r 100)),
                     .setR 16 (.r 101)])
                   (.seq
                    lp57_1
                    (.seq
                     (.is [.setR 121 (.r 15),
                       .setR 122 (.ai .mul .u64 (.r 121) (.con (.v (.int .u64 4294967296)))),
                       .setR 123 (.r 18),
                       .setR 124 (.ai .add .u64 (.r 122) (.r 123)),
                       .setR 125 (.r 17),
                       .setR 126 (.ai .mul .u64 (.r 125) (.con (.v (.int .u64 4294967296)))),
                       .setR 127 (.r 14),
                       .setR 128 (.ai .add .u64 (.r 126) (.r 127)),
                       .setR 129 (.r 18),
                       .setR 130 (.r 2),
                       .setR 131 (.ai .mul .u64 (.r 129) (.r 130)),
                       .setR 132 (.ai .sub .u64 (.r 128) (.r 131)),
                       .setR 133 (.r 8),
                       .chk (.ci .geq (.r 133) (.con (.int 0))),
                       .setR 134 (.ai .shr .u64 (.r 132) (.r 133)),
                       .setR 6 (.r 124),
                       .setR 7 (.r 134)])
                     (.ret (.tup [(.r 6), (.r 7)]))))))))))))))))))))))
def tr57 : PT :=
 (.ite (.ci .eql (.r 2) (.con (.v (.int .u64 0))))
  (.chk (.con (.bool false))
  (.chk (.nt (.con (.bool true)))
  (.ite (.ci .leq (.r 2) (.r 0))
   (.chk (.con (.bool false))
   (.chk (.nt (.con (.bool true)))
   (.ite (.ci .eql (.r 0) (.con (.v (.int .u64 0))))
    (.chk (.ci .neq (.r 2) (.con (.int 0)))
    (.ret (.tup [(.ai .quo .u64 (.r 1) (.r 2)), (.ai .rem .u64 (.r 1) (.r 2))])))
    (.call ⟨[(34, (.r 2)), (6, (.con (.v (.int .u64 0)))), (7, (.con (.v (.int .u64 0)))), (27, (.ci .eql (.r 0) (.con (.v (.int .u64 0))))), (26, (.r 0)), (24, (.ci .leq (.r 2) (.r 0))), (23, (.r 0)), (22, (.r 2)), (20, (.ci .eql (.r 2) (.con (.v (.int .u64 0))))), (19, (.r 2)), (7, (.con (.v (.int .u64 0)))), (6, (.con (.v (.int .u64 0))))], []⟩ [] 35 61 [(.r 34)]
    (.chk (.ci .geq (.conv .u64 (.r 35)) (.con (.int 0)))
    (.chk (.ci .geq (.con (.v (.int .u64 32))) (.con (.int 0)))
    (.chk (.ci .geq (.ai .sub .u64 (.con (.v (.int .u64 64))) (.conv .u64 (.r 35))) (.con (.int 0)))
    (.chk (.ci .neq (.ai .shr .u64 (.ai .shl .u64 (.r 2) (.conv .u64 (.r 35))) (.con (.v (.int .u64 32)))) (.con (.int 0)))
    (.brk ⟨[(16, (.ai .sub .u64 (.ai .or .u64 (.ai .shl .u64 (.r 0) (.conv .u64 (.r 35))) (.ai .shr .u64 (.r 1) (.ai .sub .u64 (.con (.v (.int .u64 64))) (.conv .u64 (.r 35))))) (.ai .mul .u64 (.ai .quo .u64 (.ai .or .u64 (.ai .shl .u64 (.r 0) (.conv .u64 (.r 35))) (.ai .shr .u64 (.r 1) (.ai .sub .u64 (.con (.v (.int .u64 64))) (.conv .u64 (.r 35))))) (.ai .shr .u64 (.ai .shl .u64 (.r 2) (.conv .u64 (.r 35))) (.con (.v (.int .u64 32))))) (.ai .shr .u64 (.ai .shl .u64 (.r 2) (.conv .u64 (.r 35))) (.con (.v (.int .u64 32))))))), (66, (.ai .sub .u64 (.ai .or .u64 (.ai .shl .u64 (.r 0) (.conv .u64 (.r 35))) (.ai .shr .u64 (.r 1) (.ai .sub .u64 (.con (.v (.int .u64 64))) (.conv .u64 (.r 35))))) (.ai .mul .u64 (.ai .quo .u64 (.ai .or .u64 (.ai .shl .u64 (.r 0) (.conv .u64 (.r 35))) (.ai .shr .u64 (.r 1) (.ai .sub .u64 (.con (.v (.int .u64 64))) (.conv .u64 (.r 35))))) (.ai .shr .u64 (.ai .shl .u64 (.r 2) (.conv .u64 (.r 35))) (.con (.v (.int .u64 32))))) (.ai .shr .u64 (.ai .shl .u64 (.r 2) (.conv .u64 (.r 35))) (.con (.v (.int .u64 32))))))), (65, (.ai .mul .u64 (.ai .quo .u64 (.ai .or .u64 (.ai .shl .u64 (.r 0) (.conv .u64 (.r 35))) (.ai .shr .u64 (.r 1) (.ai .sub .u64 (.con (.v (.int .u64 64))) (.conv .u64 (.r 35))))) (.ai .shr .u64 (.ai .shl .u64 (.r 2) (.conv .u64 (.r 35))) (.con (.v (.int .u64 32))))) (.ai .shr .u64 (.ai .shl .u64 (.r 2) (.conv .u64 (.r 35))) (.con (.v (.int .u64 32)))))), (64, (.ai .shr .u64 (.ai .shl .u64 (.r 2) (.conv .u64 (.r 35))) (.con (.v (.int .u64 32))))), (63, (.ai .quo .u64 (.ai .or .u64 (.ai .shl .u64 (.r 0) (.conv .u64 (.r 35))) (.ai .shr .u64 (.r 1) (.ai .sub .u64 (.con (.v (.int .u64 64))) (.conv .u64 (.r 35))))) (.ai .shr .u64 (.ai .shl .u64 (.r 2) (.conv .u64 (.r 35))) (.con (.v (.int .u64 32)))))), (62, (.ai .or .u64 (.ai .shl .u64 (.r 0) (.conv .u64 (.r 35))) (.ai .shr .u64 (.r 1) (.ai .sub .u64 (.con (.v (.int .u64 64))) (.conv .u64 (.r 35)))))), (15, (.ai .quo .u64 (.ai .or .u64 (.ai .shl .u64 (.r 0) (.conv .u64 (.r 35))) (.ai .shr .u64 (.r 1) (.ai .sub .u64 (.con (.v (.int .u64 64))) (.conv .u64 (.r 35))))) (.ai .shr .u64 (.ai .shl .u64 (.r 2) (.conv .u64 (.r 35))) (.con (.v (.int .u64 32)))))), (61, (.ai .quo .u64 (.ai .or .u64 (.ai .shl .u64 (.r 0) (.conv .u64 (.r 35))) (.ai .shr .u64 (.r 1) (.ai .sub .u64 (.con (.v (.int .u64 64))) (.conv .u64 (.r 35))))) (.ai .shr .u64 (.ai .shl .u64 (.r 2) (.conv .u64 (.r 35))) (.con (.v (.int .u64 32)))))), (60, (.ai .shr .u64 (.ai .shl .u64 (.r 2) (.conv .u64 (.r 35))) (.con (.v (.int .u64 32))))), (59, (.ai .or .u64 (.ai .shl .u64 (.r 0) (.conv .u64 (.r 35))) (.ai .shr .u64 (.r 1) (.ai .sub .u64 (.con (.v (.int .u64 64))) (.conv .u64 (.r 35)))))), (14, (.ai .and .u64 (.ai .shl .u64 (.r 1) (.conv .u64 (.r 35))) (.con (.v (.int .u64 4294967295))))), (58, (.ai .and .u64 (.ai .shl .u64 (.r 1) (.conv .u64 (.r 35))) (.con (.v (.int .u64 4294967295))))), (57, (.ai .shl .u64 (.r 1) (.conv .u64 (.r 35)))), (13, (.ai .shr .u64 (.ai .shl .u64 (.r 1) (.conv .u64 (.r 35))) (.con (.v (.int .u64 32))))), (56, (.ai .shr .u64 (.ai .shl .u64 (.r 1) (.conv .u64 (.r 35))) (.con (.v (.int .u64 32))))), (55, (.ai .shl .u64 (.r 1) (.conv .u64 (.r 35)))), (12, (.ai .shl .u64 (.r 1) (.conv .u64 (.r 35)))), (54, (.ai .shl .u64 (.r 1) (.conv .u64 (.r 35)))), (53, (.conv .u64 (.r 35))), (52, (.r 1)), (11, (.ai .or .u64 (.ai .shl .u64 (.r 0) (.conv .u64 (.r 35))) (.ai .shr .u64 (.r 1) (.ai .sub .u64 (.con (.v (.int .u64 64))) (.conv .u64 (.r 35)))))), (51, (.ai .or .u64 (.ai .shl .u64 (.r 0) (.conv .u64 (.r 35))) (.ai .shr .u64 (.r 1) (.ai .sub .u64 (.con (.v (.int .u64 64))) (.conv .u64 (.r 35)))))), (50, (.ai .shr .u64 (.r 1) (.ai .sub .u64 (.con (.v (.int .u64 64))) (.conv .u64 (.r 35))))), (49, (.ai .sub .u64 (.con (.v (.int .u64 64))) (.conv .u64 (.r 35)))), (48, (.conv .u64 (.r 35))), (47, (.r 1)), (46, (.ai .shl .u64 (.r 0) (.conv .u64 (.r 35)))), (45, (.conv .u64 (.r 35))), (44, (.r 0)), (10, (.ai .and .u64 (.ai .shl .u64 (.r 2) (.conv .u64 (.r 35))) (.con (.v (.int .u64 4294967295))))), (43, (.ai .and .u64 (.ai .shl .u64 (.r 2) (.conv .u64 (.r 35))) (.con (.v (.int .u64 4294967295))))), (42, (.ai .shl .u64 (.r 2) (.conv .u64 (.r 35)))), (9, (.ai .shr .u64 (.ai .shl .u64 (.r 2) (.conv .u64 (.r 35))) (.con (.v (.int .u64 32))))), (41, (.ai .shr .u64 (.ai .shl .u64 (.r 2) (.conv .u64 (.r 35))) (.con (.v (.int .u64 32))))), (40, (.ai .shl .u64 (.r 2) (.conv .u64 (.r 35)))), (2, (.ai .shl .u64 (.r 2) (.conv .u64 (.r 35)))), (39, (.ai .shl .u64 (.r 2) (.conv .u64 (.r 35)))), (38, (.conv .u64 (.r 35))), (37, (.r 2)), (8, (.conv .u64 (.r 35))), (36, (.conv .u64 (.r 35)))], []⟩
     lp57_0
    (.chk (.ci .neq (.r 9) (.con (.int 0)))
    (.brk ⟨[(16, (.ai .sub .u64 (.ai .sub .u64 (.ai .add .u64 (.ai .mul .u64 (.r 11) (.con (.v (.int .u64 4294967296)))) (.r 13)) (.ai .mul .u64 (.r 15) (.r 2))) (.ai .mul .u64 (.ai .quo .u64 (.ai .sub .u64 (.ai .add .u64 (.ai .mul .u64 (.r 11) (.con (.v (.int .u64 4294967296)))) (.r 13)) (.ai .mul .u64 (.r 15) (.r 2))) (.r 9)) (.r 9)))), (101, (.ai .sub .u64 (.ai .sub .u64 (.ai .add .u64 (.ai .mul .u64 (.r 11) (.con (.v (.int .u64 4294967296)))) (.r 13)) (.ai .mul .u64 (.r 15) (.r 2))) (.ai .mul .u64 (.ai .quo .u64 (.ai .sub .u64 (.ai .add .u64 (.ai .mul .u64 (.r 11) (.con (.v (.int .u64 4294967296)))) (.r 13)) (.ai .mul .u64 (.r 15) (.r 2))) (.r 9)) (.r 9)))), (100, (.ai .mul .u64 (.ai .quo .u64 (.ai .sub .u64 (.ai .add .u64 (.ai .mul .u64 (.r 11) (.con (.v (.int .u64 4294967296)))) (.r 13)) (.ai .mul .u64 (.r 15) (.r 2))) (.r 9)) (.r 9))), (99, (.r 9)), (98, (.ai .quo .u64 (.ai .sub .u64 (.ai .add .u64 (.ai .mul .u64 (.r 11) (.con (.v (.int .u64 4294967296)))) (.r 13)) (.ai .mul .u64 (.r 15) (.r 2))) (.r 9))), (97, (.ai .sub .u64 (.ai .add .u64 (.ai .mul .u64 (.r 11) (.con (.v (.int .u64 4294967296)))) (.r 13)) (.ai .mul .u64 (.r 15) (.r 2)))), (18, (.ai .quo .u64 (.ai .sub .u64 (.ai .add .u64 (.ai .mul .u64 (.r 11) (.con (.v (.int .u64 4294967296)))) (.r 13)) (.ai .mul .u64 (.r 15) (.r 2))) (.r 9))), (96, (.ai .quo .u64 (.ai .sub .u64 (.ai .add .u64 (.ai .mul .u64 (.r 11) (.con (.v (.int .u64 4294967296)))) (.r 13)) (.ai .mul .u64 (.r 15) (.r 2))) (.r 9))), (95, (.r 9)), (94, (.ai .sub .u64 (.ai .add .u64 (.ai .mul .u64 (.r 11) (.con (.v (.int .u64 4294967296)))) (.r 13)) (.ai .mul .u64 (.r 15) (.r 2)))), (17, (.ai .sub .u64 (.ai .add .u64 (.ai .mul .u64 (.r 11) (.con (.v (.int .u64 4294967296)))) (.r 13)) (.ai .mul .u64 (.r 15) (.r 2)))), (93, (.ai .sub .u64 (.ai .add .u64 (.ai .mul .u64 (.r 11) (.con (.v (.int .u64 4294967296)))) (.r 13)) (.ai .mul .u64 (.r 15) (.r 2)))), (92, (.ai .mul .u64 (.r 15) (.r 2))), (91, (.r 2)), (90, (.r 15)), (89, (.ai .add .u64 (.ai .mul .u64 (.r 11) (.con (.v (.int .u64 4294967296)))) (.r 13))), (88, (.r 13)), (87, (.ai .mul .u64 (.r 11) (.con (.v (.int .u64 4294967296))))), (86, (.r 11))], []⟩
     lp57_1
    (.chk (.ci .geq (.r 8) (.con (.int 0)))
    (.ret (.tup [(.ai .add .u64 (.ai .mul .u64 (.r 15) (.con (.v (.int .u64 4294967296)))) (.r 18)), (.ai .shr .u64 (.ai .sub .u64 (.ai .add .u64 (.ai .mul .u64 (.r 17) (.con (.v (.int .u64 4294967296)))) (.r 14)) (.ai .mul .u64 (.r 18) (.r 2))) (.r 8))]))))))))))))))
   (.ite (.ci .eql (.r 0) (.con (.v (.int .u64 0))))
    (.chk (.ci .neq (.r 2) (.con (.int 0)))
    (.ret (.tup [(.ai .quo .u64 (.r 1) (.r 2)), (.ai .rem .u64 (.r 1) (.r 2))])))
    (.call ⟨[(34, (.r 2)), (6, (.con (.v (.int .u64 0)))), (7, (.con (.v (.int .u64 0)))), (27, (.ci .eql (.r 0) (.con (.v (.int .u64 0))))), (26, (.r 0)), (24, (.ci .leq (.r 2) (.r 0))), (23, (.r 0)), (22, (.r 2)), (20, (.ci .eql (.r 2) (.con (.v (.int .u64 0))))), (19, (.r 2)), (7, (.con (.v (.int .u64 0)))), (6, (.con (.v (.int .u64 0))))], []⟩ [] 35 61 [(.r 34)]
    (.chk (.ci .geq (.conv .u64 (.r 35)) (.con (.int 0)))
    (.chk (.ci .geq (.con (.v (.int .u64 32))) (.con (.int 0)))
    (.chk (.ci .geq (.ai .sub .u64 (.con (.v (.int .u64 64))) (.conv .u64 (.r 35))) (.con (.int 0)))
    (.chk (.ci .neq (.ai .shr .u64 (.ai .shl .u64 (.r 2) (.conv .u64 (.r 35))) (.con (.v (.int .u64 32)))) (.con (.int 0)))
    (.brk ⟨[(16, (.ai .sub .u64 (.ai .or .u64 (.ai .shl .u64 (.r 0) (.conv .u64 (.r 35))) (.ai .shr .u64 (.r 1) (.ai .sub .u64 (.con (.v (.int .u64 64))) (.conv .u64 (.r 35))))) (.ai .mul .u64 (.ai .quo .u64 (.ai .or .u64 (.ai .shl .u64 (.r 0) (.conv .u64 (.r 35))) (.ai .shr .u64 (.r 1) (.ai .sub .u64 (.con (.v (.int .u64 64))) (.conv .u64 (.r 35))))) (.ai .shr .u64 (.ai .shl .u64 (.r 2) (.conv .u64 (.r 35))) (.con (.v (.int .u64 32))))) (.ai .shr .u64 (.ai .shl .u64 (.r 2) (.conv .u64 (.r 35))) (.con (.v (.int .u64 32))))))), (66, (.ai .sub .u64 (.ai .or .u64 (.ai .shl .u64 (.r 0) (.conv .u64 (.r 35))) (.ai .shr .u64 (.r 1) (.ai .sub .u64 (.con (.v (.int .u64 64))) (.conv .u64 (.r 35))))) (.ai .mul .u64 (.ai .quo .u64 (.ai .or .u64 (.ai .shl .u64 (.r 0) (.conv .u64 (.r 35))) (.ai .shr .u64 (.r 1) (.ai .sub .u64 (.con (.v (.int .u64 64))) (.conv .u64 (.r 35))))) (.ai .shr .u64 (.ai .shl .u64 (.r 2) (.conv .u64 (.r 35))) (.con (.v (.int .u64 32))))) (.ai .shr .u64 (.ai .shl .u64 (.r 2) (.conv .u64 (.r 35))) (.con (.v (.int .u64 32))))))), (65, (.ai .mul .u64 (.ai .quo .u64 (.ai .or .u64 (.ai .shl .u64 (.r 0) (.conv .u64 (.r 35))) (.ai .shr .u64 (.r 1) (.ai .sub .u64 (.con (.v (.int .u64 64))) (.conv .u64 (.r 35))))) (.ai .shr .u64 (.ai .shl .u64 (.r 2) (.conv .u64 (.r 35))) (.con (.v (.int .u64 32))))) (.ai .shr .u64 (.ai .shl .u64 (.r 2) (.conv .u64 (.r 35))) (.con (.v (.int .u64 32)))))), (64, (.ai .shr .u64 (.ai .shl .u64 (.r 2) (.conv .u64 (.r 35))) (.con (.v (.int .u64 32))))), (63, (.ai .quo .u64 (.ai .or .u64 (.ai .shl .u64 (.r 0) (.conv .u64 (.r 35))) (.ai .shr .u64 (.r 1) (.ai .sub .u64 (.con (.v (.int .u64 64))) (.conv .u64 (.r 35))))) (.ai .shr .u64 (.ai .shl .u64 (.r 2) (.conv .u64 (.r 35))) (.con (.v (.int .u64 32)))))), (62, (.ai .or .u64 (.ai .shl .u64 (.r 0) (.conv .u64 (.r 35))) (.ai .shr .u64 (.r 1) (.ai .sub .u64 (.con (.v (.int .u64 64))) (.conv .u64 (.r 35)))))), (15, (.ai .quo .u64 (.ai .or .u64 (.ai .shl .u64 (.r 0) (.conv .u64 (.r 35))) (.ai .shr .u64 (.r 1) (.ai .sub .u64 (.con (.v (.int .u64 64))) (.conv .u64 (.r 35))))) (.ai .shr .u64 (.ai .shl .u64 (.r 2) (.conv .u64 (.r 35))) (.con (.v (.int .u64 32)))))), (61, (.ai .quo .u64 (.ai .or .u64 (.ai .shl .u64 (.r 0) (.conv .u64 (.r 35))) (.ai .shr .u64 (.r 1) (.ai .sub .u64 (.con (.v (.int .u64 64))) (.conv .u64 (.r 35))))) (.ai .shr .u64 (.ai .shl .u64 (.r 2) (.conv .u64 (.r 35))) (.con (.v (.int .u64 32)))))), (60, (.ai .shr .u64 (.ai .shl .u64 (.r 2) (.conv .u64 (.r 35))) (.con (.v (.int .u64 32))))), (59, (.ai .or .u64 (.ai .shl .u64 (.r 0) (.conv .u64 (.r 35))) (.ai .shr .u64 (.r 1) (.ai .sub .u64 (.con (.v (.int .u64 64))) (.conv .u64 (.r 35)))))), (14, (.ai .and .u64 (.ai .shl .u64 (.r 1) (.conv .u64 (.r 35))) (.con (.v (.int .u64 4294967295))))), (58, (.ai .and .u64 (.ai .shl .u64 (.r 1) (.conv .u64 (.r 35))) (.con (.v (.int .u64 4294967295))))), (57, (.ai .shl .u64 (.r 1) (.conv .u64 (.r 35)))), (13, (.ai .shr .u64 (.ai .shl .u64 (.r 1) (.conv .u64 (.r 35))) (.con (.v (.int .u64 32))))), (56, (.ai .shr .u64 (.ai .shl .u64 (.r 1) (.conv .u64 (.r 35))) (.con (.v (.int .u64 32))))), (55, (.ai .shl .u64 (.r 1) (.conv .u64 (.r 35)))), (12, (.ai .shl .u64 (.r 1) (.conv .u64 (.r 35)))), (54, (.ai .shl .u64 (.r 1) (.conv .u64 (.r 35)))), (53, (.conv .u64 (.r 35))), (52, (.r 1)), (11, (.ai .or .u64 (.ai .shl .u64 (.r 0) (.conv .u64 (.r 35))) (.ai .shr .u64 (.r 1) (.ai .sub .u64 (.con (.v (.int .u64 64))) (.conv .u64 (.r 35)))))), (51, (.ai .or .u64 (.ai .shl .u64 (.r 0) (.conv .u64 (.r 35))) (.ai .shr .u64 (.r 1) (.ai .sub .u64 (.con (.v (.int .u64 64))) (.conv .u64 (.r 35)))))), (50, (.ai .shr .u64 (.r 1) (.ai .sub .u64 (.con (.v (.int .u64 64))) (.conv .u64 (.r 35))))), (49, (.ai .sub .u64 (.con (.v (.int .u64 64))) (.conv .u64 (.r 35)))), (48, (.conv .u64 (.r 35))), (47, (.r 1)), (46, (.ai .shl .u64 (.r 0) (.conv .u64 (.r 35)))), (45, (.conv .u64 (.r 35))), (44, (.r 0)), (10, (.ai .and .u64 (.ai .shl .u64 (.r 2) (.conv .u64 (.r 35))) (.con (.v (.int .u64 4294967295))))), (43, (.ai .and .u64 (.ai .shl .u64 (.r 2) (.conv .u64 (.r 35))) (.con (.v (.int .u64 4294967295))))), (42, (.ai .shl .u64 (.r 2) (.conv .u64 (.r 35)))), (9, (.ai .shr .u64 (.ai .shl .u64 (.r 2) (.conv .u64 (.r 35))) (.con (.v (.int .u64 32))))), (41, (.ai .shr .u64 (.ai .shl .u64 (.r 2) (.conv .u64 (.r 35))) (.con (.v (.int .u64 32))))), (40, (.ai .shl .u64 (.r 2) (.conv .u64 (.r 35)))), (2, (.ai .shl .u64 (.r 2) (.conv .u64 (.r 35)))), (39, (.ai .shl .u64 (.r 2) (.conv .u64 (.r 35)))), (38, (.conv .u64 (.r 35))), (37, (.r 2)), (8, (.conv .u64 (.r 35))), (36, (.conv .u64 (.r 35)))], []⟩
     lp57_0
    (.chk (.ci .neq (.r 9) (.con (.int 0)))
    (.brk ⟨[(16, (.ai .sub .u64 (.ai .sub .u64 (.ai .add .u64 (.ai .mul .u64 (.r 11) (.con (.v (.int .u64 4294967296)))) (.r 13)) (.ai .mul .u64 (.r 15) (.r 2))) (.ai .mul .u64 (.ai .quo .u64 (.ai .sub .u64 (.ai .add .u64 (.ai .mul .u64 (.r 11) (.con (.v (.int .u64 4294967296)))) (.r 13)) (.ai .mul .u64 (.r 15) (.r 2))) (.r 9)) (.r 9)))), (101, (.ai .sub .u64 (.ai .sub .u64 (.ai .add .u64 (.ai .mul .u64 (.r 11) (.con (.v (.int .u64 4294967296)))) (.r 13)) (.ai .mul .u64 (.r 15) (.r 2))) (.ai .mul .u64 (.ai .quo .u64 (.ai .sub .u64 (.ai .add .u64 (.ai .mul .u64 (.r 11) (.con (.v (.int .u64 4294967296)))) (.r 13)) (.ai .mul .u64 (.r 15) (.r 2))) (.r 9)) (.r 9)))), (100, (.ai .mul .u64 (.ai .quo .u64 (.ai .sub .u64 (.ai .add .u64 (.ai .mul .u64 (.r 11) (.con (.v (.int .u64 4294967296)))) (.r 13)) (.ai .mul .u64 (.r 15) (.r 2))) (.r 9)) (.r 9))), (99, (.r 9)), (98, (.ai .quo .u64 (.ai .sub .u64 (.ai .add .u64 (.ai .mul .u64 (.r 11) (.con (.v (.int .u64 4294967296)))) (.r 13)) (.ai .mul .u64 (.r 15) (.r 2))) (.r 9))), (97, (.ai .sub .u64 (.ai .add .u64 (.ai .mul .u64 (.r 11) (.con (.v (.int .u64 4294967296)))) (.r 13)) (.ai .mul .u64 (.r 15) (.r 2)))), (18, (.ai .quo .u64 (.ai .sub .u64 (.ai .add .u64 (.ai .mul .u64 (.r 11) (.con (.v (.int .u64 4294967296)))) (.r 13)) (.ai .mul .u64 (.r 15) (.r 2))) (.r 9))), (96, (.ai .quo .u64 (.ai .sub .u64 (.ai .add .u64 (.ai .mul .u64 (.r 11) (.con (.v (.int .u64 4294967296)))) (.r 13)) (.ai .mul .u64 (.r 15) (.r 2))) (.r 9))), (95, (.r 9)), (94, (.ai .sub .u64 (.ai .add .u64 (.ai .mul .u64 (.r 11) (.con (.v (.int .u64 4294967296)))) (.r 13)) (.ai .mul .u64 (.r 15) (.r 2)))), (17, (.ai .sub .u64 (.ai .add .u64 (.ai .mul .u64 (.r 11) (.con (.v (.int .u64 4294967296)))) (.r 13)) (.ai .mul .u64 (.r 15) (.r 2)))), (93, (.ai .sub .u64 (.ai .add .u64 (.ai .mul .u64 (.r 11) (.con (.v (.int .u64 4294967296)))) (.r 13)) (.ai .mul .u64 (.r 15) (.r 2)))), (92, (.ai .mul .u64 (.r 15) (.r 2))), (91, (.r 2)), (90, (.r 15)), (89, (.ai .add .u64 (.ai .mul .u64 (.r 11) (.con (.v (.int .u64 4294967296)))) (.r 13))), (88, (.r 13)), (87, (.ai .mul .u64 (.r 11) (.con (.v (.int .u64 4294967296))))), (86, (.r 11))], []⟩
     lp57_1
    (.chk (.ci .geq (.r 8) (.con (.int 0)))
    (.ret (.tup [(.ai .add .u64 (.ai .mul .u64 (.r 15) (.con (.v (.int .u64 4294967296)))) (.r 18)), (.ai .shr .u64 (.ai .sub .u64 (.ai .add .u64 (.ai .mul .u64 (.r 17) (.con (.v (.int .u64 4294967296)))) (.r 14)) (.ai .mul .u64 (.r 18) (.r 2))) (.r 8))])))))))))))))))
  (.ite (.ci .leq (.r 2) (.r 0))
   (.chk (.con (.bool false))
   (.chk (.nt (.con (.bool true)))
   (.ite (.ci .eql (.r 0) (.con (.v (.int .u64 0))))
    (.chk (.ci .neq (.r 2) (.con (.int 0)))
    (.ret (.tup [(.ai .quo .u64 (.r 1) (.r 2)), (.ai .rem .u64 (.r 1) (.r 2))])))
    (.call ⟨[(34, (.r 2)), (6, (.con (.v (.int .u64 0)))), (7, (.con (.v (.int .u64 0)))), (27, (.ci .eql (.r 0) (.con (.v (.int .u64 0))))), (26, (.r 0)), (24, (.ci .leq (.r 2) (.r 0))), (23, (.r 0)), (22, (.r 2)), (20, (.ci .eql (.r 2) (.con (.v (.int .u64 0))))), (19, (.r 2)), (7, (.con (.v (.int .u64 0)))), (6, (.con (.v (.int .u64 0))))], []⟩ [] 35 61 [(.r 34)]
    (.chk (.ci .geq (.conv .u64 (.r 35)) (.con (.int 0)))
    (.chk (.ci .geq (.con (.v (.int .u64 32))) (.con (.int 0)))
    (.chk (.ci .geq (.ai .sub .u64 (.con (.v (.int .u64 64))) (.conv .u64 (.r 35))) (.con (.int 0)))
    (.chk (.ci .neq (.ai .shr .u64 (.ai .shl .u64 (.r 2) (.conv .u64 (.r 35))) (.con (.v (.int .u64 32)))) (.con (.int 0)))
    (.brk ⟨[(16, (.ai .sub .u64 (.ai .or .u64 (.ai .shl .u64 (.r 0) (.conv .u64 (.r 35))) (.ai .shr .u64 (.r 1) (.ai .sub .u64 (.con (.v (.int .u64 64))) (.conv .u64 (.r 35))))) (.ai .mul .u64 (.ai .quo .u64 (.ai .or .u64 (.ai .shl .u64 (.r 0) (.conv .u64 (.r 35))) (.ai .shr .u64 (.r 1) (.ai .sub .u64 (.con (.v (.int .u64 64))) (.conv .u64 (.r 35))))) (.ai .shr .u64 (.ai .shl .u64 (.r 2) (.conv .u64 (.r 35))) (.con (.v (.int .u64 32))))) (.ai .shr .u64 (.ai .shl .u64 (.r 2) (.conv .u64 (.r 35))) (.con (.v (.int .u64 32))))))), (66, (.ai .sub .u64 (.ai .or .u64 (.ai .shl .u64 (.r 0) (.conv .u64 (.r 35))) (.ai .shr .u64 (.r 1) (.ai .sub .u64 (.con (.v (.int .u64 64))) (.conv .u64 (.r 35))))) (.ai .mul .u64 (.ai .quo .u64 (.ai .or .u64 (.ai .shl .u64 (.r 0) (.conv .u64 (.r 35))) (.ai .shr .u64 (.r 1) (.ai .sub .u64 (.con (.v (.int .u64 64))) (.conv .u64 (.r 35))))) (.ai .shr .u64 (.ai .shl .u64 (.r 2) (.conv .u64 (.r 35))) (.con (.v (.int .u64 32))))) (.ai .shr .u64 (.ai .shl .u64 (.r 2) (.conv .u64 (.r 35))) (.con (.v (.int .u64 32))))))), (65, (.ai .mul .u64 (.ai .quo .u64 (.ai .or .u64 (.ai .shl .u64 (.r 0) (.conv .u64 (.r 35))) (.ai .shr .u64 (.r 1) (.ai .sub .u64 (.con (.v (.int .u64 64))) (.conv .u64 (.r 35))))) (.ai .shr .u64 (.ai .shl .u64 (.r 2) (.conv .u64 (.r 35))) (.con (.v (.int .u64 32))))) (.ai .shr .u64 (.ai .shl .u64 (.r 2) (.conv .u64 (.r 35))) (.con (.v (.int .u64 32)))))), (64, (.ai .shr .u64 (.ai .shl .u64 (.r 2) (.conv .u64 (.r 35))) (.con (.v (.int .u64 32))))), (63, (.ai .quo .u64 (.ai .or .u64 (.ai .shl .u64 (.r 0) (.conv .u64 (.r 35))) (.ai .shr .u64 (.r 1) (.ai .sub .u64 (.con (.v (.int .u64 64))) (.conv .u64 (.r 35))))) (.ai .shr .u64 (.ai .shl .u64 (.r 2) (.conv .u64 (.r 35))) (.con (.v (.int .u64 32)))))), (62, (.ai .or .u64 (.ai .shl .u64 (.r 0) (.conv .u64 (.r 35))) (.ai .shr .u64 (.r 1) (.ai .sub .u64 (.con (.v (.int .u64 64))) (.conv .u64 (.r 35)))))), (15, (.ai .quo .u64 (.ai .or .u64 (.ai .shl .u64 (.r 0) (.conv .u64 (.r 35))) (.ai .shr .u64 (.r 1) (.ai .sub .u64 (.con (.v (.int .u64 64))) (.conv .u64 (.r 35))))) (.ai .shr .u64 (.ai .shl .u64 (.r 2) (.conv .u64 (.r 35))) (.con (.v (.int .u64 32)))))), (61, (.ai .quo .u64 (.ai .or .u64 (.ai .shl .u64 (.r 0) (.conv .u64 (.r 35))) (.ai .shr .u64 (.r 1) (.ai .sub .u64 (.con (.v (.int .u64 64))) (.conv .u64 (.r 35))))) (.ai .shr .u64 (.ai .shl .u64 (.r 2) (.conv .u64 (.r 35))) (.con (.v (.int .u64 32)))))), (60, (.ai .shr .u64 (.ai .shl .u64 (.r 2) (.conv .u64 (.r 35))) (.con (.v (.int .u64 32))))), (59, (.ai .or .u64 (.ai .shl .u64 (.r 0) (.conv .u64 (.r 35))) (.ai .shr .u64 (.r 1) (.ai .sub .u64 (.con (.v (.int .u64 64))) (.conv .u64 (.r 35)))))), (14, (.ai .and .u64 (.ai .shl .u64 (.r 1) (.conv .u64 (.r 35))) (.con (.v (.int .u64 4294967295))))), (58, (.ai .and .u64 (.ai .shl .u64 (.r 1) (.conv .u64 (.r 35))) (.con (.v (.int .u64 4294967295))))), (57, (.ai .shl .u64 (.r 1) (.conv .u64 (.r 35)))), (13, (.ai .shr .u64 (.ai .shl .u64 (.r 1) (.conv .u64 (.r 35))) (.con (.v (.int .u64 32))))), (56, (.ai .shr .u64 (.ai .shl .u64 (.r 1) (.conv .u64 (.r 35))) (.con (.v (.int .u64 32))))), (55, (.ai .shl .u64 (.r 1) (.conv .u64 (.r 35)))), (12, (.ai .shl .u64 (.r 1) (.conv .u64 (.r 35)))), (54, (.ai .shl .u64 (.r 1) (.conv .u64 (.r 35)))), (53, (.conv .u64 (.r 35))), (52, (.r 1)), (11, (.ai .or .u64 (.ai .shl .u64 (.r 0) (.conv .u64 (.r 35))) (.ai .shr .u64 (.r 1) (.ai .sub .u64 (.con (.v (.int .u64 64))) (.conv .u64 (.r 35)))))), (51, (.ai .or .u64 (.ai .shl .u64 (.r 0) (.conv .u64 (.r 35))) (.ai .shr .u64 (.r 1) (.ai .sub .u64 (.con (.v (.int .u64 64))) (.conv .u64 (.r 35)))))), (50, (.ai .shr .u64 (.r 1) (.ai .sub .u64 (.con (.v (.int .u64 64))) (.conv .u64 (.r 35))))), (49, (.ai .sub .u64 (.con (.v (.int .u64 64))) (.conv .u64 (.r 35)))), (48, (.conv .u64 (.r 35))), (47, (.r 1)), (46, (.ai .shl .u64 (.r 0) (.conv .u64 (.r 35)))), (45, (.conv .u64 (.r 35))), (44, (.r 0)), (10, (.ai .and .u64 (.ai .shl .u64 (.r 2) (.conv .u64 (.r 35))) (.con (.v (.int .u64 4294967295))))), (43, (.ai .and .u64 (.ai .shl .u64 (.r 2) (.conv .u64 (.r 35))) (.con (.v (.int .u64 4294967295))))), (42, (.ai .shl .u64 (.r 2) (.conv .u64 (.r 35)))), (9, (.ai .shr .u64 (.ai .shl .u64 (.r 2) (.conv .u64 (.r 35))) (.con (.v (.int .u64 32))))), (41, (.ai .shr .u64 (.ai .shl .u64 (.r 2) (.conv .u64 (.r 35))) (.con (.v (.int .u64 32))))), (40, (.ai .shl .u64 (.r 2) (.conv .u64 (.r 35)))), (2, (.ai .shl .u64 (.r 2) (.conv .u64 (.r 35)))), (39, (.ai .shl .u64 (.r 2) (.conv .u64 (.r 35)))), (38, (.conv .u64 (.r 35))), (37, (.r 2)), (8, (.conv .u64 (.r 35))), (36, (.conv .u64 (.r 35)))], []⟩
     lp57_0
    (.chk (.ci .neq (.r 9) (.con (.int 0)))
    (.brk ⟨[(16, (.ai .sub .u64 (.ai .sub .u64 (.ai .add .u64 (.ai .mul .u64 (.r 11) (.con (.v (.int .u64 4294967296)))) (.r 13)) (.ai .mul .u64 (.r 15) (.r 2))) (.ai .mul .u64 (.ai .quo .u64 (.ai .sub .u64 (.ai .add .u64 (.ai .mul .u64 (.r 11) (.con (.v (.int .u64 4294967296)))) (.r 13)) (.ai .mul .u64 (.r 15) (.r 2))) (.r 9)) (.r 9)))), (101, (.ai .sub .u64 (.ai .sub .u64 (.ai .add .u64 (.ai .mul .u64 (.r 11) (.con (.v (.int .u64 4294967296)))) (.r 13)) (.ai .mul .u64 (.r 15) (.r 2))) (.ai .mul .u64 (.ai .quo .u64 (.ai .sub .u64 (.ai .add .u64 (.ai .mul .u64 (.r 11) (.con (.v (.int .u64 4294967296)))) (.r 13)) (.ai .mul .u64 (.r 15) (.r 2))) (.r 9)) (.r 9)))), (100, (.ai .mul .u64 (.ai .quo .u64 (.ai .sub .u64 (.ai .add .u64 (.ai .mul .u64 (.r 11) (.con (.v (.int .u64 4294967296)))) (.r 13)) (.ai .mul .u64 (.r 15) (.r 2))) (.r 9)) (.r 9))), (99, (.r 9)), (98, (.ai .quo .u64 (.ai .sub .u64 (.ai .add .u64 (.ai .mul .u64 (.r 11) (.con (.v (.int .u64 4294967296)))) (.r 13)) (.ai .mul .u64 (.r 15) (.r 2))) (.r 9))), (97, (.ai .sub .u64 (.ai .add .u64 (.ai .mul .u64 (.r 11) (.con (.v (.int .u64 4294967296)))) (.r 13)) (.ai .mul .u64 (.r 15) (.r 2)))), (18, (.ai .quo .u64 (.ai .sub .u64 (.ai .add .u64 (.ai .mul .u64 (.r 11) (.con (.v (.int .u64 4294967296)))) (.r 13)) (.ai .mul .u64 (.r 15) (.r 2))) (.r 9))), (96, (.ai .quo .u64 (.ai .sub .u64 (.ai .add .u64 (.ai .mul .u64 (.r 11) (.con (.v (.int .u64 4294967296)))) (.r 13)) (.ai .mul .u64 (.r 15) (.r 2))) (.r 9))), (95, (.r 9)), (94, (.ai .sub .u64 (.ai .add .u64 (.ai .mul .u64 (.r 11) (.con (.v (.int .u64 4294967296)))) (.r 13)) (.ai .mul .u64 (.r 15) (.r 2)))), (17, (.ai .sub .u64 (.ai .add .u64 (.ai .mul .u64 (.r 11) (.con (.v (.int .u64 4294967296)))) (.r 13)) (.ai .mul .u64 (.r 15) (.r 2)))), (93, (.ai .sub .u64 (.ai .add .u64 (.ai .mul .u64 (.r 11) (.con (.v (.int .u64 4294967296)))) (.r 13)) (.ai .mul .u64 (.r 15) (.r 2)))), (92, (.ai .mul .u64 (.r 15) (.r 2))), (91, (.r 2)), (90, (.r 15)), (89, (.ai .add .u64 (.ai .mul .u64 (.r 11) (.con (.v (.int .u64 4294967296)))) (.r 13))), (88, (.r 13)), (87, (.ai .mul .u64 (.r 11) (.con (.v (.int .u64 4294967296))))), (86, (.r 11))], []⟩
     lp57_1
    (.chk (.ci .geq (.r 8) (.con (.int 0)))
    (.ret (.tup [(.ai .add .u64 (.ai .mul .u64 (.r 15) (.con (.v (.int .u64 4294967296)))) (.r 18)), (.ai .shr .u64 (.ai .sub .u64 (.ai .add .u64 (.ai .mul .u64 (.r 17) (.con (.v (.int .u64 4294967296)))) (.r 14)) (.ai .mul .u64 (.r 18) (.r 2))) (.r 8))]))))))))))))))
   (.ite (.ci .eql (.r 0) (.con (.v (.int .u64 0))))
    (.chk (.ci .neq (.r 2) (.con (.int 0)))
    (.ret (.tup [(.ai .quo .u64 (.r 1) (.r 2)), (.ai .rem .u64 (.r 1) (.r 2))])))
    (.call ⟨[(34, (.r 2)), (6, (.con (.v (.int .u64 0)))), (7, (.con (.v (.int .u64 0)))), (27, (.ci .eql (.r 0) (.con (.v (.int .u64 0))))), (26, (.r 0)), (24, (.ci .leq (.r 2) (.r 0))), (23, (.r 0)), (22, (.r 2)), (20, (.ci .eql (.r 2) (.con (.v (.int .u64 0))))), (19, (.r 2)), (7, (.con (.v (.int .u64 0)))), (6, (.con (.v (.int .u64 0))))], []⟩ [] 35 61 [(.r 34)]
    (.chk (.ci .geq (.conv .u64 (.r 35)) (.con (.int 0)))
    (.chk (.ci .geq (.con (.v (.int .u64 32))) (.con (.int 0)))
    (.chk (.ci .geq (.ai .sub .u64 (.con (.v (.int .u64 64))) (.conv .u64 (.r 35))) (.con (.int 0)))
    (.chk (.ci .neq (.ai .shr .u64 (.ai .shl .u64 (.r 2) (.conv .u64 (.r 35))) (.con (.v (.int .u64 32)))) (.con (.int 0)))
    (.brk ⟨[(16, (.ai .sub .u64 (.ai .or .u64 (.ai .shl .u64 (.r 0) (.conv .u64 (.r 35))) (.ai .shr .u64 (.r 1) (.ai .sub .u64 (.con (.v (.int .u64 64))) (.conv .u64 (.r 35))))) (.ai .mul .u64 (.ai .quo .u64 (.ai .or .u64 (.ai .shl .u64 (.r 0) (.conv .u64 (.r 35))) (.ai .shr .u64 (.r 1) (.ai .sub .u64 (.con (.v (.int .u64 64))) (.conv .u64 (.r 35))))) (.ai .shr .u64 (.ai .shl .u64 (.r 2) (.conv .u64 (.r 35))) (.con (.v (.int .u64 32))))) (.ai .shr .u64 (.ai .shl .u64 (.r 2) (.conv .u64 (.r 35))) (.con (.v (.int .u64 32))))))), (66, (.ai .sub .u64 (.ai .or .u64 (.ai .shl .u64 (.r 0) (.conv .u64 (.r 35))) (.ai .shr .u64 (.r 1) (.ai .sub .u64 (.con (.v (.int .u64 64))) (.conv .u64 (.r 35))))) (.ai .mul .u64 (.ai .quo .u64 (.ai .or .u64 (.ai .shl .u64 (.r 0) (.conv .u64 (.r 35))) (.ai .shr .u64 (.r 1) (.ai .sub .u64 (.con (.v (.int .u64 64))) (.conv .u64 (.r 35))))) (.ai .shr .u64 (.ai .shl .u64 (.r 2) (.conv .u64 (.r 35))) (.con (.v (.int .u64 32))))) (.ai .shr .u64 (.ai .shl .u64 (.r 2) (.conv .u64 (.r 35))) (.con (.v (.int .u64 32))))))), (65, (.ai .mul .u64 (.ai .quo .u64 (.ai .or .u64 (.ai .shl .u64 (.r 0) (.conv .u64 (.r 35))) (.ai .shr .u64 (.r 1) (.ai .sub .u64 (.con (.v (.int .u64 64))) (.conv .u64 (.r 35))))) (.ai .shr .u64 (.ai .shl .u64 (.r 2) (.conv .u64 (.r 35))) (.con (.v (.int .u64 32))))) (.ai .shr .u64 (.ai .shl .u64 (.r 2) (.conv .u64 (.r 35))) (.con (.v (.int .u64 32)))))), (64, (.ai .shr .u64 (.ai .shl .u64 (.r 2) (.conv .u64 (.r 35))) (.con (.v (.int .u64 32))))), (63, (.ai .quo .u64 (.ai .or .u64 (.ai .shl .u64 (.r 0) (.conv .u64 (.r 35))) (.ai .shr .u64 (.r 1) (.ai .sub .u64 (.con (.v (.int .u64 64))) (.conv .u64 (.r 35))))) (.ai .shr .u64 (.ai .shl .u64 (.r 2) (.conv .u64 (.r 35))) (.con (.v (.int .u64 32)))))), (62, (.ai .or .u64 (.ai .shl .u64 (.r 0) (.conv .u64 (.r 35))) (.ai .shr .u64 (.r 1) (.ai .sub .u64 (.con (.v (.int .u64 64))) (.conv .u64 (.r 35)))))), (15, (.ai .quo .u64 (.ai .or .u64 (.ai .shl .u64 (.r 0) (.conv .u64 (.r 35))) (.ai .shr .u64 (.r 1) (.ai .sub .u64 (.con (.v (.int .u64 64))) (.conv .u64 (.r 35))))) (.ai .shr .u64 (.ai .shl .u64 (.r 2) (.conv .u64 (.r 35))) (.con (.v (.int .u64 32)))))), (61, (.ai .quo .u64 (.ai .or .u64 (.ai .shl .u64 (.r 0) (.conv .u64 (.r 35))) (.ai .shr .u64 (.r 1) (.ai .sub .u64 (.con (.v (.int .u64 64))) (.conv .u64 (.r 35))))) (.ai .shr .u64 (.ai .shl .u64 (.r 2) (.conv .u64 (.r 35))) (.con (.v (.int .u64 32)))))), (60, (.ai .shr .u64 (.ai .shl .u64 (.r 2) (.conv .u64 (.r 35))) (.con (.v (.int .u64 32))))), (59, (.ai .or .u64 (.ai .shl .u64 (.r 0) (.conv .u64 (.r 35))) (.ai .shr .u64 (.r 1) (.ai .sub .u64 (.con (.v (.int .u64 64))) (.conv .u64 (.r 35)))))), (14, (.ai .and .u64 (.ai .shl .u64 (.r 1) (.conv .u64 (.r 35))) (.con (.v (.int .u64 4294967295))))), (58, (.ai .and .u64 (.ai .shl .u64 (.r 1) (.conv .u64 (.r 35))) (.con (.v (.int .u64 4294967295))))), (57, (.ai .shl .u64 (.r 1) (.conv .u64 (.r 35)))), (13, (.ai .shr .u64 (.ai .shl .u64 (.r 1) (.conv .u64 (.r 35))) (.con (.v (.int .u64 32))))), (56, (.ai .shr .u64 (.ai .shl .u64 (.r 1) (.conv .u64 (.r 35))) (.con (.v (.int .u64 32))))), (55, (.ai .shl .u64 (.r 1) (.conv .u64 (.r 35)))), (12, (.ai .shl .u64 (.r 1) (.conv .u64 (.r 35)))), (54, (.ai .shl .u64 (.r 1) (.conv .u64 (.r 35)))), (53, (.conv .u64 (.r 35))), (52, (.r 1)), (11, (.ai .or .u64 (.ai .shl .u64 (.r 0) (.conv .u64 (.r 35))) (.ai .shr .u64 (.r 1) (.ai .sub .u64 (.con (.v (.int .u64 64))) (.conv .u64 (.r 35)))))), (51, (.ai .or .u64 (.ai .shl .u64 (.r 0) (.conv .u64 (.r 35))) (.ai .shr .u64 (.r 1) (.ai .sub .u64 (.con (.v (.int .u64 64))) (.conv .u64 (.r 35)))))), (50, (.ai .shr .u64 (.r 1) (.ai .sub .u64 (.con (.v (.int .u64 64))) (.conv .u64 (.r 35))))), (49, (.ai .sub .u64 (.con (.v (.int .u64 64))) (.conv .u64 (.r 35)))), (48, (.conv .u64 (.r 35))), (47, (.r 1)), (46, (.ai .shl .u64 (.r 0) (.conv .u64 (.r 35)))), (45, (.conv .u64 (.r 35))), (44, (.r 0)), (10, (.ai .and .u64 (.ai .shl .u64 (.r 2) (.conv .u64 (.r 35))) (.con (.v (.int .u64 4294967295))))), (43, (.ai .and .u64 (.ai .shl .u64 (.r 2) (.conv .u64 (.r 35))) (.con (.v (.int .u64 4294967295))))), (42, (.ai .shl .u64 (.r 2) (.conv .u64 (.r 35)))), (9, (.ai .shr .u64 (.ai .shl .u64 (.r 2) (.conv .u64 (.r 35))) (.con (.v (.int .u64 32))))), (41, (.ai .shr .u64 (.ai .shl .u64 (.r 2) (.conv .u64 (.r 35))) (.con (.v (.int .u64 32))))), (40, (.ai .shl .u64 (.r 2) (.conv .u64 (.r 35)))), (2, (.ai .shl .u64 (.r 2) (.conv .u64 (.r 35)))), (39, (.ai .shl .u64 (.r 2) (.conv .u64 (.r 35)))), (38, (.conv .u64 (.r 35))), (37, (.r 2)), (8, (.conv .u64 (.r 35))), (36, (.conv .u64 (.r 35)))], []⟩
     lp57_0
    (.chk (.ci .neq (.r 9) (.con (.int 0)))
    (.brk ⟨[(16, (.ai .sub .u64 (.ai .sub .u64 (.ai .add .u64 (.ai .mul .u64 (.r 11) (.con (.v (.int .u64 4294967296)))) (.r 13)) (.ai .mul .u64 (.r 15) (.r 2))) (.ai .mul .u64 (.ai .quo .u64 (.ai .sub .u64 (.ai .add .u64 (.ai .mul .u64 (.r 11) (.con (.v (.int .u64 4294967296)))) (.r 13)) (.ai .mul .u64 (.r 15) (.r 2))) (.r 9)) (.r 9)))), (101, (.ai .sub .u64 (.ai .sub .u64 (.ai .add .u64 (.ai .mul .u64 (.r 11) (.con (.v (.int .u64 4294967296)))) (.r 13)) (.ai .mul .u64 (.r 15) (.r 2))) (.ai .mul .u64 (.ai .quo .u64 (.ai .sub .u64 (.ai .add .u64 (.ai .mul .u64 (.r 11) (.con (.v (.int .u64 4294967296)))) (.r 13)) (.ai .mul .u64 (.r 15) (.r 2))) (.r 9)) (.r 9)))), (100, (.ai .mul .u64 (.ai .quo .u64 (.ai .sub .u64 (.ai .add .u64 (.ai .mul .u64 (.r 11) (.con (.v (.int .u64 4294967296)))) (.r 13)) (.ai .mul .u64 (.r 15) (.r 2))) (.r 9)) (.r 9))), (99, (.r 9)), (98, (.ai .quo .u64 (.ai .sub .u64 (.ai .add .u64 (.ai .mul .u64 (.r 11) (.con (.v (.int .u64 4294967296)))) (.r 13)) (.ai .mul .u64 (.r 15) (.r 2))) (.r 9))), (97, (.ai .sub .u64 (.ai .add .u64 (.ai .mul .u64 (.r 11) (.con (.v (.int .u64 4294967296)))) (.r 13)) (.ai .mul .u64 (.r 15) (.r 2)))), (18, (.ai .quo .u64 (.ai .sub .u64 (.ai .add .u64 (.ai .mul .u64 (.r 11) (.con (.v (.int .u64 4294967296)))) (.r 13)) (.ai .mul .u64 (.r 15) (.r 2))) (.r 9))), (96, (.ai .quo .u64 (.ai .sub .u64 (.ai .add .u64 (.ai .mul .u64 (.r 11) (.con (.v (.int .u64 4294967296)))) (.r 13)) (.ai .mul .u64 (.r 15) (.r 2))) (.r 9))), (95, (.r 9)), (94, (.ai .sub .u64 (.ai .add .u64 (.ai .mul .u64 (.r 11) (.con (.v (.int .u64 4294967296)))) (.r 13)) (.ai .mul .u64 (.r 15) (.r 2)))), (17, (.ai .sub .u64 (.ai .add .u64 (.ai .mul .u64 (.r 11) (.con (.v (.int .u64 4294967296)))) (.r 13)) (.ai .mul .u64 (.r 15) (.r 2)))), (93, (.ai .sub .u64 (.ai .add .u64 (.ai .mul .u64 (.r 11) (.con (.v (.int .u64 4294967296)))) (.r 13)) (.ai .mul .u64 (.r 15) (.r 2)))), (92, (.ai .mul .u64 (.r 15) (.r 2))), (91, (.r 2)), (90, (.r 15)), (89, (.ai .add .u64 (.ai .mul .u64 (.r 11) (.con (.v (.int .u64 4294967296)))) (.r 13))), (88, (.r 13)), (87, (.ai .mul .u64 (.r 11) (.con (.v (.int .u64 4294967296))))), (86, (.r 11))], []⟩
     lp57_1
    (.chk (.ci .geq (.r 8) (.con (.int 0)))
    (.ret (.tup [(.ai .add .u64 (.ai .mul .u64 (.r 15) (.con (.v (.int .u64 4294967296)))) (.r 18)), (.ai .shr .u64 (.ai .sub .u64 (.ai .add .u64 (.ai .mul .u64 (.r 17) (.con (.v (.int .u64 4294967296)))) (.r 14)) (.ai .mul .u64 (.r 18) (.r 2))) (.r 8))]))))))))))))))
theorem tr57_eq : tree pc57 = tr57 := by kernel_rfl
/-! math/bits.LeadingZeros64 -/
def pc61 : PC :=
 (.seq
  (.is [.setR 2 (.con (.int 0))])
  (.seq
   (.is [.setR 3 (.r 0),
     .call [] 4 65 [(.r 3)],
     .setR 5 (.ai .sub .i64 (.con (.int 64)) (.r 4)),
     .setR 2 (.r 5)])
   (.ret (.r 2))))
def tr61 : PT :=
 (.call ⟨[(3, (.r 0)), (2, (.con (.int 0)))], []⟩ [] 4 65 [(.r 3)]
 (.ret (.ai .sub .i64 (.con (.int 64)) (.r 4))))
theorem tr61_eq : tree pc61 = tr61 := by kernel_rfl
/-! math/bits.Len64 -/
def pc65 : PC :=
 (.seq
  (.is [.setR 2 (.con (.int 0))])
  (.seq
   (.seq
    (.is [.setR 3 (.r 0),
      .setR 4 (.ci .geq (.r 3) (.con (.v (.int .u64 4294967296))))])
    (.ite (.r 4) [0, 2] []
     (.seq
      (.is [.setR 5 (.r 0),
        .chk (.ci .geq (.con (.v (.int .u64 32))) (.con (.int 0))),
        .setR 6 (.ai .shr .u64 (.r 5) (.con (.v (.int .u64 32)))),
        .setR 0 (.r 6)])
      (.is [.setR 2 (.con (.int 32))]))
     .skip))
   (.seq
    (.seq
     (.is [.setR 7 (.r 0),
       .setR 8 (.ci .geq (.r 7) (.con (.v (.int .u64 65536))))])
     (.ite (.r 8) [0, 2] []
      (.seq
       (.is [.setR 9 (.r 0),
         .chk (.ci .geq (.con (.v (.int .u64 16))) (.con (.int 0))),
         .setR 10 (.ai .shr .u64 (.r 9) (.con (.v (.int .u64 16)))),
         .setR 0 (.r 10)])
       (.is [.setR 11 (.r 2),
         .setR 12 (.ai .add .i64 (.r 11) (.con (.int 16))),
         .setR 2 (.r 12)]))
      .skip))
    (.seq
     (.seq
      (.is [.setR 13 (.r 0),
        .setR 14 (.ci .geq (.r 13) (.con (.v (.int .u64 256))))])
      (.ite (.r 14) [0, 2] []
       (.seq
        (.is [.setR 15 (.r 0),
          .chk (.ci .geq (.con (.v (.int .u64 8))) (.con (.int 0))),
          .setR 16 (.ai .shr .u64 (.r 15) (.con (.v (.int .u64 8)))),
          .setR 0 (.r 16)])
        (.is [.setR 17 (.r 2),
          .setR 18 (.ai .add .i64 (.r 17) (.con (.int 8))),
          .setR 2 (.r 18)]))
       .skip))
     (.seq
      (.is [.setR 19 (.r 2),
        .setR 20 (.r 0),
        .setR 21 (.conv .u8 (.r 20)),
        .chk (.sok (.con (.v (.string ⟨#[0, 1, 2, 2, 3, 3, 3, 3, 4, 4, 4, 4, 4, 4, 4, 4, 5, 5, 5, 5, 5, 5, 5, 5, 5, 5, 5, 5, 5, 5, 5, 5, 6, 6, 6, 6, 6, 6, 6, 6, 6, 6, 6, 6, 6, 6, 6, 6, 6, 6, 6, 6, 6, 6, 6, 6, 6, 6, 6, 6, 6, 6, 6, 6, 7, 7, 7, 7, 7, 7, 7, 7, 7, 7, 7, 7, 7, 7, 7, 7, 7, 7, 7, 7, 7, 7, 7, 7, 7, 7, 7, 7, 7, 7, 7, 7, 7, 7, 7, 7, 7, 7, 7, 7, 7, 7, 7, 7, 7, 7, 7, 7, 7, 7, 7, 7, 7, 7, 7, 7, 7, 7, 7, 7, 7, 7, 7, 7, 8, 8, 8, 8, 8, 8, 8, 8, 8, 8, 8, 8, 8, 8, 8, 8, 8, 8, 8, 8, 8, 8, 8, 8, 8, 8, 8, 8, 8, 8, 8, 8, 8, 8, 8, 8, 8, 8, 8, 8, 8, 8, 8, 8, 8, 8, 8, 8, 8, 8, 8, 8, 8, 8, 8, 8, 8, 8, 8, 8, 8, 8, 8, 8, 8, 8, 8, 8, 8, 8, 8, 8, 8, 8, 8, 8, 8, 8, 8, 8, 8, 8, 8, 8, 8, 8, 8, 8, 8, 8, 8, 8, 8, 8, 8, 8, 8, 8, 8, 8, 8, 8, 8, 8, 8, 8, 8, 8, 8, 8, 8, 8, 8, 8, 8, 8, 8, 8, 8, 8, 8, 8, 8, 8, 8, 8, 8, 8]⟩))) (.r 21)),
        .setR 22 (.sidx (.con (.v (.string ⟨#[0, 1, 2, 2, 3, 3, 3, 3, 4, 4, 4, 4, 4, 4, 4, 4, 5, 5, 5, 5, 5, 5, 5, 5, 5, 5, 5, 5, 5, 5, 5, 5, 6, 6, 6, 6, 6, 6, 6, 6, 6, 6, 6, 6, 6, 6, 6, 6, 6, 6, 6, 6, 6, 6, 6, 6, 6, 6, 6, 6, 6, 6, 6, 6, 7, 7, 7, 7, 7, 7, 7, 7, 7, 7, 7, 7, 7, 7, 7, 7, 7, 7, 7, 7, 7, 7, 7, 7, 7, 7, 7, 7, 7, 7, 7, 7, 7, 7, 7, 7, 7, 7, 7, 7, 7, 7, 7, 7, 7, 7, 7, 7, 7, 7, 7, 7, 7, 7, 7, 7, 7, 7, 7, 7, 7, 7, 7, 7, 8, 8, 8, 8, 8, 8, 8, 8, 8, 8, 8, 8, 8, 8, 8, 8, 8, 8, 8, 8, 8, 8, 8, 8, 8, 8, 8, 8, 8, 8, 8, 8, 8, 8, 8, 8, 8, 8, 8, 8, 8, 8, 8, 8, 8, 8, 8, 8, 8, 8, 8, 8, 8, 8, 8, 8, 8, 8, 8, 8, 8, 8, 8, 8, 8, 8, 8, 8, 8, 8, 8, 8, 8, 8, 8, 8, 8, 8, 8, 8, 8, 8, 8, 8, 8, 8, 8, 8, 8, 8, 8, 8, 8, 8, 8, 8, 8, 8, 8, 8, 8, 8, 8, 8, 8, 8, 8, 8, 8, 8, 8, 8, 8, 8, 8, 8, 8, 8, 8, 8, 8, 8, 8, 8, 8, 8, 8, 8]⟩))) (.r 21)),
        .setR 23 (.conv .i64 (.r 22)),
        .setR 24 (.ai .add .i64 (.r 19) (.r 23)),
        .setR 2 (.r 24)])
      (.ret (.r 2)))))))
def tr65 : PT :=
 (.ite (.ci .geq (.r 0) (.con (.v (.int .u64 4294967296))))
  (.chk (.ci .geq (.con (.v (.int .u64 32))) (.con (.int 0)))
  (.ite (.ci .geq (.ai .shr .u64 (.r 0) (.con (.v (.int .u64 32)))) (.con (.v (.int .u64 65536))))
   (.chk (.ci .geq (.con (.v (.int .u64 16))) (.con (.int 0)))
   (.ite (.ci .geq (.ai .shr .u64 (.ai .shr .u64 (.r 0) (.con (.v (.int .u64 32)))) (.con (.v (.int .u64 16)))) (.con (.v (.int .u64 256))))
    (.chk (.ci .geq (.con (.v (.int .u64 8))) (.con (.int 0)))
    (.chk (.sok (.con (.v (.string ⟨#[0, 1, 2, 2, 3, 3, 3, 3, 4, 4, 4, 4, 4, 4, 4, 4, 5, 5, 5, 5, 5, 5, 5, 5, 5, 5, 5, 5, 5, 5, 5, 5, 6, 6, 6, 6, 6, 6, 6, 6, 6, 6, 6, 6, 6, 6, 6, 6, 6, 6, 6, 6, 6, 6, 6, 6, 6, 6, 6, 6, 6, 6, 6, 6, 7, 7, 7, 7, 7, 7, 7, 7, 7, 7, 7, 7, 7, 7, 7, 7, 7, 7, 7, 7, 7, 7, 7, 7, 7, 7, 7, 7, 7, 7, 7, 7, 7, 7, 7, 7, 7, 7, 7, 7, 7, 7, 7, 7, 7, 7, 7, 7, 7, 7, 7, 7, 7, 7, 7, 7, 7, 7, 7, 7, 7, 7, 7, 7, 8, 8, 8, 8, 8, 8, 8, 8, 8, 8, 8, 8, 8, 8, 8, 8, 8, 8, 8, 8, 8, 8, 8, 8, 8, 8, 8, 8, 8, 8, 8, 8, 8, 8, 8, 8, 8, 8, 8, 8, 8, 8, 8, 8, 8, 8, 8, 8, 8, 8, 8, 8, 8, 8, 8, 8, 8, 8, 8, 8, 8, 8, 8, 8, 8, 8, 8, 8, 8, 8, 8, 8, 8, 8, 8, 8, 8, 8, 8, 8, 8, 8, 8, 8, 8, 8, 8, 8, 8, 8, 8, 8, 8, 8, 8, 8, 8, 8, 8, 8, 8, 8, 8, 8, 8, 8, 8, 8, 8, 8, 8, 8, 8, 8, 8, 8, 8, 8, 8, 8, 8, 8, 8, 8, 8, 8, 8, 8]⟩))) (.conv .u8 (.ai .shr .u64 (.ai .shr .u64 (.ai .shr .u64 (.r 0) (.con (.v (.int .u64 32)))) (.con (.v (.int .u64 16)))) (.con (.v (.int .u64 8))))))
    (.ret (.ai .add .i64 (.ai .add .i64 (.ai .add .i64 (.con (.int 32)) (.con (.int 16))) (.con (.int 8))) (.conv .i64 (.sidx (.con (.v (.string ⟨#[0, 1, 2, 2, 3, 3, 3, 3, 4, 4, 4, 4, 4, 4, 4, 4, 5, 5, 5, 5, 5, 5, 5, 5, 5, 5, 5, 5, 5, 5, 5, 5, 6, 6, 6, 6, 6, 6, 6, 6, 6, 6, 6, 6, 6, 6, 6, 6, 6, 6, 6, 6, 6, 6, 6, 6, 6, 6, 6, 6, 6, 6, 6, 6, 7, 7, 7, 7, 7, 7, 7, 7, 7, 7, 7, 7, 7, 7, 7, 7, 7, 7, 7, 7, 7, 7, 7, 7, 7, 7, 7, 7, 7, 7, 7, 7, 7, 7, 7, 7, 7, 7, 7, 7, 7, 7, 7, 7, 7, 7, 7, 7, 7, 7, 7, 7, 7, 7, 7, 7, 7, 7, 7, 7, 7, 7, 7, 7, 8, 8, 8, 8, 8, 8, 8, 8, 8, 8, 8, 8, 8, 8, 8, 8, 8, 8, 8, 8, 8, 8, 8, 8, 8, 8, 8, 8, 8, 8, 8, 8, 8, 8, 8, 8, 8, 8, 8, 8, 8, 8, 8, 8, 8, 8, 8, 8, 8, 8, 8, 8, 8, 8, 8, 8, 8, 8, 8, 8, 8, 8, 8, 8, 8, 8, 8, 8, 8, 8, 8, 8, 8, 8, 8, 8, 8, 8, 8, 8, 8, 8, 8, 8, 8, 8, 8, 8, 8, 8, 8, 8, 8, 8, 8, 8, 8, 8, 8, 8, 8, 8, 8, 8, 8, 8, 8, 8, 8, 8, 8, 8, 8, 8, 8, 8, 8, 8, 8, 8, 8, 8, 8, 8, 8, 8, 8, 8]⟩))) (.conv .u8 (.ai .shr .u64 (.ai .shr .u64 (.ai .shr .u64 (.r 0) (.con (.v (.int .u64 32)))) (.con (.v (.int .u64 16)))) (.con (.v (.int .u64 8)))))))))))
    (.chk (.sok (.con (.v (.string ⟨#[0, 1, 2, 2, 3, 3, 3, 3, 4, 4, 4, 4, 4, 4, 4, 4, 5, 5, 5, 5, 5, 5, 5, 5, 5, 5, 5, 5, 5, 5, 5, 5, 6, 6, 6, 6, 6, 6, 6, 6, 6, 6, 6, 6, 6, 6, 6, 6, 6, 6, 6, 6, 6, 6, 6, 6, 6, 6, 6, 6, 6, 6, 6, 6, 7, 7, 7, 7, 7, 7, 7, 7, 7, 7, 7, 7, 7, 7, 7, 7, 7, 7, 7, 7, 7, 7, 7, 7, 7, 7, 7, 7, 7, 7, 7, 7, 7, 7, 7, 7, 7, 7, 7, 7, 7, 7, 7, 7, 7, 7, 7, 7, 7, 7, 7, 7, 7, 7, 7, 7, 7, 7, 7, 7, 7, 7, 7, 7, 8, 8, 8, 8, 8, 8, 8, 8, 8, 8, 8, 8, 8, 8, 8, 8, 8, 8, 8, 8, 8, 8, 8, 8, 8, 8, 8, 8, 8, 8, 8, 8, 8, 8, 8, 8, 8, 8, 8, 8, 8, 8, 8, 8, 8, 8, 8, 8, 8, 8, 8, 8, 8, 8, 8, 8, 8, 8, 8, 8, 8, 8, 8, 8, 8, 8, 8, 8, 8, 8, 8, 8, 8, 8, 8, 8, 8, 8, 8, 8, 8, 8, 8, 8, 8, 8, 8, 8, 8, 8, 8, 8, 8, 8, 8, 8, 8, 8, 8, 8, 8, 8, 8, 8, 8, 8, 8, 8, 8, 8, 8, 8, 8, 8, 8, 8, 8, 8, 8, 8, 8, 8, 8, 8, 8, 8, 8, 8]⟩))) (.conv .u8 (.ai .shr .u64 (.ai .shr .u64 (.r 0) (.con (.v (.int .u64 32)))) (.con (.v (.int .u64 16))))))
    (.ret (.ai .add .i64 (.ai .add .i64 (.con (.int 32)) (.con (.int 16))) (.conv .i64 (.sidx (.con (.v (.string ⟨#[0, 1, 2, 2, 3, 3, 3, 3, 4, 4, 4, 4, 4, 4, 4, 4, 5, 5, 5, 5, 5, 5, 5, 5, 5, 5, 5, 5, 5, 5, 5, 5, 6, 6, 6, 6, 6, 6, 6, 6, 6, 6, 6, 6, 6, 6, 6, 6, 6, 6, 6, 6, 6, 6, 6, 6, 6, 6, 6, 6, 6, 6, 6, 6, 7, 7, 7, 7, 7, 7, 7, 7, 7, 7, 7, 7, 7, 7, 7, 7, 7, 7, 7, 7, 7, 7, 7, 7, 7, 7, 7, 7, 7, 7, 7, 7, 7, 7, 7, 7, 7, 7, 7, 7, 7, 7, 7, 7, 7, 7, 7, 7, 7, 7, 7, 7, 7, 7, 7, 7, 7, 7, 7, 7, 7, 7, 7, 7, 8, 8, 8, 8, 8, 8, 8, 8, 8, 8, 8, 8, 8, 8, 8, 8, 8, 8, 8, 8, 8, 8, 8, 8, 8, 8, 8, 8, 8, 8, 8, 8, 8, 8, 8, 8, 8, 8, 8, 8, 8, 8, 8, 8, 8, 8, 8, 8, 8, 8, 8, 8, 8, 8, 8, 8, 8, 8, 8, 8, 8, 8, 8, 8, 8, 8, 8, 8, 8, 8, 8, 8, 8, 8, 8, 8, 8, 8, 8, 8, 8, 8, 8, 8, 8, 8, 8, 8, 8, 8, 8, 8, 8, 8, 8, 8, 8, 8, 8, 8, 8, 8, 8, 8, 8, 8, 8, 8, 8, 8, 8, 8, 8, 8, 8, 8, 8, 8, 8, 8, 8, 8, 8, 8, 8, 8, 8, 8]⟩))) (.conv .u8 (.ai .shr .u64 (.ai .shr .u64 (.r 0) (.con (.v (.int .u64 32)))) (.con (.v (.int .u64 16))))))))))))
   (.ite (.ci .geq (.ai .shr .u64 (.r 0) (.con (.v (.int .u64 32)))) (.con (.v (.int .u64 256))))
    (.chk (.ci .geq (.con (.v (.int .u64 8))) (.con (.int 0)))
    (.chk (.sok (.con (.v (.string ⟨#[0, 1, 2, 2, 3, 3, 3, 3, 4, 4, 4, 4, 4, 4, 4, 4, 5, 5, 5, 5, 5, 5, 5, 5, 5, 5, 5, 5, 5, 5, 5, 5, 6, 6, 6, 6, 6, 6, 6, 6, 6, 6, 6, 6, 6, 6, 6, 6, 6, 6, 6, 6, 6, 6, 6, 6, 6, 6, 6, 6, 6, 6, 6, 6, 7, 7, 7, 7, 7, 7, 7, 7, 7, 7, 7, 7, 7, 7, 7, 7, 7, 7, 7, 7, 7, 7, 7, 7, 7, 7, 7, 7, 7, 7, 7, 7, 7, 7, 7, 7, 7, 7, 7, 7, 7, 7, 7, 7, 7, 7, 7, 7, 7, 7, 7, 7, 7, 7, 7, 7, 7, 7, 7, 7, 7, 7, 7, 7, 8, 8, 8, 8, 8, 8, 8, 8, 8, 8, 8, 8, 8, 8, 8, 8, 8, 8, 8, 8, 8, 8, 8, 8, 8, 8, 8, 8, 8, 8, 8, 8, 8, 8, 8, 8, 8, 8, 8, 8, 8, 8, 8, 8, 8, 8, 8, 8, 8, 8, 8, 8, 8, 8, 8, 8, 8, 8, 8, 8, 8, 8, 8, 8, 8, 8, 8, 8, 8, 8, 8, 8, 8, 8, 8, 8, 8, 8, 8, 8, 8, 8, 8, 8, 8, 8, 8, 8, 8, 8, 8, 8, 8, 8, 8, 8, 8, 8, 8, 8, 8, 8, 8, 8, 8, 8, 8, 8, 8, 8, 8, 8, 8, 8, 8, 8, 8, 8, 8, 8, 8, 8, 8, 8, 8, 8, 8, 8]⟩))) (.conv .u8 (.ai .shr .u64 (.ai .shr .u64 (.r 0) (.con (.v (.int .u64 32)))) (.con (.v (.int .u64 8))))))
    (.ret (.ai .add .i64 (.ai .add .i64 (.con (.int 32)) (.con (.int 8))) (.conv .i64 (.sidx (.con (.v (.string ⟨#[0, 1, 2, 2, 3, 3, 3, 3, 4, 4, 4, 4, 4, 4, 4, 4, 5, 5, 5, 5, 5, 5, 5, 5, 5, 5, 5, 5, 5, 5, 5, 5, 6, 6, 6, 6, 6, 6, 6, 6, 6, 6, 6, 6, 6, 6, 6, 6, 6, 6, 6, 6, 6, 6, 6, 6, 6, 6, 6, 6, 6, 6, 6, 6, 7, 7, 7, 7, 7, 7, 7, 7, 7, 7, 7, 7, 7, 7, 7, 7, 7, 7, 7, 7, 7, 7, 7, 7, 7, 7, 7, 7, 7, 7, 7, 7, 7, 7, 7, 7, 7, 7, 7, 7, 7, 7, 7, 7, 7, 7, 7, 7, 7, 7, 7, 7, 7, 7, 7, 7, 7, 7, 7, 7, 7, 7, 7, 7, 8, 8, 8, 8, 8, 8, 8, 8, 8, 8, 8, 8, 8, 8, 8, 8, 8, 8, 8, 8, 8, 8, 8, 8, 8, 8, 8, 8, 8, 8, 8, 8, 8, 8, 8, 8, 8, 8, 8, 8, 8, 8, 8, 8, 8, 8, 8, 8, 8, 8, 8, 8, 8, 8, 8, 8, 8, 8, 8, 8, 8, 8, 8, 8, 8, 8, 8, 8, 8, 8, 8, 8, 8, 8, 8, 8, 8, 8, 8, 8, 8, 8, 8, 8, 8, 8, 8, 8, 8, 8, 8, 8, 8, 8, 8, 8, 8, 8, 8, 8, 8, 8, 8, 8, 8, 8, 8, 8, 8, 8, 8, 8, 8, 8, 8, 8, 8, 8, 8, 8, 8, 8, 8, 8, 8, 8, 8, 8]⟩))) (.conv .u8 (.ai .shr .u64 (.ai .shr .u64 (.r 0) (.con (.v (.int .u64 32)))) (.con (.v (.int .u64 8)))))))))))
    (.chk (.sok (.con (.v (.string ⟨#[0, 1, 2, 2, 3, 3, 3, 3, 4, 4, 4, 4, 4, 4, 4, 4, 5, 5, 5, 5, 5, 5, 5, 5, 5, 5, 5, 5, 5, 5, 5, 5, 6, 6, 6, 6, 6, 6, 6, 6, 6, 6, 6, 6, 6, 6, 6, 6, 6, 6, 6, 6, 6, 6, 6, 6, 6, 6, 6, 6, 6, 6, 6, 6, 7, 7, 7, 7, 7, 7, 7, 7, 7, 7, 7, 7, 7, 7, 7, 7, 7, 7, 7, 7, 7, 7, 7, 7, 7, 7, 7, 7, 7, 7, 7, 7, 7, 7, 7, 7, 7, 7, 7, 7, 7, 7, 7, 7, 7, 7, 7, 7, 7, 7, 7, 7, 7, 7, 7, 7, 7, 7, 7, 7, 7, 7, 7, 7, 8, 8, 8, 8, 8, 8, 8, 8, 8, 8, 8, 8, 8, 8, 8, 8, 8, 8, 8, 8, 8, 8, 8, 8, 8, 8, 8, 8, 8, 8, 8, 8, 8, 8, 8, 8, 8, 8, 8, 8, 8, 8, 8, 8, 8, 8, 8, 8, 8, 8, 8, 8, 8, 8, 8, 8, 8, 8, 8, 8, 8, 8, 8, 8, 8, 8, 8, 8, 8, 8, 8, 8, 8, 8, 8, 8, 8, 8, 8, 8, 8, 8, 8, 8, 8, 8, 8, 8, 8, 8, 8, 8, 8, 8, 8, 8, 8, 8, 8, 8, 8, 8, 8, 8, 8, 8, 8, 8, 8, 8, 8, 8, 8, 8, 8, 8, 8, 8, 8, 8, 8, 8, 8, 8, 8, 8, 8, 8]⟩))) (.conv .u8 (.ai .shr .u64 (.r 0) (.con (.v (.int .u64 32))))))
    (.ret (.ai .add .i64 (.con (.int 32)) (.conv .i64 (.sidx (.con (.v (.string ⟨#[0, 1, 2, 2, 3, 3, 3, 3, 4, 4, 4, 4, 4, 4, 4, 4, 5, 5, 5, 5, 5, 5, 5, 5, 5, 5, 5, 5, 5, 5, 5, 5, 6, 6, 6, 6, 6, 6, 6, 6, 6, 6, 6, 6, 6, 6, 6, 6, 6, 6, 6, 6, 6, 6, 6, 6, 6, 6, 6, 6, 6, 6, 6, 6, 7, 7, 7, 7, 7, 7, 7, 7, 7, 7, 7, 7, 7, 7, 7, 7, 7, 7, 7, 7, 7, 7, 7, 7, 7, 7, 7, 7, 7, 7, 7, 7, 7, 7, 7, 7, 7, 7, 7, 7, 7, 7, 7, 7, 7, 7, 7, 7, 7, 7, 7, 7, 7, 7, 7, 7, 7, 7, 7, 7, 7, 7, 7, 7, 8, 8, 8, 8, 8, 8, 8, 8, 8, 8, 8, 8, 8, 8, 8, 8, 8, 8, 8, 8, 8, 8, 8, 8, 8, 8, 8, 8, 8, 8, 8, 8, 8, 8, 8, 8, 8, 8, 8, 8, 8, 8, 8, 8, 8, 8, 8, 8, 8, 8, 8, 8, 8, 8, 8, 8, 8, 8, 8, 8, 8, 8, 8, 8, 8, 8, 8, 8, 8, 8, 8, 8, 8, 8, 8, 8, 8, 8, 8, 8, 8, 8, 8, 8, 8, 8, 8, 8, 8, 8, 8, 8, 8, 8, 8, 8, 8, 8, 8, 8, 8, 8, 8, 8, 8, 8, 8, 8, 8, 8, 8, 8, 8, 8, 8, 8, 8, 8, 8, 8, 8, 8, 8, 8, 8, 8, 8, 8]⟩))) (.conv .u8 (.ai .shr .u64 (.r 0) (.con (.v (.int .u64 32)))))))))))))
  (.ite (.ci .geq (.r 0) (.con (.v (.int .u64 65536))))
   (.chk (.ci .geq (.con (.v (.int .u64 16))) (.con (.int 0)))
   (.ite (.ci .geq (.ai .shr .u64 (.r 0) (.con (.v (.int .u64 16)))) (.con (.v (.int .u64 256))))
    (.chk (.ci .geq (.con (.v (.int .u64 8))) (.con (.int 0)))
    (.chk (.sok (.con (.v (.string ⟨#[0, 1, 2, 2, 3, 3, 3, 3, 4, 4, 4, 4, 4, 4, 4, 4, 5, 5, 5, 5, 5, 5, 5, 5, 5, 5, 5, 5, 5, 5, 5, 5, 6, 6, 6, 6, 6, 6, 6, 6, 6, 6, 6, 6, 6, 6, 6, 6, 6, 6, 6, 6, 6, 6, 6, 6, 6, 6, 6, 6, 6, 6, 6, 6, 7, 7, 7, 7, 7, 7, 7, 7, 7, 7, 7, 7, 7, 7, 7, 7, 7, 7, 7, 7, 7, 7, 7, 7, 7, 7, 7, 7, 7, 7, 7, 7, 7, 7, 7, 7, 7, 7, 7, 7, 7, 7, 7, 7, 7, 7, 7, 7, 7, 7, 7, 7, 7, 7, 7, 7, 7, 7, 7, 7, 7, 7, 7, 7, 8, 8, 8, 8, 8, 8, 8, 8, 8, 8, 8, 8, 8, 8, 8, 8, 8, 8, 8, 8, 8, 8, 8, 8, 8, 8, 8, 8, 8, 8, 8, 8, 8, 8, 8, 8, 8, 8, 8, 8, 8, 8, 8, 8, 8, 8, 8, 8, 8, 8, 8, 8, 8, 8, 8, 8, 8, 8, 8, 8, 8, 8, 8, 8, 8, 8, 8, 8, 8, 8, 8, 8, 8, 8, 8, 8, 8, 8, 8, 8, 8, 8, 8, 8, 8, 8, 8, 8, 8, 8, 8, 8, 8, 8, 8, 8, 8, 8, 8, 8, 8, 8, 8, 8, 8, 8, 8, 8, 8, 8, 8, 8, 8, 8, 8, 8, 8, 8, 8, 8, 8, 8, 8, 8, 8, 8, 8, 8]⟩))) (.conv .u8 (.ai .shr .u64 (.ai .shr .u64 (.r 0) (.con (.v (.int .u64 16)))) (.con (.v (.int .u64 8))))))
    (.ret (.ai .add .i64 (.ai .add .i64 (.ai .add .i64 (.con (.int 0)) (.con (.int 16))) (.con (.int 8))) (.conv .i64 (.sidx (.con (.v (.string ⟨#[0, 1, 2, 2, 3, 3, 3, 3, 4, 4, 4, 4, 4, 4, 4, 4, 5, 5, 5, 5, 5, 5, 5, 5, 5, 5, 5, 5, 5, 5, 5, 5, 6, 6, 6, 6, 6, 6, 6, 6, 6, 6, 6, 6, 6, 6, 6, 6, 6, 6, 6, 6, 6, 6, 6, 6, 6, 6, 6, 6, 6, 6, 6, 6, 7, 7, 7, 7, 7, 7, 7, 7, 7, 7, 7, 7, 7, 7, 7, 7, 7, 7, 7, 7, 7, 7, 7, 7, 7, 7, 7, 7, 7, 7, 7, 7, 7, 7, 7, 7, 7, 7, 7, 7, 7, 7, 7, 7, 7, 7, 7, 7, 7, 7, 7, 7, 7, 7, 7, 7, 7, 7, 7, 7, 7, 7, 7, 7, 8, 8, 8, 8, 8, 8, 8, 8, 8, 8, 8, 8, 8, 8, 8, 8, 8, 8, 8, 8, 8, 8, 8, 8, 8, 8, 8, 8, 8, 8, 8, 8, 8, 8, 8, 8, 8, 8, 8, 8, 8, 8, 8, 8, 8, 8, 8, 8, 8, 8, 8, 8, 8, 8, 8, 8, 8, 8, 8, 8, 8, 8, 8, 8, 8, 8, 8, 8, 8, 8, 8, 8, 8, 8, 8, 8, 8, 8, 8, 8, 8, 8, 8, 8, 8, 8, 8, 8, 8, 8, 8, 8, 8, 8, 8, 8, 8, 8, 8, 8, 8, 8, 8, 8, 8, 8, 8, 8, 8, 8, 8, 8, 8, 8, 8, 8, 8, 8, 8, 8, 8, 8, 8, 8, 8, 8, 8, 8]⟩))) (.conv .u8 (.ai .shr .u64 (.ai .shr .u64 (.r 0) (.con (.v (.int .u64 16)))) (.con (.v (.int .u64 8)))))))))))
    (.chk (.sok (.con (.v (.string ⟨#[0, 1, 2, 2, 3, 3, 3, 3, 4, 4, 4, 4, 4, 4, 4, 4, 5, 5, 5, 5, 5, 5, 5, 5, 5, 5, 5, 5, 5, 5, 5, 5, 6, 6, 6, 6, 6, 6, 6, 6, 6, 6, 6, 6, 6, 6, 6, 6, 6, 6, 6, 6, 6, 6, 6, 6, 6, 6, 6, 6, 6, 6, 6, 6, 7, 7, 7, 7, 7, 7, 7, 7, 7, 7, 7, 7, 7, 7, 7, 7, 7, 7, 7, 7, 7, 7, 7, 7, 7, 7, 7, 7, 7, 7, 7, 7, 7, 7, 7, 7, 7, 7, 7, 7, 7, 7, 7, 7, 7, 7, 7, 7, 7, 7, 7, 7, 7, 7, 7, 7, 7, 7, 7, 7, 7, 7, 7, 7, 8, 8, 8, 8, 8, 8, 8, 8, 8, 8, 8, 8, 8, 8, 8, 8, 8, 8, 8, 8, 8, 8, 8, 8, 8, 8, 8, 8, 8, 8, 8, 8, 8, 8, 8, 8, 8, 8, 8, 8, 8, 8, 8, 8, 8, 8, 8, 8, 8, 8, 8, 8, 8, 8, 8, 8, 8, 8, 8, 8, 8, 8, 8, 8, 8, 8, 8, 8, 8, 8, 8, 8, 8, 8, 8, 8, 8, 8, 8, 8, 8, 8, 8, 8, 8, 8, 8, 8, 8, 8, 8, 8, 8, 8, 8, 8, 8, 8, 8, 8, 8, 8, 8, 8, 8, 8, 8, 8, 8, 8, 8, 8, 8, 8, 8, 8, 8, 8, 8, 8, 8, 8, 8, 8, 8, 8, 8, 8]⟩))) (.conv .u8 (.ai .shr .u64 (.r 0) (.con (.v (.int .u64 16))))))
    (.ret (.ai .add .i64 (.ai .add .i64 (.con (.int 0)) (.con (.int 16))) (.conv .i64 (.sidx (.con (.v (.string ⟨#[0, 1, 2, 2, 3, 3, 3, 3, 4, 4, 4, 4, 4, 4, 4, 4, 5, 5, 5, 5, 5, 5, 5, 5, 5, 5, 5, 5, 5, 5, 5, 5, 6, 6, 6, 6, 6, 6, 6, 6, 6, 6, 6, 6, 6, 6, 6, 6, 6, 6, 6, 6, 6, 6, 6, 6, 6, 6, 6, 6, 6, 6, 6, 6, 7, 7, 7, 7, 7, 7, 7, 7, 7, 7, 7, 7, 7, 7, 7, 7, 7, 7, 7, 7, 7, 7, 7, 7, 7, 7, 7, 7, 7, 7, 7, 7, 7, 7, 7, 7, 7, 7, 7, 7, 7, 7, 7, 7, 7, 7, 7, 7, 7, 7, 7, 7, 7, 7, 7, 7, 7, 7, 7, 7, 7, 7, 7, 7, 8, 8, 8, 8, 8, 8, 8, 8, 8, 8, 8, 8, 8, 8, 8, 8, 8, 8, 8, 8, 8, 8, 8, 8, 8, 8, 8, 8, 8, 8, 8, 8, 8, 8, 8, 8, 8, 8, 8, 8, 8, 8, 8, 8, 8, 8, 8, 8, 8, 8, 8, 8, 8, 8, 8, 8, 8, 8, 8, 8, 8, 8, 8, 8, 8, 8, 8, 8, 8, 8, 8, 8, 8, 8, 8, 8, 8, 8, 8, 8, 8, 8, 8, 8, 8, 8, 8, 8, 8, 8, 8, 8, 8, 8, 8, 8, 8, 8, 8, 8, 8, 8, 8, 8, 8, 8, 8, 8, 8, 8, 8, 8, 8, 8, 8, 8, 8, 8, 8, 8, 8, 8, 8, 8, 8, 8, 8, 8]⟩))) (.conv .u8 (.ai .shr .u64 (.r 0) (.con (.v (.int .u64 16))))))))))))
   (.ite (.ci .geq (.r 0) (.con (.v (.int .u64 256))))
    (.chk (.ci .geq (.con (.v (.int .u64 8))) (.con (.int 0)))
    (.chk (.sok (.con (.v (.string ⟨#[0, 1, 2, 2, 3, 3, 3, 3, 4, 4, 4, 4, 4, 4, 4, 4, 5, 5, 5, 5, 5, 5, 5, 5, 5, 5, 5, 5, 5, 5, 5, 5, 6, 6, 6, 6, 6, 6, 6, 6, 6, 6, 6, 6, 6, 6, 6, 6, 6, 6, 6, 6, 6, 6, 6, 6, 6, 6, 6, 6, 6, 6, 6, 6, 7, 7, 7, 7, 7, 7, 7, 7, 7, 7, 7, 7, 7, 7, 7, 7, 7, 7, 7, 7, 7, 7, 7, 7, 7, 7, 7, 7, 7, 7, 7, 7, 7, 7, 7, 7, 7, 7, 7, 7, 7, 7, 7, 7, 7, 7, 7, 7, 7, 7, 7, 7, 7, 7, 7, 7, 7, 7, 7, 7, 7, 7, 7, 7, 8, 8, 8, 8, 8, 8, 8, 8, 8, 8, 8, 8, 8, 8, 8, 8, 8, 8, 8, 8, 8, 8, 8, 8, 8, 8, 8, 8, 8, 8, 8, 8, 8, 8, 8, 8, 8, 8, 8, 8, 8, 8, 8, 8, 8, 8, 8, 8, 8, 8, 8, 8, 8, 8, 8, 8, 8, 8, 8, 8, 8, 8, 8, 8, 8, 8, 8, 8, 8, 8, 8, 8, 8, 8, 8, 8, 8, 8, 8, 8, 8, 8, 8, 8, 8, 8, 8, 8, 8, 8, 8, 8, 8, 8, 8, 8, 8, 8, 8, 8, 8, 8, 8, 8, 8, 8, 8, 8, 8, 8, 8, 8, 8, 8, 8, 8, 8, 8, 8, 8, 8, 8, 8, 8, 8, 8, 8, 8]⟩))) (.conv .u8 (.ai .shr .u64 (.r 0) (.con (.v (.int .u64 8))))))
    (.ret (.ai .add .i64 (.ai .add .i64 (.con (.int 0)) (.con (.int 8))) (.conv .i64 (.sidx (.con (.v (.string ⟨#[0, 1, 2, 2, 3, 3, 3, 3, 4, 4, 4, 4, 4, 4, 4, 4, 5, 5, 5, 5, 5, 5, 5, 5, 5, 5, 5, 5, 5, 5, 5, 5, 6, 6, 6, 6, 6, 6, 6, 6, 6, 6, 6, 6, 6, 6, 6, 6, 6, 6, 6, 6, 6, 6, 6, 6, 6, 6, 6, 6, 6, 6, 6, 6, 7, 7, 7, 7, 7, 7, 7, 7, 7, 7, 7, 7, 7, 7, 7, 7, 7, 7, 7, 7, 7, 7, 7, 7, 7, 7, 7, 7, 7, 7, 7, 7, 7, 7, 7, 7, 7, 7, 7, 7, 7, 7, 7, 7, 7, 7, 7, 7, 7, 7, 7, 7, 7, 7, 7, 7, 7, 7, 7, 7, 7, 7, 7, 7, 8, 8, 8, 8, 8, 8, 8, 8, 8, 8, 8, 8, 8, 8, 8, 8, 8, 8, 8, 8, 8, 8, 8, 8, 8, 8, 8, 8, 8, 8, 8, 8, 8, 8, 8, 8, 8, 8, 8, 8, 8, 8, 8, 8, 8, 8, 8, 8, 8, 8, 8, 8, 8, 8, 8, 8, 8, 8, 8, 8, 8, 8, 8, 8, 8, 8, 8, 8, 8, 8, 8, 8, 8, 8, 8, 8, 8, 8, 8, 8, 8, 8, 8, 8, 8, 8, 8, 8, 8, 8, 8, 8, 8, 8, 8, 8, 8, 8, 8, 8, 8, 8, 8, 8, 8, 8, 8, 8, 8, 8, 8, 8, 8, 8, 8, 8, 8, 8, 8, 8, 8, 8, 8, 8, 8, 8, 8, 8]⟩))) (.conv .u8 (.ai .shr .u64 (.r 0) (.con (.v (.int .u64 8)))))))))))
    (.chk (.sok (.con (.v (.string ⟨#[0, 1, 2, 2, 3, 3, 3, 3, 4, 4, 4, 4, 4, 4, 4, 4, 5, 5, 5, 5, 5, 5, 5, 5, 5, 5, 5, 5, 5, 5, 5, 5, 6, 6, 6, 6, 6, 6, 6, 6, 6, 6, 6, 6, 6, 6, 6, 6, 6, 6, 6, 6, 6, 6, 6, 6, 6, 6, 6, 6, 6, 6, 6, 6, 7, 7, 7, 7, 7, 7, 7, 7, 7, 7, 7, 7, 7, 7, 7, 7, 7, 7, 7, 7, 7, 7, 7, 7, 7, 7, 7, 7, 7, 7, 7, 7, 7, 7, 7, 7, 7, 7, 7, 7, 7, 7, 7, 7, 7, 7, 7, 7, 7, 7, 7, 7, 7, 7, 7, 7, 7, 7, 7, 7, 7, 7, 7, 7, 8, 8, 8, 8, 8, 8, 8, 8, 8, 8, 8, 8, 8, 8, 8, 8, 8, 8, 8, 8, 8, 8, 8, 8, 8, 8, 8, 8, 8, 8, 8, 8, 8, 8, 8, 8, 8, 8, 8, 8, 8, 8, 8, 8, 8, 8, 8, 8, 8, 8, 8, 8, 8, 8, 8, 8, 8, 8, 8, 8, 8, 8, 8, 8, 8, 8, 8, 8, 8, 8, 8, 8, 8, 8, 8, 8, 8, 8, 8, 8, 8, 8, 8, 8, 8, 8, 8, 8, 8, 8, 8, 8, 8, 8, 8, 8, 8, 8, 8, 8, 8, 8, 8, 8, 8, 8, 8, 8, 8, 8, 8, 8, 8, 8, 8, 8, 8, 8, 8, 8, 8, 8, 8, 8, 8, 8, 8, 8]⟩))) (.conv .u8 (.r 0)))
    (.ret (.ai .add .i64 (.con (.int 0)) (.conv .i64 (.sidx (.con (.v (.string ⟨#[0, 1, 2, 2, 3, 3, 3, 3, 4, 4, 4, 4, 4, 4, 4, 4, 5, 5, 5, 5, 5, 5, 5, 5, 5, 5, 5, 5, 5, 5, 5, 5, 6, 6, 6, 6, 6, 6, 6, 6, 6, 6, 6, 6, 6, 6, 6, 6, 6, 6, 6, 6, 6, 6, 6, 6, 6, 6, 6, 6, 6, 6, 6, 6, 7, 7, 7, 7, 7, 7, 7, 7, 7, 7, 7, 7, 7, 7, 7, 7, 7, 7, 7, 7, 7, 7, 7, 7, 7, 7, 7, 7, 7, 7, 7, 7, 7, 7, 7, 7, 7, 7, 7, 7, 7, 7, 7, 7, 7, 7, 7, 7, 7, 7, 7, 7, 7, 7, 7, 7, 7, 7, 7, 7, 7, 7, 7, 7, 8, 8, 8, 8, 8, 8, 8, 8, 8, 8, 8, 8, 8, 8, 8, 8, 8, 8, 8, 8, 8, 8, 8, 8, 8, 8, 8, 8, 8, 8, 8, 8, 8, 8, 8, 8, 8, 8, 8, 8, 8, 8, 8, 8, 8, 8, 8, 8, 8, 8, 8, 8, 8, 8, 8, 8, 8, 8, 8, 8, 8, 8, 8, 8, 8, 8, 8, 8, 8, 8, 8, 8, 8, 8, 8, 8, 8, 8, 8, 8, 8, 8, 8, 8, 8, 8, 8, 8, 8, 8, 8, 8, 8, 8, 8, 8, 8, 8, 8, 8, 8, 8, 8, 8, 8, 8, 8, 8, 8, 8, 8, 8, 8, 8, 8, 8, 8, 8, 8, 8, 8, 8, 8, 8, 8, 8, 8, 8]⟩))) (.conv .u8 (.r 0))))))))))
theorem tr65_eq : tree pc65 = tr65 := by kernel_rfl
/-! allonge/estate.Share$1 -/
def pc48 : PC :=
 (.seq
  (.is [.setO 904 (.r 9),
    .setO 903 (.r 8),
    .setO 902 (.r 7),
    .setO 901 (.r 6),
    .setO 900 (.r 5)])
  (.seq
   (.seq
    (.is [.setR 7 (.con .none),
      .setR 8 (.r 0),
      .chk (.idx (.o 901) (.r 8)),
      .setR 9 (.r 8),
      .setR 10 (.r 9),
      .setR 11 (.cell (.nth (.o 901) (.r 10)) 1),
      .setR 12 (.r 1),
      .setR 13 (.ai .add .i64 (.r 11) (.r 12)),
      .chk (.idx (.o 901) (.r 8)),
      .setR 14 (.r 8),
      .setR 15 (.r 14),
      .setO 901 (.setn (.o 901) (.r 15) 1 (.r 13))])
    (.is [.setR 16 (.con .none),
      .setR 17 (.cell (.o 904) 0),
      .setR 18 (.r 0),
      .chk (.idx (.r 17) (.r 18)),
      .setR 19 (.ref (.nth (.r 17) (.r 18))),
      .setR 20 (.ref (.cell (.deref (.r 19)) 0)),
      .setR 21 (.deref (.r 20)),
      .chk (.idx (.o 903) (.r 21)),
      .setR 22 (.r 21),
      .setR 23 (.nth (.o 903) (.r 22)),
      .setR 24 (.r 1),
      .setR 25 (.ai .add .i64 (.r 23) (.r 24)),
      .chk (.idx (.o 903) (.r 21)),
      .setR 26 (.r 21),
      .setO 903 (.setn (.o 903) (.r 26) 0 (.r 25))]))
   (.ret (.tup [(.tup []), (.o 900), (.o 901), (.o 902), (.o 903), (.o 904)]))))
def tr48 : PT :=
 (.chk (.idx (.r 6) (.r 0))
 (.chk (.idx (.cell (.r 9) 0) (.r 0))
 (.chk (.idx (.r 8) (.cell (.nth (.cell (.r 9) 0) (.r 0)) 0))
 (.ret (.tup [(.tup []), (.r 5), (.setn (.r 6) (.r 0) 1 (.ai .add .i64 (.cell (.nth (.r 6) (.r 0)) 1) (.r 1))), (.r 7), (.setn (.r 8) (.cell (.nth (.cell (.r 9) 0) (.r 0)) 0) 0 (.ai .add .i64 (.nth (.r 8) (.cell (.nth (.cell (.r 9) 0) (.r 0)) 0)) (.r 1))), (.r 9)])))))
theorem tr48_eq : tree pc48 = tr48 := by kernel_rfl
/-! allonge/estate.Left -/
def bd35_0 : PC :=
 (.seq
  (.is [.setR 30 (.ci .lss (.r 29) (.r 28))])
  (.seq
   (.ite (.r 30) [] []
    .skip
    (.exit 2))
   (.seq
    (.block 3 [11, 31, 32, 33, 34, 35, 36, 37, 38, 39, 48] [11, 7]
     (.seq
      (.is [.chk (.idx (.r 27) (.r 29)),
        .setR 31 (.ref (.nth (.r 27) (.r 29))),
        .setR 32 (.deref (.r 31)),
        .setO 11 (.con (.agg [(.int 0), (.int 0)])),
        .setR 11 (.con .none),
        .setO 11 (.setc (.o 11) 0 (.r 32))])
      (.seq
       (.is [.setR 33 (.con .none),
         .setR 34 (.cell (.o 11) 0),
         .setR 35 (.r 1),
         .setR 36 (.llen (.r 35)),
         .setR 37 (.ai .sub .i64 (.r 36) (.con (.int 1))),
         .call [] 38 51 [(.r 34), (.con (.int 0)), (.r 37)],
         .setR 39 (.r 38),
         .setR 40 (.r 1),
         .setR 41 (.con .none),
         .setR 42 (.cell (.o 11) 0),
         .chk (.imp [(39, true)] (.idx (.r 40) (.r 42))),
         .setR 43 (.ref (.nth (.r 40) (.r 42))),
         .setR 44 (.ref (.cell (.deref (.r 43)) 1)),
         .setR 45 (.deref (.r 44)),
         .setR 46 (.r 8),
         .setR 47 (.ci .eql (.r 45) (.r 46)),
         .setR 48 (.pick (.r 39) (.r 47) (.con (.bool false)))])
       (.ite (.r 48) [] [7]
        (.is [.setR 49 (.r 7),
          .setR 50 (.r 8),
          .chk (.idx (.o 7) (.r 50)),
          .setR 51 (.r 50),
          .setR 52 (.nth (.o 7) (.r 51)),
          .setR 53 (.con .none),
          .setR 54 (.cell (.o 11) 1),
          .setR 55 (.ai .sub .i64 (.r 52) (.r 54)),
          .chk (.idx (.o 7) (.r 50)),
          .setR 56 (.r 50),
          .setO 7 (.setn (.o 7) (.r 56) 0 (.r 55))])
        .skip))))
    (.is [.setR 57 (.ai .add .i64 (.r 29) (.con (.int 1))),
      .setR 29 (.r 57)]))))
def lp35_0 : PC := .block 2 [29, 30] [7] (.loop [29] [7] bd35_0)
def rd35_0 : PT :=
 (.ite (.ci .lss (.r 29) (.r 28))
  (.blockS ⟨[(30, (.ci .lss (.r 29) (.r 28)))], []⟩ 3 [11, 31, 32, 33, 34, 35, 36, 37, 38, 39, 48] [11, 7]
   (.chk (.idx (.r 27) (.r 29))
   (.call ⟨[(37, (.ai .sub .i64 (.llen (.r 1)) (.con (.int 1)))), (36, (.llen (.r 1))), (35, (.r 1)), (34, (.cell (.setc (.con (.agg [(.int 0), (.int 0)])) 0 (.nth (.r 27) (.r 29))) 0)), (33, (.con .none)), (11, (.con .none)), (32, (.nth (.r 27) (.r 29))), (31, (.ref (.nth (.r 27) (.r 29))))], [(11, (.setc (.con (.agg [(.int 0), (.int 0)])) 0 (.nth (.r 27) (.r 29)))), (11, (.con (.agg [(.int 0), (.int 0)])))]⟩ [] 38 51 [(.r 34), (.con (.int 0)), (.r 37)]
   (.chk (.nt (.an (.an (.r 38) (.con (.bool true))) (.nt (.idx (.r 1) (.cell (.o 11) 0)))))
   (.ite (.pick (.r 38) (.ci .eql (.cell (.nth (.r 1) (.cell (.o 11) 0)) 1) (.r 8)) (.con (.bool false)))
    (.chk (.idx (.o 7) (.r 8))
    (.next ⟨[(48, (.pick (.r 38) (.ci .eql (.cell (.nth (.r 1) (.cell (.o 11) 0)) 1) (.r 8)) (.con (.bool false)))), (47, (.ci .eql (.cell (.nth (.r 1) (.cell (.o 11) 0)) 1) (.r 8))), (46, (.r 8)), (45, (.cell (.nth (.r 1) (.cell (.o 11) 0)) 1)), (44, (.ref (.cell (.nth (.r 1) (.cell (.o 11) 0)) 1))), (43, (.ref (.nth (.r 1) (.cell (.o 11) 0)))), (42, (.cell (.o 11) 0)), (41, (.con .none)), (40, (.r 1)), (39, (.r 38))], [(7, (.setn (.o 7) (.r 8) 0 (.ai .sub .i64 (.nth (.o 7) (.r 8)) (.cell (.o 11) 1))))]⟩))
    (.next ⟨[(48, (.pick (.r 38) (.ci .eql (.cell (.nth (.r 1) (.cell (.o 11) 0)) 1) (.r 8)) (.con (.bool false)))), (47, (.ci .eql (.cell (.nth (.r 1) (.cell (.o 11) 0)) 1) (.r 8))), (46, (.r 8)), (45, (.cell (.nth (.r 1) (.cell (.o 11) 0)) 1)), (44, (.ref (.cell (.nth (.r 1) (.cell (.o 11) 0)) 1))), (43, (.ref (.nth (.r 1) (.cell (.o 11) 0)))), (42, (.cell (.o 11) 0)), (41, (.con .none)), (40, (.r 1)), (39, (.r 38))], [(7, (.o 7))]⟩)))))
  (.next ⟨[(29, (.ai .add .i64 (.r 29) (.con (.int 1))))], [(7, (.o 7))]⟩))
  (.exit 2 ⟨[(29, (.r 29)), (30, (.ci .lss (.r 29) (.r 28)))], [(7, (.o 7))]⟩))
theorem rd35_0_eq : round 2 [29, 30] [7] [29] [7] bd35_0 = rd35_0 := by kernel_rfl
def bd35_1 : PC :=
 (.seq
  (.is [.setR 18 (.ci .lss (.r 17) (.r 16))])
  (.seq
   (.ite (.r 18) [] []
    .skip
    (.exit 0))
   (.seq
    (.block 1 [8, 9, 19, 20, 21, 22, 23, 24, 25, 26, 27, 28, 29, 30] [9, 7]
     (.seq
      (.is [.setR 19 (.r 17),
        .chk (.idx (.r 15) (.r 17)),
        .setR 20 (.ref (.nth (.r 15) (.r 17))),
        .setR 21 (.deref (.r 20)),
        .setO 9 (.con (.agg [(.int 0), (.int 0), (.int 0)])),
        .setR 9 (.con .none),
        .setR 8 (.r 19),
        .setO 9 (.setc (.o 9) 0 (.r 21))])
      (.seq
       (.is [.setR 22 (.r 7),
         .setR 23 (.r 8),
         .setR 24 (.con .none),
         .setR 25 (.cell (.o 9) 2),
         .chk (.idx (.o 7) (.r 23)),
         .setR 26 (.r 23),
         .setO 7 (.setn (.o 7) (.r 26) 0 (.r 25))])
       (.seq
        (.is [.setR 27 (.r 2),
          .setR 28 (.llen (.r 27)),
          .setR 29 (.con (.int 0))])
        lp35_0))))
    (.is [.setR 58 (.ai .add .i64 (.r 17) (.con (.int 1))),
      .setR 17 (.r 58)]))))
def lp35_1 : PC := .block 0 [17, 18] [7] (.loop [17] [7] bd35_1)
def rd35_1 : PT :=
 (.ite (.ci .lss (.r 17) (.r 16))
  (.blockS ⟨[(18, (.ci .lss (.r 17) (.r 16)))], []⟩ 1 [8, 9, 19, 20, 21, 22, 23, 24, 25, 26, 27, 28, 29, 30] [9, 7]
   (.chk (.idx (.r 15) (.r 17))
   (.chk (.idx (.o 7) (.r 17))
   (.brk ⟨[(29, (.con (.int 0))), (28, (.llen (.r 2))), (27, (.r 2)), (26, (.r 17)), (25, (.cell (.setc (.con (.agg [(.int 0), (.int 0), (.int 0)])) 0 (.nth (.r 15) (.r 17))) 2)), (24, (.con .none)), (23, (.r 17)), (22, (.r 7)), (8, (.r 17)), (9, (.con .none)), (21, (.nth (.r 15) (.r 17))), (20, (.ref (.nth (.r 15) (.r 17)))), (19, (.r 17))], [(7, (.setn (.o 7) (.r 17) 0 (.cell (.setc (.con (.agg [(.int 0), (.int 0), (.int 0)])) 0 (.nth (.r 15) (.r 17))) 2))), (9, (.setc (.con (.agg [(.int 0), (.int 0), (.int 0)])) 0 (.nth (.r 15) (.r 17)))), (9, (.con (.agg [(.int 0), (.int 0), (.int 0)])))]⟩
    lp35_0
   (.next ⟨[], []⟩))))
  (.next ⟨[(17, (.ai .add .i64 (.r 17) (.con (.int 1))))], [(7, (.o 7))]⟩))
  (.exit 0 ⟨[(17, (.r 17)), (18, (.ci .lss (.r 17) (.r 16)))], [(7, (.o 7))]⟩))
theorem rd35_1_eq : round 0 [17, 18] [7] [17] [7] bd35_1 = rd35_1 := by kernel_rfl
def pc35 : PC :=
 (.seq
  (.is [.setR 6 (.con (.list []))])
  (.seq
   (.is [.setR 12 (.r 0),
     .setR 13 (.llen (.r 12)),
     .chk (.an (.ci .geq (.r 13) (.con (.int 0))) (.ci .leq (.r 13) (.con (.int 4294967296)))),
     .chk (.ci .eql (.r 13) (.r 13)),
     .setO 14 (.rep (.r 13) (.con (.int 0))),
     .setR 14 (.con .none),
     .setR 7 (.r 14),
     .setO 7 (.o 14)])
   (.seq
    (.seq
     (.is [.setR 15 (.r 0),
       .setR 16 (.llen (.r 15)),
       .setR 17 (.con (.int 0))])
     lp35_1)
    (.seq
     (.is [.setR 59 (.r 7),
       .setR 6 (.o 7)])
     (.ret (.r 6))))))
def tr35 : PT :=
 (.chk (.an (.ci .geq (.llen (.r 0)) (.con (.int 0))) (.ci .leq (.llen (.r 0)) (.con (.int 4294967296))))
 (.chk (.ci .eql (.llen (.r 0)) (.llen (.r 0)))
 (.brk ⟨[(17, (.con (.int 0))), (16, (.llen (.r 0))), (15, (.r 0)), (7, (.con .none)), (14, (.con .none)), (13, (.llen (.r 0))), (12, (.r 0)), (6, (.con (.list [])))], [(7, (.rep (.llen (.r 0)) (.con (.int 0)))), (14, (.rep (.llen (.r 0)) (.con (.int 0))))]⟩
  lp35_1
 (.ret (.o 7)))))
theorem tr35_eq : tree pc35 = tr35 := by kernel_rfl
/-! allonge/allongeref06.SameInts -/
def bd15_0 : PC :=
 (.seq
  (.seq
   (.is [.setR 11 (.r 5),
     .setR 12 (.r 0),
     .setR 13 (.llen (.r 12)),
     .setR 14 (.ci .lss (.r 11) (.r 13))])
   (.ite (.r 14) [] []
    .skip
    (.exit 0)))
  (.seq
   (.block 1 [4, 17, 18, 19, 20, 21, 22, 23, 24, 25] []
    (.seq
     (.is [.setR 17 (.r 0),
       .setR 18 (.r 5),
       .chk (.idx (.r 17) (.r 18)),
       .setR 19 (.ref (.nth (.r 17) (.r 18))),
       .setR 20 (.deref (.r 19)),
       .setR 21 (.r 1),
       .setR 22 (.r 5),
       .chk (.idx (.r 21) (.r 22)),
       .setR 23 (.ref (.nth (.r 21) (.r 22))),
       .setR 24 (.deref (.r 23)),
       .setR 25 (.ci .neq (.r 20) (.r 24))])
     (.ite (.r 25) [4] []
      (.seq
       (.is [.setR 4 (.con (.bool false))])
       (.ret (.r 4)))
      .skip)))
   (.is [.setR 15 (.r 5),
     .setR 16 (.ai .add .i64 (.r 15) (.con (.int 1))),
     .setR 5 (.r 16)])))
def lp15_0 : PC := .block 0 [4, 5, 11, 12, 13, 14] [] (.loop [4, 5] [] bd15_0)
def rd15_0 : PT :=
 (.ite (.ci .lss (.r 5) (.llen (.r 0)))
  (.chk (.idx (.r 0) (.r 5))
  (.chk (.idx (.r 1) (.r 5))
  (.ite (.ci .neq (.nth (.r 0) (.r 5)) (.nth (.r 1) (.r 5)))
   (.ret (.con (.bool false)))
   (.next ⟨[(4, (.r 4)), (5, (.ai .add .i64 (.r 5) (.con (.int 1))))], []⟩))))
  (.exit 0 ⟨[(4, (.r 4)), (5, (.r 5)), (11, (.r 5)), (12, (.r 0)), (13, (.llen (.r 0))), (14, (.ci .lss (.r 5) (.llen (.r 0))))], []⟩))
theorem rd15_0_eq : round 0 [4, 5, 11, 12, 13, 14] [] [4, 5] [] bd15_0 = rd15_0 := by kernel_rfl
def pc15 : PC :=
 (.seq
  (.is [.setR 4 (.con (.bool false))])
  (.seq
   (.seq
    (.is [.setR 6 (.r 0),
      .setR 7 (.llen (.r 6)),
      .setR 8 (.r 1),
      .setR 9 (.llen (.r 8)),
      .setR 10 (.ci .neq (.r 7) (.r 9))])
    (.ite (.r 10) [4] []
     (.seq
      (.is [.setR 4 (.con (.bool false))])
      (.ret (.r 4)))
     .skip))
   (.seq
    (.seq
     (.is [.setR 5 (.con (.int 0))])
     lp15_0)
    (.seq
     (.is [.setR 4 (.con (.bool true))])
     (.ret (.r 4))))))
def tr15 : PT :=
 (.ite (.ci .neq (.llen (.r 0)) (.llen (.r 1)))
  (.ret (.con (.bool false)))
  (.brk ⟨[(5, (.con (.int 0))), (4, (.con (.bool false))), (10, (.ci .neq (.llen (.r 0)) (.llen (.r 1)))), (9, (.llen (.r 1))), (8, (.r 1)), (7, (.llen (.r 0))), (6, (.r 0)), (4, (.con (.bool false)))], []⟩
   lp15_0
  (.ret (.con (.bool true)))))
theorem tr15_eq : tree pc15 = tr15 := by kernel_rfl
/-! allonge/estate.Received -/
def bd33_0 : PC :=
 (.seq
  (.is [.setR 13 (.ci .lss (.r 12) (.r 11))])
  (.seq
   (.ite (.r 13) [] []
    .skip
    (.exit 0))
   (.seq
    (.block 1 [7, 9, 14, 15, 16, 17, 18, 19, 20, 21, 22, 31] [9]
     (.seq
      (.is [.chk (.idx (.r 10) (.r 12)),
        .setR 14 (.ref (.nth (.r 10) (.r 12))),
        .setR 15 (.deref (.r 14)),
        .setO 9 (.con (.agg [(.int 0), (.int 0)])),
        .setR 9 (.con .none),
        .setO 9 (.setc (.o 9) 0 (.r 15))])
      (.seq
       (.is [.setR 16 (.con .none),
         .setR 17 (.cell (.o 9) 0),
         .setR 18 (.r 0),
         .setR 19 (.llen (.r 18)),
         .setR 20 (.ai .sub .i64 (.r 19) (.con (.int 1))),
         .call [] 21 51 [(.r 17), (.con (.int 0)), (.r 20)],
         .setR 22 (.r 21),
         .setR 23 (.r 0),
         .setR 24 (.con .none),
         .setR 25 (.cell (.o 9) 0),
         .chk (.imp [(22, true)] (.idx (.r 23) (.r 25))),
         .setR 26 (.ref (.nth (.r 23) (.r 25))),
         .setR 27 (.ref (.cell (.deref (.r 26)) 0)),
         .setR 28 (.deref (.r 27)),
         .setR 29 (.r 2),
         .setR 30 (.ci .eql (.r 28) (.r 29)),
         .setR 31 (.pick (.r 22) (.r 30) (.con (.bool false)))])
       (.ite (.r 31) [7] []
        (.is [.setR 32 (.r 7),
          .setR 33 (.con .none),
          .setR 34 (.cell (.o 9) 1),
          .setR 35 (.ai .add .i64 (.r 32) (.r 34)),
          .setR 7 (.r 35)])
        .skip))))
    (.is [.setR 36 (.ai .add .i64 (.r 12) (.con (.int 1))),
      .setR 12 (.r 36)]))))
def lp33_0 : PC := .block 0 [7, 12, 13] [] (.loop [7, 12] [] bd33_0)
def rd33_0 : PT :=
 (.ite (.ci .lss (.r 12) (.r 11))
  (.blockS ⟨[(13, (.ci .lss (.r 12) (.r 11)))], []⟩ 1 [7, 9, 14, 15, 16, 17, 18, 19, 20, 21, 22, 31] [9]
   (.chk (.idx (.r 10) (.r 12))
   (.call ⟨[(20, (.ai .sub .i64 (.llen (.r 0)) (.con (.int 1)))), (19, (.llen (.r 0))), (18, (.r 0)), (17, (.cell (.setc (.con (.agg [(.int 0), (.int 0)])) 0 (.nth (.r 10) (.r 12))) 0)), (16, (.con .none)), (9, (.con .none)), (15, (.nth (.r 10) (.r 12))), (14, (.ref (.nth (.r 10) (.r 12))))], [(9, (.setc (.con (.agg [(.int 0), (.int 0)])) 0 (.nth (.r 10) (.r 12)))), (9, (.con (.agg [(.int 0), (.int 0)])))]⟩ [] 21 51 [(.r 17), (.con (.int 0)), (.r 20)]
   (.chk (.nt (.an (.an (.r 21) (.con (.bool true))) (.nt (.idx (.r 0) (.cell (.o 9) 0)))))
   (.next ⟨[(7, (.pick (.pick (.r 21) (.ci .eql (.cell (.nth (.r 0) (.cell (.o 9) 0)) 0) (.r 2)) (.con (.bool false))) (.ai .add .i64 (.r 7) (.cell (.o 9) 1)) (.r 7))), (31, (.pick (.r 21) (.ci .eql (.cell (.nth (.r 0) (.cell (.o 9) 0)) 0) (.r 2)) (.con (.bool false)))), (30, (.ci .eql (.cell (.nth (.r 0) (.cell (.o 9) 0)) 0) (.r 2))), (29, (.r 2)), (28, (.cell (.nth (.r 0) (.cell (.o 9) 0)) 0)), (27, (.ref (.cell (.nth (.r 0) (.cell (.o 9) 0)) 0))), (26, (.ref (.nth (.r 0) (.cell (.o 9) 0)))), (25, (.cell (.o 9) 0)), (24, (.con .none)), (23, (.r 0)), (22, (.r 21))], []⟩))))
  (.next ⟨[(7, (.r 7)), (12, (.ai .add .i64 (.r 12) (.con (.int 1))))], []⟩))
  (.exit 0 ⟨[(7, (.r 7)), (12, (.r 12)), (13, (.ci .lss (.r 12) (.r 11)))], []⟩))
theorem rd33_0_eq : round 0 [7, 12, 13] [] [7, 12] [] bd33_0 = rd33_0 := by kernel_rfl
def pc33 : PC :=
 (.seq
  (.is [.setR 6 (.con (.int 0))])
  (.seq
   (.is [.setR 7 (.con (.int 0))])
   (.seq
    (.seq
     (.is [.setR 10 (.r 1),
       .setR 11 (.llen (.r 10)),
       .setR 12 (.con (.int 0))])
     lp33_0)
    (.seq
     (.is [.setR 37 (.r 7),
       .setR 6 (.r 37)])
     (.ret (.r 6))))))
def tr33 : PT :=
 (.brk ⟨[(12, (.con (.int 0))), (11, (.llen (.r 1))), (10, (.r 1)), (7, (.con (.int 0))), (6, (.con (.int 0)))], []⟩
  lp33_0
 (.ret (.r 7)))
theorem tr33_eq : tree pc33 = tr33 := by kernel_rfl
/-! allonge/allongeref48.Few -/
def pc27 : PC :=
 (.seq
  (.is [.setR 6 (.con (.bool false))])
  (.seq
   (.is [.setR 7 (.r 0),
     .setR 8 (.llen (.r 7)),
     .setR 9 (.ci .leq (.r 8) (.con (.int 12))),
     .setR 10 (.r 9),
     .setR 11 (.r 1),
     .setR 12 (.llen (.r 11)),
     .setR 13 (.ci .leq (.r 12) (.con (.int 60))),
     .setR 14 (.pick (.r 10) (.r 13) (.con (.bool false))),
     .setR 15 (.r 14),
     .setR 16 (.r 2),
     .setR 17 (.llen (.r 16)),
     .setR 18 (.ci .leq (.r 17) (.con (.int 30))),
     .setR 19 (.r 18),
     .setR 20 (.r 2),
     .setR 21 (.llen (.r 20)),
     .setR 22 (.ci .gtr (.r 21) (.con (.int 100))),
     .setR 23 (.r 22),
     .setR 24 (.r 2),
     .setR 25 (.llen (.r 24)),
     .setR 26 (.ci .lss (.r 25) (.con (.int 120))),
     .setR 27 (.pick (.r 23) (.r 26) (.con (.bool false))),
     .setR 28 (.pick (.r 19) (.con (.bool true)) (.r 27)),
     .setR 29 (.pick (.r 15) (.r 28) (.con (.bool false))),
     .setR 6 (.r 29)])
   (.ret (.r 6))))
def tr27 : PT :=
 (.ret (.pick (.pick (.ci .leq (.llen (.r 0)) (.con (.int 12))) (.ci .leq (.llen (.r 1)) (.con (.int 60))) (.con (.bool false))) (.pick (.ci .leq (.llen (.r 2)) (.con (.int 30))) (.con (.bool true)) (.pick (.ci .gtr (.llen (.r 2)) (.con (.int 100))) (.ci .lss (.llen (.r 2)) (.con (.int 120))) (.con (.bool false)))) (.con (.bool false))))
theorem tr27_eq : tree pc27 = tr27 := by kernel_rfl
/-! allonge/allongeref48.Share -/
def bd29_0 : PC :=
 (.seq
  (.seq
   (.is [.setR 35 (.r 11)])
   (.ite (.r 35) [] []
    .skip
    (.exit 2)))
  (.block 3 [8, 10, 11, 12, 13, 36, 37, 38, 39, 40, 41, 42, 43, 44, 45, 46, 47, 48, 49, 50, 51, 52] []
   (.seq
    (.is [.setR 36 (.r 1),
      .setR 37 (.r 2),
      .setR 38 (.r 8),
      .setR 39 (.r 9),
      .setR 40 (.r 10),
      .call [] 41 49 [(.r 36), (.r 37), (.r 38), (.r 39), (.r 40)],
      .setR 12 (.r 41)])
    (.seq
     (.is [.setR 42 (.r 12),
       .call [] 43 50 [(.r 42)],
       .setR 44 (.r 8),
       .call [] 45 50 [(.r 44)],
       .setR 46 (.ai .sub .i64 (.r 43) (.r 45)),
       .setR 13 (.r 46)])
     (.seq
      (.is [.setR 47 (.r 10),
        .setR 48 (.r 13),
        .setR 49 (.ai .sub .i64 (.r 47) (.r 48)),
        .setR 10 (.r 49)])
      (.seq
       (.is [.setR 50 (.r 12),
         .setR 8 (.r 50)])
       (.is [.setR 51 (.r 13),
         .setR 52 (.ci .gtr (.r 51) (.con (.int 0))),
         .setR 11 (.r 52)])))))))
def lp29_0 : PC := .block 2 [8, 10, 11, 35] [] (.loop [8, 10, 11] [] bd29_0)
def rd29_0 : PT :=
 (.ite (.r 11)
  (.blockS ⟨[(35, (.r 11))], []⟩ 3 [8, 10, 11, 12, 13, 36, 37, 38, 39, 40, 41, 42, 43, 44, 45, 46, 47, 48, 49, 50, 51, 52] []
   (.call ⟨[(40, (.r 10)), (39, (.r 9)), (38, (.r 8)), (37, (.r 2)), (36, (.r 1))], []⟩ [] 41 49 [(.r 36), (.r 37), (.r 38), (.r 39), (.r 40)]
   (.call ⟨[(42, (.r 41)), (12, (.r 41))], []⟩ [] 43 50 [(.r 42)]
   (.call ⟨[(44, (.r 8))], []⟩ [] 45 50 [(.r 44)]
   (.next ⟨[(11, (.ci .gtr (.ai .sub .i64 (.r 43) (.r 45)) (.con (.int 0)))), (52, (.ci .gtr (.ai .sub .i64 (.r 43) (.r 45)) (.con (.int 0)))), (51, (.ai .sub .i64 (.r 43) (.r 45))), (8, (.r 12)), (50, (.r 12)), (10, (.ai .sub .i64 (.r 10) (.ai .sub .i64 (.r 43) (.r 45)))), (49, (.ai .sub .i64 (.r 10) (.ai .sub .i64 (.r 43) (.r 45)))), (48, (.ai .sub .i64 (.r 43) (.r 45))), (47, (.r 10)), (13, (.ai .sub .i64 (.r 43) (.r 45))), (46, (.ai .sub .i64 (.r 43) (.r 45)))], []⟩))))
  (.next ⟨[(8, (.r 8)), (10, (.r 10)), (11, (.r 11))], []⟩))
  (.exit 2 ⟨[(8, (.r 8)), (10, (.r 10)), (11, (.r 11)), (35, (.r 11))], []⟩))
theorem rd29_0_eq : round 2 [8, 10, 11, 35] [] [8, 10, 11] [] bd29_0 = rd29_0 := by kernel_rfl
def bd29_1 : PC :=
 (.seq
  (.seq
   (.is [.setR 24 (.r 9),
     .setR 25 (.r 0),
     .setR 26 (.llen (.r 25)),
     .setR 27 (.ci .lss (.r 24) (.r 26))])
   (.ite (.r 27) [] []
    .skip
    (.exit 0)))
  (.seq
   (.block 1 [8, 10, 11, 30, 31, 32, 33, 34, 35] []
    (.seq
     (.is [.setR 30 (.r 0),
       .setR 31 (.r 9),
       .chk (.idx (.r 30) (.r 31)),
       .setR 32 (.ref (.nth (.r 30) (.r 31))),
       .setR 33 (.ref (.cell (.deref (.r 32)) 2)),
       .setR 34 (.deref (.r 33)),
       .setR 10 (.r 34)])
     (.seq
      (.is [.setR 11 (.con (.bool true))])
      lp29_0)))
   (.is [.setR 28 (.r 9),
     .setR 29 (.ai .add .i64 (.r 28) (.con (.int 1))),
     .setR 9 (.r 29)])))
def lp29_1 : PC := .block 0 [8, 9, 24, 25, 26, 27] [] (.loop [8, 9] [] bd29_1)
def rd29_1 : PT :=
 (.ite (.ci .lss (.r 9) (.llen (.r 0)))
  (.blockS ⟨[(27, (.ci .lss (.r 9) (.llen (.r 0)))), (26, (.llen (.r 0))), (25, (.r 0)), (24, (.r 9))], []⟩ 1 [8, 10, 11, 30, 31, 32, 33, 34, 35] []
   (.chk (.idx (.r 0) (.r 9))
   (.brk ⟨[(11, (.con (.bool true))), (10, (.cell (.nth (.r 0) (.r 9)) 2)), (34, (.cell (.nth (.r 0) (.r 9)) 2)), (33, (.ref (.cell (.nth (.r 0) (.r 9)) 2))), (32, (.ref (.nth (.r 0) (.r 9)))), (31, (.r 9)), (30, (.r 0))], []⟩
    lp29_0
   (.next ⟨[], []⟩)))
  (.next ⟨[(8, (.r 8)), (9, (.ai .add .i64 (.r 9) (.con (.int 1))))], []⟩))
  (.exit 0 ⟨[(8, (.r 8)), (9, (.r 9)), (24, (.r 9)), (25, (.r 0)), (26, (.llen (.r 0))), (27, (.ci .lss (.r 9) (.llen (.r 0))))], []⟩))
theorem rd29_1_eq : round 0 [8, 9, 24, 25, 26, 27] [] [8, 9] [] bd29_1 = rd29_1 := by kernel_rfl
def bd29_2 : PC :=
 (.seq
  (.seq
   (.is [.setR 53 (.r 15),
     .setR 54 (.r 2),
     .setR 55 (.llen (.r 54)),
     .setR 56 (.ci .lss (.r 53) (.r 55))])
   (.ite (.r 56) [] []
    .skip
    (.exit 4)))
  (.seq
   (.block 5 [14, 60, 61, 62, 63, 64, 65, 66, 67] [14, 66]
    (.is [.setR 59 (.r 14),
      .setR 60 (.r 15),
      .setR 61 (.r 8),
      .setR 62 (.r 15),
      .chk (.idx (.r 61) (.r 62)),
      .setR 63 (.ref (.nth (.r 61) (.r 62))),
      .setR 64 (.deref (.r 63)),
      .setR 65 (.mk [(.r 60), (.r 64)]),
      .setO 66 (.lst [(.r 65)]),
      .setR 66 (.con .none),
      .chk (.ci .leq (.llen (.app (.o 14) (.o 66))) (.con (.int 4294967296))),
      .setO 14 (.app (.o 14) (.o 66)),
      .setR 67 (.con .none),
      .setR 14 (.r 67)]))
   (.is [.setR 57 (.r 15),
     .setR 58 (.ai .add .i64 (.r 57) (.con (.int 1))),
     .setR 15 (.r 58)])))
def lp29_2 : PC := .block 4 [14, 15, 53, 54, 55, 56] [14] (.loop [14, 15] [14] bd29_2)
def rd29_2 : PT :=
 (.ite (.ci .lss (.r 15) (.llen (.r 2)))
  (.chk (.idx (.r 8) (.r 15))
  (.chk (.ci .leq (.llen (.app (.o 14) (.lst [(.mk [(.r 15), (.nth (.r 8) (.r 15))])]))) (.con (.int 4294967296)))
  (.next ⟨[(14, (.con .none)), (15, (.ai .add .i64 (.r 15) (.con (.int 1))))], [(14, (.app (.o 14) (.lst [(.mk [(.r 15), (.nth (.r 8) (.r 15))])])))]⟩)))
  (.exit 4 ⟨[(14, (.r 14)), (15, (.r 15)), (53, (.r 15)), (54, (.r 2)), (55, (.llen (.r 2))), (56, (.ci .lss (.r 15) (.llen (.r 2))))], [(14, (.o 14))]⟩))
theorem rd29_2_eq : round 4 [14, 15, 53, 54, 55, 56] [14] [14, 15] [14] bd29_2 = rd29_2 := by kernel_rfl
def pc29 : PC :=
 (.seq
  (.is [.setR 6 (.con (.list [])),
    .setR 7 (.con (.int 0))])
  (.seq
   (.seq
    (.is [.setR 16 (.r 0),
      .setR 17 (.r 1),
      .setR 18 (.r 2),
      .call [] 19 32 [(.r 16), (.r 17), (.r 18)],
      .setR 20 (.nt (.r 19))])
    (.ite (.r 20) [6, 7] []
     (.seq
      (.is [.setR 6 (.con (.list [])),
        .setR 7 (.con (.int 1))])
      (.ret (.tup [(.r 6), (.r 7)])))
     .skip))
   (.seq
    (.is [.setR 21 (.r 2),
      .setR 22 (.llen (.r 21)),
      .chk (.an (.ci .geq (.r 22) (.con (.int 0))) (.ci .leq (.r 22) (.con (.int 4294967296)))),
      .chk (.ci .eql (.r 22) (.r 22)),
      .setO 23 (.rep (.r 22) (.con (.int 0))),
      .setR 23 (.con .none),
      .setR 8 (.o 23)])
    (.seq
     (.seq
      (.is [.setR 9 (.con (.int 0))])
      lp29_1)
     (.seq
      (.is [.setO 14 (.con (.list [])),
        .setR 14 (.con .none)])
      (.seq
       (.seq
        (.is [.setR 15 (.con (.int 0))])
        lp29_2)
       (.seq
        (.is [.setR 68 (.r 14),
          .setR 6 (.o 14),
          .setR 7 (.con (.int 0))])
        (.ret (.tup [(.r 6), (.r 7)])))))))))
def tr29 : PT :=
 (.call ⟨[(18, (.r 2)), (17, (.r 1)), (16, (.r 0)), (7, (.con (.int 0))), (6, (.con (.list [])))], []⟩ [] 19 32 [(.r 16), (.r 17), (.r 18)]
 (.ite (.nt (.r 19))
  (.ret (.tup [(.con (.list [])), (.con (.int 1))]))
  (.chk (.an (.ci .geq (.llen (.r 2)) (.con (.int 0))) (.ci .leq (.llen (.r 2)) (.con (.int 4294967296))))
  (.chk (.ci .eql (.llen (.r 2)) (.llen (.r 2)))
  (.brk ⟨[(9, (.con (.int 0))), (8, (.rep (.llen (.r 2)) (.con (.int 0)))), (23, (.con .none)), (22, (.llen (.r 2))), (21, (.r 2)), (6, (.r 6)), (7, (.r 7)), (20, (.nt (.r 19)))], [(23, (.rep (.llen (.r 2)) (.con (.int 0))))]⟩
   lp29_1
  (.brk ⟨[(15, (.con (.int 0))), (14, (.con .none))], [(14, (.con (.list [])))]⟩
   lp29_2
  (.ret (.tup [(.o 14), (.con (.int 0))]))))))))
theorem tr29_eq : tree pc29 = tr29 := by kernel_rfl
/-! allonge/allongeref48.Right -/
def bd32_0 : PC :=
 (.seq
  (.seq
   (.is [.setR 25 (.r 7),
     .setR 26 (.r 0),
     .setR 27 (.llen (.r 26)),
     .setR 28 (.ci .lss (.r 25) (.r 27))])
   (.ite (.r 28) [] []
    .skip
    (.exit 0)))
  (.seq
   (.block 1 [6, 31, 32, 33, 34, 35, 36, 37] []
    (.seq
     (.is [.setR 31 (.r 0),
       .setR 32 (.r 7),
       .chk (.idx (.r 31) (.r 32)),
       .setR 33 (.ref (.nth (.r 31) (.r 32))),
       .setR 34 (.ref (.cell (.deref (.r 33)) 2)),
       .setR 35 (.deref (.r 34)),
       .call [] 36 52 [(.r 35), (.con (.int 0)), (.con (.int 1099511627776))],
       .setR 37 (.nt (.r 36))])
     (.ite (.r 37) [6] []
      (.seq
       (.is [.setR 6 (.con (.bool false))])
       (.ret (.r 6)))
      .skip)))
   (.is [.setR 29 (.r 7),
     .setR 30 (.ai .add .i64 (.r 29) (.con (.int 1))),
     .setR 7 (.r 30)])))
def lp32_0 : PC := .block 0 [6, 7, 25, 26, 27, 28] [] (.loop [6, 7] [] bd32_0)
def rd32_0 : PT :=
 (.ite (.ci .lss (.r 7) (.llen (.r 0)))
  (.blockS ⟨[(28, (.ci .lss (.r 7) (.llen (.r 0)))), (27, (.llen (.r 0))), (26, (.r 0)), (25, (.r 7))], []⟩ 1 [6, 31, 32, 33, 34, 35, 36, 37] []
   (.chk (.idx (.r 0) (.r 7))
   (.call ⟨[(35, (.cell (.nth (.r 0) (.r 7)) 2)), (34, (.ref (.cell (.nth (.r 0) (.r 7)) 2))), (33, (.ref (.nth (.r 0) (.r 7)))), (32, (.r 7)), (31, (.r 0))], []⟩ [] 36 52 [(.r 35), (.con (.int 0)), (.con (.int 1099511627776))]
   (.ite (.nt (.r 36))
    (.ret (.con (.bool false)))
    (.next ⟨[(6, (.r 6)), (37, (.nt (.r 36)))], []⟩))))
  (.next ⟨[(6, (.r 6)), (7, (.ai .add .i64 (.r 7) (.con (.int 1))))], []⟩))
  (.exit 0 ⟨[(6, (.r 6)), (7, (.r 7)), (25, (.r 7)), (26, (.r 0)), (27, (.llen (.r 0))), (28, (.ci .lss (.r 7) (.llen (.r 0))))], []⟩))
theorem rd32_0_eq : round 0 [6, 7, 25, 26, 27, 28] [] [6, 7] [] bd32_0 = rd32_0 := by kernel_rfl
def bd32_1 : PC :=
 (.seq
  (.seq
   (.is [.setR 38 (.r 8),
     .setR 39 (.r 1),
     .setR 40 (.llen (.r 39)),
     .setR 41 (.ci .lss (.r 38) (.r 40))])
   (.ite (.r 41) [] []
    .skip
    (.exit 2)))
  (.seq
   (.block 3 [6, 44, 45, 46, 47, 48, 49] []
    (.seq
     (.is [.setR 44 (.r 1),
       .setR 45 (.r 8),
       .chk (.idx (.r 44) (.r 45)),
       .setR 46 (.ref (.nth (.r 44) (.r 45))),
       .setR 47 (.deref (.r 46)),
       .call [] 48 52 [(.r 47), (.con (.int 1)), (.con (.int 1099511627776))],
       .setR 49 (.nt (.r 48))])
     (.ite (.r 49) [6] []
      (.seq
       (.is [.setR 6 (.con (.bool false))])
       (.ret (.r 6)))
      .skip)))
   (.is [.setR 42 (.r 8),
     .setR 43 (.ai .add .i64 (.r 42) (.con (.int 1))),
     .setR 8 (.r 43)])))
def lp32_1 : PC := .block 2 [6, 8, 38, 39, 40, 41] [] (.loop [6, 8] [] bd32_1)
def rd32_1 : PT :=
 (.ite (.ci .lss (.r 8) (.llen (.r 1)))
  (.blockS ⟨[(41, (.ci .lss (.r 8) (.llen (.r 1)))), (40, (.llen (.r 1))), (39, (.r 1)), (38, (.r 8))], []⟩ 3 [6, 44, 45, 46, 47, 48, 49] []
   (.chk (.idx (.r 1) (.r 8))
   (.call ⟨[(47, (.nth (.r 1) (.r 8))), (46, (.ref (.nth (.r 1) (.r 8)))), (45, (.r 8)), (44, (.r 1))], []⟩ [] 48 52 [(.r 47), (.con (.int 1)), (.con (.int 1099511627776))]
   (.ite (.nt (.r 48))
    (.ret (.con (.bool false)))
    (.next ⟨[(6, (.r 6)), (49, (.nt (.r 48)))], []⟩))))
  (.next ⟨[(6, (.r 6)), (8, (.ai .add .i64 (.r 8) (.con (.int 1))))], []⟩))
  (.exit 2 ⟨[(6, (.r 6)), (8, (.r 8)), (38, (.r 8)), (39, (.r 1)), (40, (.llen (.r 1))), (41, (.ci .lss (.r 8) (.llen (.r 1))))], []⟩))
theorem rd32_1_eq : round 2 [6, 8, 38, 39, 40, 41] [] [6, 8] [] bd32_1 = rd32_1 := by kernel_rfl
def bd32_2 : PC :=
 (.seq
  (.seq
   (.is [.setR 85 (.r 11),
     .setR 86 (.r 9),
     .setR 87 (.ci .lss (.r 85) (.r 86))])
   (.ite (.r 87) [] []
    .skip
    (.exit 6)))
  (.seq
   (.block 7 [6, 90, 91, 92, 93, 94, 95, 96, 97, 98, 107] []
    (.seq
     (.is [.setR 90 (.r 2),
       .setR 91 (.r 11),
       .chk (.idx (.r 90) (.r 91)),
       .setR 92 (.ref (.nth (.r 90) (.r 91))),
       .setR 93 (.ref (.cell (.deref (.r 92)) 0)),
       .setR 94 (.deref (.r 93)),
       .setR 95 (.con .none),
       .setR 96 (.cell (.o 10) 0),
       .setR 97 (.ci .eql (.r 94) (.r 96)),
       .setR 98 (.r 97),
       .setR 99 (.r 2),
       .setR 100 (.r 11),
       .chk (.imp [(98, true)] (.idx (.r 99) (.r 100))),
       .setR 101 (.ref (.nth (.r 99) (.r 100))),
       .setR 102 (.ref (.cell (.deref (.r 101)) 1)),
       .setR 103 (.deref (.r 102)),
       .setR 104 (.con .none),
       .setR 105 (.cell (.o 10) 1),
       .setR 106 (.ci .eql (.r 103) (.r 105)),
       .setR 107 (.pick (.r 98) (.r 106) (.con (.bool false)))])
     (.ite (.r 107) [6] []
      (.seq
       (.is [.setR 6 (.con (.bool false))])
       (.ret (.r 6)))
      .skip)))
   (.is [.setR 88 (.r 11),
     .setR 89 (.ai .add .i64 (.r 88) (.con (.int 1))),
     .setR 11 (.r 89)])))
def lp32_2 : PC := .block 6 [6, 11, 85, 86, 87] [] (.loop [6, 11] [] bd32_2)
def rd32_2 : PT :=
 (.ite (.ci .lss (.r 11) (.r 9))
  (.chk (.idx (.r 2) (.r 11))
  (.chk (.nt (.an (.an (.ci .eql (.cell (.nth (.r 2) (.r 11)) 0) (.cell (.o 10) 0)) (.con (.bool true))) (.nt (.idx (.r 2) (.r 11)))))
  (.ite (.pick (.ci .eql (.cell (.nth (.r 2) (.r 11)) 0) (.cell (.o 10) 0)) (.ci .eql (.cell (.nth (.r 2) (.r 11)) 1) (.cell (.o 10) 1)) (.con (.bool false)))
   (.ret (.con (.bool false)))
   (.next ⟨[(6, (.r 6)), (11, (.ai .add .i64 (.r 11) (.con (.int 1))))], []⟩))))
  (.exit 6 ⟨[(6, (.r 6)), (11, (.r 11)), (85, (.r 11)), (86, (.r 9)), (87, (.ci .lss (.r 11) (.r 9)))], []⟩))
theorem rd32_2_eq : round 6 [6, 11, 85, 86, 87] [] [6, 11] [] bd32_2 = rd32_2 := by kernel_rfl
def bd32_3 : PC :=
 (.seq
  (.seq
   (.is [.setR 50 (.r 9),
     .setR 51 (.r 2),
     .setR 52 (.llen (.r 51)),
     .setR 53 (.ci .lss (.r 50) (.r 52))])
   (.ite (.r 53) [] []
    .skip
    (.exit 4)))
  (.seq
   (.block 5 [6, 10, 11, 56, 57, 58, 59, 60, 61, 62, 63, 64, 65, 66, 67, 75, 76, 77, 78, 79, 80, 81, 82, 83, 84, 85, 86, 87] [10]
    (.seq
     (.is [.setR 56 (.r 2),
       .setR 57 (.r 9),
       .chk (.idx (.r 56) (.r 57)),
       .setR 58 (.ref (.nth (.r 56) (.r 57))),
       .setR 59 (.deref (.r 58)),
       .setO 10 (.con (.agg [(.int 0), (.int 0), (.int 0)])),
       .setR 10 (.con .none),
       .setO 10 (.setc (.o 10) 0 (.r 59))])
     (.seq
      (.seq
       (.is [.setR 60 (.con .none),
         .setR 61 (.cell (.o 10) 0),
         .setR 62 (.r 1),
         .setR 63 (.llen (.r 62)),
         .setR 64 (.ai .sub .i64 (.r 63) (.con (.int 1))),
         .call [] 65 52 [(.r 61), (.con (.int 0)), (.r 64)],
         .setR 66 (.nt (.r 65)),
         .setR 67 (.r 66),
         .setR 68 (.con .none),
         .setR 69 (.cell (.o 10) 1),
         .setR 70 (.r 0),
         .setR 71 (.llen (.r 70)),
         .setR 72 (.ai .sub .i64 (.r 71) (.con (.int 1))),
         .call [(67, false)] 73 52 [(.r 69), (.con (.int 0)), (.r 72)],
         .setR 74 (.nt (.r 73)),
         .setR 75 (.pick (.r 67) (.con (.bool true)) (.r 74))])
       (.ite (.r 75) [6] []
        (.seq
         (.is [.setR 6 (.con (.bool false))])
         (.ret (.r 6)))
        .skip))
      (.seq
       (.seq
        (.is [.setR 76 (.con .none),
          .setR 77 (.cell (.o 10) 2),
          .setR 78 (.r 1),
          .setR 79 (.con .none),
          .setR 80 (.cell (.o 10) 0),
          .chk (.idx (.r 78) (.r 80)),
          .setR 81 (.ref (.nth (.r 78) (.r 80))),
          .setR 82 (.deref (.r 81)),
          .call [] 83 52 [(.r 77), (.con (.int 1)), (.r 82)],
          .setR 84 (.nt (.r 83))])
        (.ite (.r 84) [6] []
         (.seq
          (.is [.setR 6 (.con (.bool false))])
          (.ret (.r 6)))
         .skip))
       (.seq
        (.is [.setR 11 (.con (.int 0))])
        lp32_2)))))
   (.is [.setR 54 (.r 9),
     .setR 55 (.ai .add .i64 (.r 54) (.con (.int 1))),
     .setR 9 (.r 55)])))
def lp32_3 : PC := .block 4 [6, 9, 50, 51, 52, 53] [] (.loop [6, 9] [] bd32_3)
def rd32_3 : PT :=
 (.ite (.ci .lss (.r 9) (.llen (.r 2)))
  (.blockS ⟨[(53, (.ci .lss (.r 9) (.llen (.r 2)))), (52, (.llen (.r 2))), (51, (.r 2)), (50, (.r 9))], []⟩ 5 [6, 10, 11, 56, 57, 58, 59, 60, 61, 62, 63, 64, 65, 66, 67, 75, 76, 77, 78, 79, 80, 81, 82, 83, 84, 85, 86, 87] [10]
   (.chk (.idx (.r 2) (.r 9))
   (.call ⟨[(64, (.ai .sub .i64 (.llen (.r 1)) (.con (.int 1)))), (63, (.llen (.r 1))), (62, (.r 1)), (61, (.cell (.setc (.con (.agg [(.int 0), (.int 0), (.int 0)])) 0 (.nth (.r 2) (.r 9))) 0)), (60, (.con .none)), (10, (.con .none)), (59, (.nth (.r 2) (.r 9))), (58, (.ref (.nth (.r 2) (.r 9)))), (57, (.r 9)), (56, (.r 2))], [(10, (.setc (.con (.agg [(.int 0), (.int 0), (.int 0)])) 0 (.nth (.r 2) (.r 9)))), (10, (.con (.agg [(.int 0), (.int 0), (.int 0)])))]⟩ [] 65 52 [(.r 61), (.con (.int 0)), (.r 64)]
   (.call ⟨[(72, (.ai .sub .i64 (.llen (.r 0)) (.con (.int 1)))), (71, (.llen (.r 0))), (70, (.r 0)), (69, (.cell (.o 10) 1)), (68, (.con .none)), (67, (.nt (.r 65))), (66, (.nt (.r 65)))], []⟩ [(67, false)] 73 52 [(.r 69), (.con (.int 0)), (.r 72)]
   (.ite (.pick (.r 67) (.con (.bool true)) (.nt (.r 73)))
    (.ret (.con (.bool false)))
    (.chk (.idx (.r 1) (.cell (.o 10) 0))
    (.call ⟨[(82, (.nth (.r 1) (.cell (.o 10) 0))), (81, (.ref (.nth (.r 1) (.cell (.o 10) 0)))), (80, (.cell (.o 10) 0)), (79, (.con .none)), (78, (.r 1)), (77, (.cell (.o 10) 2)), (76, (.con .none)), (6, (.r 6)), (75, (.pick (.r 67) (.con (.bool true)) (.nt (.r 73)))), (74, (.nt (.r 73)))], []⟩ [] 83 52 [(.r 77), (.con (.int 1)), (.r 82)]
    (.ite (.nt (.r 83))
     (.ret (.con (.bool false)))
     (.brk ⟨[(11, (.con (.int 0))), (6, (.r 6)), (84, (.nt (.r 83)))], []⟩
      lp32_2
     (.next ⟨[], []⟩)))))))))
  (.next ⟨[(6, (.r 6)), (9, (.ai .add .i64 (.r 9) (.con (.int 1))))], []⟩))
  (.exit 4 ⟨[(6, (.r 6)), (9, (.r 9)), (50, (.r 9)), (51, (.r 2)), (52, (.llen (.r 2))), (53, (.ci .lss (.r 9) (.llen (.r 2))))], []⟩))
theorem rd32_3_eq : round 4 [6, 9, 50, 51, 52, 53] [] [6, 9] [] bd32_3 = rd32_3 := by kernel_rfl
def pc32 : PC :=
 (.seq
  (.is [.setR 6 (.con (.bool false))])
  (.seq
   (.seq
    (.is [.setR 12 (.r 0),
      .setR 13 (.llen (.r 12)),
      .setR 14 (.ci .gtr (.r 13) (.con (.int 10))),
      .setR 15 (.r 14),
      .setR 16 (.r 1),
      .setR 17 (.llen (.r 16)),
      .setR 18 (.ci .gtr (.r 17) (.con (.int 50))),
      .setR 19 (.pick (.r 15) (.con (.bool true)) (.r 18)),
      .setR 20 (.r 19),
      .setR 21 (.r 2),
      .setR 22 (.llen (.r 21)),
      .setR 23 (.ci .gtr (.r 22) (.con (.int 100))),
      .setR 24 (.pick (.r 20) (.con (.bool true)) (.r 23))])
    (.ite (.r 24) [6] []
     (.seq
      (.is [.setR 6 (.con (.bool false))])
      (.ret (.r 6)))
     .skip))
   (.seq
    (.seq
     (.is [.setR 7 (.con (.int 0))])
     lp32_0)
    (.seq
     (.seq
      (.is [.setR 8 (.con (.int 0))])
      lp32_1)
     (.seq
      (.seq
       (.is [.setR 9 (.con (.int 0))])
       lp32_3)
      (.seq
       (.is [.setR 6 (.con (.bool true))])
       (.ret (.r 6))))))))
def tr32 : PT :=
 (.ite (.pick (.pick (.ci .gtr (.llen (.r 0)) (.con (.int 10))) (.con (.bool true)) (.ci .gtr (.llen (.r 1)) (.con (.int 50)))) (.con (.bool true)) (.ci .gtr (.llen (.r 2)) (.con (.int 100))))
  (.ret (.con (.bool false)))
  (.brk ⟨[(7, (.con (.int 0))), (6, (.con (.bool false))), (24, (.pick (.pick (.ci .gtr (.llen (.r 0)) (.con (.int 10))) (.con (.bool true)) (.ci .gtr (.llen (.r 1)) (.con (.int 50)))) (.con (.bool true)) (.ci .gtr (.llen (.r 2)) (.con (.int 100))))), (23, (.ci .gtr (.llen (.r 2)) (.con (.int 100)))), (22, (.llen (.r 2))), (21, (.r 2)), (20, (.pick (.ci .gtr (.llen (.r 0)) (.con (.int 10))) (.con (.bool true)) (.ci .gtr (.llen (.r 1)) (.con (.int 50))))), (19, (.pick (.ci .gtr (.llen (.r 0)) (.con (.int 10))) (.con (.bool true)) (.ci .gtr (.llen (.r 1)) (.con (.int 50))))), (18, (.ci .gtr (.llen (.r 1)) (.con (.int 50)))), (17, (.llen (.r 1))), (16, (.r 1)), (15, (.ci .gtr (.llen (.r 0)) (.con (.int 10)))), (14, (.ci .gtr (.llen (.r 0)) (.con (.int 10)))), (13, (.llen (.r 0))), (12, (.r 0)), (6, (.con (.bool false)))], []⟩
   lp32_0
  (.brk ⟨[(8, (.con (.int 0)))], []⟩
   lp32_1
  (.brk ⟨[(9, (.con (.int 0)))], []⟩
   lp32_3
  (.ret (.con (.bool true)))))))
theorem tr32_eq : tree pc32 = tr32 := by kernel_rfl
/-! allonge/allongeref09.Within -/
def pc52 : PC :=
 (.seq
  (.is [.setR 6 (.con (.bool false))])
  (.seq
   (.is [.setR 7 (.r 1),
     .setR 8 (.r 0),
     .setR 9 (.ci .leq (.r 7) (.r 8)),
     .setR 10 (.r 9),
     .setR 11 (.r 0),
     .setR 12 (.r 2),
     .setR 13 (.ci .leq (.r 11) (.r 12)),
     .setR 14 (.pick (.r 10) (.r 13) (.con (.bool false))),
     .setR 6 (.r 14)])
   (.ret (.r 6))))
def tr52 : PT :=
 (.ret (.pick (.ci .leq (.r 1) (.r 0)) (.ci .leq (.r 0) (.r 2)) (.con (.bool false))))
theorem tr52_eq : tree pc52 = tr52 := by kernel_rfl
/-! allonge/allongeref48.round -/
def bd49_0 : PC :=
 (.seq
  (.seq
   (.is [.setR 19 (.r 13),
     .setR 20 (.r 1),
     .setR 21 (.llen (.r 20)),
     .setR 22 (.ci .lss (.r 19) (.r 21))])
   (.ite (.r 22) [] []
    .skip
    (.exit 0)))
  (.seq
   (.block 1 [12, 25, 26, 27, 28, 29, 30, 31, 32, 39] []
    (.seq
     (.is [.setR 25 (.r 1),
       .setR 26 (.r 13),
       .chk (.idx (.r 25) (.r 26)),
       .setR 27 (.ref (.nth (.r 25) (.r 26))),
       .setR 28 (.ref (.cell (.deref (.r 27)) 1)),
       .setR 29 (.deref (.r 28)),
       .setR 30 (.r 3),
       .setR 31 (.ci .eql (.r 29) (.r 30)),
       .setR 32 (.r 31),
       .setR 33 (.r 0),
       .setR 34 (.r 1),
       .setR 35 (.r 2),
       .setR 36 (.r 13),
       .call [(32, true)] 37 39 [(.r 33), (.r 34), (.r 35), (.r 36)],
       .setR 38 (.ci .gtr (.r 37) (.con (.int 0))),
       .setR 39 (.pick (.r 32) (.r 38) (.con (.bool false)))])
     (.ite (.r 39) [12] []
      (.is [.setR 40 (.r 12),
        .setR 41 (.r 1),
        .setR 42 (.r 13),
        .chk (.idx (.r 41) (.r 42)),
        .setR 43 (.ref (.nth (.r 41) (.r 42))),
        .setR 44 (.ref (.cell (.deref (.r 43)) 2)),
        .setR 45 (.deref (.r 44)),
        .setR 46 (.ai .add .i64 (.r 40) (.r 45)),
        .setR 12 (.r 46)])
      .skip)))
   (.is [.setR 23 (.r 13),
     .setR 24 (.ai .add .i64 (.r 23) (.con (.int 1))),
     .setR 13 (.r 24)])))
def lp49_0 : PC := .block 0 [12, 13, 19, 20, 21, 22] [] (.loop [12, 13] [] bd49_0)
def rd49_0 : PT :=
 (.ite (.ci .lss (.r 13) (.llen (.r 1)))
  (.blockS ⟨[(22, (.ci .lss (.r 13) (.llen (.r 1)))), (21, (.llen (.r 1))), (20, (.r 1)), (19, (.r 13))], []⟩ 1 [12, 25, 26, 27, 28, 29, 30, 31, 32, 39] []
   (.chk (.idx (.r 1) (.r 13))
   (.call ⟨[(36, (.r 13)), (35, (.r 2)), (34, (.r 1)), (33, (.r 0)), (32, (.ci .eql (.cell (.nth (.r 1) (.r 13)) 1) (.r 3))), (31, (.ci .eql (.cell (.nth (.r 1) (.r 13)) 1) (.r 3))), (30, (.r 3)), (29, (.cell (.nth (.r 1) (.r 13)) 1)), (28, (.ref (.cell (.nth (.r 1) (.r 13)) 1))), (27, (.ref (.nth (.r 1) (.r 13)))), (26, (.r 13)), (25, (.r 1))], []⟩ [(32, true)] 37 39 [(.r 33), (.r 34), (.r 35), (.r 36)]
   (.ite (.pick (.r 32) (.ci .gtr (.r 37) (.con (.int 0))) (.con (.bool false)))
    (.chk (.idx (.r 1) (.r 13))
    (.next ⟨[(12, (.ai .add .i64 (.r 12) (.cell (.nth (.r 1) (.r 13)) 2))), (39, (.pick (.r 32) (.ci .gtr (.r 37) (.con (.int 0))) (.con (.bool false)))), (38, (.ci .gtr (.r 37) (.con (.int 0))))], []⟩))
    (.next ⟨[(12, (.r 12)), (39, (.pick (.r 32) (.ci .gtr (.r 37) (.con (.int 0))) (.con (.bool false)))), (38, (.ci .gtr (.r 37) (.con (.int 0))))], []⟩))))
  (.next ⟨[(12, (.r 12)), (13, (.ai .add .i64 (.r 13) (.con (.int 1))))], []⟩))
  (.exit 0 ⟨[(12, (.r 12)), (13, (.r 13)), (19, (.r 13)), (20, (.r 1)), (21, (.llen (.r 1))), (22, (.ci .lss (.r 13) (.llen (.r 1))))], []⟩))
theorem rd49_0_eq : round 0 [12, 13, 19, 20, 21, 22] [] [12, 13] [] bd49_0 = rd49_0 := by kernel_rfl
def bd49_1 : PC :=
 (.seq
  (.seq
   (.is [.setR 47 (.r 14),
     .setR 48 (.r 1),
     .setR 49 (.llen (.r 48)),
     .setR 50 (.ci .lss (.r 47) (.r 49))])
   (.ite (.r 50) [] []
    .skip
    (.exit 2)))
  (.seq
   (.block 3 [15, 53, 54, 55, 56, 57, 58, 59, 60, 61, 62, 63, 64, 65, 68] [11]
    (.seq
     (.is [.setR 53 (.r 0),
       .setR 54 (.r 1),
       .setR 55 (.r 2),
       .setR 56 (.r 14),
       .call [] 57 39 [(.r 53), (.r 54), (.r 55), (.r 56)],
       .setR 15 (.r 57)])
     (.seq
      (.is [.setR 58 (.r 1),
        .setR 59 (.r 14),
        .chk (.idx (.r 58) (.r 59)),
        .setR 60 (.ref (.nth (.r 58) (.r 59))),
        .setR 61 (.ref (.cell (.deref (.r 60)) 1)),
        .setR 62 (.deref (.r 61)),
        .setR 63 (.r 3),
        .setR 64 (.ci .eql (.r 62) (.r 63)),
        .setR 65 (.r 64),
        .setR 66 (.r 15),
        .setR 67 (.ci .gtr (.r 66) (.con (.int 0))),
        .setR 68 (.pick (.r 65) (.r 67) (.con (.bool false)))])
      (.ite (.r 68) [] [11]
       (.is [.setR 69 (.r 11),
         .setR 70 (.r 14),
         .setR 71 (.r 2),
         .setR 72 (.r 14),
         .chk (.idx (.r 71) (.r 72)),
         .setR 73 (.ref (.nth (.r 71) (.r 72))),
         .setR 74 (.deref (.r 73)),
         .setR 75 (.r 15),
         .setR 76 (.r 4),
         .setR 77 (.r 1),
         .setR 78 (.r 14),
         .chk (.idx (.r 77) (.r 78)),
         .setR 79 (.ref (.nth (.r 77) (.r 78))),
         .setR 80 (.ref (.cell (.deref (.r 79)) 2)),
         .setR 81 (.deref (.r 80)),
         .setR 82 (.r 12),
         .call [] 83 55 [(.r 76), (.r 81), (.r 82)],
         .setR 84 (.mn (.r 75) (.r 83)),
         .setR 85 (.ai .add .i64 (.r 74) (.r 84)),
         .chk (.idx (.o 11) (.r 70)),
         .setR 86 (.r 70),
         .setO 11 (.setn (.o 11) (.r 86) 0 (.r 85))])
       .skip))))
   (.is [.setR 51 (.r 14),
     .setR 52 (.ai .add .i64 (.r 51) (.con (.int 1))),
     .setR 14 (.r 52)])))
def lp49_1 : PC := .block 2 [14, 47, 48, 49, 50] [11] (.loop [14] [11] bd49_1)
def rd49_1 : PT :=
 (.ite (.ci .lss (.r 14) (.llen (.r 1)))
  (.blockS ⟨[(50, (.ci .lss (.r 14) (.llen (.r 1)))), (49, (.llen (.r 1))), (48, (.r 1)), (47, (.r 14))], []⟩ 3 [15, 53, 54, 55, 56, 57, 58, 59, 60, 61, 62, 63, 64, 65, 68] [11]
   (.call ⟨[(56, (.r 14)), (55, (.r 2)), (54, (.r 1)), (53, (.r 0))], []⟩ [] 57 39 [(.r 53), (.r 54), (.r 55), (.r 56)]
   (.chk (.idx (.r 1) (.r 14))
   (.iteS ⟨[(68, (.pick (.ci .eql (.cell (.nth (.r 1) (.r 14)) 1) (.r 3)) (.ci .gtr (.r 57) (.con (.int 0))) (.con (.bool false)))), (67, (.ci .gtr (.r 57) (.con (.int 0)))), (66, (.r 57)), (65, (.ci .eql (.cell (.nth (.r 1) (.r 14)) 1) (.r 3))), (64, (.ci .eql (.cell (.nth (.r 1) (.r 14)) 1) (.r 3))), (63, (.r 3)), (62, (.cell (.nth (.r 1) (.r 14)) 1)), (61, (.ref (.cell (.nth (.r 1) (.r 14)) 1))), (60, (.ref (.nth (.r 1) (.r 14)))), (59, (.r 14)), (58, (.r 1)), (15, (.r 57))], []⟩ (.r 68) [] [11]
    (.chk (.idx (.r 2) (.r 14))
    (.chk (.idx (.r 1) (.r 14))
    (.call ⟨[(82, (.r 12)), (81, (.cell (.nth (.r 1) (.r 14)) 2)), (80, (.ref (.cell (.nth (.r 1) (.r 14)) 2))), (79, (.ref (.nth (.r 1) (.r 14)))), (78, (.r 14)), (77, (.r 1)), (76, (.r 4)), (75, (.r 15)), (74, (.nth (.r 2) (.r 14))), (73, (.ref (.nth (.r 2) (.r 14)))), (72, (.r 14)), (71, (.r 2)), (70, (.r 14)), (69, (.r 11))], []⟩ [] 83 55 [(.r 76), (.r 81), (.r 82)]
    (.chk (.idx (.o 11) (.r 70))
    (.next ⟨[(86, (.r 70)), (85, (.ai .add .i64 (.r 74) (.mn (.r 75) (.r 83)))), (84, (.mn (.r 75) (.r 83)))], [(11, (.setn (.o 11) (.r 70) 0 (.ai .add .i64 (.r 74) (.mn (.r 75) (.r 83)))))]⟩)))))
    (.next ⟨[], []⟩)
   (.next ⟨[], []⟩))))
  (.next ⟨[(14, (.ai .add .i64 (.r 14) (.con (.int 1))))], [(11, (.o 11))]⟩))
  (.exit 2 ⟨[(14, (.r 14)), (47, (.r 14)), (48, (.r 1)), (49, (.llen (.r 1))), (50, (.ci .lss (.r 14) (.llen (.r 1))))], [(11, (.o 11))]⟩))
theorem rd49_1_eq : round 2 [14, 47, 48, 49, 50] [11] [14] [11] bd49_1 = rd49_1 := by kernel_rfl
def pc49 : PC :=
 (.seq
  (.is [.setR 10 (.con (.list []))])
  (.seq
   (.is [.setO 16 (.lst []),
     .setR 16 (.con .none),
     .setR 17 (.r 2),
     .chk (.ci .leq (.llen (.app (.o 16) (.r 17))) (.con (.int 4294967296))),
     .setO 16 (.app (.o 16) (.r 17)),
     .setR 18 (.con .none),
     .setR 11 (.r 18),
     .setO 11 (.o 16)])
   (.seq
    (.is [.setR 12 (.con (.int 0))])
    (.seq
     (.seq
      (.is [.setR 13 (.con (.int 0))])
      lp49_0)
     (.seq
      (.seq
       (.is [.setR 14 (.con (.int 0))])
       lp49_1)
      (.seq
       (.is [.setR 87 (.r 11),
         .setR 10 (.o 11)])
       (.ret (.r 10))))))))
def tr49 : PT :=
 (.chk (.ci .leq (.llen (.app (.lst []) (.r 2))) (.con (.int 4294967296)))
 (.brk ⟨[(13, (.con (.int 0))), (12, (.con (.int 0))), (11, (.con .none)), (18, (.con .none)), (17, (.r 2)), (16, (.con .none)), (10, (.con (.list [])))], [(11, (.app (.lst []) (.r 2))), (16, (.app (.lst []) (.r 2))), (16, (.lst []))]⟩
  lp49_0
 (.brk ⟨[(14, (.con (.int 0)))], []⟩
  lp49_1
 (.ret (.o 11)))))
theorem tr49_eq : tree pc49 = tr49 := by kernel_rfl
/-! allonge/allongeref48.Lack -/
def bd39_0 : PC :=
 (.seq
  (.seq
   (.is [.setR 19 (.r 10),
     .setR 20 (.r 1),
     .setR 21 (.llen (.r 20)),
     .setR 22 (.ci .lss (.r 19) (.r 21))])
   (.ite (.r 22) [] []
    .skip
    (.exit 0)))
  (.seq
   (.block 1 [9, 25, 26, 27, 28, 29, 30, 31, 32, 33, 34, 35] []
    (.seq
     (.is [.setR 25 (.r 1),
       .setR 26 (.r 10),
       .chk (.idx (.r 25) (.r 26)),
       .setR 27 (.ref (.nth (.r 25) (.r 26))),
       .setR 28 (.ref (.cell (.deref (.r 27)) 0)),
       .setR 29 (.deref (.r 28)),
       .setR 30 (.r 1),
       .setR 31 (.r 3),
       .chk (.idx (.r 30) (.r 31)),
       .setR 32 (.ref (.nth (.r 30) (.r 31))),
       .setR 33 (.ref (.cell (.deref (.r 32)) 0)),
       .setR 34 (.deref (.r 33)),
       .setR 35 (.ci .eql (.r 29) (.r 34))])
     (.ite (.r 35) [9] []
      (.is [.setR 36 (.r 9),
        .setR 37 (.r 2),
        .setR 38 (.r 10),
        .chk (.idx (.r 37) (.r 38)),
        .setR 39 (.ref (.nth (.r 37) (.r 38))),
        .setR 40 (.deref (.r 39)),
        .setR 41 (.ai .sub .i64 (.r 36) (.r 40)),
        .setR 9 (.r 41)])
      .skip)))
   (.is [.setR 23 (.r 10),
     .setR 24 (.ai .add .i64 (.r 23) (.con (.int 1))),
     .setR 10 (.r 24)])))
def lp39_0 : PC := .block 0 [9, 10, 19, 20, 21, 22] [] (.loop [9, 10] [] bd39_0)
def rd39_0 : PT :=
 (.ite (.ci .lss (.r 10) (.llen (.r 1)))
  (.chk (.idx (.r 1) (.r 10))
  (.chk (.idx (.r 1) (.r 3))
  (.ite (.ci .eql (.cell (.nth (.r 1) (.r 10)) 0) (.cell (.nth (.r 1) (.r 3)) 0))
   (.chk (.idx (.r 2) (.r 10))
   (.next ⟨[(9, (.ai .sub .i64 (.r 9) (.nth (.r 2) (.r 10)))), (10, (.ai .add .i64 (.r 10) (.con (.int 1))))], []⟩))
   (.next ⟨[(9, (.r 9)), (10, (.ai .add .i64 (.r 10) (.con (.int 1))))], []⟩))))
  (.exit 0 ⟨[(9, (.r 9)), (10, (.r 10)), (19, (.r 10)), (20, (.r 1)), (21, (.llen (.r 1))), (22, (.ci .lss (.r 10) (.llen (.r 1))))], []⟩))
theorem rd39_0_eq : round 0 [9, 10, 19, 20, 21, 22] [] [9, 10] [] bd39_0 = rd39_0 := by kernel_rfl
def pc39 : PC :=
 (.seq
  (.is [.setR 8 (.con (.int 0))])
  (.seq
   (.is [.setR 11 (.r 0),
     .setR 12 (.r 1),
     .setR 13 (.r 3),
     .chk (.idx (.r 12) (.r 13)),
     .setR 14 (.ref (.nth (.r 12) (.r 13))),
     .setR 15 (.ref (.cell (.deref (.r 14)) 0)),
     .setR 16 (.deref (.r 15)),
     .chk (.idx (.r 11) (.r 16)),
     .setR 17 (.ref (.nth (.r 11) (.r 16))),
     .setR 18 (.deref (.r 17)),
     .setR 9 (.r 18)])
   (.seq
    (.seq
     (.is [.setR 10 (.con (.int 0))])
     lp39_0)
    (.seq
     (.is [.setR 42 (.r 9),
       .setR 43 (.r 1),
       .setR 44 (.r 3),
       .chk (.idx (.r 43) (.r 44)),
       .setR 45 (.ref (.nth (.r 43) (.r 44))),
       .setR 46 (.ref (.cell (.deref (.r 45)) 2)),
       .setR 47 (.deref (.r 46)),
       .setR 48 (.r 2),
       .setR 49 (.r 3),
       .chk (.idx (.r 48) (.r 49)),
       .setR 50 (.ref (.nth (.r 48) (.r 49))),
       .setR 51 (.deref (.r 50)),
       .setR 52 (.ai .sub .i64 (.r 47) (.r 51)),
       .setR 53 (.mn (.r 42) (.r 52)),
       .setR 8 (.r 53)])
     (.ret (.r 8))))))
def tr39 : PT :=
 (.chk (.idx (.r 1) (.r 3))
 (.chk (.idx (.r 0) (.cell (.nth (.r 1) (.r 3)) 0))
 (.brk ⟨[(10, (.con (.int 0))), (9, (.nth (.r 0) (.cell (.nth (.r 1) (.r 3)) 0))), (18, (.nth (.r 0) (.cell (.nth (.r 1) (.r 3)) 0))), (17, (.ref (.nth (.r 0) (.cell (.nth (.r 1) (.r 3)) 0)))), (16, (.cell (.nth (.r 1) (.r 3)) 0)), (15, (.ref (.cell (.nth (.r 1) (.r 3)) 0))), (14, (.ref (.nth (.r 1) (.r 3)))), (13, (.r 3)), (12, (.r 1)), (11, (.r 0)), (8, (.con (.int 0)))], []⟩
  lp39_0
 (.chk (.idx (.r 1) (.r 3))
 (.chk (.idx (.r 2) (.r 3))
 (.ret (.mn (.r 9) (.ai .sub .i64 (.cell (.nth (.r 1) (.r 3)) 2) (.nth (.r 2) (.r 3))))))))))
theorem tr39_eq : tree pc39 = tr39 := by kernel_rfl
/-! allonge/allongeref48.times -/
def pc55 : PC :=
 (.seq
  (.is [.setR 6 (.con (.int 0))])
  (.seq
   (.is [.setR 10 (.r 0),
     .call [] 11 60 [(.r 10)],
     .setR 12 (.r 1),
     .call [] 13 60 [(.r 12)],
     .call [] 14 59 [(.r 11), (.r 13)],
     .setR 15 (.r 2),
     .call [] 16 60 [(.r 15)],
     .call [] 17 58 [(.r 14), (.r 16)],
     .setR 9 (.r 17),
     .setR 18 (.tget (.r 9) 0),
     .setR 19 (.tget (.r 9) 1),
     .setR 7 (.r 18),
     .setR 8 (.r 19)])
   (.seq
    (.is [.setR 20 (.r 7),
      .chk (.idx (.r 20) (.con (.int 0))),
      .setR 21 (.ref (.nth (.r 20) (.con (.int 0)))),
      .setR 22 (.deref (.r 21)),
      .setR 23 (.r 7),
      .chk (.idx (.r 23) (.con (.int 1))),
      .setR 24 (.ref (.nth (.r 23) (.con (.int 1)))),
      .setR 25 (.deref (.r 24)),
      .chk (.ci .geq (.con (.v (.int .u64 30))) (.con (.int 0))),
      .setR 26 (.ai .shl .i64 (.r 25) (.con (.v (.int .u64 30)))),
      .setR 27 (.ai .add .i64 (.r 22) (.r 26)),
      .setR 28 (.r 7),
      .chk (.idx (.r 28) (.con (.int 2))),
      .setR 29 (.ref (.nth (.r 28) (.con (.int 2)))),
      .setR 30 (.deref (.r 29)),
      .chk (.ci .geq (.con (.v (.int .u64 60))) (.con (.int 0))),
      .setR 31 (.ai .shl .i64 (.r 30) (.con (.v (.int .u64 60)))),
      .setR 32 (.ai .add .i64 (.r 27) (.r 31)),
      .setR 6 (.r 32)])
    (.ret (.r 6)))))
def tr55 : PT :=
 (.call ⟨[(10, (.r 0)), (6, (.con (.int 0)))], []⟩ [] 11 60 [(.r 10)]
 (.call ⟨[(12, (.r 1))], []⟩ [] 13 60 [(.r 12)]
 (.call ⟨[], []⟩ [] 14 59 [(.r 11), (.r 13)]
 (.call ⟨[(15, (.r 2))], []⟩ [] 16 60 [(.r 15)]
 (.call ⟨[], []⟩ [] 17 58 [(.r 14), (.r 16)]
 (.chk (.idx (.tget (.r 17) 0) (.con (.int 0)))
 (.chk (.idx (.tget (.r 17) 0) (.con (.int 1)))
 (.chk (.ci .geq (.con (.v (.int .u64 30))) (.con (.int 0)))
 (.chk (.idx (.tget (.r 17) 0) (.con (.int 2)))
 (.chk (.ci .geq (.con (.v (.int .u64 60))) (.con (.int 0)))
 (.ret (.ai .add .i64 (.ai .add .i64 (.nth (.tget (.r 17) 0) (.con (.int 0))) (.ai .shl .i64 (.nth (.tget (.r 17) 0) (.con (.int 1))) (.con (.v (.int .u64 30))))) (.ai .shl .i64 (.nth (.tget (.r 17) 0) (.con (.int 2))) (.con (.v (.int .u64 60))))))))))))))))
theorem tr55_eq : tree pc55 = tr55 := by kernel_rfl
/-! allonge/allongeref03.Of -/
def bd60_0 : PC :=
 (.seq
  (.seq
   (.is [.setR 7 (.r 4),
     .setR 8 (.ci .lss (.r 7) (.con (.int 3)))])
   (.ite (.r 8) [] []
    .skip
    (.exit 0)))
  (.seq
   (.block 1 [0, 5, 11, 12, 13, 14, 15, 16, 19, 20, 21, 22] [3]
    (.seq
     (.is [.setR 11 (.r 0),
       .chk (.ci .neq (.con (.int 1073741824)) (.con (.int 0))),
       .setR 12 (.ai .rem .i64 (.r 11) (.con (.int 1073741824))),
       .setR 5 (.r 12)])
     (.seq
      (.is [.setR 13 (.r 0),
        .chk (.ci .neq (.con (.int 1073741824)) (.con (.int 0))),
        .setR 14 (.ai .quo .i64 (.r 13) (.con (.int 1073741824))),
        .setR 0 (.r 14)])
      (.seq
       (.seq
        (.is [.setR 15 (.r 5),
          .setR 16 (.ci .lss (.r 15) (.con (.int 0)))])
        (.ite (.r 16) [5] []
         (.is [.setR 17 (.r 5),
           .setR 18 (.ai .sub .i64 (.con (.int 0)) (.r 17)),
           .setR 5 (.r 18)])
         .skip))
       (.is [.setR 19 (.r 3),
         .setR 20 (.r 4),
         .setR 21 (.r 5),
         .chk (.idx (.o 3) (.r 20)),
         .setR 22 (.r 20),
         .setO 3 (.setn (.o 3) (.r 22) 0 (.r 21))])))))
   (.is [.setR 9 (.r 4),
     .setR 10 (.ai .add .i64 (.r 9) (.con (.int 1))),
     .setR 4 (.r 10)])))
def lp60_0 : PC := .block 0 [0, 4, 7, 8] [3] (.loop [0, 4] [3] bd60_0)
def rd60_0 : PT :=
 (.ite (.ci .lss (.r 4) (.con (.int 3)))
  (.chk (.ci .neq (.con (.int 1073741824)) (.con (.int 0)))
  (.chk (.idx (.o 3) (.r 4))
  (.next ⟨[(0, (.ai .quo .i64 (.r 0) (.con (.int 1073741824)))), (4, (.ai .add .i64 (.r 4) (.con (.int 1))))], [(3, (.setn (.o 3) (.r 4) 0 (.pick (.ci .lss (.ai .rem .i64 (.r 0) (.con (.int 1073741824))) (.con (.int 0))) (.ai .sub .i64 (.con (.int 0)) (.ai .rem .i64 (.r 0) (.con (.int 1073741824)))) (.ai .rem .i64 (.r 0) (.con (.int 1073741824))))))]⟩)))
  (.exit 0 ⟨[(0, (.r 0)), (4, (.r 4)), (7, (.r 4)), (8, (.ci .lss (.r 4) (.con (.int 3))))], [(3, (.o 3))]⟩))
theorem rd60_0_eq : round 0 [0, 4, 7, 8] [3] [0, 4] [3] bd60_0 = rd60_0 := by kernel_rfl
def pc60 : PC :=
 (.seq
  (.is [.setR 2 (.con (.list []))])
  (.seq
   (.is [.chk (.an (.ci .geq (.con (.int 5)) (.con (.int 0))) (.ci .leq (.con (.int 5)) (.con (.int 4294967296)))),
     .chk (.ci .eql (.con (.int 5)) (.con (.int 5))),
     .setO 6 (.rep (.con (.int 5)) (.con (.int 0))),
     .setR 6 (.con .none),
     .setR 3 (.r 6),
     .setO 3 (.o 6)])
   (.seq
    (.seq
     (.is [.setR 4 (.con (.int 0))])
     lp60_0)
    (.seq
     (.is [.setR 23 (.r 3),
       .setR 2 (.o 3)])
     (.ret (.r 2))))))
def tr60 : PT :=
 (.chk (.an (.ci .geq (.con (.int 5)) (.con (.int 0))) (.ci .leq (.con (.int 5)) (.con (.int 4294967296))))
 (.chk (.ci .eql (.con (.int 5)) (.con (.int 5)))
 (.brk ⟨[(4, (.con (.int 0))), (3, (.con .none)), (6, (.con .none)), (2, (.con (.list [])))], [(3, (.rep (.con (.int 5)) (.con (.int 0)))), (6, (.rep (.con (.int 5)) (.con (.int 0))))]⟩
  lp60_0
 (.ret (.o 3)))))
theorem tr60_eq : tree pc60 = tr60 := by kernel_rfl
/-! allonge/allongeref03.Times -/
def bd59_0 : PC :=
 (.seq
  (.seq
   (.is [.setR 14 (.r 6),
     .setR 15 (.r 8),
     .setR 16 (.ai .add .i64 (.r 14) (.r 15)),
     .setR 17 (.ci .lss (.r 16) (.con (.int 5)))])
   (.ite (.r 17) [] []
    .skip
    (.exit 2)))
  (.seq
   (.block 3 [7, 20, 21, 22, 23, 24, 25, 26, 27, 28, 29, 30, 31, 32, 33, 34, 35, 36, 37, 38, 39, 40, 41, 42, 43, 44, 45, 46] [5]
    (.seq
     (.is [.setR 20 (.r 7),
       .setR 21 (.r 5),
       .setR 22 (.r 6),
       .setR 23 (.r 8),
       .setR 24 (.ai .add .i64 (.r 22) (.r 23)),
       .chk (.idx (.o 5) (.r 24)),
       .setR 25 (.r 24),
       .setR 26 (.nth (.o 5) (.r 25)),
       .setR 27 (.ai .add .i64 (.r 20) (.r 26)),
       .setR 28 (.r 0),
       .setR 29 (.r 6),
       .chk (.idx (.r 28) (.r 29)),
       .setR 30 (.ref (.nth (.r 28) (.r 29))),
       .setR 31 (.deref (.r 30)),
       .setR 32 (.r 1),
       .setR 33 (.r 8),
       .chk (.idx (.r 32) (.r 33)),
       .setR 34 (.ref (.nth (.r 32) (.r 33))),
       .setR 35 (.deref (.r 34)),
       .setR 36 (.ai .mul .i64 (.r 31) (.r 35)),
       .setR 37 (.ai .add .i64 (.r 27) (.r 36)),
       .setR 7 (.r 37)])
     (.seq
      (.is [.setR 38 (.r 5),
        .setR 39 (.r 6),
        .setR 40 (.r 8),
        .setR 41 (.ai .add .i64 (.r 39) (.r 40)),
        .setR 42 (.r 7),
        .chk (.ci .neq (.con (.int 1073741824)) (.con (.int 0))),
        .setR 43 (.ai .rem .i64 (.r 42) (.con (.int 1073741824))),
        .chk (.idx (.o 5) (.r 41)),
        .setR 44 (.r 41),
        .setO 5 (.setn (.o 5) (.r 44) 0 (.r 43))])
      (.is [.setR 45 (.r 7),
        .chk (.ci .neq (.con (.int 1073741824)) (.con (.int 0))),
        .setR 46 (.ai .quo .i64 (.r 45) (.con (.int 1073741824))),
        .setR 7 (.r 46)]))))
   (.is [.setR 18 (.r 8),
     .setR 19 (.ai .add .i64 (.r 18) (.con (.int 1))),
     .setR 8 (.r 19)])))
def lp59_0 : PC := .block 2 [7, 8, 14, 15, 16, 17] [5] (.loop [7, 8] [5] bd59_0)
def rd59_0 : PT :=
 (.ite (.ci .lss (.ai .add .i64 (.r 6) (.r 8)) (.con (.int 5)))
  (.chk (.idx (.o 5) (.ai .add .i64 (.r 6) (.r 8)))
  (.chk (.idx (.r 0) (.r 6))
  (.chk (.idx (.r 1) (.r 8))
  (.chk (.ci .neq (.con (.int 1073741824)) (.con (.int 0)))
  (.next ⟨[(7, (.ai .quo .i64 (.ai .add .i64 (.ai .add .i64 (.r 7) (.nth (.o 5) (.ai .add .i64 (.r 6) (.r 8)))) (.ai .mul .i64 (.nth (.r 0) (.r 6)) (.nth (.r 1) (.r 8)))) (.con (.int 1073741824)))), (8, (.ai .add .i64 (.r 8) (.con (.int 1))))], [(5, (.setn (.o 5) (.ai .add .i64 (.r 6) (.r 8)) 0 (.ai .rem .i64 (.ai .add .i64 (.ai .add .i64 (.r 7) (.nth (.o 5) (.ai .add .i64 (.r 6) (.r 8)))) (.ai .mul .i64 (.nth (.r 0) (.r 6)) (.nth (.r 1) (.r 8)))) (.con (.int 1073741824)))))]⟩)))))
  (.exit 2 ⟨[(7, (.r 7)), (8, (.r 8)), (14, (.r 6)), (15, (.r 8)), (16, (.ai .add .i64 (.r 6) (.r 8))), (17, (.ci .lss (.ai .add .i64 (.r 6) (.r 8)) (.con (.int 5))))], [(5, (.o 5))]⟩))
theorem rd59_0_eq : round 2 [7, 8, 14, 15, 16, 17] [5] [7, 8] [5] bd59_0 = rd59_0 := by kernel_rfl
def bd59_1 : PC :=
 (.seq
  (.seq
   (.is [.setR 10 (.r 6),
     .setR 11 (.ci .lss (.r 10) (.con (.int 5)))])
   (.ite (.r 11) [] []
    .skip
    (.exit 0)))
  (.seq
   (.block 1 [7, 8, 14, 15, 16, 17] [5]
    (.seq
     (.is [.setR 7 (.con (.int 0))])
     (.seq
      (.is [.setR 8 (.con (.int 0))])
      lp59_0)))
   (.is [.setR 12 (.r 6),
     .setR 13 (.ai .add .i64 (.r 12) (.con (.int 1))),
     .setR 6 (.r 13)])))
def lp59_1 : PC := .block 0 [6, 10, 11] [5] (.loop [6] [5] bd59_1)
def rd59_1 : PT :=
 (.ite (.ci .lss (.r 6) (.con (.int 5)))
  (.blockS ⟨[(11, (.ci .lss (.r 6) (.con (.int 5)))), (10, (.r 6))], []⟩ 1 [7, 8, 14, 15, 16, 17] [5]
   (.brk ⟨[(8, (.con (.int 0))), (7, (.con (.int 0)))], []⟩
    lp59_0
   (.next ⟨[], []⟩))
  (.next ⟨[(6, (.ai .add .i64 (.r 6) (.con (.int 1))))], [(5, (.o 5))]⟩))
  (.exit 0 ⟨[(6, (.r 6)), (10, (.r 6)), (11, (.ci .lss (.r 6) (.con (.int 5))))], [(5, (.o 5))]⟩))
theorem rd59_1_eq : round 0 [6, 10, 11] [5] [6] [5] bd59_1 = rd59_1 := by kernel_rfl
def pc59 : PC :=
 (.seq
  (.is [.setR 4 (.con (.list []))])
  (.seq
   (.is [.chk (.an (.ci .geq (.con (.int 5)) (.con (.int 0))) (.ci .leq (.con (.int 5)) (.con (.int 4294967296)))),
     .chk (.ci .eql (.con (.int 5)) (.con (.int 5))),
     .setO 9 (.rep (.con (.int 5)) (.con (.int 0))),
     .setR 9 (.con .none),
     .setR 5 (.r 9),
     .setO 5 (.o 9)])
   (.seq
    (.seq
     (.is [.setR 6 (.con (.int 0))])
     lp59_1)
    (.seq
     (.is [.setR 47 (.r 5),
       .setR 4 (.o 5)])
     (.ret (.r 4))))))
def tr59 : PT :=
 (.chk (.an (.ci .geq (.con (.int 5)) (.con (.int 0))) (.ci .leq (.con (.int 5)) (.con (.int 4294967296))))
 (.chk (.ci .eql (.con (.int 5)) (.con (.int 5)))
 (.brk ⟨[(6, (.con (.int 0))), (5, (.con .none)), (9, (.con .none)), (4, (.con (.list [])))], [(5, (.rep (.con (.int 5)) (.con (.int 0)))), (9, (.rep (.con (.int 5)) (.con (.int 0))))]⟩
  lp59_1
 (.ret (.o 5)))))
theorem tr59_eq : tree pc59 = tr59 := by kernel_rfl
/-! allonge/allongeref03.Over -/
def bd58_0 : PC :=
 (.seq
  (.seq
   (.is [.setR 11 (.r 8),
     .setR 12 (.ci .geq (.r 11) (.con (.int 0)))])
   (.ite (.r 12) [] []
    .skip
    (.exit 0)))
  (.seq
   (.block 1 [7, 21, 22, 23, 24, 25, 26, 27, 28, 29, 30, 31, 34, 35, 36] [6, 7]
    (.seq
     (.is [.setR 15 (.r 7),
       .setR 16 (.r 7),
       .call [] 17 62 [(.o 7), (.o 7)],
       .setO 17 (.r 17),
       .setR 17 (.con .none),
       .setR 7 (.r 17),
       .setO 7 (.o 17)])
     (.seq
      (.is [.setR 18 (.r 7),
        .setR 19 (.r 7),
        .chk (.idx (.o 7) (.con (.int 0))),
        .setR 20 (.con (.int 0)),
        .setR 21 (.nth (.o 7) (.r 20)),
        .setR 22 (.r 0),
        .setR 23 (.r 8),
        .chk (.ci .neq (.con (.int 30)) (.con (.int 0))),
        .setR 24 (.ai .quo .i64 (.r 23) (.con (.int 30))),
        .chk (.idx (.r 22) (.r 24)),
        .setR 25 (.ref (.nth (.r 22) (.r 24))),
        .setR 26 (.deref (.r 25)),
        .setR 27 (.r 8),
        .chk (.ci .neq (.con (.int 30)) (.con (.int 0))),
        .setR 28 (.ai .rem .i64 (.r 27) (.con (.int 30))),
        .chk (.ci .geq (.r 28) (.con (.int 0))),
        .setR 29 (.ai .shr .i64 (.r 26) (.r 28)),
        .chk (.ci .neq (.con (.int 2)) (.con (.int 0))),
        .setR 30 (.ai .rem .i64 (.r 29) (.con (.int 2))),
        .setR 31 (.ai .add .i64 (.r 21) (.r 30)),
        .chk (.idx (.o 7) (.con (.int 0))),
        .setR 32 (.con (.int 0)),
        .setO 7 (.setn (.o 7) (.r 32) 0 (.r 31))])
      (.seq
       (.is [.setR 33 (.r 7),
         .setR 34 (.r 1),
         .call [] 35 63 [(.o 7), (.r 34)],
         .setR 36 (.ci .geq (.r 35) (.con (.int 0)))])
       (.ite (.r 36) [7] [6, 7]
        (.seq
         (.is [.setR 37 (.r 7),
           .setR 38 (.r 1),
           .call [] 39 64 [(.o 7), (.r 38)],
           .setO 39 (.r 39),
           .setR 39 (.con .none),
           .setR 7 (.r 39),
           .setO 7 (.o 39)])
         (.is [.setR 40 (.r 6),
           .setR 41 (.r 8),
           .chk (.ci .neq (.con (.int 30)) (.con (.int 0))),
           .setR 42 (.ai .quo .i64 (.r 41) (.con (.int 30))),
           .setR 43 (.r 6),
           .setR 44 (.r 8),
           .chk (.ci .neq (.con (.int 30)) (.con (.int 0))),
           .setR 45 (.ai .quo .i64 (.r 44) (.con (.int 30))),
           .chk (.idx (.o 6) (.r 45)),
           .setR 46 (.r 45),
           .setR 47 (.nth (.o 6) (.r 46)),
           .setR 48 (.r 8),
           .chk (.ci .neq (.con (.int 30)) (.con (.int 0))),
           .setR 49 (.ai .rem .i64 (.r 48) (.con (.int 30))),
           .chk (.ci .geq (.r 49) (.con (.int 0))),
           .setR 50 (.ai .shl .i64 (.con (.int 1)) (.r 49)),
           .setR 51 (.ai .add .i64 (.r 47) (.r 50)),
           .chk (.idx (.o 6) (.r 42)),
           .setR 52 (.r 42),
           .setO 6 (.setn (.o 6) (.r 52) 0 (.r 51))]))
        .skip)))))
   (.is [.setR 13 (.r 8),
     .setR 14 (.ai .sub .i64 (.r 13) (.con (.int 1))),
     .setR 8 (.r 14)])))
def lp58_0 : PC := .block 0 [7, 8, 11, 12] [7, 6] (.loop [7, 8] [7, 6] bd58_0)
def rd58_0 : PT :=
 (.ite (.ci .geq (.r 8) (.con (.int 0)))
  (.blockS ⟨[(12, (.ci .geq (.r 8) (.con (.int 0)))), (11, (.r 8))], []⟩ 1 [7, 21, 22, 23, 24, 25, 26, 27, 28, 29, 30, 31, 34, 35, 36] [6, 7]
   (.call ⟨[(16, (.r 7)), (15, (.r 7))], []⟩ [] 17 62 [(.o 7), (.o 7)]
   (.chk (.idx (.r 17) (.con (.int 0)))
   (.chk (.ci .neq (.con (.int 30)) (.con (.int 0)))
   (.chk (.idx (.r 0) (.ai .quo .i64 (.r 8) (.con (.int 30))))
   (.chk (.ci .geq (.ai .rem .i64 (.r 8) (.con (.int 30))) (.con (.int 0)))
   (.chk (.ci .neq (.con (.int 2)) (.con (.int 0)))
   (.call ⟨[(34, (.r 1)), (33, (.con .none)), (32, (.con (.int 0))), (31, (.ai .add .i64 (.nth (.r 17) (.con (.int 0))) (.ai .rem .i64 (.ai .shr .i64 (.nth (.r 0) (.ai .quo .i64 (.r 8) (.con (.int 30)))) (.ai .rem .i64 (.r 8) (.con (.int 30)))) (.con (.int 2))))), (30, (.ai .rem .i64 (.ai .shr .i64 (.nth (.r 0) (.ai .quo .i64 (.r 8) (.con (.int 30)))) (.ai .rem .i64 (.r 8) (.con (.int 30)))) (.con (.int 2)))), (29, (.ai .shr .i64 (.nth (.r 0) (.ai .quo .i64 (.r 8) (.con (.int 30)))) (.ai .rem .i64 (.r 8) (.con (.int 30))))), (28, (.ai .rem .i64 (.r 8) (.con (.int 30)))), (27, (.r 8)), (26, (.nth (.r 0) (.ai .quo .i64 (.r 8) (.con (.int 30))))), (25, (.ref (.nth (.r 0) (.ai .quo .i64 (.r 8) (.con (.int 30)))))), (24, (.ai .quo .i64 (.r 8) (.con (.int 30)))), (23, (.r 8)), (22, (.r 0)), (21, (.nth (.r 17) (.con (.int 0)))), (20, (.con (.int 0))), (19, (.con .none)), (18, (.con .none)), (7, (.con .none)), (17, (.con .none))], [(7, (.setn (.r 17) (.con (.int 0)) 0 (.ai .add .i64 (.nth (.r 17) (.con (.int 0))) (.ai .rem .i64 (.ai .shr .i64 (.nth (.r 0) (.ai .quo .i64 (.r 8) (.con (.int 30)))) (.ai .rem .i64 (.r 8) (.con (.int 30)))) (.con (.int 2)))))), (7, (.r 17)), (17, (.r 17))]⟩ [] 35 63 [(.o 7), (.r 34)]
   (.iteS ⟨[(36, (.ci .geq (.r 35) (.con (.int 0))))], []⟩ (.r 36) [7] [6, 7]
    (.call ⟨[(38, (.r 1)), (37, (.r 7))], []⟩ [] 39 64 [(.o 7), (.r 38)]
    (.chk (.ci .neq (.con (.int 30)) (.con (.int 0)))
    (.chk (.idx (.o 6) (.ai .quo .i64 (.r 8) (.con (.int 30))))
    (.chk (.ci .geq (.ai .rem .i64 (.r 8) (.con (.int 30))) (.con (.int 0)))
    (.next ⟨[(52, (.ai .quo .i64 (.r 8) (.con (.int 30)))), (51, (.ai .add .i64 (.nth (.o 6) (.ai .quo .i64 (.r 8) (.con (.int 30)))) (.ai .shl .i64 (.con (.int 1)) (.ai .rem .i64 (.r 8) (.con (.int 30)))))), (50, (.ai .shl .i64 (.con (.int 1)) (.ai .rem .i64 (.r 8) (.con (.int 30))))), (49, (.ai .rem .i64 (.r 8) (.con (.int 30)))), (48, (.r 8)), (47, (.nth (.o 6) (.ai .quo .i64 (.r 8) (.con (.int 30))))), (46, (.ai .quo .i64 (.r 8) (.con (.int 30)))), (45, (.ai .quo .i64 (.r 8) (.con (.int 30)))), (44, (.r 8)), (43, (.r 6)), (42, (.ai .quo .i64 (.r 8) (.con (.int 30)))), (41, (.r 8)), (40, (.r 6)), (7, (.con .none)), (39, (.con .none))], [(6, (.setn (.o 6) (.ai .quo .i64 (.r 8) (.con (.int 30))) 0 (.ai .add .i64 (.nth (.o 6) (.ai .quo .i64 (.r 8) (.con (.int 30)))) (.ai .shl .i64 (.con (.int 1)) (.ai .rem .i64 (.r 8) (.con (.int 30))))))), (7, (.r 39)), (39, (.r 39))]⟩)))))
    (.next ⟨[], []⟩)
   (.next ⟨[], []⟩)))))))))
  (.next ⟨[(7, (.r 7)), (8, (.ai .sub .i64 (.r 8) (.con (.int 1))))], [(7, (.o 7)), (6, (.o 6))]⟩))
  (.exit 0 ⟨[(7, (.r 7)), (8, (.r 8)), (11, (.r 8)), (12, (.ci .geq (.r 8) (.con (.int 0))))], [(7, (.o 7)), (6, (.o 6))]⟩))
theorem rd58_0_eq : round 0 [7, 8, 11, 12] [7, 6] [7, 8] [7, 6] bd58_0 = rd58_0 := by kernel_rfl
def pc58 : PC :=
 (.seq
  (.is [.setR 4 (.con (.list [])),
    .setR 5 (.con (.list []))])
  (.seq
   (.is [.chk (.an (.ci .geq (.con (.int 5)) (.con (.int 0))) (.ci .leq (.con (.int 5)) (.con (.int 4294967296)))),
     .chk (.ci .eql (.con (.int 5)) (.con (.int 5))),
     .setO 9 (.rep (.con (.int 5)) (.con (.int 0))),
     .setR 9 (.con .none),
     .setR 6 (.r 9),
     .setO 6 (.o 9)])
   (.seq
    (.is [.chk (.an (.ci .geq (.con (.int 5)) (.con (.int 0))) (.ci .leq (.con (.int 5)) (.con (.int 4294967296)))),
      .chk (.ci .eql (.con (.int 5)) (.con (.int 5))),
      .setO 10 (.rep (.con (.int 5)) (.con (.int 0))),
      .setR 10 (.con .none),
      .setR 7 (.r 10),
      .setO 7 (.o 10)])
    (.seq
     (.seq
      (.is [.setR 8 (.con (.int 149))])
      lp58_0)
     (.seq
      (.is [.setR 53 (.r 6),
        .setR 54 (.r 7),
        .setR 4 (.o 6),
        .setR 5 (.o 7)])
      (.ret (.tup [(.r 4), (.r 5)])))))))
def tr58 : PT :=
 (.chk (.an (.ci .geq (.con (.int 5)) (.con (.int 0))) (.ci .leq (.con (.int 5)) (.con (.int 4294967296))))
 (.chk (.ci .eql (.con (.int 5)) (.con (.int 5)))
 (.brk ⟨[(8, (.con (.int 149))), (7, (.con .none)), (10, (.con .none)), (6, (.con .none)), (9, (.con .none)), (5, (.con (.list []))), (4, (.con (.list [])))], [(7, (.rep (.con (.int 5)) (.con (.int 0)))), (10, (.rep (.con (.int 5)) (.con (.int 0)))), (6, (.rep (.con (.int 5)) (.con (.int 0)))), (9, (.rep (.con (.int 5)) (.con (.int 0))))]⟩
  lp58_0
 (.ret (.tup [(.o 6), (.o 7)])))))
theorem tr58_eq : tree pc58 = tr58 := by kernel_rfl
/-! allonge/allongeref03.Plus -/
def bd62_0 : PC :=
 (.seq
  (.seq
   (.is [.setR 9 (.r 7),
     .setR 10 (.ci .lss (.r 9) (.con (.int 5)))])
   (.ite (.r 10) [] []
    .skip
    (.exit 0)))
  (.seq
   (.block 1 [6, 13, 14, 15, 16, 17, 18, 19, 20, 21, 22, 23, 24, 25, 26, 27, 28, 29, 30] [5]
    (.seq
     (.is [.setR 13 (.r 6),
       .setR 14 (.r 0),
       .setR 15 (.r 7),
       .chk (.idx (.r 14) (.r 15)),
       .setR 16 (.ref (.nth (.r 14) (.r 15))),
       .setR 17 (.deref (.r 16)),
       .setR 18 (.ai .add .i64 (.r 13) (.r 17)),
       .setR 19 (.r 1),
       .setR 20 (.r 7),
       .chk (.idx (.r 19) (.r 20)),
       .setR 21 (.ref (.nth (.r 19) (.r 20))),
       .setR 22 (.deref (.r 21)),
       .setR 23 (.ai .add .i64 (.r 18) (.r 22)),
       .setR 6 (.r 23)])
     (.seq
      (.is [.setR 24 (.r 5),
        .setR 25 (.r 7),
        .setR 26 (.r 6),
        .chk (.ci .neq (.con (.int 1073741824)) (.con (.int 0))),
        .setR 27 (.ai .rem .i64 (.r 26) (.con (.int 1073741824))),
        .chk (.idx (.o 5) (.r 25)),
        .setR 28 (.r 25),
        .setO 5 (.setn (.o 5) (.r 28) 0 (.r 27))])
      (.is [.setR 29 (.r 6),
        .chk (.ci .neq (.con (.int 1073741824)) (.con (.int 0))),
        .setR 30 (.ai .quo .i64 (.r 29) (.con (.int 1073741824))),
        .setR 6 (.r 30)]))))
   (.is [.setR 11 (.r 7),
     .setR 12 (.ai .add .i64 (.r 11) (.con (.int 1))),
     .setR 7 (.r 12)])))
def lp62_0 : PC := .block 0 [6, 7, 9, 10] [5] (.loop [6, 7] [5] bd62_0)
def rd62_0 : PT :=
 (.ite (.ci .lss (.r 7) (.con (.int 5)))
  (.chk (.idx (.r 0) (.r 7))
  (.chk (.idx (.r 1) (.r 7))
  (.chk (.ci .neq (.con (.int 1073741824)) (.con (.int 0)))
  (.chk (.idx (.o 5) (.r 7))
  (.next ⟨[(6, (.ai .quo .i64 (.ai .add .i64 (.ai .add .i64 (.r 6) (.nth (.r 0) (.r 7))) (.nth (.r 1) (.r 7))) (.con (.int 1073741824)))), (7, (.ai .add .i64 (.r 7) (.con (.int 1))))], [(5, (.setn (.o 5) (.r 7) 0 (.ai .rem .i64 (.ai .add .i64 (.ai .add .i64 (.r 6) (.nth (.r 0) (.r 7))) (.nth (.r 1) (.r 7))) (.con (.int 1073741824)))))]⟩)))))
  (.exit 0 ⟨[(6, (.r 6)), (7, (.r 7)), (9, (.r 7)), (10, (.ci .lss (.r 7) (.con (.int 5))))], [(5, (.o 5))]⟩))
theorem rd62_0_eq : round 0 [6, 7, 9, 10] [5] [6, 7] [5] bd62_0 = rd62_0 := by kernel_rfl
def pc62 : PC :=
 (.seq
  (.is [.setO 4 (.con (.list [])),
    .setR 4 (.con .none)])
  (.seq
   (.is [.chk (.an (.ci .geq (.con (.int 5)) (.con (.int 0))) (.ci .leq (.con (.int 5)) (.con (.int 4294967296)))),
     .chk (.ci .eql (.con (.int 5)) (.con (.int 5))),
     .setO 8 (.rep (.con (.int 5)) (.con (.int 0))),
     .setR 8 (.con .none),
     .setR 5 (.r 8),
     .setO 5 (.o 8)])
   (.seq
    (.is [.setR 6 (.con (.int 0))])
    (.seq
     (.seq
      (.is [.setR 7 (.con (.int 0))])
      lp62_0)
     (.seq
      (.is [.setR 31 (.r 5),
        .setR 4 (.r 31),
        .setO 4 (.o 5)])
      (.ret (.o 4)))))))
def tr62 : PT :=
 (.chk (.an (.ci .geq (.con (.int 5)) (.con (.int 0))) (.ci .leq (.con (.int 5)) (.con (.int 4294967296))))
 (.chk (.ci .eql (.con (.int 5)) (.con (.int 5)))
 (.brk ⟨[(7, (.con (.int 0))), (6, (.con (.int 0))), (5, (.con .none)), (8, (.con .none)), (4, (.con .none))], [(5, (.rep (.con (.int 5)) (.con (.int 0)))), (8, (.rep (.con (.int 5)) (.con (.int 0)))), (4, (.con (.list [])))]⟩
  lp62_0
 (.ret (.o 5)))))
theorem tr62_eq : tree pc62 = tr62 := by kernel_rfl
/-! allonge/allongeref03.Cmp -/
def bd63_0 : PC :=
 (.seq
  (.seq
   (.is [.setR 6 (.r 5),
     .setR 7 (.ci .geq (.r 6) (.con (.int 0)))])
   (.ite (.r 7) [] []
    .skip
    (.exit 0)))
  (.seq
   (.block 1 [4, 10, 11, 12, 13, 14, 15, 16, 17, 18, 19, 20, 21, 22, 23, 24, 25, 26, 27] []
    (.seq
     (.seq
      (.is [.setR 10 (.r 0),
        .setR 11 (.r 5),
        .chk (.idx (.r 10) (.r 11)),
        .setR 12 (.ref (.nth (.r 10) (.r 11))),
        .setR 13 (.deref (.r 12)),
        .setR 14 (.r 1),
        .setR 15 (.r 5),
        .chk (.idx (.r 14) (.r 15)),
        .setR 16 (.ref (.nth (.r 14) (.r 15))),
        .setR 17 (.deref (.r 16)),
        .setR 18 (.ci .lss (.r 13) (.r 17))])
      (.ite (.r 18) [4] []
       (.seq
        (.is [.setR 4 (.con (.int (-1)))])
        (.ret (.r 4)))
       .skip))
     (.seq
      (.is [.setR 19 (.r 0),
        .setR 20 (.r 5),
        .chk (.idx (.r 19) (.r 20)),
        .setR 21 (.ref (.nth (.r 19) (.r 20))),
        .setR 22 (.deref (.r 21)),
        .setR 23 (.r 1),
        .setR 24 (.r 5),
        .chk (.idx (.r 23) (.r 24)),
        .setR 25 (.ref (.nth (.r 23) (.r 24))),
        .setR 26 (.deref (.r 25)),
        .setR 27 (.ci .gtr (.r 22) (.r 26))])
      (.ite (.r 27) [4] []
       (.seq
        (.is [.setR 4 (.con (.int 1))])
        (.ret (.r 4)))
       .skip))))
   (.is [.setR 8 (.r 5),
     .setR 9 (.ai .sub .i64 (.r 8) (.con (.int 1))),
     .setR 5 (.r 9)])))
def lp63_0 : PC := .block 0 [4, 5, 6, 7] [] (.loop [4, 5] [] bd63_0)
def rd63_0 : PT :=
 (.ite (.ci .geq (.r 5) (.con (.int 0)))
  (.chk (.idx (.r 0) (.r 5))
  (.chk (.idx (.r 1) (.r 5))
  (.ite (.ci .lss (.nth (.r 0) (.r 5)) (.nth (.r 1) (.r 5)))
   (.ret (.con (.int (-1))))
   (.ite (.ci .gtr (.nth (.r 0) (.r 5)) (.nth (.r 1) (.r 5)))
    (.ret (.con (.int 1)))
    (.next ⟨[(4, (.r 4)), (5, (.ai .sub .i64 (.r 5) (.con (.int 1))))], []⟩)))))
  (.exit 0 ⟨[(4, (.r 4)), (5, (.r 5)), (6, (.r 5)), (7, (.ci .geq (.r 5) (.con (.int 0))))], []⟩))
theorem rd63_0_eq : round 0 [4, 5, 6, 7] [] [4, 5] [] bd63_0 = rd63_0 := by kernel_rfl
def pc63 : PC :=
 (.seq
  (.is [.setR 4 (.con (.int 0))])
  (.seq
   (.seq
    (.is [.setR 5 (.con (.int 4))])
    lp63_0)
   (.seq
    (.is [.setR 4 (.con (.int 0))])
    (.ret (.r 4)))))
def tr63 : PT :=
 (.brk ⟨[(5, (.con (.int 4))), (4, (.con (.int 0)))], []⟩
  lp63_0
 (.ret (.con (.int 0))))
theorem tr63_eq : tree pc63 = tr63 := by kernel_rfl
/-! allonge/allongeref03.Minus -/
def bd64_0 : PC :=
 (.seq
  (.seq
   (.is [.setR 10 (.r 7),
     .setR 11 (.ci .lss (.r 10) (.con (.int 5)))])
   (.ite (.r 11) [] []
    .skip
    (.exit 0)))
  (.seq
   (.block 1 [6, 8, 14, 15, 16, 17, 18, 19, 20, 21, 22, 23, 24, 25, 26, 29, 30, 31, 32] [5]
    (.seq
     (.is [.setR 14 (.r 0),
       .setR 15 (.r 7),
       .chk (.idx (.r 14) (.r 15)),
       .setR 16 (.ref (.nth (.r 14) (.r 15))),
       .setR 17 (.deref (.r 16)),
       .setR 18 (.r 1),
       .setR 19 (.r 7),
       .chk (.idx (.r 18) (.r 19)),
       .setR 20 (.ref (.nth (.r 18) (.r 19))),
       .setR 21 (.deref (.r 20)),
       .setR 22 (.ai .sub .i64 (.r 17) (.r 21)),
       .setR 23 (.r 6),
       .setR 24 (.ai .sub .i64 (.r 22) (.r 23)),
       .setR 8 (.r 24)])
     (.seq
      (.is [.setR 6 (.con (.int 0))])
      (.seq
       (.seq
        (.is [.setR 25 (.r 8),
          .setR 26 (.ci .lss (.r 25) (.con (.int 0)))])
        (.ite (.r 26) [6, 8] []
         (.seq
          (.is [.setR 27 (.r 8),
            .setR 28 (.ai .add .i64 (.r 27) (.con (.int 1073741824))),
            .setR 8 (.r 28)])
          (.is [.setR 6 (.con (.int 1))]))
         .skip))
       (.is [.setR 29 (.r 5),
         .setR 30 (.r 7),
         .setR 31 (.r 8),
         .chk (.idx (.o 5) (.r 30)),
         .setR 32 (.r 30),
         .setO 5 (.setn (.o 5) (.r 32) 0 (.r 31))])))))
   (.is [.setR 12 (.r 7),
     .setR 13 (.ai .add .i64 (.r 12) (.con (.int 1))),
     .setR 7 (.r 13)])))
def lp64_0 : PC := .block 0 [6, 7, 10, 11] [5] (.loop [6, 7] [5] bd64_0)
def rd64_0 : PT :=
 (.ite (.ci .lss (.r 7) (.con (.int 5)))
  (.chk (.idx (.r 0) (.r 7))
  (.chk (.idx (.r 1) (.r 7))
  (.chk (.idx (.o 5) (.r 7))
  (.next ⟨[(6, (.pick (.ci .lss (.ai .sub .i64 (.ai .sub .i64 (.nth (.r 0) (.r 7)) (.nth (.r 1) (.r 7))) (.r 6)) (.con (.int 0))) (.con (.int 1)) (.con (.int 0)))), (7, (.ai .add .i64 (.r 7) (.con (.int 1))))], [(5, (.setn (.o 5) (.r 7) 0 (.pick (.ci .lss (.ai .sub .i64 (.ai .sub .i64 (.nth (.r 0) (.r 7)) (.nth (.r 1) (.r 7))) (.r 6)) (.con (.int 0))) (.ai .add .i64 (.ai .sub .i64 (.ai .sub .i64 (.nth (.r 0) (.r 7)) (.nth (.r 1) (.r 7))) (.r 6)) (.con (.int 1073741824))) (.ai .sub .i64 (.ai .sub .i64 (.nth (.r 0) (.r 7)) (.nth (.r 1) (.r 7))) (.r 6)))))]⟩))))
  (.exit 0 ⟨[(6, (.r 6)), (7, (.r 7)), (10, (.r 7)), (11, (.ci .lss (.r 7) (.con (.int 5))))], [(5, (.o 5))]⟩))
theorem rd64_0_eq : round 0 [6, 7, 10, 11] [5] [6, 7] [5] bd64_0 = rd64_0 := by kernel_rfl
def pc64 : PC :=
 (.seq
  (.is [.setO 4 (.con (.list [])),
    .setR 4 (.con .none)])
  (.seq
   (.is [.chk (.an (.ci .geq (.con (.int 5)) (.con (.int 0))) (.ci .leq (.con (.int 5)) (.con (.int 4294967296)))),
     .chk (.ci .eql (.con (.int 5)) (.con (.int 5))),
     .setO 9 (.rep (.con (.int 5)) (.con (.int 0))),
     .setR 9 (.con .none),
     .setR 5 (.r 9),
     .setO 5 (.o 9)])
   (.seq
    (.is [.setR 6 (.con (.int 0))])
    (.seq
     (.seq
      (.is [.setR 7 (.con (.int 0))])
      lp64_0)
     (.seq
      (.is [.setR 33 (.r 5),
        .setR 4 (.r 33),
        .setO 4 (.o 5)])
      (.ret (.o 4)))))))
def tr64 : PT :=
 (.chk (.an (.ci .geq (.con (.int 5)) (.con (.int 0))) (.ci .leq (.con (.int 5)) (.con (.int 4294967296))))
 (.chk (.ci .eql (.con (.int 5)) (.con (.int 5)))
 (.brk ⟨[(7, (.con (.int 0))), (6, (.con (.int 0))), (5, (.con .none)), (9, (.con .none)), (4, (.con .none))], [(5, (.rep (.con (.int 5)) (.con (.int 0)))), (9, (.rep (.con (.int 5)) (.con (.int 0)))), (4, (.con (.list [])))]⟩
  lp64_0
 (.ret (.o 5)))))
theorem tr64_eq : tree pc64 = tr64 := by kernel_rfl
/-! allonge/allongeref48.sum -/
def bd50_0 : PC :=
 (.seq
  (.seq
   (.is [.setR 5 (.r 4),
     .setR 6 (.r 0),
     .setR 7 (.llen (.r 6)),
     .setR 8 (.ci .lss (.r 5) (.r 7))])
   (.ite (.r 8) [] []
    .skip
    (.exit 0)))
  (.seq
   (.block 1 [3, 11, 12, 13, 14, 15, 16] []
    (.is [.setR 11 (.r 3),
      .setR 12 (.r 0),
      .setR 13 (.r 4),
      .chk (.idx (.r 12) (.r 13)),
      .setR 14 (.ref (.nth (.r 12) (.r 13))),
      .setR 15 (.deref (.r 14)),
      .setR 16 (.ai .add .i64 (.r 11) (.r 15)),
      .setR 3 (.r 16)]))
   (.is [.setR 9 (.r 4),
     .setR 10 (.ai .add .i64 (.r 9) (.con (.int 1))),
     .setR 4 (.r 10)])))
def lp50_0 : PC := .block 0 [3, 4, 5, 6, 7, 8] [] (.loop [3, 4] [] bd50_0)
def rd50_0 : PT :=
 (.ite (.ci .lss (.r 4) (.llen (.r 0)))
  (.chk (.idx (.r 0) (.r 4))
  (.next ⟨[(3, (.ai .add .i64 (.r 3) (.nth (.r 0) (.r 4)))), (4, (.ai .add .i64 (.r 4) (.con (.int 1))))], []⟩))
  (.exit 0 ⟨[(3, (.r 3)), (4, (.r 4)), (5, (.r 4)), (6, (.r 0)), (7, (.llen (.r 0))), (8, (.ci .lss (.r 4) (.llen (.r 0))))], []⟩))
theorem rd50_0_eq : round 0 [3, 4, 5, 6, 7, 8] [] [3, 4] [] bd50_0 = rd50_0 := by kernel_rfl
def pc50 : PC :=
 (.seq
  (.is [.setR 2 (.con (.int 0))])
  (.seq
   (.is [.setR 3 (.con (.int 0))])
   (.seq
    (.seq
     (.is [.setR 4 (.con (.int 0))])
     lp50_0)
    (.seq
     (.is [.setR 17 (.r 3),
       .setR 2 (.r 17)])
     (.ret (.r 2))))))
def tr50 : PT :=
 (.brk ⟨[(4, (.con (.int 0))), (3, (.con (.int 0))), (2, (.con (.int 0)))], []⟩
  lp50_0
 (.ret (.r 3)))
theorem tr50_eq : tree pc50 = tr50 := by kernel_rfl
/-! allonge/allongeref48.Same -/
def bd30_0 : PC :=
 (.seq
  (.seq
   (.is [.setR 11 (.r 5),
     .setR 12 (.r 0),
     .setR 13 (.llen (.r 12)),
     .setR 14 (.ci .lss (.r 11) (.r 13))])
   (.ite (.r 14) [] []
    .skip
    (.exit 0)))
  (.seq
   (.block 1 [4, 17, 18, 19, 20, 21, 22, 23, 24, 25] []
    (.seq
     (.is [.setR 17 (.r 0),
       .setR 18 (.r 5),
       .chk (.idx (.r 17) (.r 18)),
       .setR 19 (.ref (.nth (.r 17) (.r 18))),
       .setR 20 (.deref (.r 19)),
       .setR 21 (.r 1),
       .setR 22 (.r 5),
       .chk (.idx (.r 21) (.r 22)),
       .setR 23 (.ref (.nth (.r 21) (.r 22))),
       .setR 24 (.deref (.r 23)),
       .setR 25 (.nt (.an (.ci .eql (.cell (.r 20) 0) (.cell (.r 24) 0)) (.an (.ci .eql (.cell (.r 20) 1) (.cell (.r 24) 1)) (.con (.bool true)))))])
     (.ite (.r 25) [4] []
      (.seq
       (.is [.setR 4 (.con (.bool false))])
       (.ret (.r 4)))
      .skip)))
   (.is [.setR 15 (.r 5),
     .setR 16 (.ai .add .i64 (.r 15) (.con (.int 1))),
     .setR 5 (.r 16)])))
def lp30_0 : PC := .block 0 [4, 5, 11, 12, 13, 14] [] (.loop [4, 5] [] bd30_0)
def rd30_0 : PT :=
 (.ite (.ci .lss (.r 5) (.llen (.r 0)))
  (.chk (.idx (.r 0) (.r 5))
  (.chk (.idx (.r 1) (.r 5))
  (.ite (.nt (.an (.ci .eql (.cell (.nth (.r 0) (.r 5)) 0) (.cell (.nth (.r 1) (.r 5)) 0)) (.an (.ci .eql (.cell (.nth (.r 0) (.r 5)) 1) (.cell (.nth (.r 1) (.r 5)) 1)) (.con (.bool true)))))
   (.ret (.con (.bool false)))
   (.next ⟨[(4, (.r 4)), (5, (.ai .add .i64 (.r 5) (.con (.int 1))))], []⟩))))
  (.exit 0 ⟨[(4, (.r 4)), (5, (.r 5)), (11, (.r 5)), (12, (.r 0)), (13, (.llen (.r 0))), (14, (.ci .lss (.r 5) (.llen (.r 0))))], []⟩))
theorem rd30_0_eq : round 0 [4, 5, 11, 12, 13, 14] [] [4, 5] [] bd30_0 = rd30_0 := by kernel_rfl
def pc30 : PC :=
 (.seq
  (.is [.setR 4 (.con (.bool false))])
  (.seq
   (.seq
    (.is [.setR 6 (.r 0),
      .setR 7 (.llen (.r 6)),
      .setR 8 (.r 1),
      .setR 9 (.llen (.r 8)),
      .setR 10 (.ci .neq (.r 7) (.r 9))])
    (.ite (.r 10) [4] []
     (.seq
      (.is [.setR 4 (.con (.bool false))])
      (.ret (.r 4)))
     .skip))
   (.seq
    (.seq
     (.is [.setR 5 (.con (.int 0))])
     lp30_0)
    (.seq
     (.is [.setR 4 (.con (.bool true))])
     (.ret (.r 4))))))
def tr30 : PT :=
 (.ite (.ci .neq (.llen (.r 0)) (.llen (.r 1)))
  (.ret (.con (.bool false)))
  (.brk ⟨[(5, (.con (.int 0))), (4, (.con (.bool false))), (10, (.ci .neq (.llen (.r 0)) (.llen (.r 1)))), (9, (.llen (.r 1))), (8, (.r 1)), (7, (.llen (.r 0))), (6, (.r 0)), (4, (.con (.bool false)))], []⟩
   lp30_0
  (.ret (.con (.bool true)))))
theorem tr30_eq : tree pc30 = tr30 := by kernel_rfl
/-! allonge/allongeref48.Received -/
def bd34_0 : PC :=
 (.seq
  (.seq
   (.is [.setR 10 (.r 8),
     .setR 11 (.r 1),
     .setR 12 (.llen (.r 11)),
     .setR 13 (.ci .lss (.r 10) (.r 12))])
   (.ite (.r 13) [] []
    .skip
    (.exit 0)))
  (.seq
   (.block 1 [7, 9, 16, 17, 18, 19, 20, 21, 22, 23, 28] []
    (.seq
     (.is [.setR 16 (.r 1),
       .setR 17 (.r 8),
       .chk (.idx (.r 16) (.r 17)),
       .setR 18 (.ref (.nth (.r 16) (.r 17))),
       .setR 19 (.ref (.cell (.deref (.r 18)) 0)),
       .setR 20 (.deref (.r 19)),
       .setR 9 (.r 20)])
     (.seq
      (.is [.setR 21 (.r 9),
        .setR 22 (.ci .geq (.r 21) (.con (.int 0))),
        .setR 23 (.r 22),
        .setR 24 (.r 9),
        .setR 25 (.r 0),
        .setR 26 (.llen (.r 25)),
        .setR 27 (.ci .lss (.r 24) (.r 26)),
        .setR 28 (.pick (.r 23) (.r 27) (.con (.bool false)))])
      (.ite (.r 28) [7] []
       (.seq
        (.is [.setR 29 (.r 0),
          .setR 30 (.r 9),
          .chk (.idx (.r 29) (.r 30)),
          .setR 31 (.ref (.nth (.r 29) (.r 30))),
          .setR 32 (.ref (.cell (.deref (.r 31)) 0)),
          .setR 33 (.deref (.r 32)),
          .setR 34 (.r 2),
          .setR 35 (.ci .eql (.r 33) (.r 34))])
        (.ite (.r 35) [7] []
         (.is [.setR 36 (.r 7),
           .setR 37 (.r 1),
           .setR 38 (.r 8),
           .chk (.idx (.r 37) (.r 38)),
           .setR 39 (.ref (.nth (.r 37) (.r 38))),
           .setR 40 (.ref (.cell (.deref (.r 39)) 1)),
           .setR 41 (.deref (.r 40)),
           .setR 42 (.ai .add .i64 (.r 36) (.r 41)),
           .setR 7 (.r 42)])
         .skip))
       .skip))))
   (.is [.setR 14 (.r 8),
     .setR 15 (.ai .add .i64 (.r 14) (.con (.int 1))),
     .setR 8 (.r 15)])))
def lp34_0 : PC := .block 0 [7, 8, 10, 11, 12, 13] [] (.loop [7, 8] [] bd34_0)
def rd34_0 : PT :=
 (.ite (.ci .lss (.r 8) (.llen (.r 1)))
  (.chk (.idx (.r 1) (.r 8))
  (.ite (.pick (.ci .geq (.cell (.nth (.r 1) (.r 8)) 0) (.con (.int 0))) (.ci .lss (.cell (.nth (.r 1) (.r 8)) 0) (.llen (.r 0))) (.con (.bool false)))
   (.chk (.idx (.r 0) (.cell (.nth (.r 1) (.r 8)) 0))
   (.ite (.ci .eql (.cell (.nth (.r 0) (.cell (.nth (.r 1) (.r 8)) 0)) 0) (.r 2))
    (.next ⟨[(7, (.ai .add .i64 (.r 7) (.cell (.nth (.r 1) (.r 8)) 1))), (8, (.ai .add .i64 (.r 8) (.con (.int 1))))], []⟩)
    (.next ⟨[(7, (.r 7)), (8, (.ai .add .i64 (.r 8) (.con (.int 1))))], []⟩)))
   (.next ⟨[(7, (.r 7)), (8, (.ai .add .i64 (.r 8) (.con (.int 1))))], []⟩)))
  (.exit 0 ⟨[(7, (.r 7)), (8, (.r 8)), (10, (.r 8)), (11, (.r 1)), (12, (.llen (.r 1))), (13, (.ci .lss (.r 8) (.llen (.r 1))))], []⟩))
theorem rd34_0_eq : round 0 [7, 8, 10, 11, 12, 13] [] [7, 8] [] bd34_0 = rd34_0 := by kernel_rfl
def pc34 : PC :=
 (.seq
  (.is [.setR 6 (.con (.int 0))])
  (.seq
   (.is [.setR 7 (.con (.int 0))])
   (.seq
    (.seq
     (.is [.setR 8 (.con (.int 0))])
     lp34_0)
    (.seq
     (.is [.setR 43 (.r 7),
       .setR 6 (.r 43)])
     (.ret (.r 6))))))
def tr34 : PT :=
 (.brk ⟨[(8, (.con (.int 0))), (7, (.con (.int 0))), (6, (.con (.int 0)))], []⟩
  lp34_0
 (.ret (.r 7)))
theorem tr34_eq : tree pc34 = tr34 := by kernel_rfl
/-! allonge/allongeref48.Left -/
def bd36_0 : PC :=
 (.seq
  (.seq
   (.is [.setR 23 (.r 10),
     .setR 24 (.r 2),
     .setR 25 (.llen (.r 24)),
     .setR 26 (.ci .lss (.r 23) (.r 25))])
   (.ite (.r 26) [] []
    .skip
    (.exit 2)))
  (.seq
   (.block 3 [9, 11, 29, 30, 31, 32, 33, 34, 35, 36, 41] []
    (.seq
     (.is [.setR 29 (.r 2),
       .setR 30 (.r 10),
       .chk (.idx (.r 29) (.r 30)),
       .setR 31 (.ref (.nth (.r 29) (.r 30))),
       .setR 32 (.ref (.cell (.deref (.r 31)) 0)),
       .setR 33 (.deref (.r 32)),
       .setR 11 (.r 33)])
     (.seq
      (.is [.setR 34 (.r 11),
        .setR 35 (.ci .geq (.r 34) (.con (.int 0))),
        .setR 36 (.r 35),
        .setR 37 (.r 11),
        .setR 38 (.r 1),
        .setR 39 (.llen (.r 38)),
        .setR 40 (.ci .lss (.r 37) (.r 39)),
        .setR 41 (.pick (.r 36) (.r 40) (.con (.bool false)))])
      (.ite (.r 41) [9] []
       (.seq
        (.is [.setR 42 (.r 1),
          .setR 43 (.r 11),
          .chk (.idx (.r 42) (.r 43)),
          .setR 44 (.ref (.nth (.r 42) (.r 43))),
          .setR 45 (.ref (.cell (.deref (.r 44)) 1)),
          .setR 46 (.deref (.r 45)),
          .setR 47 (.r 8),
          .setR 48 (.ci .eql (.r 46) (.r 47))])
        (.ite (.r 48) [9] []
         (.is [.setR 49 (.r 9),
           .setR 50 (.r 2),
           .setR 51 (.r 10),
           .chk (.idx (.r 50) (.r 51)),
           .setR 52 (.ref (.nth (.r 50) (.r 51))),
           .setR 53 (.ref (.cell (.deref (.r 52)) 1)),
           .setR 54 (.deref (.r 53)),
           .setR 55 (.ai .sub .i64 (.r 49) (.r 54)),
           .setR 9 (.r 55)])
         .skip))
       .skip))))
   (.is [.setR 27 (.r 10),
     .setR 28 (.ai .add .i64 (.r 27) (.con (.int 1))),
     .setR 10 (.r 28)])))
def lp36_0 : PC := .block 2 [9, 10, 23, 24, 25, 26] [] (.loop [9, 10] [] bd36_0)
def rd36_0 : PT :=
 (.ite (.ci .lss (.r 10) (.llen (.r 2)))
  (.chk (.idx (.r 2) (.r 10))
  (.ite (.pick (.ci .geq (.cell (.nth (.r 2) (.r 10)) 0) (.con (.int 0))) (.ci .lss (.cell (.nth (.r 2) (.r 10)) 0) (.llen (.r 1))) (.con (.bool false)))
   (.chk (.idx (.r 1) (.cell (.nth (.r 2) (.r 10)) 0))
   (.ite (.ci .eql (.cell (.nth (.r 1) (.cell (.nth (.r 2) (.r 10)) 0)) 1) (.r 8))
    (.next ⟨[(9, (.ai .sub .i64 (.r 9) (.cell (.nth (.r 2) (.r 10)) 1))), (10, (.ai .add .i64 (.r 10) (.con (.int 1))))], []⟩)
    (.next ⟨[(9, (.r 9)), (10, (.ai .add .i64 (.r 10) (.con (.int 1))))], []⟩)))
   (.next ⟨[(9, (.r 9)), (10, (.ai .add .i64 (.r 10) (.con (.int 1))))], []⟩)))
  (.exit 2 ⟨[(9, (.r 9)), (10, (.r 10)), (23, (.r 10)), (24, (.r 2)), (25, (.llen (.r 2))), (26, (.ci .lss (.r 10) (.llen (.r 2))))], []⟩))
theorem rd36_0_eq : round 2 [9, 10, 23, 24, 25, 26] [] [9, 10] [] bd36_0 = rd36_0 := by kernel_rfl
def bd36_1 : PC :=
 (.seq
  (.seq
   (.is [.setR 12 (.r 8),
     .setR 13 (.r 0),
     .setR 14 (.llen (.r 13)),
     .setR 15 (.ci .lss (.r 12) (.r 14))])
   (.ite (.r 15) [] []
    .skip
    (.exit 0)))
  (.seq
   (.block 1 [7, 9, 10, 18, 19, 20, 21, 22, 23, 24, 25, 26, 57, 58, 59] [7, 58]
    (.seq
     (.is [.setR 18 (.r 0),
       .setR 19 (.r 8),
       .chk (.idx (.r 18) (.r 19)),
       .setR 20 (.ref (.nth (.r 18) (.r 19))),
       .setR 21 (.ref (.cell (.deref (.r 20)) 2)),
       .setR 22 (.deref (.r 21)),
       .setR 9 (.r 22)])
     (.seq
      (.seq
       (.is [.setR 10 (.con (.int 0))])
       lp36_0)
      (.is [.setR 56 (.r 7),
        .setR 57 (.r 9),
        .setO 58 (.lst [(.r 57)]),
        .setR 58 (.con .none),
        .chk (.ci .leq (.llen (.app (.o 7) (.o 58))) (.con (.int 4294967296))),
        .setO 7 (.app (.o 7) (.o 58)),
        .setR 59 (.con .none),
        .setR 7 (.r 59)]))))
   (.is [.setR 16 (.r 8),
     .setR 17 (.ai .add .i64 (.r 16) (.con (.int 1))),
     .setR 8 (.r 17)])))
def lp36_1 : PC := .block 0 [7, 8, 12, 13, 14, 15] [7] (.loop [7, 8] [7] bd36_1)
def rd36_1 : PT :=
 (.ite (.ci .lss (.r 8) (.llen (.r 0)))
  (.blockS ⟨[(15, (.ci .lss (.r 8) (.llen (.r 0)))), (14, (.llen (.r 0))), (13, (.r 0)), (12, (.r 8))], []⟩ 1 [7, 9, 10, 18, 19, 20, 21, 22, 23, 24, 25, 26, 57, 58, 59] [7, 58]
   (.chk (.idx (.r 0) (.r 8))
   (.brk ⟨[(10, (.con (.int 0))), (9, (.cell (.nth (.r 0) (.r 8)) 2)), (22, (.cell (.nth (.r 0) (.r 8)) 2)), (21, (.ref (.cell (.nth (.r 0) (.r 8)) 2))), (20, (.ref (.nth (.r 0) (.r 8)))), (19, (.r 8)), (18, (.r 0))], []⟩
    lp36_0
   (.chk (.ci .leq (.llen (.app (.o 7) (.lst [(.r 9)]))) (.con (.int 4294967296)))
   (.next ⟨[(7, (.con .none)), (59, (.con .none)), (58, (.con .none)), (57, (.r 9)), (56, (.r 7))], [(7, (.app (.o 7) (.lst [(.r 9)]))), (58, (.lst [(.r 9)]))]⟩))))
  (.next ⟨[(7, (.r 7)), (8, (.ai .add .i64 (.r 8) (.con (.int 1))))], [(7, (.o 7))]⟩))
  (.exit 0 ⟨[(7, (.r 7)), (8, (.r 8)), (12, (.r 8)), (13, (.r 0)), (14, (.llen (.r 0))), (15, (.ci .lss (.r 8) (.llen (.r 0))))], [(7, (.o 7))]⟩))
theorem rd36_1_eq : round 0 [7, 8, 12, 13, 14, 15] [7] [7, 8] [7] bd36_1 = rd36_1 := by kernel_rfl
def pc36 : PC :=
 (.seq
  (.is [.setR 6 (.con (.list []))])
  (.seq
   (.is [.setO 7 (.con (.list [])),
     .setR 7 (.con .none)])
   (.seq
    (.seq
     (.is [.setR 8 (.con (.int 0))])
     lp36_1)
    (.seq
     (.is [.setR 60 (.r 7),
       .setR 6 (.o 7)])
     (.ret (.r 6))))))
def tr36 : PT :=
 (.brk ⟨[(8, (.con (.int 0))), (7, (.con .none)), (6, (.con (.list [])))], [(7, (.con (.list [])))]⟩
  lp36_1
 (.ret (.o 7)))
theorem tr36_eq : tree pc36 = tr36 := by kernel_rfl
/-! allonge/allongelaw48.EstateWhole -/
def bd8_0 : PC :=
 (.seq
  (.seq
   (.is [.setR 61 (.r 13),
     .setR 62 (.r 8),
     .setR 63 (.llen (.r 62)),
     .setR 64 (.ci .lss (.r 61) (.r 63))])
   (.ite (.r 64) [] []
    .skip
    (.exit 0)))
  (.seq
   (.block 1 [6, 67, 68, 69, 70, 71, 72, 73, 74, 75, 76] []
    (.seq
     (.is [.setR 67 (.r 8),
       .setR 68 (.r 13),
       .chk (.idx (.r 67) (.r 68)),
       .setR 69 (.ref (.nth (.r 67) (.r 68))),
       .setR 70 (.deref (.r 69)),
       .setR 71 (.r 2),
       .setR 72 (.r 13),
       .chk (.idx (.r 71) (.r 72)),
       .setR 73 (.ref (.nth (.r 71) (.r 72))),
       .setR 74 (.ref (.cell (.deref (.r 73)) 2)),
       .setR 75 (.deref (.r 74)),
       .setR 76 (.ci .gtr (.r 70) (.r 75))])
     (.ite (.r 76) [6] []
      (.seq
       (.is [.setR 6 (.con (.bool false))])
       (.ret (.r 6)))
      .skip)))
   (.is [.setR 65 (.r 13),
     .setR 66 (.ai .add .i64 (.r 65) (.con (.int 1))),
     .setR 13 (.r 66)])))
def lp8_0 : PC := .block 0 [6, 13, 61, 62, 63, 64] [] (.loop [6, 13] [] bd8_0)
def rd8_0 : PT :=
 (.ite (.ci .lss (.r 13) (.llen (.r 8)))
  (.chk (.idx (.r 8) (.r 13))
  (.chk (.idx (.r 2) (.r 13))
  (.ite (.ci .gtr (.nth (.r 8) (.r 13)) (.cell (.nth (.r 2) (.r 13)) 2))
   (.ret (.con (.bool false)))
   (.next ⟨[(6, (.r 6)), (13, (.ai .add .i64 (.r 13) (.con (.int 1))))], []⟩))))
  (.exit 0 ⟨[(6, (.r 6)), (13, (.r 13)), (61, (.r 13)), (62, (.r 8)), (63, (.llen (.r 8))), (64, (.ci .lss (.r 13) (.llen (.r 8))))], []⟩))
theorem rd8_0_eq : round 0 [6, 13, 61, 62, 63, 64] [] [6, 13] [] bd8_0 = rd8_0 := by kernel_rfl
def bd8_1 : PC :=
 (.seq
  (.seq
   (.is [.setR 83 (.r 16),
     .setR 84 (.r 8),
     .setR 85 (.llen (.r 84)),
     .setR 86 (.ci .lss (.r 83) (.r 85))])
   (.ite (.r 86) [] []
    .skip
    (.exit 4)))
  (.seq
   (.block 5 [15, 89, 90, 91, 92, 93, 94, 95] []
    (.seq
     (.is [.setR 89 (.r 2),
       .setR 90 (.r 16),
       .chk (.idx (.r 89) (.r 90)),
       .setR 91 (.ref (.nth (.r 89) (.r 90))),
       .setR 92 (.ref (.cell (.deref (.r 91)) 0)),
       .setR 93 (.deref (.r 92)),
       .setR 94 (.r 14),
       .setR 95 (.ci .eql (.r 93) (.r 94))])
     (.ite (.r 95) [15] []
      (.is [.setR 96 (.r 15),
        .setR 97 (.r 8),
        .setR 98 (.r 16),
        .chk (.idx (.r 97) (.r 98)),
        .setR 99 (.ref (.nth (.r 97) (.r 98))),
        .setR 100 (.deref (.r 99)),
        .setR 101 (.ai .add .i64 (.r 96) (.r 100)),
        .setR 15 (.r 101)])
      .skip)))
   (.is [.setR 87 (.r 16),
     .setR 88 (.ai .add .i64 (.r 87) (.con (.int 1))),
     .setR 16 (.r 88)])))
def lp8_1 : PC := .block 4 [15, 16, 83, 84, 85, 86] [] (.loop [15, 16] [] bd8_1)
def rd8_1 : PT :=
 (.ite (.ci .lss (.r 16) (.llen (.r 8)))
  (.chk (.idx (.r 2) (.r 16))
  (.ite (.ci .eql (.cell (.nth (.r 2) (.r 16)) 0) (.r 14))
   (.chk (.idx (.r 8) (.r 16))
   (.next ⟨[(15, (.ai .add .i64 (.r 15) (.nth (.r 8) (.r 16)))), (16, (.ai .add .i64 (.r 16) (.con (.int 1))))], []⟩))
   (.next ⟨[(15, (.r 15)), (16, (.ai .add .i64 (.r 16) (.con (.int 1))))], []⟩)))
  (.exit 4 ⟨[(15, (.r 15)), (16, (.r 16)), (83, (.r 16)), (84, (.r 8)), (85, (.llen (.r 8))), (86, (.ci .lss (.r 16) (.llen (.r 8))))], []⟩))
theorem rd8_1_eq : round 4 [15, 16, 83, 84, 85, 86] [] [15, 16] [] bd8_1 = rd8_1 := by kernel_rfl
def bd8_2 : PC :=
 (.seq
  (.seq
   (.is [.setR 77 (.r 14),
     .setR 78 (.r 1),
     .setR 79 (.llen (.r 78)),
     .setR 80 (.ci .lss (.r 77) (.r 79))])
   (.ite (.r 80) [] []
    .skip
    (.exit 2)))
  (.seq
   (.block 3 [6, 15, 16, 83, 84, 85, 86, 102, 103, 104, 105, 106, 107, 108, 115] []
    (.seq
     (.is [.setR 15 (.con (.int 0))])
     (.seq
      (.seq
       (.is [.setR 16 (.con (.int 0))])
       lp8_1)
      (.seq
       (.is [.setR 102 (.r 15),
         .setR 103 (.r 1),
         .setR 104 (.r 14),
         .chk (.idx (.r 103) (.r 104)),
         .setR 105 (.ref (.nth (.r 103) (.r 104))),
         .setR 106 (.deref (.r 105)),
         .setR 107 (.ci .gtr (.r 102) (.r 106)),
         .setR 108 (.r 107),
         .setR 109 (.r 2),
         .setR 110 (.r 10),
         .setR 111 (.r 14),
         .call [(108, false)] 112 33 [(.r 109), (.r 110), (.r 111)],
         .setR 113 (.r 15),
         .setR 114 (.ci .neq (.r 112) (.r 113)),
         .setR 115 (.pick (.r 108) (.con (.bool true)) (.r 114))])
       (.ite (.r 115) [6] []
        (.seq
         (.is [.setR 6 (.con (.bool false))])
         (.ret (.r 6)))
        .skip)))))
   (.is [.setR 81 (.r 14),
     .setR 82 (.ai .add .i64 (.r 81) (.con (.int 1))),
     .setR 14 (.r 82)])))
def lp8_2 : PC := .block 2 [6, 14, 77, 78, 79, 80] [] (.loop [6, 14] [] bd8_2)
def rd8_2 : PT :=
 (.ite (.ci .lss (.r 14) (.llen (.r 1)))
  (.blockS ⟨[(80, (.ci .lss (.r 14) (.llen (.r 1)))), (79, (.llen (.r 1))), (78, (.r 1)), (77, (.r 14))], []⟩ 3 [6, 15, 16, 83, 84, 85, 86, 102, 103, 104, 105, 106, 107, 108, 115] []
   (.brk ⟨[(16, (.con (.int 0))), (15, (.con (.int 0)))], []⟩
    lp8_1
   (.chk (.idx (.r 1) (.r 14))
   (.call ⟨[(111, (.r 14)), (110, (.r 10)), (109, (.r 2)), (108, (.ci .gtr (.r 15) (.nth (.r 1) (.r 14)))), (107, (.ci .gtr (.r 15) (.nth (.r 1) (.r 14)))), (106, (.nth (.r 1) (.r 14))), (105, (.ref (.nth (.r 1) (.r 14)))), (104, (.r 14)), (103, (.r 1)), (102, (.r 15))], []⟩ [(108, false)] 112 33 [(.r 109), (.r 110), (.r 111)]
   (.ite (.pick (.r 108) (.con (.bool true)) (.ci .neq (.r 112) (.r 15)))
    (.ret (.con (.bool false)))
    (.next ⟨[(6, (.r 6)), (115, (.pick (.r 108) (.con (.bool true)) (.ci .neq (.r 112) (.r 15)))), (114, (.ci .neq (.r 112) (.r 15))), (113, (.r 15))], []⟩)))))
  (.next ⟨[(6, (.r 6)), (14, (.ai .add .i64 (.r 14) (.con (.int 1))))], []⟩))
  (.exit 2 ⟨[(6, (.r 6)), (14, (.r 14)), (77, (.r 14)), (78, (.r 1)), (79, (.llen (.r 1))), (80, (.ci .lss (.r 14) (.llen (.r 1))))], []⟩))
theorem rd8_2_eq : round 2 [6, 14, 77, 78, 79, 80] [] [6, 14] [] bd8_2 = rd8_2 := by kernel_rfl
def bd8_3 : PC :=
 (.seq
  (.seq
   (.is [.setR 127 (.r 19),
     .setR 128 (.r 8),
     .setR 129 (.llen (.r 128)),
     .setR 130 (.ci .lss (.r 127) (.r 129))])
   (.ite (.r 130) [] []
    .skip
    (.exit 8)))
  (.seq
   (.block 9 [18, 133, 134, 135, 136, 137, 138, 139] []
    (.seq
     (.is [.setR 133 (.r 2),
       .setR 134 (.r 19),
       .chk (.idx (.r 133) (.r 134)),
       .setR 135 (.ref (.nth (.r 133) (.r 134))),
       .setR 136 (.ref (.cell (.deref (.r 135)) 1)),
       .setR 137 (.deref (.r 136)),
       .setR 138 (.r 17),
       .setR 139 (.ci .eql (.r 137) (.r 138))])
     (.ite (.r 139) [18] []
      (.is [.setR 140 (.r 18),
        .setR 141 (.r 8),
        .setR 142 (.r 19),
        .chk (.idx (.r 141) (.r 142)),
        .setR 143 (.ref (.nth (.r 141) (.r 142))),
        .setR 144 (.deref (.r 143)),
        .setR 145 (.ai .sub .i64 (.r 140) (.r 144)),
        .setR 18 (.r 145)])
      .skip)))
   (.is [.setR 131 (.r 19),
     .setR 132 (.ai .add .i64 (.r 131) (.con (.int 1))),
     .setR 19 (.r 132)])))
def lp8_3 : PC := .block 8 [18, 19, 127, 128, 129, 130] [] (.loop [18, 19] [] bd8_3)
def rd8_3 : PT :=
 (.ite (.ci .lss (.r 19) (.llen (.r 8)))
  (.chk (.idx (.r 2) (.r 19))
  (.ite (.ci .eql (.cell (.nth (.r 2) (.r 19)) 1) (.r 17))
   (.chk (.idx (.r 8) (.r 19))
   (.next ⟨[(18, (.ai .sub .i64 (.r 18) (.nth (.r 8) (.r 19)))), (19, (.ai .add .i64 (.r 19) (.con (.int 1))))], []⟩))
   (.next ⟨[(18, (.r 18)), (19, (.ai .add .i64 (.r 19) (.con (.int 1))))], []⟩)))
  (.exit 8 ⟨[(18, (.r 18)), (19, (.r 19)), (127, (.r 19)), (128, (.r 8)), (129, (.llen (.r 8))), (130, (.ci .lss (.r 19) (.llen (.r 8))))], []⟩))
theorem rd8_3_eq : round 8 [18, 19, 127, 128, 129, 130] [] [18, 19] [] bd8_3 = rd8_3 := by kernel_rfl
def bd8_4 : PC :=
 (.seq
  (.seq
   (.is [.setR 116 (.r 17),
     .setR 117 (.r 0),
     .setR 118 (.llen (.r 117)),
     .setR 119 (.ci .lss (.r 116) (.r 118))])
   (.ite (.r 119) [] []
    .skip
    (.exit 6)))
  (.seq
   (.block 7 [6, 18, 19, 122, 123, 124, 125, 126, 127, 128, 129, 130, 146, 147, 148, 155] []
    (.seq
     (.is [.setR 122 (.r 0),
       .setR 123 (.r 17),
       .chk (.idx (.r 122) (.r 123)),
       .setR 124 (.ref (.nth (.r 122) (.r 123))),
       .setR 125 (.ref (.cell (.deref (.r 124)) 2)),
       .setR 126 (.deref (.r 125)),
       .setR 18 (.r 126)])
     (.seq
      (.seq
       (.is [.setR 19 (.con (.int 0))])
       lp8_3)
      (.seq
       (.is [.setR 146 (.r 18),
         .setR 147 (.ci .lss (.r 146) (.con (.int 0))),
         .setR 148 (.r 147),
         .setR 149 (.r 12),
         .setR 150 (.r 17),
         .chk (.imp [(148, false)] (.idx (.r 149) (.r 150))),
         .setR 151 (.ref (.nth (.r 149) (.r 150))),
         .setR 152 (.deref (.r 151)),
         .setR 153 (.r 18),
         .setR 154 (.ci .neq (.r 152) (.r 153)),
         .setR 155 (.pick (.r 148) (.con (.bool true)) (.r 154))])
       (.ite (.r 155) [6] []
        (.seq
         (.is [.setR 6 (.con (.bool false))])
         (.ret (.r 6)))
        .skip)))))
   (.is [.setR 120 (.r 17),
     .setR 121 (.ai .add .i64 (.r 120) (.con (.int 1))),
     .setR 17 (.r 121)])))
def lp8_4 : PC := .block 6 [6, 17, 116, 117, 118, 119] [] (.loop [6, 17] [] bd8_4)
def rd8_4 : PT :=
 (.ite (.ci .lss (.r 17) (.llen (.r 0)))
  (.blockS ⟨[(119, (.ci .lss (.r 17) (.llen (.r 0)))), (118, (.llen (.r 0))), (117, (.r 0)), (116, (.r 17))], []⟩ 7 [6, 18, 19, 122, 123, 124, 125, 126, 127, 128, 129, 130, 146, 147, 148, 155] []
   (.chk (.idx (.r 0) (.r 17))
   (.brk ⟨[(19, (.con (.int 0))), (18, (.cell (.nth (.r 0) (.r 17)) 2)), (126, (.cell (.nth (.r 0) (.r 17)) 2)), (125, (.ref (.cell (.nth (.r 0) (.r 17)) 2))), (124, (.ref (.nth (.r 0) (.r 17)))), (123, (.r 17)), (122, (.r 0))], []⟩
    lp8_3
   (.chk (.nt (.an (.an (.nt (.ci .lss (.r 18) (.con (.int 0)))) (.con (.bool true))) (.nt (.idx (.r 12) (.r 17)))))
   (.ite (.pick (.ci .lss (.r 18) (.con (.int 0))) (.con (.bool true)) (.ci .neq (.nth (.r 12) (.r 17)) (.r 18)))
    (.ret (.con (.bool false)))
    (.next ⟨[(6, (.r 6)), (155, (.pick (.ci .lss (.r 18) (.con (.int 0))) (.con (.bool true)) (.ci .neq (.nth (.r 12) (.r 17)) (.r 18)))), (154, (.ci .neq (.nth (.r 12) (.r 17)) (.r 18))), (153, (.r 18)), (152, (.nth (.r 12) (.r 17))), (151, (.ref (.nth (.r 12) (.r 17)))), (150, (.r 17)), (149, (.r 12)), (148, (.ci .lss (.r 18) (.con (.int 0)))), (147, (.ci .lss (.r 18) (.con (.int 0)))), (146, (.r 18))], []⟩)))))
  (.next ⟨[(6, (.r 6)), (17, (.ai .add .i64 (.r 17) (.con (.int 1))))], []⟩))
  (.exit 6 ⟨[(6, (.r 6)), (17, (.r 17)), (116, (.r 17)), (117, (.r 0)), (118, (.llen (.r 0))), (119, (.ci .lss (.r 17) (.llen (.r 0))))], []⟩))
theorem rd8_4_eq : round 6 [6, 17, 116, 117, 118, 119] [] [6, 17] [] bd8_4 = rd8_4 := by kernel_rfl
def pc8 : PC :=
 (.seq
  (.is [.setR 6 (.con (.bool false))])
  (.seq
   (.is [.call [] 20 26 [],
     .setR 7 (.r 20)])
   (.seq
    (.seq
     (.is [.setR 21 (.r 0),
       .setR 22 (.r 1),
       .setR 23 (.r 2),
       .call [] 24 27 [(.r 21), (.r 22), (.r 23)],
       .setR 25 (.nt (.r 24)),
       .setR 26 (.r 25),
       .setR 27 (.r 0),
       .setR 28 (.r 1),
       .setR 29 (.r 2),
       .call [(26, false)] 30 31 [(.r 27), (.r 28), (.r 29)],
       .setR 31 (.nt (.r 30)),
       .setR 32 (.pick (.r 26) (.con (.bool true)) (.r 31))])
     (.ite (.r 32) [6] []
      (.seq
       (.is [.setR 33 (.r 7),
         .setR 6 (.r 33)])
       (.ret (.r 6)))
      .skip))
    (.seq
     (.is [.setR 35 (.r 0),
       .setR 36 (.r 1),
       .setR 37 (.r 2),
       .call [] 38 37 [(.r 35), (.r 36), (.r 37)],
       .setR 34 (.r 38),
       .setR 39 (.tget (.r 34) 0),
       .setR 40 (.tget (.r 34) 1),
       .setR 8 (.r 39),
       .setR 9 (.r 40)])
     (.seq
      (.is [.setR 42 (.r 0),
        .setR 43 (.r 1),
        .setR 44 (.r 2),
        .call [] 45 28 [(.r 42), (.r 43), (.r 44)],
        .setR 41 (.r 45),
        .setR 46 (.tget (.r 41) 0),
        .setR 47 (.tget (.r 41) 1),
        .setR 10 (.r 46),
        .setR 11 (.r 47)])
      (.seq
       (.is [.setR 48 (.r 0),
         .setR 49 (.r 2),
         .setR 50 (.r 10),
         .call [] 51 35 [(.r 48), (.r 49), (.r 50)],
         .setR 12 (.r 51)])
       (.seq
        (.seq
         (.is [.setR 52 (.r 9),
           .setR 53 (.nt (.r 52)),
           .setR 54 (.r 53),
           .setR 55 (.r 12),
           .setR 56 (.llen (.r 55)),
           .setR 57 (.r 0),
           .setR 58 (.llen (.r 57)),
           .setR 59 (.ci .neq (.r 56) (.r 58)),
           .setR 60 (.pick (.r 54) (.con (.bool true)) (.r 59))])
         (.ite (.r 60) [6] []
          (.seq
           (.is [.setR 6 (.con (.bool false))])
           (.ret (.r 6)))
          .skip))
        (.seq
         (.seq
          (.is [.setR 13 (.con (.int 0))])
          lp8_0)
         (.seq
          (.seq
           (.is [.setR 14 (.con (.int 0))])
           lp8_2)
          (.seq
           (.seq
            (.is [.setR 17 (.con (.int 0))])
            lp8_4)
           (.seq
            (.is [.setR 156 (.r 7),
              .setR 6 (.r 156)])
            (.ret (.r 6)))))))))))))
def tr8 : PT :=
 (.call ⟨[(6, (.con (.bool false)))], []⟩ [] 20 26 []
 (.call ⟨[(23, (.r 2)), (22, (.r 1)), (21, (.r 0)), (7, (.r 20))], []⟩ [] 24 27 [(.r 21), (.r 22), (.r 23)]
 (.call ⟨[(29, (.r 2)), (28, (.r 1)), (27, (.r 0)), (26, (.nt (.r 24))), (25, (.nt (.r 24)))], []⟩ [(26, false)] 30 31 [(.r 27), (.r 28), (.r 29)]
 (.ite (.pick (.r 26) (.con (.bool true)) (.nt (.r 30)))
  (.ret (.r 7))
  (.call ⟨[(37, (.r 2)), (36, (.r 1)), (35, (.r 0)), (6, (.r 6)), (32, (.pick (.r 26) (.con (.bool true)) (.nt (.r 30)))), (31, (.nt (.r 30)))], []⟩ [] 38 37 [(.r 35), (.r 36), (.r 37)]
  (.call ⟨[(44, (.r 2)), (43, (.r 1)), (42, (.r 0)), (9, (.tget (.r 38) 1)), (8, (.tget (.r 38) 0)), (40, (.tget (.r 38) 1)), (39, (.tget (.r 38) 0)), (34, (.r 38))], []⟩ [] 45 28 [(.r 42), (.r 43), (.r 44)]
  (.call ⟨[(50, (.tget (.r 45) 0)), (49, (.r 2)), (48, (.r 0)), (11, (.tget (.r 45) 1)), (10, (.tget (.r 45) 0)), (47, (.tget (.r 45) 1)), (46, (.tget (.r 45) 0)), (41, (.r 45))], []⟩ [] 51 35 [(.r 48), (.r 49), (.r 50)]
  (.ite (.pick (.nt (.r 9)) (.con (.bool true)) (.ci .neq (.llen (.r 51)) (.llen (.r 0))))
   (.ret (.con (.bool false)))
   (.brk ⟨[(13, (.con (.int 0))), (6, (.r 6)), (60, (.pick (.nt (.r 9)) (.con (.bool true)) (.ci .neq (.llen (.r 51)) (.llen (.r 0))))), (59, (.ci .neq (.llen (.r 51)) (.llen (.r 0)))), (58, (.llen (.r 0))), (57, (.r 0)), (56, (.llen (.r 51))), (55, (.r 51)), (54, (.nt (.r 9))), (53, (.nt (.r 9))), (52, (.r 9)), (12, (.r 51))], []⟩
    lp8_0
   (.brk ⟨[(14, (.con (.int 0)))], []⟩
    lp8_2
   (.brk ⟨[(17, (.con (.int 0)))], []⟩
    lp8_4
   (.ret (.r 7)))))))))))))
theorem tr8_eq : tree pc8 = tr8 := by kernel_rfl
/-! allonge/allongelaw48.paid -/
def bd37_0 : PC :=
 (.seq
  (.seq
   (.is [.setR 28 (.r 11),
     .setR 29 (.r 8),
     .setR 30 (.llen (.r 29)),
     .setR 31 (.ci .lss (.r 28) (.r 30))])
   (.ite (.r 31) [] []
    .skip
    (.exit 0)))
  (.seq
   (.block 1 [6, 7, 10, 34, 35, 36, 37, 38, 39, 40, 41, 48, 50, 51, 52, 53, 54, 55, 56] [10, 55]
    (.seq
     (.seq
      (.is [.setR 34 (.r 8),
        .setR 35 (.r 11),
        .chk (.idx (.r 34) (.r 35)),
        .setR 36 (.ref (.nth (.r 34) (.r 35))),
        .setR 37 (.ref (.cell (.deref (.r 36)) 0)),
        .setR 38 (.deref (.r 37)),
        .setR 39 (.r 11),
        .setR 40 (.ci .neq (.r 38) (.r 39)),
        .setR 41 (.r 40),
        .setR 42 (.r 8),
        .setR 43 (.r 11),
        .chk (.imp [(41, false)] (.idx (.r 42) (.r 43))),
        .setR 44 (.ref (.nth (.r 42) (.r 43))),
        .setR 45 (.ref (.cell (.deref (.r 44)) 1)),
        .setR 46 (.deref (.r 45)),
        .setR 47 (.ci .lss (.r 46) (.con (.int 0))),
        .setR 48 (.pick (.r 41) (.con (.bool true)) (.r 47))])
      (.ite (.r 48) [6, 7] []
       (.seq
        (.is [.setR 6 (.con (.list [])),
          .setR 7 (.con (.bool false))])
        (.ret (.tup [(.r 6), (.r 7)])))
       .skip))
     (.is [.setR 49 (.r 10),
       .setR 50 (.r 8),
       .setR 51 (.r 11),
       .chk (.idx (.r 50) (.r 51)),
       .setR 52 (.ref (.nth (.r 50) (.r 51))),
       .setR 53 (.ref (.cell (.deref (.r 52)) 1)),
       .setR 54 (.deref (.r 53)),
       .setO 55 (.lst [(.r 54)]),
       .setR 55 (.con .none),
       .chk (.ci .leq (.llen (.app (.o 10) (.o 55))) (.con (.int 4294967296))),
       .setO 10 (.app (.o 10) (.o 55)),
       .setR 56 (.con .none),
       .setR 10 (.r 56)])))
   (.is [.setR 32 (.r 11),
     .setR 33 (.ai .add .i64 (.r 32) (.con (.int 1))),
     .setR 11 (.r 33)])))
def lp37_0 : PC := .block 0 [6, 7, 10, 11, 28, 29, 30, 31] [10] (.loop [6, 7, 10, 11] [10] bd37_0)
def rd37_0 : PT :=
 (.ite (.ci .lss (.r 11) (.llen (.r 8)))
  (.chk (.idx (.r 8) (.r 11))
  (.chk (.nt (.an (.an (.nt (.ci .neq (.cell (.nth (.r 8) (.r 11)) 0) (.r 11))) (.con (.bool true))) (.nt (.idx (.r 8) (.r 11)))))
  (.ite (.pick (.ci .neq (.cell (.nth (.r 8) (.r 11)) 0) (.r 11)) (.con (.bool true)) (.ci .lss (.cell (.nth (.r 8) (.r 11)) 1) (.con (.int 0))))
   (.ret (.tup [(.con (.list [])), (.con (.bool false))]))
   (.chk (.ci .leq (.llen (.app (.o 10) (.lst [(.cell (.nth (.r 8) (.r 11)) 1)]))) (.con (.int 4294967296)))
   (.next ⟨[(6, (.r 6)), (7, (.r 7)), (10, (.con .none)), (11, (.ai .add .i64 (.r 11) (.con (.int 1))))], [(10, (.app (.o 10) (.lst [(.cell (.nth (.r 8) (.r 11)) 1)])))]⟩)))))
  (.exit 0 ⟨[(6, (.r 6)), (7, (.r 7)), (10, (.r 10)), (11, (.r 11)), (28, (.r 11)), (29, (.r 8)), (30, (.llen (.r 8))), (31, (.ci .lss (.r 11) (.llen (.r 8))))], [(10, (.o 10))]⟩))
theorem rd37_0_eq : round 0 [6, 7, 10, 11, 28, 29, 30, 31] [10] [6, 7, 10, 11] [10] bd37_0 = rd37_0 := by kernel_rfl
def pc37 : PC :=
 (.seq
  (.is [.setR 6 (.con (.list [])),
    .setR 7 (.con (.bool false))])
  (.seq
   (.is [.setR 13 (.r 0),
     .setR 14 (.r 1),
     .setR 15 (.r 2),
     .call [] 16 28 [(.r 13), (.r 14), (.r 15)],
     .setR 12 (.r 16),
     .setR 17 (.tget (.r 12) 0),
     .setR 18 (.tget (.r 12) 1),
     .setR 8 (.r 17),
     .setR 9 (.r 18)])
   (.seq
    (.seq
     (.is [.setR 19 (.r 9),
       .setR 20 (.ci .neq (.r 19) (.con (.int 0))),
       .setR 21 (.r 20),
       .setR 22 (.r 8),
       .setR 23 (.llen (.r 22)),
       .setR 24 (.r 2),
       .setR 25 (.llen (.r 24)),
       .setR 26 (.ci .neq (.r 23) (.r 25)),
       .setR 27 (.pick (.r 21) (.con (.bool true)) (.r 26))])
     (.ite (.r 27) [6, 7] []
      (.seq
       (.is [.setR 6 (.con (.list [])),
         .setR 7 (.con (.bool false))])
       (.ret (.tup [(.r 6), (.r 7)])))
      .skip))
    (.seq
     (.is [.setO 10 (.con (.list [])),
       .setR 10 (.con .none)])
     (.seq
      (.seq
       (.is [.setR 11 (.con (.int 0))])
       lp37_0)
      (.seq
       (.is [.setR 57 (.r 10),
         .setR 6 (.o 10),
         .setR 7 (.con (.bool true))])
       (.ret (.tup [(.r 6), (.r 7)]))))))))
def tr37 : PT :=
 (.call ⟨[(15, (.r 2)), (14, (.r 1)), (13, (.r 0)), (7, (.con (.bool false))), (6, (.con (.list [])))], []⟩ [] 16 28 [(.r 13), (.r 14), (.r 15)]
 (.ite (.pick (.ci .neq (.tget (.r 16) 1) (.con (.int 0))) (.con (.bool true)) (.ci .neq (.llen (.tget (.r 16) 0)) (.llen (.r 2))))
  (.ret (.tup [(.con (.list [])), (.con (.bool false))]))
  (.brk ⟨[(11, (.con (.int 0))), (10, (.con .none)), (6, (.r 6)), (7, (.r 7)), (27, (.pick (.ci .neq (.tget (.r 16) 1) (.con (.int 0))) (.con (.bool true)) (.ci .neq (.llen (.tget (.r 16) 0)) (.llen (.r 2))))), (26, (.ci .neq (.llen (.tget (.r 16) 0)) (.llen (.r 2)))), (25, (.llen (.r 2))), (24, (.r 2)), (23, (.llen (.tget (.r 16) 0))), (22, (.tget (.r 16) 0)), (21, (.ci .neq (.tget (.r 16) 1) (.con (.int 0)))), (20, (.ci .neq (.tget (.r 16) 1) (.con (.int 0)))), (19, (.tget (.r 16) 1)), (9, (.tget (.r 16) 1)), (8, (.tget (.r 16) 0)), (18, (.tget (.r 16) 1)), (17, (.tget (.r 16) 0)), (12, (.r 16))], [(10, (.con (.list [])))]⟩
   lp37_0
  (.ret (.tup [(.o 10), (.con (.bool true))])))))
theorem tr37_eq : tree pc37 = tr37 := by kernel_rfl
end Esta
