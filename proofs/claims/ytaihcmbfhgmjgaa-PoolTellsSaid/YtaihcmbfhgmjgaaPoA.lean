/-
  The functions of this seat, compiled (1); the table.
-/
import Derived.Test.YtaihcmbfhgmjgaaProg
import Derived.Test.YtaihcmbfhgmjgaaCyI
import Derived.KernelRfl
set_option maxRecDepth 100000
namespace Pool
open Go Go.Proofs Cx

/-- how each function is called -/
def sigL : List (Nat × Sig) := [
  (3, ⟨[(.agg [(.int .i64), (.int .i64), (.int .i64), (.int .i64), (.int .i64)]), (.slice (.agg [(.int .i64), (.int .i64), (.int .i64)])), (.int .i64), (.slice (.int .i64)), (.slice (.agg [(.int .i64), (.int .i64), (.int .i64)]))], .bool, .dat⟩),
  (4, ⟨[(.agg [(.int .i64), (.int .i64), (.int .i64), (.int .i64), (.int .i64)]), (.slice (.agg [(.int .i64), (.int .i64), (.int .i64)])), (.int .i64), (.slice (.agg [(.slice (.int .i64)), (.slice (.agg [(.int .i64), (.int .i64), (.int .i64)]))]))], .bool, .dat⟩),
  (5, ⟨[(.agg [(.int .i64), (.int .i64), (.int .i64), (.int .i64), (.int .i64)]), (.slice (.agg [(.int .i64), (.int .i64), (.int .i64)])), (.int .i64), (.int .u64)], .bool, .dat⟩),
  (6, ⟨[(.agg [(.int .i64), (.int .i64), (.int .i64), (.int .i64), (.int .i64)]), (.slice (.agg [(.int .i64), (.int .i64), (.int .i64)])), (.int .i64), (.int .i64)], .bool, .dat⟩),
  (7, ⟨[(.agg [(.int .i64), (.int .i64), (.int .i64), (.int .i64), (.int .i64)]), (.agg [(.int .i64), (.int .i64), (.int .i64), (.int .i64), (.int .i64)]), (.slice (.agg [(.int .i64), (.int .i64), (.int .i64)])), (.int .i64)], .bool, .dat⟩),
  (8, ⟨[], .bool, .dat⟩),
  (9, ⟨[(.slice (.agg [(.int .i64), (.int .i64), (.int .i64)]))], .bool, .dat⟩),
  (10, ⟨[(.agg [(.int .i64), (.int .i64), (.int .i64), (.int .i64), (.int .i64)]), (.slice (.agg [(.int .i64), (.int .i64), (.int .i64)])), (.int .i64)], (.tup [(.int .i64), (.int .i64)]), .dat⟩),
  (11, ⟨[(.agg [(.int .i64), (.int .i64), (.int .i64), (.int .i64), (.int .i64)]), (.slice (.agg [(.int .i64), (.int .i64), (.int .i64)])), (.int .i64)], (.tup [(.int .i64), (.int .i64)]), .dat⟩),
  (12, ⟨[(.agg [(.int .i64), (.int .i64), (.int .i64), (.int .i64), (.int .i64)]), (.slice (.agg [(.int .i64), (.int .i64), (.int .i64)])), (.int .i64), (.slice (.int .i64)), (.slice (.agg [(.int .i64), (.int .i64), (.int .i64)]))], (.tup [(.slice (.agg [(.int .i64), (.int .i64), (.int .i64)])), (.int .i64)]), .dat⟩),
  (13, ⟨[(.agg [(.int .i64), (.int .i64), (.int .i64), (.int .i64), (.int .i64)]), (.slice (.agg [(.int .i64), (.int .i64), (.int .i64)])), (.int .i64), (.slice (.int .i64)), (.slice (.agg [(.int .i64), (.int .i64), (.int .i64)]))], (.tup [(.slice (.agg [(.int .i64), (.int .i64), (.int .i64)])), (.int .i64)]), .dat⟩),
  (14, ⟨[(.agg [(.int .i64), (.int .i64), (.int .i64), (.int .i64), (.int .i64)]), (.slice (.agg [(.int .i64), (.int .i64), (.int .i64)])), (.int .i64)], (.tup [(.slice (.int .i64)), (.int .i64)]), .dat⟩),
  (15, ⟨[(.agg [(.int .i64), (.int .i64), (.int .i64), (.int .i64), (.int .i64)]), (.slice (.agg [(.int .i64), (.int .i64), (.int .i64)])), (.int .i64)], (.tup [(.slice (.int .i64)), (.int .i64)]), .dat⟩),
  (16, ⟨[(.agg [(.int .i64), (.int .i64), (.int .i64), (.int .i64), (.int .i64)]), (.slice (.agg [(.int .i64), (.int .i64), (.int .i64)])), (.int .i64)], (.tup [(.int .i64), (.int .i64)]), .dat⟩),
  (17, ⟨[(.agg [(.int .i64), (.int .i64), (.int .i64), (.int .i64), (.int .i64)]), (.slice (.agg [(.int .i64), (.int .i64), (.int .i64)])), (.int .i64)], (.tup [(.int .i64), (.int .i64)]), .dat⟩),
  (18, ⟨[(.agg [(.int .i64), (.int .i64), (.int .i64), (.int .i64), (.int .i64)]), (.slice (.agg [(.int .i64), (.int .i64), (.int .i64)])), (.int .i64)], (.int .i64), .dat⟩),
  (19, ⟨[(.agg [(.int .i64), (.int .i64), (.int .i64), (.int .i64), (.int .i64)]), (.slice (.agg [(.int .i64), (.int .i64), (.int .i64)])), (.int .i64)], (.int .i64), .dat⟩),
  (20, ⟨[(.slice (.agg [(.int .i64), (.int .i64), (.int .i64)])), (.slice (.agg [(.int .i64), (.int .i64), (.int .i64)]))], .bool, .dat⟩),
  (21, ⟨[(.slice (.int .i64)), (.slice (.int .i64))], .bool, .dat⟩),
  (22, ⟨[(.agg [(.int .i64), (.int .i64), (.int .i64), (.int .i64), (.int .i64)]), (.agg [(.int .i64), (.int .i64), (.int .i64)]), (.int .i64)], (.int .i64), .dat⟩),
  (23, ⟨[(.agg [(.int .i64), (.int .i64), (.int .i64), (.int .i64), (.int .i64)]), (.agg [(.int .i64), (.int .i64), (.int .i64)]), (.int .i64)], (.int .i64), .dat⟩),
  (24, ⟨[(.slice (.agg [(.int .i64), (.int .i64), (.int .i64)])), (.slice (.int .i64))], (.slice (.agg [(.int .i64), (.int .i64), (.int .i64)])), (.row 40 (.agg [(.int .i64), (.int .i64), (.int .i64)]))⟩),
  (25, ⟨[], (.agg [(.int .i64), (.int .i64), (.int .i64), (.int .i64), (.int .i64)]), .dat⟩),
  (26, ⟨[], (.slice (.agg [(.int .i64), (.int .i64), (.int .i64)])), .dat⟩),
  (27, ⟨[(.agg [(.int .i64), (.int .i64), (.int .i64), (.int .i64), (.int .i64)]), (.slice (.agg [(.int .i64), (.int .i64), (.int .i64)])), (.int .i64)], (.int .i64), .dat⟩),
  (28, ⟨[(.agg [(.int .i64), (.int .i64), (.int .i64), (.int .i64), (.int .i64)]), (.slice (.agg [(.int .i64), (.int .i64), (.int .i64)])), (.int .i64)], (.int .i64), .dat⟩),
  (29, ⟨[(.slice (.int .i64)), (.int .i64)], .bool, .dat⟩),
  (30, ⟨[(.slice (.int .i64)), (.fn [(.int .i64), (.int .i64)] (.int .i64))], (.tup []), (.ob [(.obj 0 0), (.dat (.fn [(.int .i64), (.int .i64)] (.int .i64)))] [(0, (.row 3 (.int .i64)))])⟩),
  (31, ⟨[(.int .i64), (.int .i64), (.ref (.agg [(.int .i64), (.int .i64), (.int .i64), (.int .i64), (.int .i64)])), (.ref (.slice (.agg [(.int .i64), (.int .i64), (.int .i64)]))), (.ref (.int .i64))], (.int .i64), .dat⟩),
  (32, ⟨[(.slice (.int .i64))], (.tup []), (.ob [(.obj 0 0)] [(0, (.row 3 (.int .i64)))])⟩),
  (33, ⟨[(.agg [(.int .i64), (.int .i64), (.int .i64), (.int .i64), (.int .i64)])], .bool, .dat⟩),
  (34, ⟨[(.int .i64), (.int .i64)], .bool, .dat⟩),
  (35, ⟨[(.slice (.agg [(.int .i64), (.int .i64), (.int .i64)])), (.fn [(.agg [(.int .i64), (.int .i64), (.int .i64)])] .bool)], .bool, .dat⟩),
  (36, ⟨[(.agg [(.int .i64), (.int .i64), (.int .i64)])], .bool, .dat⟩),
  (37, ⟨[(.agg [(.int .i64), (.int .i64), (.int .i64)])], .bool, .dat⟩),
  (38, ⟨[(.agg [(.int .i64), (.int .i64), (.int .i64), (.int .i64), (.int .i64)])], .bool, .dat⟩),
  (39, ⟨[(.agg [(.int .i64), (.int .i64), (.int .i64)])], .bool, .dat⟩),
  (40, ⟨[(.slice (.int .i64)), (.int .i64)], (.int .i64), .dat⟩),
  (41, ⟨[(.slice (.int .i64)), (.int .i64), (.fn [(.int .i64), (.int .i64)] (.int .i64))], (.tup []), (.ob [(.obj 0 0), (.dat (.int .i64)), (.dat (.fn [(.int .i64), (.int .i64)] (.int .i64)))] [(0, (.row 3 (.int .i64)))])⟩),
  (42, ⟨[(.slice (.int .i64)), (.int .i64), (.int .i64), (.int .i64)], (.tup []), (.ob [(.obj 0 0), (.dat (.int .i64)), (.dat (.int .i64)), (.dat (.int .i64))] [(0, (.row 3 (.int .i64)))])⟩),
  (43, ⟨[(.int .u64)], (.int .i64), .dat⟩),
  (44, ⟨[(.slice (.agg [(.int .i64), (.int .i64), (.int .i64)])), (.fn [(.agg [(.int .i64), (.int .i64), (.int .i64)])] .bool)], (.int .i64), .dat⟩),
  (45, ⟨[(.slice (.int .i64)), (.int .i64), (.int .i64), (.fn [(.int .i64), (.int .i64)] (.int .i64))], (.tup []), (.ob [(.obj 0 0), (.dat (.int .i64)), (.dat (.int .i64)), (.dat (.fn [(.int .i64), (.int .i64)] (.int .i64)))] [(0, (.row 3 (.int .i64)))])⟩),
  (46, ⟨[(.slice (.int .i64)), (.int .i64), (.int .i64), (.int .i64), (.fn [(.int .i64), (.int .i64)] (.int .i64))], (.tup []), (.ob [(.obj 0 0), (.dat (.int .i64)), (.dat (.int .i64)), (.dat (.int .i64)), (.dat (.fn [(.int .i64), (.int .i64)] (.int .i64)))] [(0, (.row 3 (.int .i64)))])⟩),
  (47, ⟨[(.slice (.int .i64)), (.int .i64), (.int .i64)], (.tup []), (.ob [(.obj 0 0), (.dat (.int .i64)), (.dat (.int .i64))] [(0, (.row 3 (.int .i64)))])⟩),
  (48, ⟨[(.slice (.int .i64)), (.int .i64), (.int .i64)], (.tup []), (.ob [(.obj 0 0), (.dat (.int .i64)), (.dat (.int .i64))] [(0, (.row 3 (.int .i64)))])⟩),
  (49, ⟨[(.slice (.int .i64)), (.int .i64), (.int .i64)], (.tup []), (.ob [(.obj 0 0), (.dat (.int .i64)), (.dat (.int .i64))] [(0, (.row 3 (.int .i64)))])⟩),
  (50, ⟨[(.slice (.int .i64)), (.int .i64), (.int .i64)], (.tup [(.int .i64), (.int .i64)]), .dat⟩),
  (51, ⟨[(.slice (.int .i64)), (.int .i64), (.int .i64)], (.tup []), (.ob [(.obj 0 0), (.dat (.int .i64)), (.dat (.int .i64))] [(0, (.row 3 (.int .i64)))])⟩),
  (52, ⟨[(.slice (.int .i64)), (.int .i64), (.int .i64)], .bool, (.ob [(.obj 0 0), (.dat (.int .i64)), (.dat (.int .i64))] [(0, (.row 3 (.int .i64)))])⟩),
  (53, ⟨[(.int .i64), (.int .i64)], .bool, .dat⟩),
  (54, ⟨[(.slice (.int .i64)), (.int .i64), (.int .i64), (.int .i64)], (.int .i64), (.ob [(.obj 0 0), (.dat (.int .i64)), (.dat (.int .i64)), (.dat (.int .i64))] [(0, (.row 3 (.int .i64)))])⟩),
  (55, ⟨[(.slice (.int .i64)), (.int .i64), (.int .i64), (.int .i64)], (.tup [(.int .i64), .bool]), (.ob [(.obj 0 0), (.dat (.int .i64)), (.dat (.int .i64)), (.dat (.int .i64))] [(0, (.row 3 (.int .i64)))])⟩),
  (56, ⟨[(.int .u32)], (.int .i64), .dat⟩),
  (57, ⟨[(.int .u64)], (.int .i64), .dat⟩),
  (58, ⟨[(.slice (.int .i64)), (.int .i64), (.int .i64), (.int .i64), (.fn [(.int .i64), (.int .i64)] (.int .i64))], (.tup []), (.ob [(.obj 0 0), (.dat (.int .i64)), (.dat (.int .i64)), (.dat (.int .i64)), (.dat (.fn [(.int .i64), (.int .i64)] (.int .i64)))] [(0, (.row 3 (.int .i64)))])⟩),
  (64, ⟨[(.int .i64)], .bool, .dat⟩),
  (65, ⟨[(.slice (.int .i64)), (.int .i64), (.int .i64), (.int .i64), (.fn [(.int .i64), (.int .i64)] (.int .i64))], (.tup []), (.ob [(.obj 0 0), (.dat (.int .i64)), (.dat (.int .i64)), (.dat (.int .i64)), (.dat (.fn [(.int .i64), (.int .i64)] (.int .i64)))] [(0, (.row 3 (.int .i64)))])⟩)]
def capL : List (Nat × CSig) := [
  (31, ⟨[(.ref (.agg [(.int .i64), (.int .i64), (.int .i64), (.int .i64), (.int .i64)])), (.ref (.slice (.agg [(.int .i64), (.int .i64), (.int .i64)]))), (.ref (.int .i64))], [(.int .i64), (.int .i64)], (.int .i64)⟩),
  (36, ⟨[], [(.agg [(.int .i64), (.int .i64), (.int .i64)])], .bool⟩)]
/-! allonge/allongelaw41.PoolTells -/
def bd3_0 : PC :=
 (.seq
  (.seq
   (.is [.setR 155 (.r 28),
     .setR 156 (.r 4),
     .setR 157 (.llen (.r 156)),
     .setR 158 (.ci .lss (.r 155) (.r 157))])
   (.ite (.r 158) [] []
    .skip
    (.exit 0)))
  (.seq
   (.block 1 [10, 161, 162, 163, 164, 165, 166, 167, 168, 169, 170, 171, 172, 173, 174, 175] []
    (.seq
     (.is [.setR 161 (mkA 5 (.o 5)),
       .setR 162 (.r 4),
       .setR 163 (.r 28),
       .chk (.idx (.r 162) (.r 163)),
       .setR 164 (.ref (.nth (.r 162) (.r 163))),
       .setR 165 (.deref (.r 164)),
       .setR 166 (.r 2),
       .call [] 167 22 [(.r 161), (.r 165), (.r 166)],
       .setR 168 (mkA 5 (.o 5)),
       .setR 169 (.r 4),
       .setR 170 (.r 28),
       .chk (.idx (.r 169) (.r 170)),
       .setR 171 (.ref (.nth (.r 169) (.r 170))),
       .setR 172 (.deref (.r 171)),
       .setR 173 (.r 2),
       .call [] 174 23 [(.r 168), (.r 172), (.r 173)],
       .setR 175 (.ci .neq (.r 167) (.r 174))])
     (.ite (.r 175) [10] []
      (.seq
       (.is [.setR 10 (.con (.bool false))])
       (.ret (.r 10)))
      .skip)))
   (.is [.setR 159 (.r 28),
     .setR 160 (.ai .add .i64 (.r 159) (.con (.int 1))),
     .setR 28 (.r 160)])))
def lp3_0 : PC := .block 0 [10, 28, 155, 156, 157, 158] [] (.loop [10, 28] [] bd3_0)
def rd3_0 : PT :=
 (.ite (.ci .lss (.r 28) (.llen (.r 4)))
  (.blockS ⟨[(158, (.ci .lss (.r 28) (.llen (.r 4)))), (157, (.llen (.r 4))), (156, (.r 4)), (155, (.r 28))], []⟩ 1 [10, 161, 162, 163, 164, 165, 166, 167, 168, 169, 170, 171, 172, 173, 174, 175] []
   (.chk (.idx (.r 4) (.r 28))
   (.call ⟨[(166, (.r 2)), (165, (.nth (.r 4) (.r 28))), (164, (.ref (.nth (.r 4) (.r 28)))), (163, (.r 28)), (162, (.r 4)), (161, (mkA 5 (.o 5)))], []⟩ [] 167 22 [(.r 161), (.r 165), (.r 166)]
   (.chk (.idx (.r 4) (.r 28))
   (.call ⟨[(173, (.r 2)), (172, (.nth (.r 4) (.r 28))), (171, (.ref (.nth (.r 4) (.r 28)))), (170, (.r 28)), (169, (.r 4)), (168, (mkA 5 (.o 5)))], []⟩ [] 174 23 [(.r 168), (.r 172), (.r 173)]
   (.ite (.ci .neq (.r 167) (.r 174))
    (.ret (.con (.bool false)))
    (.next ⟨[(10, (.r 10)), (175, (.ci .neq (.r 167) (.r 174)))], []⟩))))))
  (.next ⟨[(10, (.r 10)), (28, (.ai .add .i64 (.r 28) (.con (.int 1))))], []⟩))
  (.exit 0 ⟨[(10, (.r 10)), (28, (.r 28)), (155, (.r 28)), (156, (.r 4)), (157, (.llen (.r 4))), (158, (.ci .lss (.r 28) (.llen (.r 4))))], []⟩))
theorem rd3_0_eq : round 0 [10, 28, 155, 156, 157, 158] [] [10, 28] [] bd3_0 = rd3_0 := by kernel_rfl
def pc3 : PC :=
 (.seq
  (.is [.setO 5 (.mk [(.r 0)]),
    .setR 5 (.con .none),
    .setR 10 (.con (.bool false))])
  (.seq
   (.is [.call [] 29 8 [],
     .setR 11 (.r 29)])
   (.seq
    (.seq
     (.is [.setR 30 (.r 1),
       .call [] 31 9 [(.r 30)],
       .setR 32 (.nt (.r 31)),
       .setR 33 (.r 32),
       .setR 34 (.r 4),
       .call [(33, false)] 35 9 [(.r 34)],
       .setR 36 (.nt (.r 35)),
       .setR 37 (.pick (.r 33) (.con (.bool true)) (.r 36)),
       .setR 38 (.r 37),
       .setR 39 (.r 3),
       .setR 40 (.llen (.r 39)),
       .setR 41 (.ci .gtr (.r 40) (.con (.int 60))),
       .setR 42 (.pick (.r 38) (.con (.bool true)) (.r 41))])
     (.ite (.r 42) [10] []
      (.seq
       (.is [.setR 43 (.r 11),
         .setR 10 (.r 43)])
       (.ret (.r 10)))
      .skip))
    (.seq
     (.is [.setR 45 (mkA 5 (.o 5)),
       .setR 46 (.r 1),
       .setR 47 (.r 2),
       .call [] 48 10 [(.r 45), (.r 46), (.r 47)],
       .setR 44 (.r 48),
       .setR 49 (.tget (.r 44) 0),
       .setR 50 (.tget (.r 44) 1),
       .setR 12 (.r 49),
       .setR 13 (.r 50)])
     (.seq
      (.is [.setR 52 (mkA 5 (.o 5)),
        .setR 53 (.r 1),
        .setR 54 (.r 2),
        .call [] 55 11 [(.r 52), (.r 53), (.r 54)],
        .setR 51 (.r 55),
        .setR 56 (.tget (.r 51) 0),
        .setR 57 (.tget (.r 51) 1),
        .setR 14 (.r 56),
        .setR 15 (.r 57)])
      (.seq
       (.is [.setR 59 (mkA 5 (.o 5)),
         .setR 60 (.r 1),
         .setR 61 (.r 2),
         .setR 62 (.r 3),
         .setR 63 (.r 4),
         .call [] 64 12 [(.r 59), (.r 60), (.r 61), (.r 62), (.r 63)],
         .setR 58 (.r 64),
         .setR 65 (.tget (.r 58) 0),
         .setR 66 (.tget (.r 58) 1),
         .setR 16 (.r 65),
         .setR 17 (.r 66)])
       (.seq
        (.is [.setR 68 (mkA 5 (.o 5)),
          .setR 69 (.r 1),
          .setR 70 (.r 2),
          .setR 71 (.r 3),
          .setR 72 (.r 4),
          .call [] 73 13 [(.r 68), (.r 69), (.r 70), (.r 71), (.r 72)],
          .setR 67 (.r 73),
          .setR 74 (.tget (.r 67) 0),
          .setR 75 (.tget (.r 67) 1),
          .setR 18 (.r 74),
          .setR 19 (.r 75)])
        (.seq
         (.is [.setR 77 (mkA 5 (.o 5)),
           .setR 78 (.r 1),
           .setR 79 (.r 2),
           .call [] 80 14 [(.r 77), (.r 78), (.r 79)],
           .setR 76 (.r 80),
           .setR 81 (.tget (.r 76) 0),
           .setR 82 (.tget (.r 76) 1),
           .setR 20 (.r 81),
           .setR 21 (.r 82)])
         (.seq
          (.is [.setR 84 (mkA 5 (.o 5)),
            .setR 85 (.r 1),
            .setR 86 (.r 2),
            .call [] 87 15 [(.r 84), (.r 85), (.r 86)],
            .setR 83 (.r 87),
            .setR 88 (.tget (.r 83) 0),
            .setR 89 (.tget (.r 83) 1),
            .setR 22 (.r 88),
            .setR 23 (.r 89)])
          (.seq
           (.is [.setR 91 (mkA 5 (.o 5)),
             .setR 92 (.r 1),
             .setR 93 (.r 2),
             .call [] 94 16 [(.r 91), (.r 92), (.r 93)],
             .setR 90 (.r 94),
             .setR 95 (.tget (.r 90) 0),
             .setR 96 (.tget (.r 90) 1),
             .setR 24 (.r 95),
             .setR 25 (.r 96)])
           (.seq
            (.is [.setR 98 (mkA 5 (.o 5)),
              .setR 99 (.r 1),
              .setR 100 (.r 2),
              .call [] 101 17 [(.r 98), (.r 99), (.r 100)],
              .setR 97 (.r 101),
              .setR 102 (.tget (.r 97) 0),
              .setR 103 (.tget (.r 97) 1),
              .setR 26 (.r 102),
              .setR 27 (.r 103)])
            (.seq
             (.seq
              (.is [.setR 104 (mkA 5 (.o 5)),
                .setR 105 (.r 1),
                .setR 106 (.r 2),
                .call [] 107 18 [(.r 104), (.r 105), (.r 106)],
                .setR 108 (mkA 5 (.o 5)),
                .setR 109 (.r 1),
                .setR 110 (.r 2),
                .call [] 111 19 [(.r 108), (.r 109), (.r 110)],
                .setR 112 (.ci .neq (.r 107) (.r 111)),
                .setR 113 (.r 112),
                .setR 114 (.r 12),
                .setR 115 (.r 14),
                .setR 116 (.ci .neq (.r 114) (.r 115)),
                .setR 117 (.pick (.r 113) (.con (.bool true)) (.r 116)),
                .setR 118 (.r 117),
                .setR 119 (.r 13),
                .setR 120 (.r 15),
                .setR 121 (.ci .neq (.r 119) (.r 120)),
                .setR 122 (.pick (.r 118) (.con (.bool true)) (.r 121)),
                .setR 123 (.r 122),
                .setR 124 (.r 16),
                .setR 125 (.r 18),
                .call [(123, false)] 126 20 [(.r 124), (.r 125)],
                .setR 127 (.nt (.r 126)),
                .setR 128 (.pick (.r 123) (.con (.bool true)) (.r 127)),
                .setR 129 (.r 128),
                .setR 130 (.r 17),
                .setR 131 (.r 19),
                .setR 132 (.ci .neq (.r 130) (.r 131)),
                .setR 133 (.pick (.r 129) (.con (.bool true)) (.r 132)),
                .setR 134 (.r 133),
                .setR 135 (.r 20),
                .setR 136 (.r 22),
                .call [(134, false)] 137 21 [(.r 135), (.r 136)],
                .setR 138 (.nt (.r 137)),
                .setR 139 (.pick (.r 134) (.con (.bool true)) (.r 138)),
                .setR 140 (.r 139),
                .setR 141 (.r 21),
                .setR 142 (.r 23),
                .setR 143 (.ci .neq (.r 141) (.r 142)),
                .setR 144 (.pick (.r 140) (.con (.bool true)) (.r 143)),
                .setR 145 (.r 144),
                .setR 146 (.r 24),
                .setR 147 (.r 26),
                .setR 148 (.ci .neq (.r 146) (.r 147)),
                .setR 149 (.pick (.r 145) (.con (.bool true)) (.r 148)),
                .setR 150 (.r 149),
                .setR 151 (.r 25),
                .setR 152 (.r 27),
                .setR 153 (.ci .neq (.r 151) (.r 152)),
                .setR 154 (.pick (.r 150) (.con (.bool true)) (.r 153))])
              (.ite (.r 154) [10] []
               (.seq
                (.is [.setR 10 (.con (.bool false))])
                (.ret (.r 10)))
               .skip))
             (.seq
              (.seq
               (.is [.setR 28 (.con (.int 0))])
               lp3_0)
              (.seq
               (.is [.setR 176 (.r 11),
                 .setR 10 (.r 176)])
               (.ret (.r 10))))))))))))))))
def tr3 : PT :=
 (.call ⟨[(10, (.con (.bool false))), (5, (.con .none))], [(5, (.mk [(.r 0)]))]⟩ [] 29 8 []
 (.call ⟨[(30, (.r 1)), (11, (.r 29))], []⟩ [] 31 9 [(.r 30)]
 (.call ⟨[(34, (.r 4)), (33, (.nt (.r 31))), (32, (.nt (.r 31)))], []⟩ [(33, false)] 35 9 [(.r 34)]
 (.ite (.pick (.pick (.r 33) (.con (.bool true)) (.nt (.r 35))) (.con (.bool true)) (.ci .gtr (.llen (.r 3)) (.con (.int 60))))
  (.ret (.r 11))
  (.call ⟨[(47, (.r 2)), (46, (.r 1)), (45, (mkA 5 (.o 5))), (10, (.r 10)), (42, (.pick (.pick (.r 33) (.con (.bool true)) (.nt (.r 35))) (.con (.bool true)) (.ci .gtr (.llen (.r 3)) (.con (.int 60))))), (41, (.ci .gtr (.llen (.r 3)) (.con (.int 60)))), (40, (.llen (.r 3))), (39, (.r 3)), (38, (.pick (.r 33) (.con (.bool true)) (.nt (.r 35)))), (37, (.pick (.r 33) (.con (.bool true)) (.nt (.r 35)))), (36, (.nt (.r 35)))], []⟩ [] 48 10 [(.r 45), (.r 46), (.r 47)]
  (.call ⟨[(54, (.r 2)), (53, (.r 1)), (52, (mkA 5 (.o 5))), (13, (.tget (.r 48) 1)), (12, (.tget (.r 48) 0)), (50, (.tget (.r 48) 1)), (49, (.tget (.r 48) 0)), (44, (.r 48))], []⟩ [] 55 11 [(.r 52), (.r 53), (.r 54)]
  (.call ⟨[(63, (.r 4)), (62, (.r 3)), (61, (.r 2)), (60, (.r 1)), (59, (mkA 5 (.o 5))), (15, (.tget (.r 55) 1)), (14, (.tget (.r 55) 0)), (57, (.tget (.r 55) 1)), (56, (.tget (.r 55) 0)), (51, (.r 55))], []⟩ [] 64 12 [(.r 59), (.r 60), (.r 61), (.r 62), (.r 63)]
  (.call ⟨[(72, (.r 4)), (71, (.r 3)), (70, (.r 2)), (69, (.r 1)), (68, (mkA 5 (.o 5))), (17, (.tget (.r 64) 1)), (16, (.tget (.r 64) 0)), (66, (.tget (.r 64) 1)), (65, (.tget (.r 64) 0)), (58, (.r 64))], []⟩ [] 73 13 [(.r 68), (.r 69), (.r 70), (.r 71), (.r 72)]
  (.call ⟨[(79, (.r 2)), (78, (.r 1)), (77, (mkA 5 (.o 5))), (19, (.tget (.r 73) 1)), (18, (.tget (.r 73) 0)), (75, (.tget (.r 73) 1)), (74, (.tget (.r 73) 0)), (67, (.r 73))], []⟩ [] 80 14 [(.r 77), (.r 78), (.r 79)]
  (.call ⟨[(86, (.r 2)), (85, (.r 1)), (84, (mkA 5 (.o 5))), (21, (.tget (.r 80) 1)), (20, (.tget (.r 80) 0)), (82, (.tget (.r 80) 1)), (81, (.tget (.r 80) 0)), (76, (.r 80))], []⟩ [] 87 15 [(.r 84), (.r 85), (.r 86)]
  (.call ⟨[(93, (.r 2)), (92, (.r 1)), (91, (mkA 5 (.o 5))), (23, (.tget (.r 87) 1)), (22, (.tget (.r 87) 0)), (89, (.tget (.r 87) 1)), (88, (.tget (.r 87) 0)), (83, (.r 87))], []⟩ [] 94 16 [(.r 91), (.r 92), (.r 93)]
  (.call ⟨[(100, (.r 2)), (99, (.r 1)), (98, (mkA 5 (.o 5))), (25, (.tget (.r 94) 1)), (24, (.tget (.r 94) 0)), (96, (.tget (.r 94) 1)), (95, (.tget (.r 94) 0)), (90, (.r 94))], []⟩ [] 101 17 [(.r 98), (.r 99), (.r 100)]
  (.call ⟨[(106, (.r 2)), (105, (.r 1)), (104, (mkA 5 (.o 5))), (27, (.tget (.r 101) 1)), (26, (.tget (.r 101) 0)), (103, (.tget (.r 101) 1)), (102, (.tget (.r 101) 0)), (97, (.r 101))], []⟩ [] 107 18 [(.r 104), (.r 105), (.r 106)]
  (.call ⟨[(110, (.r 2)), (109, (.r 1)), (108, (mkA 5 (.o 5)))], []⟩ [] 111 19 [(.r 108), (.r 109), (.r 110)]
  (.call ⟨[(125, (.r 18)), (124, (.r 16)), (123, (.pick (.pick (.ci .neq (.r 107) (.r 111)) (.con (.bool true)) (.ci .neq (.r 12) (.r 14))) (.con (.bool true)) (.ci .neq (.r 13) (.r 15)))), (122, (.pick (.pick (.ci .neq (.r 107) (.r 111)) (.con (.bool true)) (.ci .neq (.r 12) (.r 14))) (.con (.bool true)) (.ci .neq (.r 13) (.r 15)))), (121, (.ci .neq (.r 13) (.r 15))), (120, (.r 15)), (119, (.r 13)), (118, (.pick (.ci .neq (.r 107) (.r 111)) (.con (.bool true)) (.ci .neq (.r 12) (.r 14)))), (117, (.pick (.ci .neq (.r 107) (.r 111)) (.con (.bool true)) (.ci .neq (.r 12) (.r 14)))), (116, (.ci .neq (.r 12) (.r 14))), (115, (.r 14)), (114, (.r 12)), (113, (.ci .neq (.r 107) (.r 111))), (112, (.ci .neq (.r 107) (.r 111)))], []⟩ [(123, false)] 126 20 [(.r 124), (.r 125)]
  (.call ⟨[(136, (.r 22)), (135, (.r 20)), (134, (.pick (.pick (.r 123) (.con (.bool true)) (.nt (.r 126))) (.con (.bool true)) (.ci .neq (.r 17) (.r 19)))), (133, (.pick (.pick (.r 123) (.con (.bool true)) (.nt (.r 126))) (.con (.bool true)) (.ci .neq (.r 17) (.r 19)))), (132, (.ci .neq (.r 17) (.r 19))), (131, (.r 19)), (130, (.r 17)), (129, (.pick (.r 123) (.con (.bool true)) (.nt (.r 126)))), (128, (.pick (.r 123) (.con (.bool true)) (.nt (.r 126)))), (127, (.nt (.r 126)))], []⟩ [(134, false)] 137 21 [(.r 135), (.r 136)]
  (.ite (.pick (.pick (.pick (.pick (.r 134) (.con (.bool true)) (.nt (.r 137))) (.con (.bool true)) (.ci .neq (.r 21) (.r 23))) (.con (.bool true)) (.ci .neq (.r 24) (.r 26))) (.con (.bool true)) (.ci .neq (.r 25) (.r 27)))
   (.ret (.con (.bool false)))
   (.brk ⟨[(28, (.con (.int 0))), (10, (.r 10)), (154, (.pick (.pick (.pick (.pick (.r 134) (.con (.bool true)) (.nt (.r 137))) (.con (.bool true)) (.ci .neq (.r 21) (.r 23))) (.con (.bool true)) (.ci .neq (.r 24) (.r 26))) (.con (.bool true)) (.ci .neq (.r 25) (.r 27)))), (153, (.ci .neq (.r 25) (.r 27))), (152, (.r 27)), (151, (.r 25)), (150, (.pick (.pick (.pick (.r 134) (.con (.bool true)) (.nt (.r 137))) (.con (.bool true)) (.ci .neq (.r 21) (.r 23))) (.con (.bool true)) (.ci .neq (.r 24) (.r 26)))), (149, (.pick (.pick (.pick (.r 134) (.con (.bool true)) (.nt (.r 137))) (.con (.bool true)) (.ci .neq (.r 21) (.r 23))) (.con (.bool true)) (.ci .neq (.r 24) (.r 26)))), (148, (.ci .neq (.r 24) (.r 26))), (147, (.r 26)), (146, (.r 24)), (145, (.pick (.pick (.r 134) (.con (.bool true)) (.nt (.r 137))) (.con (.bool true)) (.ci .neq (.r 21) (.r 23)))), (144, (.pick (.pick (.r 134) (.con (.bool true)) (.nt (.r 137))) (.con (.bool true)) (.ci .neq (.r 21) (.r 23)))), (143, (.ci .neq (.r 21) (.r 23))), (142, (.r 23)), (141, (.r 21)), (140, (.pick (.r 134) (.con (.bool true)) (.nt (.r 137)))), (139, (.pick (.r 134) (.con (.bool true)) (.nt (.r 137)))), (138, (.nt (.r 137)))], []⟩
    lp3_0
   (.ret (.r 11))))))))))))))))))))
theorem tr3_eq : tree pc3 = tr3 := by kernel_rfl
/-! allonge/allongelaw41.sane -/
def pc8 : PC :=
 (.seq
  (.is [.setR 0 (.con (.bool false))])
  (.seq
   (.is [.call [] 13 25 [],
     .setO 1 (.con (.agg [(.int 0), (.int 0), (.int 0), (.int 0), (.int 0)])),
     .setR 1 (.con .none),
     .setO 1 (.setc (.o 1) 0 (.r 13))])
   (.seq
    (.is [.call [] 14 26 [],
      .setR 2 (.r 14)])
    (.seq
     (.is [.setR 16 (mkA 5 (.o 1)),
       .setR 17 (.r 2),
       .call [] 18 10 [(.r 16), (.r 17), (.con (.int 0))],
       .setR 15 (.r 18),
       .setR 19 (.tget (.r 15) 0),
       .setR 20 (.tget (.r 15) 1),
       .setR 3 (.r 19),
       .setR 4 (.r 20)])
     (.seq
      (.is [.setR 22 (mkA 5 (.o 1)),
        .setR 23 (.r 2),
        .call [] 24 14 [(.r 22), (.r 23), (.con (.int 0))],
        .setR 21 (.r 24),
        .setR 25 (.tget (.r 21) 0),
        .setR 26 (.tget (.r 21) 1),
        .setR 5 (.r 25),
        .setR 6 (.r 26)])
      (.seq
       (.is [.setR 28 (mkA 5 (.o 1)),
         .setR 29 (.r 2),
         .setO 30 (.lst [(.con (.int 1))]),
         .setR 30 (.con .none),
         .setR 31 (.mk [(.con (.int 32)), (.con (.int 10)), (.con (.int 2))]),
         .setO 32 (.lst [(.r 31)]),
         .setR 32 (.con .none),
         .call [] 33 12 [(.r 28), (.r 29), (.con (.int 0)), (.o 30), (.o 32)],
         .setR 27 (.r 33),
         .setR 34 (.tget (.r 27) 0),
         .setR 35 (.tget (.r 27) 1),
         .setR 7 (.r 34),
         .setR 8 (.r 35)])
       (.seq
        (.is [.setR 37 (mkA 5 (.o 1)),
          .setR 38 (.r 2),
          .setO 39 (.lst [(.con (.int 1))]),
          .setR 39 (.con .none),
          .setR 40 (.mk [(.con (.int 30)), (.con (.int 10)), (.con (.int 2))]),
          .setO 41 (.lst [(.r 40)]),
          .setR 41 (.con .none),
          .call [] 42 12 [(.r 37), (.r 38), (.con (.int 0)), (.o 39), (.o 41)],
          .setR 36 (.r 42),
          .setR 43 (.tget (.r 36) 0),
          .setR 44 (.tget (.r 36) 1),
          .setR 9 (.r 43),
          .setR 10 (.r 44)])
        (.seq
         (.is [.setR 46 (mkA 5 (.o 1)),
           .setR 47 (.r 2),
           .call [] 48 16 [(.r 46), (.r 47), (.con (.int 0))],
           .setR 45 (.r 48),
           .setR 49 (.tget (.r 45) 0),
           .setR 50 (.tget (.r 45) 1),
           .setR 11 (.r 49),
           .setR 12 (.r 50)])
         (.seq
          (.seq
           (.is [.setR 51 (mkA 5 (.o 1)),
             .setR 52 (.r 2),
             .call [] 53 18 [(.r 51), (.r 52), (.con (.int 0))],
             .setR 54 (.ci .neq (.r 53) (.con (.int 0))),
             .setR 55 (.r 54),
             .setR 56 (mkA 5 (.o 1)),
             .setR 57 (.r 2),
             .call [(55, false)] 58 18 [(.r 56), (.r 57), (.con (.int (-1)))],
             .setR 59 (.ci .neq (.r 58) (.con (.int 1))),
             .setR 60 (.pick (.r 55) (.con (.bool true)) (.r 59)),
             .setR 61 (.r 60),
             .setR 62 (.r 4),
             .setR 63 (.ci .neq (.r 62) (.con (.int 0))),
             .setR 64 (.pick (.r 61) (.con (.bool true)) (.r 63)),
             .setR 65 (.r 64),
             .setR 66 (.r 6),
             .setR 67 (.ci .neq (.r 66) (.con (.int 0))),
             .setR 68 (.pick (.r 65) (.con (.bool true)) (.r 67)),
             .setR 69 (.r 68),
             .setR 70 (.r 8),
             .setR 71 (.ci .neq (.r 70) (.con (.int 0))),
             .setR 72 (.pick (.r 69) (.con (.bool true)) (.r 71)),
             .setR 73 (.r 72),
             .setR 74 (.r 10),
             .setR 75 (.ci .neq (.r 74) (.con (.int 7))),
             .setR 76 (.pick (.r 73) (.con (.bool true)) (.r 75)),
             .setR 77 (.r 76),
             .setR 78 (.r 12),
             .setR 79 (.ci .neq (.r 78) (.con (.int 0))),
             .setR 80 (.pick (.r 77) (.con (.bool true)) (.r 79)),
             .setR 81 (.r 80),
             .setR 82 (.r 7),
             .setR 83 (.llen (.r 82)),
             .setR 84 (.ci .neq (.r 83) (.con (.int 4))),
             .setR 85 (.pick (.r 81) (.con (.bool true)) (.r 84))])
           (.ite (.r 85) [0] []
            (.seq
             (.is [.setR 0 (.con (.bool false))])
             (.ret (.r 0)))
            .skip))
          (.seq
           (.is [.setR 86 (.r 3),
             .setR 87 (.ci .eql (.r 86) (.con (.int 117))),
             .setR 88 (.r 87),
             .setR 89 (mkA 5 (.o 1)),
             .setR 90 (.r 2),
             .chk (.imp [(88, true)] (.idx (.r 90) (.con (.int 1)))),
             .setR 91 (.ref (.nth (.r 90) (.con (.int 1)))),
             .setR 92 (.deref (.r 91)),
             .call [(88, true)] 93 22 [(.r 89), (.r 92), (.con (.int 0))],
             .setR 94 (.ci .eql (.r 93) (.con (.int 45))),
             .setR 95 (.pick (.r 88) (.r 94) (.con (.bool false))),
             .setR 96 (.r 95),
             .setR 97 (.r 5),
             .setR 98 (.lst [(.con (.int 2)), (.con (.int 3))]),
             .call [(96, true)] 99 21 [(.r 97), (.r 98)],
             .setR 100 (.pick (.r 96) (.r 99) (.con (.bool false))),
             .setR 101 (.r 100),
             .setR 102 (.r 7),
             .chk (.imp [(101, true)] (.idx (.r 102) (.con (.int 3)))),
             .setR 103 (.ref (.nth (.r 102) (.con (.int 3)))),
             .setR 104 (.ref (.cell (.deref (.r 103)) 0)),
             .setR 105 (.deref (.r 104)),
             .setR 106 (.ci .eql (.r 105) (.con (.int 32))),
             .setR 107 (.pick (.r 101) (.r 106) (.con (.bool false))),
             .setR 108 (.r 107),
             .setR 109 (.r 11),
             .setR 110 (.ci .eql (.r 109) (.con (.int 92))),
             .setR 111 (.pick (.r 108) (.r 110) (.con (.bool false))),
             .setR 0 (.r 111)])
           (.ret (.r 0))))))))))))
/-! allonge/allongelaw41.terms -/
def pc25 : PC :=
 (.seq
  (.is [.setO 0 (.con (.agg [(.int 0), (.int 0), (.int 0), (.int 0), (.int 0)])),
    .setR 0 (.con .none)])
  (.seq
   (.is [.setR 1 (.mk [(.con (.int 100)), (.con (.int 100)), (.con (.int 90)), (.con (.int 2)), (.con (.int 10))]),
     .setO 0 (.setc (.o 0) 0 (.r 1))])
   (.ret (mkA 5 (.o 0)))))
/-! allonge/allongelaw41.pledges -/
def pc26 : PC :=
 (.seq
  (.is [.setR 0 (.con (.list []))])
  (.seq
   (.is [.setR 1 (.mk [(.con (.int 80)), (.con (.int 30)), (.con (.int 2))]),
     .setR 2 (.mk [(.con (.int 50)), (.con (.int 60)), (.con (.int 3))]),
     .setR 3 (.mk [(.con (.int 200)), (.con (.int 91)), (.con (.int 2))]),
     .setR 4 (.mk [(.con (.int 70)), (.con (.int 20)), (.con (.int 1))]),
     .setO 5 (.lst [(.r 1), (.r 2), (.r 3), (.r 4)]),
     .setR 5 (.con .none),
     .setR 0 (.o 5)])
   (.ret (.r 0))))
/-! allonge/pool.Cover -/
def pc10 : PC :=
 (.seq
  (.is [.setO 3 (.mk [(.r 0)]),
    .setR 3 (.con .none),
    .setR 6 (.con (.int 0)),
    .setR 7 (.con (.int 0))])
  (.seq
   (.seq
    (.is [.setR 9 (mkA 5 (.o 3)),
      .setR 10 (.r 1),
      .setR 11 (.r 2),
      .call [] 12 18 [(.r 9), (.r 10), (.r 11)],
      .setR 8 (.r 12)])
    (.seq
     (.is [.setR 13 (.r 8),
       .setR 14 (.ci .neq (.r 13) (.con (.int 0)))])
     (.ite (.r 14) [6, 7] []
      (.seq
       (.is [.setR 15 (.r 8),
         .setR 6 (.con (.int 0)),
         .setR 7 (.r 15)])
       (.ret (.tup [(.r 6), (.r 7)])))
      .skip)))
   (.seq
    (.is [.setR 16 (mkA 5 (.o 3)),
      .setR 17 (.r 1),
      .setR 18 (.r 2),
      .call [] 19 27 [(.r 16), (.r 17), (.r 18)],
      .setR 6 (.r 19),
      .setR 7 (.con (.int 0))])
    (.ret (.tup [(.r 6), (.r 7)])))))
def tr10 : PT :=
 (.call ⟨[(11, (.r 2)), (10, (.r 1)), (9, (mkA 5 (.mk [(.r 0)]))), (7, (.con (.int 0))), (6, (.con (.int 0))), (3, (.con .none))], [(3, (.mk [(.r 0)]))]⟩ [] 12 18 [(.r 9), (.r 10), (.r 11)]
 (.ite (.ci .neq (.r 12) (.con (.int 0)))
  (.ret (.tup [(.con (.int 0)), (.r 12)]))
  (.call ⟨[(18, (.r 2)), (17, (.r 1)), (16, (mkA 5 (.o 3))), (6, (.r 6)), (7, (.r 7)), (14, (.ci .neq (.r 12) (.con (.int 0)))), (13, (.r 12)), (8, (.r 12))], []⟩ [] 19 27 [(.r 16), (.r 17), (.r 18)]
  (.ret (.tup [(.r 19), (.con (.int 0))])))))
theorem tr10_eq : tree pc10 = tr10 := by kernel_rfl
/-! allonge/pool.Check -/
def pc18 : PC :=
 (.seq
  (.is [.setO 3 (.mk [(.r 0)]),
    .setR 3 (.con .none),
    .setR 6 (.con (.int 0))])
  (.seq
   (.seq
    (.is [.setR 7 (.r 1),
      .setR 8 (.llen (.r 7)),
      .setR 9 (.ci .gtr (.r 8) (.con (.int 50)))])
    (.ite (.r 9) [6] []
     (.seq
      (.is [.setR 6 (.con (.int 6))])
      (.ret (.r 6)))
     .skip))
   (.seq
    (.seq
     (.is [.setR 10 (mkA 5 (.o 3)),
       .call [] 11 33 [(.r 10)],
       .setR 12 (.nt (.r 11)),
       .setR 13 (.r 12),
       .setR 14 (.r 2),
       .call [(13, false)] 15 34 [(.r 14), (.con (.int 100000))],
       .setR 16 (.nt (.r 15)),
       .setR 17 (.pick (.r 13) (.con (.bool true)) (.r 16)),
       .setR 18 (.r 17),
       .setR 19 (.r 1),
       .call [(18, false)] 20 35 [(.r 19), (.con (.clo 36 []))],
       .setR 21 (.pick (.r 18) (.con (.bool true)) (.r 20))])
     (.ite (.r 21) [6] []
      (.seq
       (.is [.setR 6 (.con (.int 1))])
       (.ret (.r 6)))
      .skip))
    (.seq
     (.is [.setR 6 (.con (.int 0))])
     (.ret (.r 6))))))
def tr18 : PT :=
 (.ite (.ci .gtr (.llen (.r 1)) (.con (.int 50)))
  (.ret (.con (.int 6)))
  (.call ⟨[(10, (mkA 5 (.mk [(.r 0)]))), (6, (.con (.int 0))), (9, (.ci .gtr (.llen (.r 1)) (.con (.int 50)))), (8, (.llen (.r 1))), (7, (.r 1)), (6, (.con (.int 0))), (3, (.con .none))], [(3, (.mk [(.r 0)]))]⟩ [] 11 33 [(.r 10)]
  (.call ⟨[(14, (.r 2)), (13, (.nt (.r 11))), (12, (.nt (.r 11)))], []⟩ [(13, false)] 15 34 [(.r 14), (.con (.int 100000))]
  (.call ⟨[(19, (.r 1)), (18, (.pick (.r 13) (.con (.bool true)) (.nt (.r 15)))), (17, (.pick (.r 13) (.con (.bool true)) (.nt (.r 15)))), (16, (.nt (.r 15)))], []⟩ [(18, false)] 20 35 [(.r 19), (.con (.clo 36 []))]
  (.ite (.pick (.r 18) (.con (.bool true)) (.r 20))
   (.ret (.con (.int 1)))
   (.ret (.con (.int 0))))))))
theorem tr18_eq : tree pc18 = tr18 := by kernel_rfl
/-! allonge/pool.terms -/
def pc33 : PC :=
 (.seq
  (.is [.setO 1 (.mk [(.r 0)]),
    .setR 1 (.con .none),
    .setR 2 (.con (.bool false))])
  (.seq
   (.is [.setR 3 (.con .none),
     .setR 4 (.cell (.o 1) 0),
     .call [] 5 34 [(.r 4), (.con (.int 1099511627776))],
     .setR 6 (.r 5),
     .setR 7 (.con .none),
     .setR 8 (.cell (.o 1) 4),
     .call [(6, true)] 9 34 [(.r 8), (.con (.int 1099511627776))],
     .setR 10 (.pick (.r 6) (.r 9) (.con (.bool false))),
     .setR 11 (.r 10),
     .setR 12 (.con .none),
     .setR 13 (.cell (.o 1) 1),
     .call [(11, true)] 14 34 [(.r 13), (.con (.int 1000))],
     .setR 15 (.pick (.r 11) (.r 14) (.con (.bool false))),
     .setR 16 (.r 15),
     .setR 17 (.con .none),
     .setR 18 (.cell (.o 1) 2),
     .call [(16, true)] 19 34 [(.r 18), (.con (.int 20000))],
     .setR 20 (.pick (.r 16) (.r 19) (.con (.bool false))),
     .setR 21 (.r 20),
     .setR 22 (.con .none),
     .setR 23 (.cell (.o 1) 3),
     .call [(21, true)] 24 34 [(.r 23), (.con (.int 40))],
     .setR 25 (.pick (.r 21) (.r 24) (.con (.bool false))),
     .setR 2 (.r 25)])
   (.ret (.r 2))))
def tr33 : PT :=
 (.call ⟨[(4, (.cell (.mk [(.r 0)]) 0)), (3, (.con .none)), (2, (.con (.bool false))), (1, (.con .none))], [(1, (.mk [(.r 0)]))]⟩ [] 5 34 [(.r 4), (.con (.int 1099511627776))]
 (.call ⟨[(8, (.cell (.o 1) 4)), (7, (.con .none)), (6, (.r 5))], []⟩ [(6, true)] 9 34 [(.r 8), (.con (.int 1099511627776))]
 (.call ⟨[(13, (.cell (.o 1) 1)), (12, (.con .none)), (11, (.pick (.r 6) (.r 9) (.con (.bool false)))), (10, (.pick (.r 6) (.r 9) (.con (.bool false))))], []⟩ [(11, true)] 14 34 [(.r 13), (.con (.int 1000))]
 (.call ⟨[(18, (.cell (.o 1) 2)), (17, (.con .none)), (16, (.pick (.r 11) (.r 14) (.con (.bool false)))), (15, (.pick (.r 11) (.r 14) (.con (.bool false))))], []⟩ [(16, true)] 19 34 [(.r 18), (.con (.int 20000))]
 (.call ⟨[(23, (.cell (.o 1) 3)), (22, (.con .none)), (21, (.pick (.r 16) (.r 19) (.con (.bool false)))), (20, (.pick (.r 16) (.r 19) (.con (.bool false))))], []⟩ [(21, true)] 24 34 [(.r 23), (.con (.int 40))]
 (.ret (.pick (.r 21) (.r 24) (.con (.bool false)))))))))
theorem tr33_eq : tree pc33 = tr33 := by kernel_rfl
/-! allonge/pool.within -/
def pc34 : PC :=
 (.seq
  (.is [.setR 4 (.con (.bool false))])
  (.seq
   (.is [.setR 5 (.r 0),
     .setR 6 (.ci .geq (.r 5) (.con (.int 0))),
     .setR 7 (.r 6),
     .setR 8 (.r 0),
     .setR 9 (.r 1),
     .setR 10 (.ci .leq (.r 8) (.r 9)),
     .setR 11 (.pick (.r 7) (.r 10) (.con (.bool false))),
     .setR 4 (.r 11)])
   (.ret (.r 4))))
def tr34 : PT :=
 (.ret (.pick (.ci .geq (.r 0) (.con (.int 0))) (.ci .leq (.r 0) (.r 1)) (.con (.bool false))))
theorem tr34_eq : tree pc34 = tr34 := by kernel_rfl
/-! slices.ContainsFunc[[]allonge/api.Pledge,allonge/api.Pledge] -/
def pc35 : PC :=
 (.seq
  (.is [.setR 4 (.con (.bool false))])
  (.seq
   (.is [.setR 5 (.r 0),
     .setR 6 (.r 1),
     .call [] 7 44 [(.r 5), (.r 6)],
     .setR 8 (.ci .geq (.r 7) (.con (.int 0))),
     .setR 4 (.r 8)])
   (.ret (.r 4))))
def tr35 : PT :=
 (.call ⟨[(6, (.r 1)), (5, (.r 0)), (4, (.con (.bool false)))], []⟩ [] 7 44 [(.r 5), (.r 6)]
 (.ret (.ci .geq (.r 7) (.con (.int 0)))))
theorem tr35_eq : tree pc35 = tr35 := by kernel_rfl
/-! slices.IndexFunc[[]allonge/api.Pledge,allonge/api.Pledge] -/
def bd44_0 : PC :=
 (.seq
  (.is [.setR 9 (.ci .lss (.r 8) (.r 7))])
  (.seq
   (.ite (.r 9) [] []
    .skip
    (.exit 0))
   (.seq
    (.block 1 [4, 5, 10, 11, 12, 13, 14, 15, 16] []
     (.seq
      (.is [.setR 10 (.r 8),
        .setR 5 (.r 10)])
      (.seq
       (.is [.setR 11 (.r 1),
         .setR 12 (.r 0),
         .setR 13 (.r 5),
         .chk (.idx (.r 12) (.r 13)),
         .setR 14 (.ref (.nth (.r 12) (.r 13))),
         .setR 15 (.deref (.r 14)),
         .callc [] 16 (.r 11) [(.r 15)]])
       (.ite (.r 16) [4] []
        (.seq
         (.is [.setR 17 (.r 5),
           .setR 4 (.r 17)])
         (.ret (.r 4)))
        .skip))))
    (.is [.setR 18 (.ai .add .i64 (.r 8) (.con (.int 1))),
      .setR 8 (.r 18)]))))
def lp44_0 : PC := .block 0 [4, 8, 9] [] (.loop [4, 8] [] bd44_0)
def rd44_0 : PT :=
 (.ite (.ci .lss (.r 8) (.r 7))
  (.blockS ⟨[(9, (.ci .lss (.r 8) (.r 7)))], []⟩ 1 [4, 5, 10, 11, 12, 13, 14, 15, 16] []
   (.chk (.idx (.r 0) (.r 8))
   (.callc ⟨[(15, (.nth (.r 0) (.r 8))), (14, (.ref (.nth (.r 0) (.r 8)))), (13, (.r 8)), (12, (.r 0)), (11, (.r 1)), (5, (.r 8)), (10, (.r 8))], []⟩ [] 16 (.r 11) [(.r 15)]
   (.ite (.r 16)
    (.ret (.r 5))
    (.next ⟨[(4, (.r 4))], []⟩))))
  (.next ⟨[(4, (.r 4)), (8, (.ai .add .i64 (.r 8) (.con (.int 1))))], []⟩))
  (.exit 0 ⟨[(4, (.r 4)), (8, (.r 8)), (9, (.ci .lss (.r 8) (.r 7)))], []⟩))
theorem rd44_0_eq : round 0 [4, 8, 9] [] [4, 8] [] bd44_0 = rd44_0 := by kernel_rfl
def pc44 : PC :=
 (.seq
  (.is [.setR 4 (.con (.int 0))])
  (.seq
   (.seq
    (.is [.setR 6 (.r 0),
      .setR 7 (.llen (.r 6)),
      .setR 8 (.con (.int 0))])
    lp44_0)
   (.seq
    (.is [.setR 4 (.con (.int (-1)))])
    (.ret (.r 4)))))
def tr44 : PT :=
 (.brk ⟨[(8, (.con (.int 0))), (7, (.llen (.r 0))), (6, (.r 0)), (4, (.con (.int 0)))], []⟩
  lp44_0
 (.ret (.con (.int (-1)))))
theorem tr44_eq : tree pc44 = tr44 := by kernel_rfl
/-! allonge/pool.Check$1 -/
def pc36 : PC :=
 (.seq
  (.is [.setO 1 (.mk [(.r 0)]),
    .setR 1 (.con .none),
    .setR 2 (.con (.bool false))])
  (.seq
   (.is [.setR 3 (.mk [(.cell (.o 1) 0), (.cell (.o 1) 1), (.cell (.o 1) 2)]),
     .call [] 4 37 [(.r 3)],
     .setR 5 (.nt (.r 4)),
     .setR 2 (.r 5)])
   (.ret (.r 2))))
def tr36 : PT :=
 (.call ⟨[(3, (.mk [(.cell (.mk [(.r 0)]) 0), (.cell (.mk [(.r 0)]) 1), (.cell (.mk [(.r 0)]) 2)])), (2, (.con (.bool false))), (1, (.con .none))], [(1, (.mk [(.r 0)]))]⟩ [] 4 37 [(.r 3)]
 (.ret (.nt (.r 4))))
theorem tr36_eq : tree pc36 = tr36 := by kernel_rfl
/-! allonge/pool.pledge -/
def pc37 : PC :=
 (.seq
  (.is [.setO 1 (.mk [(.r 0)]),
    .setR 1 (.con .none),
    .setR 2 (.con (.bool false))])
  (.seq
   (.is [.setR 3 (.con .none),
     .setR 4 (.cell (.o 1) 0),
     .call [] 5 34 [(.r 4), (.con (.int 1099511627776))],
     .setR 6 (.r 5),
     .setR 7 (.con .none),
     .setR 8 (.cell (.o 1) 1),
     .call [(6, true)] 9 34 [(.r 8), (.con (.int 100000))],
     .setR 10 (.pick (.r 6) (.r 9) (.con (.bool false))),
     .setR 11 (.r 10),
     .setR 12 (.con .none),
     .setR 13 (.cell (.o 1) 2),
     .call [(11, true)] 14 34 [(.r 13), (.con (.int 40))],
     .setR 15 (.pick (.r 11) (.r 14) (.con (.bool false))),
     .setR 2 (.r 15)])
   (.ret (.r 2))))
def tr37 : PT :=
 (.call ⟨[(4, (.cell (.mk [(.r 0)]) 0)), (3, (.con .none)), (2, (.con (.bool false))), (1, (.con .none))], [(1, (.mk [(.r 0)]))]⟩ [] 5 34 [(.r 4), (.con (.int 1099511627776))]
 (.call ⟨[(8, (.cell (.o 1) 1)), (7, (.con .none)), (6, (.r 5))], []⟩ [(6, true)] 9 34 [(.r 8), (.con (.int 100000))]
 (.call ⟨[(13, (.cell (.o 1) 2)), (12, (.con .none)), (11, (.pick (.r 6) (.r 9) (.con (.bool false)))), (10, (.pick (.r 6) (.r 9) (.con (.bool false))))], []⟩ [(11, true)] 14 34 [(.r 13), (.con (.int 40))]
 (.ret (.pick (.r 11) (.r 14) (.con (.bool false)))))))
theorem tr37_eq : tree pc37 = tr37 := by kernel_rfl
/-! allonge/pool.cover -/
def bd27_0 : PC :=
 (.seq
  (.is [.setR 13 (.ci .lss (.r 12) (.r 11))])
  (.seq
   (.ite (.r 13) [] []
    .skip
    (.exit 0))
   (.seq
    (.block 1 [7, 9, 14, 15, 16, 17, 18, 19, 20, 21] [9]
     (.seq
      (.is [.chk (.idx (.r 10) (.r 12)),
        .setR 14 (.ref (.nth (.r 10) (.r 12))),
        .setR 15 (.deref (.r 14)),
        .setO 9 (.con (.agg [(.int 0), (.int 0), (.int 0)])),
        .setR 9 (.con .none),
        .setO 9 (.setc (.o 9) 0 (.r 15))])
      (.is [.setR 16 (.r 7),
        .setR 17 (mkA 5 (.o 3)),
        .setR 18 (.mk [(.cell (.o 9) 0), (.cell (.o 9) 1), (.cell (.o 9) 2)]),
        .setR 19 (.r 2),
        .call [] 20 22 [(.r 17), (.r 18), (.r 19)],
        .setR 21 (.ai .add .i64 (.r 16) (.r 20)),
        .setR 7 (.r 21)])))
    (.is [.setR 22 (.ai .add .i64 (.r 12) (.con (.int 1))),
      .setR 12 (.r 22)]))))
def lp27_0 : PC := .block 0 [7, 12, 13] [] (.loop [7, 12] [] bd27_0)
def rd27_0 : PT :=
 (.ite (.ci .lss (.r 12) (.r 11))
  (.blockS ⟨[(13, (.ci .lss (.r 12) (.r 11)))], []⟩ 1 [7, 9, 14, 15, 16, 17, 18, 19, 20, 21] [9]
   (.chk (.idx (.r 10) (.r 12))
   (.call ⟨[(19, (.r 2)), (18, (.mk [(.cell (.setc (.con (.agg [(.int 0), (.int 0), (.int 0)])) 0 (.nth (.r 10) (.r 12))) 0), (.cell (.setc (.con (.agg [(.int 0), (.int 0), (.int 0)])) 0 (.nth (.r 10) (.r 12))) 1), (.cell (.setc (.con (.agg [(.int 0), (.int 0), (.int 0)])) 0 (.nth (.r 10) (.r 12))) 2)])), (17, (mkA 5 (.o 3))), (16, (.r 7)), (9, (.con .none)), (15, (.nth (.r 10) (.r 12))), (14, (.ref (.nth (.r 10) (.r 12))))], [(9, (.setc (.con (.agg [(.int 0), (.int 0), (.int 0)])) 0 (.nth (.r 10) (.r 12)))), (9, (.con (.agg [(.int 0), (.int 0), (.int 0)])))]⟩ [] 20 22 [(.r 17), (.r 18), (.r 19)]
   (.next ⟨[(7, (.ai .add .i64 (.r 16) (.r 20))), (21, (.ai .add .i64 (.r 16) (.r 20)))], []⟩)))
  (.next ⟨[(7, (.r 7)), (12, (.ai .add .i64 (.r 12) (.con (.int 1))))], []⟩))
  (.exit 0 ⟨[(7, (.r 7)), (12, (.r 12)), (13, (.ci .lss (.r 12) (.r 11)))], []⟩))
theorem rd27_0_eq : round 0 [7, 12, 13] [] [7, 12] [] bd27_0 = rd27_0 := by kernel_rfl
def pc27 : PC :=
 (.seq
  (.is [.setO 3 (.mk [(.r 0)]),
    .setR 3 (.con .none),
    .setR 6 (.con (.int 0))])
  (.seq
   (.is [.setR 7 (.con (.int 0))])
   (.seq
    (.seq
     (.is [.setR 10 (.r 1),
       .setR 11 (.llen (.r 10)),
       .setR 12 (.con (.int 0))])
     lp27_0)
    (.seq
     (.is [.setR 23 (.r 7),
       .setR 6 (.r 23)])
     (.ret (.r 6))))))
def tr27 : PT :=
 (.brk ⟨[(12, (.con (.int 0))), (11, (.llen (.r 1))), (10, (.r 1)), (7, (.con (.int 0))), (6, (.con (.int 0))), (3, (.con .none))], [(3, (.mk [(.r 0)]))]⟩
  lp27_0
 (.ret (.r 7)))
theorem tr27_eq : tree pc27 = tr27 := by kernel_rfl
/-! allonge/pool.Value -/
def pc22 : PC :=
 (.seq
  (.is [.setO 3 (.mk [(.r 0)]),
    .setR 3 (.con .none),
    .setO 4 (.mk [(.r 1)]),
    .setR 4 (.con .none),
    .setR 6 (.con (.int 0))])
  (.seq
   (.seq
    (.is [.setR 7 (mkA 5 (.o 3)),
      .setR 8 (.mk [(.cell (.o 4) 0), (.cell (.o 4) 1), (.cell (.o 4) 2)]),
      .setO 9 (.lst [(.r 8)]),
      .setR 9 (.con .none),
      .setR 10 (.r 2),
      .call [] 11 18 [(.r 7), (.o 9), (.r 10)],
      .setR 12 (.ci .neq (.r 11) (.con (.int 0))),
      .setR 13 (.r 12),
      .setR 14 (.con .none),
      .setR 15 (.cell (.o 4) 0),
      .setR 16 (.con .none),
      .setR 17 (.cell (.o 3) 4),
      .setR 18 (.ci .lss (.r 15) (.r 17)),
      .setR 19 (.pick (.r 13) (.con (.bool true)) (.r 18)),
      .setR 20 (.r 19),
      .setR 21 (.con .none),
      .setR 22 (.cell (.o 4) 2),
      .setR 23 (.con .none),
      .setR 24 (.cell (.o 3) 3),
      .setR 25 (.ci .lss (.r 22) (.r 24)),
      .setR 26 (.pick (.r 20) (.con (.bool true)) (.r 25)),
      .setR 27 (.r 26),
      .setR 28 (.con .none),
      .setR 29 (.cell (.o 4) 1),
      .setR 30 (.r 2),
      .setR 31 (.ci .lss (.r 29) (.r 30)),
      .setR 32 (.pick (.r 27) (.con (.bool true)) (.r 31)),
      .setR 33 (.r 32),
      .setR 34 (.con .none),
      .setR 35 (.cell (.o 4) 1),
      .setR 36 (.r 2),
      .setR 37 (.con .none),
      .setR 38 (.cell (.o 3) 2),
      .setR 39 (.ai .add .i64 (.r 36) (.r 38)),
      .setR 40 (.ci .gtr (.r 35) (.r 39)),
      .setR 41 (.pick (.r 33) (.con (.bool true)) (.r 40))])
    (.ite (.r 41) [6] []
     (.seq
      (.is [.setR 6 (.con (.int 0))])
      (.ret (.r 6)))
     .skip))
   (.seq
    (.is [.setR 42 (.con .none),
      .setR 43 (.cell (.o 4) 0),
      .setR 44 (.con .none),
      .setR 45 (.cell (.o 3) 1),
      .setR 46 (.ai .sub .i64 (.con (.int 1000)) (.r 45)),
      .setR 47 (.ai .mul .i64 (.r 43) (.r 46)),
      .chk (.ci .neq (.con (.int 1000)) (.con (.int 0))),
      .setR 48 (.ai .quo .i64 (.r 47) (.con (.int 1000))),
      .setR 6 (.r 48)])
    (.ret (.r 6)))))
def tr22 : PT :=
 (.call ⟨[(10, (.r 2)), (9, (.con .none)), (8, (.mk [(.cell (.mk [(.r 1)]) 0), (.cell (.mk [(.r 1)]) 1), (.cell (.mk [(.r 1)]) 2)])), (7, (mkA 5 (.mk [(.r 0)]))), (6, (.con (.int 0))), (4, (.con .none)), (3, (.con .none))], [(9, (.lst [(.mk [(.cell (.mk [(.r 1)]) 0), (.cell (.mk [(.r 1)]) 1), (.cell (.mk [(.r 1)]) 2)])])), (4, (.mk [(.r 1)])), (3, (.mk [(.r 0)]))]⟩ [] 11 18 [(.r 7), (.o 9), (.r 10)]
 (.ite (.pick (.pick (.pick (.pick (.ci .neq (.r 11) (.con (.int 0))) (.con (.bool true)) (.ci .lss (.cell (.o 4) 0) (.cell (.o 3) 4))) (.con (.bool true)) (.ci .lss (.cell (.o 4) 2) (.cell (.o 3) 3))) (.con (.bool true)) (.ci .lss (.cell (.o 4) 1) (.r 2))) (.con (.bool true)) (.ci .gtr (.cell (.o 4) 1) (.ai .add .i64 (.r 2) (.cell (.o 3) 2))))
  (.ret (.con (.int 0)))
  (.chk (.ci .neq (.con (.int 1000)) (.con (.int 0)))
  (.ret (.ai .quo .i64 (.ai .mul .i64 (.cell (.o 4) 0) (.ai .sub .i64 (.con (.int 1000)) (.cell (.o 3) 1))) (.con (.int 1000)))))))
theorem tr22_eq : tree pc22 = tr22 := by kernel_rfl
/-! allonge/pool.Spare -/
def bd14_0 : PC :=
 (.seq
  (.is [.setR 37 (.ci .lss (.r 36) (.r 35))])
  (.seq
   (.ite (.r 37) [] []
    .skip
    (.exit 0))
   (.seq
    (.block 1 [11, 38, 39, 40, 41, 42] [10]
     (.seq
      (.is [.setR 38 (.r 36),
        .setR 11 (.r 38)])
      (.is [.setR 39 (.r 10),
        .setR 40 (.r 11),
        .setR 41 (.r 11),
        .chk (.idx (.o 10) (.r 40)),
        .setR 42 (.r 40),
        .setO 10 (.setn (.o 10) (.r 42) 0 (.r 41))])))
    (.is [.setR 43 (.ai .add .i64 (.r 36) (.con (.int 1))),
      .setR 36 (.r 43)]))))
def lp14_0 : PC := .block 0 [36, 37] [10] (.loop [36] [10] bd14_0)
def rd14_0 : PT :=
 (.ite (.ci .lss (.r 36) (.r 35))
  (.chk (.idx (.o 10) (.r 36))
  (.next ⟨[(36, (.ai .add .i64 (.r 36) (.con (.int 1))))], [(10, (.setn (.o 10) (.r 36) 0 (.r 36)))]⟩))
  (.exit 0 ⟨[(36, (.r 36)), (37, (.ci .lss (.r 36) (.r 35)))], [(10, (.o 10))]⟩))
theorem rd14_0_eq : round 0 [36, 37] [10] [36] [10] bd14_0 = rd14_0 := by kernel_rfl
def bd14_1 : PC :=
 (.seq
  (.is [.setR 50 (.ci .lss (.r 49) (.r 48))])
  (.seq
   (.ite (.r 50) [] []
    .skip
    (.exit 2))
   (.seq
    (.block 3 [9, 12, 14, 51, 52, 53, 54, 55, 56, 57, 58, 59, 60, 61, 62, 63, 65, 66, 67] [12, 66]
     (.seq
      (.is [.chk (.idx (.o 10) (.r 49)),
        .setR 51 (.r 49),
        .setR 52 (.nth (.o 10) (.r 51)),
        .setR 14 (.r 52)])
      (.seq
       (.is [.setR 53 (.r 9),
         .setR 54 (.sub (.o 3) 0 5),
         .setR 55 (.o 4),
         .setR 56 (.r 14),
         .chk (.idx (.r 55) (.r 56)),
         .setR 57 (.ref (.nth (.r 55) (.r 56))),
         .setR 58 (.deref (.r 57)),
         .setR 59 (.o 5),
         .call [] 60 22 [(.r 54), (.r 58), (.r 59)],
         .setR 61 (.ai .sub .i64 (.r 53) (.r 60)),
         .setR 9 (.r 61)])
       (.seq
        (.seq
         (.is [.setR 62 (.r 9),
           .setR 63 (.ci .lss (.r 62) (.con (.int 0)))])
         (.ite (.r 63) [] []
          (.exit 2)
          .skip))
        (.is [.setR 64 (.r 12),
          .setR 65 (.r 14),
          .setO 66 (.lst [(.r 65)]),
          .setR 66 (.con .none),
          .chk (.ci .leq (.llen (.app (.o 12) (.o 66))) (.con (.int 4294967296))),
          .setO 12 (.app (.o 12) (.o 66)),
          .setR 67 (.con .none),
          .setR 12 (.r 67)])))))
    (.is [.setR 68 (.ai .add .i64 (.r 49) (.con (.int 1))),
      .setR 49 (.r 68)]))))
def lp14_1 : PC := .block 2 [9, 12, 49, 50] [12] (.loop [9, 12, 49] [12] bd14_1)
def rd14_1 : PT :=
 (.ite (.ci .lss (.r 49) (.r 48))
  (.blockS ⟨[(50, (.ci .lss (.r 49) (.r 48)))], []⟩ 3 [9, 12, 14, 51, 52, 53, 54, 55, 56, 57, 58, 59, 60, 61, 62, 63, 65, 66, 67] [12, 66]
   (.chk (.idx (.o 10) (.r 49))
   (.chk (.idx (.o 4) (.nth (.o 10) (.r 49)))
   (.call ⟨[(59, (.o 5)), (58, (.nth (.o 4) (.nth (.o 10) (.r 49)))), (57, (.ref (.nth (.o 4) (.nth (.o 10) (.r 49))))), (56, (.nth (.o 10) (.r 49))), (55, (.o 4)), (54, (.sub (.o 3) 0 5)), (53, (.r 9)), (14, (.nth (.o 10) (.r 49))), (52, (.nth (.o 10) (.r 49))), (51, (.r 49))], []⟩ [] 60 22 [(.r 54), (.r 58), (.r 59)]
   (.ite (.ci .lss (.ai .sub .i64 (.r 53) (.r 60)) (.con (.int 0)))
    (.exit 2 ⟨[(63, (.ci .lss (.ai .sub .i64 (.r 53) (.r 60)) (.con (.int 0)))), (62, (.ai .sub .i64 (.r 53) (.r 60))), (9, (.ai .sub .i64 (.r 53) (.r 60))), (61, (.ai .sub .i64 (.r 53) (.r 60)))], []⟩)
    (.chk (.ci .leq (.llen (.app (.o 12) (.lst [(.r 14)]))) (.con (.int 4294967296)))
    (.next ⟨[(12, (.con .none)), (67, (.con .none)), (66, (.con .none)), (65, (.r 14)), (64, (.r 12)), (63, (.ci .lss (.ai .sub .i64 (.r 53) (.r 60)) (.con (.int 0)))), (62, (.ai .sub .i64 (.r 53) (.r 60))), (9, (.ai .sub .i64 (.r 53) (.r 60))), (61, (.ai .sub .i64 (.r 53) (.r 60)))], [(12, (.app (.o 12) (.lst [(.r 14)]))), (66, (.lst [(.r 14)]))]⟩))))))
  (.next ⟨[(9, (.r 9)), (12, (.r 12)), (49, (.ai .add .i64 (.r 49) (.con (.int 1))))], [(12, (.o 12))]⟩))
  (.exit 2 ⟨[(9, (.r 9)), (12, (.r 12)), (49, (.r 49)), (50, (.ci .lss (.r 49) (.r 48)))], [(12, (.o 12))]⟩))
theorem rd14_1_eq : round 2 [9, 12, 49, 50] [12] [9, 12, 49] [12] bd14_1 = rd14_1 := by kernel_rfl
def pc14 : PC :=
 (.seq
  (.is [.setO 3 (.mk [(.r 0)]),
    .setR 3 (.con .none),
    .setO 4 (.mk [(.r 1)]),
    .setR 4 (.con .none),
    .setO 5 (.mk [(.r 2)]),
    .setR 5 (.con .none),
    .setR 6 (.con (.list [])),
    .setR 7 (.con (.int 0))])
  (.seq
   (.seq
    (.is [.setR 15 (mkA 5 (.o 3)),
      .setR 16 (.cell (.o 4) 0),
      .setR 17 (.cell (.o 5) 0),
      .call [] 18 18 [(.r 15), (.r 16), (.r 17)],
      .setR 8 (.r 18)])
    (.seq
     (.is [.setR 19 (.r 8),
       .setR 20 (.ci .neq (.r 19) (.con (.int 0)))])
     (.ite (.r 20) [6, 7] []
      (.seq
       (.is [.setR 21 (.r 8),
         .setR 6 (.con (.list [])),
         .setR 7 (.r 21)])
       (.ret (.tup [(.r 6), (.r 7)])))
      .skip)))
   (.seq
    (.is [.setR 22 (mkA 5 (.o 3)),
      .setR 23 (.cell (.o 4) 0),
      .setR 24 (.cell (.o 5) 0),
      .call [] 25 27 [(.r 22), (.r 23), (.r 24)],
      .setR 26 (.con .none),
      .setR 27 (.cell (.o 3) 0),
      .setR 28 (.ai .sub .i64 (.r 25) (.r 27)),
      .setR 9 (.r 28)])
    (.seq
     (.seq
      (.is [.setR 29 (.r 9),
        .setR 30 (.ci .lss (.r 29) (.con (.int 0)))])
      (.ite (.r 30) [6, 7] []
       (.seq
        (.is [.setR 6 (.con (.list [])),
          .setR 7 (.con (.int 7))])
        (.ret (.tup [(.r 6), (.r 7)])))
       .skip))
     (.seq
      (.is [.setR 31 (.cell (.o 4) 0),
        .setR 32 (.llen (.r 31)),
        .chk (.an (.ci .geq (.r 32) (.con (.int 0))) (.ci .leq (.r 32) (.con (.int 4294967296)))),
        .chk (.ci .eql (.r 32) (.r 32)),
        .setO 33 (.rep (.r 32) (.con (.int 0))),
        .setR 33 (.con .none),
        .setR 10 (.r 33),
        .setO 10 (.o 33)])
      (.seq
       (.seq
        (.is [.setR 34 (.r 10),
          .setR 35 (.llen (.o 10)),
          .setR 36 (.con (.int 0))])
        lp14_0)
       (.seq
        (.is [.setR 44 (.r 10),
          .setO 3 (mkA 5 (.o 3)),
          .setO 4 (.cell (.o 4) 0),
          .setO 5 (.cell (.o 5) 0),
          .setR 45 (.clo 31 [(.ref (.o 3)), (.ref (.o 4)), (.ref (.o 5))]),
          .mcall 1000000013 30 [(.con .none), (.r 45), (.o 10)],
          .setO 10 (.tget (.o 1000000013) 1),
          .setR 46 (.tget (.o 1000000013) 0)])
        (.seq
         (.is [.setO 12 (.con (.list [])),
           .setR 12 (.con .none)])
         (.seq
          (.seq
           (.is [.setR 47 (.r 10),
             .setR 48 (.llen (.o 10)),
             .setR 49 (.con (.int 0))])
           lp14_1)
          (.seq
           (.is [.setR 69 (.r 12),
             .mcall 1000000013 32 [(.con .none), (.o 12)],
             .setO 12 (.tget (.o 1000000013) 1),
             .setR 70 (.tget (.o 1000000013) 0)])
           (.seq
            (.is [.setR 71 (.r 12),
              .setR 6 (.o 12),
              .setR 7 (.con (.int 0))])
            (.ret (.tup [(.r 6), (.r 7)])))))))))))))
def tr14 : PT :=
 (.call ⟨[(17, (.cell (.mk [(.r 2)]) 0)), (16, (.cell (.mk [(.r 1)]) 0)), (15, (mkA 5 (.mk [(.r 0)]))), (7, (.con (.int 0))), (6, (.con (.list []))), (5, (.con .none)), (4, (.con .none)), (3, (.con .none))], [(5, (.mk [(.r 2)])), (4, (.mk [(.r 1)])), (3, (.mk [(.r 0)]))]⟩ [] 18 18 [(.r 15), (.r 16), (.r 17)]
 (.ite (.ci .neq (.r 18) (.con (.int 0)))
  (.ret (.tup [(.con (.list [])), (.r 18)]))
  (.call ⟨[(24, (.cell (.o 5) 0)), (23, (.cell (.o 4) 0)), (22, (mkA 5 (.o 3))), (6, (.r 6)), (7, (.r 7)), (20, (.ci .neq (.r 18) (.con (.int 0)))), (19, (.r 18)), (8, (.r 18))], []⟩ [] 25 27 [(.r 22), (.r 23), (.r 24)]
  (.ite (.ci .lss (.ai .sub .i64 (.r 25) (.cell (.o 3) 0)) (.con (.int 0)))
   (.ret (.tup [(.con (.list [])), (.con (.int 7))]))
   (.chk (.an (.ci .geq (.llen (.cell (.o 4) 0)) (.con (.int 0))) (.ci .leq (.llen (.cell (.o 4) 0)) (.con (.int 4294967296))))
   (.chk (.ci .eql (.llen (.cell (.o 4) 0)) (.llen (.cell (.o 4) 0)))
   (.brk ⟨[(36, (.con (.int 0))), (35, (.llen (.rep (.llen (.cell (.o 4) 0)) (.con (.int 0))))), (34, (.con .none)), (10, (.con .none)), (33, (.con .none)), (32, (.llen (.cell (.o 4) 0))), (31, (.cell (.o 4) 0)), (6, (.r 6)), (7, (.r 7)), (30, (.ci .lss (.ai .sub .i64 (.r 25) (.cell (.o 3) 0)) (.con (.int 0)))), (29, (.ai .sub .i64 (.r 25) (.cell (.o 3) 0))), (9, (.ai .sub .i64 (.r 25) (.cell (.o 3) 0))), (28, (.ai .sub .i64 (.r 25) (.cell (.o 3) 0))), (27, (.cell (.o 3) 0)), (26, (.con .none))], [(10, (.rep (.llen (.cell (.o 4) 0)) (.con (.int 0)))), (33, (.rep (.llen (.cell (.o 4) 0)) (.con (.int 0))))]⟩
    lp14_0
   (.mcall ⟨[(45, (.clo 31 [(.ref (mkA 5 (.o 3))), (.ref (.cell (.o 4) 0)), (.ref (.cell (.o 5) 0))])), (44, (.r 10))], [(5, (.cell (.o 5) 0)), (4, (.cell (.o 4) 0)), (3, (mkA 5 (.o 3)))]⟩ 1000000013 30 [(.con .none), (.r 45), (.o 10)]
   (.brk ⟨[(49, (.con (.int 0))), (48, (.llen (.tget (.o 1000000013) 1))), (47, (.r 10)), (12, (.con .none)), (46, (.tget (.o 1000000013) 0))], [(12, (.con (.list []))), (10, (.tget (.o 1000000013) 1))]⟩
    lp14_1
   (.mcall ⟨[(69, (.r 12))], []⟩ 1000000013 32 [(.con .none), (.o 12)]
   (.ret (.tup [(.tget (.o 1000000013) 1), (.con (.int 0))]))))))))))))
theorem tr14_eq : tree pc14 = tr14 := by kernel_rfl
/-! allonge/pool.Spare$1 -/
def pc31 : PC :=
 (.seq
  (.is [.setR 7 (.con (.int 0))])
  (.seq
   (.is [.setR 8 (.deref (.r 2)),
     .setR 9 (.deref (.r 3)),
     .setR 10 (.r 0),
     .chk (.idx (.r 9) (.r 10)),
     .setR 11 (.ref (.nth (.r 9) (.r 10))),
     .setR 12 (.deref (.r 11)),
     .setR 13 (.deref (.r 4)),
     .call [] 14 22 [(.r 8), (.r 12), (.r 13)],
     .setR 15 (.deref (.r 2)),
     .setR 16 (.deref (.r 3)),
     .setR 17 (.r 1),
     .chk (.idx (.r 16) (.r 17)),
     .setR 18 (.ref (.nth (.r 16) (.r 17))),
     .setR 19 (.deref (.r 18)),
     .setR 20 (.deref (.r 4)),
     .call [] 21 22 [(.r 15), (.r 19), (.r 20)],
     .setR 22 (.ai .sub .i64 (.r 14) (.r 21)),
     .setR 7 (.r 22)])
   (.ret (.r 7))))
def tr31 : PT :=
 (.chk (.idx (.deref (.r 3)) (.r 0))
 (.call ⟨[(13, (.deref (.r 4))), (12, (.nth (.deref (.r 3)) (.r 0))), (11, (.ref (.nth (.deref (.r 3)) (.r 0)))), (10, (.r 0)), (9, (.deref (.r 3))), (8, (.deref (.r 2))), (7, (.con (.int 0)))], []⟩ [] 14 22 [(.r 8), (.r 12), (.r 13)]
 (.chk (.idx (.deref (.r 3)) (.r 1))
 (.call ⟨[(20, (.deref (.r 4))), (19, (.nth (.deref (.r 3)) (.r 1))), (18, (.ref (.nth (.deref (.r 3)) (.r 1)))), (17, (.r 1)), (16, (.deref (.r 3))), (15, (.deref (.r 2)))], []⟩ [] 21 22 [(.r 15), (.r 19), (.r 20)]
 (.ret (.ai .sub .i64 (.r 14) (.r 21)))))))
theorem tr31_eq : tree pc31 = tr31 := by kernel_rfl
/-! slices.SortStableFunc[[]int,int] -/
def pc30 : PC :=
 (.seq
  (.is [.setO 0 (.r 2)])
  (.seq
   (.is [.setR 4 (.r 0),
     .setR 5 (.r 0),
     .setR 6 (.llen (.o 0)),
     .setR 7 (.r 1),
     .mcall 1000000013 41 [(.con .none), (.r 6), (.r 7), (.o 0)],
     .setO 0 (.tget (.o 1000000013) 1),
     .setR 8 (.tget (.o 1000000013) 0)])
   (.ret (.tup [(.tup []), (.o 0)]))))
def tr30 : PT :=
 (.mcall ⟨[(7, (.r 1)), (6, (.llen (.r 2))), (5, (.r 0)), (4, (.r 0))], [(0, (.r 2))]⟩ 1000000013 41 [(.con .none), (.r 6), (.r 7), (.o 0)]
 (.ret (.tup [(.tup []), (.tget (.o 1000000013) 1)])))
theorem tr30_eq : tree pc30 = tr30 := by kernel_rfl
/-! slices.stableCmpFunc[int] -/
def bd41_0 : PC :=
 (.seq
  (.seq
   (.is [.setR 11 (.r 8),
     .setR 12 (.r 1),
     .setR 13 (.ci .leq (.r 11) (.r 12))])
   (.ite (.r 13) [] []
    .skip
    (.exit 0)))
  (.block 1 [7, 8, 14, 15, 16, 17, 18, 19, 20, 21, 22] [0]
   (.seq
    (.is [.setR 14 (.r 0),
      .setR 15 (.r 7),
      .setR 16 (.r 8),
      .setR 17 (.r 2),
      .mcall 1000000013 45 [(.con .none), (.r 15), (.r 16), (.r 17), (.o 0)],
      .setO 0 (.tget (.o 1000000013) 1),
      .setR 18 (.tget (.o 1000000013) 0)])
    (.seq
     (.is [.setR 19 (.r 8),
       .setR 7 (.r 19)])
     (.is [.setR 20 (.r 8),
       .setR 21 (.r 6),
       .setR 22 (.ai .add .i64 (.r 20) (.r 21)),
       .setR 8 (.r 22)])))))
def lp41_0 : PC := .block 0 [7, 8, 11, 12, 13] [0] (.loop [7, 8] [0] bd41_0)
def rd41_0 : PT :=
 (.ite (.ci .leq (.r 8) (.r 1))
  (.blockS ⟨[(13, (.ci .leq (.r 8) (.r 1))), (12, (.r 1)), (11, (.r 8))], []⟩ 1 [7, 8, 14, 15, 16, 17, 18, 19, 20, 21, 22] [0]
   (.mcall ⟨[(17, (.r 2)), (16, (.r 8)), (15, (.r 7)), (14, (.r 0))], []⟩ 1000000013 45 [(.con .none), (.r 15), (.r 16), (.r 17), (.o 0)]
   (.next ⟨[(8, (.ai .add .i64 (.r 8) (.r 6))), (22, (.ai .add .i64 (.r 8) (.r 6))), (21, (.r 6)), (20, (.r 8)), (7, (.r 8)), (19, (.r 8)), (18, (.tget (.o 1000000013) 0))], [(0, (.tget (.o 1000000013) 1))]⟩))
  (.next ⟨[(7, (.r 7)), (8, (.r 8))], [(0, (.o 0))]⟩))
  (.exit 0 ⟨[(7, (.r 7)), (8, (.r 8)), (11, (.r 8)), (12, (.r 1)), (13, (.ci .leq (.r 8) (.r 1)))], [(0, (.o 0))]⟩))
theorem rd41_0_eq : round 0 [7, 8, 11, 12, 13] [0] [7, 8] [0] bd41_0 = rd41_0 := by kernel_rfl
def bd41_1 : PC :=
 (.seq
  (.seq
   (.is [.setR 33 (.r 8),
     .setR 34 (.r 1),
     .setR 35 (.ci .leq (.r 33) (.r 34))])
   (.ite (.r 35) [] []
    .skip
    (.exit 4)))
  (.block 5 [7, 8, 36, 37, 38, 39, 40, 41, 42, 43, 44, 45, 46, 47, 48] [0]
   (.seq
    (.is [.setR 36 (.r 0),
      .setR 37 (.r 7),
      .setR 38 (.r 7),
      .setR 39 (.r 6),
      .setR 40 (.ai .add .i64 (.r 38) (.r 39)),
      .setR 41 (.r 8),
      .setR 42 (.r 2),
      .mcall 1000000013 46 [(.con .none), (.r 37), (.r 40), (.r 41), (.r 42), (.o 0)],
      .setO 0 (.tget (.o 1000000013) 1),
      .setR 43 (.tget (.o 1000000013) 0)])
    (.seq
     (.is [.setR 44 (.r 8),
       .setR 7 (.r 44)])
     (.is [.setR 45 (.r 8),
       .setR 46 (.r 6),
       .setR 47 (.ai .mul .i64 (.con (.int 2)) (.r 46)),
       .setR 48 (.ai .add .i64 (.r 45) (.r 47)),
       .setR 8 (.r 48)])))))
def lp41_1 : PC := .block 4 [7, 8, 33, 34, 35] [0] (.loop [7, 8] [0] bd41_1)
def rd41_1 : PT :=
 (.ite (.ci .leq (.r 8) (.r 1))
  (.blockS ⟨[(35, (.ci .leq (.r 8) (.r 1))), (34, (.r 1)), (33, (.r 8))], []⟩ 5 [7, 8, 36, 37, 38, 39, 40, 41, 42, 43, 44, 45, 46, 47, 48] [0]
   (.mcall ⟨[(42, (.r 2)), (41, (.r 8)), (40, (.ai .add .i64 (.r 7) (.r 6))), (39, (.r 6)), (38, (.r 7)), (37, (.r 7)), (36, (.r 0))], []⟩ 1000000013 46 [(.con .none), (.r 37), (.r 40), (.r 41), (.r 42), (.o 0)]
   (.next ⟨[(8, (.ai .add .i64 (.r 8) (.ai .mul .i64 (.con (.int 2)) (.r 6)))), (48, (.ai .add .i64 (.r 8) (.ai .mul .i64 (.con (.int 2)) (.r 6)))), (47, (.ai .mul .i64 (.con (.int 2)) (.r 6))), (46, (.r 6)), (45, (.r 8)), (7, (.r 8)), (44, (.r 8)), (43, (.tget (.o 1000000013) 0))], [(0, (.tget (.o 1000000013) 1))]⟩))
  (.next ⟨[(7, (.r 7)), (8, (.r 8))], [(0, (.o 0))]⟩))
  (.exit 4 ⟨[(7, (.r 7)), (8, (.r 8)), (33, (.r 8)), (34, (.r 1)), (35, (.ci .leq (.r 8) (.r 1)))], [(0, (.o 0))]⟩))
theorem rd41_1_eq : round 4 [7, 8, 33, 34, 35] [0] [7, 8] [0] bd41_1 = rd41_1 := by kernel_rfl
def bd41_2 : PC :=
 (.seq
  (.seq
   (.is [.setR 28 (.r 6),
     .setR 29 (.r 1),
     .setR 30 (.ci .lss (.r 28) (.r 29))])
   (.ite (.r 30) [] []
    .skip
    (.exit 2)))
  (.block 3 [6, 7, 8, 9, 31, 32, 33, 34, 35, 49, 50, 51, 52, 53, 54, 61, 62] [0]
   (.seq
    (.is [.setR 31 (.r 6),
      .setR 32 (.ai .mul .i64 (.con (.int 2)) (.r 31)),
      .setR 7 (.con (.int 0)),
      .setR 8 (.r 32)])
    (.seq
     lp41_1
     (.seq
      (.seq
       (.is [.setR 49 (.r 7),
         .setR 50 (.r 6),
         .setR 51 (.ai .add .i64 (.r 49) (.r 50)),
         .setR 9 (.r 51)])
       (.seq
        (.is [.setR 52 (.r 9),
          .setR 53 (.r 1),
          .setR 54 (.ci .lss (.r 52) (.r 53))])
        (.ite (.r 54) [] [0]
         (.is [.setR 55 (.r 0),
           .setR 56 (.r 7),
           .setR 57 (.r 9),
           .setR 58 (.r 1),
           .setR 59 (.r 2),
           .mcall 1000000013 46 [(.con .none), (.r 56), (.r 57), (.r 58), (.r 59), (.o 0)],
           .setO 0 (.tget (.o 1000000013) 1),
           .setR 60 (.tget (.o 1000000013) 0)])
         .skip)))
      (.is [.setR 61 (.r 6),
        .setR 62 (.ai .mul .i64 (.r 61) (.con (.int 2))),
        .setR 6 (.r 62)]))))))
def lp41_2 : PC := .block 2 [6, 7, 8, 28, 29, 30] [0] (.loop [6, 7, 8] [0] bd41_2)
def rd41_2 : PT :=
 (.ite (.ci .lss (.r 6) (.r 1))
  (.blockS ⟨[(30, (.ci .lss (.r 6) (.r 1))), (29, (.r 1)), (28, (.r 6))], []⟩ 3 [6, 7, 8, 9, 31, 32, 33, 34, 35, 49, 50, 51, 52, 53, 54, 61, 62] [0]
   (.brk ⟨[(8, (.ai .mul .i64 (.con (.int 2)) (.r 6))), (7, (.con (.int 0))), (32, (.ai .mul .i64 (.con (.int 2)) (.r 6))), (31, (.r 6))], []⟩
    lp41_1
   (.iteS ⟨[(54, (.ci .lss (.ai .add .i64 (.r 7) (.r 6)) (.r 1))), (53, (.r 1)), (52, (.ai .add .i64 (.r 7) (.r 6))), (9, (.ai .add .i64 (.r 7) (.r 6))), (51, (.ai .add .i64 (.r 7) (.r 6))), (50, (.r 6)), (49, (.r 7))], []⟩ (.r 54) [] [0]
    (.mcall ⟨[(59, (.r 2)), (58, (.r 1)), (57, (.r 9)), (56, (.r 7)), (55, (.r 0))], []⟩ 1000000013 46 [(.con .none), (.r 56), (.r 57), (.r 58), (.r 59), (.o 0)]
    (.next ⟨[(60, (.tget (.o 1000000013) 0))], [(0, (.tget (.o 1000000013) 1))]⟩))
    (.next ⟨[], []⟩)
   (.next ⟨[(6, (.ai .mul .i64 (.r 6) (.con (.int 2)))), (62, (.ai .mul .i64 (.r 6) (.con (.int 2)))), (61, (.r 6))], []⟩)))
  (.next ⟨[(6, (.r 6)), (7, (.r 7)), (8, (.r 8))], [(0, (.o 0))]⟩))
  (.exit 2 ⟨[(6, (.r 6)), (7, (.r 7)), (8, (.r 8)), (28, (.r 6)), (29, (.r 1)), (30, (.ci .lss (.r 6) (.r 1)))], [(0, (.o 0))]⟩))
theorem rd41_2_eq : round 2 [6, 7, 8, 28, 29, 30] [0] [6, 7, 8] [0] bd41_2 = rd41_2 := by kernel_rfl
def pc41 : PC :=
 (.seq
  (.is [.setO 0 (.r 3)])
  (.seq
   (.seq
    (.is [.setR 6 (.con (.int 20))])
    (.seq
     (.is [.setR 10 (.r 6),
       .setR 7 (.con (.int 0)),
       .setR 8 (.r 10)])
     (.seq
      lp41_0
      (.seq
       (.is [.setR 23 (.r 0),
         .setR 24 (.r 7),
         .setR 25 (.r 1),
         .setR 26 (.r 2),
         .mcall 1000000013 45 [(.con .none), (.r 24), (.r 25), (.r 26), (.o 0)],
         .setO 0 (.tget (.o 1000000013) 1),
         .setR 27 (.tget (.o 1000000013) 0)])
       lp41_2))))
   (.ret (.tup [(.tup []), (.o 0)]))))
def tr41 : PT :=
 (.brk ⟨[(8, (.con (.int 20))), (7, (.con (.int 0))), (10, (.con (.int 20))), (6, (.con (.int 20)))], [(0, (.r 3))]⟩
  lp41_0
 (.mcall ⟨[(26, (.r 2)), (25, (.r 1)), (24, (.r 7)), (23, (.r 0))], []⟩ 1000000013 45 [(.con .none), (.r 24), (.r 25), (.r 26), (.o 0)]
 (.brk ⟨[(27, (.tget (.o 1000000013) 0))], [(0, (.tget (.o 1000000013) 1))]⟩
  lp41_2
 (.ret (.tup [(.tup []), (.o 0)])))))
theorem tr41_eq : tree pc41 = tr41 := by kernel_rfl
/-! slices.insertionSortCmpFunc[int] -/
def bd45_0 : PC :=
 (.seq
  (.seq
   (.is [.setR 18 (.r 9),
     .setR 19 (.r 1),
     .setR 20 (.ci .gtr (.r 18) (.r 19)),
     .setR 21 (.r 20),
     .setR 22 (.r 3),
     .setR 23 (.r 0),
     .setR 24 (.r 9),
     .chk (.imp [(21, true)] (.idx (.o 0) (.r 24))),
     .setR 25 (.r 24),
     .setR 26 (.nth (.o 0) (.r 25)),
     .setR 27 (.r 0),
     .setR 28 (.r 9),
     .setR 29 (.ai .sub .i64 (.r 28) (.con (.int 1))),
     .chk (.imp [(21, true)] (.idx (.o 0) (.r 29))),
     .setR 30 (.r 29),
     .setR 31 (.nth (.o 0) (.r 30)),
     .callc [(21, true)] 32 (.r 22) [(.r 26), (.r 31)],
     .setR 33 (.ci .lss (.r 32) (.con (.int 0))),
     .setR 34 (.pick (.r 21) (.r 33) (.con (.bool false)))])
   (.ite (.r 34) [] []
    .skip
    (.exit 2)))
  (.seq
   (.block 3 [37, 38, 39, 40, 41, 42, 43, 44, 45, 46, 47, 48, 49, 50, 51, 52] [0]
    (.is [.setR 37 (.r 0),
      .setR 38 (.r 9),
      .setR 39 (.r 0),
      .setR 40 (.r 9),
      .setR 41 (.ai .sub .i64 (.r 40) (.con (.int 1))),
      .setR 42 (.r 0),
      .setR 43 (.r 9),
      .setR 44 (.ai .sub .i64 (.r 43) (.con (.int 1))),
      .chk (.idx (.o 0) (.r 44)),
      .setR 45 (.r 44),
      .setR 46 (.nth (.o 0) (.r 45)),
      .setR 47 (.r 0),
      .setR 48 (.r 9),
      .chk (.idx (.o 0) (.r 48)),
      .setR 49 (.r 48),
      .setR 50 (.nth (.o 0) (.r 49)),
      .chk (.idx (.o 0) (.r 38)),
      .setR 51 (.r 38),
      .setO 0 (.setn (.o 0) (.r 51) 0 (.r 46)),
      .chk (.idx (.o 0) (.r 41)),
      .setR 52 (.r 41),
      .setO 0 (.setn (.o 0) (.r 52) 0 (.r 50))]))
   (.is [.setR 35 (.r 9),
     .setR 36 (.ai .sub .i64 (.r 35) (.con (.int 1))),
     .setR 9 (.r 36)])))
def lp45_0 : PC := .block 2 [9, 18, 19, 20, 21, 34] [0] (.loop [9] [0] bd45_0)
def rd45_0 : PT :=
 (.chk (.nt (.an (.an (.ci .gtr (.r 9) (.r 1)) (.con (.bool true))) (.nt (.idx (.o 0) (.r 9)))))
 (.chk (.nt (.an (.an (.ci .gtr (.r 9) (.r 1)) (.con (.bool true))) (.nt (.idx (.o 0) (.ai .sub .i64 (.r 9) (.con (.int 1)))))))
 (.callc ⟨[(31, (.nth (.o 0) (.ai .sub .i64 (.r 9) (.con (.int 1))))), (30, (.ai .sub .i64 (.r 9) (.con (.int 1)))), (29, (.ai .sub .i64 (.r 9) (.con (.int 1)))), (28, (.r 9)), (27, (.r 0)), (26, (.nth (.o 0) (.r 9))), (25, (.r 9)), (24, (.r 9)), (23, (.r 0)), (22, (.r 3)), (21, (.ci .gtr (.r 9) (.r 1))), (20, (.ci .gtr (.r 9) (.r 1))), (19, (.r 1)), (18, (.r 9))], []⟩ [(21, true)] 32 (.r 22) [(.r 26), (.r 31)]
 (.ite (.pick (.r 21) (.ci .lss (.r 32) (.con (.int 0))) (.con (.bool false)))
  (.chk (.idx (.o 0) (.ai .sub .i64 (.r 9) (.con (.int 1))))
  (.chk (.idx (.o 0) (.r 9))
  (.chk (.idx (.setn (.o 0) (.r 9) 0 (.nth (.o 0) (.ai .sub .i64 (.r 9) (.con (.int 1))))) (.ai .sub .i64 (.r 9) (.con (.int 1))))
  (.next ⟨[(9, (.ai .sub .i64 (.r 9) (.con (.int 1))))], [(0, (.setn (.setn (.o 0) (.r 9) 0 (.nth (.o 0) (.ai .sub .i64 (.r 9) (.con (.int 1))))) (.ai .sub .i64 (.r 9) (.con (.int 1))) 0 (.nth (.o 0) (.r 9))))]⟩))))
  (.exit 2 ⟨[(9, (.r 9)), (18, (.r 18)), (19, (.r 19)), (20, (.r 20)), (21, (.r 21)), (34, (.pick (.r 21) (.ci .lss (.r 32) (.con (.int 0))) (.con (.bool false))))], [(0, (.o 0))]⟩)))))
theorem rd45_0_eq : round 2 [9, 18, 19, 20, 21, 34] [0] [9] [0] bd45_0 = rd45_0 := by kernel_rfl
def bd45_1 : PC :=
 (.seq
  (.seq
   (.is [.setR 12 (.r 8),
     .setR 13 (.r 2),
     .setR 14 (.ci .lss (.r 12) (.r 13))])
   (.ite (.r 14) [] []
    .skip
    (.exit 0)))
  (.seq
   (.block 1 [9, 17, 18, 19, 20, 21, 34] [0]
    (.seq
     (.is [.setR 17 (.r 8),
       .setR 9 (.r 17)])
     lp45_0))
   (.is [.setR 15 (.r 8),
     .setR 16 (.ai .add .i64 (.r 15) (.con (.int 1))),
     .setR 8 (.r 16)])))
def lp45_1 : PC := .block 0 [8, 12, 13, 14] [0] (.loop [8] [0] bd45_1)
def rd45_1 : PT :=
 (.ite (.ci .lss (.r 8) (.r 2))
  (.blockS ⟨[(14, (.ci .lss (.r 8) (.r 2))), (13, (.r 2)), (12, (.r 8))], []⟩ 1 [9, 17, 18, 19, 20, 21, 34] [0]
   (.brk ⟨[(9, (.r 8)), (17, (.r 8))], []⟩
    lp45_0
   (.next ⟨[], []⟩))
  (.next ⟨[(8, (.ai .add .i64 (.r 8) (.con (.int 1))))], [(0, (.o 0))]⟩))
  (.exit 0 ⟨[(8, (.r 8)), (12, (.r 8)), (13, (.r 2)), (14, (.ci .lss (.r 8) (.r 2)))], [(0, (.o 0))]⟩))
theorem rd45_1_eq : round 0 [8, 12, 13, 14] [0] [8] [0] bd45_1 = rd45_1 := by kernel_rfl
def pc45 : PC :=
 (.seq
  (.is [.setO 0 (.r 4)])
  (.seq
   (.seq
    (.is [.setR 10 (.r 1),
      .setR 11 (.ai .add .i64 (.r 10) (.con (.int 1))),
      .setR 8 (.r 11)])
    lp45_1)
   (.ret (.tup [(.tup []), (.o 0)]))))
def tr45 : PT :=
 (.brk ⟨[(8, (.ai .add .i64 (.r 1) (.con (.int 1)))), (11, (.ai .add .i64 (.r 1) (.con (.int 1)))), (10, (.r 1))], [(0, (.r 4))]⟩
  lp45_1
 (.ret (.tup [(.tup []), (.o 0)])))
theorem tr45_eq : tree pc45 = tr45 := by kernel_rfl
/-! slices.symMergeCmpFunc[int] -/
def bd46_0 : PC :=
 (.seq
  (.seq
   (.is [.setR 31 (.r 10),
     .setR 32 (.r 11),
     .setR 33 (.ci .lss (.r 31) (.r 32))])
   (.ite (.r 33) [] []
    .skip
    (.exit 0)))
  (.block 1 [10, 11, 12, 34, 35, 36, 37, 38, 39, 40, 41, 42, 43, 44, 45, 46, 47, 48, 49, 50] []
   (.seq
    (.is [.setR 34 (.r 10),
      .setR 35 (.r 11),
      .setR 36 (.ai .add .i64 (.r 34) (.r 35)),
      .setR 37 (.conv .u64 (.r 36)),
      .chk (.ci .geq (.con (.v (.int .u64 1))) (.con (.int 0))),
      .setR 38 (.ai .shr .u64 (.r 37) (.con (.v (.int .u64 1)))),
      .setR 39 (.conv .i64 (.r 38)),
      .setR 12 (.r 39)])
    (.seq
     (.is [.setR 40 (.r 4),
       .setR 41 (.r 0),
       .setR 42 (.r 12),
       .chk (.idx (.o 0) (.r 42)),
       .setR 43 (.r 42),
       .setR 44 (.nth (.o 0) (.r 43)),
       .setR 45 (.r 0),
       .setR 46 (.r 1),
       .chk (.idx (.o 0) (.r 46)),
       .setR 47 (.r 46),
       .setR 48 (.nth (.o 0) (.r 47)),
       .callc [] 49 (.r 40) [(.r 44), (.r 48)],
       .setR 50 (.ci .lss (.r 49) (.con (.int 0)))])
     (.ite (.r 50) [10, 11] []
      (.is [.setR 51 (.r 12),
        .setR 52 (.ai .add .i64 (.r 51) (.con (.int 1))),
        .setR 10 (.r 52)])
      (.is [.setR 53 (.r 12),
        .setR 11 (.r 53)]))))))
def lp46_0 : PC := .block 0 [10, 11, 31, 32, 33] [] (.loop [10, 11] [] bd46_0)
def rd46_0 : PT :=
 (.ite (.ci .lss (.r 10) (.r 11))
  (.blockS ⟨[(33, (.ci .lss (.r 10) (.r 11))), (32, (.r 11)), (31, (.r 10))], []⟩ 1 [10, 11, 12, 34, 35, 36, 37, 38, 39, 40, 41, 42, 43, 44, 45, 46, 47, 48, 49, 50] []
   (.chk (.ci .geq (.con (.v (.int .u64 1))) (.con (.int 0)))
   (.chk (.idx (.o 0) (.conv .i64 (.ai .shr .u64 (.conv .u64 (.ai .add .i64 (.r 10) (.r 11))) (.con (.v (.int .u64 1))))))
   (.chk (.idx (.o 0) (.r 1))
   (.callc ⟨[(48, (.nth (.o 0) (.r 1))), (47, (.r 1)), (46, (.r 1)), (45, (.r 0)), (44, (.nth (.o 0) (.conv .i64 (.ai .shr .u64 (.conv .u64 (.ai .add .i64 (.r 10) (.r 11))) (.con (.v (.int .u64 1))))))), (43, (.conv .i64 (.ai .shr .u64 (.conv .u64 (.ai .add .i64 (.r 10) (.r 11))) (.con (.v (.int .u64 1)))))), (42, (.conv .i64 (.ai .shr .u64 (.conv .u64 (.ai .add .i64 (.r 10) (.r 11))) (.con (.v (.int .u64 1)))))), (41, (.r 0)), (40, (.r 4)), (12, (.conv .i64 (.ai .shr .u64 (.conv .u64 (.ai .add .i64 (.r 10) (.r 11))) (.con (.v (.int .u64 1)))))), (39, (.conv .i64 (.ai .shr .u64 (.conv .u64 (.ai .add .i64 (.r 10) (.r 11))) (.con (.v (.int .u64 1)))))), (38, (.ai .shr .u64 (.conv .u64 (.ai .add .i64 (.r 10) (.r 11))) (.con (.v (.int .u64 1))))), (37, (.conv .u64 (.ai .add .i64 (.r 10) (.r 11)))), (36, (.ai .add .i64 (.r 10) (.r 11))), (35, (.r 11)), (34, (.r 10))], []⟩ [] 49 (.r 40) [(.r 44), (.r 48)]
   (.next ⟨[(10, (.pick (.ci .lss (.r 49) (.con (.int 0))) (.ai .add .i64 (.r 12) (.con (.int 1))) (.r 10))), (11, (.pick (.ci .lss (.r 49) (.con (.int 0))) (.r 11) (.r 12))), (50, (.ci .lss (.r 49) (.con (.int 0))))], []⟩)))))
  (.next ⟨[(10, (.r 10)), (11, (.r 11))], []⟩))
  (.exit 0 ⟨[(10, (.r 10)), (11, (.r 11)), (31, (.r 10)), (32, (.r 11)), (33, (.ci .lss (.r 10) (.r 11)))], []⟩))
theorem rd46_0_eq : round 0 [10, 11, 31, 32, 33] [] [10, 11] [] bd46_0 = rd46_0 := by kernel_rfl
def bd46_1 : PC :=
 (.seq
  (.seq
   (.is [.setR 55 (.r 13),
     .setR 56 (.r 10),
     .setR 57 (.ai .sub .i64 (.r 56) (.con (.int 1))),
     .setR 58 (.ci .lss (.r 55) (.r 57))])
   (.ite (.r 58) [] []
    .skip
    (.exit 2)))
  (.seq
   (.block 3 [61, 62, 63, 64, 65, 66, 67, 68, 69, 70, 71, 72, 73, 74, 75, 76] [0]
    (.is [.setR 61 (.r 0),
      .setR 62 (.r 13),
      .setR 63 (.r 0),
      .setR 64 (.r 13),
      .setR 65 (.ai .add .i64 (.r 64) (.con (.int 1))),
      .setR 66 (.r 0),
      .setR 67 (.r 13),
      .setR 68 (.ai .add .i64 (.r 67) (.con (.int 1))),
      .chk (.idx (.o 0) (.r 68)),
      .setR 69 (.r 68),
      .setR 70 (.nth (.o 0) (.r 69)),
      .setR 71 (.r 0),
      .setR 72 (.r 13),
      .chk (.idx (.o 0) (.r 72)),
      .setR 73 (.r 72),
      .setR 74 (.nth (.o 0) (.r 73)),
      .chk (.idx (.o 0) (.r 62)),
      .setR 75 (.r 62),
      .setO 0 (.setn (.o 0) (.r 75) 0 (.r 70)),
      .chk (.idx (.o 0) (.r 65)),
      .setR 76 (.r 65),
      .setO 0 (.setn (.o 0) (.r 76) 0 (.r 74))]))
   (.is [.setR 59 (.r 13),
     .setR 60 (.ai .add .i64 (.r 59) (.con (.int 1))),
     .setR 13 (.r 60)])))
def lp46_1 : PC := .block 2 [13, 55, 56, 57, 58] [0] (.loop [13] [0] bd46_1)
def rd46_1 : PT :=
 (.ite (.ci .lss (.r 13) (.ai .sub .i64 (.r 10) (.con (.int 1))))
  (.chk (.idx (.o 0) (.ai .add .i64 (.r 13) (.con (.int 1))))
  (.chk (.idx (.o 0) (.r 13))
  (.chk (.idx (.setn (.o 0) (.r 13) 0 (.nth (.o 0) (.ai .add .i64 (.r 13) (.con (.int 1))))) (.ai .add .i64 (.r 13) (.con (.int 1))))
  (.next ⟨[(13, (.ai .add .i64 (.r 13) (.con (.int 1))))], [(0, (.setn (.setn (.o 0) (.r 13) 0 (.nth (.o 0) (.ai .add .i64 (.r 13) (.con (.int 1))))) (.ai .add .i64 (.r 13) (.con (.int 1))) 0 (.nth (.o 0) (.r 13))))]⟩))))
  (.exit 2 ⟨[(13, (.r 13)), (55, (.r 13)), (56, (.r 10)), (57, (.ai .sub .i64 (.r 10) (.con (.int 1)))), (58, (.ci .lss (.r 13) (.ai .sub .i64 (.r 10) (.con (.int 1)))))], [(0, (.o 0))]⟩))
theorem rd46_1_eq : round 2 [13, 55, 56, 57, 58] [0] [13] [0] bd46_1 = rd46_1 := by kernel_rfl
def bd46_2 : PC :=
 (.seq
  (.seq
   (.is [.setR 83 (.r 14),
     .setR 84 (.r 15),
     .setR 85 (.ci .lss (.r 83) (.r 84))])
   (.ite (.r 85) [] []
    .skip
    (.exit 4)))
  (.block 5 [14, 15, 16, 86, 87, 88, 89, 90, 91, 92, 93, 94, 95, 96, 97, 98, 99, 100, 101, 102, 103] []
   (.seq
    (.is [.setR 86 (.r 14),
      .setR 87 (.r 15),
      .setR 88 (.ai .add .i64 (.r 86) (.r 87)),
      .setR 89 (.conv .u64 (.r 88)),
      .chk (.ci .geq (.con (.v (.int .u64 1))) (.con (.int 0))),
      .setR 90 (.ai .shr .u64 (.r 89) (.con (.v (.int .u64 1)))),
      .setR 91 (.conv .i64 (.r 90)),
      .setR 16 (.r 91)])
    (.seq
     (.is [.setR 92 (.r 4),
       .setR 93 (.r 0),
       .setR 94 (.r 2),
       .chk (.idx (.o 0) (.r 94)),
       .setR 95 (.r 94),
       .setR 96 (.nth (.o 0) (.r 95)),
       .setR 97 (.r 0),
       .setR 98 (.r 16),
       .chk (.idx (.o 0) (.r 98)),
       .setR 99 (.r 98),
       .setR 100 (.nth (.o 0) (.r 99)),
       .callc [] 101 (.r 92) [(.r 96), (.r 100)],
       .setR 102 (.ci .lss (.r 101) (.con (.int 0))),
       .setR 103 (.nt (.r 102))])
     (.ite (.r 103) [14, 15] []
      (.is [.setR 104 (.r 16),
        .setR 105 (.ai .add .i64 (.r 104) (.con (.int 1))),
        .setR 14 (.r 105)])
      (.is [.setR 106 (.r 16),
        .setR 15 (.r 106)]))))))
def lp46_2 : PC := .block 4 [14, 15, 83, 84, 85] [] (.loop [14, 15] [] bd46_2)
def rd46_2 : PT :=
 (.ite (.ci .lss (.r 14) (.r 15))
  (.blockS ⟨[(85, (.ci .lss (.r 14) (.r 15))), (84, (.r 15)), (83, (.r 14))], []⟩ 5 [14, 15, 16, 86, 87, 88, 89, 90, 91, 92, 93, 94, 95, 96, 97, 98, 99, 100, 101, 102, 103] []
   (.chk (.ci .geq (.con (.v (.int .u64 1))) (.con (.int 0)))
   (.chk (.idx (.o 0) (.r 2))
   (.chk (.idx (.o 0) (.conv .i64 (.ai .shr .u64 (.conv .u64 (.ai .add .i64 (.r 14) (.r 15))) (.con (.v (.int .u64 1))))))
   (.callc ⟨[(100, (.nth (.o 0) (.conv .i64 (.ai .shr .u64 (.conv .u64 (.ai .add .i64 (.r 14) (.r 15))) (.con (.v (.int .u64 1))))))), (99, (.conv .i64 (.ai .shr .u64 (.conv .u64 (.ai .add .i64 (.r 14) (.r 15))) (.con (.v (.int .u64 1)))))), (98, (.conv .i64 (.ai .shr .u64 (.conv .u64 (.ai .add .i64 (.r 14) (.r 15))) (.con (.v (.int .u64 1)))))), (97, (.r 0)), (96, (.nth (.o 0) (.r 2))), (95, (.r 2)), (94, (.r 2)), (93, (.r 0)), (92, (.r 4)), (16, (.conv .i64 (.ai .shr .u64 (.conv .u64 (.ai .add .i64 (.r 14) (.r 15))) (.con (.v (.int .u64 1)))))), (91, (.conv .i64 (.ai .shr .u64 (.conv .u64 (.ai .add .i64 (.r 14) (.r 15))) (.con (.v (.int .u64 1)))))), (90, (.ai .shr .u64 (.conv .u64 (.ai .add .i64 (.r 14) (.r 15))) (.con (.v (.int .u64 1))))), (89, (.conv .u64 (.ai .add .i64 (.r 14) (.r 15)))), (88, (.ai .add .i64 (.r 14) (.r 15))), (87, (.r 15)), (86, (.r 14))], []⟩ [] 101 (.r 92) [(.r 96), (.r 100)]
   (.next ⟨[(14, (.pick (.nt (.ci .lss (.r 101) (.con (.int 0)))) (.ai .add .i64 (.r 16) (.con (.int 1))) (.r 14))), (15, (.pick (.nt (.ci .lss (.r 101) (.con (.int 0)))) (.r 15) (.r 16))), (103, (.nt (.ci .lss (.r 101) (.con (.int 0))))), (102, (.ci .lss (.r 101) (.con (.int 0))))], []⟩)))))
  (.next ⟨[(14, (.r 14)), (15, (.r 15))], []⟩))
  (.exit 4 ⟨[(14, (.r 14)), (15, (.r 15)), (83, (.r 14)), (84, (.r 15)), (85, (.ci .lss (.r 14) (.r 15)))], []⟩))
theorem rd46_2_eq : round 4 [14, 15, 83, 84, 85] [] [14, 15] [] bd46_2 = rd46_2 := by kernel_rfl
def bd46_3 : PC :=
 (.seq
  (.seq
   (.is [.setR 108 (.r 17),
     .setR 109 (.r 14),
     .setR 110 (.ci .gtr (.r 108) (.r 109))])
   (.ite (.r 110) [] []
    .skip
    (.exit 6)))
  (.seq
   (.block 7 [113, 114, 115, 116, 117, 118, 119, 120, 121, 122, 123, 124, 125, 126, 127, 128] [0]
    (.is [.setR 113 (.r 0),
      .setR 114 (.r 17),
      .setR 115 (.r 0),
      .setR 116 (.r 17),
      .setR 117 (.ai .sub .i64 (.r 116) (.con (.int 1))),
      .setR 118 (.r 0),
      .setR 119 (.r 17),
      .setR 120 (.ai .sub .i64 (.r 119) (.con (.int 1))),
      .chk (.idx (.o 0) (.r 120)),
      .setR 121 (.r 120),
      .setR 122 (.nth (.o 0) (.r 121)),
      .setR 123 (.r 0),
      .setR 124 (.r 17),
      .chk (.idx (.o 0) (.r 124)),
      .setR 125 (.r 124),
      .setR 126 (.nth (.o 0) (.r 125)),
      .chk (.idx (.o 0) (.r 114)),
      .setR 127 (.r 114),
      .setO 0 (.setn (.o 0) (.r 127) 0 (.r 122)),
      .chk (.idx (.o 0) (.r 117)),
      .setR 128 (.r 117),
      .setO 0 (.setn (.o 0) (.r 128) 0 (.r 126))]))
   (.is [.setR 111 (.r 17),
     .setR 112 (.ai .sub .i64 (.r 111) (.con (.int 1))),
     .setR 17 (.r 112)])))
def lp46_3 : PC := .block 6 [17, 108, 109, 110] [0] (.loop [17] [0] bd46_3)
def rd46_3 : PT :=
 (.ite (.ci .gtr (.r 17) (.r 14))
  (.chk (.idx (.o 0) (.ai .sub .i64 (.r 17) (.con (.int 1))))
  (.chk (.idx (.o 0) (.r 17))
  (.chk (.idx (.setn (.o 0) (.r 17) 0 (.nth (.o 0) (.ai .sub .i64 (.r 17) (.con (.int 1))))) (.ai .sub .i64 (.r 17) (.con (.int 1))))
  (.next ⟨[(17, (.ai .sub .i64 (.r 17) (.con (.int 1))))], [(0, (.setn (.setn (.o 0) (.r 17) 0 (.nth (.o 0) (.ai .sub .i64 (.r 17) (.con (.int 1))))) (.ai .sub .i64 (.r 17) (.con (.int 1))) 0 (.nth (.o 0) (.r 17))))]⟩))))
  (.exit 6 ⟨[(17, (.r 17)), (108, (.r 17)), (109, (.r 14)), (110, (.ci .gtr (.r 17) (.r 14)))], [(0, (.o 0))]⟩))
theorem rd46_3_eq : round 6 [17, 108, 109, 110] [0] [17] [0] bd46_3 = rd46_3 := by kernel_rfl
def bd46_4 : PC :=
 (.seq
  (.seq
   (.is [.setR 149 (.r 20),
     .setR 150 (.r 21),
     .setR 151 (.ci .lss (.r 149) (.r 150))])
   (.ite (.r 151) [] []
    .skip
    (.exit 8)))
  (.block 9 [20, 21, 23, 152, 153, 154, 155, 156, 157, 158, 159, 160, 161, 162, 163, 164, 165, 166, 167, 168, 169, 170, 171] []
   (.seq
    (.is [.setR 152 (.r 20),
      .setR 153 (.r 21),
      .setR 154 (.ai .add .i64 (.r 152) (.r 153)),
      .setR 155 (.conv .u64 (.r 154)),
      .chk (.ci .geq (.con (.v (.int .u64 1))) (.con (.int 0))),
      .setR 156 (.ai .shr .u64 (.r 155) (.con (.v (.int .u64 1)))),
      .setR 157 (.conv .i64 (.r 156)),
      .setR 23 (.r 157)])
    (.seq
     (.is [.setR 158 (.r 4),
       .setR 159 (.r 0),
       .setR 160 (.r 22),
       .setR 161 (.r 23),
       .setR 162 (.ai .sub .i64 (.r 160) (.r 161)),
       .chk (.idx (.o 0) (.r 162)),
       .setR 163 (.r 162),
       .setR 164 (.nth (.o 0) (.r 163)),
       .setR 165 (.r 0),
       .setR 166 (.r 23),
       .chk (.idx (.o 0) (.r 166)),
       .setR 167 (.r 166),
       .setR 168 (.nth (.o 0) (.r 167)),
       .callc [] 169 (.r 158) [(.r 164), (.r 168)],
       .setR 170 (.ci .lss (.r 169) (.con (.int 0))),
       .setR 171 (.nt (.r 170))])
     (.ite (.r 171) [20, 21] []
      (.is [.setR 172 (.r 23),
        .setR 173 (.ai .add .i64 (.r 172) (.con (.int 1))),
        .setR 20 (.r 173)])
      (.is [.setR 174 (.r 23),
        .setR 21 (.r 174)]))))))
def lp46_4 : PC := .block 8 [20, 21, 149, 150, 151] [] (.loop [20, 21] [] bd46_4)
def rd46_4 : PT :=
 (.ite (.ci .lss (.r 20) (.r 21))
  (.blockS ⟨[(151, (.ci .lss (.r 20) (.r 21))), (150, (.r 21)), (149, (.r 20))], []⟩ 9 [20, 21, 23, 152, 153, 154, 155, 156, 157, 158, 159, 160, 161, 162, 163, 164, 165, 166, 167, 168, 169, 170, 171] []
   (.chk (.ci .geq (.con (.v (.int .u64 1))) (.con (.int 0)))
   (.chk (.idx (.o 0) (.ai .sub .i64 (.r 22) (.conv .i64 (.ai .shr .u64 (.conv .u64 (.ai .add .i64 (.r 20) (.r 21))) (.con (.v (.int .u64 1)))))))
   (.chk (.idx (.o 0) (.conv .i64 (.ai .shr .u64 (.conv .u64 (.ai .add .i64 (.r 20) (.r 21))) (.con (.v (.int .u64 1))))))
   (.callc ⟨[(168, (.nth (.o 0) (.conv .i64 (.ai .shr .u64 (.conv .u64 (.ai .add .i64 (.r 20) (.r 21))) (.con (.v (.int .u64 1))))))), (167, (.conv .i64 (.ai .shr .u64 (.conv .u64 (.ai .add .i64 (.r 20) (.r 21))) (.con (.v (.int .u64 1)))))), (166, (.conv .i64 (.ai .shr .u64 (.conv .u64 (.ai .add .i64 (.r 20) (.r 21))) (.con (.v (.int .u64 1)))))), (165, (.r 0)), (164, (.nth (.o 0) (.ai .sub .i64 (.r 22) (.conv .i64 (.ai .shr .u64 (.conv .u64 (.ai .add .i64 (.r 20) (.r 21))) (.con (.v (.int .u64 1)))))))), (163, (.ai .sub .i64 (.r 22) (.conv .i64 (.ai .shr .u64 (.conv .u64 (.ai .add .i64 (.r 20) (.r 21))) (.con (.v (.int .u64 1))))))), (162, (.ai .sub .i64 (.r 22) (.conv .i64 (.ai .shr .u64 (.conv .u64 (.ai .add .i64 (.r 20) (.r 21))) (.con (.v (.int .u64 1))))))), (161, (.conv .i64 (.ai .shr .u64 (.conv .u64 (.ai .add .i64 (.r 20) (.r 21))) (.con (.v (.int .u64 1)))))), (160, (.r 22)), (159, (.r 0)), (158, (.r 4)), (23, (.conv .i64 (.ai .shr .u64 (.conv .u64 (.ai .add .i64 (.r 20) (.r 21))) (.con (.v (.int .u64 1)))))), (157, (.conv .i64 (.ai .shr .u64 (.conv .u64 (.ai .add .i64 (.r 20) (.r 21))) (.con (.v (.int .u64 1)))))), (156, (.ai .shr .u64 (.conv .u64 (.ai .add .i64 (.r 20) (.r 21))) (.con (.v (.int .u64 1))))), (155, (.conv .u64 (.ai .add .i64 (.r 20) (.r 21)))), (154, (.ai .add .i64 (.r 20) (.r 21))), (153, (.r 21)), (152, (.r 20))], []⟩ [] 169 (.r 158) [(.r 164), (.r 168)]
   (.next ⟨[(20, (.pick (.nt (.ci .lss (.r 169) (.con (.int 0)))) (.ai .add .i64 (.r 23) (.con (.int 1))) (.r 20))), (21, (.pick (.nt (.ci .lss (.r 169) (.con (.int 0)))) (.r 21) (.r 23))), (171, (.nt (.ci .lss (.r 169) (.con (.int 0))))), (170, (.ci .lss (.r 169) (.con (.int 0))))], []⟩)))))
  (.next ⟨[(20, (.r 20)), (21, (.r 21))], []⟩))
  (.exit 8 ⟨[(20, (.r 20)), (21, (.r 21)), (149, (.r 20)), (150, (.r 21)), (151, (.ci .lss (.r 20) (.r 21)))], []⟩))
theorem rd46_4_eq : round 8 [20, 21, 149, 150, 151] [] [20, 21] [] bd46_4 = rd46_4 := by kernel_rfl
def pc46 : PC :=
 (.seq
  (.is [.setO 0 (.r 5)])
  (.seq
   (.seq
    (.seq
     (.is [.setR 25 (.r 2),
       .setR 26 (.r 1),
       .setR 27 (.ai .sub .i64 (.r 25) (.r 26)),
       .setR 28 (.ci .eql (.r 27) (.con (.int 1)))])
     (.ite (.r 28) [] [0]
      (.seq
       (.is [.setR 29 (.r 2),
         .setR 10 (.r 29)])
       (.seq
        (.is [.setR 30 (.r 3),
          .setR 11 (.r 30)])
        (.seq
         lp46_0
         (.seq
          (.seq
           (.is [.setR 54 (.r 1),
             .setR 13 (.r 54)])
           lp46_1)
          (.ret (.tup [(.tup []), (.o 0)]))))))
      .skip))
    (.seq
     (.seq
      (.is [.setR 77 (.r 3),
        .setR 78 (.r 2),
        .setR 79 (.ai .sub .i64 (.r 77) (.r 78)),
        .setR 80 (.ci .eql (.r 79) (.con (.int 1)))])
      (.ite (.r 80) [] [0]
       (.seq
        (.is [.setR 81 (.r 1),
          .setR 14 (.r 81)])
        (.seq
         (.is [.setR 82 (.r 2),
           .setR 15 (.r 82)])
         (.seq
          lp46_2
          (.seq
           (.seq
            (.is [.setR 107 (.r 2),
              .setR 17 (.r 107)])
            lp46_3)
           (.ret (.tup [(.tup []), (.o 0)]))))))
       .skip))
     (.seq
      (.is [.setR 129 (.r 1),
        .setR 130 (.r 3),
        .setR 131 (.ai .add .i64 (.r 129) (.r 130)),
        .setR 132 (.conv .u64 (.r 131)),
        .chk (.ci .geq (.con (.v (.int .u64 1))) (.con (.int 0))),
        .setR 133 (.ai .shr .u64 (.r 132) (.con (.v (.int .u64 1)))),
        .setR 134 (.conv .i64 (.r 133)),
        .setR 18 (.r 134)])
      (.seq
       (.is [.setR 135 (.r 18),
         .setR 136 (.r 2),
         .setR 137 (.ai .add .i64 (.r 135) (.r 136)),
         .setR 19 (.r 137)])
       (.seq
        (.is [.setR 20 (.con (.int 0)),
          .setR 21 (.con (.int 0))])
        (.seq
         (.seq
          (.is [.setR 138 (.r 2),
            .setR 139 (.r 18),
            .setR 140 (.ci .gtr (.r 138) (.r 139))])
          (.ite (.r 140) [20, 21] []
           (.seq
            (.is [.setR 141 (.r 19),
              .setR 142 (.r 3),
              .setR 143 (.ai .sub .i64 (.r 141) (.r 142)),
              .setR 20 (.r 143)])
            (.is [.setR 144 (.r 18),
              .setR 21 (.r 144)]))
           (.seq
            (.is [.setR 145 (.r 1),
              .setR 20 (.r 145)])
            (.is [.setR 146 (.r 2),
              .setR 21 (.r 146)]))))
         (.seq
          (.is [.setR 147 (.r 19),
            .setR 148 (.ai .sub .i64 (.r 147) (.con (.int 1))),
            .setR 22 (.r 148)])
          (.seq
           lp46_4
           (.seq
            (.is [.setR 175 (.r 19),
              .setR 176 (.r 20),
              .setR 177 (.ai .sub .i64 (.r 175) (.r 176)),
              .setR 24 (.r 177)])
            (.seq
             (.seq
              (.is [.setR 178 (.r 20),
                .setR 179 (.r 2),
                .setR 180 (.ci .lss (.r 178) (.r 179)),
                .setR 181 (.r 180),
                .setR 182 (.r 2),
                .setR 183 (.r 24),
                .setR 184 (.ci .lss (.r 182) (.r 183)),
                .setR 185 (.pick (.r 181) (.r 184) (.con (.bool false)))])
              (.ite (.r 185) [] [0]
               (.is [.setR 186 (.r 0),
                 .setR 187 (.r 20),
                 .setR 188 (.r 2),
                 .setR 189 (.r 24),
                 .setR 190 (.r 4),
                 .mcall 1000000013 58 [(.con .none), (.r 187), (.r 188), (.r 189), (.r 190), (.o 0)],
                 .setO 0 (.tget (.o 1000000013) 1),
                 .setR 191 (.tget (.o 1000000013) 0)])
               .skip))
             (.seq
              (.seq
               (.is [.setR 192 (.r 1),
                 .setR 193 (.r 20),
                 .setR 194 (.ci .lss (.r 192) (.r 193)),
                 .setR 195 (.r 194),
                 .setR 196 (.r 20),
                 .setR 197 (.r 18),
                 .setR 198 (.ci .lss (.r 196) (.r 197)),
                 .setR 199 (.pick (.r 195) (.r 198) (.con (.bool false)))])
               (.ite (.r 199) [] [0]
                (.is [.setR 200 (.r 0),
                  .setR 201 (.r 1),
                  .setR 202 (.r 20),
                  .setR 203 (.r 18),
                  .setR 204 (.r 4),
                  .mcall 1000000013 46 [(.con .none), (.r 201), (.r 202), (.r 203), (.r 204), (.o 0)],
                  .setO 0 (.tget (.o 1000000013) 1),
                  .setR 205 (.tget (.o 1000000013) 0)])
                .skip))
              (.seq
               (.is [.setR 206 (.r 18),
                 .setR 207 (.r 24),
                 .setR 208 (.ci .lss (.r 206) (.r 207)),
                 .setR 209 (.r 208),
                 .setR 210 (.r 24),
                 .setR 211 (.r 3),
                 .setR 212 (.ci .lss (.r 210) (.r 211)),
                 .setR 213 (.pick (.r 209) (.r 212) (.con (.bool false)))])
               (.ite (.r 213) [] [0]
                (.is [.setR 214 (.r 0),
                  .setR 215 (.r 18),
                  .setR 216 (.r 24),
                  .setR 217 (.r 3),
                  .setR 218 (.r 4),
                  .mcall 1000000013 46 [(.con .none), (.r 215), (.r 216), (.r 217), (.r 218), (.o 0)],
                  .setO 0 (.tget (.o 1000000013) 1),
                  .setR 219 (.tget (.o 1000000013) 0)])
                .skip)))))))))))))
   (.ret (.tup [(.tup []), (.o 0)]))))
def tr46 : PT :=
 (.iteS ⟨[(28, (.ci .eql (.ai .sub .i64 (.r 2) (.r 1)) (.con (.int 1)))), (27, (.ai .sub .i64 (.r 2) (.r 1))), (26, (.r 1)), (25, (.r 2))], [(0, (.r 5))]⟩ (.r 28) [] [0]
  (.brk ⟨[(11, (.r 3)), (30, (.r 3)), (10, (.r 2)), (29, (.r 2))], []⟩
   lp46_0
  (.brk ⟨[(13, (.r 1)), (54, (.r 1))], []⟩
   lp46_1
  (.ret (.tup [(.tup []), (.o 0)]))))
  (.next ⟨[], []⟩)
 (.iteS ⟨[(80, (.ci .eql (.ai .sub .i64 (.r 3) (.r 2)) (.con (.int 1)))), (79, (.ai .sub .i64 (.r 3) (.r 2))), (78, (.r 2)), (77, (.r 3))], []⟩ (.r 80) [] [0]
  (.brk ⟨[(15, (.r 2)), (82, (.r 2)), (14, (.r 1)), (81, (.r 1))], []⟩
   lp46_2
  (.brk ⟨[(17, (.r 2)), (107, (.r 2))], []⟩
   lp46_3
  (.ret (.tup [(.tup []), (.o 0)]))))
  (.next ⟨[], []⟩)
 (.chk (.ci .geq (.con (.v (.int .u64 1))) (.con (.int 0)))
 (.brk ⟨[(22, (.ai .sub .i64 (.ai .add .i64 (.conv .i64 (.ai .shr .u64 (.conv .u64 (.ai .add .i64 (.r 1) (.r 3))) (.con (.v (.int .u64 1))))) (.r 2)) (.con (.int 1)))), (148, (.ai .sub .i64 (.ai .add .i64 (.conv .i64 (.ai .shr .u64 (.conv .u64 (.ai .add .i64 (.r 1) (.r 3))) (.con (.v (.int .u64 1))))) (.r 2)) (.con (.int 1)))), (147, (.ai .add .i64 (.conv .i64 (.ai .shr .u64 (.conv .u64 (.ai .add .i64 (.r 1) (.r 3))) (.con (.v (.int .u64 1))))) (.r 2))), (20, (.pick (.ci .gtr (.r 2) (.conv .i64 (.ai .shr .u64 (.conv .u64 (.ai .add .i64 (.r 1) (.r 3))) (.con (.v (.int .u64 1)))))) (.ai .sub .i64 (.ai .add .i64 (.conv .i64 (.ai .shr .u64 (.conv .u64 (.ai .add .i64 (.r 1) (.r 3))) (.con (.v (.int .u64 1))))) (.r 2)) (.r 3)) (.r 1))), (21, (.pick (.ci .gtr (.r 2) (.conv .i64 (.ai .shr .u64 (.conv .u64 (.ai .add .i64 (.r 1) (.r 3))) (.con (.v (.int .u64 1)))))) (.conv .i64 (.ai .shr .u64 (.conv .u64 (.ai .add .i64 (.r 1) (.r 3))) (.con (.v (.int .u64 1))))) (.r 2))), (140, (.ci .gtr (.r 2) (.conv .i64 (.ai .shr .u64 (.conv .u64 (.ai .add .i64 (.r 1) (.r 3))) (.con (.v (.int .u64 1))))))), (139, (.conv .i64 (.ai .shr .u64 (.conv .u64 (.ai .add .i64 (.r 1) (.r 3))) (.con (.v (.int .u64 1)))))), (138, (.r 2)), (21, (.con (.int 0))), (20, (.con (.int 0))), (19, (.ai .add .i64 (.conv .i64 (.ai .shr .u64 (.conv .u64 (.ai .add .i64 (.r 1) (.r 3))) (.con (.v (.int .u64 1))))) (.r 2))), (137, (.ai .add .i64 (.conv .i64 (.ai .shr .u64 (.conv .u64 (.ai .add .i64 (.r 1) (.r 3))) (.con (.v (.int .u64 1))))) (.r 2))), (136, (.r 2)), (135, (.conv .i64 (.ai .shr .u64 (.conv .u64 (.ai .add .i64 (.r 1) (.r 3))) (.con (.v (.int .u64 1)))))), (18, (.conv .i64 (.ai .shr .u64 (.conv .u64 (.ai .add .i64 (.r 1) (.r 3))) (.con (.v (.int .u64 1)))))), (134, (.conv .i64 (.ai .shr .u64 (.conv .u64 (.ai .add .i64 (.r 1) (.r 3))) (.con (.v (.int .u64 1)))))), (133, (.ai .shr .u64 (.conv .u64 (.ai .add .i64 (.r 1) (.r 3))) (.con (.v (.int .u64 1))))), (132, (.conv .u64 (.ai .add .i64 (.r 1) (.r 3)))), (131, (.ai .add .i64 (.r 1) (.r 3))), (130, (.r 3)), (129, (.r 1))], []⟩
  lp46_4
 (.iteS ⟨[(185, (.pick (.ci .lss (.r 20) (.r 2)) (.ci .lss (.r 2) (.ai .sub .i64 (.r 19) (.r 20))) (.con (.bool false)))), (184, (.ci .lss (.r 2) (.ai .sub .i64 (.r 19) (.r 20)))), (183, (.ai .sub .i64 (.r 19) (.r 20))), (182, (.r 2)), (181, (.ci .lss (.r 20) (.r 2))), (180, (.ci .lss (.r 20) (.r 2))), (179, (.r 2)), (178, (.r 20)), (24, (.ai .sub .i64 (.r 19) (.r 20))), (177, (.ai .sub .i64 (.r 19) (.r 20))), (176, (.r 20)), (175, (.r 19))], []⟩ (.r 185) [] [0]
  (.mcall ⟨[(190, (.r 4)), (189, (.r 24)), (188, (.r 2)), (187, (.r 20)), (186, (.r 0))], []⟩ 1000000013 58 [(.con .none), (.r 187), (.r 188), (.r 189), (.r 190), (.o 0)]
  (.next ⟨[(191, (.tget (.o 1000000013) 0))], [(0, (.tget (.o 1000000013) 1))]⟩))
  (.next ⟨[], []⟩)
 (.iteS ⟨[(199, (.pick (.ci .lss (.r 1) (.r 20)) (.ci .lss (.r 20) (.r 18)) (.con (.bool false)))), (198, (.ci .lss (.r 20) (.r 18))), (197, (.r 18)), (196, (.r 20)), (195, (.ci .lss (.r 1) (.r 20))), (194, (.ci .lss (.r 1) (.r 20))), (193, (.r 20)), (192, (.r 1))], []⟩ (.r 199) [] [0]
  (.mcall ⟨[(204, (.r 4)), (203, (.r 18)), (202, (.r 20)), (201, (.r 1)), (200, (.r 0))], []⟩ 1000000013 46 [(.con .none), (.r 201), (.r 202), (.r 203), (.r 204), (.o 0)]
  (.next ⟨[(205, (.tget (.o 1000000013) 0))], [(0, (.tget (.o 1000000013) 1))]⟩))
  (.next ⟨[], []⟩)
 (.iteS ⟨[(213, (.pick (.ci .lss (.r 18) (.r 24)) (.ci .lss (.r 24) (.r 3)) (.con (.bool false)))), (212, (.ci .lss (.r 24) (.r 3))), (211, (.r 3)), (210, (.r 24)), (209, (.ci .lss (.r 18) (.r 24))), (208, (.ci .lss (.r 18) (.r 24))), (207, (.r 24)), (206, (.r 18))], []⟩ (.r 213) [] [0]
  (.mcall ⟨[(218, (.r 4)), (217, (.r 3)), (216, (.r 24)), (215, (.r 18)), (214, (.r 0))], []⟩ 1000000013 46 [(.con .none), (.r 215), (.r 216), (.r 217), (.r 218), (.o 0)]
  (.next ⟨[(219, (.tget (.o 1000000013) 0))], [(0, (.tget (.o 1000000013) 1))]⟩))
  (.next ⟨[], []⟩)
 (.ret (.tup [(.tup []), (.o 0)])))))))))
theorem tr46_eq : tree pc46 = tr46 := by kernel_rfl
/-! slices.rotateCmpFunc[int] -/
def bd58_0 : PC :=
 (.seq
  (.seq
   (.is [.setR 18 (.r 10),
     .setR 19 (.r 11),
     .setR 20 (.ci .neq (.r 18) (.r 19))])
   (.ite (.r 20) [] []
    .skip
    (.exit 0)))
  (.block 1 [10, 11, 21, 22, 23] [0]
   (.seq
    (.is [.setR 21 (.r 10),
      .setR 22 (.r 11),
      .setR 23 (.ci .gtr (.r 21) (.r 22))])
    (.ite (.r 23) [10, 11] [0]
     (.seq
      (.is [.setR 24 (.r 0),
        .setR 25 (.r 2),
        .setR 26 (.r 10),
        .setR 27 (.ai .sub .i64 (.r 25) (.r 26)),
        .setR 28 (.r 2),
        .setR 29 (.r 11),
        .setR 30 (.r 4),
        .mcall 1000000013 65 [(.con .none), (.r 27), (.r 28), (.r 29), (.r 30), (.o 0)],
        .setO 0 (.tget (.o 1000000013) 1),
        .setR 31 (.tget (.o 1000000013) 0)])
      (.is [.setR 32 (.r 10),
        .setR 33 (.r 11),
        .setR 34 (.ai .sub .i64 (.r 32) (.r 33)),
        .setR 10 (.r 34)]))
     (.seq
      (.is [.setR 35 (.r 0),
        .setR 36 (.r 2),
        .setR 37 (.r 10),
        .setR 38 (.ai .sub .i64 (.r 36) (.r 37)),
        .setR 39 (.r 2),
        .setR 40 (.r 11),
        .setR 41 (.ai .add .i64 (.r 39) (.r 40)),
        .setR 42 (.r 10),
        .setR 43 (.ai .sub .i64 (.r 41) (.r 42)),
        .setR 44 (.r 10),
        .setR 45 (.r 4),
        .mcall 1000000013 65 [(.con .none), (.r 38), (.r 43), (.r 44), (.r 45), (.o 0)],
        .setO 0 (.tget (.o 1000000013) 1),
        .setR 46 (.tget (.o 1000000013) 0)])
      (.is [.setR 47 (.r 11),
        .setR 48 (.r 10),
        .setR 49 (.ai .sub .i64 (.r 47) (.r 48)),
        .setR 11 (.r 49)]))))))
def lp58_0 : PC := .block 0 [10, 11, 18, 19, 20] [0] (.loop [10, 11] [0] bd58_0)
def rd58_0 : PT :=
 (.ite (.ci .neq (.r 10) (.r 11))
  (.blockS ⟨[(20, (.ci .neq (.r 10) (.r 11))), (19, (.r 11)), (18, (.r 10))], []⟩ 1 [10, 11, 21, 22, 23] [0]
   (.iteS ⟨[(23, (.ci .gtr (.r 10) (.r 11))), (22, (.r 11)), (21, (.r 10))], []⟩ (.r 23) [10, 11] [0]
    (.mcall ⟨[(30, (.r 4)), (29, (.r 11)), (28, (.r 2)), (27, (.ai .sub .i64 (.r 2) (.r 10))), (26, (.r 10)), (25, (.r 2)), (24, (.r 0))], []⟩ 1000000013 65 [(.con .none), (.r 27), (.r 28), (.r 29), (.r 30), (.o 0)]
    (.next ⟨[(10, (.ai .sub .i64 (.r 10) (.r 11))), (34, (.ai .sub .i64 (.r 10) (.r 11))), (33, (.r 11)), (32, (.r 10)), (31, (.tget (.o 1000000013) 0))], [(0, (.tget (.o 1000000013) 1))]⟩))
    (.mcall ⟨[(45, (.r 4)), (44, (.r 10)), (43, (.ai .sub .i64 (.ai .add .i64 (.r 2) (.r 11)) (.r 10))), (42, (.r 10)), (41, (.ai .add .i64 (.r 2) (.r 11))), (40, (.r 11)), (39, (.r 2)), (38, (.ai .sub .i64 (.r 2) (.r 10))), (37, (.r 10)), (36, (.r 2)), (35, (.r 0))], []⟩ 1000000013 65 [(.con .none), (.r 38), (.r 43), (.r 44), (.r 45), (.o 0)]
    (.next ⟨[(11, (.ai .sub .i64 (.r 11) (.r 10))), (49, (.ai .sub .i64 (.r 11) (.r 10))), (48, (.r 10)), (47, (.r 11)), (46, (.tget (.o 1000000013) 0))], [(0, (.tget (.o 1000000013) 1))]⟩))
   (.next ⟨[], []⟩))
  (.next ⟨[(10, (.r 10)), (11, (.r 11))], [(0, (.o 0))]⟩))
  (.exit 0 ⟨[(10, (.r 10)), (11, (.r 11)), (18, (.r 10)), (19, (.r 11)), (20, (.ci .neq (.r 10) (.r 11)))], [(0, (.o 0))]⟩))
theorem rd58_0_eq : round 0 [10, 11, 18, 19, 20] [0] [10, 11] [0] bd58_0 = rd58_0 := by kernel_rfl
def pc58 : PC :=
 (.seq
  (.is [.setO 0 (.r 5)])
  (.seq
   (.seq
    (.is [.setR 12 (.r 2),
      .setR 13 (.r 1),
      .setR 14 (.ai .sub .i64 (.r 12) (.r 13)),
      .setR 10 (.r 14)])
    (.seq
     (.is [.setR 15 (.r 3),
       .setR 16 (.r 2),
       .setR 17 (.ai .sub .i64 (.r 15) (.r 16)),
       .setR 11 (.r 17)])
     (.seq
      lp58_0
      (.is [.setR 50 (.r 0),
        .setR 51 (.r 2),
        .setR 52 (.r 10),
        .setR 53 (.ai .sub .i64 (.r 51) (.r 52)),
        .setR 54 (.r 2),
        .setR 55 (.r 10),
        .setR 56 (.r 4),
        .mcall 1000000013 65 [(.con .none), (.r 53), (.r 54), (.r 55), (.r 56), (.o 0)],
        .setO 0 (.tget (.o 1000000013) 1),
        .setR 57 (.tget (.o 1000000013) 0)]))))
   (.ret (.tup [(.tup []), (.o 0)]))))
def tr58 : PT :=
 (.brk ⟨[(11, (.ai .sub .i64 (.r 3) (.r 2))), (17, (.ai .sub .i64 (.r 3) (.r 2))), (16, (.r 2)), (15, (.r 3)), (10, (.ai .sub .i64 (.r 2) (.r 1))), (14, (.ai .sub .i64 (.r 2) (.r 1))), (13, (.r 1)), (12, (.r 2))], [(0, (.r 5))]⟩
  lp58_0
 (.mcall ⟨[(56, (.r 4)), (55, (.r 10)), (54, (.r 2)), (53, (.ai .sub .i64 (.r 2) (.r 10))), (52, (.r 10)), (51, (.r 2)), (50, (.r 0))], []⟩ 1000000013 65 [(.con .none), (.r 53), (.r 54), (.r 55), (.r 56), (.o 0)]
 (.ret (.tup [(.tup []), (.tget (.o 1000000013) 1)]))))
theorem tr58_eq : tree pc58 = tr58 := by kernel_rfl
/-! slices.swapRangeCmpFunc[int] -/
def bd65_0 : PC :=
 (.seq
  (.seq
   (.is [.setR 11 (.r 10),
     .setR 12 (.r 3),
     .setR 13 (.ci .lss (.r 11) (.r 12))])
   (.ite (.r 13) [] []
    .skip
    (.exit 0)))
  (.seq
   (.block 1 [16, 17, 18, 19, 20, 21, 22, 23, 24, 25, 26, 27, 28, 29, 30, 31, 32, 33, 34, 35, 36, 37] [0]
    (.is [.setR 16 (.r 0),
      .setR 17 (.r 1),
      .setR 18 (.r 10),
      .setR 19 (.ai .add .i64 (.r 17) (.r 18)),
      .setR 20 (.r 0),
      .setR 21 (.r 2),
      .setR 22 (.r 10),
      .setR 23 (.ai .add .i64 (.r 21) (.r 22)),
      .setR 24 (.r 0),
      .setR 25 (.r 2),
      .setR 26 (.r 10),
      .setR 27 (.ai .add .i64 (.r 25) (.r 26)),
      .chk (.idx (.o 0) (.r 27)),
      .setR 28 (.r 27),
      .setR 29 (.nth (.o 0) (.r 28)),
      .setR 30 (.r 0),
      .setR 31 (.r 1),
      .setR 32 (.r 10),
      .setR 33 (.ai .add .i64 (.r 31) (.r 32)),
      .chk (.idx (.o 0) (.r 33)),
      .setR 34 (.r 33),
      .setR 35 (.nth (.o 0) (.r 34)),
      .chk (.idx (.o 0) (.r 19)),
      .setR 36 (.r 19),
      .setO 0 (.setn (.o 0) (.r 36) 0 (.r 29)),
      .chk (.idx (.o 0) (.r 23)),
      .setR 37 (.r 23),
      .setO 0 (.setn (.o 0) (.r 37) 0 (.r 35))]))
   (.is [.setR 14 (.r 10),
     .setR 15 (.ai .add .i64 (.r 14) (.con (.int 1))),
     .setR 10 (.r 15)])))
def lp65_0 : PC := .block 0 [10, 11, 12, 13] [0] (.loop [10] [0] bd65_0)
def rd65_0 : PT :=
 (.ite (.ci .lss (.r 10) (.r 3))
  (.chk (.idx (.o 0) (.ai .add .i64 (.r 2) (.r 10)))
  (.chk (.idx (.o 0) (.ai .add .i64 (.r 1) (.r 10)))
  (.chk (.idx (.setn (.o 0) (.ai .add .i64 (.r 1) (.r 10)) 0 (.nth (.o 0) (.ai .add .i64 (.r 2) (.r 10)))) (.ai .add .i64 (.r 2) (.r 10)))
  (.next ⟨[(10, (.ai .add .i64 (.r 10) (.con (.int 1))))], [(0, (.setn (.setn (.o 0) (.ai .add .i64 (.r 1) (.r 10)) 0 (.nth (.o 0) (.ai .add .i64 (.r 2) (.r 10)))) (.ai .add .i64 (.r 2) (.r 10)) 0 (.nth (.o 0) (.ai .add .i64 (.r 1) (.r 10)))))]⟩))))
  (.exit 0 ⟨[(10, (.r 10)), (11, (.r 10)), (12, (.r 3)), (13, (.ci .lss (.r 10) (.r 3)))], [(0, (.o 0))]⟩))
theorem rd65_0_eq : round 0 [10, 11, 12, 13] [0] [10] [0] bd65_0 = rd65_0 := by kernel_rfl
def pc65 : PC :=
 (.seq
  (.is [.setO 0 (.r 5)])
  (.seq
   (.seq
    (.is [.setR 10 (.con (.int 0))])
    lp65_0)
   (.ret (.tup [(.tup []), (.o 0)]))))
def tr65 : PT :=
 (.brk ⟨[(10, (.con (.int 0)))], [(0, (.r 5))]⟩
  lp65_0
 (.ret (.tup [(.tup []), (.o 0)])))
theorem tr65_eq : tree pc65 = tr65 := by kernel_rfl
/-! slices.Sort[[]int,int] -/
def pc32 : PC :=
 (.seq
  (.is [.setO 0 (.r 1)])
  (.seq
   (.seq
    (.is [.setR 3 (.r 0),
      .setR 4 (.llen (.o 0)),
      .setR 2 (.r 4)])
    (.is [.setR 5 (.r 0),
      .setR 6 (.r 2),
      .setR 7 (.r 2),
      .setR 8 (.conv .u64 (.r 7)),
      .call [] 9 43 [(.r 8)],
      .mcall 1000000013 42 [(.con .none), (.con (.int 0)), (.r 6), (.r 9), (.o 0)],
      .setO 0 (.tget (.o 1000000013) 1),
      .setR 10 (.tget (.o 1000000013) 0)]))
   (.ret (.tup [(.tup []), (.o 0)]))))
/-! math/bits.Len -/
def pc43 : PC :=
 (.seq
  (.is [.setR 2 (.con (.int 0))])
  (.seq
   (.ite (.con (.bool false)) [2] []
    (.seq
     (.is [.setR 3 (.r 0),
       .setR 4 (.conv .u32 (.r 3)),
       .call [] 5 56 [(.r 4)],
       .setR 2 (.r 5)])
     (.ret (.r 2)))
    .skip)
   (.seq
    (.is [.setR 6 (.r 0),
      .call [] 7 57 [(.r 6)],
      .setR 2 (.r 7)])
    (.ret (.r 2)))))
/-! math/bits.Len32 -/
def pc56 : PC :=
 (.seq
  (.is [.setR 2 (.con (.int 0))])
  (.seq
   (.seq
    (.is [.setR 3 (.r 0),
      .setR 4 (.ci .geq (.r 3) (.con (.v (.int .u32 65536))))])
    (.ite (.r 4) [0, 2] []
     (.seq
      (.is [.setR 5 (.r 0),
        .chk (.ci .geq (.con (.v (.int .u64 16))) (.con (.int 0))),
        .setR 6 (.ai .shr .u32 (.r 5) (.con (.v (.int .u64 16)))),
        .setR 0 (.r 6)])
      (.is [.setR 2 (.con (.int 16))]))
     .skip))
   (.seq
    (.seq
     (.is [.setR 7 (.r 0),
       .setR 8 (.ci .geq (.r 7) (.con (.v (.int .u32 256))))])
     (.ite (.r 8) [0, 2] []
      (.seq
       (.is [.setR 9 (.r 0),
         .chk (.ci .geq (.con (.v (.int .u64 8))) (.con (.int 0))),
         .setR 10 (.ai .shr .u32 (.r 9) (.con (.v (.int .u64 8)))),
         .setR 0 (.r 10)])
       (.is [.setR 11 (.r 2),
         .setR 12 (.ai .add .i64 (.r 11) (.con (.int 8))),
         .setR 2 (.r 12)]))
      .skip))
    (.seq
     (.is [.setR 13 (.r 2),
       .setR 14 (.r 0),
       .setR 15 (.conv .u8 (.r 14)),
       .chk (.sok (.con (.v (.string ⟨#[0, 1, 2, 2, 3, 3, 3, 3, 4, 4, 4, 4, 4, 4, 4, 4, 5, 5, 5, 5, 5, 5, 5, 5, 5, 5, 5, 5, 5, 5, 5, 5, 6, 6, 6, 6, 6, 6, 6, 6, 6, 6, 6, 6, 6, 6, 6, 6, 6, 6, 6, 6, 6, 6, 6, 6, 6, 6, 6, 6, 6, 6, 6, 6, 7, 7, 7, 7, 7, 7, 7, 7, 7, 7, 7, 7, 7, 7, 7, 7, 7, 7, 7, 7, 7, 7, 7, 7, 7, 7, 7, 7, 7, 7, 7, 7, 7, 7, 7, 7, 7, 7, 7, 7, 7, 7, 7, 7, 7, 7, 7, 7, 7, 7, 7, 7, 7, 7, 7, 7, 7, 7, 7, 7, 7, 7, 7, 7, 8, 8, 8, 8, 8, 8, 8, 8, 8, 8, 8, 8, 8, 8, 8, 8, 8, 8, 8, 8, 8, 8, 8, 8, 8, 8, 8, 8, 8, 8, 8, 8, 8, 8, 8, 8, 8, 8, 8, 8, 8, 8, 8, 8, 8, 8, 8, 8, 8, 8, 8, 8, 8, 8, 8, 8, 8, 8, 8, 8, 8, 8, 8, 8, 8, 8, 8, 8, 8, 8, 8, 8, 8, 8, 8, 8, 8, 8, 8, 8, 8, 8, 8, 8, 8, 8, 8, 8, 8, 8, 8, 8, 8, 8, 8, 8, 8, 8, 8, 8, 8, 8, 8, 8, 8, 8, 8, 8, 8, 8, 8, 8, 8, 8, 8, 8, 8, 8, 8, 8, 8, 8, 8, 8, 8, 8, 8, 8]⟩))) (.r 15)),
       .setR 16 (.sidx (.con (.v (.string ⟨#[0, 1, 2, 2, 3, 3, 3, 3, 4, 4, 4, 4, 4, 4, 4, 4, 5, 5, 5, 5, 5, 5, 5, 5, 5, 5, 5, 5, 5, 5, 5, 5, 6, 6, 6, 6, 6, 6, 6, 6, 6, 6, 6, 6, 6, 6, 6, 6, 6, 6, 6, 6, 6, 6, 6, 6, 6, 6, 6, 6, 6, 6, 6, 6, 7, 7, 7, 7, 7, 7, 7, 7, 7, 7, 7, 7, 7, 7, 7, 7, 7, 7, 7, 7, 7, 7, 7, 7, 7, 7, 7, 7, 7, 7, 7, 7, 7, 7, 7, 7, 7, 7, 7, 7, 7, 7, 7, 7, 7, 7, 7, 7, 7, 7, 7, 7, 7, 7, 7, 7, 7, 7, 7, 7, 7, 7, 7, 7, 8, 8, 8, 8, 8, 8, 8, 8, 8, 8, 8, 8, 8, 8, 8, 8, 8, 8, 8, 8, 8, 8, 8, 8, 8, 8, 8, 8, 8, 8, 8, 8, 8, 8, 8, 8, 8, 8, 8, 8, 8, 8, 8, 8, 8, 8, 8, 8, 8, 8, 8, 8, 8, 8, 8, 8, 8, 8, 8, 8, 8, 8, 8, 8, 8, 8, 8, 8, 8, 8, 8, 8, 8, 8, 8, 8, 8, 8, 8, 8, 8, 8, 8, 8, 8, 8, 8, 8, 8, 8, 8, 8, 8, 8, 8, 8, 8, 8, 8, 8, 8, 8, 8, 8, 8, 8, 8, 8, 8, 8, 8, 8, 8, 8, 8, 8, 8, 8, 8, 8, 8, 8, 8, 8, 8, 8, 8, 8]⟩))) (.r 15)),
       .setR 17 (.conv .i64 (.r 16)),
       .setR 18 (.ai .add .i64 (.r 13) (.r 17)),
       .setR 2 (.r 18)])
     (.ret (.r 2))))))
/-! math/bits.Len64 -/
def pc57 : PC :=
 (.seq
  (.is [.setR 2 (.con (.int 0))])
  (.seq
   (.seq
    (.is [.setR 3 (.r 0),
      .setR 4 (.ci .geq (.r 3) (.con (.v (.int .u64 4294967296))))])
    (.ite (.r 4) [0, 2] []
     (.seq
      (.is [.setR 5 (.r 0),
        .chk (.ci .geq (.con (.v (.int .u64 32))) (.con (.int 0))),
        .setR 6 (.ai .shr .u64 (.r 5) (.con (.v (.int .u64 32)))),
        .setR 0 (.r 6)])
      (.is [.setR 2 (.con (.int 32))]))
     .skip))
   (.seq
    (.seq
     (.is [.setR 7 (.r 0),
       .setR 8 (.ci .geq (.r 7) (.con (.v (.int .u64 65536))))])
     (.ite (.r 8) [0, 2] []
      (.seq
       (.is [.setR 9 (.r 0),
         .chk (.ci .geq (.con (.v (.int .u64 16))) (.con (.int 0))),
         .setR 10 (.ai .shr .u64 (.r 9) (.con (.v (.int .u64 16)))),
         .setR 0 (.r 10)])
       (.is [.setR 11 (.r 2),
         .setR 12 (.ai .add .i64 (.r 11) (.con (.int 16))),
         .setR 2 (.r 12)]))
      .skip))
    (.seq
     (.seq
      (.is [.setR 13 (.r 0),
        .setR 14 (.ci .geq (.r 13) (.con (.v (.int .u64 256))))])
      (.ite (.r 14) [0, 2] []
       (.seq
        (.is [.setR 15 (.r 0),
          .chk (.ci .geq (.con (.v (.int .u64 8))) (.con (.int 0))),
          .setR 16 (.ai .shr .u64 (.r 15) (.con (.v (.int .u64 8)))),
          .setR 0 (.r 16)])
        (.is [.setR 17 (.r 2),
          .setR 18 (.ai .add .i64 (.r 17) (.con (.int 8))),
          .setR 2 (.r 18)]))
       .skip))
     (.seq
      (.is [.setR 19 (.r 2),
        .setR 20 (.r 0),
        .setR 21 (.conv .u8 (.r 20)),
        .chk (.sok (.con (.v (.string ⟨#[0, 1, 2, 2, 3, 3, 3, 3, 4, 4, 4, 4, 4, 4, 4, 4, 5, 5, 5, 5, 5, 5, 5, 5, 5, 5, 5, 5, 5, 5, 5, 5, 6, 6, 6, 6, 6, 6, 6, 6, 6, 6, 6, 6, 6, 6, 6, 6, 6, 6, 6, 6, 6, 6, 6, 6, 6, 6, 6, 6, 6, 6, 6, 6, 7, 7, 7, 7, 7, 7, 7, 7, 7, 7, 7, 7, 7, 7, 7, 7, 7, 7, 7, 7, 7, 7, 7, 7, 7, 7, 7, 7, 7, 7, 7, 7, 7, 7, 7, 7, 7, 7, 7, 7, 7, 7, 7, 7, 7, 7, 7, 7, 7, 7, 7, 7, 7, 7, 7, 7, 7, 7, 7, 7, 7, 7, 7, 7, 8, 8, 8, 8, 8, 8, 8, 8, 8, 8, 8, 8, 8, 8, 8, 8, 8, 8, 8, 8, 8, 8, 8, 8, 8, 8, 8, 8, 8, 8, 8, 8, 8, 8, 8, 8, 8, 8, 8, 8, 8, 8, 8, 8, 8, 8, 8, 8, 8, 8, 8, 8, 8, 8, 8, 8, 8, 8, 8, 8, 8, 8, 8, 8, 8, 8, 8, 8, 8, 8, 8, 8, 8, 8, 8, 8, 8, 8, 8, 8, 8, 8, 8, 8, 8, 8, 8, 8, 8, 8, 8, 8, 8, 8, 8, 8, 8, 8, 8, 8, 8, 8, 8, 8, 8, 8, 8, 8, 8, 8, 8, 8, 8, 8, 8, 8, 8, 8, 8, 8, 8, 8, 8, 8, 8, 8, 8, 8]⟩))) (.r 21)),
        .setR 22 (.sidx (.con (.v (.string ⟨#[0, 1, 2, 2, 3, 3, 3, 3, 4, 4, 4, 4, 4, 4, 4, 4, 5, 5, 5, 5, 5, 5, 5, 5, 5, 5, 5, 5, 5, 5, 5, 5, 6, 6, 6, 6, 6, 6, 6, 6, 6, 6, 6, 6, 6, 6, 6, 6, 6, 6, 6, 6, 6, 6, 6, 6, 6, 6, 6, 6, 6, 6, 6, 6, 7, 7, 7, 7, 7, 7, 7, 7, 7, 7, 7, 7, 7, 7, 7, 7, 7, 7, 7, 7, 7, 7, 7, 7, 7, 7, 7, 7, 7, 7, 7, 7, 7, 7, 7, 7, 7, 7, 7, 7, 7, 7, 7, 7, 7, 7, 7, 7, 7, 7, 7, 7, 7, 7, 7, 7, 7, 7, 7, 7, 7, 7, 7, 7, 8, 8, 8, 8, 8, 8, 8, 8, 8, 8, 8, 8, 8, 8, 8, 8, 8, 8, 8, 8, 8, 8, 8, 8, 8, 8, 8, 8, 8, 8, 8, 8, 8, 8, 8, 8, 8, 8, 8, 8, 8, 8, 8, 8, 8, 8, 8, 8, 8, 8, 8, 8, 8, 8, 8, 8, 8, 8, 8, 8, 8, 8, 8, 8, 8, 8, 8, 8, 8, 8, 8, 8, 8, 8, 8, 8, 8, 8, 8, 8, 8, 8, 8, 8, 8, 8, 8, 8, 8, 8, 8, 8, 8, 8, 8, 8, 8, 8, 8, 8, 8, 8, 8, 8, 8, 8, 8, 8, 8, 8, 8, 8, 8, 8, 8, 8, 8, 8, 8, 8, 8, 8, 8, 8, 8, 8, 8, 8]⟩))) (.r 21)),
        .setR 23 (.conv .i64 (.r 22)),
        .setR 24 (.ai .add .i64 (.r 19) (.r 23)),
        .setR 2 (.r 24)])
      (.ret (.r 2)))))))
/-! slices.pdqsortOrdered[int] -/
def bd42_0 : PC :=
 (.block 1 [1, 2, 3, 8, 9, 10, 11, 12, 19, 20, 21, 22, 23, 28, 29, 34, 35, 42, 43, 44, 45, 46, 47, 48, 49, 50, 61, 62, 64, 65, 68, 73, 74, 75, 87] [0]
  (.seq
   (.is [.setR 19 (.r 2),
     .setR 20 (.r 1),
     .setR 21 (.ai .sub .i64 (.r 19) (.r 20)),
     .setR 10 (.r 21)])
   (.seq
    (.seq
     (.is [.setR 22 (.r 10),
       .setR 23 (.ci .leq (.r 22) (.con (.int 12)))])
     (.ite (.r 23) [] [0]
      (.seq
       (.is [.setR 24 (.r 0),
         .setR 25 (.r 1),
         .setR 26 (.r 2),
         .mcall 1000000013 47 [(.con .none), (.r 25), (.r 26), (.o 0)],
         .setO 0 (.tget (.o 1000000013) 1),
         .setR 27 (.tget (.o 1000000013) 0)])
       (.ret (.tup [(.tup []), (.o 0)])))
      .skip))
    (.seq
     (.seq
      (.is [.setR 28 (.r 3),
        .setR 29 (.ci .eql (.r 28) (.con (.int 0)))])
      (.ite (.r 29) [] [0]
       (.seq
        (.is [.setR 30 (.r 0),
          .setR 31 (.r 1),
          .setR 32 (.r 2),
          .mcall 1000000013 48 [(.con .none), (.r 31), (.r 32), (.o 0)],
          .setO 0 (.tget (.o 1000000013) 1),
          .setR 33 (.tget (.o 1000000013) 0)])
        (.ret (.tup [(.tup []), (.o 0)])))
       .skip))
     (.seq
      (.seq
       (.is [.setR 34 (.r 8),
         .setR 35 (.nt (.r 34))])
       (.ite (.r 35) [3] [0]
        (.seq
         (.is [.setR 36 (.r 0),
           .setR 37 (.r 1),
           .setR 38 (.r 2),
           .mcall 1000000013 49 [(.con .none), (.r 37), (.r 38), (.o 0)],
           .setO 0 (.tget (.o 1000000013) 1),
           .setR 39 (.tget (.o 1000000013) 0)])
         (.is [.setR 40 (.r 3),
           .setR 41 (.ai .sub .i64 (.r 40) (.con (.int 1))),
           .setR 3 (.r 41)]))
        .skip))
      (.seq
       (.is [.setR 43 (.r 0),
         .setR 44 (.r 1),
         .setR 45 (.r 2),
         .call [] 46 50 [(.o 0), (.r 44), (.r 45)],
         .setR 42 (.r 46),
         .setR 47 (.tget (.r 42) 0),
         .setR 48 (.tget (.r 42) 1),
         .setR 11 (.r 47),
         .setR 12 (.r 48)])
       (.seq
        (.seq
         (.is [.setR 49 (.r 12),
           .setR 50 (.ci .eql (.r 49) (.con (.int 2)))])
         (.ite (.r 50) [11, 12] [0]
          (.seq
           (.is [.setR 51 (.r 0),
             .setR 52 (.r 1),
             .setR 53 (.r 2),
             .mcall 1000000013 51 [(.con .none), (.r 52), (.r 53), (.o 0)],
             .setO 0 (.tget (.o 1000000013) 1),
             .setR 54 (.tget (.o 1000000013) 0)])
           (.seq
            (.is [.setR 55 (.r 2),
              .setR 56 (.ai .sub .i64 (.r 55) (.con (.int 1))),
              .setR 57 (.r 11),
              .setR 58 (.r 1),
              .setR 59 (.ai .sub .i64 (.r 57) (.r 58)),
              .setR 60 (.ai .sub .i64 (.r 56) (.r 59)),
              .setR 11 (.r 60)])
            (.is [.setR 12 (.con (.int 1))])))
          .skip))
        (.seq
         (.seq
          (.is [.setR 61 (.r 8),
            .setR 62 (.r 61),
            .setR 63 (.r 9),
            .setR 64 (.pick (.r 62) (.r 63) (.con (.bool false))),
            .setR 65 (.r 64),
            .setR 66 (.r 12),
            .setR 67 (.ci .eql (.r 66) (.con (.int 1))),
            .setR 68 (.pick (.r 65) (.r 67) (.con (.bool false)))])
          (.ite (.r 68) [] [0]
           (.seq
            (.is [.setR 69 (.r 0),
              .setR 70 (.r 1),
              .setR 71 (.r 2),
              .mcall 1000000013 52 [(.con .none), (.r 70), (.r 71), (.o 0)],
              .setO 0 (.tget (.o 1000000013) 1),
              .setR 72 (.tget (.o 1000000013) 0)])
            (.ite (.r 72) [] []
             (.ret (.tup [(.tup []), (.o 0)]))
             .skip))
           .skip))
         (.seq
          (.seq
           (.is [.setR 73 (.r 1),
             .setR 74 (.ci .gtr (.r 73) (.con (.int 0))),
             .setR 75 (.r 74),
             .setR 76 (.r 0),
             .setR 77 (.r 1),
             .setR 78 (.ai .sub .i64 (.r 77) (.con (.int 1))),
             .chk (.imp [(75, true)] (.idx (.o 0) (.r 78))),
             .setR 79 (.r 78),
             .setR 80 (.nth (.o 0) (.r 79)),
             .setR 81 (.r 0),
             .setR 82 (.r 11),
             .chk (.imp [(75, true)] (.idx (.o 0) (.r 82))),
             .setR 83 (.r 82),
             .setR 84 (.nth (.o 0) (.r 83)),
             .call [(75, true)] 85 53 [(.r 80), (.r 84)],
             .setR 86 (.nt (.r 85)),
             .setR 87 (.pick (.r 75) (.r 86) (.con (.bool false)))])
           (.ite (.r 87) [1] [0]
            (.seq
             (.is [.setR 88 (.r 0),
               .setR 89 (.r 1),
               .setR 90 (.r 2),
               .setR 91 (.r 11),
               .mcall 1000000013 54 [(.con .none), (.r 89), (.r 90), (.r 91), (.o 0)],
               .setO 0 (.tget (.o 1000000013) 1),
               .setR 92 (.tget (.o 1000000013) 0),
               .setR 13 (.r 92)])
             (.seq
              (.is [.setR 93 (.r 13),
                .setR 1 (.r 93)])
              (.exit 1)))
            .skip))
          (.seq
           (.is [.setR 95 (.r 0),
             .setR 96 (.r 1),
             .setR 97 (.r 2),
             .setR 98 (.r 11),
             .mcall 1000000013 55 [(.con .none), (.r 96), (.r 97), (.r 98), (.o 0)],
             .setO 0 (.tget (.o 1000000013) 1),
             .setR 99 (.tget (.o 1000000013) 0),
             .setR 94 (.r 99),
             .setR 100 (.tget (.r 94) 0),
             .setR 101 (.tget (.r 94) 1),
             .setR 14 (.r 100),
             .setR 15 (.r 101)])
           (.seq
            (.is [.setR 102 (.r 15),
              .setR 9 (.r 102)])
            (.seq
             (.is [.setR 103 (.r 14),
               .setR 104 (.r 1),
               .setR 105 (.ai .sub .i64 (.r 103) (.r 104)),
               .setR 106 (.r 2),
               .setR 107 (.r 14),
               .setR 108 (.ai .sub .i64 (.r 106) (.r 107)),
               .setR 16 (.r 105),
               .setR 17 (.r 108)])
             (.seq
              (.is [.setR 109 (.r 10),
                .chk (.ci .neq (.con (.int 8)) (.con (.int 0))),
                .setR 110 (.ai .quo .i64 (.r 109) (.con (.int 8))),
                .setR 18 (.r 110)])
              (.seq
               (.is [.setR 111 (.r 16),
                 .setR 112 (.r 17),
                 .setR 113 (.ci .lss (.r 111) (.r 112))])
               (.ite (.r 113) [1, 2, 8] [0]
                (.seq
                 (.is [.setR 114 (.r 16),
                   .setR 115 (.r 18),
                   .setR 116 (.ci .geq (.r 114) (.r 115)),
                   .setR 8 (.r 116)])
                 (.seq
                  (.is [.setR 117 (.r 0),
                    .setR 118 (.r 1),
                    .setR 119 (.r 14),
                    .setR 120 (.r 3),
                    .mcall 1000000013 42 [(.con .none), (.r 118), (.r 119), (.r 120), (.o 0)],
                    .setO 0 (.tget (.o 1000000013) 1),
                    .setR 121 (.tget (.o 1000000013) 0)])
                  (.is [.setR 122 (.r 14),
                    .setR 123 (.ai .add .i64 (.r 122) (.con (.int 1))),
                    .setR 1 (.r 123)])))
                (.seq
                 (.is [.setR 124 (.r 17),
                   .setR 125 (.r 18),
                   .setR 126 (.ci .geq (.r 124) (.r 125)),
                   .setR 8 (.r 126)])
                 (.seq
                  (.is [.setR 127 (.r 0),
                    .setR 128 (.r 14),
                    .setR 129 (.ai .add .i64 (.r 128) (.con (.int 1))),
                    .setR 130 (.r 2),
                    .setR 131 (.r 3),
                    .mcall 1000000013 42 [(.con .none), (.r 129), (.r 130), (.r 131), (.o 0)],
                    .setO 0 (.tget (.o 1000000013) 1),
                    .setR 132 (.tget (.o 1000000013) 0)])
                  (.is [.setR 133 (.r 14),
                    .setR 2 (.r 133)]))))))))))))))))))
def lp42_0 : PC := .block 0 [] [] (.loop [1, 2, 3, 8, 9] [0] bd42_0)
def pc42 : PC :=
 (.seq
  (.is [.setO 0 (.r 4)])
  (.seq
   (.is [.setR 8 (.con (.bool true))])
   (.seq
    (.is [.setR 9 (.con (.bool true))])
    lp42_0)))
/-! slices.insertionSortOrdered[int] -/
def bd47_0 : PC :=
 (.seq
  (.seq
   (.is [.setR 16 (.r 7),
     .setR 17 (.r 1),
     .setR 18 (.ci .gtr (.r 16) (.r 17)),
     .setR 19 (.r 18),
     .setR 20 (.r 0),
     .setR 21 (.r 7),
     .chk (.imp [(19, true)] (.idx (.o 0) (.r 21))),
     .setR 22 (.r 21),
     .setR 23 (.nth (.o 0) (.r 22)),
     .setR 24 (.r 0),
     .setR 25 (.r 7),
     .setR 26 (.ai .sub .i64 (.r 25) (.con (.int 1))),
     .chk (.imp [(19, true)] (.idx (.o 0) (.r 26))),
     .setR 27 (.r 26),
     .setR 28 (.nth (.o 0) (.r 27)),
     .call [(19, true)] 29 53 [(.r 23), (.r 28)],
     .setR 30 (.pick (.r 19) (.r 29) (.con (.bool false)))])
   (.ite (.r 30) [] []
    .skip
    (.exit 2)))
  (.seq
   (.block 3 [33, 34, 35, 36, 37, 38, 39, 40, 41, 42, 43, 44, 45, 46, 47, 48] [0]
    (.is [.setR 33 (.r 0),
      .setR 34 (.r 7),
      .setR 35 (.r 0),
      .setR 36 (.r 7),
      .setR 37 (.ai .sub .i64 (.r 36) (.con (.int 1))),
      .setR 38 (.r 0),
      .setR 39 (.r 7),
      .setR 40 (.ai .sub .i64 (.r 39) (.con (.int 1))),
      .chk (.idx (.o 0) (.r 40)),
      .setR 41 (.r 40),
      .setR 42 (.nth (.o 0) (.r 41)),
      .setR 43 (.r 0),
      .setR 44 (.r 7),
      .chk (.idx (.o 0) (.r 44)),
      .setR 45 (.r 44),
      .setR 46 (.nth (.o 0) (.r 45)),
      .chk (.idx (.o 0) (.r 34)),
      .setR 47 (.r 34),
      .setO 0 (.setn (.o 0) (.r 47) 0 (.r 42)),
      .chk (.idx (.o 0) (.r 37)),
      .setR 48 (.r 37),
      .setO 0 (.setn (.o 0) (.r 48) 0 (.r 46))]))
   (.is [.setR 31 (.r 7),
     .setR 32 (.ai .sub .i64 (.r 31) (.con (.int 1))),
     .setR 7 (.r 32)])))
def lp47_0 : PC := .block 2 [7, 16, 17, 18, 19, 30] [0] (.loop [7] [0] bd47_0)
def bd47_1 : PC :=
 (.seq
  (.seq
   (.is [.setR 10 (.r 6),
     .setR 11 (.r 2),
     .setR 12 (.ci .lss (.r 10) (.r 11))])
   (.ite (.r 12) [] []
    .skip
    (.exit 0)))
  (.seq
   (.block 1 [7, 15, 16, 17, 18, 19, 30] [0]
    (.seq
     (.is [.setR 15 (.r 6),
       .setR 7 (.r 15)])
     lp47_0))
   (.is [.setR 13 (.r 6),
     .setR 14 (.ai .add .i64 (.r 13) (.con (.int 1))),
     .setR 6 (.r 14)])))
def lp47_1 : PC := .block 0 [6, 10, 11, 12] [0] (.loop [6] [0] bd47_1)
def pc47 : PC :=
 (.seq
  (.is [.setO 0 (.r 3)])
  (.seq
   (.seq
    (.is [.setR 8 (.r 1),
      .setR 9 (.ai .add .i64 (.r 8) (.con (.int 1))),
      .setR 6 (.r 9)])
    lp47_1)
   (.ret (.tup [(.tup []), (.o 0)]))))
/-! cmp.Less[int] -/
def pc53 : PC :=
 (.seq
  (.is [.setR 4 (.con (.bool false))])
  (.seq
   (.is [.setR 5 (.r 0),
     .call [] 6 64 [(.r 5)],
     .setR 7 (.r 6),
     .setR 8 (.r 1),
     .call [(7, true)] 9 64 [(.r 8)],
     .setR 10 (.nt (.r 9)),
     .setR 11 (.pick (.r 7) (.r 10) (.con (.bool false))),
     .setR 12 (.r 11),
     .setR 13 (.r 0),
     .setR 14 (.r 1),
     .setR 15 (.ci .lss (.r 13) (.r 14)),
     .setR 16 (.pick (.r 12) (.con (.bool true)) (.r 15)),
     .setR 4 (.r 16)])
   (.ret (.r 4))))
/-! cmp.isNaN[int] -/
def pc64 : PC :=
 (.seq
  (.is [.setR 2 (.con (.bool false))])
  (.seq
   (.is [.setR 3 (.r 0),
     .setR 4 (.r 0),
     .setR 5 (.ci .neq (.r 3) (.r 4)),
     .setR 2 (.r 5)])
   (.ret (.r 2))))
/-! allonge/pool.Swap -/
def bd12_0 : PC :=
 (.seq
  (.is [.setR 29 (.ci .lss (.r 28) (.r 27))])
  (.seq
   (.ite (.r 29) [] []
    .skip
    (.exit 0))
   (.seq
    (.block 1 [10, 11, 13, 14, 30, 31, 32, 33, 34, 35, 40, 41, 53] []
     (.seq
      (.is [.setR 30 (.r 28),
        .chk (.idx (.r 26) (.r 28)),
        .setR 31 (.ref (.nth (.r 26) (.r 28))),
        .setR 32 (.deref (.r 31)),
        .setR 13 (.r 30),
        .setR 14 (.r 32)])
      (.seq
       (.is [.setR 33 (.r 14),
         .setR 34 (.ci .lss (.r 33) (.con (.int 0))),
         .setR 35 (.r 34),
         .setR 36 (.r 14),
         .setR 37 (.r 1),
         .setR 38 (.llen (.r 37)),
         .setR 39 (.ci .geq (.r 36) (.r 38)),
         .setR 40 (.pick (.r 35) (.con (.bool true)) (.r 39)),
         .setR 41 (.r 40),
         .setR 42 (.r 13),
         .setR 43 (.ci .gtr (.r 42) (.con (.int 0))),
         .setR 44 (.r 43),
         .setR 45 (.r 3),
         .setR 46 (.r 13),
         .setR 47 (.ai .sub .i64 (.r 46) (.con (.int 1))),
         .chk (.imp [(44, true), (41, false)] (.idx (.r 45) (.r 47))),
         .setR 48 (.ref (.nth (.r 45) (.r 47))),
         .setR 49 (.deref (.r 48)),
         .setR 50 (.r 14),
         .setR 51 (.ci .geq (.r 49) (.r 50)),
         .setR 52 (.pick (.r 44) (.r 51) (.con (.bool false))),
         .setR 53 (.pick (.r 41) (.con (.bool true)) (.r 52))])
       (.ite (.r 53) [10, 11] []
        (.seq
         (.is [.setR 10 (.con (.list [])),
           .setR 11 (.con (.int 4))])
         (.ret (.tup [(.r 10), (.r 11)])))
        .skip))))
    (.is [.setR 54 (.ai .add .i64 (.r 28) (.con (.int 1))),
      .setR 28 (.r 54)]))))
def lp12_0 : PC := .block 0 [10, 11, 28, 29] [] (.loop [10, 11, 28] [] bd12_0)
def rd12_0 : PT :=
 (.ite (.ci .lss (.r 28) (.r 27))
  (.chk (.idx (.r 26) (.r 28))
  (.chk (.nt (.an (.an (.ci .gtr (.r 28) (.con (.int 0))) (.an (.nt (.pick (.ci .lss (.nth (.r 26) (.r 28)) (.con (.int 0))) (.con (.bool true)) (.ci .geq (.nth (.r 26) (.r 28)) (.llen (.r 1))))) (.con (.bool true)))) (.nt (.idx (.r 3) (.ai .sub .i64 (.r 28) (.con (.int 1)))))))
  (.ite (.pick (.pick (.ci .lss (.nth (.r 26) (.r 28)) (.con (.int 0))) (.con (.bool true)) (.ci .geq (.nth (.r 26) (.r 28)) (.llen (.r 1)))) (.con (.bool true)) (.pick (.ci .gtr (.r 28) (.con (.int 0))) (.ci .geq (.nth (.r 3) (.ai .sub .i64 (.r 28) (.con (.int 1)))) (.nth (.r 26) (.r 28))) (.con (.bool false))))
   (.ret (.tup [(.con (.list [])), (.con (.int 4))]))
   (.next ⟨[(10, (.r 10)), (11, (.r 11)), (28, (.ai .add .i64 (.r 28) (.con (.int 1))))], []⟩))))
  (.exit 0 ⟨[(10, (.r 10)), (11, (.r 11)), (28, (.r 28)), (29, (.ci .lss (.r 28) (.r 27)))], []⟩))
theorem rd12_0_eq : round 0 [10, 11, 28, 29] [] [10, 11, 28] [] bd12_0 = rd12_0 := by kernel_rfl
def bd12_1 : PC :=
 (.seq
  (.is [.setR 58 (.ci .lss (.r 57) (.r 56))])
  (.seq
   (.ite (.r 58) [] []
    .skip
    (.exit 2))
   (.seq
    (.block 3 [15, 16, 17, 59, 60, 61, 62, 63, 64, 65] [17, 15]
     (.seq
      (.is [.setR 59 (.r 57),
        .chk (.idx (.r 55) (.r 57)),
        .setR 60 (.ref (.nth (.r 55) (.r 57))),
        .setR 61 (.deref (.r 60)),
        .setO 17 (.con (.agg [(.int 0), (.int 0), (.int 0)])),
        .setR 17 (.con .none),
        .setR 16 (.r 59),
        .setO 17 (.setc (.o 17) 0 (.r 61))])
      (.seq
       (.is [.setR 62 (.r 3),
         .setR 63 (.r 16),
         .call [] 64 29 [(.r 62), (.r 63)],
         .setR 65 (.nt (.r 64))])
       (.ite (.r 65) [15] [15]
        (.is [.setR 66 (.r 15),
          .setR 67 (.mk [(.cell (.o 17) 0), (.cell (.o 17) 1), (.cell (.o 17) 2)]),
          .setO 68 (.lst [(.r 67)]),
          .setR 68 (.con .none),
          .chk (.ci .leq (.llen (.app (.o 15) (.o 68))) (.con (.int 4294967296))),
          .setO 15 (.app (.o 15) (.o 68)),
          .setR 69 (.con .none),
          .setR 15 (.r 69)])
        .skip))))
    (.is [.setR 70 (.ai .add .i64 (.r 57) (.con (.int 1))),
      .setR 57 (.r 70)]))))
def lp12_1 : PC := .block 2 [15, 57, 58] [15] (.loop [15, 57] [15] bd12_1)
def rd12_1 : PT :=
 (.ite (.ci .lss (.r 57) (.r 56))
  (.blockS ⟨[(58, (.ci .lss (.r 57) (.r 56)))], []⟩ 3 [15, 16, 17, 59, 60, 61, 62, 63, 64, 65] [17, 15]
   (.chk (.idx (.r 55) (.r 57))
   (.call ⟨[(63, (.r 57)), (62, (.r 3)), (16, (.r 57)), (17, (.con .none)), (61, (.nth (.r 55) (.r 57))), (60, (.ref (.nth (.r 55) (.r 57)))), (59, (.r 57))], [(17, (.setc (.con (.agg [(.int 0), (.int 0), (.int 0)])) 0 (.nth (.r 55) (.r 57)))), (17, (.con (.agg [(.int 0), (.int 0), (.int 0)])))]⟩ [] 64 29 [(.r 62), (.r 63)]
   (.ite (.nt (.r 64))
    (.chk (.ci .leq (.llen (.app (.o 15) (.lst [(.mk [(.cell (.o 17) 0), (.cell (.o 17) 1), (.cell (.o 17) 2)])]))) (.con (.int 4294967296)))
    (.next ⟨[(15, (.con .none)), (65, (.nt (.r 64)))], [(15, (.app (.o 15) (.lst [(.mk [(.cell (.o 17) 0), (.cell (.o 17) 1), (.cell (.o 17) 2)])])))]⟩))
    (.next ⟨[(15, (.r 15)), (65, (.nt (.r 64)))], [(15, (.o 15))]⟩))))
  (.next ⟨[(15, (.r 15)), (57, (.ai .add .i64 (.r 57) (.con (.int 1))))], [(15, (.o 15))]⟩))
  (.exit 2 ⟨[(15, (.r 15)), (57, (.r 57)), (58, (.ci .lss (.r 57) (.r 56)))], [(15, (.o 15))]⟩))
theorem rd12_1_eq : round 2 [15, 57, 58] [15] [15, 57] [15] bd12_1 = rd12_1 := by kernel_rfl
def pc12 : PC :=
 (.seq
  (.is [.setO 5 (.mk [(.r 0)]),
    .setR 5 (.con .none),
    .setR 10 (.con (.list [])),
    .setR 11 (.con (.int 0))])
  (.seq
   (.seq
    (.is [.setR 19 (mkA 5 (.o 5)),
      .setR 20 (.r 1),
      .setR 21 (.r 2),
      .call [] 22 18 [(.r 19), (.r 20), (.r 21)],
      .setR 12 (.r 22)])
    (.seq
     (.is [.setR 23 (.r 12),
       .setR 24 (.ci .neq (.r 23) (.con (.int 0)))])
     (.ite (.r 24) [10, 11] []
      (.seq
       (.is [.setR 25 (.r 12),
         .setR 10 (.con (.list [])),
         .setR 11 (.r 25)])
       (.ret (.tup [(.r 10), (.r 11)])))
      .skip)))
   (.seq
    (.seq
     (.is [.setR 26 (.r 3),
       .setR 27 (.llen (.r 26)),
       .setR 28 (.con (.int 0))])
     lp12_0)
    (.seq
     (.is [.setO 15 (.con (.list [])),
       .setR 15 (.con .none)])
     (.seq
      (.seq
       (.is [.setR 55 (.r 1),
         .setR 56 (.llen (.r 55)),
         .setR 57 (.con (.int 0))])
       lp12_1)
      (.seq
       (.is [.setR 71 (.r 15),
         .setR 72 (.r 4),
         .chk (.ci .leq (.llen (.app (.o 15) (.r 72))) (.con (.int 4294967296))),
         .setO 15 (.app (.o 15) (.r 72)),
         .setR 73 (.con .none),
         .setR 15 (.r 73)])
       (.seq
        (.seq
         (.is [.setR 74 (mkA 5 (.o 5)),
           .setR 75 (.r 15),
           .setR 76 (.r 2),
           .call [] 77 18 [(.r 74), (.o 15), (.r 76)],
           .setR 18 (.r 77)])
         (.seq
          (.is [.setR 78 (.r 18),
            .setR 79 (.ci .neq (.r 78) (.con (.int 0)))])
          (.ite (.r 79) [10, 11] []
           (.seq
            (.is [.setR 80 (.r 18),
              .setR 10 (.con (.list [])),
              .setR 11 (.r 80)])
            (.ret (.tup [(.r 10), (.r 11)])))
           .skip)))
        (.seq
         (.seq
          (.is [.setR 81 (mkA 5 (.o 5)),
            .setR 82 (.r 15),
            .setR 83 (.r 2),
            .call [] 84 27 [(.r 81), (.o 15), (.r 83)],
            .setR 85 (.con .none),
            .setR 86 (.cell (.o 5) 0),
            .setR 87 (.ci .lss (.r 84) (.r 86))])
          (.ite (.r 87) [10, 11] []
           (.seq
            (.is [.setR 10 (.con (.list [])),
              .setR 11 (.con (.int 7))])
            (.ret (.tup [(.r 10), (.r 11)])))
           .skip))
         (.seq
          (.is [.setR 88 (.r 15),
            .setR 10 (.o 15),
            .setR 11 (.con (.int 0))])
          (.ret (.tup [(.r 10), (.r 11)])))))))))))
def tr12 : PT :=
 (.call ⟨[(21, (.r 2)), (20, (.r 1)), (19, (mkA 5 (.mk [(.r 0)]))), (11, (.con (.int 0))), (10, (.con (.list []))), (5, (.con .none))], [(5, (.mk [(.r 0)]))]⟩ [] 22 18 [(.r 19), (.r 20), (.r 21)]
 (.ite (.ci .neq (.r 22) (.con (.int 0)))
  (.ret (.tup [(.con (.list [])), (.r 22)]))
  (.brk ⟨[(28, (.con (.int 0))), (27, (.llen (.r 3))), (26, (.r 3)), (10, (.r 10)), (11, (.r 11)), (24, (.ci .neq (.r 22) (.con (.int 0)))), (23, (.r 22)), (12, (.r 22))], []⟩
   lp12_0
  (.brk ⟨[(57, (.con (.int 0))), (56, (.llen (.r 1))), (55, (.r 1)), (15, (.con .none))], [(15, (.con (.list [])))]⟩
   lp12_1
  (.chk (.ci .leq (.llen (.app (.o 15) (.r 4))) (.con (.int 4294967296)))
  (.call ⟨[(76, (.r 2)), (75, (.con .none)), (74, (mkA 5 (.o 5))), (15, (.con .none)), (73, (.con .none)), (72, (.r 4)), (71, (.r 15))], [(15, (.app (.o 15) (.r 4)))]⟩ [] 77 18 [(.r 74), (.o 15), (.r 76)]
  (.ite (.ci .neq (.r 77) (.con (.int 0)))
   (.ret (.tup [(.con (.list [])), (.r 77)]))
   (.call ⟨[(83, (.r 2)), (82, (.r 15)), (81, (mkA 5 (.o 5))), (10, (.r 10)), (11, (.r 11)), (79, (.ci .neq (.r 77) (.con (.int 0)))), (78, (.r 77)), (18, (.r 77))], []⟩ [] 84 27 [(.r 81), (.o 15), (.r 83)]
   (.ite (.ci .lss (.r 84) (.cell (.o 5) 0))
    (.ret (.tup [(.con (.list [])), (.con (.int 7))]))
    (.ret (.tup [(.o 15), (.con (.int 0))])))))))))))
theorem tr12_eq : tree pc12 = tr12 := by kernel_rfl
/-! slices.Contains[[]int,int] -/
def pc29 : PC :=
 (.seq
  (.is [.setR 4 (.con (.bool false))])
  (.seq
   (.is [.setR 5 (.r 0),
     .setR 6 (.r 1),
     .call [] 7 40 [(.r 5), (.r 6)],
     .setR 8 (.ci .geq (.r 7) (.con (.int 0))),
     .setR 4 (.r 8)])
   (.ret (.r 4))))
def tr29 : PT :=
 (.call ⟨[(6, (.r 1)), (5, (.r 0)), (4, (.con (.bool false)))], []⟩ [] 7 40 [(.r 5), (.r 6)]
 (.ret (.ci .geq (.r 7) (.con (.int 0)))))
theorem tr29_eq : tree pc29 = tr29 := by kernel_rfl
/-! slices.Index[[]int,int] -/
def bd40_0 : PC :=
 (.seq
  (.is [.setR 9 (.ci .lss (.r 8) (.r 7))])
  (.seq
   (.ite (.r 9) [] []
    .skip
    (.exit 0))
   (.seq
    (.block 1 [4, 5, 10, 11, 12, 13, 14, 15, 16] []
     (.seq
      (.is [.setR 10 (.r 8),
        .setR 5 (.r 10)])
      (.seq
       (.is [.setR 11 (.r 1),
         .setR 12 (.r 0),
         .setR 13 (.r 5),
         .chk (.idx (.r 12) (.r 13)),
         .setR 14 (.ref (.nth (.r 12) (.r 13))),
         .setR 15 (.deref (.r 14)),
         .setR 16 (.ci .eql (.r 11) (.r 15))])
       (.ite (.r 16) [4] []
        (.seq
         (.is [.setR 17 (.r 5),
           .setR 4 (.r 17)])
         (.ret (.r 4)))
        .skip))))
    (.is [.setR 18 (.ai .add .i64 (.r 8) (.con (.int 1))),
      .setR 8 (.r 18)]))))
def lp40_0 : PC := .block 0 [4, 8, 9] [] (.loop [4, 8] [] bd40_0)
def rd40_0 : PT :=
 (.ite (.ci .lss (.r 8) (.r 7))
  (.chk (.idx (.r 0) (.r 8))
  (.ite (.ci .eql (.r 1) (.nth (.r 0) (.r 8)))
   (.ret (.r 8))
   (.next ⟨[(4, (.r 4)), (8, (.ai .add .i64 (.r 8) (.con (.int 1))))], []⟩)))
  (.exit 0 ⟨[(4, (.r 4)), (8, (.r 8)), (9, (.ci .lss (.r 8) (.r 7)))], []⟩))
theorem rd40_0_eq : round 0 [4, 8, 9] [] [4, 8] [] bd40_0 = rd40_0 := by kernel_rfl
def pc40 : PC :=
 (.seq
  (.is [.setR 4 (.con (.int 0))])
  (.seq
   (.seq
    (.is [.setR 6 (.r 0),
      .setR 7 (.llen (.r 6)),
      .setR 8 (.con (.int 0))])
    lp40_0)
   (.seq
    (.is [.setR 4 (.con (.int (-1)))])
    (.ret (.r 4)))))
def tr40 : PT :=
 (.brk ⟨[(8, (.con (.int 0))), (7, (.llen (.r 0))), (6, (.r 0)), (4, (.con (.int 0)))], []⟩
  lp40_0
 (.ret (.con (.int (-1)))))
theorem tr40_eq : tree pc40 = tr40 := by kernel_rfl
/-! allonge/pool.Until -/
def bd16_0 : PC :=
 (.seq
  (.is [.setR 26 (.ci .lss (.r 25) (.r 24))])
  (.seq
   (.ite (.r 26) [] []
    .skip
    (.exit 0))
   (.seq
    (.block 1 [9, 11, 27, 28, 29, 30, 31, 32, 33, 37] [11, 9]
     (.seq
      (.is [.chk (.idx (.r 23) (.r 25)),
        .setR 27 (.ref (.nth (.r 23) (.r 25))),
        .setR 28 (.deref (.r 27)),
        .setO 11 (.con (.agg [(.int 0), (.int 0), (.int 0)])),
        .setR 11 (.con .none),
        .setO 11 (.setc (.o 11) 0 (.r 28))])
      (.seq
       (.is [.setR 29 (.con .none),
         .setR 30 (.cell (.o 11) 1),
         .setR 31 (.r 2),
         .setR 32 (.ci .geq (.r 30) (.r 31)),
         .setR 33 (.r 32),
         .setR 34 (.con .none),
         .setR 35 (.cell (.o 11) 1),
         .setR 36 (.ci .lss (.r 35) (.con (.int 100000))),
         .setR 37 (.pick (.r 33) (.r 36) (.con (.bool false)))])
       (.ite (.r 37) [9] [9]
        (.is [.setR 38 (.r 9),
          .setR 39 (.con .none),
          .setR 40 (.cell (.o 11) 1),
          .setR 41 (.ai .add .i64 (.r 40) (.con (.int 1))),
          .setO 42 (.lst [(.r 41)]),
          .setR 42 (.con .none),
          .chk (.ci .leq (.llen (.app (.o 9) (.o 42))) (.con (.int 4294967296))),
          .setO 9 (.app (.o 9) (.o 42)),
          .setR 43 (.con .none),
          .setR 9 (.r 43)])
        .skip))))
    (.is [.setR 44 (.ai .add .i64 (.r 25) (.con (.int 1))),
      .setR 25 (.r 44)]))))
def lp16_0 : PC := .block 0 [9, 25, 26] [9] (.loop [9, 25] [9] bd16_0)
def rd16_0 : PT :=
 (.ite (.ci .lss (.r 25) (.r 24))
  (.chk (.idx (.r 23) (.r 25))
  (.ite (.pick (.ci .geq (.cell (.setc (.con (.agg [(.int 0), (.int 0), (.int 0)])) 0 (.nth (.r 23) (.r 25))) 1) (.r 2)) (.ci .lss (.cell (.setc (.con (.agg [(.int 0), (.int 0), (.int 0)])) 0 (.nth (.r 23) (.r 25))) 1) (.con (.int 100000))) (.con (.bool false)))
   (.chk (.ci .leq (.llen (.app (.o 9) (.lst [(.ai .add .i64 (.cell (.setc (.con (.agg [(.int 0), (.int 0), (.int 0)])) 0 (.nth (.r 23) (.r 25))) 1) (.con (.int 1)))]))) (.con (.int 4294967296)))
   (.next ⟨[(9, (.con .none)), (25, (.ai .add .i64 (.r 25) (.con (.int 1))))], [(9, (.app (.o 9) (.lst [(.ai .add .i64 (.cell (.setc (.con (.agg [(.int 0), (.int 0), (.int 0)])) 0 (.nth (.r 23) (.r 25))) 1) (.con (.int 1)))])))]⟩))
   (.next ⟨[(9, (.r 9)), (25, (.ai .add .i64 (.r 25) (.con (.int 1))))], [(9, (.o 9))]⟩)))
  (.exit 0 ⟨[(9, (.r 9)), (25, (.r 25)), (26, (.ci .lss (.r 25) (.r 24)))], [(9, (.o 9))]⟩))
theorem rd16_0_eq : round 0 [9, 25, 26] [9] [9, 25] [9] bd16_0 = rd16_0 := by kernel_rfl
def bd16_1 : PC :=
 (.seq
  (.is [.setR 50 (.ci .lss (.r 49) (.r 48))])
  (.seq
   (.ite (.r 50) [] []
    .skip
    (.exit 2))
   (.seq
    (.block 3 [6, 7, 13, 51, 52, 53, 54, 55, 56, 57, 58, 59] []
     (.seq
      (.is [.chk (.idx (.o 9) (.r 49)),
        .setR 51 (.r 49),
        .setR 52 (.nth (.o 9) (.r 51)),
        .setR 13 (.r 52)])
      (.seq
       (.is [.setR 53 (mkA 5 (.o 3)),
         .setR 54 (.r 1),
         .setR 55 (.r 13),
         .call [] 56 27 [(.r 53), (.r 54), (.r 55)],
         .setR 57 (.con .none),
         .setR 58 (.cell (.o 3) 0),
         .setR 59 (.ci .lss (.r 56) (.r 58))])
       (.ite (.r 59) [6, 7] []
        (.seq
         (.is [.setR 60 (.r 13),
           .setR 6 (.r 60),
           .setR 7 (.con (.int 0))])
         (.ret (.tup [(.r 6), (.r 7)])))
        .skip))))
    (.is [.setR 61 (.ai .add .i64 (.r 49) (.con (.int 1))),
      .setR 49 (.r 61)]))))
def lp16_1 : PC := .block 2 [6, 7, 49, 50] [] (.loop [6, 7, 49] [] bd16_1)
def rd16_1 : PT :=
 (.ite (.ci .lss (.r 49) (.r 48))
  (.blockS ⟨[(50, (.ci .lss (.r 49) (.r 48)))], []⟩ 3 [6, 7, 13, 51, 52, 53, 54, 55, 56, 57, 58, 59] []
   (.chk (.idx (.o 9) (.r 49))
   (.call ⟨[(55, (.nth (.o 9) (.r 49))), (54, (.r 1)), (53, (mkA 5 (.o 3))), (13, (.nth (.o 9) (.r 49))), (52, (.nth (.o 9) (.r 49))), (51, (.r 49))], []⟩ [] 56 27 [(.r 53), (.r 54), (.r 55)]
   (.ite (.ci .lss (.r 56) (.cell (.o 3) 0))
    (.ret (.tup [(.r 13), (.con (.int 0))]))
    (.next ⟨[(6, (.r 6)), (7, (.r 7)), (59, (.ci .lss (.r 56) (.cell (.o 3) 0))), (58, (.cell (.o 3) 0)), (57, (.con .none))], []⟩))))
  (.next ⟨[(6, (.r 6)), (7, (.r 7)), (49, (.ai .add .i64 (.r 49) (.con (.int 1))))], []⟩))
  (.exit 2 ⟨[(6, (.r 6)), (7, (.r 7)), (49, (.r 49)), (50, (.ci .lss (.r 49) (.r 48)))], []⟩))
theorem rd16_1_eq : round 2 [6, 7, 49, 50] [] [6, 7, 49] [] bd16_1 = rd16_1 := by kernel_rfl
def pc16 : PC :=
 (.seq
  (.is [.setO 3 (.mk [(.r 0)]),
    .setR 3 (.con .none),
    .setR 6 (.con (.int 0)),
    .setR 7 (.con (.int 0))])
  (.seq
   (.seq
    (.is [.setR 14 (mkA 5 (.o 3)),
      .setR 15 (.r 1),
      .setR 16 (.r 2),
      .call [] 17 18 [(.r 14), (.r 15), (.r 16)],
      .setR 8 (.r 17)])
    (.seq
     (.is [.setR 18 (.r 8),
       .setR 19 (.ci .neq (.r 18) (.con (.int 0)))])
     (.ite (.r 19) [6, 7] []
      (.seq
       (.is [.setR 20 (.r 8),
         .setR 6 (.con (.int 0)),
         .setR 7 (.r 20)])
       (.ret (.tup [(.r 6), (.r 7)])))
      .skip)))
   (.seq
    (.is [.setR 21 (.r 2),
      .setO 22 (.lst [(.r 21)]),
      .setR 22 (.con .none),
      .setR 9 (.r 22),
      .setO 9 (.o 22)])
    (.seq
     (.seq
      (.is [.setR 23 (.r 1),
        .setR 24 (.llen (.r 23)),
        .setR 25 (.con (.int 0))])
      lp16_0)
     (.seq
      (.is [.setR 45 (.r 9),
        .mcall 1000000013 32 [(.con .none), (.o 9)],
        .setO 9 (.tget (.o 1000000013) 1),
        .setR 46 (.tget (.o 1000000013) 0)])
      (.seq
       (.seq
        (.is [.setR 47 (.r 9),
          .setR 48 (.llen (.o 9)),
          .setR 49 (.con (.int 0))])
        lp16_1)
       (.seq
        (.is [.setR 6 (.con (.int (-1))),
          .setR 7 (.con (.int 0))])
        (.ret (.tup [(.r 6), (.r 7)])))))))))
def tr16 : PT :=
 (.call ⟨[(16, (.r 2)), (15, (.r 1)), (14, (mkA 5 (.mk [(.r 0)]))), (7, (.con (.int 0))), (6, (.con (.int 0))), (3, (.con .none))], [(3, (.mk [(.r 0)]))]⟩ [] 17 18 [(.r 14), (.r 15), (.r 16)]
 (.ite (.ci .neq (.r 17) (.con (.int 0)))
  (.ret (.tup [(.con (.int 0)), (.r 17)]))
  (.brk ⟨[(25, (.con (.int 0))), (24, (.llen (.r 1))), (23, (.r 1)), (9, (.con .none)), (22, (.con .none)), (21, (.r 2)), (6, (.r 6)), (7, (.r 7)), (19, (.ci .neq (.r 17) (.con (.int 0)))), (18, (.r 17)), (8, (.r 17))], [(9, (.lst [(.r 2)])), (22, (.lst [(.r 2)]))]⟩
   lp16_0
  (.mcall ⟨[(45, (.r 9))], []⟩ 1000000013 32 [(.con .none), (.o 9)]
  (.brk ⟨[(49, (.con (.int 0))), (48, (.llen (.tget (.o 1000000013) 1))), (47, (.r 9)), (46, (.tget (.o 1000000013) 0))], [(9, (.tget (.o 1000000013) 1))]⟩
   lp16_1
  (.ret (.tup [(.con (.int (-1))), (.con (.int 0))])))))))
theorem tr16_eq : tree pc16 = tr16 := by kernel_rfl
/-! allonge/allongeref15.Same -/
def bd21_0 : PC :=
 (.seq
  (.seq
   (.is [.setR 11 (.r 5),
     .setR 12 (.r 0),
     .setR 13 (.llen (.r 12)),
     .setR 14 (.ci .lss (.r 11) (.r 13))])
   (.ite (.r 14) [] []
    .skip
    (.exit 0)))
  (.seq
   (.block 1 [4, 17, 18, 19, 20, 21, 22, 23, 24, 25] []
    (.seq
     (.is [.setR 17 (.r 0),
       .setR 18 (.r 5),
       .chk (.idx (.r 17) (.r 18)),
       .setR 19 (.ref (.nth (.r 17) (.r 18))),
       .setR 20 (.deref (.r 19)),
       .setR 21 (.r 1),
       .setR 22 (.r 5),
       .chk (.idx (.r 21) (.r 22)),
       .setR 23 (.ref (.nth (.r 21) (.r 22))),
       .setR 24 (.deref (.r 23)),
       .setR 25 (.ci .neq (.r 20) (.r 24))])
     (.ite (.r 25) [4] []
      (.seq
       (.is [.setR 4 (.con (.bool false))])
       (.ret (.r 4)))
      .skip)))
   (.is [.setR 15 (.r 5),
     .setR 16 (.ai .add .i64 (.r 15) (.con (.int 1))),
     .setR 5 (.r 16)])))
def lp21_0 : PC := .block 0 [4, 5, 11, 12, 13, 14] [] (.loop [4, 5] [] bd21_0)
def rd21_0 : PT :=
 (.ite (.ci .lss (.r 5) (.llen (.r 0)))
  (.chk (.idx (.r 0) (.r 5))
  (.chk (.idx (.r 1) (.r 5))
  (.ite (.ci .neq (.nth (.r 0) (.r 5)) (.nth (.r 1) (.r 5)))
   (.ret (.con (.bool false)))
   (.next ⟨[(4, (.r 4)), (5, (.ai .add .i64 (.r 5) (.con (.int 1))))], []⟩))))
  (.exit 0 ⟨[(4, (.r 4)), (5, (.r 5)), (11, (.r 5)), (12, (.r 0)), (13, (.llen (.r 0))), (14, (.ci .lss (.r 5) (.llen (.r 0))))], []⟩))
theorem rd21_0_eq : round 0 [4, 5, 11, 12, 13, 14] [] [4, 5] [] bd21_0 = rd21_0 := by kernel_rfl
def pc21 : PC :=
 (.seq
  (.is [.setR 4 (.con (.bool false))])
  (.seq
   (.seq
    (.is [.setR 6 (.r 0),
      .setR 7 (.llen (.r 6)),
      .setR 8 (.r 1),
      .setR 9 (.llen (.r 8)),
      .setR 10 (.ci .neq (.r 7) (.r 9))])
    (.ite (.r 10) [4] []
     (.seq
      (.is [.setR 4 (.con (.bool false))])
      (.ret (.r 4)))
     .skip))
   (.seq
    (.seq
     (.is [.setR 5 (.con (.int 0))])
     lp21_0)
    (.seq
     (.is [.setR 4 (.con (.bool true))])
     (.ret (.r 4))))))
def tr21 : PT :=
 (.ite (.ci .neq (.llen (.r 0)) (.llen (.r 1)))
  (.ret (.con (.bool false)))
  (.brk ⟨[(5, (.con (.int 0))), (4, (.con (.bool false))), (10, (.ci .neq (.llen (.r 0)) (.llen (.r 1)))), (9, (.llen (.r 1))), (8, (.r 1)), (7, (.llen (.r 0))), (6, (.r 0)), (4, (.con (.bool false)))], []⟩
   lp21_0
  (.ret (.con (.bool true)))))
theorem tr21_eq : tree pc21 = tr21 := by kernel_rfl
/-! allonge/allongelaw41.few -/
def pc9 : PC :=
 (.seq
  (.is [.setR 2 (.con (.bool false))])
  (.seq
   (.is [.setR 3 (.r 0),
     .setR 4 (.llen (.r 3)),
     .setR 5 (.ci .leq (.r 4) (.con (.int 60))),
     .setR 2 (.r 5)])
   (.ret (.r 2))))
def tr9 : PT :=
 (.ret (.ci .leq (.llen (.r 0)) (.con (.int 60))))
theorem tr9_eq : tree pc9 = tr9 := by kernel_rfl
/-! allonge/allongeref41.Cover -/
def pc11 : PC :=
 (.seq
  (.is [.setO 3 (.mk [(.r 0)]),
    .setR 3 (.con .none),
    .setR 6 (.con (.int 0)),
    .setR 7 (.con (.int 0))])
  (.seq
   (.is [.setR 9 (mkA 5 (.o 3)),
     .setR 10 (.r 1),
     .setR 11 (.r 2),
     .call [] 12 19 [(.r 9), (.r 10), (.r 11)],
     .setR 8 (.r 12)])
   (.seq
    (.seq
     (.is [.setR 13 (.r 8),
       .setR 14 (.ci .neq (.r 13) (.con (.int 0)))])
     (.ite (.r 14) [6, 7] []
      (.seq
       (.is [.setR 15 (.r 8),
         .setR 6 (.con (.int 0)),
         .setR 7 (.r 15)])
       (.ret (.tup [(.r 6), (.r 7)])))
      .skip))
    (.seq
     (.is [.setR 16 (mkA 5 (.o 3)),
       .setR 17 (.r 1),
       .setR 18 (.r 2),
       .call [] 19 28 [(.r 16), (.r 17), (.r 18)],
       .setR 6 (.r 19),
       .setR 7 (.con (.int 0))])
     (.ret (.tup [(.r 6), (.r 7)]))))))
def tr11 : PT :=
 (.call ⟨[(11, (.r 2)), (10, (.r 1)), (9, (mkA 5 (.mk [(.r 0)]))), (7, (.con (.int 0))), (6, (.con (.int 0))), (3, (.con .none))], [(3, (.mk [(.r 0)]))]⟩ [] 12 19 [(.r 9), (.r 10), (.r 11)]
 (.ite (.ci .neq (.r 12) (.con (.int 0)))
  (.ret (.tup [(.con (.int 0)), (.r 12)]))
  (.call ⟨[(18, (.r 2)), (17, (.r 1)), (16, (mkA 5 (.o 3))), (6, (.r 6)), (7, (.r 7)), (14, (.ci .neq (.r 12) (.con (.int 0)))), (13, (.r 12)), (8, (.r 12))], []⟩ [] 19 28 [(.r 16), (.r 17), (.r 18)]
  (.ret (.tup [(.r 19), (.con (.int 0))])))))
theorem tr11_eq : tree pc11 = tr11 := by kernel_rfl
/-! allonge/allongeref41.Check -/
def bd19_0 : PC :=
 (.seq
  (.seq
   (.is [.setR 22 (.r 7),
     .setR 23 (.r 1),
     .setR 24 (.llen (.r 23)),
     .setR 25 (.ci .lss (.r 22) (.r 24))])
   (.ite (.r 25) [] []
    .skip
    (.exit 0)))
  (.seq
   (.block 1 [6, 28, 29, 30, 31, 32, 33] []
    (.seq
     (.is [.setR 28 (.r 1),
       .setR 29 (.r 7),
       .chk (.idx (.r 28) (.r 29)),
       .setR 30 (.ref (.nth (.r 28) (.r 29))),
       .setR 31 (.deref (.r 30)),
       .call [] 32 39 [(.r 31)],
       .setR 33 (.nt (.r 32))])
     (.ite (.r 33) [6] []
      (.seq
       (.is [.setR 6 (.con (.int 1))])
       (.ret (.r 6)))
      .skip)))
   (.is [.setR 26 (.r 7),
     .setR 27 (.ai .add .i64 (.r 26) (.con (.int 1))),
     .setR 7 (.r 27)])))
def lp19_0 : PC := .block 0 [6, 7, 22, 23, 24, 25] [] (.loop [6, 7] [] bd19_0)
def rd19_0 : PT :=
 (.ite (.ci .lss (.r 7) (.llen (.r 1)))
  (.blockS ⟨[(25, (.ci .lss (.r 7) (.llen (.r 1)))), (24, (.llen (.r 1))), (23, (.r 1)), (22, (.r 7))], []⟩ 1 [6, 28, 29, 30, 31, 32, 33] []
   (.chk (.idx (.r 1) (.r 7))
   (.call ⟨[(31, (.nth (.r 1) (.r 7))), (30, (.ref (.nth (.r 1) (.r 7)))), (29, (.r 7)), (28, (.r 1))], []⟩ [] 32 39 [(.r 31)]
   (.ite (.nt (.r 32))
    (.ret (.con (.int 1)))
    (.next ⟨[(6, (.r 6)), (33, (.nt (.r 32)))], []⟩))))
  (.next ⟨[(6, (.r 6)), (7, (.ai .add .i64 (.r 7) (.con (.int 1))))], []⟩))
  (.exit 0 ⟨[(6, (.r 6)), (7, (.r 7)), (22, (.r 7)), (23, (.r 1)), (24, (.llen (.r 1))), (25, (.ci .lss (.r 7) (.llen (.r 1))))], []⟩))
theorem rd19_0_eq : round 0 [6, 7, 22, 23, 24, 25] [] [6, 7] [] bd19_0 = rd19_0 := by kernel_rfl
def pc19 : PC :=
 (.seq
  (.is [.setO 3 (.mk [(.r 0)]),
    .setR 3 (.con .none),
    .setR 6 (.con (.int 0))])
  (.seq
   (.seq
    (.is [.setR 8 (.r 1),
      .setR 9 (.llen (.r 8)),
      .setR 10 (.ci .gtr (.r 9) (.con (.int 50)))])
    (.ite (.r 10) [6] []
     (.seq
      (.is [.setR 6 (.con (.int 6))])
      (.ret (.r 6)))
     .skip))
   (.seq
    (.seq
     (.is [.setR 11 (mkA 5 (.o 3)),
       .call [] 12 38 [(.r 11)],
       .setR 13 (.nt (.r 12)),
       .setR 14 (.r 13),
       .setR 15 (.r 2),
       .setR 16 (.ci .lss (.r 15) (.con (.int 0))),
       .setR 17 (.pick (.r 14) (.con (.bool true)) (.r 16)),
       .setR 18 (.r 17),
       .setR 19 (.r 2),
       .setR 20 (.ci .gtr (.r 19) (.con (.int 100000))),
       .setR 21 (.pick (.r 18) (.con (.bool true)) (.r 20))])
     (.ite (.r 21) [6] []
      (.seq
       (.is [.setR 6 (.con (.int 1))])
       (.ret (.r 6)))
      .skip))
    (.seq
     (.seq
      (.is [.setR 7 (.con (.int 0))])
      lp19_0)
     (.seq
      (.is [.setR 6 (.con (.int 0))])
      (.ret (.r 6)))))))
def tr19 : PT :=
 (.ite (.ci .gtr (.llen (.r 1)) (.con (.int 50)))
  (.ret (.con (.int 6)))
  (.call ⟨[(11, (mkA 5 (.mk [(.r 0)]))), (6, (.con (.int 0))), (10, (.ci .gtr (.llen (.r 1)) (.con (.int 50)))), (9, (.llen (.r 1))), (8, (.r 1)), (6, (.con (.int 0))), (3, (.con .none))], [(3, (.mk [(.r 0)]))]⟩ [] 12 38 [(.r 11)]
  (.ite (.pick (.pick (.nt (.r 12)) (.con (.bool true)) (.ci .lss (.r 2) (.con (.int 0)))) (.con (.bool true)) (.ci .gtr (.r 2) (.con (.int 100000))))
   (.ret (.con (.int 1)))
   (.brk ⟨[(7, (.con (.int 0))), (6, (.r 6)), (21, (.pick (.pick (.nt (.r 12)) (.con (.bool true)) (.ci .lss (.r 2) (.con (.int 0)))) (.con (.bool true)) (.ci .gtr (.r 2) (.con (.int 100000))))), (20, (.ci .gtr (.r 2) (.con (.int 100000)))), (19, (.r 2)), (18, (.pick (.nt (.r 12)) (.con (.bool true)) (.ci .lss (.r 2) (.con (.int 0))))), (17, (.pick (.nt (.r 12)) (.con (.bool true)) (.ci .lss (.r 2) (.con (.int 0))))), (16, (.ci .lss (.r 2) (.con (.int 0)))), (15, (.r 2)), (14, (.nt (.r 12))), (13, (.nt (.r 12)))], []⟩
    lp19_0
   (.ret (.con (.int 0)))))))
theorem tr19_eq : tree pc19 = tr19 := by kernel_rfl
/-! allonge/allongeref41.Terms -/
def pc38 : PC :=
 (.seq
  (.is [.setO 1 (.mk [(.r 0)]),
    .setR 1 (.con .none),
    .setR 2 (.con (.bool false))])
  (.seq
   (.seq
    (.is [.setR 3 (.con .none),
      .setR 4 (.cell (.o 1) 0),
      .setR 5 (.ci .lss (.r 4) (.con (.int 0))),
      .setR 6 (.r 5),
      .setR 7 (.con .none),
      .setR 8 (.cell (.o 1) 0),
      .setR 9 (.ci .gtr (.r 8) (.con (.int 1099511627776))),
      .setR 10 (.pick (.r 6) (.con (.bool true)) (.r 9)),
      .setR 11 (.r 10),
      .setR 12 (.con .none),
      .setR 13 (.cell (.o 1) 4),
      .setR 14 (.ci .lss (.r 13) (.con (.int 0))),
      .setR 15 (.pick (.r 11) (.con (.bool true)) (.r 14)),
      .setR 16 (.r 15),
      .setR 17 (.con .none),
      .setR 18 (.cell (.o 1) 4),
      .setR 19 (.ci .gtr (.r 18) (.con (.int 1099511627776))),
      .setR 20 (.pick (.r 16) (.con (.bool true)) (.r 19)),
      .setR 21 (.r 20),
      .setR 22 (.con .none),
      .setR 23 (.cell (.o 1) 1),
      .setR 24 (.ci .lss (.r 23) (.con (.int 0))),
      .setR 25 (.pick (.r 21) (.con (.bool true)) (.r 24)),
      .setR 26 (.r 25),
      .setR 27 (.con .none),
      .setR 28 (.cell (.o 1) 1),
      .setR 29 (.ci .gtr (.r 28) (.con (.int 1000))),
      .setR 30 (.pick (.r 26) (.con (.bool true)) (.r 29))])
    (.ite (.r 30) [2] []
     (.seq
      (.is [.setR 2 (.con (.bool false))])
      (.ret (.r 2)))
     .skip))
   (.seq
    (.is [.setR 31 (.con .none),
      .setR 32 (.cell (.o 1) 2),
      .setR 33 (.ci .geq (.r 32) (.con (.int 0))),
      .setR 34 (.r 33),
      .setR 35 (.con .none),
      .setR 36 (.cell (.o 1) 2),
      .setR 37 (.ci .leq (.r 36) (.con (.int 20000))),
      .setR 38 (.pick (.r 34) (.r 37) (.con (.bool false))),
      .setR 39 (.r 38),
      .setR 40 (.con .none),
      .setR 41 (.cell (.o 1) 3),
      .setR 42 (.ci .geq (.r 41) (.con (.int 0))),
      .setR 43 (.pick (.r 39) (.r 42) (.con (.bool false))),
      .setR 44 (.r 43),
      .setR 45 (.con .none),
      .setR 46 (.cell (.o 1) 3),
      .setR 47 (.ci .leq (.r 46) (.con (.int 40))),
      .setR 48 (.pick (.r 44) (.r 47) (.con (.bool false))),
      .setR 2 (.r 48)])
    (.ret (.r 2)))))
def tr38 : PT :=
 (.ite (.pick (.pick (.pick (.pick (.pick (.ci .lss (.cell (.mk [(.r 0)]) 0) (.con (.int 0))) (.con (.bool true)) (.ci .gtr (.cell (.mk [(.r 0)]) 0) (.con (.int 1099511627776)))) (.con (.bool true)) (.ci .lss (.cell (.mk [(.r 0)]) 4) (.con (.int 0)))) (.con (.bool true)) (.ci .gtr (.cell (.mk [(.r 0)]) 4) (.con (.int 1099511627776)))) (.con (.bool true)) (.ci .lss (.cell (.mk [(.r 0)]) 1) (.con (.int 0)))) (.con (.bool true)) (.ci .gtr (.cell (.mk [(.r 0)]) 1) (.con (.int 1000))))
  (.ret (.con (.bool false)))
  (.ret (.pick (.pick (.pick (.ci .geq (.cell (.mk [(.r 0)]) 2) (.con (.int 0))) (.ci .leq (.cell (.mk [(.r 0)]) 2) (.con (.int 20000))) (.con (.bool false))) (.ci .geq (.cell (.mk [(.r 0)]) 3) (.con (.int 0))) (.con (.bool false))) (.ci .leq (.cell (.mk [(.r 0)]) 3) (.con (.int 40))) (.con (.bool false)))))
theorem tr38_eq : tree pc38 = tr38 := by kernel_rfl
/-! allonge/allongeref41.Right -/
def pc39 : PC :=
 (.seq
  (.is [.setO 1 (.mk [(.r 0)]),
    .setR 1 (.con .none),
    .setR 2 (.con (.bool false))])
  (.seq
   (.is [.setR 3 (.con .none),
     .setR 4 (.cell (.o 1) 0),
     .setR 5 (.ci .geq (.r 4) (.con (.int 0))),
     .setR 6 (.r 5),
     .setR 7 (.con .none),
     .setR 8 (.cell (.o 1) 0),
     .setR 9 (.ci .leq (.r 8) (.con (.int 1099511627776))),
     .setR 10 (.pick (.r 6) (.r 9) (.con (.bool false))),
     .setR 11 (.r 10),
     .setR 12 (.con .none),
     .setR 13 (.cell (.o 1) 1),
     .setR 14 (.ci .geq (.r 13) (.con (.int 0))),
     .setR 15 (.pick (.r 11) (.r 14) (.con (.bool false))),
     .setR 16 (.r 15),
     .setR 17 (.con .none),
     .setR 18 (.cell (.o 1) 1),
     .setR 19 (.ci .leq (.r 18) (.con (.int 100000))),
     .setR 20 (.pick (.r 16) (.r 19) (.con (.bool false))),
     .setR 21 (.r 20),
     .setR 22 (.con .none),
     .setR 23 (.cell (.o 1) 2),
     .setR 24 (.ci .geq (.r 23) (.con (.int 0))),
     .setR 25 (.pick (.r 21) (.r 24) (.con (.bool false))),
     .setR 26 (.r 25),
     .setR 27 (.con .none),
     .setR 28 (.cell (.o 1) 2),
     .setR 29 (.ci .leq (.r 28) (.con (.int 40))),
     .setR 30 (.pick (.r 26) (.r 29) (.con (.bool false))),
     .setR 2 (.r 30)])
   (.ret (.r 2))))
def tr39 : PT :=
 (.ret (.pick (.pick (.pick (.pick (.pick (.ci .geq (.cell (.mk [(.r 0)]) 0) (.con (.int 0))) (.ci .leq (.cell (.mk [(.r 0)]) 0) (.con (.int 1099511627776))) (.con (.bool false))) (.ci .geq (.cell (.mk [(.r 0)]) 1) (.con (.int 0))) (.con (.bool false))) (.ci .leq (.cell (.mk [(.r 0)]) 1) (.con (.int 100000))) (.con (.bool false))) (.ci .geq (.cell (.mk [(.r 0)]) 2) (.con (.int 0))) (.con (.bool false))) (.ci .leq (.cell (.mk [(.r 0)]) 2) (.con (.int 40))) (.con (.bool false))))
theorem tr39_eq : tree pc39 = tr39 := by kernel_rfl
/-! allonge/allongeref41.Sum -/
def bd28_0 : PC :=
 (.seq
  (.seq
   (.is [.setR 9 (.r 8),
     .setR 10 (.r 1),
     .setR 11 (.llen (.r 10)),
     .setR 12 (.ci .lss (.r 9) (.r 11))])
   (.ite (.r 12) [] []
    .skip
    (.exit 0)))
  (.seq
   (.block 1 [7, 15, 16, 17, 18, 19, 20, 21, 22, 23] []
    (.is [.setR 15 (.r 7),
      .setR 16 (mkA 5 (.o 3)),
      .setR 17 (.r 1),
      .setR 18 (.r 8),
      .chk (.idx (.r 17) (.r 18)),
      .setR 19 (.ref (.nth (.r 17) (.r 18))),
      .setR 20 (.deref (.r 19)),
      .setR 21 (.r 2),
      .call [] 22 23 [(.r 16), (.r 20), (.r 21)],
      .setR 23 (.ai .add .i64 (.r 15) (.r 22)),
      .setR 7 (.r 23)]))
   (.is [.setR 13 (.r 8),
     .setR 14 (.ai .add .i64 (.r 13) (.con (.int 1))),
     .setR 8 (.r 14)])))
def lp28_0 : PC := .block 0 [7, 8, 9, 10, 11, 12] [] (.loop [7, 8] [] bd28_0)
def rd28_0 : PT :=
 (.ite (.ci .lss (.r 8) (.llen (.r 1)))
  (.blockS ⟨[(12, (.ci .lss (.r 8) (.llen (.r 1)))), (11, (.llen (.r 1))), (10, (.r 1)), (9, (.r 8))], []⟩ 1 [7, 15, 16, 17, 18, 19, 20, 21, 22, 23] []
   (.chk (.idx (.r 1) (.r 8))
   (.call ⟨[(21, (.r 2)), (20, (.nth (.r 1) (.r 8))), (19, (.ref (.nth (.r 1) (.r 8)))), (18, (.r 8)), (17, (.r 1)), (16, (mkA 5 (.o 3))), (15, (.r 7))], []⟩ [] 22 23 [(.r 16), (.r 20), (.r 21)]
   (.next ⟨[(7, (.ai .add .i64 (.r 15) (.r 22))), (23, (.ai .add .i64 (.r 15) (.r 22)))], []⟩)))
  (.next ⟨[(7, (.r 7)), (8, (.ai .add .i64 (.r 8) (.con (.int 1))))], []⟩))
  (.exit 0 ⟨[(7, (.r 7)), (8, (.r 8)), (9, (.r 8)), (10, (.r 1)), (11, (.llen (.r 1))), (12, (.ci .lss (.r 8) (.llen (.r 1))))], []⟩))
theorem rd28_0_eq : round 0 [7, 8, 9, 10, 11, 12] [] [7, 8] [] bd28_0 = rd28_0 := by kernel_rfl
def pc28 : PC :=
 (.seq
  (.is [.setO 3 (.mk [(.r 0)]),
    .setR 3 (.con .none),
    .setR 6 (.con (.int 0))])
  (.seq
   (.is [.setR 7 (.con (.int 0))])
   (.seq
    (.seq
     (.is [.setR 8 (.con (.int 0))])
     lp28_0)
    (.seq
     (.is [.setR 24 (.r 7),
       .setR 6 (.r 24)])
     (.ret (.r 6))))))
def tr28 : PT :=
 (.brk ⟨[(8, (.con (.int 0))), (7, (.con (.int 0))), (6, (.con (.int 0))), (3, (.con .none))], [(3, (.mk [(.r 0)]))]⟩
  lp28_0
 (.ret (.r 7)))
theorem tr28_eq : tree pc28 = tr28 := by kernel_rfl
/-! allonge/allongeref41.Value -/
def pc23 : PC :=
 (.seq
  (.is [.setO 3 (.mk [(.r 0)]),
    .setR 3 (.con .none),
    .setO 4 (.mk [(.r 1)]),
    .setR 4 (.con .none),
    .setR 6 (.con (.int 0))])
  (.seq
   (.seq
    (.is [.setR 7 (mkA 5 (.o 3)),
      .call [] 8 38 [(.r 7)],
      .setR 9 (.nt (.r 8)),
      .setR 10 (.r 9),
      .setR 11 (.mk [(.cell (.o 4) 0), (.cell (.o 4) 1), (.cell (.o 4) 2)]),
      .call [(10, false)] 12 39 [(.r 11)],
      .setR 13 (.nt (.r 12)),
      .setR 14 (.pick (.r 10) (.con (.bool true)) (.r 13)),
      .setR 15 (.r 14),
      .setR 16 (.r 2),
      .setR 17 (.ci .lss (.r 16) (.con (.int 0))),
      .setR 18 (.pick (.r 15) (.con (.bool true)) (.r 17)),
      .setR 19 (.r 18),
      .setR 20 (.r 2),
      .setR 21 (.ci .gtr (.r 20) (.con (.int 100000))),
      .setR 22 (.pick (.r 19) (.con (.bool true)) (.r 21))])
    (.ite (.r 22) [6] []
     (.seq
      (.is [.setR 6 (.con (.int 0))])
      (.ret (.r 6)))
     .skip))
   (.seq
    (.seq
     (.is [.setR 23 (.con .none),
       .setR 24 (.cell (.o 4) 0),
       .setR 25 (.con .none),
       .setR 26 (.cell (.o 3) 4),
       .setR 27 (.ci .lss (.r 24) (.r 26)),
       .setR 28 (.r 27),
       .setR 29 (.con .none),
       .setR 30 (.cell (.o 4) 2),
       .setR 31 (.con .none),
       .setR 32 (.cell (.o 3) 3),
       .setR 33 (.ci .lss (.r 30) (.r 32)),
       .setR 34 (.pick (.r 28) (.con (.bool true)) (.r 33)),
       .setR 35 (.r 34),
       .setR 36 (.con .none),
       .setR 37 (.cell (.o 4) 1),
       .setR 38 (.r 2),
       .setR 39 (.ci .lss (.r 37) (.r 38)),
       .setR 40 (.pick (.r 35) (.con (.bool true)) (.r 39)),
       .setR 41 (.r 40),
       .setR 42 (.con .none),
       .setR 43 (.cell (.o 4) 1),
       .setR 44 (.r 2),
       .setR 45 (.ai .sub .i64 (.r 43) (.r 44)),
       .setR 46 (.con .none),
       .setR 47 (.cell (.o 3) 2),
       .setR 48 (.ci .gtr (.r 45) (.r 47)),
       .setR 49 (.pick (.r 41) (.con (.bool true)) (.r 48))])
     (.ite (.r 49) [6] []
      (.seq
       (.is [.setR 6 (.con (.int 0))])
       (.ret (.r 6)))
      .skip))
    (.seq
     (.is [.setR 50 (.con .none),
       .setR 51 (.cell (.o 4) 0),
       .setR 52 (.con .none),
       .setR 53 (.cell (.o 3) 1),
       .setR 54 (.ai .sub .i64 (.con (.int 1000)) (.r 53)),
       .setR 55 (.ai .mul .i64 (.r 51) (.r 54)),
       .chk (.ci .neq (.con (.int 1000)) (.con (.int 0))),
       .setR 56 (.ai .quo .i64 (.r 55) (.con (.int 1000))),
       .setR 6 (.r 56)])
     (.ret (.r 6))))))
def tr23 : PT :=
 (.call ⟨[(7, (mkA 5 (.mk [(.r 0)]))), (6, (.con (.int 0))), (4, (.con .none)), (3, (.con .none))], [(4, (.mk [(.r 1)])), (3, (.mk [(.r 0)]))]⟩ [] 8 38 [(.r 7)]
 (.call ⟨[(11, (.mk [(.cell (.o 4) 0), (.cell (.o 4) 1), (.cell (.o 4) 2)])), (10, (.nt (.r 8))), (9, (.nt (.r 8)))], []⟩ [(10, false)] 12 39 [(.r 11)]
 (.ite (.pick (.pick (.pick (.r 10) (.con (.bool true)) (.nt (.r 12))) (.con (.bool true)) (.ci .lss (.r 2) (.con (.int 0)))) (.con (.bool true)) (.ci .gtr (.r 2) (.con (.int 100000))))
  (.ret (.con (.int 0)))
  (.ite (.pick (.pick (.pick (.ci .lss (.cell (.o 4) 0) (.cell (.o 3) 4)) (.con (.bool true)) (.ci .lss (.cell (.o 4) 2) (.cell (.o 3) 3))) (.con (.bool true)) (.ci .lss (.cell (.o 4) 1) (.r 2))) (.con (.bool true)) (.ci .gtr (.ai .sub .i64 (.cell (.o 4) 1) (.r 2)) (.cell (.o 3) 2)))
   (.ret (.con (.int 0)))
   (.chk (.ci .neq (.con (.int 1000)) (.con (.int 0)))
   (.ret (.ai .quo .i64 (.ai .mul .i64 (.cell (.o 4) 0) (.ai .sub .i64 (.con (.int 1000)) (.cell (.o 3) 1))) (.con (.int 1000)))))))))
theorem tr23_eq : tree pc23 = tr23 := by kernel_rfl
/-! allonge/allongeref41.Swap -/
def bd13_0 : PC :=
 (.seq
  (.seq
   (.is [.setR 22 (.r 13),
     .setR 23 (.r 3),
     .setR 24 (.llen (.r 23)),
     .setR 25 (.ci .lss (.r 22) (.r 24))])
   (.ite (.r 25) [] []
    .skip
    (.exit 0)))
  (.seq
   (.block 1 [10, 11, 28, 29, 30, 31, 32, 33, 41, 42, 57] []
    (.seq
     (.is [.setR 28 (.r 3),
       .setR 29 (.r 13),
       .chk (.idx (.r 28) (.r 29)),
       .setR 30 (.ref (.nth (.r 28) (.r 29))),
       .setR 31 (.deref (.r 30)),
       .setR 32 (.ci .lss (.r 31) (.con (.int 0))),
       .setR 33 (.r 32),
       .setR 34 (.r 3),
       .setR 35 (.r 13),
       .chk (.imp [(33, false)] (.idx (.r 34) (.r 35))),
       .setR 36 (.ref (.nth (.r 34) (.r 35))),
       .setR 37 (.deref (.r 36)),
       .setR 38 (.r 1),
       .setR 39 (.llen (.r 38)),
       .setR 40 (.ci .geq (.r 37) (.r 39)),
       .setR 41 (.pick (.r 33) (.con (.bool true)) (.r 40)),
       .setR 42 (.r 41),
       .setR 43 (.r 13),
       .setR 44 (.ci .gtr (.r 43) (.con (.int 0))),
       .setR 45 (.r 44),
       .setR 46 (.r 3),
       .setR 47 (.r 13),
       .chk (.imp [(45, true), (42, false)] (.idx (.r 46) (.r 47))),
       .setR 48 (.ref (.nth (.r 46) (.r 47))),
       .setR 49 (.deref (.r 48)),
       .setR 50 (.r 3),
       .setR 51 (.r 13),
       .setR 52 (.ai .sub .i64 (.r 51) (.con (.int 1))),
       .chk (.imp [(45, true), (42, false)] (.idx (.r 50) (.r 52))),
       .setR 53 (.ref (.nth (.r 50) (.r 52))),
       .setR 54 (.deref (.r 53)),
       .setR 55 (.ci .leq (.r 49) (.r 54)),
       .setR 56 (.pick (.r 45) (.r 55) (.con (.bool false))),
       .setR 57 (.pick (.r 42) (.con (.bool true)) (.r 56))])
     (.ite (.r 57) [10, 11] []
      (.seq
       (.is [.setR 10 (.con (.list [])),
         .setR 11 (.con (.int 4))])
       (.ret (.tup [(.r 10), (.r 11)])))
      .skip)))
   (.is [.setR 26 (.r 13),
     .setR 27 (.ai .add .i64 (.r 26) (.con (.int 1))),
     .setR 13 (.r 27)])))
def lp13_0 : PC := .block 0 [10, 11, 13, 22, 23, 24, 25] [] (.loop [10, 11, 13] [] bd13_0)
def rd13_0 : PT :=
 (.ite (.ci .lss (.r 13) (.llen (.r 3)))
  (.chk (.idx (.r 3) (.r 13))
  (.chk (.nt (.an (.an (.nt (.ci .lss (.nth (.r 3) (.r 13)) (.con (.int 0)))) (.con (.bool true))) (.nt (.idx (.r 3) (.r 13)))))
  (.chk (.nt (.an (.an (.ci .gtr (.r 13) (.con (.int 0))) (.an (.nt (.pick (.ci .lss (.nth (.r 3) (.r 13)) (.con (.int 0))) (.con (.bool true)) (.ci .geq (.nth (.r 3) (.r 13)) (.llen (.r 1))))) (.con (.bool true)))) (.nt (.idx (.r 3) (.r 13)))))
  (.chk (.nt (.an (.an (.ci .gtr (.r 13) (.con (.int 0))) (.an (.nt (.pick (.ci .lss (.nth (.r 3) (.r 13)) (.con (.int 0))) (.con (.bool true)) (.ci .geq (.nth (.r 3) (.r 13)) (.llen (.r 1))))) (.con (.bool true)))) (.nt (.idx (.r 3) (.ai .sub .i64 (.r 13) (.con (.int 1)))))))
  (.ite (.pick (.pick (.ci .lss (.nth (.r 3) (.r 13)) (.con (.int 0))) (.con (.bool true)) (.ci .geq (.nth (.r 3) (.r 13)) (.llen (.r 1)))) (.con (.bool true)) (.pick (.ci .gtr (.r 13) (.con (.int 0))) (.ci .leq (.nth (.r 3) (.r 13)) (.nth (.r 3) (.ai .sub .i64 (.r 13) (.con (.int 1))))) (.con (.bool false))))
   (.ret (.tup [(.con (.list [])), (.con (.int 4))]))
   (.next ⟨[(10, (.r 10)), (11, (.r 11)), (13, (.ai .add .i64 (.r 13) (.con (.int 1))))], []⟩))))))
  (.exit 0 ⟨[(10, (.r 10)), (11, (.r 11)), (13, (.r 13)), (22, (.r 13)), (23, (.r 3)), (24, (.llen (.r 3))), (25, (.ci .lss (.r 13) (.llen (.r 3))))], []⟩))
theorem rd13_0_eq : round 0 [10, 11, 13, 22, 23, 24, 25] [] [10, 11, 13] [] bd13_0 = rd13_0 := by kernel_rfl
def pc13 : PC :=
 (.seq
  (.is [.setO 5 (.mk [(.r 0)]),
    .setR 5 (.con .none),
    .setR 10 (.con (.list [])),
    .setR 11 (.con (.int 0))])
  (.seq
   (.is [.setR 15 (mkA 5 (.o 5)),
     .setR 16 (.r 1),
     .setR 17 (.r 2),
     .call [] 18 19 [(.r 15), (.r 16), (.r 17)],
     .setR 12 (.r 18)])
   (.seq
    (.seq
     (.is [.setR 19 (.r 12),
       .setR 20 (.ci .neq (.r 19) (.con (.int 0)))])
     (.ite (.r 20) [10, 11] []
      (.seq
       (.is [.setR 21 (.r 12),
         .setR 10 (.con (.list [])),
         .setR 11 (.r 21)])
       (.ret (.tup [(.r 10), (.r 11)])))
      .skip))
    (.seq
     (.seq
      (.is [.setR 13 (.con (.int 0))])
      lp13_0)
     (.seq
      (.is [.setR 58 (.r 1),
        .setR 59 (.r 3),
        .call [] 60 24 [(.r 58), (.r 59)],
        .setO 60 (.r 60),
        .setR 60 (.con .none),
        .setR 61 (.r 4),
        .chk (.ci .leq (.llen (.app (.o 60) (.r 61))) (.con (.int 4294967296))),
        .setO 60 (.app (.o 60) (.r 61)),
        .setR 62 (.con .none),
        .setR 14 (.o 60)])
      (.seq
       (.is [.setR 63 (mkA 5 (.o 5)),
         .setR 64 (.r 14),
         .setR 65 (.r 2),
         .call [] 66 19 [(.r 63), (.r 64), (.r 65)],
         .setR 12 (.r 66)])
       (.seq
        (.seq
         (.is [.setR 67 (.r 12),
           .setR 68 (.ci .neq (.r 67) (.con (.int 0)))])
         (.ite (.r 68) [10, 11] []
          (.seq
           (.is [.setR 69 (.r 12),
             .setR 10 (.con (.list [])),
             .setR 11 (.r 69)])
           (.ret (.tup [(.r 10), (.r 11)])))
          .skip))
        (.seq
         (.seq
          (.is [.setR 70 (mkA 5 (.o 5)),
            .setR 71 (.r 14),
            .setR 72 (.r 2),
            .call [] 73 28 [(.r 70), (.r 71), (.r 72)],
            .setR 74 (.con .none),
            .setR 75 (.cell (.o 5) 0),
            .setR 76 (.ci .lss (.r 73) (.r 75))])
          (.ite (.r 76) [10, 11] []
           (.seq
            (.is [.setR 10 (.con (.list [])),
              .setR 11 (.con (.int 7))])
            (.ret (.tup [(.r 10), (.r 11)])))
           .skip))
         (.seq
          (.is [.setR 77 (.r 14),
            .setR 10 (.r 77),
            .setR 11 (.con (.int 0))])
          (.ret (.tup [(.r 10), (.r 11)])))))))))))
def tr13 : PT :=
 (.call ⟨[(17, (.r 2)), (16, (.r 1)), (15, (mkA 5 (.mk [(.r 0)]))), (11, (.con (.int 0))), (10, (.con (.list []))), (5, (.con .none))], [(5, (.mk [(.r 0)]))]⟩ [] 18 19 [(.r 15), (.r 16), (.r 17)]
 (.ite (.ci .neq (.r 18) (.con (.int 0)))
  (.ret (.tup [(.con (.list [])), (.r 18)]))
  (.brk ⟨[(13, (.con (.int 0))), (10, (.r 10)), (11, (.r 11)), (20, (.ci .neq (.r 18) (.con (.int 0)))), (19, (.r 18)), (12, (.r 18))], []⟩
   lp13_0
  (.call ⟨[(59, (.r 3)), (58, (.r 1))], []⟩ [] 60 24 [(.r 58), (.r 59)]
  (.chk (.ci .leq (.llen (.app (.r 60) (.r 4))) (.con (.int 4294967296)))
  (.call ⟨[(65, (.r 2)), (64, (.app (.r 60) (.r 4))), (63, (mkA 5 (.o 5))), (14, (.app (.r 60) (.r 4))), (62, (.con .none)), (61, (.r 4)), (60, (.con .none))], [(60, (.app (.r 60) (.r 4))), (60, (.r 60))]⟩ [] 66 19 [(.r 63), (.r 64), (.r 65)]
  (.ite (.ci .neq (.r 66) (.con (.int 0)))
   (.ret (.tup [(.con (.list [])), (.r 66)]))
   (.call ⟨[(72, (.r 2)), (71, (.r 14)), (70, (mkA 5 (.o 5))), (10, (.r 10)), (11, (.r 11)), (68, (.ci .neq (.r 66) (.con (.int 0)))), (67, (.r 66)), (12, (.r 66))], []⟩ [] 73 28 [(.r 70), (.r 71), (.r 72)]
   (.ite (.ci .lss (.r 73) (.cell (.o 5) 0))
    (.ret (.tup [(.con (.list [])), (.con (.int 7))]))
    (.ret (.tup [(.r 14), (.con (.int 0))])))))))))))
theorem tr13_eq : tree pc13 = tr13 := by kernel_rfl
/-! allonge/allongeref41.Without -/
def bd24_0 : PC :=
 (.seq
  (.seq
   (.is [.setR 15 (.r 8),
     .setR 16 (.r 1),
     .setR 17 (.llen (.r 16)),
     .setR 18 (.ci .lss (.r 15) (.r 17))])
   (.ite (.r 18) [] []
    .skip
    (.exit 2)))
  (.seq
   (.block 3 [7, 21, 22, 29] []
    (.is [.setR 21 (.r 7),
      .setR 22 (.r 21),
      .setR 23 (.r 1),
      .setR 24 (.r 8),
      .chk (.imp [(22, false)] (.idx (.r 23) (.r 24))),
      .setR 25 (.ref (.nth (.r 23) (.r 24))),
      .setR 26 (.deref (.r 25)),
      .setR 27 (.r 6),
      .setR 28 (.ci .eql (.r 26) (.r 27)),
      .setR 29 (.pick (.r 22) (.con (.bool true)) (.r 28)),
      .setR 7 (.r 29)]))
   (.is [.setR 19 (.r 8),
     .setR 20 (.ai .add .i64 (.r 19) (.con (.int 1))),
     .setR 8 (.r 20)])))
def lp24_0 : PC := .block 2 [7, 8, 15, 16, 17, 18] [] (.loop [7, 8] [] bd24_0)
def rd24_0 : PT :=
 (.ite (.ci .lss (.r 8) (.llen (.r 1)))
  (.chk (.nt (.an (.an (.nt (.r 7)) (.con (.bool true))) (.nt (.idx (.r 1) (.r 8)))))
  (.next ⟨[(7, (.pick (.r 7) (.con (.bool true)) (.ci .eql (.nth (.r 1) (.r 8)) (.r 6)))), (8, (.ai .add .i64 (.r 8) (.con (.int 1))))], []⟩))
  (.exit 2 ⟨[(7, (.r 7)), (8, (.r 8)), (15, (.r 8)), (16, (.r 1)), (17, (.llen (.r 1))), (18, (.ci .lss (.r 8) (.llen (.r 1))))], []⟩))
theorem rd24_0_eq : round 2 [7, 8, 15, 16, 17, 18] [] [7, 8] [] bd24_0 = rd24_0 := by kernel_rfl
def bd24_1 : PC :=
 (.seq
  (.seq
   (.is [.setR 9 (.r 6),
     .setR 10 (.r 0),
     .setR 11 (.llen (.r 10)),
     .setR 12 (.ci .lss (.r 9) (.r 11))])
   (.ite (.r 12) [] []
    .skip
    (.exit 0)))
  (.seq
   (.block 1 [5, 7, 8, 15, 16, 17, 18, 30, 31] [5]
    (.seq
     (.is [.setR 7 (.con (.bool false))])
     (.seq
      (.seq
       (.is [.setR 8 (.con (.int 0))])
       lp24_0)
      (.seq
       (.is [.setR 30 (.r 7),
         .setR 31 (.nt (.r 30))])
       (.ite (.r 31) [5] [5]
        (.is [.setR 32 (.r 5),
          .setR 33 (.r 0),
          .setR 34 (.r 6),
          .chk (.idx (.r 33) (.r 34)),
          .setR 35 (.ref (.nth (.r 33) (.r 34))),
          .setR 36 (.deref (.r 35)),
          .setO 37 (.lst [(.r 36)]),
          .setR 37 (.con .none),
          .chk (.ci .leq (.llen (.app (.o 5) (.o 37))) (.con (.int 4294967296))),
          .setO 5 (.app (.o 5) (.o 37)),
          .setR 38 (.con .none),
          .setR 5 (.r 38)])
        .skip)))))
   (.is [.setR 13 (.r 6),
     .setR 14 (.ai .add .i64 (.r 13) (.con (.int 1))),
     .setR 6 (.r 14)])))
def lp24_1 : PC := .block 0 [5, 6, 9, 10, 11, 12] [5] (.loop [5, 6] [5] bd24_1)
def rd24_1 : PT :=
 (.ite (.ci .lss (.r 6) (.llen (.r 0)))
  (.blockS ⟨[(12, (.ci .lss (.r 6) (.llen (.r 0)))), (11, (.llen (.r 0))), (10, (.r 0)), (9, (.r 6))], []⟩ 1 [5, 7, 8, 15, 16, 17, 18, 30, 31] [5]
   (.brk ⟨[(8, (.con (.int 0))), (7, (.con (.bool false)))], []⟩
    lp24_0
   (.ite (.nt (.r 7))
    (.chk (.idx (.r 0) (.r 6))
    (.chk (.ci .leq (.llen (.app (.o 5) (.lst [(.nth (.r 0) (.r 6))]))) (.con (.int 4294967296)))
    (.next ⟨[(5, (.con .none)), (31, (.nt (.r 7))), (30, (.r 7))], [(5, (.app (.o 5) (.lst [(.nth (.r 0) (.r 6))])))]⟩)))
    (.next ⟨[(5, (.r 5)), (31, (.nt (.r 7))), (30, (.r 7))], [(5, (.o 5))]⟩)))
  (.next ⟨[(5, (.r 5)), (6, (.ai .add .i64 (.r 6) (.con (.int 1))))], [(5, (.o 5))]⟩))
  (.exit 0 ⟨[(5, (.r 5)), (6, (.r 6)), (9, (.r 6)), (10, (.r 0)), (11, (.llen (.r 0))), (12, (.ci .lss (.r 6) (.llen (.r 0))))], [(5, (.o 5))]⟩))
theorem rd24_1_eq : round 0 [5, 6, 9, 10, 11, 12] [5] [5, 6] [5] bd24_1 = rd24_1 := by kernel_rfl
def pc24 : PC :=
 (.seq
  (.is [.setO 4 (.con (.list [])),
    .setR 4 (.con .none)])
  (.seq
   (.is [.setO 5 (.con (.list [])),
     .setR 5 (.con .none)])
   (.seq
    (.seq
     (.is [.setR 6 (.con (.int 0))])
     lp24_1)
    (.seq
     (.is [.setR 39 (.r 5),
       .setR 4 (.r 39),
       .setO 4 (.o 5)])
     (.ret (.o 4))))))
def tr24 : PT :=
 (.brk ⟨[(6, (.con (.int 0))), (5, (.con .none)), (4, (.con .none))], [(5, (.con (.list []))), (4, (.con (.list [])))]⟩
  lp24_1
 (.ret (.o 5)))
theorem tr24_eq : tree pc24 = tr24 := by kernel_rfl
/-! allonge/allongeref41.Spare -/
def bd15_0 : PC :=
 (.seq
  (.seq
   (.is [.setR 34 (.r 12),
     .setR 35 (.r 1),
     .setR 36 (.llen (.r 35)),
     .setR 37 (.ci .lss (.r 34) (.r 36))])
   (.ite (.r 37) [] []
    .skip
    (.exit 2)))
  (.seq
   (.block 3 [11, 40, 41, 42, 43, 44, 45, 65] []
    (.seq
     (.is [.setR 40 (.r 10),
       .setR 41 (.r 12),
       .chk (.idx (.o 10) (.r 41)),
       .setR 42 (.r 41),
       .setR 43 (.nth (.o 10) (.r 42)),
       .setR 44 (.nt (.r 43)),
       .setR 45 (.r 44),
       .setR 46 (.r 11),
       .setR 47 (.ci .lss (.r 46) (.con (.int 0))),
       .setR 48 (.r 47),
       .setR 49 (mkA 5 (.o 3)),
       .setR 50 (.r 1),
       .setR 51 (.r 12),
       .chk (.imp [(48, false), (45, true)] (.idx (.r 50) (.r 51))),
       .setR 52 (.ref (.nth (.r 50) (.r 51))),
       .setR 53 (.deref (.r 52)),
       .setR 54 (.r 2),
       .call [(48, false), (45, true)] 55 23 [(.r 49), (.r 53), (.r 54)],
       .setR 56 (mkA 5 (.o 3)),
       .setR 57 (.r 1),
       .setR 58 (.r 11),
       .chk (.imp [(48, false), (45, true)] (.idx (.r 57) (.r 58))),
       .setR 59 (.ref (.nth (.r 57) (.r 58))),
       .setR 60 (.deref (.r 59)),
       .setR 61 (.r 2),
       .call [(48, false), (45, true)] 62 23 [(.r 56), (.r 60), (.r 61)],
       .setR 63 (.ci .lss (.r 55) (.r 62)),
       .setR 64 (.pick (.r 48) (.con (.bool true)) (.r 63)),
       .setR 65 (.pick (.r 45) (.r 64) (.con (.bool false)))])
     (.ite (.r 65) [11] []
      (.is [.setR 66 (.r 12),
        .setR 11 (.r 66)])
      .skip)))
   (.is [.setR 38 (.r 12),
     .setR 39 (.ai .add .i64 (.r 38) (.con (.int 1))),
     .setR 12 (.r 39)])))
def lp15_0 : PC := .block 2 [11, 12, 34, 35, 36, 37] [] (.loop [11, 12] [] bd15_0)
def rd15_0 : PT :=
 (.ite (.ci .lss (.r 12) (.llen (.r 1)))
  (.blockS ⟨[(37, (.ci .lss (.r 12) (.llen (.r 1)))), (36, (.llen (.r 1))), (35, (.r 1)), (34, (.r 12))], []⟩ 3 [11, 40, 41, 42, 43, 44, 45, 65] []
   (.chk (.idx (.o 10) (.r 12))
   (.chk (.nt (.an (.an (.nt (.ci .lss (.r 11) (.con (.int 0)))) (.an (.nt (.nth (.o 10) (.r 12))) (.con (.bool true)))) (.nt (.idx (.r 1) (.r 12)))))
   (.call ⟨[(54, (.r 2)), (53, (.nth (.r 1) (.r 12))), (52, (.ref (.nth (.r 1) (.r 12)))), (51, (.r 12)), (50, (.r 1)), (49, (mkA 5 (.o 3))), (48, (.ci .lss (.r 11) (.con (.int 0)))), (47, (.ci .lss (.r 11) (.con (.int 0)))), (46, (.r 11)), (45, (.nt (.nth (.o 10) (.r 12)))), (44, (.nt (.nth (.o 10) (.r 12)))), (43, (.nth (.o 10) (.r 12))), (42, (.r 12)), (41, (.r 12)), (40, (.r 10))], []⟩ [(48, false), (45, true)] 55 23 [(.r 49), (.r 53), (.r 54)]
   (.chk (.nt (.an (.an (.nt (.r 48)) (.an (.r 45) (.con (.bool true)))) (.nt (.idx (.r 1) (.r 11)))))
   (.call ⟨[(61, (.r 2)), (60, (.nth (.r 1) (.r 11))), (59, (.ref (.nth (.r 1) (.r 11)))), (58, (.r 11)), (57, (.r 1)), (56, (mkA 5 (.o 3)))], []⟩ [(48, false), (45, true)] 62 23 [(.r 56), (.r 60), (.r 61)]
   (.next ⟨[(11, (.pick (.pick (.r 45) (.pick (.r 48) (.con (.bool true)) (.ci .lss (.r 55) (.r 62))) (.con (.bool false))) (.r 12) (.r 11))), (65, (.pick (.r 45) (.pick (.r 48) (.con (.bool true)) (.ci .lss (.r 55) (.r 62))) (.con (.bool false)))), (64, (.pick (.r 48) (.con (.bool true)) (.ci .lss (.r 55) (.r 62)))), (63, (.ci .lss (.r 55) (.r 62)))], []⟩))))))
  (.next ⟨[(11, (.r 11)), (12, (.ai .add .i64 (.r 12) (.con (.int 1))))], []⟩))
  (.exit 2 ⟨[(11, (.r 11)), (12, (.r 12)), (34, (.r 12)), (35, (.r 1)), (36, (.llen (.r 1))), (37, (.ci .lss (.r 12) (.llen (.r 1))))], []⟩))
theorem rd15_0_eq : round 2 [11, 12, 34, 35, 36, 37] [] [11, 12] [] bd15_0 = rd15_0 := by kernel_rfl
def bd15_1 : PC :=
 (.block 1 [9, 11, 12, 34, 35, 36, 37, 67, 68, 69, 79, 80, 81, 82, 83, 84, 85, 86, 87, 88, 89, 90, 91] [10]
  (.seq
   (.is [.setR 11 (.con (.int (-1)))])
   (.seq
    (.seq
     (.is [.setR 12 (.con (.int 0))])
     lp15_0)
    (.seq
     (.seq
      (.is [.setR 67 (.r 11),
        .setR 68 (.ci .lss (.r 67) (.con (.int 0))),
        .setR 69 (.r 68),
        .setR 70 (mkA 5 (.o 3)),
        .setR 71 (.r 1),
        .setR 72 (.r 11),
        .chk (.imp [(69, false)] (.idx (.r 71) (.r 72))),
        .setR 73 (.ref (.nth (.r 71) (.r 72))),
        .setR 74 (.deref (.r 73)),
        .setR 75 (.r 2),
        .call [(69, false)] 76 23 [(.r 70), (.r 74), (.r 75)],
        .setR 77 (.r 9),
        .setR 78 (.ci .gtr (.r 76) (.r 77)),
        .setR 79 (.pick (.r 69) (.con (.bool true)) (.r 78))])
      (.ite (.r 79) [] []
       (.exit 0)
       .skip))
     (.seq
      (.is [.setR 80 (.r 10),
        .setR 81 (.r 11),
        .chk (.idx (.o 10) (.r 81)),
        .setR 82 (.r 81),
        .setO 10 (.setn (.o 10) (.r 82) 0 (.con (.bool true)))])
      (.is [.setR 83 (.r 9),
        .setR 84 (mkA 5 (.o 3)),
        .setR 85 (.r 1),
        .setR 86 (.r 11),
        .chk (.idx (.r 85) (.r 86)),
        .setR 87 (.ref (.nth (.r 85) (.r 86))),
        .setR 88 (.deref (.r 87)),
        .setR 89 (.r 2),
        .call [] 90 23 [(.r 84), (.r 88), (.r 89)],
        .setR 91 (.ai .sub .i64 (.r 83) (.r 90)),
        .setR 9 (.r 91)]))))))
def lp15_1 : PC := .block 0 [9, 11, 12, 34, 35, 36, 37, 67, 68, 69, 79] [10] (.loop [9] [10] bd15_1)
def rd15_1 : PT :=
 (.blockS ⟨[], []⟩ 1 [9, 11, 12, 34, 35, 36, 37, 67, 68, 69, 79, 80, 81, 82, 83, 84, 85, 86, 87, 88, 89, 90, 91] [10]
  (.brk ⟨[(12, (.con (.int 0))), (11, (.con (.int (-1))))], []⟩
   lp15_0
  (.chk (.nt (.an (.an (.nt (.ci .lss (.r 11) (.con (.int 0)))) (.con (.bool true))) (.nt (.idx (.r 1) (.r 11)))))
  (.call ⟨[(75, (.r 2)), (74, (.nth (.r 1) (.r 11))), (73, (.ref (.nth (.r 1) (.r 11)))), (72, (.r 11)), (71, (.r 1)), (70, (mkA 5 (.o 3))), (69, (.ci .lss (.r 11) (.con (.int 0)))), (68, (.ci .lss (.r 11) (.con (.int 0)))), (67, (.r 11))], []⟩ [(69, false)] 76 23 [(.r 70), (.r 74), (.r 75)]
  (.ite (.pick (.r 69) (.con (.bool true)) (.ci .gtr (.r 76) (.r 9)))
   (.exit 0 ⟨[(79, (.pick (.r 69) (.con (.bool true)) (.ci .gtr (.r 76) (.r 9)))), (78, (.ci .gtr (.r 76) (.r 9))), (77, (.r 9))], []⟩)
   (.chk (.idx (.o 10) (.r 11))
   (.chk (.idx (.r 1) (.r 11))
   (.call ⟨[(89, (.r 2)), (88, (.nth (.r 1) (.r 11))), (87, (.ref (.nth (.r 1) (.r 11)))), (86, (.r 11)), (85, (.r 1)), (84, (mkA 5 (.o 3))), (83, (.r 9)), (82, (.r 11)), (81, (.r 11)), (80, (.r 10)), (79, (.pick (.r 69) (.con (.bool true)) (.ci .gtr (.r 76) (.r 9)))), (78, (.ci .gtr (.r 76) (.r 9))), (77, (.r 9))], [(10, (.setn (.o 10) (.r 11) 0 (.con (.bool true))))]⟩ [] 90 23 [(.r 84), (.r 88), (.r 89)]
   (.next ⟨[(9, (.ai .sub .i64 (.r 83) (.r 90))), (91, (.ai .sub .i64 (.r 83) (.r 90)))], []⟩))))))))
 (.next ⟨[(9, (.r 9))], [(10, (.o 10))]⟩))
theorem rd15_1_eq : round 0 [9, 11, 12, 34, 35, 36, 37, 67, 68, 69, 79] [10] [9] [10] bd15_1 = rd15_1 := by kernel_rfl
def bd15_2 : PC :=
 (.seq
  (.seq
   (.is [.setR 92 (.r 14),
     .setR 93 (.r 1),
     .setR 94 (.llen (.r 93)),
     .setR 95 (.ci .lss (.r 92) (.r 94))])
   (.ite (.r 95) [] []
    .skip
    (.exit 4)))
  (.seq
   (.block 5 [13, 98, 99, 100, 101] [13]
    (.seq
     (.is [.setR 98 (.r 10),
       .setR 99 (.r 14),
       .chk (.idx (.o 10) (.r 99)),
       .setR 100 (.r 99),
       .setR 101 (.nth (.o 10) (.r 100))])
     (.ite (.r 101) [13] [13]
      (.is [.setR 102 (.r 13),
        .setR 103 (.r 14),
        .setO 104 (.lst [(.r 103)]),
        .setR 104 (.con .none),
        .chk (.ci .leq (.llen (.app (.o 13) (.o 104))) (.con (.int 4294967296))),
        .setO 13 (.app (.o 13) (.o 104)),
        .setR 105 (.con .none),
        .setR 13 (.r 105)])
      .skip)))
   (.is [.setR 96 (.r 14),
     .setR 97 (.ai .add .i64 (.r 96) (.con (.int 1))),
     .setR 14 (.r 97)])))
def lp15_2 : PC := .block 4 [13, 14, 92, 93, 94, 95] [13] (.loop [13, 14] [13] bd15_2)
def rd15_2 : PT :=
 (.ite (.ci .lss (.r 14) (.llen (.r 1)))
  (.chk (.idx (.o 10) (.r 14))
  (.ite (.nth (.o 10) (.r 14))
   (.chk (.ci .leq (.llen (.app (.o 13) (.lst [(.r 14)]))) (.con (.int 4294967296)))
   (.next ⟨[(13, (.con .none)), (14, (.ai .add .i64 (.r 14) (.con (.int 1))))], [(13, (.app (.o 13) (.lst [(.r 14)])))]⟩))
   (.next ⟨[(13, (.r 13)), (14, (.ai .add .i64 (.r 14) (.con (.int 1))))], [(13, (.o 13))]⟩)))
  (.exit 4 ⟨[(13, (.r 13)), (14, (.r 14)), (92, (.r 14)), (93, (.r 1)), (94, (.llen (.r 1))), (95, (.ci .lss (.r 14) (.llen (.r 1))))], [(13, (.o 13))]⟩))
theorem rd15_2_eq : round 4 [13, 14, 92, 93, 94, 95] [13] [13, 14] [13] bd15_2 = rd15_2 := by kernel_rfl
def pc15 : PC :=
 (.seq
  (.is [.setO 3 (.mk [(.r 0)]),
    .setR 3 (.con .none),
    .setR 6 (.con (.list [])),
    .setR 7 (.con (.int 0))])
  (.seq
   (.is [.setR 15 (mkA 5 (.o 3)),
     .setR 16 (.r 1),
     .setR 17 (.r 2),
     .call [] 18 19 [(.r 15), (.r 16), (.r 17)],
     .setR 8 (.r 18)])
   (.seq
    (.seq
     (.is [.setR 19 (.r 8),
       .setR 20 (.ci .neq (.r 19) (.con (.int 0)))])
     (.ite (.r 20) [6, 7] []
      (.seq
       (.is [.setR 21 (.r 8),
         .setR 6 (.con (.list [])),
         .setR 7 (.r 21)])
       (.ret (.tup [(.r 6), (.r 7)])))
      .skip))
    (.seq
     (.is [.setR 22 (mkA 5 (.o 3)),
       .setR 23 (.r 1),
       .setR 24 (.r 2),
       .call [] 25 28 [(.r 22), (.r 23), (.r 24)],
       .setR 26 (.con .none),
       .setR 27 (.cell (.o 3) 0),
       .setR 28 (.ai .sub .i64 (.r 25) (.r 27)),
       .setR 9 (.r 28)])
     (.seq
      (.seq
       (.is [.setR 29 (.r 9),
         .setR 30 (.ci .lss (.r 29) (.con (.int 0)))])
       (.ite (.r 30) [6, 7] []
        (.seq
         (.is [.setR 6 (.con (.list [])),
           .setR 7 (.con (.int 7))])
         (.ret (.tup [(.r 6), (.r 7)])))
        .skip))
      (.seq
       (.is [.setR 31 (.r 1),
         .setR 32 (.llen (.r 31)),
         .chk (.an (.ci .geq (.r 32) (.con (.int 0))) (.ci .leq (.r 32) (.con (.int 4294967296)))),
         .chk (.ci .eql (.r 32) (.r 32)),
         .setO 33 (.rep (.r 32) (.con (.bool false))),
         .setR 33 (.con .none),
         .setR 10 (.r 33),
         .setO 10 (.o 33)])
       (.seq
        lp15_1
        (.seq
         (.is [.setO 13 (.con (.list [])),
           .setR 13 (.con .none)])
         (.seq
          (.seq
           (.is [.setR 14 (.con (.int 0))])
           lp15_2)
          (.seq
           (.is [.setR 106 (.r 13),
             .setR 6 (.o 13),
             .setR 7 (.con (.int 0))])
           (.ret (.tup [(.r 6), (.r 7)]))))))))))))
def tr15 : PT :=
 (.call ⟨[(17, (.r 2)), (16, (.r 1)), (15, (mkA 5 (.mk [(.r 0)]))), (7, (.con (.int 0))), (6, (.con (.list []))), (3, (.con .none))], [(3, (.mk [(.r 0)]))]⟩ [] 18 19 [(.r 15), (.r 16), (.r 17)]
 (.ite (.ci .neq (.r 18) (.con (.int 0)))
  (.ret (.tup [(.con (.list [])), (.r 18)]))
  (.call ⟨[(24, (.r 2)), (23, (.r 1)), (22, (mkA 5 (.o 3))), (6, (.r 6)), (7, (.r 7)), (20, (.ci .neq (.r 18) (.con (.int 0)))), (19, (.r 18)), (8, (.r 18))], []⟩ [] 25 28 [(.r 22), (.r 23), (.r 24)]
  (.ite (.ci .lss (.ai .sub .i64 (.r 25) (.cell (.o 3) 0)) (.con (.int 0)))
   (.ret (.tup [(.con (.list [])), (.con (.int 7))]))
   (.chk (.an (.ci .geq (.llen (.r 1)) (.con (.int 0))) (.ci .leq (.llen (.r 1)) (.con (.int 4294967296))))
   (.chk (.ci .eql (.llen (.r 1)) (.llen (.r 1)))
   (.brk ⟨[(10, (.con .none)), (33, (.con .none)), (32, (.llen (.r 1))), (31, (.r 1)), (6, (.r 6)), (7, (.r 7)), (30, (.ci .lss (.ai .sub .i64 (.r 25) (.cell (.o 3) 0)) (.con (.int 0)))), (29, (.ai .sub .i64 (.r 25) (.cell (.o 3) 0))), (9, (.ai .sub .i64 (.r 25) (.cell (.o 3) 0))), (28, (.ai .sub .i64 (.r 25) (.cell (.o 3) 0))), (27, (.cell (.o 3) 0)), (26, (.con .none))], [(10, (.rep (.llen (.r 1)) (.con (.bool false)))), (33, (.rep (.llen (.r 1)) (.con (.bool false))))]⟩
    lp15_1
   (.brk ⟨[(14, (.con (.int 0))), (13, (.con .none))], [(13, (.con (.list [])))]⟩
    lp15_2
   (.ret (.tup [(.o 13), (.con (.int 0))]))))))))))
theorem tr15_eq : tree pc15 = tr15 := by kernel_rfl
/-! allonge/allongeref41.Until -/
def bd17_0 : PC :=
 (.seq
  (.seq
   (.is [.setR 27 (.r 10),
     .setR 28 (.r 1),
     .setR 29 (.llen (.r 28)),
     .setR 30 (.ci .lss (.r 27) (.r 29))])
   (.ite (.r 30) [] []
    .skip
    (.exit 0)))
  (.seq
   (.block 1 [9, 11, 33, 34, 35, 36, 37, 38, 39, 40, 41, 42, 45, 46, 54, 55, 63] []
    (.seq
     (.is [.setR 33 (.r 1),
       .setR 34 (.r 10),
       .chk (.idx (.r 33) (.r 34)),
       .setR 35 (.ref (.nth (.r 33) (.r 34))),
       .setR 36 (.ref (.cell (.deref (.r 35)) 1)),
       .setR 37 (.deref (.r 36)),
       .setR 38 (.ai .add .i64 (.r 37) (.con (.int 1))),
       .setR 11 (.r 38)])
     (.seq
      (.is [.setR 39 (.r 11),
        .setR 40 (.r 2),
        .setR 41 (.ci .gtr (.r 39) (.r 40)),
        .setR 42 (.r 41),
        .setR 43 (.r 11),
        .setR 44 (.ci .leq (.r 43) (.con (.int 100000))),
        .setR 45 (.pick (.r 42) (.r 44) (.con (.bool false))),
        .setR 46 (.r 45),
        .setR 47 (.r 9),
        .setR 48 (.ci .eql (.r 47) (.con (.int (-1)))),
        .setR 49 (.r 48),
        .setR 50 (.r 11),
        .setR 51 (.r 9),
        .setR 52 (.ci .lss (.r 50) (.r 51)),
        .setR 53 (.pick (.r 49) (.con (.bool true)) (.r 52)),
        .setR 54 (.pick (.r 46) (.r 53) (.con (.bool false))),
        .setR 55 (.r 54),
        .setR 56 (mkA 5 (.o 3)),
        .setR 57 (.r 1),
        .setR 58 (.r 11),
        .call [(55, true)] 59 28 [(.r 56), (.r 57), (.r 58)],
        .setR 60 (.con .none),
        .setR 61 (.cell (.o 3) 0),
        .setR 62 (.ci .lss (.r 59) (.r 61)),
        .setR 63 (.pick (.r 55) (.r 62) (.con (.bool false)))])
      (.ite (.r 63) [9] []
       (.is [.setR 64 (.r 11),
         .setR 9 (.r 64)])
       .skip))))
   (.is [.setR 31 (.r 10),
     .setR 32 (.ai .add .i64 (.r 31) (.con (.int 1))),
     .setR 10 (.r 32)])))
def lp17_0 : PC := .block 0 [9, 10, 27, 28, 29, 30] [] (.loop [9, 10] [] bd17_0)
def rd17_0 : PT :=
 (.ite (.ci .lss (.r 10) (.llen (.r 1)))
  (.blockS ⟨[(30, (.ci .lss (.r 10) (.llen (.r 1)))), (29, (.llen (.r 1))), (28, (.r 1)), (27, (.r 10))], []⟩ 1 [9, 11, 33, 34, 35, 36, 37, 38, 39, 40, 41, 42, 45, 46, 54, 55, 63] []
   (.chk (.idx (.r 1) (.r 10))
   (.call ⟨[(58, (.ai .add .i64 (.cell (.nth (.r 1) (.r 10)) 1) (.con (.int 1)))), (57, (.r 1)), (56, (mkA 5 (.o 3))), (55, (.pick (.pick (.ci .gtr (.ai .add .i64 (.cell (.nth (.r 1) (.r 10)) 1) (.con (.int 1))) (.r 2)) (.ci .leq (.ai .add .i64 (.cell (.nth (.r 1) (.r 10)) 1) (.con (.int 1))) (.con (.int 100000))) (.con (.bool false))) (.pick (.ci .eql (.r 9) (.con (.int (-1)))) (.con (.bool true)) (.ci .lss (.ai .add .i64 (.cell (.nth (.r 1) (.r 10)) 1) (.con (.int 1))) (.r 9))) (.con (.bool false)))), (54, (.pick (.pick (.ci .gtr (.ai .add .i64 (.cell (.nth (.r 1) (.r 10)) 1) (.con (.int 1))) (.r 2)) (.ci .leq (.ai .add .i64 (.cell (.nth (.r 1) (.r 10)) 1) (.con (.int 1))) (.con (.int 100000))) (.con (.bool false))) (.pick (.ci .eql (.r 9) (.con (.int (-1)))) (.con (.bool true)) (.ci .lss (.ai .add .i64 (.cell (.nth (.r 1) (.r 10)) 1) (.con (.int 1))) (.r 9))) (.con (.bool false)))), (53, (.pick (.ci .eql (.r 9) (.con (.int (-1)))) (.con (.bool true)) (.ci .lss (.ai .add .i64 (.cell (.nth (.r 1) (.r 10)) 1) (.con (.int 1))) (.r 9)))), (52, (.ci .lss (.ai .add .i64 (.cell (.nth (.r 1) (.r 10)) 1) (.con (.int 1))) (.r 9))), (51, (.r 9)), (50, (.ai .add .i64 (.cell (.nth (.r 1) (.r 10)) 1) (.con (.int 1)))), (49, (.ci .eql (.r 9) (.con (.int (-1))))), (48, (.ci .eql (.r 9) (.con (.int (-1))))), (47, (.r 9)), (46, (.pick (.ci .gtr (.ai .add .i64 (.cell (.nth (.r 1) (.r 10)) 1) (.con (.int 1))) (.r 2)) (.ci .leq (.ai .add .i64 (.cell (.nth (.r 1) (.r 10)) 1) (.con (.int 1))) (.con (.int 100000))) (.con (.bool false)))), (45, (.pick (.ci .gtr (.ai .add .i64 (.cell (.nth (.r 1) (.r 10)) 1) (.con (.int 1))) (.r 2)) (.ci .leq (.ai .add .i64 (.cell (.nth (.r 1) (.r 10)) 1) (.con (.int 1))) (.con (.int 100000))) (.con (.bool false)))), (44, (.ci .leq (.ai .add .i64 (.cell (.nth (.r 1) (.r 10)) 1) (.con (.int 1))) (.con (.int 100000)))), (43, (.ai .add .i64 (.cell (.nth (.r 1) (.r 10)) 1) (.con (.int 1)))), (42, (.ci .gtr (.ai .add .i64 (.cell (.nth (.r 1) (.r 10)) 1) (.con (.int 1))) (.r 2))), (41, (.ci .gtr (.ai .add .i64 (.cell (.nth (.r 1) (.r 10)) 1) (.con (.int 1))) (.r 2))), (40, (.r 2)), (39, (.ai .add .i64 (.cell (.nth (.r 1) (.r 10)) 1) (.con (.int 1)))), (11, (.ai .add .i64 (.cell (.nth (.r 1) (.r 10)) 1) (.con (.int 1)))), (38, (.ai .add .i64 (.cell (.nth (.r 1) (.r 10)) 1) (.con (.int 1)))), (37, (.cell (.nth (.r 1) (.r 10)) 1)), (36, (.ref (.cell (.nth (.r 1) (.r 10)) 1))), (35, (.ref (.nth (.r 1) (.r 10)))), (34, (.r 10)), (33, (.r 1))], []⟩ [(55, true)] 59 28 [(.r 56), (.r 57), (.r 58)]
   (.next ⟨[(9, (.pick (.pick (.r 55) (.ci .lss (.r 59) (.cell (.o 3) 0)) (.con (.bool false))) (.r 11) (.r 9))), (63, (.pick (.r 55) (.ci .lss (.r 59) (.cell (.o 3) 0)) (.con (.bool false)))), (62, (.ci .lss (.r 59) (.cell (.o 3) 0))), (61, (.cell (.o 3) 0)), (60, (.con .none))], []⟩)))
  (.next ⟨[(9, (.r 9)), (10, (.ai .add .i64 (.r 10) (.con (.int 1))))], []⟩))
  (.exit 0 ⟨[(9, (.r 9)), (10, (.r 10)), (27, (.r 10)), (28, (.r 1)), (29, (.llen (.r 1))), (30, (.ci .lss (.r 10) (.llen (.r 1))))], []⟩))
theorem rd17_0_eq : round 0 [9, 10, 27, 28, 29, 30] [] [9, 10] [] bd17_0 = rd17_0 := by kernel_rfl
def pc17 : PC :=
 (.seq
  (.is [.setO 3 (.mk [(.r 0)]),
    .setR 3 (.con .none),
    .setR 6 (.con (.int 0)),
    .setR 7 (.con (.int 0))])
  (.seq
   (.is [.setR 12 (mkA 5 (.o 3)),
     .setR 13 (.r 1),
     .setR 14 (.r 2),
     .call [] 15 19 [(.r 12), (.r 13), (.r 14)],
     .setR 8 (.r 15)])
   (.seq
    (.seq
     (.is [.setR 16 (.r 8),
       .setR 17 (.ci .neq (.r 16) (.con (.int 0)))])
     (.ite (.r 17) [6, 7] []
      (.seq
       (.is [.setR 18 (.r 8),
         .setR 6 (.con (.int 0)),
         .setR 7 (.r 18)])
       (.ret (.tup [(.r 6), (.r 7)])))
      .skip))
    (.seq
     (.seq
      (.is [.setR 19 (mkA 5 (.o 3)),
        .setR 20 (.r 1),
        .setR 21 (.r 2),
        .call [] 22 28 [(.r 19), (.r 20), (.r 21)],
        .setR 23 (.con .none),
        .setR 24 (.cell (.o 3) 0),
        .setR 25 (.ci .lss (.r 22) (.r 24))])
      (.ite (.r 25) [6, 7] []
       (.seq
        (.is [.setR 26 (.r 2),
          .setR 6 (.r 26),
          .setR 7 (.con (.int 0))])
        (.ret (.tup [(.r 6), (.r 7)])))
       .skip))
     (.seq
      (.is [.setR 9 (.con (.int (-1)))])
      (.seq
       (.seq
        (.is [.setR 10 (.con (.int 0))])
        lp17_0)
       (.seq
        (.is [.setR 65 (.r 9),
          .setR 6 (.r 65),
          .setR 7 (.con (.int 0))])
        (.ret (.tup [(.r 6), (.r 7)])))))))))
def tr17 : PT :=
 (.call ⟨[(14, (.r 2)), (13, (.r 1)), (12, (mkA 5 (.mk [(.r 0)]))), (7, (.con (.int 0))), (6, (.con (.int 0))), (3, (.con .none))], [(3, (.mk [(.r 0)]))]⟩ [] 15 19 [(.r 12), (.r 13), (.r 14)]
 (.ite (.ci .neq (.r 15) (.con (.int 0)))
  (.ret (.tup [(.con (.int 0)), (.r 15)]))
  (.call ⟨[(21, (.r 2)), (20, (.r 1)), (19, (mkA 5 (.o 3))), (6, (.r 6)), (7, (.r 7)), (17, (.ci .neq (.r 15) (.con (.int 0)))), (16, (.r 15)), (8, (.r 15))], []⟩ [] 22 28 [(.r 19), (.r 20), (.r 21)]
  (.ite (.ci .lss (.r 22) (.cell (.o 3) 0))
   (.ret (.tup [(.r 2), (.con (.int 0))]))
   (.brk ⟨[(10, (.con (.int 0))), (9, (.con (.int (-1)))), (6, (.r 6)), (7, (.r 7)), (25, (.ci .lss (.r 22) (.cell (.o 3) 0))), (24, (.cell (.o 3) 0)), (23, (.con .none))], []⟩
    lp17_0
   (.ret (.tup [(.r 9), (.con (.int 0))])))))))
theorem tr17_eq : tree pc17 = tr17 := by kernel_rfl
/-! allonge/allongeref41.Same -/
def bd20_0 : PC :=
 (.seq
  (.seq
   (.is [.setR 11 (.r 5),
     .setR 12 (.r 0),
     .setR 13 (.llen (.r 12)),
     .setR 14 (.ci .lss (.r 11) (.r 13))])
   (.ite (.r 14) [] []
    .skip
    (.exit 0)))
  (.seq
   (.block 1 [4, 17, 18, 19, 20, 21, 22, 23, 24, 25] []
    (.seq
     (.is [.setR 17 (.r 0),
       .setR 18 (.r 5),
       .chk (.idx (.r 17) (.r 18)),
       .setR 19 (.ref (.nth (.r 17) (.r 18))),
       .setR 20 (.deref (.r 19)),
       .setR 21 (.r 1),
       .setR 22 (.r 5),
       .chk (.idx (.r 21) (.r 22)),
       .setR 23 (.ref (.nth (.r 21) (.r 22))),
       .setR 24 (.deref (.r 23)),
       .setR 25 (.nt (.an (.ci .eql (.cell (.r 20) 0) (.cell (.r 24) 0)) (.an (.ci .eql (.cell (.r 20) 1) (.cell (.r 24) 1)) (.an (.ci .eql (.cell (.r 20) 2) (.cell (.r 24) 2)) (.con (.bool true))))))])
     (.ite (.r 25) [4] []
      (.seq
       (.is [.setR 4 (.con (.bool false))])
       (.ret (.r 4)))
      .skip)))
   (.is [.setR 15 (.r 5),
     .setR 16 (.ai .add .i64 (.r 15) (.con (.int 1))),
     .setR 5 (.r 16)])))
def lp20_0 : PC := .block 0 [4, 5, 11, 12, 13, 14] [] (.loop [4, 5] [] bd20_0)
def rd20_0 : PT :=
 (.ite (.ci .lss (.r 5) (.llen (.r 0)))
  (.chk (.idx (.r 0) (.r 5))
  (.chk (.idx (.r 1) (.r 5))
  (.ite (.nt (.an (.ci .eql (.cell (.nth (.r 0) (.r 5)) 0) (.cell (.nth (.r 1) (.r 5)) 0)) (.an (.ci .eql (.cell (.nth (.r 0) (.r 5)) 1) (.cell (.nth (.r 1) (.r 5)) 1)) (.an (.ci .eql (.cell (.nth (.r 0) (.r 5)) 2) (.cell (.nth (.r 1) (.r 5)) 2)) (.con (.bool true))))))
   (.ret (.con (.bool false)))
   (.next ⟨[(4, (.r 4)), (5, (.ai .add .i64 (.r 5) (.con (.int 1))))], []⟩))))
  (.exit 0 ⟨[(4, (.r 4)), (5, (.r 5)), (11, (.r 5)), (12, (.r 0)), (13, (.llen (.r 0))), (14, (.ci .lss (.r 5) (.llen (.r 0))))], []⟩))
theorem rd20_0_eq : round 0 [4, 5, 11, 12, 13, 14] [] [4, 5] [] bd20_0 = rd20_0 := by kernel_rfl
def pc20 : PC :=
 (.seq
  (.is [.setR 4 (.con (.bool false))])
  (.seq
   (.seq
    (.is [.setR 6 (.r 0),
      .setR 7 (.llen (.r 6)),
      .setR 8 (.r 1),
      .setR 9 (.llen (.r 8)),
      .setR 10 (.ci .neq (.r 7) (.r 9))])
    (.ite (.r 10) [4] []
     (.seq
      (.is [.setR 4 (.con (.bool false))])
      (.ret (.r 4)))
     .skip))
   (.seq
    (.seq
     (.is [.setR 5 (.con (.int 0))])
     lp20_0)
    (.seq
     (.is [.setR 4 (.con (.bool true))])
     (.ret (.r 4))))))
def tr20 : PT :=
 (.ite (.ci .neq (.llen (.r 0)) (.llen (.r 1)))
  (.ret (.con (.bool false)))
  (.brk ⟨[(5, (.con (.int 0))), (4, (.con (.bool false))), (10, (.ci .neq (.llen (.r 0)) (.llen (.r 1)))), (9, (.llen (.r 1))), (8, (.r 1)), (7, (.llen (.r 0))), (6, (.r 0)), (4, (.con (.bool false)))], []⟩
   lp20_0
  (.ret (.con (.bool true)))))
theorem tr20_eq : tree pc20 = tr20 := by kernel_rfl
/-! allonge/allongelaw41.PoolSwaps -/
def bd4_0 : PC :=
 (.seq
  (.seq
   (.is [.setR 68 (.r 15),
     .setR 69 (.con .none),
     .setR 70 (.cell (.o 11) 0),
     .setR 71 (.llen (.r 70)),
     .setR 72 (.ci .lss (.r 68) (.r 71))])
   (.ite (.r 72) [] []
    .skip
    (.exit 2)))
  (.seq
   (.block 3 [14, 75, 76, 77, 78, 79, 80, 81, 90, 91, 108] []
    (.seq
     (.is [.setR 75 (.con .none),
       .setR 76 (.cell (.o 11) 0),
       .setR 77 (.r 15),
       .chk (.idx (.r 76) (.r 77)),
       .setR 78 (.ref (.nth (.r 76) (.r 77))),
       .setR 79 (.deref (.r 78)),
       .setR 80 (.ci .lss (.r 79) (.con (.int 0))),
       .setR 81 (.r 80),
       .setR 82 (.con .none),
       .setR 83 (.cell (.o 11) 0),
       .setR 84 (.r 15),
       .chk (.imp [(81, false)] (.idx (.r 83) (.r 84))),
       .setR 85 (.ref (.nth (.r 83) (.r 84))),
       .setR 86 (.deref (.r 85)),
       .setR 87 (.r 1),
       .setR 88 (.llen (.r 87)),
       .setR 89 (.ci .geq (.r 86) (.r 88)),
       .setR 90 (.pick (.r 81) (.con (.bool true)) (.r 89)),
       .setR 91 (.r 90),
       .setR 92 (.r 15),
       .setR 93 (.ci .gtr (.r 92) (.con (.int 0))),
       .setR 94 (.r 93),
       .setR 95 (.con .none),
       .setR 96 (.cell (.o 11) 0),
       .setR 97 (.r 15),
       .chk (.imp [(94, true), (91, false)] (.idx (.r 96) (.r 97))),
       .setR 98 (.ref (.nth (.r 96) (.r 97))),
       .setR 99 (.deref (.r 98)),
       .setR 100 (.con .none),
       .setR 101 (.cell (.o 11) 0),
       .setR 102 (.r 15),
       .setR 103 (.ai .sub .i64 (.r 102) (.con (.int 1))),
       .chk (.imp [(94, true), (91, false)] (.idx (.r 101) (.r 103))),
       .setR 104 (.ref (.nth (.r 101) (.r 103))),
       .setR 105 (.deref (.r 104)),
       .setR 106 (.ci .leq (.r 99) (.r 105)),
       .setR 107 (.pick (.r 94) (.r 106) (.con (.bool false))),
       .setR 108 (.pick (.r 91) (.con (.bool true)) (.r 107))])
     (.ite (.r 108) [14] []
      (.is [.setR 14 (.con (.bool false))])
      .skip)))
   (.is [.setR 73 (.r 15),
     .setR 74 (.ai .add .i64 (.r 73) (.con (.int 1))),
     .setR 15 (.r 74)])))
def lp4_0 : PC := .block 2 [14, 15, 68, 69, 70, 71, 72] [] (.loop [14, 15] [] bd4_0)
def rd4_0 : PT :=
 (.ite (.ci .lss (.r 15) (.llen (.cell (.o 11) 0)))
  (.chk (.idx (.cell (.o 11) 0) (.r 15))
  (.chk (.nt (.an (.an (.nt (.ci .lss (.nth (.cell (.o 11) 0) (.r 15)) (.con (.int 0)))) (.con (.bool true))) (.nt (.idx (.cell (.o 11) 0) (.r 15)))))
  (.chk (.nt (.an (.an (.ci .gtr (.r 15) (.con (.int 0))) (.an (.nt (.pick (.ci .lss (.nth (.cell (.o 11) 0) (.r 15)) (.con (.int 0))) (.con (.bool true)) (.ci .geq (.nth (.cell (.o 11) 0) (.r 15)) (.llen (.r 1))))) (.con (.bool true)))) (.nt (.idx (.cell (.o 11) 0) (.r 15)))))
  (.chk (.nt (.an (.an (.ci .gtr (.r 15) (.con (.int 0))) (.an (.nt (.pick (.ci .lss (.nth (.cell (.o 11) 0) (.r 15)) (.con (.int 0))) (.con (.bool true)) (.ci .geq (.nth (.cell (.o 11) 0) (.r 15)) (.llen (.r 1))))) (.con (.bool true)))) (.nt (.idx (.cell (.o 11) 0) (.ai .sub .i64 (.r 15) (.con (.int 1)))))))
  (.next ⟨[(14, (.pick (.pick (.pick (.ci .lss (.nth (.cell (.o 11) 0) (.r 15)) (.con (.int 0))) (.con (.bool true)) (.ci .geq (.nth (.cell (.o 11) 0) (.r 15)) (.llen (.r 1)))) (.con (.bool true)) (.pick (.ci .gtr (.r 15) (.con (.int 0))) (.ci .leq (.nth (.cell (.o 11) 0) (.r 15)) (.nth (.cell (.o 11) 0) (.ai .sub .i64 (.r 15) (.con (.int 1))))) (.con (.bool false)))) (.con (.bool false)) (.r 14))), (15, (.ai .add .i64 (.r 15) (.con (.int 1))))], []⟩)))))
  (.exit 2 ⟨[(14, (.r 14)), (15, (.r 15)), (68, (.r 15)), (69, (.con .none)), (70, (.cell (.o 11) 0)), (71, (.llen (.cell (.o 11) 0))), (72, (.ci .lss (.r 15) (.llen (.cell (.o 11) 0))))], []⟩))
theorem rd4_0_eq : round 2 [14, 15, 68, 69, 70, 71, 72] [] [14, 15] [] bd4_0 = rd4_0 := by kernel_rfl
def bd4_1 : PC :=
 (.seq
  (.seq
   (.is [.setR 36 (.r 10),
     .setR 37 (.r 3),
     .setR 38 (.llen (.r 37)),
     .setR 39 (.ci .lss (.r 36) (.r 38))])
   (.ite (.r 39) [] []
    .skip
    (.exit 0)))
  (.seq
   (.block 1 [1, 8, 11, 12, 13, 14, 15, 16, 17, 18, 42, 43, 44, 45, 46, 47, 48, 49, 50, 55, 57, 58, 59, 60, 61, 62, 63, 64, 65, 66, 67, 68, 69, 70, 71, 72, 109, 110, 111, 113, 114, 115, 116, 117, 118, 119, 120, 121, 122, 123, 124] [11, 4107, 8203, 112]
    (.seq
     (.is [.setR 42 (.r 3),
       .setR 43 (.r 10),
       .chk (.idx (.r 42) (.r 43)),
       .setR 44 (.ref (.nth (.r 42) (.r 43))),
       .setR 45 (.deref (.r 44)),
       .setO 11 (.con (.agg [(.list []), (.list [])])),
       .setR 11 (.con .none),
       .setO 4107 (.con (.list [])),
       .setO 8203 (.con (.list [])),
       .setO 11 (.setc (.o 11) 0 (.r 45))])
     (.seq
      (.seq
       (.is [.setR 46 (.con .none),
         .setR 47 (.cell (.o 11) 1),
         .call [] 48 9 [(.r 47)],
         .setR 49 (.nt (.r 48)),
         .setR 50 (.r 49),
         .setR 51 (.con .none),
         .setR 52 (.cell (.o 11) 0),
         .setR 53 (.llen (.r 52)),
         .setR 54 (.ci .gtr (.r 53) (.con (.int 60))),
         .setR 55 (.pick (.r 50) (.con (.bool true)) (.r 54))])
       (.ite (.r 55) [8] []
        (.seq
         (.is [.setR 56 (.r 9),
           .setR 8 (.r 56)])
         (.ret (.r 8)))
        .skip))
      (.seq
       (.is [.setR 58 (mkA 5 (.o 4)),
         .setR 59 (.r 1),
         .setR 60 (.r 2),
         .setR 61 (.con .none),
         .setR 62 (.cell (.o 11) 0),
         .setR 63 (.con .none),
         .setR 64 (.cell (.o 11) 1),
         .call [] 65 12 [(.r 58), (.r 59), (.r 60), (.r 62), (.r 64)],
         .setR 57 (.r 65),
         .setR 66 (.tget (.r 57) 0),
         .setR 67 (.tget (.r 57) 1),
         .setR 12 (.r 66),
         .setR 13 (.r 67)])
       (.seq
        (.is [.setR 14 (.con (.bool true))])
        (.seq
         (.seq
          (.is [.setR 15 (.con (.int 0))])
          lp4_0)
         (.seq
          (.is [.setR 109 (.r 1),
            .setR 110 (.con .none),
            .setR 111 (.cell (.o 11) 0),
            .call [] 112 24 [(.r 109), (.r 111)],
            .setO 112 (.r 112),
            .setR 112 (.con .none),
            .setR 113 (.con .none),
            .setR 114 (.cell (.o 11) 1),
            .chk (.ci .leq (.llen (.app (.o 112) (.r 114))) (.con (.int 4294967296))),
            .setO 112 (.app (.o 112) (.r 114)),
            .setR 115 (.con .none),
            .setR 16 (.o 112)])
          (.seq
           (.is [.setR 117 (mkA 5 (.o 4)),
             .setR 118 (.r 16),
             .setR 119 (.r 2),
             .call [] 120 10 [(.r 117), (.r 118), (.r 119)],
             .setR 116 (.r 120),
             .setR 121 (.tget (.r 116) 0),
             .setR 122 (.tget (.r 116) 1),
             .setR 17 (.r 121),
             .setR 18 (.r 122)])
           (.seq
            (.seq
             (.is [.setR 123 (.r 13),
               .setR 124 (.ci .eql (.r 123) (.con (.int 0)))])
             (.ite (.r 124) [1, 8] []
              (.seq
               (.seq
                (.is [.setR 125 (.r 14),
                  .setR 126 (.nt (.r 125)),
                  .setR 127 (.r 126),
                  .setR 128 (.r 12),
                  .setR 129 (.r 16),
                  .call [(127, false)] 130 20 [(.r 128), (.r 129)],
                  .setR 131 (.nt (.r 130)),
                  .setR 132 (.pick (.r 127) (.con (.bool true)) (.r 131)),
                  .setR 133 (.r 132),
                  .setR 134 (.r 18),
                  .setR 135 (.ci .neq (.r 134) (.con (.int 0))),
                  .setR 136 (.pick (.r 133) (.con (.bool true)) (.r 135)),
                  .setR 137 (.r 136),
                  .setR 138 (.r 17),
                  .setR 139 (.con .none),
                  .setR 140 (.cell (.o 4) 0),
                  .setR 141 (.ci .lss (.r 138) (.r 140)),
                  .setR 142 (.pick (.r 137) (.con (.bool true)) (.r 141))])
                (.ite (.r 142) [8] []
                 (.seq
                  (.is [.setR 8 (.con (.bool false))])
                  (.ret (.r 8)))
                 .skip))
               (.seq
                (.is [.setR 143 (.r 12),
                  .setR 1 (.r 143)])
                (.exit 1)))
              .skip))
            (.seq
             (.seq
              (.is [.setR 144 (.r 12),
                .setR 145 (.llen (.r 144)),
                .setR 146 (.ci .neq (.r 145) (.con (.int 0))),
                .setR 147 (.r 146),
                .setR 148 (.r 13),
                .setR 149 (.ci .eql (.r 148) (.con (.int 4))),
                .setR 150 (.r 14),
                .setR 151 (.cb .eql (.r 149) (.r 150)),
                .setR 152 (.pick (.r 147) (.con (.bool true)) (.r 151)),
                .setR 153 (.r 152),
                .setR 154 (.r 13),
                .setR 155 (.ci .eql (.r 154) (.con (.int 7))),
                .setR 156 (.r 155),
                .setR 157 (.r 18),
                .setR 158 (.ci .neq (.r 157) (.con (.int 0))),
                .setR 159 (.r 158),
                .setR 160 (.r 17),
                .setR 161 (.con .none),
                .setR 162 (.cell (.o 4) 0),
                .setR 163 (.ci .geq (.r 160) (.r 162)),
                .setR 164 (.pick (.r 159) (.con (.bool true)) (.r 163)),
                .setR 165 (.pick (.r 156) (.r 164) (.con (.bool false))),
                .setR 166 (.pick (.r 153) (.con (.bool true)) (.r 165))])
              (.ite (.r 166) [8] []
               (.seq
                (.is [.setR 8 (.con (.bool false))])
                (.ret (.r 8)))
               .skip))
             (.seq
              (.is [.setR 167 (.r 13),
                .setR 168 (.ci .neq (.r 167) (.con (.int 4))),
                .setR 169 (.r 168),
                .setR 170 (.r 13),
                .setR 171 (.ci .neq (.r 170) (.con (.int 7))),
                .setR 172 (.pick (.r 169) (.r 171) (.con (.bool false))),
                .setR 173 (.r 172),
                .setR 174 (.r 13),
                .setR 175 (.r 18),
                .setR 176 (.ci .neq (.r 174) (.r 175)),
                .setR 177 (.r 176),
                .setR 178 (.r 18),
                .setR 179 (.ci .eql (.r 178) (.con (.int 0))),
                .setR 180 (.pick (.r 177) (.con (.bool true)) (.r 179)),
                .setR 181 (.pick (.r 173) (.r 180) (.con (.bool false)))])
              (.ite (.r 181) [8] []
               (.seq
                (.is [.setR 8 (.con (.bool false))])
                (.ret (.r 8)))
               .skip))))))))))))
   (.is [.setR 40 (.r 10),
     .setR 41 (.ai .add .i64 (.r 40) (.con (.int 1))),
     .setR 10 (.r 41)])))
def lp4_1 : PC := .block 0 [1, 8, 10, 36, 37, 38, 39] [] (.loop [1, 8, 10] [] bd4_1)
def rd4_1 : PT :=
 (.ite (.ci .lss (.r 10) (.llen (.r 3)))
  (.blockS ⟨[(39, (.ci .lss (.r 10) (.llen (.r 3)))), (38, (.llen (.r 3))), (37, (.r 3)), (36, (.r 10))], []⟩ 1 [1, 8, 11, 12, 13, 14, 15, 16, 17, 18, 42, 43, 44, 45, 46, 47, 48, 49, 50, 55, 57, 58, 59, 60, 61, 62, 63, 64, 65, 66, 67, 68, 69, 70, 71, 72, 109, 110, 111, 113, 114, 115, 116, 117, 118, 119, 120, 121, 122, 123, 124] [11, 4107, 8203, 112]
   (.chk (.idx (.r 3) (.r 10))
   (.call ⟨[(47, (.cell (.setc (.con (.agg [(.list []), (.list [])])) 0 (.nth (.r 3) (.r 10))) 1)), (46, (.con .none)), (11, (.con .none)), (45, (.nth (.r 3) (.r 10))), (44, (.ref (.nth (.r 3) (.r 10)))), (43, (.r 10)), (42, (.r 3))], [(11, (.setc (.con (.agg [(.list []), (.list [])])) 0 (.nth (.r 3) (.r 10)))), (8203, (.con (.list []))), (4107, (.con (.list []))), (11, (.con (.agg [(.list []), (.list [])])))]⟩ [] 48 9 [(.r 47)]
   (.ite (.pick (.nt (.r 48)) (.con (.bool true)) (.ci .gtr (.llen (.cell (.o 11) 0)) (.con (.int 60))))
    (.ret (.r 9))
    (.call ⟨[(64, (.cell (.o 11) 1)), (63, (.con .none)), (62, (.cell (.o 11) 0)), (61, (.con .none)), (60, (.r 2)), (59, (.r 1)), (58, (mkA 5 (.o 4))), (8, (.r 8)), (55, (.pick (.nt (.r 48)) (.con (.bool true)) (.ci .gtr (.llen (.cell (.o 11) 0)) (.con (.int 60))))), (54, (.ci .gtr (.llen (.cell (.o 11) 0)) (.con (.int 60)))), (53, (.llen (.cell (.o 11) 0))), (52, (.cell (.o 11) 0)), (51, (.con .none)), (50, (.nt (.r 48))), (49, (.nt (.r 48)))], []⟩ [] 65 12 [(.r 58), (.r 59), (.r 60), (.r 62), (.r 64)]
    (.brk ⟨[(15, (.con (.int 0))), (14, (.con (.bool true))), (13, (.tget (.r 65) 1)), (12, (.tget (.r 65) 0)), (67, (.tget (.r 65) 1)), (66, (.tget (.r 65) 0)), (57, (.r 65))], []⟩
     lp4_0
    (.call ⟨[(111, (.cell (.o 11) 0)), (110, (.con .none)), (109, (.r 1))], []⟩ [] 112 24 [(.r 109), (.r 111)]
    (.chk (.ci .leq (.llen (.app (.r 112) (.cell (.o 11) 1))) (.con (.int 4294967296)))
    (.call ⟨[(119, (.r 2)), (118, (.app (.r 112) (.cell (.o 11) 1))), (117, (mkA 5 (.o 4))), (16, (.app (.r 112) (.cell (.o 11) 1))), (115, (.con .none)), (114, (.cell (.o 11) 1)), (113, (.con .none)), (112, (.con .none))], [(112, (.app (.r 112) (.cell (.o 11) 1))), (112, (.r 112))]⟩ [] 120 10 [(.r 117), (.r 118), (.r 119)]
    (.iteS ⟨[(124, (.ci .eql (.r 13) (.con (.int 0)))), (123, (.r 13)), (18, (.tget (.r 120) 1)), (17, (.tget (.r 120) 0)), (122, (.tget (.r 120) 1)), (121, (.tget (.r 120) 0)), (116, (.r 120))], []⟩ (.r 124) [1, 8] []
     (.call ⟨[(129, (.r 16)), (128, (.r 12)), (127, (.nt (.r 14))), (126, (.nt (.r 14))), (125, (.r 14))], []⟩ [(127, false)] 130 20 [(.r 128), (.r 129)]
     (.ite (.pick (.pick (.pick (.r 127) (.con (.bool true)) (.nt (.r 130))) (.con (.bool true)) (.ci .neq (.r 18) (.con (.int 0)))) (.con (.bool true)) (.ci .lss (.r 17) (.cell (.o 4) 0)))
      (.ret (.con (.bool false)))
      (.exit 1 ⟨[(1, (.r 12)), (143, (.r 12)), (8, (.r 8)), (142, (.pick (.pick (.pick (.r 127) (.con (.bool true)) (.nt (.r 130))) (.con (.bool true)) (.ci .neq (.r 18) (.con (.int 0)))) (.con (.bool true)) (.ci .lss (.r 17) (.cell (.o 4) 0)))), (141, (.ci .lss (.r 17) (.cell (.o 4) 0))), (140, (.cell (.o 4) 0)), (139, (.con .none)), (138, (.r 17)), (137, (.pick (.pick (.r 127) (.con (.bool true)) (.nt (.r 130))) (.con (.bool true)) (.ci .neq (.r 18) (.con (.int 0))))), (136, (.pick (.pick (.r 127) (.con (.bool true)) (.nt (.r 130))) (.con (.bool true)) (.ci .neq (.r 18) (.con (.int 0))))), (135, (.ci .neq (.r 18) (.con (.int 0)))), (134, (.r 18)), (133, (.pick (.r 127) (.con (.bool true)) (.nt (.r 130)))), (132, (.pick (.r 127) (.con (.bool true)) (.nt (.r 130)))), (131, (.nt (.r 130)))], []⟩)))
     (.next ⟨[], []⟩)
    (.ite (.pick (.pick (.ci .neq (.llen (.r 12)) (.con (.int 0))) (.con (.bool true)) (.cb .eql (.ci .eql (.r 13) (.con (.int 4))) (.r 14))) (.con (.bool true)) (.pick (.ci .eql (.r 13) (.con (.int 7))) (.pick (.ci .neq (.r 18) (.con (.int 0))) (.con (.bool true)) (.ci .geq (.r 17) (.cell (.o 4) 0))) (.con (.bool false))))
     (.ret (.con (.bool false)))
     (.ite (.pick (.pick (.ci .neq (.r 13) (.con (.int 4))) (.ci .neq (.r 13) (.con (.int 7))) (.con (.bool false))) (.pick (.ci .neq (.r 13) (.r 18)) (.con (.bool true)) (.ci .eql (.r 18) (.con (.int 0)))) (.con (.bool false)))
      (.ret (.con (.bool false)))
      (.next ⟨[(8, (.r 8)), (181, (.pick (.pick (.ci .neq (.r 13) (.con (.int 4))) (.ci .neq (.r 13) (.con (.int 7))) (.con (.bool false))) (.pick (.ci .neq (.r 13) (.r 18)) (.con (.bool true)) (.ci .eql (.r 18) (.con (.int 0)))) (.con (.bool false)))), (180, (.pick (.ci .neq (.r 13) (.r 18)) (.con (.bool true)) (.ci .eql (.r 18) (.con (.int 0))))), (179, (.ci .eql (.r 18) (.con (.int 0)))), (178, (.r 18)), (177, (.ci .neq (.r 13) (.r 18))), (176, (.ci .neq (.r 13) (.r 18))), (175, (.r 18)), (174, (.r 13)), (173, (.pick (.ci .neq (.r 13) (.con (.int 4))) (.ci .neq (.r 13) (.con (.int 7))) (.con (.bool false)))), (172, (.pick (.ci .neq (.r 13) (.con (.int 4))) (.ci .neq (.r 13) (.con (.int 7))) (.con (.bool false)))), (171, (.ci .neq (.r 13) (.con (.int 7)))), (170, (.r 13)), (169, (.ci .neq (.r 13) (.con (.int 4)))), (168, (.ci .neq (.r 13) (.con (.int 4)))), (167, (.r 13)), (8, (.r 8)), (166, (.pick (.pick (.ci .neq (.llen (.r 12)) (.con (.int 0))) (.con (.bool true)) (.cb .eql (.ci .eql (.r 13) (.con (.int 4))) (.r 14))) (.con (.bool true)) (.pick (.ci .eql (.r 13) (.con (.int 7))) (.pick (.ci .neq (.r 18) (.con (.int 0))) (.con (.bool true)) (.ci .geq (.r 17) (.cell (.o 4) 0))) (.con (.bool false))))), (165, (.pick (.ci .eql (.r 13) (.con (.int 7))) (.pick (.ci .neq (.r 18) (.con (.int 0))) (.con (.bool true)) (.ci .geq (.r 17) (.cell (.o 4) 0))) (.con (.bool false)))), (164, (.pick (.ci .neq (.r 18) (.con (.int 0))) (.con (.bool true)) (.ci .geq (.r 17) (.cell (.o 4) 0)))), (163, (.ci .geq (.r 17) (.cell (.o 4) 0))), (162, (.cell (.o 4) 0)), (161, (.con .none)), (160, (.r 17)), (159, (.ci .neq (.r 18) (.con (.int 0)))), (158, (.ci .neq (.r 18) (.con (.int 0)))), (157, (.r 18)), (156, (.ci .eql (.r 13) (.con (.int 7)))), (155, (.ci .eql (.r 13) (.con (.int 7)))), (154, (.r 13)), (153, (.pick (.ci .neq (.llen (.r 12)) (.con (.int 0))) (.con (.bool true)) (.cb .eql (.ci .eql (.r 13) (.con (.int 4))) (.r 14)))), (152, (.pick (.ci .neq (.llen (.r 12)) (.con (.int 0))) (.con (.bool true)) (.cb .eql (.ci .eql (.r 13) (.con (.int 4))) (.r 14)))), (151, (.cb .eql (.ci .eql (.r 13) (.con (.int 4))) (.r 14))), (150, (.r 14)), (149, (.ci .eql (.r 13) (.con (.int 4)))), (148, (.r 13)), (147, (.ci .neq (.llen (.r 12)) (.con (.int 0)))), (146, (.ci .neq (.llen (.r 12)) (.con (.int 0)))), (145, (.llen (.r 12))), (144, (.r 12))], []⟩))))))))))))
  (.next ⟨[(1, (.r 1)), (8, (.r 8)), (10, (.ai .add .i64 (.r 10) (.con (.int 1))))], []⟩))
  (.exit 0 ⟨[(1, (.r 1)), (8, (.r 8)), (10, (.r 10)), (36, (.r 10)), (37, (.r 3)), (38, (.llen (.r 3))), (39, (.ci .lss (.r 10) (.llen (.r 3))))], []⟩))
theorem rd4_1_eq : round 0 [1, 8, 10, 36, 37, 38, 39] [] [1, 8, 10] [] bd4_1 = rd4_1 := by kernel_rfl
def pc4 : PC :=
 (.seq
  (.is [.setO 4 (.mk [(.r 0)]),
    .setR 4 (.con .none),
    .setR 8 (.con (.bool false))])
  (.seq
   (.is [.call [] 19 8 [],
     .setR 9 (.r 19)])
   (.seq
    (.seq
     (.is [.setR 20 (.r 1),
       .call [] 21 9 [(.r 20)],
       .setR 22 (.nt (.r 21)),
       .setR 23 (.r 22),
       .setR 24 (.r 3),
       .setR 25 (.llen (.r 24)),
       .setR 26 (.ci .gtr (.r 25) (.con (.int 10))),
       .setR 27 (.pick (.r 23) (.con (.bool true)) (.r 26)),
       .setR 28 (.r 27),
       .setR 29 (mkA 5 (.o 4)),
       .setR 30 (.r 1),
       .setR 31 (.r 2),
       .call [(28, false)] 32 18 [(.r 29), (.r 30), (.r 31)],
       .setR 33 (.ci .neq (.r 32) (.con (.int 0))),
       .setR 34 (.pick (.r 28) (.con (.bool true)) (.r 33))])
     (.ite (.r 34) [8] []
      (.seq
       (.is [.setR 35 (.r 9),
         .setR 8 (.r 35)])
       (.ret (.r 8)))
      .skip))
    (.seq
     (.seq
      (.is [.setR 10 (.con (.int 0))])
      lp4_1)
     (.seq
      (.is [.setR 182 (.r 9),
        .setR 8 (.r 182)])
      (.ret (.r 8)))))))
def tr4 : PT :=
 (.call ⟨[(8, (.con (.bool false))), (4, (.con .none))], [(4, (.mk [(.r 0)]))]⟩ [] 19 8 []
 (.call ⟨[(20, (.r 1)), (9, (.r 19))], []⟩ [] 21 9 [(.r 20)]
 (.call ⟨[(31, (.r 2)), (30, (.r 1)), (29, (mkA 5 (.o 4))), (28, (.pick (.nt (.r 21)) (.con (.bool true)) (.ci .gtr (.llen (.r 3)) (.con (.int 10))))), (27, (.pick (.nt (.r 21)) (.con (.bool true)) (.ci .gtr (.llen (.r 3)) (.con (.int 10))))), (26, (.ci .gtr (.llen (.r 3)) (.con (.int 10)))), (25, (.llen (.r 3))), (24, (.r 3)), (23, (.nt (.r 21))), (22, (.nt (.r 21)))], []⟩ [(28, false)] 32 18 [(.r 29), (.r 30), (.r 31)]
 (.ite (.pick (.r 28) (.con (.bool true)) (.ci .neq (.r 32) (.con (.int 0))))
  (.ret (.r 9))
  (.brk ⟨[(10, (.con (.int 0))), (8, (.r 8)), (34, (.pick (.r 28) (.con (.bool true)) (.ci .neq (.r 32) (.con (.int 0))))), (33, (.ci .neq (.r 32) (.con (.int 0))))], []⟩
   lp4_1
  (.ret (.r 9)))))))
theorem tr4_eq : tree pc4 = tr4 := by kernel_rfl
/-! allonge/allongelaw41.PoolSpare -/
def bd5_0 : PC :=
 (.seq
  (.seq
   (.is [.setR 74 (.r 14),
     .setR 75 (.r 12),
     .setR 76 (.llen (.r 75)),
     .setR 77 (.ci .lss (.r 74) (.r 76))])
   (.ite (.r 77) [] []
    .skip
    (.exit 0)))
  (.seq
   (.block 1 [8, 80, 81, 82, 83, 84, 85, 93, 94, 109] []
    (.seq
     (.is [.setR 80 (.r 12),
       .setR 81 (.r 14),
       .chk (.idx (.r 80) (.r 81)),
       .setR 82 (.ref (.nth (.r 80) (.r 81))),
       .setR 83 (.deref (.r 82)),
       .setR 84 (.ci .lss (.r 83) (.con (.int 0))),
       .setR 85 (.r 84),
       .setR 86 (.r 12),
       .setR 87 (.r 14),
       .chk (.imp [(85, false)] (.idx (.r 86) (.r 87))),
       .setR 88 (.ref (.nth (.r 86) (.r 87))),
       .setR 89 (.deref (.r 88)),
       .setR 90 (.r 1),
       .setR 91 (.llen (.r 90)),
       .setR 92 (.ci .geq (.r 89) (.r 91)),
       .setR 93 (.pick (.r 85) (.con (.bool true)) (.r 92)),
       .setR 94 (.r 93),
       .setR 95 (.r 14),
       .setR 96 (.ci .gtr (.r 95) (.con (.int 0))),
       .setR 97 (.r 96),
       .setR 98 (.r 12),
       .setR 99 (.r 14),
       .chk (.imp [(97, true), (94, false)] (.idx (.r 98) (.r 99))),
       .setR 100 (.ref (.nth (.r 98) (.r 99))),
       .setR 101 (.deref (.r 100)),
       .setR 102 (.r 12),
       .setR 103 (.r 14),
       .setR 104 (.ai .sub .i64 (.r 103) (.con (.int 1))),
       .chk (.imp [(97, true), (94, false)] (.idx (.r 102) (.r 104))),
       .setR 105 (.ref (.nth (.r 102) (.r 104))),
       .setR 106 (.deref (.r 105)),
       .setR 107 (.ci .leq (.r 101) (.r 106)),
       .setR 108 (.pick (.r 97) (.r 107) (.con (.bool false))),
       .setR 109 (.pick (.r 94) (.con (.bool true)) (.r 108))])
     (.ite (.r 109) [8] []
      (.seq
       (.is [.setR 8 (.con (.bool false))])
       (.ret (.r 8)))
      .skip)))
   (.is [.setR 78 (.r 14),
     .setR 79 (.ai .add .i64 (.r 78) (.con (.int 1))),
     .setR 14 (.r 79)])))
def lp5_0 : PC := .block 0 [8, 14, 74, 75, 76, 77] [] (.loop [8, 14] [] bd5_0)
def rd5_0 : PT :=
 (.ite (.ci .lss (.r 14) (.llen (.r 12)))
  (.chk (.idx (.r 12) (.r 14))
  (.chk (.nt (.an (.an (.nt (.ci .lss (.nth (.r 12) (.r 14)) (.con (.int 0)))) (.con (.bool true))) (.nt (.idx (.r 12) (.r 14)))))
  (.chk (.nt (.an (.an (.ci .gtr (.r 14) (.con (.int 0))) (.an (.nt (.pick (.ci .lss (.nth (.r 12) (.r 14)) (.con (.int 0))) (.con (.bool true)) (.ci .geq (.nth (.r 12) (.r 14)) (.llen (.r 1))))) (.con (.bool true)))) (.nt (.idx (.r 12) (.r 14)))))
  (.chk (.nt (.an (.an (.ci .gtr (.r 14) (.con (.int 0))) (.an (.nt (.pick (.ci .lss (.nth (.r 12) (.r 14)) (.con (.int 0))) (.con (.bool true)) (.ci .geq (.nth (.r 12) (.r 14)) (.llen (.r 1))))) (.con (.bool true)))) (.nt (.idx (.r 12) (.ai .sub .i64 (.r 14) (.con (.int 1)))))))
  (.ite (.pick (.pick (.ci .lss (.nth (.r 12) (.r 14)) (.con (.int 0))) (.con (.bool true)) (.ci .geq (.nth (.r 12) (.r 14)) (.llen (.r 1)))) (.con (.bool true)) (.pick (.ci .gtr (.r 14) (.con (.int 0))) (.ci .leq (.nth (.r 12) (.r 14)) (.nth (.r 12) (.ai .sub .i64 (.r 14) (.con (.int 1))))) (.con (.bool false))))
   (.ret (.con (.bool false)))
   (.next ⟨[(8, (.r 8)), (14, (.ai .add .i64 (.r 14) (.con (.int 1))))], []⟩))))))
  (.exit 0 ⟨[(8, (.r 8)), (14, (.r 14)), (74, (.r 14)), (75, (.r 12)), (76, (.llen (.r 12))), (77, (.ci .lss (.r 14) (.llen (.r 12))))], []⟩))
theorem rd5_0_eq : round 0 [8, 14, 74, 75, 76, 77] [] [8, 14] [] bd5_0 = rd5_0 := by kernel_rfl
def bd5_1 : PC :=
 (.seq
  (.seq
   (.is [.setR 127 (.r 18),
     .setR 128 (.r 1),
     .setR 129 (.llen (.r 128)),
     .setR 130 (.ci .lss (.r 127) (.r 129))])
   (.ite (.r 130) [] []
    .skip
    (.exit 2)))
  (.seq
   (.block 3 [17, 133, 134, 135, 136, 137] [17]
    (.seq
     (.is [.setR 133 (.r 3),
       .setR 134 (.r 18),
       .chk (.ci .geq (.r 134) (.con (.int 0))),
       .setR 135 (.ai .shr .u64 (.r 133) (.r 134)),
       .setR 136 (.ai .and .u64 (.r 135) (.con (.v (.int .u64 1)))),
       .setR 137 (.ci .eql (.r 136) (.con (.v (.int .u64 1))))])
     (.ite (.r 137) [17] [17]
      (.is [.setR 138 (.r 17),
        .setR 139 (.r 18),
        .setO 140 (.lst [(.r 139)]),
        .setR 140 (.con .none),
        .chk (.ci .leq (.llen (.app (.o 17) (.o 140))) (.con (.int 4294967296))),
        .setO 17 (.app (.o 17) (.o 140)),
        .setR 141 (.con .none),
        .setR 17 (.r 141)])
      .skip)))
   (.is [.setR 131 (.r 18),
     .setR 132 (.ai .add .i64 (.r 131) (.con (.int 1))),
     .setR 18 (.r 132)])))
def lp5_1 : PC := .block 2 [17, 18, 127, 128, 129, 130] [17] (.loop [17, 18] [17] bd5_1)
def rd5_1 : PT :=
 (.ite (.ci .lss (.r 18) (.llen (.r 1)))
  (.chk (.ci .geq (.r 18) (.con (.int 0)))
  (.ite (.ci .eql (.ai .and .u64 (.ai .shr .u64 (.r 3) (.r 18)) (.con (.v (.int .u64 1)))) (.con (.v (.int .u64 1))))
   (.chk (.ci .leq (.llen (.app (.o 17) (.lst [(.r 18)]))) (.con (.int 4294967296)))
   (.next ⟨[(17, (.con .none)), (18, (.ai .add .i64 (.r 18) (.con (.int 1))))], [(17, (.app (.o 17) (.lst [(.r 18)])))]⟩))
   (.next ⟨[(17, (.r 17)), (18, (.ai .add .i64 (.r 18) (.con (.int 1))))], [(17, (.o 17))]⟩)))
  (.exit 2 ⟨[(17, (.r 17)), (18, (.r 18)), (127, (.r 18)), (128, (.r 1)), (129, (.llen (.r 1))), (130, (.ci .lss (.r 18) (.llen (.r 1))))], [(17, (.o 17))]⟩))
theorem rd5_1_eq : round 2 [17, 18, 127, 128, 129, 130] [17] [17, 18] [17] bd5_1 = rd5_1 := by kernel_rfl
def pc5 : PC :=
 (.seq
  (.is [.setO 4 (.mk [(.r 0)]),
    .setR 4 (.con .none),
    .setR 8 (.con (.bool false))])
  (.seq
   (.is [.call [] 21 8 [],
     .setR 9 (.r 21)])
   (.seq
    (.seq
     (.is [.setR 22 (.r 1),
       .call [] 23 9 [(.r 22)],
       .setR 24 (.nt (.r 23)),
       .setR 25 (.r 24),
       .setR 26 (mkA 5 (.o 4)),
       .setR 27 (.r 1),
       .setR 28 (.r 2),
       .call [(25, false)] 29 18 [(.r 26), (.r 27), (.r 28)],
       .setR 30 (.ci .neq (.r 29) (.con (.int 0))),
       .setR 31 (.pick (.r 25) (.con (.bool true)) (.r 30))])
     (.ite (.r 31) [8] []
      (.seq
       (.is [.setR 32 (.r 9),
         .setR 8 (.r 32)])
       (.ret (.r 8)))
      .skip))
    (.seq
     (.is [.setR 34 (mkA 5 (.o 4)),
       .setR 35 (.r 1),
       .setR 36 (.r 2),
       .call [] 37 10 [(.r 34), (.r 35), (.r 36)],
       .setR 33 (.r 37),
       .setR 38 (.tget (.r 33) 0),
       .setR 39 (.tget (.r 33) 1),
       .setR 10 (.r 38),
       .setR 11 (.r 39)])
     (.seq
      (.is [.setR 41 (mkA 5 (.o 4)),
        .setR 42 (.r 1),
        .setR 43 (.r 2),
        .call [] 44 14 [(.r 41), (.r 42), (.r 43)],
        .setR 40 (.r 44),
        .setR 45 (.tget (.r 40) 0),
        .setR 46 (.tget (.r 40) 1),
        .setR 12 (.r 45),
        .setR 13 (.r 46)])
      (.seq
       (.seq
        (.is [.setR 47 (.r 11),
          .setR 48 (.ci .neq (.r 47) (.con (.int 0))),
          .setR 49 (.r 48),
          .setR 50 (.r 10),
          .setR 51 (.con .none),
          .setR 52 (.cell (.o 4) 0),
          .setR 53 (.ci .lss (.r 50) (.r 52)),
          .setR 54 (.r 13),
          .setR 55 (.ci .eql (.r 54) (.con (.int 7))),
          .setR 56 (.cb .neq (.r 53) (.r 55)),
          .setR 57 (.pick (.r 49) (.con (.bool true)) (.r 56)),
          .setR 58 (.r 57),
          .setR 59 (.r 13),
          .setR 60 (.ci .neq (.r 59) (.con (.int 0))),
          .setR 61 (.r 60),
          .setR 62 (.r 13),
          .setR 63 (.ci .neq (.r 62) (.con (.int 7))),
          .setR 64 (.pick (.r 61) (.r 63) (.con (.bool false))),
          .setR 65 (.pick (.r 58) (.con (.bool true)) (.r 64))])
        (.ite (.r 65) [8] []
         (.seq
          (.is [.setR 8 (.con (.bool false))])
          (.ret (.r 8)))
         .skip))
       (.seq
        (.seq
         (.is [.setR 66 (.r 13),
           .setR 67 (.ci .neq (.r 66) (.con (.int 0)))])
         (.ite (.r 67) [8] []
          (.seq
           (.is [.setR 68 (.r 9),
             .setR 69 (.r 68),
             .setR 70 (.r 12),
             .setR 71 (.llen (.r 70)),
             .setR 72 (.ci .eql (.r 71) (.con (.int 0))),
             .setR 73 (.pick (.r 69) (.r 72) (.con (.bool false))),
             .setR 8 (.r 73)])
           (.ret (.r 8)))
          .skip))
        (.seq
         (.seq
          (.is [.setR 14 (.con (.int 0))])
          lp5_0)
         (.seq
          (.is [.setR 111 (mkA 5 (.o 4)),
            .setR 112 (.r 1),
            .setR 113 (.r 12),
            .call [] 114 24 [(.r 112), (.r 113)],
            .setO 114 (.r 114),
            .setR 114 (.con .none),
            .setR 115 (.r 2),
            .call [] 116 10 [(.r 111), (.o 114), (.r 115)],
            .setR 110 (.r 116),
            .setR 117 (.tget (.r 110) 0),
            .setR 118 (.tget (.r 110) 1),
            .setR 15 (.r 117),
            .setR 16 (.r 118)])
          (.seq
           (.seq
            (.is [.setR 119 (.r 16),
              .setR 120 (.ci .neq (.r 119) (.con (.int 0))),
              .setR 121 (.r 120),
              .setR 122 (.r 15),
              .setR 123 (.con .none),
              .setR 124 (.cell (.o 4) 0),
              .setR 125 (.ci .lss (.r 122) (.r 124)),
              .setR 126 (.pick (.r 121) (.con (.bool true)) (.r 125))])
            (.ite (.r 126) [8] []
             (.seq
              (.is [.setR 8 (.con (.bool false))])
              (.ret (.r 8)))
             .skip))
           (.seq
            (.is [.setO 17 (.con (.list [])),
              .setR 17 (.con .none)])
            (.seq
             (.seq
              (.is [.setR 18 (.con (.int 0))])
              lp5_1)
             (.seq
              (.is [.setR 143 (mkA 5 (.o 4)),
                .setR 144 (.r 1),
                .setR 145 (.r 17),
                .call [] 146 24 [(.r 144), (.o 17)],
                .setO 146 (.r 146),
                .setR 146 (.con .none),
                .setR 147 (.r 2),
                .call [] 148 10 [(.r 143), (.o 146), (.r 147)],
                .setR 142 (.r 148),
                .setR 149 (.tget (.r 142) 0),
                .setR 150 (.tget (.r 142) 1),
                .setR 19 (.r 149),
                .setR 20 (.r 150)])
              (.seq
               (.is [.setR 151 (.r 9),
                 .setR 152 (.r 151),
                 .setR 153 (.r 20),
                 .setR 154 (.ci .eql (.r 153) (.con (.int 0))),
                 .setR 155 (.pick (.r 152) (.r 154) (.con (.bool false))),
                 .setR 156 (.r 155),
                 .setR 157 (.r 17),
                 .setR 158 (.llen (.o 17)),
                 .setR 159 (.r 12),
                 .setR 160 (.llen (.r 159)),
                 .setR 161 (.ci .leq (.r 158) (.r 160)),
                 .setR 162 (.r 161),
                 .setR 163 (.r 19),
                 .setR 164 (.con .none),
                 .setR 165 (.cell (.o 4) 0),
                 .setR 166 (.ci .lss (.r 163) (.r 165)),
                 .setR 167 (.pick (.r 162) (.con (.bool true)) (.r 166)),
                 .setR 168 (.pick (.r 156) (.r 167) (.con (.bool false))),
                 .setR 8 (.r 168)])
               (.ret (.r 8))))))))))))))))
def tr5 : PT :=
 (.call ⟨[(8, (.con (.bool false))), (4, (.con .none))], [(4, (.mk [(.r 0)]))]⟩ [] 21 8 []
 (.call ⟨[(22, (.r 1)), (9, (.r 21))], []⟩ [] 23 9 [(.r 22)]
 (.call ⟨[(28, (.r 2)), (27, (.r 1)), (26, (mkA 5 (.o 4))), (25, (.nt (.r 23))), (24, (.nt (.r 23)))], []⟩ [(25, false)] 29 18 [(.r 26), (.r 27), (.r 28)]
 (.ite (.pick (.r 25) (.con (.bool true)) (.ci .neq (.r 29) (.con (.int 0))))
  (.ret (.r 9))
  (.call ⟨[(36, (.r 2)), (35, (.r 1)), (34, (mkA 5 (.o 4))), (8, (.r 8)), (31, (.pick (.r 25) (.con (.bool true)) (.ci .neq (.r 29) (.con (.int 0))))), (30, (.ci .neq (.r 29) (.con (.int 0))))], []⟩ [] 37 10 [(.r 34), (.r 35), (.r 36)]
  (.call ⟨[(43, (.r 2)), (42, (.r 1)), (41, (mkA 5 (.o 4))), (11, (.tget (.r 37) 1)), (10, (.tget (.r 37) 0)), (39, (.tget (.r 37) 1)), (38, (.tget (.r 37) 0)), (33, (.r 37))], []⟩ [] 44 14 [(.r 41), (.r 42), (.r 43)]
  (.ite (.pick (.pick (.ci .neq (.r 11) (.con (.int 0))) (.con (.bool true)) (.cb .neq (.ci .lss (.r 10) (.cell (.o 4) 0)) (.ci .eql (.tget (.r 44) 1) (.con (.int 7))))) (.con (.bool true)) (.pick (.ci .neq (.tget (.r 44) 1) (.con (.int 0))) (.ci .neq (.tget (.r 44) 1) (.con (.int 7))) (.con (.bool false))))
   (.ret (.con (.bool false)))
   (.ite (.ci .neq (.tget (.r 44) 1) (.con (.int 0)))
    (.ret (.pick (.r 9) (.ci .eql (.llen (.tget (.r 44) 0)) (.con (.int 0))) (.con (.bool false))))
    (.brk ⟨[(14, (.con (.int 0))), (8, (.r 8)), (67, (.ci .neq (.tget (.r 44) 1) (.con (.int 0)))), (66, (.tget (.r 44) 1)), (8, (.r 8)), (65, (.pick (.pick (.ci .neq (.r 11) (.con (.int 0))) (.con (.bool true)) (.cb .neq (.ci .lss (.r 10) (.cell (.o 4) 0)) (.ci .eql (.tget (.r 44) 1) (.con (.int 7))))) (.con (.bool true)) (.pick (.ci .neq (.tget (.r 44) 1) (.con (.int 0))) (.ci .neq (.tget (.r 44) 1) (.con (.int 7))) (.con (.bool false))))), (64, (.pick (.ci .neq (.tget (.r 44) 1) (.con (.int 0))) (.ci .neq (.tget (.r 44) 1) (.con (.int 7))) (.con (.bool false)))), (63, (.ci .neq (.tget (.r 44) 1) (.con (.int 7)))), (62, (.tget (.r 44) 1)), (61, (.ci .neq (.tget (.r 44) 1) (.con (.int 0)))), (60, (.ci .neq (.tget (.r 44) 1) (.con (.int 0)))), (59, (.tget (.r 44) 1)), (58, (.pick (.ci .neq (.r 11) (.con (.int 0))) (.con (.bool true)) (.cb .neq (.ci .lss (.r 10) (.cell (.o 4) 0)) (.ci .eql (.tget (.r 44) 1) (.con (.int 7)))))), (57, (.pick (.ci .neq (.r 11) (.con (.int 0))) (.con (.bool true)) (.cb .neq (.ci .lss (.r 10) (.cell (.o 4) 0)) (.ci .eql (.tget (.r 44) 1) (.con (.int 7)))))), (56, (.cb .neq (.ci .lss (.r 10) (.cell (.o 4) 0)) (.ci .eql (.tget (.r 44) 1) (.con (.int 7))))), (55, (.ci .eql (.tget (.r 44) 1) (.con (.int 7)))), (54, (.tget (.r 44) 1)), (53, (.ci .lss (.r 10) (.cell (.o 4) 0))), (52, (.cell (.o 4) 0)), (51, (.con .none)), (50, (.r 10)), (49, (.ci .neq (.r 11) (.con (.int 0)))), (48, (.ci .neq (.r 11) (.con (.int 0)))), (47, (.r 11)), (13, (.tget (.r 44) 1)), (12, (.tget (.r 44) 0)), (46, (.tget (.r 44) 1)), (45, (.tget (.r 44) 0)), (40, (.r 44))], []⟩
     lp5_0
    (.call ⟨[(113, (.r 12)), (112, (.r 1)), (111, (mkA 5 (.o 4)))], []⟩ [] 114 24 [(.r 112), (.r 113)]
    (.call ⟨[(115, (.r 2)), (114, (.con .none))], [(114, (.r 114))]⟩ [] 116 10 [(.r 111), (.o 114), (.r 115)]
    (.ite (.pick (.ci .neq (.tget (.r 116) 1) (.con (.int 0))) (.con (.bool true)) (.ci .lss (.tget (.r 116) 0) (.cell (.o 4) 0)))
     (.ret (.con (.bool false)))
     (.brk ⟨[(18, (.con (.int 0))), (17, (.con .none)), (8, (.r 8)), (126, (.pick (.ci .neq (.tget (.r 116) 1) (.con (.int 0))) (.con (.bool true)) (.ci .lss (.tget (.r 116) 0) (.cell (.o 4) 0)))), (125, (.ci .lss (.tget (.r 116) 0) (.cell (.o 4) 0))), (124, (.cell (.o 4) 0)), (123, (.con .none)), (122, (.tget (.r 116) 0)), (121, (.ci .neq (.tget (.r 116) 1) (.con (.int 0)))), (120, (.ci .neq (.tget (.r 116) 1) (.con (.int 0)))), (119, (.tget (.r 116) 1)), (16, (.tget (.r 116) 1)), (15, (.tget (.r 116) 0)), (118, (.tget (.r 116) 1)), (117, (.tget (.r 116) 0)), (110, (.r 116))], [(17, (.con (.list [])))]⟩
      lp5_1
     (.call ⟨[(145, (.r 17)), (144, (.r 1)), (143, (mkA 5 (.o 4)))], []⟩ [] 146 24 [(.r 144), (.o 17)]
     (.call ⟨[(147, (.r 2)), (146, (.con .none))], [(146, (.r 146))]⟩ [] 148 10 [(.r 143), (.o 146), (.r 147)]
     (.ret (.pick (.pick (.r 9) (.ci .eql (.tget (.r 148) 1) (.con (.int 0))) (.con (.bool false))) (.pick (.ci .leq (.llen (.o 17)) (.llen (.r 12))) (.con (.bool true)) (.ci .lss (.tget (.r 148) 0) (.cell (.o 4) 0))) (.con (.bool false)))))))))))))))))))
theorem tr5_eq : tree pc5 = tr5 := by kernel_rfl
/-! allonge/allongelaw41.PoolUntil -/
def pc6 : PC :=
 (.seq
  (.is [.setO 4 (.mk [(.r 0)]),
    .setR 4 (.con .none),
    .setR 8 (.con (.bool false))])
  (.seq
   (.is [.call [] 16 8 [],
     .setR 9 (.r 16)])
   (.seq
    (.seq
     (.is [.setR 17 (.r 1),
       .call [] 18 9 [(.r 17)],
       .setR 19 (.nt (.r 18)),
       .setR 20 (.r 19),
       .setR 21 (mkA 5 (.o 4)),
       .setR 22 (.r 1),
       .setR 23 (.r 2),
       .call [(20, false)] 24 18 [(.r 21), (.r 22), (.r 23)],
       .setR 25 (.ci .neq (.r 24) (.con (.int 0))),
       .setR 26 (.pick (.r 20) (.con (.bool true)) (.r 25))])
     (.ite (.r 26) [8] []
      (.seq
       (.is [.setR 27 (.r 9),
         .setR 8 (.r 27)])
       (.ret (.r 8)))
      .skip))
    (.seq
     (.is [.setR 29 (mkA 5 (.o 4)),
       .setR 30 (.r 1),
       .setR 31 (.r 2),
       .call [] 32 16 [(.r 29), (.r 30), (.r 31)],
       .setR 28 (.r 32),
       .setR 33 (.tget (.r 28) 0),
       .setR 34 (.tget (.r 28) 1),
       .setR 10 (.r 33),
       .setR 11 (.r 34)])
     (.seq
      (.seq
       (.is [.setR 35 (.r 11),
         .setR 36 (.ci .neq (.r 35) (.con (.int 0))),
         .setR 37 (.r 36),
         .setR 38 (.r 10),
         .setR 39 (.ci .neq (.r 38) (.con (.int (-1)))),
         .setR 40 (.r 39),
         .setR 41 (.r 10),
         .setR 42 (.r 2),
         .setR 43 (.ci .lss (.r 41) (.r 42)),
         .setR 44 (.r 43),
         .setR 45 (.r 10),
         .setR 46 (.ci .gtr (.r 45) (.con (.int 100000))),
         .setR 47 (.pick (.r 44) (.con (.bool true)) (.r 46)),
         .setR 48 (.pick (.r 40) (.r 47) (.con (.bool false))),
         .setR 49 (.pick (.r 37) (.con (.bool true)) (.r 48))])
       (.ite (.r 49) [8] []
        (.seq
         (.is [.setR 8 (.con (.bool false))])
         (.ret (.r 8)))
        .skip))
      (.seq
       (.seq
        (.is [.setR 50 (.r 10),
          .setR 51 (.ci .neq (.r 50) (.con (.int (-1))))])
        (.ite (.r 51) [8] []
         (.seq
          (.is [.setR 53 (mkA 5 (.o 4)),
            .setR 54 (.r 1),
            .setR 55 (.r 10),
            .call [] 56 10 [(.r 53), (.r 54), (.r 55)],
            .setR 52 (.r 56),
            .setR 57 (.tget (.r 52) 0),
            .setR 58 (.tget (.r 52) 1),
            .setR 12 (.r 57),
            .setR 13 (.r 58)])
          (.seq
           (.is [.setR 59 (.r 13),
             .setR 60 (.ci .neq (.r 59) (.con (.int 0))),
             .setR 61 (.r 60),
             .setR 62 (.r 12),
             .setR 63 (.con .none),
             .setR 64 (.cell (.o 4) 0),
             .setR 65 (.ci .geq (.r 62) (.r 64)),
             .setR 66 (.pick (.r 61) (.con (.bool true)) (.r 65))])
           (.ite (.r 66) [8] []
            (.seq
             (.is [.setR 8 (.con (.bool false))])
             (.ret (.r 8)))
            .skip)))
         .skip))
       (.seq
        (.seq
         (.is [.setR 67 (.r 3),
           .setR 68 (.r 2),
           .setR 69 (.ci .lss (.r 67) (.r 68)),
           .setR 70 (.r 69),
           .setR 71 (.r 3),
           .setR 72 (.ci .gtr (.r 71) (.con (.int 100000))),
           .setR 73 (.pick (.r 70) (.con (.bool true)) (.r 72)),
           .setR 74 (.r 73),
           .setR 75 (.r 10),
           .setR 76 (.ci .neq (.r 75) (.con (.int (-1)))),
           .setR 77 (.r 76),
           .setR 78 (.r 3),
           .setR 79 (.r 10),
           .setR 80 (.ci .geq (.r 78) (.r 79)),
           .setR 81 (.pick (.r 77) (.r 80) (.con (.bool false))),
           .setR 82 (.pick (.r 74) (.con (.bool true)) (.r 81))])
         (.ite (.r 82) [8] []
          (.seq
           (.is [.setR 83 (.r 9),
             .setR 8 (.r 83)])
           (.ret (.r 8)))
          .skip))
        (.seq
         (.is [.setR 85 (mkA 5 (.o 4)),
           .setR 86 (.r 1),
           .setR 87 (.r 3),
           .call [] 88 10 [(.r 85), (.r 86), (.r 87)],
           .setR 84 (.r 88),
           .setR 89 (.tget (.r 84) 0),
           .setR 90 (.tget (.r 84) 1),
           .setR 14 (.r 89),
           .setR 15 (.r 90)])
         (.seq
          (.is [.setR 91 (.r 9),
            .setR 92 (.r 91),
            .setR 93 (.r 15),
            .setR 94 (.ci .eql (.r 93) (.con (.int 0))),
            .setR 95 (.pick (.r 92) (.r 94) (.con (.bool false))),
            .setR 96 (.r 95),
            .setR 97 (.r 14),
            .setR 98 (.con .none),
            .setR 99 (.cell (.o 4) 0),
            .setR 100 (.ci .geq (.r 97) (.r 99)),
            .setR 101 (.pick (.r 96) (.r 100) (.con (.bool false))),
            .setR 8 (.r 101)])
          (.ret (.r 8)))))))))))
def tr6 : PT :=
 (.call ⟨[(8, (.con (.bool false))), (4, (.con .none))], [(4, (.mk [(.r 0)]))]⟩ [] 16 8 []
 (.call ⟨[(17, (.r 1)), (9, (.r 16))], []⟩ [] 18 9 [(.r 17)]
 (.call ⟨[(23, (.r 2)), (22, (.r 1)), (21, (mkA 5 (.o 4))), (20, (.nt (.r 18))), (19, (.nt (.r 18)))], []⟩ [(20, false)] 24 18 [(.r 21), (.r 22), (.r 23)]
 (.ite (.pick (.r 20) (.con (.bool true)) (.ci .neq (.r 24) (.con (.int 0))))
  (.ret (.r 9))
  (.call ⟨[(31, (.r 2)), (30, (.r 1)), (29, (mkA 5 (.o 4))), (8, (.r 8)), (26, (.pick (.r 20) (.con (.bool true)) (.ci .neq (.r 24) (.con (.int 0))))), (25, (.ci .neq (.r 24) (.con (.int 0))))], []⟩ [] 32 16 [(.r 29), (.r 30), (.r 31)]
  (.ite (.pick (.ci .neq (.tget (.r 32) 1) (.con (.int 0))) (.con (.bool true)) (.pick (.ci .neq (.tget (.r 32) 0) (.con (.int (-1)))) (.pick (.ci .lss (.tget (.r 32) 0) (.r 2)) (.con (.bool true)) (.ci .gtr (.tget (.r 32) 0) (.con (.int 100000)))) (.con (.bool false))))
   (.ret (.con (.bool false)))
   (.iteS ⟨[(51, (.ci .neq (.tget (.r 32) 0) (.con (.int (-1))))), (50, (.tget (.r 32) 0)), (8, (.r 8)), (49, (.pick (.ci .neq (.tget (.r 32) 1) (.con (.int 0))) (.con (.bool true)) (.pick (.ci .neq (.tget (.r 32) 0) (.con (.int (-1)))) (.pick (.ci .lss (.tget (.r 32) 0) (.r 2)) (.con (.bool true)) (.ci .gtr (.tget (.r 32) 0) (.con (.int 100000)))) (.con (.bool false))))), (48, (.pick (.ci .neq (.tget (.r 32) 0) (.con (.int (-1)))) (.pick (.ci .lss (.tget (.r 32) 0) (.r 2)) (.con (.bool true)) (.ci .gtr (.tget (.r 32) 0) (.con (.int 100000)))) (.con (.bool false)))), (47, (.pick (.ci .lss (.tget (.r 32) 0) (.r 2)) (.con (.bool true)) (.ci .gtr (.tget (.r 32) 0) (.con (.int 100000))))), (46, (.ci .gtr (.tget (.r 32) 0) (.con (.int 100000)))), (45, (.tget (.r 32) 0)), (44, (.ci .lss (.tget (.r 32) 0) (.r 2))), (43, (.ci .lss (.tget (.r 32) 0) (.r 2))), (42, (.r 2)), (41, (.tget (.r 32) 0)), (40, (.ci .neq (.tget (.r 32) 0) (.con (.int (-1))))), (39, (.ci .neq (.tget (.r 32) 0) (.con (.int (-1))))), (38, (.tget (.r 32) 0)), (37, (.ci .neq (.tget (.r 32) 1) (.con (.int 0)))), (36, (.ci .neq (.tget (.r 32) 1) (.con (.int 0)))), (35, (.tget (.r 32) 1)), (11, (.tget (.r 32) 1)), (10, (.tget (.r 32) 0)), (34, (.tget (.r 32) 1)), (33, (.tget (.r 32) 0)), (28, (.r 32))], []⟩ (.r 51) [8] []
    (.call ⟨[(55, (.r 10)), (54, (.r 1)), (53, (mkA 5 (.o 4)))], []⟩ [] 56 10 [(.r 53), (.r 54), (.r 55)]
    (.ite (.pick (.ci .neq (.tget (.r 56) 1) (.con (.int 0))) (.con (.bool true)) (.ci .geq (.tget (.r 56) 0) (.cell (.o 4) 0)))
     (.ret (.con (.bool false)))
     (.next ⟨[(8, (.r 8)), (66, (.pick (.ci .neq (.tget (.r 56) 1) (.con (.int 0))) (.con (.bool true)) (.ci .geq (.tget (.r 56) 0) (.cell (.o 4) 0)))), (65, (.ci .geq (.tget (.r 56) 0) (.cell (.o 4) 0))), (64, (.cell (.o 4) 0)), (63, (.con .none)), (62, (.tget (.r 56) 0)), (61, (.ci .neq (.tget (.r 56) 1) (.con (.int 0)))), (60, (.ci .neq (.tget (.r 56) 1) (.con (.int 0)))), (59, (.tget (.r 56) 1)), (13, (.tget (.r 56) 1)), (12, (.tget (.r 56) 0)), (58, (.tget (.r 56) 1)), (57, (.tget (.r 56) 0)), (52, (.r 56))], []⟩)))
    (.next ⟨[], []⟩)
   (.ite (.pick (.pick (.ci .lss (.r 3) (.r 2)) (.con (.bool true)) (.ci .gtr (.r 3) (.con (.int 100000)))) (.con (.bool true)) (.pick (.ci .neq (.r 10) (.con (.int (-1)))) (.ci .geq (.r 3) (.r 10)) (.con (.bool false))))
    (.ret (.r 9))
    (.call ⟨[(87, (.r 3)), (86, (.r 1)), (85, (mkA 5 (.o 4))), (8, (.r 8)), (82, (.pick (.pick (.ci .lss (.r 3) (.r 2)) (.con (.bool true)) (.ci .gtr (.r 3) (.con (.int 100000)))) (.con (.bool true)) (.pick (.ci .neq (.r 10) (.con (.int (-1)))) (.ci .geq (.r 3) (.r 10)) (.con (.bool false))))), (81, (.pick (.ci .neq (.r 10) (.con (.int (-1)))) (.ci .geq (.r 3) (.r 10)) (.con (.bool false)))), (80, (.ci .geq (.r 3) (.r 10))), (79, (.r 10)), (78, (.r 3)), (77, (.ci .neq (.r 10) (.con (.int (-1))))), (76, (.ci .neq (.r 10) (.con (.int (-1))))), (75, (.r 10)), (74, (.pick (.ci .lss (.r 3) (.r 2)) (.con (.bool true)) (.ci .gtr (.r 3) (.con (.int 100000))))), (73, (.pick (.ci .lss (.r 3) (.r 2)) (.con (.bool true)) (.ci .gtr (.r 3) (.con (.int 100000))))), (72, (.ci .gtr (.r 3) (.con (.int 100000)))), (71, (.r 3)), (70, (.ci .lss (.r 3) (.r 2))), (69, (.ci .lss (.r 3) (.r 2))), (68, (.r 2)), (67, (.r 3))], []⟩ [] 88 10 [(.r 85), (.r 86), (.r 87)]
    (.ret (.pick (.pick (.r 9) (.ci .eql (.tget (.r 88) 1) (.con (.int 0))) (.con (.bool false))) (.ci .geq (.tget (.r 88) 0) (.cell (.o 4) 0)) (.con (.bool false)))))))))))))
theorem tr6_eq : tree pc6 = tr6 := by kernel_rfl
/-! allonge/allongelaw41.PoolTerms -/
def bd7_0 : PC :=
 (.seq
  (.seq
   (.is [.setR 74 (.r 16),
     .setR 75 (.r 2),
     .setR 76 (.llen (.r 75)),
     .setR 77 (.ci .lss (.r 74) (.r 76))])
   (.ite (.r 77) [] []
    .skip
    (.exit 0)))
  (.seq
   (.block 1 [8, 15, 17, 80, 81, 82, 83, 84, 85, 86, 87, 88, 89, 97, 98, 120, 121, 122, 123] []
    (.seq
     (.is [.setR 80 (mkA 5 (.o 4)),
       .setR 81 (.r 2),
       .setR 82 (.r 16),
       .chk (.idx (.r 81) (.r 82)),
       .setR 83 (.ref (.nth (.r 81) (.r 82))),
       .setR 84 (.deref (.r 83)),
       .setR 85 (.r 3),
       .call [] 86 22 [(.r 80), (.r 84), (.r 85)],
       .setR 17 (.r 86)])
     (.seq
      (.seq
       (.is [.setR 87 (.r 17),
         .setR 88 (.ci .lss (.r 87) (.con (.int 0))),
         .setR 89 (.r 88),
         .setR 90 (.r 17),
         .setR 91 (.r 2),
         .setR 92 (.r 16),
         .chk (.imp [(89, false)] (.idx (.r 91) (.r 92))),
         .setR 93 (.ref (.nth (.r 91) (.r 92))),
         .setR 94 (.ref (.cell (.deref (.r 93)) 0)),
         .setR 95 (.deref (.r 94)),
         .setR 96 (.ci .gtr (.r 90) (.r 95)),
         .setR 97 (.pick (.r 89) (.con (.bool true)) (.r 96)),
         .setR 98 (.r 97),
         .setR 99 (.r 17),
         .setR 100 (.ci .gtr (.r 99) (.con (.int 0))),
         .setR 101 (.r 100),
         .setR 102 (.r 2),
         .setR 103 (.r 16),
         .chk (.imp [(101, true), (98, false)] (.idx (.r 102) (.r 103))),
         .setR 104 (.ref (.nth (.r 102) (.r 103))),
         .setR 105 (.ref (.cell (.deref (.r 104)) 1)),
         .setR 106 (.deref (.r 105)),
         .setR 107 (.r 3),
         .setR 108 (.ci .lss (.r 106) (.r 107)),
         .setR 109 (.r 108),
         .setR 110 (.r 2),
         .setR 111 (.r 16),
         .chk (.imp [(109, false), (101, true), (98, false)] (.idx (.r 110) (.r 111))),
         .setR 112 (.ref (.nth (.r 110) (.r 111))),
         .setR 113 (.ref (.cell (.deref (.r 112)) 2)),
         .setR 114 (.deref (.r 113)),
         .setR 115 (.con .none),
         .setR 116 (.cell (.o 4) 3),
         .setR 117 (.ci .lss (.r 114) (.r 116)),
         .setR 118 (.pick (.r 109) (.con (.bool true)) (.r 117)),
         .setR 119 (.pick (.r 101) (.r 118) (.con (.bool false))),
         .setR 120 (.pick (.r 98) (.con (.bool true)) (.r 119))])
       (.ite (.r 120) [8] []
        (.seq
         (.is [.setR 8 (.con (.bool false))])
         (.ret (.r 8)))
        .skip))
      (.is [.setR 121 (.r 15),
        .setR 122 (.r 17),
        .setR 123 (.ai .add .i64 (.r 121) (.r 122)),
        .setR 15 (.r 123)]))))
   (.is [.setR 78 (.r 16),
     .setR 79 (.ai .add .i64 (.r 78) (.con (.int 1))),
     .setR 16 (.r 79)])))
def lp7_0 : PC := .block 0 [8, 15, 16, 74, 75, 76, 77] [] (.loop [8, 15, 16] [] bd7_0)
def rd7_0 : PT :=
 (.ite (.ci .lss (.r 16) (.llen (.r 2)))
  (.blockS ⟨[(77, (.ci .lss (.r 16) (.llen (.r 2)))), (76, (.llen (.r 2))), (75, (.r 2)), (74, (.r 16))], []⟩ 1 [8, 15, 17, 80, 81, 82, 83, 84, 85, 86, 87, 88, 89, 97, 98, 120, 121, 122, 123] []
   (.chk (.idx (.r 2) (.r 16))
   (.call ⟨[(85, (.r 3)), (84, (.nth (.r 2) (.r 16))), (83, (.ref (.nth (.r 2) (.r 16)))), (82, (.r 16)), (81, (.r 2)), (80, (mkA 5 (.o 4)))], []⟩ [] 86 22 [(.r 80), (.r 84), (.r 85)]
   (.chk (.nt (.an (.an (.nt (.ci .lss (.r 86) (.con (.int 0)))) (.con (.bool true))) (.nt (.idx (.r 2) (.r 16)))))
   (.chk (.nt (.an (.an (.ci .gtr (.r 86) (.con (.int 0))) (.an (.nt (.pick (.ci .lss (.r 86) (.con (.int 0))) (.con (.bool true)) (.ci .gtr (.r 86) (.cell (.nth (.r 2) (.r 16)) 0)))) (.con (.bool true)))) (.nt (.idx (.r 2) (.r 16)))))
   (.chk (.nt (.an (.an (.nt (.ci .lss (.cell (.nth (.r 2) (.r 16)) 1) (.r 3))) (.an (.ci .gtr (.r 86) (.con (.int 0))) (.an (.nt (.pick (.ci .lss (.r 86) (.con (.int 0))) (.con (.bool true)) (.ci .gtr (.r 86) (.cell (.nth (.r 2) (.r 16)) 0)))) (.con (.bool true))))) (.nt (.idx (.r 2) (.r 16)))))
   (.ite (.pick (.pick (.ci .lss (.r 86) (.con (.int 0))) (.con (.bool true)) (.ci .gtr (.r 86) (.cell (.nth (.r 2) (.r 16)) 0))) (.con (.bool true)) (.pick (.ci .gtr (.r 86) (.con (.int 0))) (.pick (.ci .lss (.cell (.nth (.r 2) (.r 16)) 1) (.r 3)) (.con (.bool true)) (.ci .lss (.cell (.nth (.r 2) (.r 16)) 2) (.cell (.o 4) 3))) (.con (.bool false))))
    (.ret (.con (.bool false)))
    (.next ⟨[(15, (.ai .add .i64 (.r 15) (.r 86))), (123, (.ai .add .i64 (.r 15) (.r 86))), (122, (.r 86)), (121, (.r 15)), (8, (.r 8)), (120, (.pick (.pick (.ci .lss (.r 86) (.con (.int 0))) (.con (.bool true)) (.ci .gtr (.r 86) (.cell (.nth (.r 2) (.r 16)) 0))) (.con (.bool true)) (.pick (.ci .gtr (.r 86) (.con (.int 0))) (.pick (.ci .lss (.cell (.nth (.r 2) (.r 16)) 1) (.r 3)) (.con (.bool true)) (.ci .lss (.cell (.nth (.r 2) (.r 16)) 2) (.cell (.o 4) 3))) (.con (.bool false))))), (119, (.pick (.ci .gtr (.r 86) (.con (.int 0))) (.pick (.ci .lss (.cell (.nth (.r 2) (.r 16)) 1) (.r 3)) (.con (.bool true)) (.ci .lss (.cell (.nth (.r 2) (.r 16)) 2) (.cell (.o 4) 3))) (.con (.bool false)))), (118, (.pick (.ci .lss (.cell (.nth (.r 2) (.r 16)) 1) (.r 3)) (.con (.bool true)) (.ci .lss (.cell (.nth (.r 2) (.r 16)) 2) (.cell (.o 4) 3)))), (117, (.ci .lss (.cell (.nth (.r 2) (.r 16)) 2) (.cell (.o 4) 3))), (116, (.cell (.o 4) 3)), (115, (.con .none)), (114, (.cell (.nth (.r 2) (.r 16)) 2)), (113, (.ref (.cell (.nth (.r 2) (.r 16)) 2))), (112, (.ref (.nth (.r 2) (.r 16)))), (111, (.r 16)), (110, (.r 2)), (109, (.ci .lss (.cell (.nth (.r 2) (.r 16)) 1) (.r 3))), (108, (.ci .lss (.cell (.nth (.r 2) (.r 16)) 1) (.r 3))), (107, (.r 3)), (106, (.cell (.nth (.r 2) (.r 16)) 1)), (105, (.ref (.cell (.nth (.r 2) (.r 16)) 1))), (104, (.ref (.nth (.r 2) (.r 16)))), (103, (.r 16)), (102, (.r 2)), (101, (.ci .gtr (.r 86) (.con (.int 0)))), (100, (.ci .gtr (.r 86) (.con (.int 0)))), (99, (.r 86)), (98, (.pick (.ci .lss (.r 86) (.con (.int 0))) (.con (.bool true)) (.ci .gtr (.r 86) (.cell (.nth (.r 2) (.r 16)) 0)))), (97, (.pick (.ci .lss (.r 86) (.con (.int 0))) (.con (.bool true)) (.ci .gtr (.r 86) (.cell (.nth (.r 2) (.r 16)) 0)))), (96, (.ci .gtr (.r 86) (.cell (.nth (.r 2) (.r 16)) 0))), (95, (.cell (.nth (.r 2) (.r 16)) 0)), (94, (.ref (.cell (.nth (.r 2) (.r 16)) 0))), (93, (.ref (.nth (.r 2) (.r 16)))), (92, (.r 16)), (91, (.r 2)), (90, (.r 86)), (89, (.ci .lss (.r 86) (.con (.int 0)))), (88, (.ci .lss (.r 86) (.con (.int 0)))), (87, (.r 86)), (17, (.r 86))], []⟩)))))))
  (.next ⟨[(8, (.r 8)), (15, (.r 15)), (16, (.ai .add .i64 (.r 16) (.con (.int 1))))], []⟩))
  (.exit 0 ⟨[(8, (.r 8)), (15, (.r 15)), (16, (.r 16)), (74, (.r 16)), (75, (.r 2)), (76, (.llen (.r 2))), (77, (.ci .lss (.r 16) (.llen (.r 2))))], []⟩))
theorem rd7_0_eq : round 0 [8, 15, 16, 74, 75, 76, 77] [] [8, 15, 16] [] bd7_0 = rd7_0 := by kernel_rfl
def pc7 : PC :=
 (.seq
  (.is [.setO 4 (.mk [(.r 0)]),
    .setR 4 (.con .none),
    .setO 5 (.mk [(.r 1)]),
    .setR 5 (.con .none),
    .setR 8 (.con (.bool false))])
  (.seq
   (.is [.call [] 18 8 [],
     .setR 9 (.r 18)])
   (.seq
    (.seq
     (.is [.setR 19 (.r 2),
       .call [] 20 9 [(.r 19)],
       .setR 21 (.nt (.r 20)),
       .setR 22 (.r 21),
       .setR 23 (mkA 5 (.o 4)),
       .setR 24 (.r 2),
       .setR 25 (.r 3),
       .call [(22, false)] 26 18 [(.r 23), (.r 24), (.r 25)],
       .setR 27 (.ci .neq (.r 26) (.con (.int 0))),
       .setR 28 (.pick (.r 22) (.con (.bool true)) (.r 27)),
       .setR 29 (.r 28),
       .setR 30 (mkA 5 (.o 5)),
       .setR 31 (.r 2),
       .setR 32 (.r 3),
       .call [(29, false)] 33 18 [(.r 30), (.r 31), (.r 32)],
       .setR 34 (.ci .neq (.r 33) (.con (.int 0))),
       .setR 35 (.pick (.r 29) (.con (.bool true)) (.r 34))])
     (.ite (.r 35) [8] []
      (.seq
       (.is [.setR 36 (.r 9),
         .setR 8 (.r 36)])
       (.ret (.r 8)))
      .skip))
    (.seq
     (.is [.setR 37 (.con .none),
       .setR 38 (.cell (.o 5) 0),
       .setR 39 (.con .none),
       .setR 40 (.cell (.o 4) 1),
       .setR 41 (.con .none),
       .setR 42 (.cell (.o 5) 1),
       .setR 43 (.mx (.r 40) (.r 42)),
       .setR 44 (.con .none),
       .setR 45 (.cell (.o 4) 2),
       .setR 46 (.con .none),
       .setR 47 (.cell (.o 5) 2),
       .setR 48 (.mn (.r 45) (.r 47)),
       .setR 49 (.con .none),
       .setR 50 (.cell (.o 4) 3),
       .setR 51 (.con .none),
       .setR 52 (.cell (.o 5) 3),
       .setR 53 (.mx (.r 50) (.r 52)),
       .setR 54 (.con .none),
       .setR 55 (.cell (.o 4) 4),
       .setR 56 (.con .none),
       .setR 57 (.cell (.o 5) 4),
       .setR 58 (.mx (.r 55) (.r 57)),
       .setR 59 (.mk [(.r 38), (.r 43), (.r 48), (.r 53), (.r 58)]),
       .setO 10 (.con (.agg [(.int 0), (.int 0), (.int 0), (.int 0), (.int 0)])),
       .setR 10 (.con .none),
       .setO 10 (.setc (.o 10) 0 (.r 59))])
     (.seq
      (.is [.setR 61 (mkA 5 (.o 4)),
        .setR 62 (.r 2),
        .setR 63 (.r 3),
        .call [] 64 10 [(.r 61), (.r 62), (.r 63)],
        .setR 60 (.r 64),
        .setR 65 (.tget (.r 60) 0),
        .setR 66 (.tget (.r 60) 1),
        .setR 11 (.r 65),
        .setR 12 (.r 66)])
      (.seq
       (.is [.setR 68 (mkA 5 (.o 10)),
         .setR 69 (.r 2),
         .setR 70 (.r 3),
         .call [] 71 10 [(.r 68), (.r 69), (.r 70)],
         .setR 67 (.r 71),
         .setR 72 (.tget (.r 67) 0),
         .setR 73 (.tget (.r 67) 1),
         .setR 13 (.r 72),
         .setR 14 (.r 73)])
       (.seq
        (.is [.setR 15 (.con (.int 0))])
        (.seq
         (.seq
          (.is [.setR 16 (.con (.int 0))])
          lp7_0)
         (.seq
          (.is [.setR 124 (.r 9),
            .setR 125 (.r 124),
            .setR 126 (.r 12),
            .setR 127 (.ci .eql (.r 126) (.con (.int 0))),
            .setR 128 (.pick (.r 125) (.r 127) (.con (.bool false))),
            .setR 129 (.r 128),
            .setR 130 (.r 14),
            .setR 131 (.ci .eql (.r 130) (.con (.int 0))),
            .setR 132 (.pick (.r 129) (.r 131) (.con (.bool false))),
            .setR 133 (.r 132),
            .setR 134 (.r 13),
            .setR 135 (.r 11),
            .setR 136 (.ci .leq (.r 134) (.r 135)),
            .setR 137 (.pick (.r 133) (.r 136) (.con (.bool false))),
            .setR 138 (.r 137),
            .setR 139 (.r 11),
            .setR 140 (.r 15),
            .setR 141 (.ci .eql (.r 139) (.r 140)),
            .setR 142 (.pick (.r 138) (.r 141) (.con (.bool false))),
            .setR 8 (.r 142)])
          (.ret (.r 8)))))))))))
def tr7 : PT :=
 (.call ⟨[(8, (.con (.bool false))), (5, (.con .none)), (4, (.con .none))], [(5, (.mk [(.r 1)])), (4, (.mk [(.r 0)]))]⟩ [] 18 8 []
 (.call ⟨[(19, (.r 2)), (9, (.r 18))], []⟩ [] 20 9 [(.r 19)]
 (.call ⟨[(25, (.r 3)), (24, (.r 2)), (23, (mkA 5 (.o 4))), (22, (.nt (.r 20))), (21, (.nt (.r 20)))], []⟩ [(22, false)] 26 18 [(.r 23), (.r 24), (.r 25)]
 (.call ⟨[(32, (.r 3)), (31, (.r 2)), (30, (mkA 5 (.o 5))), (29, (.pick (.r 22) (.con (.bool true)) (.ci .neq (.r 26) (.con (.int 0))))), (28, (.pick (.r 22) (.con (.bool true)) (.ci .neq (.r 26) (.con (.int 0))))), (27, (.ci .neq (.r 26) (.con (.int 0))))], []⟩ [(29, false)] 33 18 [(.r 30), (.r 31), (.r 32)]
 (.ite (.pick (.r 29) (.con (.bool true)) (.ci .neq (.r 33) (.con (.int 0))))
  (.ret (.r 9))
  (.call ⟨[(63, (.r 3)), (62, (.r 2)), (61, (mkA 5 (.o 4))), (10, (.con .none)), (59, (.mk [(.cell (.o 5) 0), (.mx (.cell (.o 4) 1) (.cell (.o 5) 1)), (.mn (.cell (.o 4) 2) (.cell (.o 5) 2)), (.mx (.cell (.o 4) 3) (.cell (.o 5) 3)), (.mx (.cell (.o 4) 4) (.cell (.o 5) 4))])), (58, (.mx (.cell (.o 4) 4) (.cell (.o 5) 4))), (57, (.cell (.o 5) 4)), (56, (.con .none)), (55, (.cell (.o 4) 4)), (54, (.con .none)), (53, (.mx (.cell (.o 4) 3) (.cell (.o 5) 3))), (52, (.cell (.o 5) 3)), (51, (.con .none)), (50, (.cell (.o 4) 3)), (49, (.con .none)), (48, (.mn (.cell (.o 4) 2) (.cell (.o 5) 2))), (47, (.cell (.o 5) 2)), (46, (.con .none)), (45, (.cell (.o 4) 2)), (44, (.con .none)), (43, (.mx (.cell (.o 4) 1) (.cell (.o 5) 1))), (42, (.cell (.o 5) 1)), (41, (.con .none)), (40, (.cell (.o 4) 1)), (39, (.con .none)), (38, (.cell (.o 5) 0)), (37, (.con .none)), (8, (.r 8)), (35, (.pick (.r 29) (.con (.bool true)) (.ci .neq (.r 33) (.con (.int 0))))), (34, (.ci .neq (.r 33) (.con (.int 0))))], [(10, (.setc (.con (.agg [(.int 0), (.int 0), (.int 0), (.int 0), (.int 0)])) 0 (.mk [(.cell (.o 5) 0), (.mx (.cell (.o 4) 1) (.cell (.o 5) 1)), (.mn (.cell (.o 4) 2) (.cell (.o 5) 2)), (.mx (.cell (.o 4) 3) (.cell (.o 5) 3)), (.mx (.cell (.o 4) 4) (.cell (.o 5) 4))]))), (10, (.con (.agg [(.int 0), (.int 0), (.int 0), (.int 0), (.int 0)])))]⟩ [] 64 10 [(.r 61), (.r 62), (.r 63)]
  (.call ⟨[(70, (.r 3)), (69, (.r 2)), (68, (mkA 5 (.o 10))), (12, (.tget (.r 64) 1)), (11, (.tget (.r 64) 0)), (66, (.tget (.r 64) 1)), (65, (.tget (.r 64) 0)), (60, (.r 64))], []⟩ [] 71 10 [(.r 68), (.r 69), (.r 70)]
  (.brk ⟨[(16, (.con (.int 0))), (15, (.con (.int 0))), (14, (.tget (.r 71) 1)), (13, (.tget (.r 71) 0)), (73, (.tget (.r 71) 1)), (72, (.tget (.r 71) 0)), (67, (.r 71))], []⟩
   lp7_0
  (.ret (.pick (.pick (.pick (.pick (.r 9) (.ci .eql (.r 12) (.con (.int 0))) (.con (.bool false))) (.ci .eql (.r 14) (.con (.int 0))) (.con (.bool false))) (.ci .leq (.r 13) (.r 11)) (.con (.bool false))) (.ci .eql (.r 11) (.r 15)) (.con (.bool false))))))))))))
theorem tr7_eq : tree pc7 = tr7 := by kernel_rfl

noncomputable def ctx : Ctx := { P := Try.prog, cap := lookL capL, sig := lookL sigL, msig := fun _ => none, glob := fun _ => none }
theorem ok3 : compF { ctx with fr := [10, 11, 12, 13, 14, 15, 16, 17, 18, 19, 20, 21, 22, 23, 24, 25, 26, 27, 28], nh := [] } Try.f3 ((lookL sigL 3).getD default) [5] = some pc3 := by kernel_rfl
theorem ok8 : compF { ctx with fr := [0, 2, 3, 4, 5, 6, 7, 8, 9, 10, 11, 12], nh := [] } Try.f8 ((lookL sigL 8).getD default) [1] = some pc8 := by kernel_rfl
theorem ok25 : compF { ctx with fr := [], nh := [] } Try.f25 ((lookL sigL 25).getD default) [0] = some pc25 := by kernel_rfl
theorem ok26 : compF { ctx with fr := [0], nh := [] } Try.f26 ((lookL sigL 26).getD default) [] = some pc26 := by kernel_rfl
theorem ok10 : compF { ctx with fr := [6, 7, 8], nh := [] } Try.f10 ((lookL sigL 10).getD default) [3] = some pc10 := by kernel_rfl
theorem ok18 : compF { ctx with fr := [6], nh := [] } Try.f18 ((lookL sigL 18).getD default) [3] = some pc18 := by kernel_rfl
theorem ok33 : compF { ctx with fr := [2], nh := [] } Try.f33 ((lookL sigL 33).getD default) [1] = some pc33 := by kernel_rfl
theorem ok34 : compF { ctx with fr := [4], nh := [] } Try.f34 ((lookL sigL 34).getD default) [] = some pc34 := by kernel_rfl
theorem ok35 : compF { ctx with fr := [4], nh := [] } Try.f35 ((lookL sigL 35).getD default) [] = some pc35 := by kernel_rfl
theorem ok44 : compF { ctx with fr := [4, 5], nh := [] } Try.f44 ((lookL sigL 44).getD default) [] = some pc44 := by kernel_rfl
theorem ok36 : compF { ctx with fr := [2], nh := [] } Try.f36 ((lookL sigL 36).getD default) [1] = some pc36 := by kernel_rfl
theorem ok37 : compF { ctx with fr := [2], nh := [] } Try.f37 ((lookL sigL 37).getD default) [1] = some pc37 := by kernel_rfl
theorem ok27 : compF { ctx with fr := [6, 7], nh := [] } Try.f27 ((lookL sigL 27).getD default) [3, 9] = some pc27 := by kernel_rfl
theorem ok22 : compF { ctx with fr := [6], nh := [] } Try.f22 ((lookL sigL 22).getD default) [3, 4] = some pc22 := by kernel_rfl
theorem ok14 : compF { ctx with fr := [6, 7, 8, 9, 11, 14], nh := [] } Try.f14 ((lookL sigL 14).getD default) [3, 4, 5, 10, 12, 66] = some pc14 := by kernel_rfl
theorem ok31 : compF { ctx with fr := [7], nh := [] } Try.f31 ((lookL sigL 31).getD default) [] = some pc31 := by kernel_rfl
theorem ok30 : compF { ctx with fr := [], nh := [] } Try.f30 ((lookL sigL 30).getD default) [0] = some pc30 := by kernel_rfl
theorem ok41 : compF { ctx with fr := [6, 7, 8, 9], nh := [] } Try.f41 ((lookL sigL 41).getD default) [0] = some pc41 := by kernel_rfl
theorem ok45 : compF { ctx with fr := [8, 9], nh := [] } Try.f45 ((lookL sigL 45).getD default) [0] = some pc45 := by kernel_rfl
theorem ok46 : compF { ctx with fr := [10, 11, 12, 13, 14, 15, 16, 17, 18, 19, 20, 21, 22, 23, 24], nh := [] } Try.f46 ((lookL sigL 46).getD default) [0] = some pc46 := by kernel_rfl
theorem ok58 : compF { ctx with fr := [10, 11], nh := [] } Try.f58 ((lookL sigL 58).getD default) [0] = some pc58 := by kernel_rfl
theorem ok65 : compF { ctx with fr := [10], nh := [] } Try.f65 ((lookL sigL 65).getD default) [0] = some pc65 := by kernel_rfl
theorem ok32 : compF { ctx with fr := [2], nh := [] } Try.f32 ((lookL sigL 32).getD default) [0] = some pc32 := by kernel_rfl
theorem ok43 : compF { ctx with fr := [2], nh := [] } Try.f43 ((lookL sigL 43).getD default) [] = some pc43 := by kernel_rfl
theorem ok56 : compF { ctx with fr := [2, 0], nh := [] } Try.f56 ((lookL sigL 56).getD default) [] = some pc56 := by kernel_rfl
theorem ok57 : compF { ctx with fr := [2, 0], nh := [] } Try.f57 ((lookL sigL 57).getD default) [] = some pc57 := by kernel_rfl
theorem ok42 : compF { ctx with fr := [8, 9, 10, 3, 11, 12, 13, 1, 14, 15, 16, 17, 18, 2], nh := [] } Try.f42 ((lookL sigL 42).getD default) [0] = some pc42 := by kernel_rfl
theorem ok47 : compF { ctx with fr := [6, 7], nh := [] } Try.f47 ((lookL sigL 47).getD default) [0] = some pc47 := by kernel_rfl
theorem ok53 : compF { ctx with fr := [4], nh := [] } Try.f53 ((lookL sigL 53).getD default) [] = some pc53 := by kernel_rfl
theorem ok64 : compF { ctx with fr := [2], nh := [] } Try.f64 ((lookL sigL 64).getD default) [] = some pc64 := by kernel_rfl
theorem ok12 : compF { ctx with fr := [10, 11, 12, 13, 14, 16, 18], nh := [] } Try.f12 ((lookL sigL 12).getD default) [5, 15, 17] = some pc12 := by kernel_rfl
theorem ok29 : compF { ctx with fr := [4], nh := [] } Try.f29 ((lookL sigL 29).getD default) [] = some pc29 := by kernel_rfl
theorem ok40 : compF { ctx with fr := [4, 5], nh := [] } Try.f40 ((lookL sigL 40).getD default) [] = some pc40 := by kernel_rfl
theorem ok16 : compF { ctx with fr := [6, 7, 8, 13], nh := [] } Try.f16 ((lookL sigL 16).getD default) [3, 9, 11] = some pc16 := by kernel_rfl
theorem ok21 : compF { ctx with fr := [4, 5], nh := [] } Try.f21 ((lookL sigL 21).getD default) [] = some pc21 := by kernel_rfl
theorem ok9 : compF { ctx with fr := [2], nh := [] } Try.f9 ((lookL sigL 9).getD default) [] = some pc9 := by kernel_rfl
theorem ok11 : compF { ctx with fr := [6, 7, 8], nh := [] } Try.f11 ((lookL sigL 11).getD default) [3] = some pc11 := by kernel_rfl
theorem ok19 : compF { ctx with fr := [6, 7], nh := [] } Try.f19 ((lookL sigL 19).getD default) [3] = some pc19 := by kernel_rfl
theorem ok38 : compF { ctx with fr := [2], nh := [] } Try.f38 ((lookL sigL 38).getD default) [1] = some pc38 := by kernel_rfl
theorem ok39 : compF { ctx with fr := [2], nh := [] } Try.f39 ((lookL sigL 39).getD default) [1] = some pc39 := by kernel_rfl
theorem ok28 : compF { ctx with fr := [6, 7, 8], nh := [] } Try.f28 ((lookL sigL 28).getD default) [3] = some pc28 := by kernel_rfl
theorem ok23 : compF { ctx with fr := [6], nh := [] } Try.f23 ((lookL sigL 23).getD default) [3, 4] = some pc23 := by kernel_rfl
theorem ok13 : compF { ctx with fr := [10, 11, 12, 13, 14], nh := [] } Try.f13 ((lookL sigL 13).getD default) [5] = some pc13 := by kernel_rfl
theorem ok24 : compF { ctx with fr := [6, 7, 8], nh := [] } Try.f24 ((lookL sigL 24).getD default) [4, 5] = some pc24 := by kernel_rfl
theorem ok15 : compF { ctx with fr := [6, 7, 8, 9, 11, 12, 14], nh := [] } Try.f15 ((lookL sigL 15).getD default) [3, 10, 13] = some pc15 := by kernel_rfl
theorem ok17 : compF { ctx with fr := [6, 7, 8, 9, 10, 11], nh := [] } Try.f17 ((lookL sigL 17).getD default) [3] = some pc17 := by kernel_rfl
theorem ok20 : compF { ctx with fr := [4, 5], nh := [] } Try.f20 ((lookL sigL 20).getD default) [] = some pc20 := by kernel_rfl
theorem ok4 : compF { ctx with fr := [8, 9, 10, 12, 13, 14, 15, 16, 17, 18, 1], nh := [] } Try.f4 ((lookL sigL 4).getD default) [4, 11, 4107, 8203, 112] = some pc4 := by kernel_rfl
theorem ok5 : compF { ctx with fr := [8, 9, 10, 11, 12, 13, 14, 15, 16, 18, 19, 20], nh := [] } Try.f5 ((lookL sigL 5).getD default) [4, 114, 17, 146] = some pc5 := by kernel_rfl
theorem ok6 : compF { ctx with fr := [8, 9, 10, 11, 12, 13, 14, 15], nh := [] } Try.f6 ((lookL sigL 6).getD default) [4] = some pc6 := by kernel_rfl
theorem ok7 : compF { ctx with fr := [8, 9, 11, 12, 13, 14, 15, 16, 17], nh := [] } Try.f7 ((lookL sigL 7).getD default) [4, 5, 10] = some pc7 := by kernel_rfl
def pcL : List (Nat × PC) := [(3, pc3), (8, pc8), (25, pc25), (26, pc26), (10, pc10), (18, pc18), (33, pc33), (34, pc34), (35, pc35), (44, pc44), (36, pc36), (37, pc37), (27, pc27), (22, pc22), (14, pc14), (31, pc31), (30, pc30), (41, pc41), (45, pc45), (46, pc46), (58, pc58), (65, pc65), (32, pc32), (43, pc43), (56, pc56), (57, pc57), (42, pc42), (47, pc47), (53, pc53), (64, pc64), (12, pc12), (29, pc29), (40, pc40), (16, pc16), (21, pc21), (9, pc9), (11, pc11), (19, pc19), (38, pc38), (39, pc39), (28, pc28), (23, pc23), (13, pc13), (24, pc24), (15, pc15), (17, pc17), (20, pc20), (4, pc4), (5, pc5), (6, pc6), (7, pc7)]
def pcN : List Nat := [3, 8, 25, 26, 10, 18, 33, 34, 35, 44, 36, 37, 27, 22, 14, 31, 30, 41, 45, 46, 58, 65, 32, 43, 56, 57, 42, 47, 53, 64, 12, 29, 40, 16, 21, 9, 11, 19, 38, 39, 28, 23, 13, 24, 15, 17, 20, 4, 5, 6, 7]
noncomputable def tab : Nat → Option PC := lookL pcL
theorem caps : ∀ f cs, lookL capL f = some cs → (itOf cs.args cs.res = none → lookL sigL f = some ⟨cs.args ++ cs.caps, cs.res, .dat⟩) ∧ ∀ ys, itOf cs.args cs.res = some ys → memB pcN f = false ∧ thereF Try.prog f = true := capsB_ok (l := capL) (sig := sigL) (P := Try.prog) (pcs := pcN) (by kernel_rfl)
theorem clos : ClosOK ctx := ⟨(fun f cs h => (caps f cs h).1), fun f s h => thereB_ok (l := sigL) (P := Try.prog) (by kernel_rfl) f s h⟩
theorem its : ∀ f cs ys, ctx.cap f = some cs → itOf cs.args cs.res = some ys → tab f = none ∧ ∃ fn, ctx.P.funcs[f]? = some fn ∧ fn.body.isSome = true ∧ (fn.name == "runtime.NumGoroutine") = false := fun f cs ys h hi => ⟨lookL_none ((caps f cs h).2 ys hi).1, thereF_ok ((caps f cs h).2 ys hi).2⟩
theorem tabs : ∀ f pc, tab f = some pc → ∃ fn s ids fr nh, ctx.P.funcs[f]? = some fn ∧ ctx.sig f = some s ∧ compF { ctx with fr := fr, nh := nh } fn s ids = some pc :=
  look_all (R := fun f pc => ∃ fn s ids fr nh, ctx.P.funcs[f]? = some fn ∧ ctx.sig f = some s ∧ compF { ctx with fr := fr, nh := nh } fn s ids = some pc) (l := pcL) ⟨
    ⟨Try.f3, _, [5], [10, 11, 12, 13, 14, 15, 16, 17, 18, 19, 20, 21, 22, 23, 24, 25, 26, 27, 28], [], Try.func3, rfl, ok3⟩,
    ⟨Try.f8, _, [1], [0, 2, 3, 4, 5, 6, 7, 8, 9, 10, 11, 12], [], Try.func8, rfl, ok8⟩,
    ⟨Try.f25, _, [0], [], [], Try.func25, rfl, ok25⟩,
    ⟨Try.f26, _, [], [0], [], Try.func26, rfl, ok26⟩,
    ⟨Try.f10, _, [3], [6, 7, 8], [], Try.func10, rfl, ok10⟩,
    ⟨Try.f18, _, [3], [6], [], Try.func18, rfl, ok18⟩,
    ⟨Try.f33, _, [1], [2], [], Try.func33, rfl, ok33⟩,
    ⟨Try.f34, _, [], [4], [], Try.func34, rfl, ok34⟩,
    ⟨Try.f35, _, [], [4], [], Try.func35, rfl, ok35⟩,
    ⟨Try.f44, _, [], [4, 5], [], Try.func44, rfl, ok44⟩,
    ⟨Try.f36, _, [1], [2], [], Try.func36, rfl, ok36⟩,
    ⟨Try.f37, _, [1], [2], [], Try.func37, rfl, ok37⟩,
    ⟨Try.f27, _, [3, 9], [6, 7], [], Try.func27, rfl, ok27⟩,
    ⟨Try.f22, _, [3, 4], [6], [], Try.func22, rfl, ok22⟩,
    ⟨Try.f14, _, [3, 4, 5, 10, 12, 66], [6, 7, 8, 9, 11, 14], [], Try.func14, rfl, ok14⟩,
    ⟨Try.f31, _, [], [7], [], Try.func31, rfl, ok31⟩,
    ⟨Try.f30, _, [0], [], [], Try.func30, rfl, ok30⟩,
    ⟨Try.f41, _, [0], [6, 7, 8, 9], [], Try.func41, rfl, ok41⟩,
    ⟨Try.f45, _, [0], [8, 9], [], Try.func45, rfl, ok45⟩,
    ⟨Try.f46, _, [0], [10, 11, 12, 13, 14, 15, 16, 17, 18, 19, 20, 21, 22, 23, 24], [], Try.func46, rfl, ok46⟩,
    ⟨Try.f58, _, [0], [10, 11], [], Try.func58, rfl, ok58⟩,
    ⟨Try.f65, _, [0], [10], [], Try.func65, rfl, ok65⟩,
    ⟨Try.f32, _, [0], [2], [], Try.func32, rfl, ok32⟩,
    ⟨Try.f43, _, [], [2], [], Try.func43, rfl, ok43⟩,
    ⟨Try.f56, _, [], [2, 0], [], Try.func56, rfl, ok56⟩,
    ⟨Try.f57, _, [], [2, 0], [], Try.func57, rfl, ok57⟩,
    ⟨Try.f42, _, [0], [8, 9, 10, 3, 11, 12, 13, 1, 14, 15, 16, 17, 18, 2], [], Try.func42, rfl, ok42⟩,
    ⟨Try.f47, _, [0], [6, 7], [], Try.func47, rfl, ok47⟩,
    ⟨Try.f53, _, [], [4], [], Try.func53, rfl, ok53⟩,
    ⟨Try.f64, _, [], [2], [], Try.func64, rfl, ok64⟩,
    ⟨Try.f12, _, [5, 15, 17], [10, 11, 12, 13, 14, 16, 18], [], Try.func12, rfl, ok12⟩,
    ⟨Try.f29, _, [], [4], [], Try.func29, rfl, ok29⟩,
    ⟨Try.f40, _, [], [4, 5], [], Try.func40, rfl, ok40⟩,
    ⟨Try.f16, _, [3, 9, 11], [6, 7, 8, 13], [], Try.func16, rfl, ok16⟩,
    ⟨Try.f21, _, [], [4, 5], [], Try.func21, rfl, ok21⟩,
    ⟨Try.f9, _, [], [2], [], Try.func9, rfl, ok9⟩,
    ⟨Try.f11, _, [3], [6, 7, 8], [], Try.func11, rfl, ok11⟩,
    ⟨Try.f19, _, [3], [6, 7], [], Try.func19, rfl, ok19⟩,
    ⟨Try.f38, _, [1], [2], [], Try.func38, rfl, ok38⟩,
    ⟨Try.f39, _, [1], [2], [], Try.func39, rfl, ok39⟩,
    ⟨Try.f28, _, [3], [6, 7, 8], [], Try.func28, rfl, ok28⟩,
    ⟨Try.f23, _, [3, 4], [6], [], Try.func23, rfl, ok23⟩,
    ⟨Try.f13, _, [5], [10, 11, 12, 13, 14], [], Try.func13, rfl, ok13⟩,
    ⟨Try.f24, _, [4, 5], [6, 7, 8], [], Try.func24, rfl, ok24⟩,
    ⟨Try.f15, _, [3, 10, 13], [6, 7, 8, 9, 11, 12, 14], [], Try.func15, rfl, ok15⟩,
    ⟨Try.f17, _, [3], [6, 7, 8, 9, 10, 11], [], Try.func17, rfl, ok17⟩,
    ⟨Try.f20, _, [], [4, 5], [], Try.func20, rfl, ok20⟩,
    ⟨Try.f4, _, [4, 11, 4107, 8203, 112], [8, 9, 10, 12, 13, 14, 15, 16, 17, 18, 1], [], Try.func4, rfl, ok4⟩,
    ⟨Try.f5, _, [4, 114, 17, 146], [8, 9, 10, 11, 12, 13, 14, 15, 16, 18, 19, 20], [], Try.func5, rfl, ok5⟩,
    ⟨Try.f6, _, [4], [8, 9, 10, 11, 12, 13, 14, 15], [], Try.func6, rfl, ok6⟩,
    ⟨Try.f7, _, [4, 5, 10], [8, 9, 11, 12, 13, 14, 15, 16, 17], [], Try.func7, rfl, ok7⟩, trivial⟩
end Pool
