/-
  The functions of this seat, compiled (1).
-/
import Derived.Test.YtjjfmpdhjbojfaaCyI
import Derived.KernelRfl
set_option maxRecDepth 100000
namespace Title
open Go Cx

/-- how each function is called -/
def sigL : List (Nat × Sig) := [
  (3, ⟨[(.agg [(.int .i64), (.int .i64), (.int .i64), (.int .i64), (.int .i64), (.int .i64), (.int .i64), (.int .i64), (.int .i64), (.int .i64), (.int .i64), (.int .i64), (.int .i64), (.int .i64), (.int .i64), (.slice (.agg [(.int .i64), (.int .i64), (.int .i64), (.int .i64), (.int .i64), (.int .i64), (.int .i64), (.int .i64), (.int .i64)])), (.slice (.agg [(.int .i64), (.int .i64)])), (.slice (.agg [(.int .i64), (.int .i64), (.int .i64), (.int .i64), (.int .i64), (.int .i64), (.int .i64), (.int .i64), (.int .i64)])), (.slice (.agg [(.int .i64), (.int .i64), (.int .i64)]))]), (.int .i64), (.int .i64), (.int .i64)], .bool, .dat⟩),
  (4, ⟨[(.agg [(.int .i64), (.int .i64), (.int .i64), (.int .i64), (.int .i64), (.int .i64), (.int .i64), (.int .i64), (.int .i64), (.int .i64), (.int .i64), (.int .i64), (.int .i64), (.int .i64), (.int .i64), (.slice (.agg [(.int .i64), (.int .i64), (.int .i64), (.int .i64), (.int .i64), (.int .i64), (.int .i64), (.int .i64), (.int .i64)])), (.slice (.agg [(.int .i64), (.int .i64)])), (.slice (.agg [(.int .i64), (.int .i64), (.int .i64), (.int .i64), (.int .i64), (.int .i64), (.int .i64), (.int .i64), (.int .i64)])), (.slice (.agg [(.int .i64), (.int .i64), (.int .i64)]))]), (.int .i64), (.int .i64)], .bool, .dat⟩),
  (5, ⟨[(.agg [(.int .i64), (.int .i64), (.int .i64), (.int .i64), (.int .i64), (.int .i64), (.int .i64), (.int .i64), (.int .i64), (.int .i64), (.int .i64), (.int .i64), (.int .i64), (.int .i64), (.int .i64), (.slice (.agg [(.int .i64), (.int .i64), (.int .i64), (.int .i64), (.int .i64), (.int .i64), (.int .i64), (.int .i64), (.int .i64)])), (.slice (.agg [(.int .i64), (.int .i64)])), (.slice (.agg [(.int .i64), (.int .i64), (.int .i64), (.int .i64), (.int .i64), (.int .i64), (.int .i64), (.int .i64), (.int .i64)])), (.slice (.agg [(.int .i64), (.int .i64), (.int .i64)]))]), (.int .i64), (.int .i64), (.agg [(.int .i64), (.int .i64), (.int .i64), (.int .i64), (.int .i64), (.int .i64), (.int .i64), (.int .i64), (.int .i64)]), (.agg [(.int .i64), (.int .i64), (.int .i64), (.int .i64), (.int .i64), (.int .i64), (.int .i64), (.int .i64), (.int .i64)])], .bool, .dat⟩),
  (6, ⟨[(.agg [(.int .i64), (.int .i64), (.int .i64), (.int .i64), (.int .i64), (.int .i64), (.int .i64), (.int .i64), (.int .i64), (.int .i64), (.int .i64), (.int .i64), (.int .i64), (.int .i64), (.int .i64), (.slice (.agg [(.int .i64), (.int .i64), (.int .i64), (.int .i64), (.int .i64), (.int .i64), (.int .i64), (.int .i64), (.int .i64)])), (.slice (.agg [(.int .i64), (.int .i64)])), (.slice (.agg [(.int .i64), (.int .i64), (.int .i64), (.int .i64), (.int .i64), (.int .i64), (.int .i64), (.int .i64), (.int .i64)])), (.slice (.agg [(.int .i64), (.int .i64), (.int .i64)]))]), (.int .i64), (.int .i64), (.agg [(.int .i64), (.int .i64), (.int .i64), (.int .i64), (.int .i64), (.int .i64), (.int .i64), (.int .i64), (.int .i64)])], .bool, .dat⟩),
  (7, ⟨[(.agg [(.int .i64), (.int .i64), (.int .i64), (.int .i64), (.int .i64), (.int .i64), (.int .i64), (.int .i64), (.int .i64), (.int .i64), (.int .i64), (.int .i64), (.int .i64), (.int .i64), (.int .i64), (.slice (.agg [(.int .i64), (.int .i64), (.int .i64), (.int .i64), (.int .i64), (.int .i64), (.int .i64), (.int .i64), (.int .i64)])), (.slice (.agg [(.int .i64), (.int .i64)])), (.slice (.agg [(.int .i64), (.int .i64), (.int .i64), (.int .i64), (.int .i64), (.int .i64), (.int .i64), (.int .i64), (.int .i64)])), (.slice (.agg [(.int .i64), (.int .i64), (.int .i64)]))]), (.int .i64), (.int .i64), (.int .i64), (.int .u16)], .bool, .dat⟩),
  (8, ⟨[(.agg [(.int .i64), (.int .i64), (.int .i64), (.int .i64), (.int .i64), (.int .i64), (.int .i64), (.int .i64), (.int .i64), (.int .i64), (.int .i64), (.int .i64), (.int .i64), (.int .i64), (.int .i64), (.slice (.agg [(.int .i64), (.int .i64), (.int .i64), (.int .i64), (.int .i64), (.int .i64), (.int .i64), (.int .i64), (.int .i64)])), (.slice (.agg [(.int .i64), (.int .i64)])), (.slice (.agg [(.int .i64), (.int .i64), (.int .i64), (.int .i64), (.int .i64), (.int .i64), (.int .i64), (.int .i64), (.int .i64)])), (.slice (.agg [(.int .i64), (.int .i64), (.int .i64)]))]), (.int .i64)], .bool, .dat⟩),
  (9, ⟨[], .bool, .dat⟩),
  (10, ⟨[(.agg [(.int .i64), (.int .i64), (.int .i64), (.int .i64), (.int .i64), (.int .i64), (.int .i64), (.int .i64), (.int .i64), (.int .i64), (.int .i64), (.int .i64), (.int .i64), (.int .i64), (.int .i64), (.slice (.agg [(.int .i64), (.int .i64), (.int .i64), (.int .i64), (.int .i64), (.int .i64), (.int .i64), (.int .i64), (.int .i64)])), (.slice (.agg [(.int .i64), (.int .i64)])), (.slice (.agg [(.int .i64), (.int .i64), (.int .i64), (.int .i64), (.int .i64), (.int .i64), (.int .i64), (.int .i64), (.int .i64)])), (.slice (.agg [(.int .i64), (.int .i64), (.int .i64)]))])], .bool, .dat⟩),
  (11, ⟨[(.agg [(.int .i64), (.int .i64), (.int .i64), (.int .i64), (.int .i64), (.int .i64), (.int .i64), (.int .i64), (.int .i64), (.int .i64), (.int .i64), (.int .i64), (.int .i64), (.int .i64), (.int .i64), (.slice (.agg [(.int .i64), (.int .i64), (.int .i64), (.int .i64), (.int .i64), (.int .i64), (.int .i64), (.int .i64), (.int .i64)])), (.slice (.agg [(.int .i64), (.int .i64)])), (.slice (.agg [(.int .i64), (.int .i64), (.int .i64), (.int .i64), (.int .i64), (.int .i64), (.int .i64), (.int .i64), (.int .i64)])), (.slice (.agg [(.int .i64), (.int .i64), (.int .i64)]))]), (.int .i64), (.int .i64)], .bool, .dat⟩),
  (12, ⟨[(.agg [(.int .i64), (.int .i64), (.int .i64), (.int .i64), (.int .i64), (.int .i64), (.int .i64), (.int .i64), (.int .i64), (.int .i64), (.int .i64), (.int .i64), (.int .i64), (.int .i64), (.int .i64), (.slice (.agg [(.int .i64), (.int .i64), (.int .i64), (.int .i64), (.int .i64), (.int .i64), (.int .i64), (.int .i64), (.int .i64)])), (.slice (.agg [(.int .i64), (.int .i64)])), (.slice (.agg [(.int .i64), (.int .i64), (.int .i64), (.int .i64), (.int .i64), (.int .i64), (.int .i64), (.int .i64), (.int .i64)])), (.slice (.agg [(.int .i64), (.int .i64), (.int .i64)]))]), (.int .i64), (.int .i64)], .bool, .dat⟩),
  (13, ⟨[(.agg [(.slice (.int .i64)), (.int .i64), (.int .i64), .bool, (.int .i64), (.slice (.int .i64))]), (.agg [(.slice (.int .i64)), (.int .i64), (.int .i64), .bool, (.int .i64), (.slice (.int .i64))])], .bool, .dat⟩),
  (14, ⟨[(.agg [(.int .i64), (.int .i64), (.int .i64), (.int .i64), (.int .i64), (.int .i64), (.int .i64), (.int .i64), (.int .i64), (.int .i64), (.int .i64), (.int .i64), (.int .i64), (.int .i64), (.int .i64), (.slice (.agg [(.int .i64), (.int .i64), (.int .i64), (.int .i64), (.int .i64), (.int .i64), (.int .i64), (.int .i64), (.int .i64)])), (.slice (.agg [(.int .i64), (.int .i64)])), (.slice (.agg [(.int .i64), (.int .i64), (.int .i64), (.int .i64), (.int .i64), (.int .i64), (.int .i64), (.int .i64), (.int .i64)])), (.slice (.agg [(.int .i64), (.int .i64), (.int .i64)]))]), (.int .i64), (.int .i64)], (.agg [(.slice (.int .i64)), (.int .i64), (.int .i64), .bool, (.int .i64), (.slice (.int .i64))]), .dat⟩),
  (15, ⟨[(.agg [(.int .i64), (.int .i64), (.int .i64), (.int .i64), (.int .i64), (.int .i64), (.int .i64), (.int .i64), (.int .i64), (.int .i64), (.int .i64), (.int .i64), (.int .i64), (.int .i64), (.int .i64), (.slice (.agg [(.int .i64), (.int .i64), (.int .i64), (.int .i64), (.int .i64), (.int .i64), (.int .i64), (.int .i64), (.int .i64)])), (.slice (.agg [(.int .i64), (.int .i64)])), (.slice (.agg [(.int .i64), (.int .i64), (.int .i64), (.int .i64), (.int .i64), (.int .i64), (.int .i64), (.int .i64), (.int .i64)])), (.slice (.agg [(.int .i64), (.int .i64), (.int .i64)]))]), (.int .i64), (.int .i64)], (.agg [(.slice (.int .i64)), (.int .i64), (.int .i64), .bool, (.int .i64), (.slice (.int .i64))]), .dat⟩),
  (16, ⟨[(.slice (.int .i64)), (.slice (.int .i64))], .bool, .dat⟩),
  (17, ⟨[(.agg [(.int .i64), (.int .i64), (.int .i64), (.int .i64), (.int .i64), (.int .i64), (.int .i64), (.int .i64), (.int .i64), (.int .i64), (.int .i64), (.int .i64), (.int .i64), (.int .i64), (.int .i64), (.slice (.agg [(.int .i64), (.int .i64), (.int .i64), (.int .i64), (.int .i64), (.int .i64), (.int .i64), (.int .i64), (.int .i64)])), (.slice (.agg [(.int .i64), (.int .i64)])), (.slice (.agg [(.int .i64), (.int .i64), (.int .i64), (.int .i64), (.int .i64), (.int .i64), (.int .i64), (.int .i64), (.int .i64)])), (.slice (.agg [(.int .i64), (.int .i64), (.int .i64)]))]), (.int .i64)], (.slice (.int .i64)), .dat⟩),
  (18, ⟨[(.agg [(.int .i64), (.int .i64), (.int .i64), (.int .i64), (.int .i64), (.int .i64), (.int .i64), (.int .i64), (.int .i64), (.int .i64), (.int .i64), (.int .i64), (.int .i64), (.int .i64), (.int .i64), (.slice (.agg [(.int .i64), (.int .i64), (.int .i64), (.int .i64), (.int .i64), (.int .i64), (.int .i64), (.int .i64), (.int .i64)])), (.slice (.agg [(.int .i64), (.int .i64)])), (.slice (.agg [(.int .i64), (.int .i64), (.int .i64), (.int .i64), (.int .i64), (.int .i64), (.int .i64), (.int .i64), (.int .i64)])), (.slice (.agg [(.int .i64), (.int .i64), (.int .i64)]))]), (.int .i64)], (.slice (.int .i64)), .dat⟩),
  (19, ⟨[], (.agg [(.int .i64), (.int .i64), (.int .i64), (.int .i64), (.int .i64), (.int .i64), (.int .i64), (.int .i64), (.int .i64), (.int .i64), (.int .i64), (.int .i64), (.int .i64), (.int .i64), (.int .i64), (.slice (.agg [(.int .i64), (.int .i64), (.int .i64), (.int .i64), (.int .i64), (.int .i64), (.int .i64), (.int .i64), (.int .i64)])), (.nils (.agg [(.int .i64), (.int .i64)])), (.nils (.agg [(.int .i64), (.int .i64), (.int .i64), (.int .i64), (.int .i64), (.int .i64), (.int .i64), (.int .i64), (.int .i64)])), (.nils (.agg [(.int .i64), (.int .i64), (.int .i64)]))]), .dat⟩),
  (20, ⟨[(.agg [(.int .i64), (.int .i64), (.int .i64), (.int .i64), (.int .i64), (.int .i64), (.int .i64), (.int .i64), (.int .i64), (.int .i64), (.int .i64), (.int .i64), (.int .i64), (.int .i64), (.int .i64), (.slice (.agg [(.int .i64), (.int .i64), (.int .i64), (.int .i64), (.int .i64), (.int .i64), (.int .i64), (.int .i64), (.int .i64)])), (.slice (.agg [(.int .i64), (.int .i64)])), (.slice (.agg [(.int .i64), (.int .i64), (.int .i64), (.int .i64), (.int .i64), (.int .i64), (.int .i64), (.int .i64), (.int .i64)])), (.slice (.agg [(.int .i64), (.int .i64), (.int .i64)]))]), (.int .i64)], (.map (.int .i64) .bool), .dat⟩),
  (21, ⟨[(.agg [(.int .i64), (.int .i64), (.int .i64), (.int .i64), (.int .i64), (.int .i64), (.int .i64), (.int .i64), (.int .i64), (.int .i64), (.int .i64), (.int .i64), (.int .i64), (.int .i64), (.int .i64), (.slice (.agg [(.int .i64), (.int .i64), (.int .i64), (.int .i64), (.int .i64), (.int .i64), (.int .i64), (.int .i64), (.int .i64)])), (.slice (.agg [(.int .i64), (.int .i64)])), (.slice (.agg [(.int .i64), (.int .i64), (.int .i64), (.int .i64), (.int .i64), (.int .i64), (.int .i64), (.int .i64), (.int .i64)])), (.slice (.agg [(.int .i64), (.int .i64), (.int .i64)]))]), (.int .i64)], (.tup [(.int .i64), .bool]), .dat⟩),
  (22, ⟨[(.agg [(.int .i64), (.int .i64), (.int .i64), (.int .i64), (.int .i64), (.int .i64), (.int .i64), (.int .i64), (.int .i64), (.int .i64), (.int .i64), (.int .i64), (.int .i64), (.int .i64), (.int .i64), (.slice (.agg [(.int .i64), (.int .i64), (.int .i64), (.int .i64), (.int .i64), (.int .i64), (.int .i64), (.int .i64), (.int .i64)])), (.slice (.agg [(.int .i64), (.int .i64)])), (.slice (.agg [(.int .i64), (.int .i64), (.int .i64), (.int .i64), (.int .i64), (.int .i64), (.int .i64), (.int .i64), (.int .i64)])), (.slice (.agg [(.int .i64), (.int .i64), (.int .i64)]))]), (.int .i64), (.int .i64)], (.fn [(.fn [(.int .i64), (.agg [(.int .i64), (.int .i64), (.int .i64), (.int .i64), (.int .i64), (.int .i64), (.int .i64), (.int .i64), (.int .i64)])] .bool)] (.tup [])), .dat⟩),
  (23, ⟨[(.int .i64), (.int .i64)], (.int .i64), .dat⟩),
  (24, ⟨[(.agg [(.int .i64), (.int .i64), (.int .i64), (.int .i64), (.int .i64), (.int .i64), (.int .i64), (.int .i64), (.int .i64), (.int .i64), (.int .i64), (.int .i64), (.int .i64), (.int .i64), (.int .i64), (.slice (.agg [(.int .i64), (.int .i64), (.int .i64), (.int .i64), (.int .i64), (.int .i64), (.int .i64), (.int .i64), (.int .i64)])), (.slice (.agg [(.int .i64), (.int .i64)])), (.slice (.agg [(.int .i64), (.int .i64), (.int .i64), (.int .i64), (.int .i64), (.int .i64), (.int .i64), (.int .i64), (.int .i64)])), (.slice (.agg [(.int .i64), (.int .i64), (.int .i64)]))]), (.int .i64), (.int .i64)], (.slice (.int .i64)), .dat⟩),
  (25, ⟨[(.int .i64), (.int .i64)], (.int .i64), .dat⟩),
  (26, ⟨[(.agg [(.int .i64), (.int .i64), (.int .i64), (.int .i64), (.int .i64), (.int .i64), (.int .i64), (.int .i64), (.int .i64), (.int .i64), (.int .i64), (.int .i64), (.int .i64), (.int .i64), (.int .i64), (.slice (.agg [(.int .i64), (.int .i64), (.int .i64), (.int .i64), (.int .i64), (.int .i64), (.int .i64), (.int .i64), (.int .i64)])), (.slice (.agg [(.int .i64), (.int .i64)])), (.slice (.agg [(.int .i64), (.int .i64), (.int .i64), (.int .i64), (.int .i64), (.int .i64), (.int .i64), (.int .i64), (.int .i64)])), (.slice (.agg [(.int .i64), (.int .i64), (.int .i64)]))]), (.int .i64), (.int .i64)], .bool, .dat⟩)]
def capL : List (Nat × CSig) := [
  (27, ⟨[(.ref (.agg [(.int .i64), (.int .i64), (.int .i64), (.int .i64), (.int .i64), (.int .i64), (.int .i64), (.int .i64), (.int .i64), (.int .i64), (.int .i64), (.int .i64), (.int .i64), (.int .i64), (.int .i64), (.slice (.agg [(.int .i64), (.int .i64), (.int .i64), (.int .i64), (.int .i64), (.int .i64), (.int .i64), (.int .i64), (.int .i64)])), (.slice (.agg [(.int .i64), (.int .i64)])), (.slice (.agg [(.int .i64), (.int .i64), (.int .i64), (.int .i64), (.int .i64), (.int .i64), (.int .i64), (.int .i64), (.int .i64)])), (.slice (.agg [(.int .i64), (.int .i64), (.int .i64)]))])), (.ref (.int .i64)), (.ref (.int .i64))], [(.fn [(.int .i64), (.agg [(.int .i64), (.int .i64), (.int .i64), (.int .i64), (.int .i64), (.int .i64), (.int .i64), (.int .i64), (.int .i64)])] .bool)], (.tup [])⟩)]
/-! allonge/allongelaw13.TitleTells -/
def pc3 : PC :=
 (.seq
  (.is [.setO 4 (.mk [(.r 0)]),
    .setR 4 (.con .none),
    .setR 8 (.con (.bool false))])
  (.seq
   (.is [.call [] 10 9 [],
     .setR 9 (.r 10)])
   (.seq
    (.seq
     (.is [.setR 11 (mkA 19 (.o 4)),
       .call [] 12 10 [(.r 11)],
       .setR 13 (.nt (.r 12))])
     (.ite (.r 13) [8] []
      (.seq
       (.is [.setR 14 (.r 9),
         .setR 8 (.r 14)])
       (.ret (.r 8)))
      .skip))
    (.seq
     (.is [.setR 15 (.r 9),
       .setR 16 (.r 15),
       .setR 17 (mkA 19 (.o 4)),
       .setR 18 (.r 2),
       .setR 19 (.r 3),
       .call [(16, true)] 20 11 [(.r 17), (.r 18), (.r 19)],
       .setR 21 (mkA 19 (.o 4)),
       .setR 22 (.r 2),
       .setR 23 (.r 3),
       .call [(16, true)] 24 12 [(.r 21), (.r 22), (.r 23)],
       .setR 25 (.cb .eql (.r 20) (.r 24)),
       .setR 26 (.pick (.r 16) (.r 25) (.con (.bool false))),
       .setR 27 (.r 26),
       .setR 28 (mkA 19 (.o 4)),
       .setR 29 (.r 1),
       .setR 30 (.r 3),
       .call [(27, true)] 31 14 [(.r 28), (.r 29), (.r 30)],
       .setR 32 (mkA 19 (.o 4)),
       .setR 33 (.r 1),
       .setR 34 (.r 3),
       .call [(27, true)] 35 15 [(.r 32), (.r 33), (.r 34)],
       .call [(27, true)] 36 13 [(.r 31), (.r 35)],
       .setR 37 (.pick (.r 27) (.r 36) (.con (.bool false))),
       .setR 38 (.r 37),
       .setR 39 (mkA 19 (.o 4)),
       .setR 40 (.r 3),
       .call [(38, true)] 41 17 [(.r 39), (.r 40)],
       .setR 42 (mkA 19 (.o 4)),
       .setR 43 (.r 3),
       .call [(38, true)] 44 18 [(.r 42), (.r 43)],
       .call [(38, true)] 45 16 [(.r 41), (.r 44)],
       .setR 46 (.pick (.r 38) (.r 45) (.con (.bool false))),
       .setR 8 (.r 46)])
     (.ret (.r 8))))))
def tr3 : PT :=
 (.call ⟨[(8, (.con (.bool false))), (4, (.con .none))], [(4, (.mk [(.r 0)]))]⟩ [] 10 9 []
 (.call ⟨[(11, (mkA 19 (.o 4))), (9, (.r 10))], []⟩ [] 12 10 [(.r 11)]
 (.ite (.nt (.r 12))
  (.ret (.r 9))
  (.call ⟨[(19, (.r 3)), (18, (.r 2)), (17, (mkA 19 (.o 4))), (16, (.r 9)), (15, (.r 9)), (8, (.r 8)), (13, (.nt (.r 12)))], []⟩ [(16, true)] 20 11 [(.r 17), (.r 18), (.r 19)]
  (.call ⟨[(23, (.r 3)), (22, (.r 2)), (21, (mkA 19 (.o 4)))], []⟩ [(16, true)] 24 12 [(.r 21), (.r 22), (.r 23)]
  (.call ⟨[(30, (.r 3)), (29, (.r 1)), (28, (mkA 19 (.o 4))), (27, (.pick (.r 16) (.cb .eql (.r 20) (.r 24)) (.con (.bool false)))), (26, (.pick (.r 16) (.cb .eql (.r 20) (.r 24)) (.con (.bool false)))), (25, (.cb .eql (.r 20) (.r 24)))], []⟩ [(27, true)] 31 14 [(.r 28), (.r 29), (.r 30)]
  (.call ⟨[(34, (.r 3)), (33, (.r 1)), (32, (mkA 19 (.o 4)))], []⟩ [(27, true)] 35 15 [(.r 32), (.r 33), (.r 34)]
  (.call ⟨[], []⟩ [(27, true)] 36 13 [(.r 31), (.r 35)]
  (.call ⟨[(40, (.r 3)), (39, (mkA 19 (.o 4))), (38, (.pick (.r 27) (.r 36) (.con (.bool false)))), (37, (.pick (.r 27) (.r 36) (.con (.bool false))))], []⟩ [(38, true)] 41 17 [(.r 39), (.r 40)]
  (.call ⟨[(43, (.r 3)), (42, (mkA 19 (.o 4)))], []⟩ [(38, true)] 44 18 [(.r 42), (.r 43)]
  (.call ⟨[], []⟩ [(38, true)] 45 16 [(.r 41), (.r 44)]
  (.ret (.pick (.r 38) (.r 45) (.con (.bool false)))))))))))))))
theorem tr3_eq : tree pc3 = tr3 := by kernel_rfl
/-! allonge/allongelaw13.small -/
def pc9 : PC :=
 (.seq
  (.is [.setR 0 (.con (.bool false))])
  (.seq
   (.is [.call [] 8 19 [],
     .setO 1 (.con (.agg [(.int 0), (.int 0), (.int 0), (.int 0), (.int 0), (.int 0), (.int 0), (.int 0), (.int 0), (.int 0), (.int 0), (.int 0), (.int 0), (.int 0), (.int 0), (.list []), (.list []), (.list []), (.list [])])),
     .setR 1 (.con .none),
     .setO 1 (.setc (.o 1) 0 (.r 8))])
   (.seq
    (.is [.setR 9 (mkA 19 (.o 1)),
      .call [] 10 14 [(.r 9), (.con (.int 0)), (.con (.int 9))],
      .setO 2 (.con (.agg [(.list []), (.int 0), (.int 0), (.bool false), (.int 0), (.list [])])),
      .setR 2 (.con .none),
      .setO 2 (.setc (.o 2) 0 (.r 10))])
    (.seq
     (.is [.setR 11 (mkA 19 (.o 1)),
       .call [] 12 14 [(.r 11), (.con (.int 1)), (.con (.int 9))],
       .setO 3 (.con (.agg [(.list []), (.int 0), (.int 0), (.bool false), (.int 0), (.list [])])),
       .setR 3 (.con .none),
       .setO 3 (.setc (.o 3) 0 (.r 12))])
     (.seq
      (.is [.setR 13 (mkA 19 (.o 1)),
        .call [] 14 14 [(.r 13), (.con (.int 0)), (.con (.int 2))],
        .setO 4 (.con (.agg [(.list []), (.int 0), (.int 0), (.bool false), (.int 0), (.list [])])),
        .setR 4 (.con .none),
        .setO 4 (.setc (.o 4) 0 (.r 14))])
      (.seq
       (.is [.setR 15 (.con .none),
         .setR 16 (.cell (.o 1) 17),
         .setR 17 (.mk [(.con (.int 7)), (.con (.int 0)), (.con (.int 0)), (.con (.int 0)), (.con (.int 2)), (.con (.int 0)), (.con (.int 5)), (.con (.int 0)), (.con (.int 0))]),
         .setO 18 (.lst [(.r 17)]),
         .setR 18 (.con .none),
         .chk (.ci .leq (.llen (.app (.con (.list [])) (.o 18))) (.con (.int 4294967296))),
         .setO 19 (.app (.con (.list [])) (.o 18)),
         .setR 19 (.con .none),
         .setR 20 (.con .none),
         .setO 1 (.setc (.o 1) 17 (.con .none)),
         .setO 73729 (.o 19)])
       (.seq
        (.is [.setR 21 (.mk [(.cell (.o 1) 0), (.cell (.o 1) 1), (.cell (.o 1) 2), (.cell (.o 1) 3), (.cell (.o 1) 4), (.cell (.o 1) 5), (.cell (.o 1) 6), (.cell (.o 1) 7), (.cell (.o 1) 8), (.cell (.o 1) 9), (.cell (.o 1) 10), (.cell (.o 1) 11), (.cell (.o 1) 12), (.cell (.o 1) 13), (.cell (.o 1) 14), (.cell (.o 1) 15), (.cell (.o 1) 16), (.o 73729), (.cell (.o 1) 18)]),
          .call [] 22 14 [(.r 21), (.con (.int 0)), (.con (.int 9))],
          .setO 5 (.con (.agg [(.list []), (.int 0), (.int 0), (.bool false), (.int 0), (.list [])])),
          .setR 5 (.con .none),
          .setO 5 (.setc (.o 5) 0 (.r 22))])
        (.seq
         (.seq
          (.is [.setR 23 (.con .none),
            .setR 24 (.cell (.o 2) 0),
            .setR 25 (.llen (.r 24)),
            .setR 26 (.ci .neq (.r 25) (.con (.int 3))),
            .setR 27 (.r 26),
            .setR 28 (.con .none),
            .setR 29 (.cell (.o 3) 0),
            .setR 30 (.llen (.r 29)),
            .setR 31 (.ci .neq (.r 30) (.con (.int 0))),
            .setR 32 (.pick (.r 27) (.con (.bool true)) (.r 31)),
            .setR 33 (.r 32),
            .setR 34 (.con .none),
            .setR 35 (.cell (.o 4) 0),
            .setR 36 (.llen (.r 35)),
            .setR 37 (.ci .neq (.r 36) (.con (.int 2))),
            .setR 38 (.pick (.r 33) (.con (.bool true)) (.r 37)),
            .setR 39 (.r 38),
            .setR 40 (.con .none),
            .setR 41 (.cell (.o 5) 0),
            .setR 42 (.llen (.r 41)),
            .setR 43 (.ci .neq (.r 42) (.con (.int 1))),
            .setR 44 (.pick (.r 39) (.con (.bool true)) (.r 43))])
          (.ite (.r 44) [0] []
           (.seq
            (.is [.setR 0 (.con (.bool false))])
            (.ret (.r 0)))
           .skip))
         (.seq
          (.is [.setR 45 (.con .none),
            .setR 46 (.cell (.o 2) 0),
            .chk (.idx (.r 46) (.con (.int 0))),
            .setR 47 (.ref (.nth (.r 46) (.con (.int 0)))),
            .setR 48 (.deref (.r 47)),
            .setR 49 (.ci .eql (.r 48) (.con (.int 1))),
            .setR 50 (.r 49),
            .setR 51 (.con .none),
            .setR 52 (.cell (.o 2) 0),
            .chk (.imp [(50, true)] (.idx (.r 52) (.con (.int 1)))),
            .setR 53 (.ref (.nth (.r 52) (.con (.int 1)))),
            .setR 54 (.deref (.r 53)),
            .setR 55 (.ci .eql (.r 54) (.con (.int 2))),
            .setR 56 (.pick (.r 50) (.r 55) (.con (.bool false))),
            .setR 57 (.r 56),
            .setR 58 (.con .none),
            .setR 59 (.cell (.o 2) 0),
            .chk (.imp [(57, true)] (.idx (.r 59) (.con (.int 2)))),
            .setR 60 (.ref (.nth (.r 59) (.con (.int 2)))),
            .setR 61 (.deref (.r 60)),
            .setR 62 (.ci .eql (.r 61) (.con (.int 3))),
            .setR 63 (.pick (.r 57) (.r 62) (.con (.bool false))),
            .setR 64 (.r 63),
            .setR 65 (.con .none),
            .setR 66 (.cell (.o 2) 1),
            .setR 67 (.ci .eql (.r 66) (.con (.int 8))),
            .setR 68 (.pick (.r 64) (.r 67) (.con (.bool false))),
            .setR 69 (.r 68),
            .setR 70 (.con .none),
            .setR 71 (.cell (.o 2) 2),
            .setR 72 (.ci .eql (.r 71) (.con (.int (-1)))),
            .setR 73 (.pick (.r 69) (.r 72) (.con (.bool false))),
            .setR 74 (.r 73),
            .setR 75 (.con .none),
            .setR 76 (.cell (.o 2) 4),
            .setR 77 (.ci .eql (.r 76) (.con (.int 1))),
            .setR 78 (.pick (.r 74) (.r 77) (.con (.bool false))),
            .setR 79 (.r 78),
            .setR 80 (.con .none),
            .setR 81 (.cell (.o 2) 3),
            .setR 82 (.nt (.r 81)),
            .setR 83 (.pick (.r 79) (.r 82) (.con (.bool false))),
            .setR 84 (.r 83),
            .setR 85 (.con .none),
            .setR 86 (.cell (.o 2) 5),
            .setR 87 (.llen (.r 86)),
            .setR 88 (.ci .eql (.r 87) (.con (.int 0))),
            .setR 89 (.pick (.r 84) (.r 88) (.con (.bool false))),
            .setR 6 (.r 89)])
          (.seq
           (.is [.setR 90 (.con .none),
             .setR 91 (.cell (.o 3) 1),
             .setR 92 (.ci .eql (.r 91) (.con (.int 3))),
             .setR 93 (.r 92),
             .setR 94 (.con .none),
             .setR 95 (.cell (.o 3) 2),
             .setR 96 (.ci .eql (.r 95) (.con (.int (-1)))),
             .setR 97 (.pick (.r 93) (.r 96) (.con (.bool false))),
             .setR 98 (.r 97),
             .setR 99 (.con .none),
             .setR 100 (.cell (.o 4) 3),
             .setR 101 (.pick (.r 98) (.r 100) (.con (.bool false))),
             .setR 102 (.r 101),
             .setR 103 (.con .none),
             .setR 104 (.cell (.o 4) 1),
             .setR 105 (.ci .eql (.r 104) (.con (.int (-1)))),
             .setR 106 (.pick (.r 102) (.r 105) (.con (.bool false))),
             .setR 107 (.r 106),
             .setR 108 (.con .none),
             .setR 109 (.cell (.o 4) 4),
             .setR 110 (.ci .eql (.r 109) (.con (.int 0))),
             .setR 111 (.pick (.r 107) (.r 110) (.con (.bool false))),
             .setR 7 (.r 111)])
           (.seq
            (.is [.setR 112 (.r 6),
              .setR 113 (.r 112),
              .setR 114 (.r 7),
              .setR 115 (.pick (.r 113) (.r 114) (.con (.bool false))),
              .setR 116 (.r 115),
              .setR 117 (.con .none),
              .setR 118 (.cell (.o 5) 0),
              .chk (.imp [(116, true)] (.idx (.r 118) (.con (.int 0)))),
              .setR 119 (.ref (.nth (.r 118) (.con (.int 0)))),
              .setR 120 (.deref (.r 119)),
              .setR 121 (.ci .eql (.r 120) (.con (.int 1))),
              .setR 122 (.pick (.r 116) (.r 121) (.con (.bool false))),
              .setR 123 (.r 122),
              .setR 124 (.con .none),
              .setR 125 (.cell (.o 5) 1),
              .setR 126 (.ci .eql (.r 125) (.con (.int 4))),
              .setR 127 (.pick (.r 123) (.r 126) (.con (.bool false))),
              .setR 128 (.r 127),
              .setR 129 (.con .none),
              .setR 130 (.cell (.o 5) 2),
              .setR 131 (.ci .eql (.r 130) (.con (.int 3))),
              .setR 132 (.pick (.r 128) (.r 131) (.con (.bool false))),
              .setR 133 (.r 132),
              .setR 134 (.mk [(.cell (.o 1) 0), (.cell (.o 1) 1), (.cell (.o 1) 2), (.cell (.o 1) 3), (.cell (.o 1) 4), (.cell (.o 1) 5), (.cell (.o 1) 6), (.cell (.o 1) 7), (.cell (.o 1) 8), (.cell (.o 1) 9), (.cell (.o 1) 10), (.cell (.o 1) 11), (.cell (.o 1) 12), (.cell (.o 1) 13), (.cell (.o 1) 14), (.cell (.o 1) 15), (.cell (.o 1) 16), (.o 73729), (.cell (.o 1) 18)]),
              .call [(133, true)] 135 11 [(.r 134), (.con (.int 2)), (.con (.int 5))],
              .setR 136 (.pick (.r 133) (.r 135) (.con (.bool false))),
              .setR 137 (.r 136),
              .setR 138 (.mk [(.cell (.o 1) 0), (.cell (.o 1) 1), (.cell (.o 1) 2), (.cell (.o 1) 3), (.cell (.o 1) 4), (.cell (.o 1) 5), (.cell (.o 1) 6), (.cell (.o 1) 7), (.cell (.o 1) 8), (.cell (.o 1) 9), (.cell (.o 1) 10), (.cell (.o 1) 11), (.cell (.o 1) 12), (.cell (.o 1) 13), (.cell (.o 1) 14), (.cell (.o 1) 15), (.cell (.o 1) 16), (.o 73729), (.cell (.o 1) 18)]),
              .call [(137, true)] 139 11 [(.r 138), (.con (.int 2)), (.con (.int 4))],
              .setR 140 (.nt (.r 139)),
              .setR 141 (.pick (.r 137) (.r 140) (.con (.bool false))),
              .setR 142 (.r 141),
              .setR 143 (.mk [(.cell (.o 1) 0), (.cell (.o 1) 1), (.cell (.o 1) 2), (.cell (.o 1) 3), (.cell (.o 1) 4), (.cell (.o 1) 5), (.cell (.o 1) 6), (.cell (.o 1) 7), (.cell (.o 1) 8), (.cell (.o 1) 9), (.cell (.o 1) 10), (.cell (.o 1) 11), (.cell (.o 1) 12), (.cell (.o 1) 13), (.cell (.o 1) 14), (.cell (.o 1) 15), (.cell (.o 1) 16), (.o 73729), (.cell (.o 1) 18)]),
              .call [(142, true)] 144 17 [(.r 143), (.con (.int 9))],
              .setR 145 (.llen (.r 144)),
              .setR 146 (.ci .eql (.r 145) (.con (.int 0))),
              .setR 147 (.pick (.r 142) (.r 146) (.con (.bool false))),
              .setR 0 (.r 147)])
            (.ret (.r 0)))))))))))))
def tr9 : PT :=
 (.call ⟨[(0, (.con (.bool false)))], []⟩ [] 8 19 []
 (.call ⟨[(9, (mkA 19 (.setc (.con (.agg [(.int 0), (.int 0), (.int 0), (.int 0), (.int 0), (.int 0), (.int 0), (.int 0), (.int 0), (.int 0), (.int 0), (.int 0), (.int 0), (.int 0), (.int 0), (.list []), (.list []), (.list []), (.list [])])) 0 (.r 8)))), (1, (.con .none))], [(1, (.setc (.con (.agg [(.int 0), (.int 0), (.int 0), (.int 0), (.int 0), (.int 0), (.int 0), (.int 0), (.int 0), (.int 0), (.int 0), (.int 0), (.int 0), (.int 0), (.int 0), (.list []), (.list []), (.list []), (.list [])])) 0 (.r 8))), (1, (.con (.agg [(.int 0), (.int 0), (.int 0), (.int 0), (.int 0), (.int 0), (.int 0), (.int 0), (.int 0), (.int 0), (.int 0), (.int 0), (.int 0), (.int 0), (.int 0), (.list []), (.list []), (.list []), (.list [])])))]⟩ [] 10 14 [(.r 9), (.con (.int 0)), (.con (.int 9))]
 (.call ⟨[(11, (mkA 19 (.o 1))), (2, (.con .none))], [(2, (.setc (.con (.agg [(.list []), (.int 0), (.int 0), (.bool false), (.int 0), (.list [])])) 0 (.r 10))), (2, (.con (.agg [(.list []), (.int 0), (.int 0), (.bool false), (.int 0), (.list [])])))]⟩ [] 12 14 [(.r 11), (.con (.int 1)), (.con (.int 9))]
 (.call ⟨[(13, (mkA 19 (.o 1))), (3, (.con .none))], [(3, (.setc (.con (.agg [(.list []), (.int 0), (.int 0), (.bool false), (.int 0), (.list [])])) 0 (.r 12))), (3, (.con (.agg [(.list []), (.int 0), (.int 0), (.bool false), (.int 0), (.list [])])))]⟩ [] 14 14 [(.r 13), (.con (.int 0)), (.con (.int 2))]
 (.chk (.ci .leq (.llen (.app (.con (.list [])) (.lst [(.mk [(.con (.int 7)), (.con (.int 0)), (.con (.int 0)), (.con (.int 0)), (.con (.int 2)), (.con (.int 0)), (.con (.int 5)), (.con (.int 0)), (.con (.int 0))])]))) (.con (.int 4294967296)))
 (.call ⟨[(21, (.mk [(.cell (.setc (.o 1) 17 (.con .none)) 0), (.cell (.setc (.o 1) 17 (.con .none)) 1), (.cell (.setc (.o 1) 17 (.con .none)) 2), (.cell (.setc (.o 1) 17 (.con .none)) 3), (.cell (.setc (.o 1) 17 (.con .none)) 4), (.cell (.setc (.o 1) 17 (.con .none)) 5), (.cell (.setc (.o 1) 17 (.con .none)) 6), (.cell (.setc (.o 1) 17 (.con .none)) 7), (.cell (.setc (.o 1) 17 (.con .none)) 8), (.cell (.setc (.o 1) 17 (.con .none)) 9), (.cell (.setc (.o 1) 17 (.con .none)) 10), (.cell (.setc (.o 1) 17 (.con .none)) 11), (.cell (.setc (.o 1) 17 (.con .none)) 12), (.cell (.setc (.o 1) 17 (.con .none)) 13), (.cell (.setc (.o 1) 17 (.con .none)) 14), (.cell (.setc (.o 1) 17 (.con .none)) 15), (.cell (.setc (.o 1) 17 (.con .none)) 16), (.app (.con (.list [])) (.lst [(.mk [(.con (.int 7)), (.con (.int 0)), (.con (.int 0)), (.con (.int 0)), (.con (.int 2)), (.con (.int 0)), (.con (.int 5)), (.con (.int 0)), (.con (.int 0))])])), (.cell (.setc (.o 1) 17 (.con .none)) 18)])), (20, (.con .none)), (19, (.con .none)), (18, (.con .none)), (17, (.mk [(.con (.int 7)), (.con (.int 0)), (.con (.int 0)), (.con (.int 0)), (.con (.int 2)), (.con (.int 0)), (.con (.int 5)), (.con (.int 0)), (.con (.int 0))])), (16, (.cell (.o 1) 17)), (15, (.con .none)), (4, (.con .none))], [(73729, (.app (.con (.list [])) (.lst [(.mk [(.con (.int 7)), (.con (.int 0)), (.con (.int 0)), (.con (.int 0)), (.con (.int 2)), (.con (.int 0)), (.con (.int 5)), (.con (.int 0)), (.con (.int 0))])]))), (1, (.setc (.o 1) 17 (.con .none))), (19, (.app (.con (.list [])) (.lst [(.mk [(.con (.int 7)), (.con (.int 0)), (.con (.int 0)), (.con (.int 0)), (.con (.int 2)), (.con (.int 0)), (.con (.int 5)), (.con (.int 0)), (.con (.int 0))])]))), (18, (.lst [(.mk [(.con (.int 7)), (.con (.int 0)), (.con (.int 0)), (.con (.int 0)), (.con (.int 2)), (.con (.int 0)), (.con (.int 5)), (.con (.int 0)), (.con (.int 0))])])), (4, (.setc (.con (.agg [(.list []), (.int 0), (.int 0), (.bool false), (.int 0), (.list [])])) 0 (.r 14))), (4, (.con (.agg [(.list []), (.int 0), (.int 0), (.bool false), (.int 0), (.list [])])))]⟩ [] 22 14 [(.r 21), (.con (.int 0)), (.con (.int 9))]
 (.ite (.pick (.pick (.pick (.ci .neq (.llen (.cell (.o 2) 0)) (.con (.int 3))) (.con (.bool true)) (.ci .neq (.llen (.cell (.o 3) 0)) (.con (.int 0)))) (.con (.bool true)) (.ci .neq (.llen (.cell (.o 4) 0)) (.con (.int 2)))) (.con (.bool true)) (.ci .neq (.llen (.cell (.setc (.con (.agg [(.list []), (.int 0), (.int 0), (.bool false), (.int 0), (.list [])])) 0 (.r 22)) 0)) (.con (.int 1))))
  (.ret (.con (.bool false)))
  (.chk (.idx (.cell (.o 2) 0) (.con (.int 0)))
  (.chk (.nt (.an (.an (.ci .eql (.nth (.cell (.o 2) 0) (.con (.int 0))) (.con (.int 1))) (.con (.bool true))) (.nt (.idx (.cell (.o 2) 0) (.con (.int 1))))))
  (.chk (.nt (.an (.an (.pick (.ci .eql (.nth (.cell (.o 2) 0) (.con (.int 0))) (.con (.int 1))) (.ci .eql (.nth (.cell (.o 2) 0) (.con (.int 1))) (.con (.int 2))) (.con (.bool false))) (.con (.bool true))) (.nt (.idx (.cell (.o 2) 0) (.con (.int 2))))))
  (.chk (.nt (.an (.an (.pick (.pick (.pick (.pick (.pick (.pick (.pick (.pick (.ci .eql (.nth (.cell (.o 2) 0) (.con (.int 0))) (.con (.int 1))) (.ci .eql (.nth (.cell (.o 2) 0) (.con (.int 1))) (.con (.int 2))) (.con (.bool false))) (.ci .eql (.nth (.cell (.o 2) 0) (.con (.int 2))) (.con (.int 3))) (.con (.bool false))) (.ci .eql (.cell (.o 2) 1) (.con (.int 8))) (.con (.bool false))) (.ci .eql (.cell (.o 2) 2) (.con (.int (-1)))) (.con (.bool false))) (.ci .eql (.cell (.o 2) 4) (.con (.int 1))) (.con (.bool false))) (.nt (.cell (.o 2) 3)) (.con (.bool false))) (.ci .eql (.llen (.cell (.o 2) 5)) (.con (.int 0))) (.con (.bool false))) (.pick (.pick (.pick (.pick (.ci .eql (.cell (.o 3) 1) (.con (.int 3))) (.ci .eql (.cell (.o 3) 2) (.con (.int (-1)))) (.con (.bool false))) (.cell (.o 4) 3) (.con (.bool false))) (.ci .eql (.cell (.o 4) 1) (.con (.int (-1)))) (.con (.bool false))) (.ci .eql (.cell (.o 4) 4) (.con (.int 0))) (.con (.bool false))) (.con (.bool false))) (.con (.bool true))) (.nt (.idx (.cell (.setc (.con (.agg [(.list []), (.int 0), (.int 0), (.bool false), (.int 0), (.list [])])) 0 (.r 22)) 0) (.con (.int 0))))))
  (.call ⟨[(134, (.mk [(.cell (.o 1) 0), (.cell (.o 1) 1), (.cell (.o 1) 2), (.cell (.o 1) 3), (.cell (.o 1) 4), (.cell (.o 1) 5), (.cell (.o 1) 6), (.cell (.o 1) 7), (.cell (.o 1) 8), (.cell (.o 1) 9), (.cell (.o 1) 10), (.cell (.o 1) 11), (.cell (.o 1) 12), (.cell (.o 1) 13), (.cell (.o 1) 14), (.cell (.o 1) 15), (.cell (.o 1) 16), (.o 73729), (.cell (.o 1) 18)])), (133, (.pick (.pick (.pick (.pick (.pick (.pick (.pick (.pick (.pick (.pick (.pick (.ci .eql (.nth (.cell (.o 2) 0) (.con (.int 0))) (.con (.int 1))) (.ci .eql (.nth (.cell (.o 2) 0) (.con (.int 1))) (.con (.int 2))) (.con (.bool false))) (.ci .eql (.nth (.cell (.o 2) 0) (.con (.int 2))) (.con (.int 3))) (.con (.bool false))) (.ci .eql (.cell (.o 2) 1) (.con (.int 8))) (.con (.bool false))) (.ci .eql (.cell (.o 2) 2) (.con (.int (-1)))) (.con (.bool false))) (.ci .eql (.cell (.o 2) 4) (.con (.int 1))) (.con (.bool false))) (.nt (.cell (.o 2) 3)) (.con (.bool false))) (.ci .eql (.llen (.cell (.o 2) 5)) (.con (.int 0))) (.con (.bool false))) (.pick (.pick (.pick (.pick (.ci .eql (.cell (.o 3) 1) (.con (.int 3))) (.ci .eql (.cell (.o 3) 2) (.con (.int (-1)))) (.con (.bool false))) (.cell (.o 4) 3) (.con (.bool false))) (.ci .eql (.cell (.o 4) 1) (.con (.int (-1)))) (.con (.bool false))) (.ci .eql (.cell (.o 4) 4) (.con (.int 0))) (.con (.bool false))) (.con (.bool false))) (.ci .eql (.nth (.cell (.setc (.con (.agg [(.list []), (.int 0), (.int 0), (.bool false), (.int 0), (.list [])])) 0 (.r 22)) 0) (.con (.int 0))) (.con (.int 1))) (.con (.bool false))) (.ci .eql (.cell (.setc (.con (.agg [(.list []), (.int 0), (.int 0), (.bool false), (.int 0), (.list [])])) 0 (.r 22)) 1) (.con (.int 4))) (.con (.bool false))) (.ci .eql (.cell (.setc (.con (.agg [(.list []), (.int 0), (.int 0), (.bool false), (.int 0), (.list [])])) 0 (.r 22)) 2) (.con (.int 3))) (.con (.bool false)))), (132, (.pick (.pick (.pick (.pick (.pick (.pick (.pick (.pick (.pick (.pick (.pick (.ci .eql (.nth (.cell (.o 2) 0) (.con (.int 0))) (.con (.int 1))) (.ci .eql (.nth (.cell (.o 2) 0) (.con (.int 1))) (.con (.int 2))) (.con (.bool false))) (.ci .eql (.nth (.cell (.o 2) 0) (.con (.int 2))) (.con (.int 3))) (.con (.bool false))) (.ci .eql (.cell (.o 2) 1) (.con (.int 8))) (.con (.bool false))) (.ci .eql (.cell (.o 2) 2) (.con (.int (-1)))) (.con (.bool false))) (.ci .eql (.cell (.o 2) 4) (.con (.int 1))) (.con (.bool false))) (.nt (.cell (.o 2) 3)) (.con (.bool false))) (.ci .eql (.llen (.cell (.o 2) 5)) (.con (.int 0))) (.con (.bool false))) (.pick (.pick (.pick (.pick (.ci .eql (.cell (.o 3) 1) (.con (.int 3))) (.ci .eql (.cell (.o 3) 2) (.con (.int (-1)))) (.con (.bool false))) (.cell (.o 4) 3) (.con (.bool false))) (.ci .eql (.cell (.o 4) 1) (.con (.int (-1)))) (.con (.bool false))) (.ci .eql (.cell (.o 4) 4) (.con (.int 0))) (.con (.bool false))) (.con (.bool false))) (.ci .eql (.nth (.cell (.setc (.con (.agg [(.list []), (.int 0), (.int 0), (.bool false), (.int 0), (.list [])])) 0 (.r 22)) 0) (.con (.int 0))) (.con (.int 1))) (.con (.bool false))) (.ci .eql (.cell (.setc (.con (.agg [(.list []), (.int 0), (.int 0), (.bool false), (.int 0), (.list [])])) 0 (.r 22)) 1) (.con (.int 4))) (.con (.bool false))) (.ci .eql (.cell (.setc (.con (.agg [(.list []), (.int 0), (.int 0), (.bool false), (.int 0), (.list [])])) 0 (.r 22)) 2) (.con (.int 3))) (.con (.bool false)))), (131, (.ci .eql (.cell (.setc (.con (.agg [(.list []), (.int 0), (.int 0), (.bool false), (.int 0), (.list [])])) 0 (.r 22)) 2) (.con (.int 3)))), (130, (.cell (.setc (.con (.agg [(.list []), (.int 0), (.int 0), (.bool false), (.int 0), (.list [])])) 0 (.r 22)) 2)), (129, (.con .none)), (128, (.pick (.pick (.pick (.pick (.pick (.pick (.pick (.pick (.pick (.pick (.ci .eql (.nth (.cell (.o 2) 0) (.con (.int 0))) (.con (.int 1))) (.ci .eql (.nth (.cell (.o 2) 0) (.con (.int 1))) (.con (.int 2))) (.con (.bool false))) (.ci .eql (.nth (.cell (.o 2) 0) (.con (.int 2))) (.con (.int 3))) (.con (.bool false))) (.ci .eql (.cell (.o 2) 1) (.con (.int 8))) (.con (.bool false))) (.ci .eql (.cell (.o 2) 2) (.con (.int (-1)))) (.con (.bool false))) (.ci .eql (.cell (.o 2) 4) (.con (.int 1))) (.con (.bool false))) (.nt (.cell (.o 2) 3)) (.con (.bool false))) (.ci .eql (.llen (.cell (.o 2) 5)) (.con (.int 0))) (.con (.bool false))) (.pick (.pick (.pick (.pick (.ci .eql (.cell (.o 3) 1) (.con (.int 3))) (.ci .eql (.cell (.o 3) 2) (.con (.int (-1)))) (.con (.bool false))) (.cell (.o 4) 3) (.con (.bool false))) (.ci .eql (.cell (.o 4) 1) (.con (.int (-1)))) (.con (.bool false))) (.ci .eql (.cell (.o 4) 4) (.con (.int 0))) (.con (.bool false))) (.con (.bool false))) (.ci .eql (.nth (.cell (.setc (.con (.agg [(.list []), (.int 0), (.int 0), (.bool false), (.int 0), (.list [])])) 0 (.r 22)) 0) (.con (.int 0))) (.con (.int 1))) (.con (.bool false))) (.ci .eql (.cell (.setc (.con (.agg [(.list []), (.int 0), (.int 0), (.bool false), (.int 0), (.list [])])) 0 (.r 22)) 1) (.con (.int 4))) (.con (.bool false)))), (127, (.pick (.pick (.pick (.pick (.pick (.pick (.pick (.pick (.pick (.pick (.ci .eql (.nth (.cell (.o 2) 0) (.con (.int 0))) (.con (.int 1))) (.ci .eql (.nth (.cell (.o 2) 0) (.con (.int 1))) (.con (.int 2))) (.con (.bool false))) (.ci .eql (.nth (.cell (.o 2) 0) (.con (.int 2))) (.con (.int 3))) (.con (.bool false))) (.ci .eql (.cell (.o 2) 1) (.con (.int 8))) (.con (.bool false))) (.ci .eql (.cell (.o 2) 2) (.con (.int (-1)))) (.con (.bool false))) (.ci .eql (.cell (.o 2) 4) (.con (.int 1))) (.con (.bool false))) (.nt (.cell (.o 2) 3)) (.con (.bool false))) (.ci .eql (.llen (.cell (.o 2) 5)) (.con (.int 0))) (.con (.bool false))) (.pick (.pick (.pick (.pick (.ci .eql (.cell (.o 3) 1) (.con (.int 3))) (.ci .eql (.cell (.o 3) 2) (.con (.int (-1)))) (.con (.bool false))) (.cell (.o 4) 3) (.con (.bool false))) (.ci .eql (.cell (.o 4) 1) (.con (.int (-1)))) (.con (.bool false))) (.ci .eql (.cell (.o 4) 4) (.con (.int 0))) (.con (.bool false))) (.con (.bool false))) (.ci .eql (.nth (.cell (.setc (.con (.agg [(.list []), (.int 0), (.int 0), (.bool false), (.int 0), (.list [])])) 0 (.r 22)) 0) (.con (.int 0))) (.con (.int 1))) (.con (.bool false))) (.ci .eql (.cell (.setc (.con (.agg [(.list []), (.int 0), (.int 0), (.bool false), (.int 0), (.list [])])) 0 (.r 22)) 1) (.con (.int 4))) (.con (.bool false)))), (126, (.ci .eql (.cell (.setc (.con (.agg [(.list []), (.int 0), (.int 0), (.bool false), (.int 0), (.list [])])) 0 (.r 22)) 1) (.con (.int 4)))), (125, (.cell (.setc (.con (.agg [(.list []), (.int 0), (.int 0), (.bool false), (.int 0), (.list [])])) 0 (.r 22)) 1)), (124, (.con .none)), (123, (.pick (.pick (.pick (.pick (.pick (.pick (.pick (.pick (.pick (.ci .eql (.nth (.cell (.o 2) 0) (.con (.int 0))) (.con (.int 1))) (.ci .eql (.nth (.cell (.o 2) 0) (.con (.int 1))) (.con (.int 2))) (.con (.bool false))) (.ci .eql (.nth (.cell (.o 2) 0) (.con (.int 2))) (.con (.int 3))) (.con (.bool false))) (.ci .eql (.cell (.o 2) 1) (.con (.int 8))) (.con (.bool false))) (.ci .eql (.cell (.o 2) 2) (.con (.int (-1)))) (.con (.bool false))) (.ci .eql (.cell (.o 2) 4) (.con (.int 1))) (.con (.bool false))) (.nt (.cell (.o 2) 3)) (.con (.bool false))) (.ci .eql (.llen (.cell (.o 2) 5)) (.con (.int 0))) (.con (.bool false))) (.pick (.pick (.pick (.pick (.ci .eql (.cell (.o 3) 1) (.con (.int 3))) (.ci .eql (.cell (.o 3) 2) (.con (.int (-1)))) (.con (.bool false))) (.cell (.o 4) 3) (.con (.bool false))) (.ci .eql (.cell (.o 4) 1) (.con (.int (-1)))) (.con (.bool false))) (.ci .eql (.cell (.o 4) 4) (.con (.int 0))) (.con (.bool false))) (.con (.bool false))) (.ci .eql (.nth (.cell (.setc (.con (.agg [(.list []), (.int 0), (.int 0), (.bool false), (.int 0), (.list [])])) 0 (.r 22)) 0) (.con (.int 0))) (.con (.int 1))) (.con (.bool false)))), (122, (.pick (.pick (.pick (.pick (.pick (.pick (.pick (.pick (.pick (.ci .eql (.nth (.cell (.o 2) 0) (.con (.int 0))) (.con (.int 1))) (.ci .eql (.nth (.cell (.o 2) 0) (.con (.int 1))) (.con (.int 2))) (.con (.bool false))) (.ci .eql (.nth (.cell (.o 2) 0) (.con (.int 2))) (.con (.int 3))) (.con (.bool false))) (.ci .eql (.cell (.o 2) 1) (.con (.int 8))) (.con (.bool false))) (.ci .eql (.cell (.o 2) 2) (.con (.int (-1)))) (.con (.bool false))) (.ci .eql (.cell (.o 2) 4) (.con (.int 1))) (.con (.bool false))) (.nt (.cell (.o 2) 3)) (.con (.bool false))) (.ci .eql (.llen (.cell (.o 2) 5)) (.con (.int 0))) (.con (.bool false))) (.pick (.pick (.pick (.pick (.ci .eql (.cell (.o 3) 1) (.con (.int 3))) (.ci .eql (.cell (.o 3) 2) (.con (.int (-1)))) (.con (.bool false))) (.cell (.o 4) 3) (.con (.bool false))) (.ci .eql (.cell (.o 4) 1) (.con (.int (-1)))) (.con (.bool false))) (.ci .eql (.cell (.o 4) 4) (.con (.int 0))) (.con (.bool false))) (.con (.bool false))) (.ci .eql (.nth (.cell (.setc (.con (.agg [(.list []), (.int 0), (.int 0), (.bool false), (.int 0), (.list [])])) 0 (.r 22)) 0) (.con (.int 0))) (.con (.int 1))) (.con (.bool false)))), (121, (.ci .eql (.nth (.cell (.setc (.con (.agg [(.list []), (.int 0), (.int 0), (.bool false), (.int 0), (.list [])])) 0 (.r 22)) 0) (.con (.int 0))) (.con (.int 1)))), (120, (.nth (.cell (.setc (.con (.agg [(.list []), (.int 0), (.int 0), (.bool false), (.int 0), (.list [])])) 0 (.r 22)) 0) (.con (.int 0)))), (119, (.ref (.nth (.cell (.setc (.con (.agg [(.list []), (.int 0), (.int 0), (.bool false), (.int 0), (.list [])])) 0 (.r 22)) 0) (.con (.int 0))))), (118, (.cell (.setc (.con (.agg [(.list []), (.int 0), (.int 0), (.bool false), (.int 0), (.list [])])) 0 (.r 22)) 0)), (117, (.con .none)), (116, (.pick (.pick (.pick (.pick (.pick (.pick (.pick (.pick (.ci .eql (.nth (.cell (.o 2) 0) (.con (.int 0))) (.con (.int 1))) (.ci .eql (.nth (.cell (.o 2) 0) (.con (.int 1))) (.con (.int 2))) (.con (.bool false))) (.ci .eql (.nth (.cell (.o 2) 0) (.con (.int 2))) (.con (.int 3))) (.con (.bool false))) (.ci .eql (.cell (.o 2) 1) (.con (.int 8))) (.con (.bool false))) (.ci .eql (.cell (.o 2) 2) (.con (.int (-1)))) (.con (.bool false))) (.ci .eql (.cell (.o 2) 4) (.con (.int 1))) (.con (.bool false))) (.nt (.cell (.o 2) 3)) (.con (.bool false))) (.ci .eql (.llen (.cell (.o 2) 5)) (.con (.int 0))) (.con (.bool false))) (.pick (.pick (.pick (.pick (.ci .eql (.cell (.o 3) 1) (.con (.int 3))) (.ci .eql (.cell (.o 3) 2) (.con (.int (-1)))) (.con (.bool false))) (.cell (.o 4) 3) (.con (.bool false))) (.ci .eql (.cell (.o 4) 1) (.con (.int (-1)))) (.con (.bool false))) (.ci .eql (.cell (.o 4) 4) (.con (.int 0))) (.con (.bool false))) (.con (.bool false)))), (115, (.pick (.pick (.pick (.pick (.pick (.pick (.pick (.pick (.ci .eql (.nth (.cell (.o 2) 0) (.con (.int 0))) (.con (.int 1))) (.ci .eql (.nth (.cell (.o 2) 0) (.con (.int 1))) (.con (.int 2))) (.con (.bool false))) (.ci .eql (.nth (.cell (.o 2) 0) (.con (.int 2))) (.con (.int 3))) (.con (.bool false))) (.ci .eql (.cell (.o 2) 1) (.con (.int 8))) (.con (.bool false))) (.ci .eql (.cell (.o 2) 2) (.con (.int (-1)))) (.con (.bool false))) (.ci .eql (.cell (.o 2) 4) (.con (.int 1))) (.con (.bool false))) (.nt (.cell (.o 2) 3)) (.con (.bool false))) (.ci .eql (.llen (.cell (.o 2) 5)) (.con (.int 0))) (.con (.bool false))) (.pick (.pick (.pick (.pick (.ci .eql (.cell (.o 3) 1) (.con (.int 3))) (.ci .eql (.cell (.o 3) 2) (.con (.int (-1)))) (.con (.bool false))) (.cell (.o 4) 3) (.con (.bool false))) (.ci .eql (.cell (.o 4) 1) (.con (.int (-1)))) (.con (.bool false))) (.ci .eql (.cell (.o 4) 4) (.con (.int 0))) (.con (.bool false))) (.con (.bool false)))), (114, (.pick (.pick (.pick (.pick (.ci .eql (.cell (.o 3) 1) (.con (.int 3))) (.ci .eql (.cell (.o 3) 2) (.con (.int (-1)))) (.con (.bool false))) (.cell (.o 4) 3) (.con (.bool false))) (.ci .eql (.cell (.o 4) 1) (.con (.int (-1)))) (.con (.bool false))) (.ci .eql (.cell (.o 4) 4) (.con (.int 0))) (.con (.bool false)))), (113, (.pick (.pick (.pick (.pick (.pick (.pick (.pick (.ci .eql (.nth (.cell (.o 2) 0) (.con (.int 0))) (.con (.int 1))) (.ci .eql (.nth (.cell (.o 2) 0) (.con (.int 1))) (.con (.int 2))) (.con (.bool false))) (.ci .eql (.nth (.cell (.o 2) 0) (.con (.int 2))) (.con (.int 3))) (.con (.bool false))) (.ci .eql (.cell (.o 2) 1) (.con (.int 8))) (.con (.bool false))) (.ci .eql (.cell (.o 2) 2) (.con (.int (-1)))) (.con (.bool false))) (.ci .eql (.cell (.o 2) 4) (.con (.int 1))) (.con (.bool false))) (.nt (.cell (.o 2) 3)) (.con (.bool false))) (.ci .eql (.llen (.cell (.o 2) 5)) (.con (.int 0))) (.con (.bool false)))), (112, (.pick (.pick (.pick (.pick (.pick (.pick (.pick (.ci .eql (.nth (.cell (.o 2) 0) (.con (.int 0))) (.con (.int 1))) (.ci .eql (.nth (.cell (.o 2) 0) (.con (.int 1))) (.con (.int 2))) (.con (.bool false))) (.ci .eql (.nth (.cell (.o 2) 0) (.con (.int 2))) (.con (.int 3))) (.con (.bool false))) (.ci .eql (.cell (.o 2) 1) (.con (.int 8))) (.con (.bool false))) (.ci .eql (.cell (.o 2) 2) (.con (.int (-1)))) (.con (.bool false))) (.ci .eql (.cell (.o 2) 4) (.con (.int 1))) (.con (.bool false))) (.nt (.cell (.o 2) 3)) (.con (.bool false))) (.ci .eql (.llen (.cell (.o 2) 5)) (.con (.int 0))) (.con (.bool false)))), (7, (.pick (.pick (.pick (.pick (.ci .eql (.cell (.o 3) 1) (.con (.int 3))) (.ci .eql (.cell (.o 3) 2) (.con (.int (-1)))) (.con (.bool false))) (.cell (.o 4) 3) (.con (.bool false))) (.ci .eql (.cell (.o 4) 1) (.con (.int (-1)))) (.con (.bool false))) (.ci .eql (.cell (.o 4) 4) (.con (.int 0))) (.con (.bool false)))), (111, (.pick (.pick (.pick (.pick (.ci .eql (.cell (.o 3) 1) (.con (.int 3))) (.ci .eql (.cell (.o 3) 2) (.con (.int (-1)))) (.con (.bool false))) (.cell (.o 4) 3) (.con (.bool false))) (.ci .eql (.cell (.o 4) 1) (.con (.int (-1)))) (.con (.bool false))) (.ci .eql (.cell (.o 4) 4) (.con (.int 0))) (.con (.bool false)))), (110, (.ci .eql (.cell (.o 4) 4) (.con (.int 0)))), (109, (.cell (.o 4) 4)), (108, (.con .none)), (107, (.pick (.pick (.pick (.ci .eql (.cell (.o 3) 1) (.con (.int 3))) (.ci .eql (.cell (.o 3) 2) (.con (.int (-1)))) (.con (.bool false))) (.cell (.o 4) 3) (.con (.bool false))) (.ci .eql (.cell (.o 4) 1) (.con (.int (-1)))) (.con (.bool false)))), (106, (.pick (.pick (.pick (.ci .eql (.cell (.o 3) 1) (.con (.int 3))) (.ci .eql (.cell (.o 3) 2) (.con (.int (-1)))) (.con (.bool false))) (.cell (.o 4) 3) (.con (.bool false))) (.ci .eql (.cell (.o 4) 1) (.con (.int (-1)))) (.con (.bool false)))), (105, (.ci .eql (.cell (.o 4) 1) (.con (.int (-1))))), (104, (.cell (.o 4) 1)), (103, (.con .none)), (102, (.pick (.pick (.ci .eql (.cell (.o 3) 1) (.con (.int 3))) (.ci .eql (.cell (.o 3) 2) (.con (.int (-1)))) (.con (.bool false))) (.cell (.o 4) 3) (.con (.bool false)))), (101, (.pick (.pick (.ci .eql (.cell (.o 3) 1) (.con (.int 3))) (.ci .eql (.cell (.o 3) 2) (.con (.int (-1)))) (.con (.bool false))) (.cell (.o 4) 3) (.con (.bool false)))), (100, (.cell (.o 4) 3)), (99, (.con .none)), (98, (.pick (.ci .eql (.cell (.o 3) 1) (.con (.int 3))) (.ci .eql (.cell (.o 3) 2) (.con (.int (-1)))) (.con (.bool false)))), (97, (.pick (.ci .eql (.cell (.o 3) 1) (.con (.int 3))) (.ci .eql (.cell (.o 3) 2) (.con (.int (-1)))) (.con (.bool false)))), (96, (.ci .eql (.cell (.o 3) 2) (.con (.int (-1))))), (95, (.cell (.o 3) 2)), (94, (.con .none)), (93, (.ci .eql (.cell (.o 3) 1) (.con (.int 3)))), (92, (.ci .eql (.cell (.o 3) 1) (.con (.int 3)))), (91, (.cell (.o 3) 1)), (90, (.con .none)), (6, (.pick (.pick (.pick (.pick (.pick (.pick (.pick (.ci .eql (.nth (.cell (.o 2) 0) (.con (.int 0))) (.con (.int 1))) (.ci .eql (.nth (.cell (.o 2) 0) (.con (.int 1))) (.con (.int 2))) (.con (.bool false))) (.ci .eql (.nth (.cell (.o 2) 0) (.con (.int 2))) (.con (.int 3))) (.con (.bool false))) (.ci .eql (.cell (.o 2) 1) (.con (.int 8))) (.con (.bool false))) (.ci .eql (.cell (.o 2) 2) (.con (.int (-1)))) (.con (.bool false))) (.ci .eql (.cell (.o 2) 4) (.con (.int 1))) (.con (.bool false))) (.nt (.cell (.o 2) 3)) (.con (.bool false))) (.ci .eql (.llen (.cell (.o 2) 5)) (.con (.int 0))) (.con (.bool false)))), (89, (.pick (.pick (.pick (.pick (.pick (.pick (.pick (.ci .eql (.nth (.cell (.o 2) 0) (.con (.int 0))) (.con (.int 1))) (.ci .eql (.nth (.cell (.o 2) 0) (.con (.int 1))) (.con (.int 2))) (.con (.bool false))) (.ci .eql (.nth (.cell (.o 2) 0) (.con (.int 2))) (.con (.int 3))) (.con (.bool false))) (.ci .eql (.cell (.o 2) 1) (.con (.int 8))) (.con (.bool false))) (.ci .eql (.cell (.o 2) 2) (.con (.int (-1)))) (.con (.bool false))) (.ci .eql (.cell (.o 2) 4) (.con (.int 1))) (.con (.bool false))) (.nt (.cell (.o 2) 3)) (.con (.bool false))) (.ci .eql (.llen (.cell (.o 2) 5)) (.con (.int 0))) (.con (.bool false)))), (88, (.ci .eql (.llen (.cell (.o 2) 5)) (.con (.int 0)))), (87, (.llen (.cell (.o 2) 5))), (86, (.cell (.o 2) 5)), (85, (.con .none)), (84, (.pick (.pick (.pick (.pick (.pick (.pick (.ci .eql (.nth (.cell (.o 2) 0) (.con (.int 0))) (.con (.int 1))) (.ci .eql (.nth (.cell (.o 2) 0) (.con (.int 1))) (.con (.int 2))) (.con (.bool false))) (.ci .eql (.nth (.cell (.o 2) 0) (.con (.int 2))) (.con (.int 3))) (.con (.bool false))) (.ci .eql (.cell (.o 2) 1) (.con (.int 8))) (.con (.bool false))) (.ci .eql (.cell (.o 2) 2) (.con (.int (-1)))) (.con (.bool false))) (.ci .eql (.cell (.o 2) 4) (.con (.int 1))) (.con (.bool false))) (.nt (.cell (.o 2) 3)) (.con (.bool false)))), (83, (.pick (.pick (.pick (.pick (.pick (.pick (.ci .eql (.nth (.cell (.o 2) 0) (.con (.int 0))) (.con (.int 1))) (.ci .eql (.nth (.cell (.o 2) 0) (.con (.int 1))) (.con (.int 2))) (.con (.bool false))) (.ci .eql (.nth (.cell (.o 2) 0) (.con (.int 2))) (.con (.int 3))) (.con (.bool false))) (.ci .eql (.cell (.o 2) 1) (.con (.int 8))) (.con (.bool false))) (.ci .eql (.cell (.o 2) 2) (.con (.int (-1)))) (.con (.bool false))) (.ci .eql (.cell (.o 2) 4) (.con (.int 1))) (.con (.bool false))) (.nt (.cell (.o 2) 3)) (.con (.bool false)))), (82, (.nt (.cell (.o 2) 3))), (81, (.cell (.o 2) 3)), (80, (.con .none)), (79, (.pick (.pick (.pick (.pick (.pick (.ci .eql (.nth (.cell (.o 2) 0) (.con (.int 0))) (.con (.int 1))) (.ci .eql (.nth (.cell (.o 2) 0) (.con (.int 1))) (.con (.int 2))) (.con (.bool false))) (.ci .eql (.nth (.cell (.o 2) 0) (.con (.int 2))) (.con (.int 3))) (.con (.bool false))) (.ci .eql (.cell (.o 2) 1) (.con (.int 8))) (.con (.bool false))) (.ci .eql (.cell (.o 2) 2) (.con (.int (-1)))) (.con (.bool false))) (.ci .eql (.cell (.o 2) 4) (.con (.int 1))) (.con (.bool false)))), (78, (.pick (.pick (.pick (.pick (.pick (.ci .eql (.nth (.cell (.o 2) 0) (.con (.int 0))) (.con (.int 1))) (.ci .eql (.nth (.cell (.o 2) 0) (.con (.int 1))) (.con (.int 2))) (.con (.bool false))) (.ci .eql (.nth (.cell (.o 2) 0) (.con (.int 2))) (.con (.int 3))) (.con (.bool false))) (.ci .eql (.cell (.o 2) 1) (.con (.int 8))) (.con (.bool false))) (.ci .eql (.cell (.o 2) 2) (.con (.int (-1)))) (.con (.bool false))) (.ci .eql (.cell (.o 2) 4) (.con (.int 1))) (.con (.bool false)))), (77, (.ci .eql (.cell (.o 2) 4) (.con (.int 1)))), (76, (.cell (.o 2) 4)), (75, (.con .none)), (74, (.pick (.pick (.pick (.pick (.ci .eql (.nth (.cell (.o 2) 0) (.con (.int 0))) (.con (.int 1))) (.ci .eql (.nth (.cell (.o 2) 0) (.con (.int 1))) (.con (.int 2))) (.con (.bool false))) (.ci .eql (.nth (.cell (.o 2) 0) (.con (.int 2))) (.con (.int 3))) (.con (.bool false))) (.ci .eql (.cell (.o 2) 1) (.con (.int 8))) (.con (.bool false))) (.ci .eql (.cell (.o 2) 2) (.con (.int (-1)))) (.con (.bool false)))), (73, (.pick (.pick (.pick (.pick (.ci .eql (.nth (.cell (.o 2) 0) (.con (.int 0))) (.con (.int 1))) (.ci .eql (.nth (.cell (.o 2) 0) (.con (.int 1))) (.con (.int 2))) (.con (.bool false))) (.ci .eql (.nth (.cell (.o 2) 0) (.con (.int 2))) (.con (.int 3))) (.con (.bool false))) (.ci .eql (.cell (.o 2) 1) (.con (.int 8))) (.con (.bool false))) (.ci .eql (.cell (.o 2) 2) (.con (.int (-1)))) (.con (.bool false)))), (72, (.ci .eql (.cell (.o 2) 2) (.con (.int (-1))))), (71, (.cell (.o 2) 2)), (70, (.con .none)), (69, (.pick (.pick (.pick (.ci .eql (.nth (.cell (.o 2) 0) (.con (.int 0))) (.con (.int 1))) (.ci .eql (.nth (.cell (.o 2) 0) (.con (.int 1))) (.con (.int 2))) (.con (.bool false))) (.ci .eql (.nth (.cell (.o 2) 0) (.con (.int 2))) (.con (.int 3))) (.con (.bool false))) (.ci .eql (.cell (.o 2) 1) (.con (.int 8))) (.con (.bool false)))), (68, (.pick (.pick (.pick (.ci .eql (.nth (.cell (.o 2) 0) (.con (.int 0))) (.con (.int 1))) (.ci .eql (.nth (.cell (.o 2) 0) (.con (.int 1))) (.con (.int 2))) (.con (.bool false))) (.ci .eql (.nth (.cell (.o 2) 0) (.con (.int 2))) (.con (.int 3))) (.con (.bool false))) (.ci .eql (.cell (.o 2) 1) (.con (.int 8))) (.con (.bool false)))), (67, (.ci .eql (.cell (.o 2) 1) (.con (.int 8)))), (66, (.cell (.o 2) 1)), (65, (.con .none)), (64, (.pick (.pick (.ci .eql (.nth (.cell (.o 2) 0) (.con (.int 0))) (.con (.int 1))) (.ci .eql (.nth (.cell (.o 2) 0) (.con (.int 1))) (.con (.int 2))) (.con (.bool false))) (.ci .eql (.nth (.cell (.o 2) 0) (.con (.int 2))) (.con (.int 3))) (.con (.bool false)))), (63, (.pick (.pick (.ci .eql (.nth (.cell (.o 2) 0) (.con (.int 0))) (.con (.int 1))) (.ci .eql (.nth (.cell (.o 2) 0) (.con (.int 1))) (.con (.int 2))) (.con (.bool false))) (.ci .eql (.nth (.cell (.o 2) 0) (.con (.int 2))) (.con (.int 3))) (.con (.bool false)))), (62, (.ci .eql (.nth (.cell (.o 2) 0) (.con (.int 2))) (.con (.int 3)))), (61, (.nth (.cell (.o 2) 0) (.con (.int 2)))), (60, (.ref (.nth (.cell (.o 2) 0) (.con (.int 2))))), (59, (.cell (.o 2) 0)), (58, (.con .none)), (57, (.pick (.ci .eql (.nth (.cell (.o 2) 0) (.con (.int 0))) (.con (.int 1))) (.ci .eql (.nth (.cell (.o 2) 0) (.con (.int 1))) (.con (.int 2))) (.con (.bool false)))), (56, (.pick (.ci .eql (.nth (.cell (.o 2) 0) (.con (.int 0))) (.con (.int 1))) (.ci .eql (.nth (.cell (.o 2) 0) (.con (.int 1))) (.con (.int 2))) (.con (.bool false)))), (55, (.ci .eql (.nth (.cell (.o 2) 0) (.con (.int 1))) (.con (.int 2)))), (54, (.nth (.cell (.o 2) 0) (.con (.int 1)))), (53, (.ref (.nth (.cell (.o 2) 0) (.con (.int 1))))), (52, (.cell (.o 2) 0)), (51, (.con .none)), (50, (.ci .eql (.nth (.cell (.o 2) 0) (.con (.int 0))) (.con (.int 1)))), (49, (.ci .eql (.nth (.cell (.o 2) 0) (.con (.int 0))) (.con (.int 1)))), (48, (.nth (.cell (.o 2) 0) (.con (.int 0)))), (47, (.ref (.nth (.cell (.o 2) 0) (.con (.int 0))))), (46, (.cell (.o 2) 0)), (45, (.con .none)), (0, (.r 0)), (44, (.pick (.pick (.pick (.ci .neq (.llen (.cell (.o 2) 0)) (.con (.int 3))) (.con (.bool true)) (.ci .neq (.llen (.cell (.o 3) 0)) (.con (.int 0)))) (.con (.bool true)) (.ci .neq (.llen (.cell (.o 4) 0)) (.con (.int 2)))) (.con (.bool true)) (.ci .neq (.llen (.cell (.setc (.con (.agg [(.list []), (.int 0), (.int 0), (.bool false), (.int 0), (.list [])])) 0 (.r 22)) 0)) (.con (.int 1))))), (43, (.ci .neq (.llen (.cell (.setc (.con (.agg [(.list []), (.int 0), (.int 0), (.bool false), (.int 0), (.list [])])) 0 (.r 22)) 0)) (.con (.int 1)))), (42, (.llen (.cell (.setc (.con (.agg [(.list []), (.int 0), (.int 0), (.bool false), (.int 0), (.list [])])) 0 (.r 22)) 0))), (41, (.cell (.setc (.con (.agg [(.list []), (.int 0), (.int 0), (.bool false), (.int 0), (.list [])])) 0 (.r 22)) 0)), (40, (.con .none)), (39, (.pick (.pick (.ci .neq (.llen (.cell (.o 2) 0)) (.con (.int 3))) (.con (.bool true)) (.ci .neq (.llen (.cell (.o 3) 0)) (.con (.int 0)))) (.con (.bool true)) (.ci .neq (.llen (.cell (.o 4) 0)) (.con (.int 2))))), (38, (.pick (.pick (.ci .neq (.llen (.cell (.o 2) 0)) (.con (.int 3))) (.con (.bool true)) (.ci .neq (.llen (.cell (.o 3) 0)) (.con (.int 0)))) (.con (.bool true)) (.ci .neq (.llen (.cell (.o 4) 0)) (.con (.int 2))))), (37, (.ci .neq (.llen (.cell (.o 4) 0)) (.con (.int 2)))), (36, (.llen (.cell (.o 4) 0))), (35, (.cell (.o 4) 0)), (34, (.con .none)), (33, (.pick (.ci .neq (.llen (.cell (.o 2) 0)) (.con (.int 3))) (.con (.bool true)) (.ci .neq (.llen (.cell (.o 3) 0)) (.con (.int 0))))), (32, (.pick (.ci .neq (.llen (.cell (.o 2) 0)) (.con (.int 3))) (.con (.bool true)) (.ci .neq (.llen (.cell (.o 3) 0)) (.con (.int 0))))), (31, (.ci .neq (.llen (.cell (.o 3) 0)) (.con (.int 0)))), (30, (.llen (.cell (.o 3) 0))), (29, (.cell (.o 3) 0)), (28, (.con .none)), (27, (.ci .neq (.llen (.cell (.o 2) 0)) (.con (.int 3)))), (26, (.ci .neq (.llen (.cell (.o 2) 0)) (.con (.int 3)))), (25, (.llen (.cell (.o 2) 0))), (24, (.cell (.o 2) 0)), (23, (.con .none)), (5, (.con .none))], [(5, (.setc (.con (.agg [(.list []), (.int 0), (.int 0), (.bool false), (.int 0), (.list [])])) 0 (.r 22))), (5, (.con (.agg [(.list []), (.int 0), (.int 0), (.bool false), (.int 0), (.list [])])))]⟩ [(133, true)] 135 11 [(.r 134), (.con (.int 2)), (.con (.int 5))]
  (.call ⟨[(138, (.mk [(.cell (.o 1) 0), (.cell (.o 1) 1), (.cell (.o 1) 2), (.cell (.o 1) 3), (.cell (.o 1) 4), (.cell (.o 1) 5), (.cell (.o 1) 6), (.cell (.o 1) 7), (.cell (.o 1) 8), (.cell (.o 1) 9), (.cell (.o 1) 10), (.cell (.o 1) 11), (.cell (.o 1) 12), (.cell (.o 1) 13), (.cell (.o 1) 14), (.cell (.o 1) 15), (.cell (.o 1) 16), (.o 73729), (.cell (.o 1) 18)])), (137, (.pick (.r 133) (.r 135) (.con (.bool false)))), (136, (.pick (.r 133) (.r 135) (.con (.bool false))))], []⟩ [(137, true)] 139 11 [(.r 138), (.con (.int 2)), (.con (.int 4))]
  (.call ⟨[(143, (.mk [(.cell (.o 1) 0), (.cell (.o 1) 1), (.cell (.o 1) 2), (.cell (.o 1) 3), (.cell (.o 1) 4), (.cell (.o 1) 5), (.cell (.o 1) 6), (.cell (.o 1) 7), (.cell (.o 1) 8), (.cell (.o 1) 9), (.cell (.o 1) 10), (.cell (.o 1) 11), (.cell (.o 1) 12), (.cell (.o 1) 13), (.cell (.o 1) 14), (.cell (.o 1) 15), (.cell (.o 1) 16), (.o 73729), (.cell (.o 1) 18)])), (142, (.pick (.r 137) (.nt (.r 139)) (.con (.bool false)))), (141, (.pick (.r 137) (.nt (.r 139)) (.con (.bool false)))), (140, (.nt (.r 139)))], []⟩ [(142, true)] 144 17 [(.r 143), (.con (.int 9))]
  (.ret (.pick (.r 142) (.ci .eql (.llen (.r 144)) (.con (.int 0))) (.con (.bool false))))))))))))))))))
theorem tr9_eq : tree pc9 = tr9 := by kernel_rfl
/-! allonge/allongelaw13.example -/
def pc19 : PC :=
 (.seq
  (.is [.setO 0 (.con (.agg [(.int 0), (.int 0), (.int 0), (.int 0), (.int 0), (.int 0), (.int 0), (.int 0), (.int 0), (.int 0), (.int 0), (.int 0), (.int 0), (.int 0), (.int 0), (.list []), (.list []), (.list []), (.list [])])),
    .setR 0 (.con .none)])
  (.seq
   (.is [.setR 2 (.mk [(.con (.int 0)), (.con (.int 0)), (.con (.int 3)), (.con (.int 0)), (.con (.int 0)), (.con (.agg [(.int 0), (.int 0), (.int 0)])), (.con (.int 0)), (.con (.int 0)), (.con (.int 0)), (.con (.int 0)), (.con (.int 0)), (.con (.int 0)), (.con (.int 2))]),
     .setR 3 (.mk [(.r 2), (.con (.list [])), (.con (.list [])), (.con (.list [])), (.con (.list []))]),
     .setO 1 (.con (.agg [(.int 0), (.int 0), (.int 0), (.int 0), (.int 0), (.int 0), (.int 0), (.int 0), (.int 0), (.int 0), (.int 0), (.int 0), (.int 0), (.int 0), (.int 0), (.list []), (.list []), (.list []), (.list [])])),
     .setR 1 (.con .none),
     .setO 1 (.setc (.o 1) 0 (.r 3))])
   (.seq
    (.is [.setR 4 (.con .none),
      .setR 5 (.cell (.o 1) 15),
      .setR 6 (.mk [(.con (.int 0)), (.con (.int 0)), (.con (.int 0)), (.con (.int (-1))), (.con (.int (-1))), (.con (.int 0)), (.con (.int 0)), (.con (.int 0)), (.con (.int 0))]),
      .setO 7 (.lst [(.r 6)]),
      .setR 7 (.con .none),
      .chk (.ci .leq (.llen (.app (.con (.list [])) (.o 7))) (.con (.int 4294967296))),
      .setO 8 (.app (.con (.list [])) (.o 7)),
      .setR 8 (.con .none),
      .setR 9 (.con .none),
      .setO 1 (.setc (.o 1) 15 (.con .none)),
      .setO 65537 (.o 8)])
    (.seq
     (.is [.setR 10 (.con .none),
       .setR 11 (.con .none),
       .setR 12 (.mk [(.con (.int 2)), (.con (.int 0)), (.con (.int 3)), (.con (.int (-1))), (.con (.int 4)), (.con (.int 0)), (.con (.int 1)), (.con (.int 0)), (.con (.int 0))]),
       .setO 13 (.lst [(.r 12)]),
       .setR 13 (.con .none),
       .chk (.ci .leq (.llen (.app (.o 65537) (.o 13))) (.con (.int 4294967296))),
       .setO 65537 (.app (.o 65537) (.o 13)),
       .setR 14 (.con .none),
       .setR 15 (.con .none),
       .setO 1 (.setc (.o 1) 15 (.con .none))])
     (.seq
      (.is [.setR 16 (.con .none),
        .setR 17 (.con .none),
        .setR 18 (.mk [(.con (.int 2)), (.con (.int 0)), (.con (.int 4)), (.con (.int (-1))), (.con (.int (-1))), (.con (.int 0)), (.con (.int 2)), (.con (.int 0)), (.con (.int 0))]),
        .setO 19 (.lst [(.r 18)]),
        .setR 19 (.con .none),
        .chk (.ci .leq (.llen (.app (.o 65537) (.o 19))) (.con (.int 4294967296))),
        .setO 65537 (.app (.o 65537) (.o 19)),
        .setR 20 (.con .none),
        .setR 21 (.con .none),
        .setO 1 (.setc (.o 1) 15 (.con .none))])
      (.seq
       (.is [.setR 22 (.con .none),
         .setR 23 (.con .none),
         .setR 24 (.mk [(.con (.int 2)), (.con (.int 0)), (.con (.int 7)), (.con (.int (-1))), (.con (.int 8)), (.con (.int 0)), (.con (.int 3)), (.con (.int 0)), (.con (.int 2))]),
         .setO 25 (.lst [(.r 24)]),
         .setR 25 (.con .none),
         .chk (.ci .leq (.llen (.app (.o 65537) (.o 25))) (.con (.int 4294967296))),
         .setO 65537 (.app (.o 65537) (.o 25)),
         .setR 26 (.con .none),
         .setR 27 (.con .none),
         .setO 1 (.setc (.o 1) 15 (.con .none))])
       (.seq
        (.is [.setR 28 (.mk [(.cell (.o 1) 0), (.cell (.o 1) 1), (.cell (.o 1) 2), (.cell (.o 1) 3), (.cell (.o 1) 4), (.cell (.o 1) 5), (.cell (.o 1) 6), (.cell (.o 1) 7), (.cell (.o 1) 8), (.cell (.o 1) 9), (.cell (.o 1) 10), (.cell (.o 1) 11), (.cell (.o 1) 12), (.cell (.o 1) 13), (.cell (.o 1) 14), (.o 65537), (.cell (.o 1) 16), (.cell (.o 1) 17), (.cell (.o 1) 18)]),
          .setO 0 (.setc (.o 0) 0 (.r 28))])
        (.ret (mkA 19 (.o 0))))))))))
/-! allonge/title.Chain -/
def bd14_0 : PC :=
 (.seq
  (.seq
   (.is [.setR 10 (.r 30)])
   (.is [.setO 11 (.con (.agg [(.int 0), (.int 0), (.int 0), (.int 0), (.int 0), (.int 0), (.int 0), (.int 0), (.int 0)])),
     .setR 11 (.con .none),
     .setO 11 (.setc (.o 11) 0 (.r 31))]))
  (.block 1 [32, 33, 34, 35, 41, 44, 46, 47, 48, 49, 50, 51, 52, 53, 54, 55, 56, 57, 58, 59, 60, 61, 62, 63, 64, 69] [47, 4103, 24583, 7]
   (.seq
    (.seq
     (.is [.setR 32 (.con .none),
       .setR 33 (.cell (.o 7) 3),
       .setR 34 (.nt (.r 33)),
       .setR 35 (.r 34),
       .setR 36 (.con .none),
       .setR 37 (.cell (.o 11) 2),
       .setR 38 (.con .none),
       .setR 39 (.cell (.o 7) 1),
       .setR 40 (.ci .neq (.r 37) (.r 39)),
       .setR 41 (.pick (.r 35) (.r 40) (.con (.bool false)))])
     (.ite (.r 41) [] [7]
      (.seq
       (.is [.setR 42 (.r 10),
         .setR 43 (.con .none),
         .setO 7 (.setc (.o 7) 2 (.r 42))])
       (.exit 0))
      .skip))
    (.seq
     (.is [.setR 44 (.con .none),
       .setR 45 (.con .none),
       .setR 46 (.r 10),
       .setO 47 (.lst [(.r 46)]),
       .setR 47 (.con .none),
       .chk (.ci .leq (.llen (.app (.o 4103) (.o 47))) (.con (.int 4294967296))),
       .setO 4103 (.app (.o 4103) (.o 47)),
       .setR 48 (.con .none),
       .setR 49 (.con .none),
       .setO 7 (.setc (.o 7) 0 (.con .none))])
     (.seq
      (.is [.setR 50 (.con .none),
        .setR 51 (.cell (.o 11) 4),
        .setR 52 (.con .none),
        .setR 53 (.cell (.o 11) 4),
        .setR 54 (.ci .eql (.r 53) (.con (.int (-1)))),
        .setR 55 (.con .none),
        .setR 56 (.cell (.o 7) 4),
        .setR 57 (.con .none),
        .setR 58 (.cell (.o 11) 8),
        .call [] 59 23 [(.r 56), (.r 58)],
        .setR 60 (.con .none),
        .setO 7 (.setc (.o 7) 1 (.r 51)),
        .setR 61 (.con .none),
        .setO 7 (.setc (.o 7) 3 (.r 54)),
        .setR 62 (.con .none),
        .setO 7 (.setc (.o 7) 4 (.r 59))])
      (.seq
       (.is [.setR 63 (.cell (.o 9) 0),
         .setR 64 (.r 63),
         .setR 65 (.con .none),
         .setR 66 (.cell (.o 11) 6),
         .setR 67 (.cell (.o 8) 0),
         .setR 68 (.ci .gtr (.r 66) (.r 67)),
         .setR 69 (.pick (.r 64) (.r 68) (.con (.bool false)))])
       (.ite (.r 69) [] [24583, 7]
        (.is [.setR 70 (.con .none),
          .setR 71 (.con .none),
          .setR 72 (.r 10),
          .setO 73 (.lst [(.r 72)]),
          .setR 73 (.con .none),
          .chk (.ci .leq (.llen (.app (.o 24583) (.o 73))) (.con (.int 4294967296))),
          .setO 24583 (.app (.o 24583) (.o 73)),
          .setR 74 (.con .none),
          .setR 75 (.con .none),
          .setO 7 (.setc (.o 7) 5 (.con .none))])
        .skip)))))))
def ea14_0 : PC := .each (.r 77) [30, 31] [11, 4103, 24583, 7] none bd14_0
def rd14_0 : PT :=
 (.blockS ⟨[(11, (.con .none)), (10, (.r 30))], [(11, (.setc (.con (.agg [(.int 0), (.int 0), (.int 0), (.int 0), (.int 0), (.int 0), (.int 0), (.int 0), (.int 0)])) 0 (.r 31))), (11, (.con (.agg [(.int 0), (.int 0), (.int 0), (.int 0), (.int 0), (.int 0), (.int 0), (.int 0), (.int 0)])))]⟩ 1 [32, 33, 34, 35, 41, 44, 46, 47, 48, 49, 50, 51, 52, 53, 54, 55, 56, 57, 58, 59, 60, 61, 62, 63, 64, 69] [47, 4103, 24583, 7]
  (.ite (.pick (.nt (.cell (.o 7) 3)) (.ci .neq (.cell (.o 11) 2) (.cell (.o 7) 1)) (.con (.bool false)))
   (.exit 0 ⟨[(43, (.con .none)), (42, (.r 10)), (41, (.pick (.nt (.cell (.o 7) 3)) (.ci .neq (.cell (.o 11) 2) (.cell (.o 7) 1)) (.con (.bool false)))), (40, (.ci .neq (.cell (.o 11) 2) (.cell (.o 7) 1))), (39, (.cell (.o 7) 1)), (38, (.con .none)), (37, (.cell (.o 11) 2)), (36, (.con .none)), (35, (.nt (.cell (.o 7) 3))), (34, (.nt (.cell (.o 7) 3))), (33, (.cell (.o 7) 3)), (32, (.con .none))], [(7, (.setc (.o 7) 2 (.r 10)))]⟩)
   (.chk (.ci .leq (.llen (.app (.o 4103) (.lst [(.r 10)]))) (.con (.int 4294967296)))
   (.call ⟨[(58, (.cell (.o 11) 8)), (57, (.con .none)), (56, (.cell (.setc (.o 7) 0 (.con .none)) 4)), (55, (.con .none)), (54, (.ci .eql (.cell (.o 11) 4) (.con (.int (-1))))), (53, (.cell (.o 11) 4)), (52, (.con .none)), (51, (.cell (.o 11) 4)), (50, (.con .none)), (49, (.con .none)), (48, (.con .none)), (47, (.con .none)), (46, (.r 10)), (45, (.con .none)), (44, (.con .none)), (41, (.pick (.nt (.cell (.o 7) 3)) (.ci .neq (.cell (.o 11) 2) (.cell (.o 7) 1)) (.con (.bool false)))), (40, (.ci .neq (.cell (.o 11) 2) (.cell (.o 7) 1))), (39, (.cell (.o 7) 1)), (38, (.con .none)), (37, (.cell (.o 11) 2)), (36, (.con .none)), (35, (.nt (.cell (.o 7) 3))), (34, (.nt (.cell (.o 7) 3))), (33, (.cell (.o 7) 3)), (32, (.con .none))], [(7, (.setc (.o 7) 0 (.con .none))), (4103, (.app (.o 4103) (.lst [(.r 10)]))), (47, (.lst [(.r 10)])), (7, (.o 7))]⟩ [] 59 23 [(.r 56), (.r 58)]
   (.ite (.pick (.cell (.o 9) 0) (.ci .gtr (.cell (.o 11) 6) (.cell (.o 8) 0)) (.con (.bool false)))
    (.chk (.ci .leq (.llen (.app (.o 24583) (.lst [(.r 10)]))) (.con (.int 4294967296)))
    (.next ⟨[(69, (.pick (.cell (.o 9) 0) (.ci .gtr (.cell (.o 11) 6) (.cell (.o 8) 0)) (.con (.bool false)))), (68, (.ci .gtr (.cell (.o 11) 6) (.cell (.o 8) 0))), (67, (.cell (.o 8) 0)), (66, (.cell (.o 11) 6)), (65, (.con .none)), (64, (.cell (.o 9) 0)), (63, (.cell (.o 9) 0)), (62, (.con .none)), (61, (.con .none)), (60, (.con .none))], [(24583, (.app (.o 24583) (.lst [(.r 10)]))), (7, (.setc (.setc (.setc (.setc (.o 7) 1 (.r 51)) 3 (.r 54)) 4 (.r 59)) 5 (.con .none))), (7, (.setc (.setc (.setc (.o 7) 1 (.r 51)) 3 (.r 54)) 4 (.r 59))), (7, (.setc (.setc (.o 7) 1 (.r 51)) 3 (.r 54))), (7, (.setc (.o 7) 1 (.r 51)))]⟩))
    (.next ⟨[(69, (.pick (.cell (.o 9) 0) (.ci .gtr (.cell (.o 11) 6) (.cell (.o 8) 0)) (.con (.bool false)))), (68, (.ci .gtr (.cell (.o 11) 6) (.cell (.o 8) 0))), (67, (.cell (.o 8) 0)), (66, (.cell (.o 11) 6)), (65, (.con .none)), (64, (.cell (.o 9) 0)), (63, (.cell (.o 9) 0)), (62, (.con .none)), (61, (.con .none)), (60, (.con .none))], [(24583, (.o 24583)), (7, (.setc (.setc (.setc (.o 7) 1 (.r 51)) 3 (.r 54)) 4 (.r 59))), (7, (.setc (.setc (.setc (.o 7) 1 (.r 51)) 3 (.r 54)) 4 (.r 59))), (7, (.setc (.setc (.o 7) 1 (.r 51)) 3 (.r 54))), (7, (.setc (.o 7) 1 (.r 51)))]⟩)))))
 (.next ⟨[], [(11, (.o 11)), (4103, (.o 4103)), (24583, (.o 24583)), (7, (.o 7))]⟩))
theorem rd14_0_eq : roundE [11, 4103, 24583, 7] bd14_0 = rd14_0 := by kernel_rfl
def pc14 : PC :=
 (.seq
  (.is [.setO 3 (.mk [(.r 0)]),
    .setR 3 (.con .none),
    .setO 6 (.con (.agg [(.list []), (.int 0), (.int 0), (.bool false), (.int 0), (.list [])])),
    .setR 6 (.con .none),
    .setO 4102 (.con (.list [])),
    .setO 24582 (.con (.list []))])
  (.seq
   (.is [.setR 12 (.con .none),
     .setR 13 (.con .none),
     .setR 14 (.cell (.o 3) 2),
     .setR 15 (.con .none),
     .setR 16 (.con .none),
     .setR 17 (.cell (.o 3) 2),
     .setR 18 (.ci .eql (.r 17) (.con (.int (-1)))),
     .setR 19 (.mk [(.con (.list [])), (.r 14), (.con (.int (-1))), (.r 18), (.con (.int 0)), (.con (.list []))]),
     .setO 7 (.con (.agg [(.list []), (.int 0), (.int 0), (.bool false), (.int 0), (.list [])])),
     .setR 7 (.con .none),
     .setO 4103 (.con (.list [])),
     .setO 24583 (.con (.list [])),
     .setO 7 (.setc (.o 7) 0 (.r 19)),
     .setO 4103 (.con (.list [])),
     .setO 24583 (.con (.list []))])
   (.seq
    (.is [.setR 21 (mkA 19 (.o 3)),
      .setR 22 (.r 2),
      .call [] 23 21 [(.r 21), (.r 22)],
      .setR 20 (.r 23),
      .setR 24 (.tget (.r 20) 0),
      .setR 25 (.tget (.r 20) 1),
      .setO 8 (.con (.agg [(.int 0)])),
      .setR 8 (.con .none),
      .setO 9 (.con (.agg [(.bool false)])),
      .setR 9 (.con .none),
      .setO 8 (.setc (.o 8) 0 (.r 24)),
      .setO 9 (.setc (.o 9) 0 (.r 25))])
    (.seq
     (.seq
      (.is [.setR 26 (mkA 19 (.o 3)),
        .setR 27 (.r 1),
        .setR 28 (.r 2),
        .call [] 29 22 [(.r 26), (.r 27), (.r 28)]])
      (.block 0 [] [4103, 24583, 7]
       (.seq
        (.is [.callc [] 77 (.r 29) []])
        ea14_0)))
     (.seq
      (.is [.setR 76 (.mk [(.o 4103), (.cell (.o 7) 1), (.cell (.o 7) 2), (.cell (.o 7) 3), (.cell (.o 7) 4), (.o 24583)]),
        .setO 6 (.setc (.o 6) 0 (.r 76))])
      (.ret (mkA 6 (.o 6))))))))
def tr14 : PT :=
 (.call ⟨[(22, (.r 2)), (21, (mkA 19 (.mk [(.r 0)]))), (7, (.con .none)), (19, (.mk [(.con (.list [])), (.cell (.mk [(.r 0)]) 2), (.con (.int (-1))), (.ci .eql (.cell (.mk [(.r 0)]) 2) (.con (.int (-1)))), (.con (.int 0)), (.con (.list []))])), (18, (.ci .eql (.cell (.mk [(.r 0)]) 2) (.con (.int (-1))))), (17, (.cell (.mk [(.r 0)]) 2)), (16, (.con .none)), (15, (.con .none)), (14, (.cell (.mk [(.r 0)]) 2)), (13, (.con .none)), (12, (.con .none)), (6, (.con .none)), (3, (.con .none))], [(24583, (.con (.list []))), (4103, (.con (.list []))), (7, (.setc (.con (.agg [(.list []), (.int 0), (.int 0), (.bool false), (.int 0), (.list [])])) 0 (.mk [(.con (.list [])), (.cell (.mk [(.r 0)]) 2), (.con (.int (-1))), (.ci .eql (.cell (.mk [(.r 0)]) 2) (.con (.int (-1)))), (.con (.int 0)), (.con (.list []))]))), (24583, (.con (.list []))), (4103, (.con (.list []))), (7, (.con (.agg [(.list []), (.int 0), (.int 0), (.bool false), (.int 0), (.list [])]))), (24582, (.con (.list []))), (4102, (.con (.list []))), (6, (.con (.agg [(.list []), (.int 0), (.int 0), (.bool false), (.int 0), (.list [])]))), (3, (.mk [(.r 0)]))]⟩ [] 23 21 [(.r 21), (.r 22)]
 (.call ⟨[(28, (.r 2)), (27, (.r 1)), (26, (mkA 19 (.o 3))), (9, (.con .none)), (8, (.con .none)), (25, (.tget (.r 23) 1)), (24, (.tget (.r 23) 0)), (20, (.r 23))], [(9, (.setc (.con (.agg [(.bool false)])) 0 (.tget (.r 23) 1))), (8, (.setc (.con (.agg [(.int 0)])) 0 (.tget (.r 23) 0))), (9, (.con (.agg [(.bool false)]))), (8, (.con (.agg [(.int 0)])))]⟩ [] 29 22 [(.r 26), (.r 27), (.r 28)]
 (.blockS ⟨[], []⟩ 0 [] [4103, 24583, 7]
  (.callc ⟨[], []⟩ [] 77 (.r 29) []
  (.brk ⟨[], []⟩
   ea14_0
  (.next ⟨[], []⟩)))
 (.ret (mkA 6 (.setc (.o 6) 0 (.mk [(.o 4103), (.cell (.o 7) 1), (.cell (.o 7) 2), (.cell (.o 7) 3), (.cell (.o 7) 4), (.o 24583)])))))))
theorem tr14_eq : tree pc14 = tr14 := by kernel_rfl
/-! allonge/title.dishonoured -/
def bd21_0 : PC :=
 (.seq
  (.is [.setR 14 (.ci .lss (.r 13) (.r 12))])
  (.seq
   (.ite (.r 14) [] []
    .skip
    (.exit 0))
   (.seq
    (.block 1 [6, 7, 9, 15, 16, 17, 18, 19, 20, 24, 25, 29, 30, 35] [9]
     (.seq
      (.is [.chk (.idx (.r 11) (.r 13)),
        .setR 15 (.ref (.nth (.r 11) (.r 13))),
        .setR 16 (.deref (.r 15)),
        .setO 9 (.con (.agg [(.int 0), (.int 0), (.int 0), (.int 0), (.int 0), (.int 0), (.int 0), (.int 0), (.int 0)])),
        .setR 9 (.con .none),
        .setO 9 (.setc (.o 9) 0 (.r 16))])
      (.seq
       (.seq
        (.is [.setR 17 (.con .none),
          .setR 18 (.cell (.o 9) 0),
          .setR 19 (.ci .neq (.r 18) (.con (.int 1))),
          .setR 20 (.r 19),
          .setR 21 (.con .none),
          .setR 22 (.cell (.o 9) 0),
          .setR 23 (.ci .neq (.r 22) (.con (.int 3))),
          .setR 24 (.pick (.r 20) (.r 23) (.con (.bool false))),
          .setR 25 (.r 24),
          .setR 26 (.con .none),
          .setR 27 (.cell (.o 9) 0),
          .setR 28 (.ci .neq (.r 27) (.con (.int 4))),
          .setR 29 (.pick (.r 25) (.r 28) (.con (.bool false))),
          .setR 30 (.r 29),
          .setR 31 (.con .none),
          .setR 32 (.cell (.o 9) 6),
          .setR 33 (.r 1),
          .setR 34 (.ci .gtr (.r 32) (.r 33)),
          .setR 35 (.pick (.r 30) (.con (.bool true)) (.r 34))])
        (.ite (.r 35) [] []
         (.exit 1)
         .skip))
       (.seq
        (.is [.setR 36 (.r 7),
          .setR 37 (.nt (.r 36)),
          .setR 38 (.r 37),
          .setR 39 (.con .none),
          .setR 40 (.cell (.o 9) 6),
          .setR 41 (.r 6),
          .setR 42 (.ci .lss (.r 40) (.r 41)),
          .setR 43 (.pick (.r 38) (.con (.bool true)) (.r 42))])
        (.ite (.r 43) [6, 7] []
         (.is [.setR 44 (.con .none),
           .setR 45 (.cell (.o 9) 6),
           .setR 6 (.r 45),
           .setR 7 (.con (.bool true))])
         .skip)))))
    (.is [.setR 46 (.ai .add .i64 (.r 13) (.con (.int 1))),
      .setR 13 (.r 46)]))))
def lp21_0 : PC := .block 0 [6, 7, 13, 14] [] (.loop [6, 7, 13] [] bd21_0)
def rd21_0 : PT :=
 (.ite (.ci .lss (.r 13) (.r 12))
  (.chk (.idx (.r 11) (.r 13))
  (.ite (.pick (.pick (.pick (.ci .neq (.cell (.setc (.con (.agg [(.int 0), (.int 0), (.int 0), (.int 0), (.int 0), (.int 0), (.int 0), (.int 0), (.int 0)])) 0 (.nth (.r 11) (.r 13))) 0) (.con (.int 1))) (.ci .neq (.cell (.setc (.con (.agg [(.int 0), (.int 0), (.int 0), (.int 0), (.int 0), (.int 0), (.int 0), (.int 0), (.int 0)])) 0 (.nth (.r 11) (.r 13))) 0) (.con (.int 3))) (.con (.bool false))) (.ci .neq (.cell (.setc (.con (.agg [(.int 0), (.int 0), (.int 0), (.int 0), (.int 0), (.int 0), (.int 0), (.int 0), (.int 0)])) 0 (.nth (.r 11) (.r 13))) 0) (.con (.int 4))) (.con (.bool false))) (.con (.bool true)) (.ci .gtr (.cell (.setc (.con (.agg [(.int 0), (.int 0), (.int 0), (.int 0), (.int 0), (.int 0), (.int 0), (.int 0), (.int 0)])) 0 (.nth (.r 11) (.r 13))) 6) (.r 1)))
   (.next ⟨[(6, (.r 6)), (7, (.r 7)), (13, (.ai .add .i64 (.r 13) (.con (.int 1))))], []⟩)
   (.next ⟨[(6, (.pick (.pick (.nt (.r 7)) (.con (.bool true)) (.ci .lss (.cell (.setc (.con (.agg [(.int 0), (.int 0), (.int 0), (.int 0), (.int 0), (.int 0), (.int 0), (.int 0), (.int 0)])) 0 (.nth (.r 11) (.r 13))) 6) (.r 6))) (.cell (.setc (.con (.agg [(.int 0), (.int 0), (.int 0), (.int 0), (.int 0), (.int 0), (.int 0), (.int 0), (.int 0)])) 0 (.nth (.r 11) (.r 13))) 6) (.r 6))), (7, (.pick (.pick (.nt (.r 7)) (.con (.bool true)) (.ci .lss (.cell (.setc (.con (.agg [(.int 0), (.int 0), (.int 0), (.int 0), (.int 0), (.int 0), (.int 0), (.int 0), (.int 0)])) 0 (.nth (.r 11) (.r 13))) 6) (.r 6))) (.con (.bool true)) (.r 7))), (13, (.ai .add .i64 (.r 13) (.con (.int 1))))], []⟩)))
  (.exit 0 ⟨[(6, (.r 6)), (7, (.r 7)), (13, (.r 13)), (14, (.ci .lss (.r 13) (.r 12)))], []⟩))
theorem rd21_0_eq : round 0 [6, 7, 13, 14] [] [6, 7, 13] [] bd21_0 = rd21_0 := by kernel_rfl
def pc21 : PC :=
 (.seq
  (.is [.setO 2 (.mk [(.r 0)]),
    .setR 2 (.con .none),
    .setR 4 (.con (.int 0)),
    .setR 5 (.con (.bool false))])
  (.seq
   (.is [.setR 6 (.con (.int 0)),
     .setR 7 (.con (.bool false))])
   (.seq
    (.seq
     (.is [.setR 10 (.con .none),
       .setR 11 (.cell (.o 2) 17),
       .setR 12 (.llen (.r 11)),
       .setR 13 (.con (.int 0))])
     lp21_0)
    (.seq
     (.is [.setR 47 (.r 6),
       .setR 48 (.r 7),
       .setR 4 (.r 47),
       .setR 5 (.r 48)])
     (.ret (.tup [(.r 4), (.r 5)]))))))
def tr21 : PT :=
 (.brk ⟨[(13, (.con (.int 0))), (12, (.llen (.cell (.mk [(.r 0)]) 17))), (11, (.cell (.mk [(.r 0)]) 17)), (10, (.con .none)), (7, (.con (.bool false))), (6, (.con (.int 0))), (5, (.con (.bool false))), (4, (.con (.int 0))), (2, (.con .none))], [(2, (.mk [(.r 0)]))]⟩
  lp21_0
 (.ret (.tup [(.r 6), (.r 7)])))
theorem tr21_eq : tree pc21 = tr21 := by kernel_rfl
/-! allonge/title.endorsements -/
def pc22 : PC :=
 (.seq
  (.is [.setO 3 (.mk [(.r 0)]),
    .setR 3 (.con .none),
    .setO 4 (.mk [(.r 1)]),
    .setR 4 (.con .none),
    .setO 5 (.mk [(.r 2)]),
    .setR 5 (.con .none),
    .setR 6 (.con (.v .nilFunc))])
  (.seq
   (.is [.setO 3 (mkA 19 (.o 3)),
     .setO 5 (.cell (.o 5) 0),
     .setO 4 (.cell (.o 4) 0),
     .setR 7 (.clo 27 [(.ref (.o 3)), (.ref (.o 5)), (.ref (.o 4))]),
     .setR 6 (.r 7)])
   (.ret (.r 6))))
def tr22 : PT :=
 (.ret (.clo 27 [(.ref (mkA 19 (.mk [(.r 0)]))), (.ref (.cell (.mk [(.r 2)]) 0)), (.ref (.cell (.mk [(.r 1)]) 0))]))
theorem tr22_eq : tree pc22 = tr22 := by kernel_rfl
/-! allonge/title.endorsements$1 -/
def bd27_0 : PC :=
 (.seq
  (.is [.setR 15 (.ci .lss (.r 14) (.r 13))])
  (.seq
   (.ite (.r 15) [] []
    .skip
    (.exit 0))
   (.seq
    (.block 1 [6, 7, 16, 17, 18, 19, 20, 21, 22, 27, 28, 33, 34, 39, 40, 46] [7, 1000]
     (.seq
      (.is [.setR 16 (.r 14),
        .chk (.idx (.r 12) (.r 14)),
        .setR 17 (.ref (.nth (.r 12) (.r 14))),
        .setR 18 (.deref (.r 17)),
        .setO 7 (.con (.agg [(.int 0), (.int 0), (.int 0), (.int 0), (.int 0), (.int 0), (.int 0), (.int 0), (.int 0)])),
        .setR 7 (.con .none),
        .setR 6 (.r 16),
        .setO 7 (.setc (.o 7) 0 (.r 18))])
      (.seq
       (.is [.setR 19 (.con .none),
         .setR 20 (.cell (.o 7) 0),
         .setR 21 (.ci .eql (.r 20) (.con (.int 2))),
         .setR 22 (.r 21),
         .setR 23 (.con .none),
         .setR 24 (.cell (.o 7) 1),
         .setR 25 (.deref (.r 3)),
         .setR 26 (.ci .eql (.r 24) (.r 25)),
         .setR 27 (.pick (.r 22) (.r 26) (.con (.bool false))),
         .setR 28 (.r 27),
         .setR 29 (.con .none),
         .setR 30 (.cell (.o 7) 6),
         .setR 31 (.deref (.r 2)),
         .setR 32 (.ci .leq (.r 30) (.r 31)),
         .setR 33 (.pick (.r 28) (.r 32) (.con (.bool false))),
         .setR 34 (.r 33),
         .setR 35 (.r 5),
         .setR 36 (.r 6),
         .setR 37 (.look (.r 35) (.r 36) (.con (.bool false))),
         .setR 38 (.nt (.r 37)),
         .setR 39 (.pick (.r 34) (.r 38) (.con (.bool false))),
         .setR 40 (.r 39),
         .setR 41 (.r 0),
         .setR 42 (.r 6),
         .setR 43 (mkA 9 (.o 7)),
         .setO 1000 (.pick (.nt (.imp [(40, true)] (.con (.bool false)))) (.app (.o 1000) (.lst [(.tup [(.r 42), (.r 43)])])) (.o 1000)),
         .call [(40, true)] 44 1000000009 [(.o 1000)],
         .setR 45 (.nt (.r 44)),
         .setR 46 (.pick (.r 40) (.r 45) (.con (.bool false)))])
       (.ite (.r 46) [] []
        (.ret (.o 1000))
        .skip))))
    (.is [.setR 47 (.ai .add .i64 (.r 14) (.con (.int 1))),
      .setR 14 (.r 47)]))))
def lp27_0 : PC := .block 0 [14, 15] [1000] (.loop [14] [1000] bd27_0)
def rd27_0 : PT :=
 (.ite (.ci .lss (.r 14) (.r 13))
  (.blockS ⟨[(15, (.ci .lss (.r 14) (.r 13)))], []⟩ 1 [6, 7, 16, 17, 18, 19, 20, 21, 22, 27, 28, 33, 34, 39, 40, 46] [7, 1000]
   (.chk (.idx (.r 12) (.r 14))
   (.call ⟨[(43, (mkA 9 (.setc (.con (.agg [(.int 0), (.int 0), (.int 0), (.int 0), (.int 0), (.int 0), (.int 0), (.int 0), (.int 0)])) 0 (.nth (.r 12) (.r 14))))), (42, (.r 14)), (41, (.r 0)), (40, (.pick (.pick (.pick (.ci .eql (.cell (.setc (.con (.agg [(.int 0), (.int 0), (.int 0), (.int 0), (.int 0), (.int 0), (.int 0), (.int 0), (.int 0)])) 0 (.nth (.r 12) (.r 14))) 0) (.con (.int 2))) (.ci .eql (.cell (.setc (.con (.agg [(.int 0), (.int 0), (.int 0), (.int 0), (.int 0), (.int 0), (.int 0), (.int 0), (.int 0)])) 0 (.nth (.r 12) (.r 14))) 1) (.deref (.r 3))) (.con (.bool false))) (.ci .leq (.cell (.setc (.con (.agg [(.int 0), (.int 0), (.int 0), (.int 0), (.int 0), (.int 0), (.int 0), (.int 0), (.int 0)])) 0 (.nth (.r 12) (.r 14))) 6) (.deref (.r 2))) (.con (.bool false))) (.nt (.look (.r 5) (.r 14) (.con (.bool false)))) (.con (.bool false)))), (39, (.pick (.pick (.pick (.ci .eql (.cell (.setc (.con (.agg [(.int 0), (.int 0), (.int 0), (.int 0), (.int 0), (.int 0), (.int 0), (.int 0), (.int 0)])) 0 (.nth (.r 12) (.r 14))) 0) (.con (.int 2))) (.ci .eql (.cell (.setc (.con (.agg [(.int 0), (.int 0), (.int 0), (.int 0), (.int 0), (.int 0), (.int 0), (.int 0), (.int 0)])) 0 (.nth (.r 12) (.r 14))) 1) (.deref (.r 3))) (.con (.bool false))) (.ci .leq (.cell (.setc (.con (.agg [(.int 0), (.int 0), (.int 0), (.int 0), (.int 0), (.int 0), (.int 0), (.int 0), (.int 0)])) 0 (.nth (.r 12) (.r 14))) 6) (.deref (.r 2))) (.con (.bool false))) (.nt (.look (.r 5) (.r 14) (.con (.bool false)))) (.con (.bool false)))), (38, (.nt (.look (.r 5) (.r 14) (.con (.bool false))))), (37, (.look (.r 5) (.r 14) (.con (.bool false)))), (36, (.r 14)), (35, (.r 5)), (34, (.pick (.pick (.ci .eql (.cell (.setc (.con (.agg [(.int 0), (.int 0), (.int 0), (.int 0), (.int 0), (.int 0), (.int 0), (.int 0), (.int 0)])) 0 (.nth (.r 12) (.r 14))) 0) (.con (.int 2))) (.ci .eql (.cell (.setc (.con (.agg [(.int 0), (.int 0), (.int 0), (.int 0), (.int 0), (.int 0), (.int 0), (.int 0), (.int 0)])) 0 (.nth (.r 12) (.r 14))) 1) (.deref (.r 3))) (.con (.bool false))) (.ci .leq (.cell (.setc (.con (.agg [(.int 0), (.int 0), (.int 0), (.int 0), (.int 0), (.int 0), (.int 0), (.int 0), (.int 0)])) 0 (.nth (.r 12) (.r 14))) 6) (.deref (.r 2))) (.con (.bool false)))), (33, (.pick (.pick (.ci .eql (.cell (.setc (.con (.agg [(.int 0), (.int 0), (.int 0), (.int 0), (.int 0), (.int 0), (.int 0), (.int 0), (.int 0)])) 0 (.nth (.r 12) (.r 14))) 0) (.con (.int 2))) (.ci .eql (.cell (.setc (.con (.agg [(.int 0), (.int 0), (.int 0), (.int 0), (.int 0), (.int 0), (.int 0), (.int 0), (.int 0)])) 0 (.nth (.r 12) (.r 14))) 1) (.deref (.r 3))) (.con (.bool false))) (.ci .leq (.cell (.setc (.con (.agg [(.int 0), (.int 0), (.int 0), (.int 0), (.int 0), (.int 0), (.int 0), (.int 0), (.int 0)])) 0 (.nth (.r 12) (.r 14))) 6) (.deref (.r 2))) (.con (.bool false)))), (32, (.ci .leq (.cell (.setc (.con (.agg [(.int 0), (.int 0), (.int 0), (.int 0), (.int 0), (.int 0), (.int 0), (.int 0), (.int 0)])) 0 (.nth (.r 12) (.r 14))) 6) (.deref (.r 2)))), (31, (.deref (.r 2))), (30, (.cell (.setc (.con (.agg [(.int 0), (.int 0), (.int 0), (.int 0), (.int 0), (.int 0), (.int 0), (.int 0), (.int 0)])) 0 (.nth (.r 12) (.r 14))) 6)), (29, (.con .none)), (28, (.pick (.ci .eql (.cell (.setc (.con (.agg [(.int 0), (.int 0), (.int 0), (.int 0), (.int 0), (.int 0), (.int 0), (.int 0), (.int 0)])) 0 (.nth (.r 12) (.r 14))) 0) (.con (.int 2))) (.ci .eql (.cell (.setc (.con (.agg [(.int 0), (.int 0), (.int 0), (.int 0), (.int 0), (.int 0), (.int 0), (.int 0), (.int 0)])) 0 (.nth (.r 12) (.r 14))) 1) (.deref (.r 3))) (.con (.bool false)))), (27, (.pick (.ci .eql (.cell (.setc (.con (.agg [(.int 0), (.int 0), (.int 0), (.int 0), (.int 0), (.int 0), (.int 0), (.int 0), (.int 0)])) 0 (.nth (.r 12) (.r 14))) 0) (.con (.int 2))) (.ci .eql (.cell (.setc (.con (.agg [(.int 0), (.int 0), (.int 0), (.int 0), (.int 0), (.int 0), (.int 0), (.int 0), (.int 0)])) 0 (.nth (.r 12) (.r 14))) 1) (.deref (.r 3))) (.con (.bool false)))), (26, (.ci .eql (.cell (.setc (.con (.agg [(.int 0), (.int 0), (.int 0), (.int 0), (.int 0), (.int 0), (.int 0), (.int 0), (.int 0)])) 0 (.nth (.r 12) (.r 14))) 1) (.deref (.r 3)))), (25, (.deref (.r 3))), (24, (.cell (.setc (.con (.agg [(.int 0), (.int 0), (.int 0), (.int 0), (.int 0), (.int 0), (.int 0), (.int 0), (.int 0)])) 0 (.nth (.r 12) (.r 14))) 1)), (23, (.con .none)), (22, (.ci .eql (.cell (.setc (.con (.agg [(.int 0), (.int 0), (.int 0), (.int 0), (.int 0), (.int 0), (.int 0), (.int 0), (.int 0)])) 0 (.nth (.r 12) (.r 14))) 0) (.con (.int 2)))), (21, (.ci .eql (.cell (.setc (.con (.agg [(.int 0), (.int 0), (.int 0), (.int 0), (.int 0), (.int 0), (.int 0), (.int 0), (.int 0)])) 0 (.nth (.r 12) (.r 14))) 0) (.con (.int 2)))), (20, (.cell (.setc (.con (.agg [(.int 0), (.int 0), (.int 0), (.int 0), (.int 0), (.int 0), (.int 0), (.int 0), (.int 0)])) 0 (.nth (.r 12) (.r 14))) 0)), (19, (.con .none)), (6, (.r 14)), (7, (.con .none)), (18, (.nth (.r 12) (.r 14))), (17, (.ref (.nth (.r 12) (.r 14)))), (16, (.r 14))], [(1000, (.pick (.nt (.nt (.an (.an (.pick (.pick (.pick (.ci .eql (.cell (.setc (.con (.agg [(.int 0), (.int 0), (.int 0), (.int 0), (.int 0), (.int 0), (.int 0), (.int 0), (.int 0)])) 0 (.nth (.r 12) (.r 14))) 0) (.con (.int 2))) (.ci .eql (.cell (.setc (.con (.agg [(.int 0), (.int 0), (.int 0), (.int 0), (.int 0), (.int 0), (.int 0), (.int 0), (.int 0)])) 0 (.nth (.r 12) (.r 14))) 1) (.deref (.r 3))) (.con (.bool false))) (.ci .leq (.cell (.setc (.con (.agg [(.int 0), (.int 0), (.int 0), (.int 0), (.int 0), (.int 0), (.int 0), (.int 0), (.int 0)])) 0 (.nth (.r 12) (.r 14))) 6) (.deref (.r 2))) (.con (.bool false))) (.nt (.look (.r 5) (.r 14) (.con (.bool false)))) (.con (.bool false))) (.con (.bool true))) (.nt (.con (.bool false)))))) (.app (.o 1000) (.lst [(.tup [(.r 14), (mkA 9 (.setc (.con (.agg [(.int 0), (.int 0), (.int 0), (.int 0), (.int 0), (.int 0), (.int 0), (.int 0), (.int 0)])) 0 (.nth (.r 12) (.r 14))))])])) (.o 1000))), (7, (.setc (.con (.agg [(.int 0), (.int 0), (.int 0), (.int 0), (.int 0), (.int 0), (.int 0), (.int 0), (.int 0)])) 0 (.nth (.r 12) (.r 14)))), (7, (.con (.agg [(.int 0), (.int 0), (.int 0), (.int 0), (.int 0), (.int 0), (.int 0), (.int 0), (.int 0)])))]⟩ [(40, true)] 44 1000000009 [(.o 1000)]
   (.ite (.pick (.r 40) (.nt (.r 44)) (.con (.bool false)))
    (.ret (.o 1000))
    (.next ⟨[(46, (.pick (.r 40) (.nt (.r 44)) (.con (.bool false)))), (45, (.nt (.r 44)))], []⟩))))
  (.next ⟨[(14, (.ai .add .i64 (.r 14) (.con (.int 1))))], [(1000, (.o 1000))]⟩))
  (.exit 0 ⟨[(14, (.r 14)), (15, (.ci .lss (.r 14) (.r 13)))], [(1000, (.o 1000))]⟩))
theorem rd27_0_eq : round 0 [14, 15] [1000] [14] [1000] bd27_0 = rd27_0 := by kernel_rfl
def pc27 : PC :=
 (.seq
  (.seq
   (.is [.setR 8 (.deref (.r 1)),
     .setR 9 (.deref (.r 2)),
     .call [] 10 20 [(.r 8), (.r 9)],
     .setR 5 (.r 10)])
   (.seq
    (.is [.setR 11 (.ref (.cell (.deref (.r 1)) 15)),
      .setR 12 (.deref (.r 11)),
      .setR 13 (.llen (.r 12)),
      .setR 14 (.con (.int 0))])
    lp27_0))
  (.ret (.o 1000)))
def tr27 : PT :=
 (.call ⟨[(9, (.deref (.r 2))), (8, (.deref (.r 1)))], []⟩ [] 10 20 [(.r 8), (.r 9)]
 (.brk ⟨[(14, (.con (.int 0))), (13, (.llen (.cell (.deref (.r 1)) 15))), (12, (.cell (.deref (.r 1)) 15)), (11, (.ref (.cell (.deref (.r 1)) 15))), (5, (.r 10))], []⟩
  lp27_0
 (.ret (.o 1000))))
theorem tr27_eq : tree pc27 = tr27 := by kernel_rfl
/-! allonge/title.struck -/
def bd20_0 : PC :=
 (.seq
  (.is [.setR 13 (.ci .lss (.r 12) (.r 11))])
  (.seq
   (.ite (.r 13) [] []
    .skip
    (.exit 0))
   (.seq
    (.block 1 [7, 14, 15, 16, 17, 18, 19, 24] [7, 5]
     (.seq
      (.is [.chk (.idx (.r 10) (.r 12)),
        .setR 14 (.ref (.nth (.r 10) (.r 12))),
        .setR 15 (.deref (.r 14)),
        .setO 7 (.con (.agg [(.int 0), (.int 0), (.int 0), (.int 0), (.int 0), (.int 0), (.int 0), (.int 0), (.int 0)])),
        .setR 7 (.con .none),
        .setO 7 (.setc (.o 7) 0 (.r 15))])
      (.seq
       (.is [.setR 16 (.con .none),
         .setR 17 (.cell (.o 7) 0),
         .setR 18 (.ci .eql (.r 17) (.con (.int 7))),
         .setR 19 (.r 18),
         .setR 20 (.con .none),
         .setR 21 (.cell (.o 7) 6),
         .setR 22 (.r 1),
         .setR 23 (.ci .leq (.r 21) (.r 22)),
         .setR 24 (.pick (.r 19) (.r 23) (.con (.bool false)))])
       (.ite (.r 24) [] [5]
        (.is [.setR 25 (.r 5),
          .setR 26 (.con .none),
          .setR 27 (.cell (.o 7) 4),
          .chk (.ci .lss (.mlen (.o 5)) (.con (.int 4294967296))),
          .setO 5 (.put (.o 5) (.r 27) (.con (.bool true)))])
        .skip))))
    (.is [.setR 28 (.ai .add .i64 (.r 12) (.con (.int 1))),
      .setR 12 (.r 28)]))))
def lp20_0 : PC := .block 0 [12, 13] [5] (.loop [12] [5] bd20_0)
def rd20_0 : PT :=
 (.ite (.ci .lss (.r 12) (.r 11))
  (.chk (.idx (.r 10) (.r 12))
  (.ite (.pick (.ci .eql (.cell (.setc (.con (.agg [(.int 0), (.int 0), (.int 0), (.int 0), (.int 0), (.int 0), (.int 0), (.int 0), (.int 0)])) 0 (.nth (.r 10) (.r 12))) 0) (.con (.int 7))) (.ci .leq (.cell (.setc (.con (.agg [(.int 0), (.int 0), (.int 0), (.int 0), (.int 0), (.int 0), (.int 0), (.int 0), (.int 0)])) 0 (.nth (.r 10) (.r 12))) 6) (.r 1)) (.con (.bool false)))
   (.chk (.ci .lss (.mlen (.o 5)) (.con (.int 4294967296)))
   (.next ⟨[(12, (.ai .add .i64 (.r 12) (.con (.int 1))))], [(5, (.put (.o 5) (.cell (.setc (.con (.agg [(.int 0), (.int 0), (.int 0), (.int 0), (.int 0), (.int 0), (.int 0), (.int 0), (.int 0)])) 0 (.nth (.r 10) (.r 12))) 4) (.con (.bool true))))]⟩))
   (.next ⟨[(12, (.ai .add .i64 (.r 12) (.con (.int 1))))], [(5, (.o 5))]⟩)))
  (.exit 0 ⟨[(12, (.r 12)), (13, (.ci .lss (.r 12) (.r 11)))], [(5, (.o 5))]⟩))
theorem rd20_0_eq : round 0 [12, 13] [5] [12] [5] bd20_0 = rd20_0 := by kernel_rfl
def pc20 : PC :=
 (.seq
  (.is [.setO 2 (.mk [(.r 0)]),
    .setR 2 (.con .none),
    .setR 4 (.con (.map []))])
  (.seq
   (.is [.setO 8 (.con (.map [])),
     .setR 8 (.con .none),
     .setR 5 (.r 8),
     .setO 5 (.o 8)])
   (.seq
    (.seq
     (.is [.setR 9 (.con .none),
       .setR 10 (.cell (.o 2) 17),
       .setR 11 (.llen (.r 10)),
       .setR 12 (.con (.int 0))])
     lp20_0)
    (.seq
     (.is [.setR 29 (.r 5),
       .setR 4 (.o 5)])
     (.ret (.r 4))))))
def tr20 : PT :=
 (.brk ⟨[(12, (.con (.int 0))), (11, (.llen (.cell (.mk [(.r 0)]) 17))), (10, (.cell (.mk [(.r 0)]) 17)), (9, (.con .none)), (5, (.con .none)), (8, (.con .none)), (4, (.con (.map []))), (2, (.con .none))], [(5, (.con (.map []))), (8, (.con (.map []))), (2, (.mk [(.r 0)]))]⟩
  lp20_0
 (.ret (.o 5)))
theorem tr20_eq : tree pc20 = tr20 := by kernel_rfl
/-! allonge/title.right -/
def pc23 : PC :=
 (.seq
  (.is [.setR 4 (.con (.int 0))])
  (.seq
   (.block 0 [4, 5, 6, 7, 8, 9, 12, 13, 14, 15, 16] []
    (.seq
     (.is [.setR 6 (.r 1),
       .setR 7 (.ai .and .i64 (.r 6) (.con (.int 2))),
       .setR 8 (.ci .neq (.r 7) (.con (.int 0))),
       .setR 9 (.r 8),
       .setR 10 (.r 0),
       .setR 11 (.ci .neq (.r 10) (.con (.int 0))),
       .setR 12 (.pick (.r 9) (.con (.bool true)) (.r 11)),
       .setR 5 (.r 12)])
     (.ite (.r 5) [4, 13, 14, 15, 16] []
      (.seq
       (.is [.setR 4 (.con (.int 1))])
       (.ret (.r 4)))
      (.seq
       (.is [.setR 14 (.r 1),
         .setR 15 (.ai .and .i64 (.r 14) (.con (.int 4))),
         .setR 16 (.ci .neq (.r 15) (.con (.int 0))),
         .setR 13 (.r 16)])
       (.ite (.r 13) [4] []
        (.seq
         (.is [.setR 4 (.con (.int 2))])
         (.ret (.r 4)))
        .skip)))))
   (.seq
    (.is [.setR 4 (.con (.int 0))])
    (.ret (.r 4)))))
def tr23 : PT :=
 (.ite (.pick (.ci .neq (.ai .and .i64 (.r 1) (.con (.int 2))) (.con (.int 0))) (.con (.bool true)) (.ci .neq (.r 0) (.con (.int 0))))
  (.ret (.con (.int 1)))
  (.ite (.ci .neq (.ai .and .i64 (.r 1) (.con (.int 4))) (.con (.int 0)))
   (.ret (.con (.int 2)))
   (.ret (.con (.int 0)))))
theorem tr23_eq : tree pc23 = tr23 := by kernel_rfl
/-! allonge/title.Struck -/
def pc11 : PC :=
 (.seq
  (.is [.setO 3 (.mk [(.r 0)]),
    .setR 3 (.con .none),
    .setR 6 (.con (.bool false))])
  (.seq
   (.is [.setR 7 (.r 1),
     .setR 8 (.ci .geq (.r 7) (.con (.int 0))),
     .setR 9 (.r 8),
     .setR 10 (.r 1),
     .setR 11 (.con .none),
     .setR 12 (.cell (.o 3) 15),
     .setR 13 (.llen (.r 12)),
     .setR 14 (.ci .lss (.r 10) (.r 13)),
     .setR 15 (.pick (.r 9) (.r 14) (.con (.bool false))),
     .setR 16 (.r 15),
     .setR 17 (mkA 19 (.o 3)),
     .setR 18 (.r 2),
     .call [(16, true)] 19 20 [(.r 17), (.r 18)],
     .setR 20 (.r 1),
     .setR 21 (.look (.r 19) (.r 20) (.con (.bool false))),
     .setR 22 (.pick (.r 16) (.r 21) (.con (.bool false))),
     .setR 6 (.r 22)])
   (.ret (.r 6))))
def tr11 : PT :=
 (.call ⟨[(18, (.r 2)), (17, (mkA 19 (.mk [(.r 0)]))), (16, (.pick (.ci .geq (.r 1) (.con (.int 0))) (.ci .lss (.r 1) (.llen (.cell (.mk [(.r 0)]) 15))) (.con (.bool false)))), (15, (.pick (.ci .geq (.r 1) (.con (.int 0))) (.ci .lss (.r 1) (.llen (.cell (.mk [(.r 0)]) 15))) (.con (.bool false)))), (14, (.ci .lss (.r 1) (.llen (.cell (.mk [(.r 0)]) 15)))), (13, (.llen (.cell (.mk [(.r 0)]) 15))), (12, (.cell (.mk [(.r 0)]) 15)), (11, (.con .none)), (10, (.r 1)), (9, (.ci .geq (.r 1) (.con (.int 0)))), (8, (.ci .geq (.r 1) (.con (.int 0)))), (7, (.r 1)), (6, (.con (.bool false))), (3, (.con .none))], [(3, (.mk [(.r 0)]))]⟩ [(16, true)] 19 20 [(.r 17), (.r 18)]
 (.ret (.pick (.r 16) (.look (.r 19) (.r 1) (.con (.bool false))) (.con (.bool false)))))
theorem tr11_eq : tree pc11 = tr11 := by kernel_rfl
/-! allonge/title.Rivals -/
def bd17_0 : PC :=
 (.seq
  (.is [.setR 20 (.ci .lss (.r 19) (.r 18))])
  (.seq
   (.ite (.r 20) [] []
    .skip
    (.exit 0))
   (.seq
    (.block 1 [7, 8, 21, 22, 23, 24, 25, 26, 27, 28, 29] [8, 4104, 24584, 6, 5]
     (.seq
      (.is [.setR 21 (.r 19),
        .setR 7 (.r 21)])
      (.seq
       (.is [.setR 22 (mkA 19 (.o 2)),
         .setR 23 (.r 7),
         .setR 24 (.r 1),
         .call [] 25 14 [(.r 22), (.r 23), (.r 24)],
         .setO 8 (.con (.agg [(.list []), (.int 0), (.int 0), (.bool false), (.int 0), (.list [])])),
         .setR 8 (.con .none),
         .setO 4104 (.con (.list [])),
         .setO 24584 (.con (.list [])),
         .setO 8 (.setc (.o 8) 0 (.r 25))])
       (.seq
        (.is [.setR 26 (.con .none),
          .setR 27 (.cell (.o 8) 0),
          .setR 28 (.llen (.r 27)),
          .setR 29 (.ci .gtr (.r 28) (.con (.int 0)))])
        (.ite (.r 29) [] [6, 5]
         (.seq
          (.is [.setR 30 (.r 5),
            .setR 31 (.r 7),
            .setR 32 (.con .none),
            .setR 33 (.cell (.o 8) 1),
            .chk (.ci .lss (.mlen (.o 5)) (.con (.int 4294967296))),
            .setO 5 (.put (.o 5) (.r 31) (.r 33))])
          (.is [.setR 34 (.r 6),
            .setR 35 (.con .none),
            .setR 36 (.cell (.o 8) 1),
            .chk (.ci .lss (.mlen (.o 6)) (.con (.int 4294967296))),
            .setO 6 (.put (.o 6) (.r 36) (.con (.bool true)))]))
         .skip)))))
    (.is [.setR 37 (.ai .add .i64 (.r 19) (.con (.int 1))),
      .setR 19 (.r 37)]))))
def lp17_0 : PC := .block 0 [19, 20] [5, 6] (.loop [19] [5, 6] bd17_0)
def rd17_0 : PT :=
 (.ite (.ci .lss (.r 19) (.r 18))
  (.blockS ⟨[(20, (.ci .lss (.r 19) (.r 18)))], []⟩ 1 [7, 8, 21, 22, 23, 24, 25, 26, 27, 28, 29] [8, 4104, 24584, 6, 5]
   (.call ⟨[(24, (.r 1)), (23, (.r 19)), (22, (mkA 19 (.o 2))), (7, (.r 19)), (21, (.r 19))], []⟩ [] 25 14 [(.r 22), (.r 23), (.r 24)]
   (.ite (.ci .gtr (.llen (.cell (.setc (.con (.agg [(.list []), (.int 0), (.int 0), (.bool false), (.int 0), (.list [])])) 0 (.r 25)) 0)) (.con (.int 0)))
    (.chk (.ci .lss (.mlen (.o 5)) (.con (.int 4294967296)))
    (.chk (.ci .lss (.mlen (.o 6)) (.con (.int 4294967296)))
    (.next ⟨[(29, (.ci .gtr (.llen (.cell (.setc (.con (.agg [(.list []), (.int 0), (.int 0), (.bool false), (.int 0), (.list [])])) 0 (.r 25)) 0)) (.con (.int 0)))), (28, (.llen (.cell (.setc (.con (.agg [(.list []), (.int 0), (.int 0), (.bool false), (.int 0), (.list [])])) 0 (.r 25)) 0))), (27, (.cell (.setc (.con (.agg [(.list []), (.int 0), (.int 0), (.bool false), (.int 0), (.list [])])) 0 (.r 25)) 0)), (26, (.con .none)), (8, (.con .none))], [(6, (.put (.o 6) (.cell (.setc (.con (.agg [(.list []), (.int 0), (.int 0), (.bool false), (.int 0), (.list [])])) 0 (.r 25)) 1) (.con (.bool true)))), (5, (.put (.o 5) (.r 7) (.cell (.setc (.con (.agg [(.list []), (.int 0), (.int 0), (.bool false), (.int 0), (.list [])])) 0 (.r 25)) 1))), (8, (.setc (.con (.agg [(.list []), (.int 0), (.int 0), (.bool false), (.int 0), (.list [])])) 0 (.r 25))), (24584, (.con (.list []))), (4104, (.con (.list []))), (8, (.con (.agg [(.list []), (.int 0), (.int 0), (.bool false), (.int 0), (.list [])])))]⟩)))
    (.next ⟨[(29, (.ci .gtr (.llen (.cell (.setc (.con (.agg [(.list []), (.int 0), (.int 0), (.bool false), (.int 0), (.list [])])) 0 (.r 25)) 0)) (.con (.int 0)))), (28, (.llen (.cell (.setc (.con (.agg [(.list []), (.int 0), (.int 0), (.bool false), (.int 0), (.list [])])) 0 (.r 25)) 0))), (27, (.cell (.setc (.con (.agg [(.list []), (.int 0), (.int 0), (.bool false), (.int 0), (.list [])])) 0 (.r 25)) 0)), (26, (.con .none)), (8, (.con .none))], [(6, (.o 6)), (5, (.o 5)), (8, (.setc (.con (.agg [(.list []), (.int 0), (.int 0), (.bool false), (.int 0), (.list [])])) 0 (.r 25))), (24584, (.con (.list []))), (4104, (.con (.list []))), (8, (.con (.agg [(.list []), (.int 0), (.int 0), (.bool false), (.int 0), (.list [])])))]⟩)))
  (.next ⟨[(19, (.ai .add .i64 (.r 19) (.con (.int 1))))], [(5, (.o 5)), (6, (.o 6))]⟩))
  (.exit 0 ⟨[(19, (.r 19)), (20, (.ci .lss (.r 19) (.r 18)))], [(5, (.o 5)), (6, (.o 6))]⟩))
theorem rd17_0_eq : round 0 [19, 20] [5, 6] [19] [5, 6] bd17_0 = rd17_0 := by kernel_rfl
def bd17_1 : PC :=
 (.seq
  (.is [.setR 43 (.ci .lss (.r 42) (.r 41))])
  (.seq
   (.ite (.r 43) [] []
    .skip
    (.exit 2))
   (.seq
    (.block 3 [9, 10, 11, 12, 44, 45, 46, 47, 48, 49, 50, 51, 52, 56] [9]
     (.seq
      (.is [.setR 44 (.r 42),
        .setR 10 (.r 44)])
      (.seq
       (.is [.setR 46 (.r 5),
         .setR 47 (.r 10),
         .setR 48 (.tup [(.look (.o 5) (.r 47) (.con (.int 0))), (.has (.o 5) (.r 47))]),
         .setR 45 (.r 48),
         .setR 49 (.tget (.r 45) 0),
         .setR 50 (.tget (.r 45) 1),
         .setR 11 (.r 49),
         .setR 12 (.r 50)])
       (.seq
        (.is [.setR 51 (.r 12),
          .setR 52 (.r 51),
          .setR 53 (.r 6),
          .setR 54 (.mlen (.o 6)),
          .setR 55 (.ci .gtr (.r 54) (.con (.int 1))),
          .setR 56 (.pick (.r 52) (.r 55) (.con (.bool false)))])
        (.ite (.r 56) [9] [9]
         (.is [.setR 57 (.r 9),
           .setR 58 (.r 10),
           .setO 59 (.lst [(.r 58)]),
           .setR 59 (.con .none),
           .chk (.ci .leq (.llen (.app (.o 9) (.o 59))) (.con (.int 4294967296))),
           .setO 9 (.app (.o 9) (.o 59)),
           .setR 60 (.con .none),
           .setR 9 (.r 60)])
         .skip)))))
    (.is [.setR 61 (.ai .add .i64 (.r 42) (.con (.int 1))),
      .setR 42 (.r 61)]))))
def lp17_1 : PC := .block 2 [9, 42, 43] [9] (.loop [9, 42] [9] bd17_1)
def rd17_1 : PT :=
 (.ite (.ci .lss (.r 42) (.r 41))
  (.ite (.pick (.has (.o 5) (.r 42)) (.ci .gtr (.mlen (.o 6)) (.con (.int 1))) (.con (.bool false)))
   (.chk (.ci .leq (.llen (.app (.o 9) (.lst [(.r 42)]))) (.con (.int 4294967296)))
   (.next ⟨[(9, (.con .none)), (42, (.ai .add .i64 (.r 42) (.con (.int 1))))], [(9, (.app (.o 9) (.lst [(.r 42)])))]⟩))
   (.next ⟨[(9, (.r 9)), (42, (.ai .add .i64 (.r 42) (.con (.int 1))))], [(9, (.o 9))]⟩))
  (.exit 2 ⟨[(9, (.r 9)), (42, (.r 42)), (43, (.ci .lss (.r 42) (.r 41)))], [(9, (.o 9))]⟩))
theorem rd17_1_eq : round 2 [9, 42, 43] [9] [9, 42] [9] bd17_1 = rd17_1 := by kernel_rfl
def pc17 : PC :=
 (.seq
  (.is [.setO 2 (.mk [(.r 0)]),
    .setR 2 (.con .none),
    .setR 4 (.con (.list []))])
  (.seq
   (.is [.setO 13 (.con (.map [])),
     .setR 13 (.con .none),
     .setR 5 (.r 13),
     .setO 5 (.o 13)])
   (.seq
    (.is [.setO 14 (.con (.map [])),
      .setR 14 (.con .none),
      .setR 6 (.r 14),
      .setO 6 (.o 14)])
    (.seq
     (.seq
      (.is [.setR 15 (.con .none),
        .setR 16 (.con .none),
        .setR 17 (.cell (.o 2) 14),
        .setR 18 (.mn (.r 17) (.con (.int 4))),
        .setR 19 (.con (.int 0))])
      lp17_0)
     (.seq
      (.is [.setO 9 (.con (.list [])),
        .setR 9 (.con .none)])
      (.seq
       (.seq
        (.is [.setR 38 (.con .none),
          .setR 39 (.con .none),
          .setR 40 (.cell (.o 2) 14),
          .setR 41 (.mn (.r 40) (.con (.int 4))),
          .setR 42 (.con (.int 0))])
        lp17_1)
       (.seq
        (.is [.setR 62 (.r 9),
          .setR 4 (.o 9)])
        (.ret (.r 4)))))))))
def tr17 : PT :=
 (.brk ⟨[(19, (.con (.int 0))), (18, (.mn (.cell (.mk [(.r 0)]) 14) (.con (.int 4)))), (17, (.cell (.mk [(.r 0)]) 14)), (16, (.con .none)), (15, (.con .none)), (6, (.con .none)), (14, (.con .none)), (5, (.con .none)), (13, (.con .none)), (4, (.con (.list []))), (2, (.con .none))], [(6, (.con (.map []))), (14, (.con (.map []))), (5, (.con (.map []))), (13, (.con (.map []))), (2, (.mk [(.r 0)]))]⟩
  lp17_0
 (.brk ⟨[(42, (.con (.int 0))), (41, (.mn (.cell (.o 2) 14) (.con (.int 4)))), (40, (.cell (.o 2) 14)), (39, (.con .none)), (38, (.con .none)), (9, (.con .none))], [(9, (.con (.list [])))]⟩
  lp17_1
 (.ret (.o 9))))
theorem tr17_eq : tree pc17 = tr17 := by kernel_rfl
/-! allonge/allongeref13.Few -/
def pc10 : PC :=
 (.seq
  (.is [.setO 1 (.mk [(.r 0)]),
    .setR 1 (.con .none),
    .setR 2 (.con (.bool false))])
  (.seq
   (.is [.setR 3 (.con .none),
     .setR 4 (.cell (.o 1) 15),
     .setR 5 (.llen (.r 4)),
     .setR 6 (.ci .leq (.r 5) (.con (.int 40))),
     .setR 7 (.r 6),
     .setR 8 (.con .none),
     .setR 9 (.cell (.o 1) 17),
     .setR 10 (.llen (.r 9)),
     .setR 11 (.ci .leq (.r 10) (.con (.int 60))),
     .setR 12 (.pick (.r 7) (.r 11) (.con (.bool false))),
     .setR 13 (.r 12),
     .setR 14 (.con .none),
     .setR 15 (.cell (.o 1) 16),
     .setR 16 (.llen (.r 15)),
     .setR 17 (.ci .leq (.r 16) (.con (.int 10))),
     .setR 18 (.pick (.r 13) (.r 17) (.con (.bool false))),
     .setR 19 (.r 18),
     .setR 20 (.con .none),
     .setR 21 (.cell (.o 1) 18),
     .setR 22 (.llen (.r 21)),
     .setR 23 (.ci .leq (.r 22) (.con (.int 200))),
     .setR 24 (.pick (.r 19) (.r 23) (.con (.bool false))),
     .setR 2 (.r 24)])
   (.ret (.r 2))))
def tr10 : PT :=
 (.ret (.pick (.pick (.pick (.ci .leq (.llen (.cell (.mk [(.r 0)]) 15)) (.con (.int 40))) (.ci .leq (.llen (.cell (.mk [(.r 0)]) 17)) (.con (.int 60))) (.con (.bool false))) (.ci .leq (.llen (.cell (.mk [(.r 0)]) 16)) (.con (.int 10))) (.con (.bool false))) (.ci .leq (.llen (.cell (.mk [(.r 0)]) 18)) (.con (.int 200))) (.con (.bool false))))
theorem tr10_eq : tree pc10 = tr10 := by kernel_rfl
/-! allonge/allongeref13.Struck -/
def bd12_0 : PC :=
 (.seq
  (.seq
   (.is [.setR 17 (.r 7),
     .setR 18 (.con .none),
     .setR 19 (.cell (.o 3) 17),
     .setR 20 (.llen (.r 19)),
     .setR 21 (.ci .lss (.r 17) (.r 20))])
   (.ite (.r 21) [] []
    .skip
    (.exit 0)))
  (.seq
   (.block 1 [6, 24, 25, 26, 27, 28, 29, 30, 31, 40, 41, 50] []
    (.seq
     (.is [.setR 24 (.con .none),
       .setR 25 (.cell (.o 3) 17),
       .setR 26 (.r 7),
       .chk (.idx (.r 25) (.r 26)),
       .setR 27 (.ref (.nth (.r 25) (.r 26))),
       .setR 28 (.ref (.cell (.deref (.r 27)) 0)),
       .setR 29 (.deref (.r 28)),
       .setR 30 (.ci .eql (.r 29) (.con (.int 7))),
       .setR 31 (.r 30),
       .setR 32 (.con .none),
       .setR 33 (.cell (.o 3) 17),
       .setR 34 (.r 7),
       .chk (.imp [(31, true)] (.idx (.r 33) (.r 34))),
       .setR 35 (.ref (.nth (.r 33) (.r 34))),
       .setR 36 (.ref (.cell (.deref (.r 35)) 4)),
       .setR 37 (.deref (.r 36)),
       .setR 38 (.r 1),
       .setR 39 (.ci .eql (.r 37) (.r 38)),
       .setR 40 (.pick (.r 31) (.r 39) (.con (.bool false))),
       .setR 41 (.r 40),
       .setR 42 (.con .none),
       .setR 43 (.cell (.o 3) 17),
       .setR 44 (.r 7),
       .chk (.imp [(41, true)] (.idx (.r 43) (.r 44))),
       .setR 45 (.ref (.nth (.r 43) (.r 44))),
       .setR 46 (.ref (.cell (.deref (.r 45)) 6)),
       .setR 47 (.deref (.r 46)),
       .setR 48 (.r 2),
       .setR 49 (.ci .leq (.r 47) (.r 48)),
       .setR 50 (.pick (.r 41) (.r 49) (.con (.bool false)))])
     (.ite (.r 50) [6] []
      (.seq
       (.is [.setR 6 (.con (.bool true))])
       (.ret (.r 6)))
      .skip)))
   (.is [.setR 22 (.r 7),
     .setR 23 (.ai .add .i64 (.r 22) (.con (.int 1))),
     .setR 7 (.r 23)])))
def lp12_0 : PC := .block 0 [6, 7, 17, 18, 19, 20, 21] [] (.loop [6, 7] [] bd12_0)
def rd12_0 : PT :=
 (.ite (.ci .lss (.r 7) (.llen (.cell (.o 3) 17)))
  (.chk (.idx (.cell (.o 3) 17) (.r 7))
  (.chk (.nt (.an (.an (.ci .eql (.cell (.nth (.cell (.o 3) 17) (.r 7)) 0) (.con (.int 7))) (.con (.bool true))) (.nt (.idx (.cell (.o 3) 17) (.r 7)))))
  (.chk (.nt (.an (.an (.pick (.ci .eql (.cell (.nth (.cell (.o 3) 17) (.r 7)) 0) (.con (.int 7))) (.ci .eql (.cell (.nth (.cell (.o 3) 17) (.r 7)) 4) (.r 1)) (.con (.bool false))) (.con (.bool true))) (.nt (.idx (.cell (.o 3) 17) (.r 7)))))
  (.ite (.pick (.pick (.ci .eql (.cell (.nth (.cell (.o 3) 17) (.r 7)) 0) (.con (.int 7))) (.ci .eql (.cell (.nth (.cell (.o 3) 17) (.r 7)) 4) (.r 1)) (.con (.bool false))) (.ci .leq (.cell (.nth (.cell (.o 3) 17) (.r 7)) 6) (.r 2)) (.con (.bool false)))
   (.ret (.con (.bool true)))
   (.next ⟨[(6, (.r 6)), (7, (.ai .add .i64 (.r 7) (.con (.int 1))))], []⟩)))))
  (.exit 0 ⟨[(6, (.r 6)), (7, (.r 7)), (17, (.r 7)), (18, (.con .none)), (19, (.cell (.o 3) 17)), (20, (.llen (.cell (.o 3) 17))), (21, (.ci .lss (.r 7) (.llen (.cell (.o 3) 17))))], []⟩))
theorem rd12_0_eq : round 0 [6, 7, 17, 18, 19, 20, 21] [] [6, 7] [] bd12_0 = rd12_0 := by kernel_rfl
def pc12 : PC :=
 (.seq
  (.is [.setO 3 (.mk [(.r 0)]),
    .setR 3 (.con .none),
    .setR 6 (.con (.bool false))])
  (.seq
   (.seq
    (.is [.setR 8 (.r 1),
      .setR 9 (.ci .lss (.r 8) (.con (.int 0))),
      .setR 10 (.r 9),
      .setR 11 (.r 1),
      .setR 12 (.con .none),
      .setR 13 (.cell (.o 3) 15),
      .setR 14 (.llen (.r 13)),
      .setR 15 (.ci .geq (.r 11) (.r 14)),
      .setR 16 (.pick (.r 10) (.con (.bool true)) (.r 15))])
    (.ite (.r 16) [6] []
     (.seq
      (.is [.setR 6 (.con (.bool false))])
      (.ret (.r 6)))
     .skip))
   (.seq
    (.seq
     (.is [.setR 7 (.con (.int 0))])
     lp12_0)
    (.seq
     (.is [.setR 6 (.con (.bool false))])
     (.ret (.r 6))))))
def tr12 : PT :=
 (.ite (.pick (.ci .lss (.r 1) (.con (.int 0))) (.con (.bool true)) (.ci .geq (.r 1) (.llen (.cell (.mk [(.r 0)]) 15))))
  (.ret (.con (.bool false)))
  (.brk ⟨[(7, (.con (.int 0))), (6, (.con (.bool false))), (16, (.pick (.ci .lss (.r 1) (.con (.int 0))) (.con (.bool true)) (.ci .geq (.r 1) (.llen (.cell (.mk [(.r 0)]) 15))))), (15, (.ci .geq (.r 1) (.llen (.cell (.mk [(.r 0)]) 15)))), (14, (.llen (.cell (.mk [(.r 0)]) 15))), (13, (.cell (.mk [(.r 0)]) 15)), (12, (.con .none)), (11, (.r 1)), (10, (.ci .lss (.r 1) (.con (.int 0)))), (9, (.ci .lss (.r 1) (.con (.int 0)))), (8, (.r 1)), (6, (.con (.bool false))), (3, (.con .none))], [(3, (.mk [(.r 0)]))]⟩
   lp12_0
  (.ret (.con (.bool false)))))
theorem tr12_eq : tree pc12 = tr12 := by kernel_rfl
/-! allonge/allongeref13.Chain -/
def bd15_0 : PC :=
 (.seq
  (.seq
   (.is [.setR 19 (.r 9),
     .setR 20 (.r 8),
     .setR 21 (.llen (.r 20)),
     .setR 22 (.ci .lss (.r 19) (.r 21)),
     .setR 23 (.r 22),
     .setR 24 (.con .none),
     .setR 25 (.cell (.o 7) 2),
     .setR 26 (.ci .eql (.r 25) (.con (.int (-1)))),
     .setR 27 (.pick (.r 23) (.r 26) (.con (.bool false)))])
   (.ite (.r 27) [] []
    .skip
    (.exit 0)))
  (.seq
   (.block 1 [10, 30, 31, 32, 33, 34, 35, 36, 37, 38, 39, 40, 41, 47] [10, 4103, 24583, 7]
    (.seq
     (.is [.setR 30 (.con .none),
       .setR 31 (.cell (.o 3) 15),
       .setR 32 (.r 8),
       .setR 33 (.r 9),
       .chk (.idx (.r 32) (.r 33)),
       .setR 34 (.ref (.nth (.r 32) (.r 33))),
       .setR 35 (.deref (.r 34)),
       .chk (.idx (.r 31) (.r 35)),
       .setR 36 (.ref (.nth (.r 31) (.r 35))),
       .setR 37 (.deref (.r 36)),
       .setO 10 (.con (.agg [(.int 0), (.int 0), (.int 0), (.int 0), (.int 0), (.int 0), (.int 0), (.int 0), (.int 0)])),
       .setR 10 (.con .none),
       .setO 10 (.setc (.o 10) 0 (.r 37))])
     (.seq
      (.is [.setR 38 (.con .none),
        .setR 39 (.cell (.o 7) 1),
        .setR 40 (.ci .neq (.r 39) (.con (.int (-1)))),
        .setR 41 (.r 40),
        .setR 42 (.con .none),
        .setR 43 (.cell (.o 10) 2),
        .setR 44 (.con .none),
        .setR 45 (.cell (.o 7) 1),
        .setR 46 (.ci .neq (.r 43) (.r 45)),
        .setR 47 (.pick (.r 41) (.r 46) (.con (.bool false)))])
      (.ite (.r 47) [] [4103, 24583, 7]
       (.is [.setR 48 (.r 8),
         .setR 49 (.r 9),
         .chk (.idx (.r 48) (.r 49)),
         .setR 50 (.ref (.nth (.r 48) (.r 49))),
         .setR 51 (.deref (.r 50)),
         .setR 52 (.con .none),
         .setO 7 (.setc (.o 7) 2 (.r 51))])
       (.seq
        (.is [.setR 53 (.con .none),
          .setR 54 (.con .none),
          .setR 55 (.r 8),
          .setR 56 (.r 9),
          .chk (.idx (.r 55) (.r 56)),
          .setR 57 (.ref (.nth (.r 55) (.r 56))),
          .setR 58 (.deref (.r 57)),
          .setO 59 (.lst [(.r 58)]),
          .setR 59 (.con .none),
          .chk (.ci .leq (.llen (.app (.o 4103) (.o 59))) (.con (.int 4294967296))),
          .setO 4103 (.app (.o 4103) (.o 59)),
          .setR 60 (.con .none),
          .setR 61 (.con .none),
          .setO 7 (.setc (.o 7) 0 (.con .none))])
        (.seq
         (.is [.setR 62 (.con .none),
           .setR 63 (.cell (.o 10) 4),
           .setR 64 (.con .none),
           .setO 7 (.setc (.o 7) 1 (.r 63))])
         (.seq
          (.is [.setR 65 (.con .none),
            .setR 66 (.cell (.o 7) 4),
            .setR 67 (.con .none),
            .setR 68 (.cell (.o 10) 8),
            .call [] 69 25 [(.r 66), (.r 68)],
            .setR 70 (.con .none),
            .setO 7 (.setc (.o 7) 4 (.r 69))])
          (.seq
           (.is [.setR 71 (mkA 19 (.o 3)),
             .setR 72 (.con .none),
             .setR 73 (.cell (.o 10) 6),
             .setR 74 (.r 2),
             .call [] 75 26 [(.r 71), (.r 73), (.r 74)]])
           (.ite (.r 75) [] [24583, 7]
            (.is [.setR 76 (.con .none),
              .setR 77 (.con .none),
              .setR 78 (.r 8),
              .setR 79 (.r 9),
              .chk (.idx (.r 78) (.r 79)),
              .setR 80 (.ref (.nth (.r 78) (.r 79))),
              .setR 81 (.deref (.r 80)),
              .setO 82 (.lst [(.r 81)]),
              .setR 82 (.con .none),
              .chk (.ci .leq (.llen (.app (.o 24583) (.o 82))) (.con (.int 4294967296))),
              .setO 24583 (.app (.o 24583) (.o 82)),
              .setR 83 (.con .none),
              .setR 84 (.con .none),
              .setO 7 (.setc (.o 7) 5 (.con .none))])
            .skip)))))))))
   (.is [.setR 28 (.r 9),
     .setR 29 (.ai .add .i64 (.r 28) (.con (.int 1))),
     .setR 9 (.r 29)])))
def lp15_0 : PC := .block 0 [9, 19, 20, 21, 22, 23, 27] [7, 24583, 4103] (.loop [9] [7, 24583, 4103] bd15_0)
def rd15_0 : PT :=
 (.ite (.pick (.ci .lss (.r 9) (.llen (.r 8))) (.ci .eql (.cell (.o 7) 2) (.con (.int (-1)))) (.con (.bool false)))
  (.blockS ⟨[(27, (.pick (.ci .lss (.r 9) (.llen (.r 8))) (.ci .eql (.cell (.o 7) 2) (.con (.int (-1)))) (.con (.bool false)))), (26, (.ci .eql (.cell (.o 7) 2) (.con (.int (-1))))), (25, (.cell (.o 7) 2)), (24, (.con .none)), (23, (.ci .lss (.r 9) (.llen (.r 8)))), (22, (.ci .lss (.r 9) (.llen (.r 8)))), (21, (.llen (.r 8))), (20, (.r 8)), (19, (.r 9))], []⟩ 1 [10, 30, 31, 32, 33, 34, 35, 36, 37, 38, 39, 40, 41, 47] [10, 4103, 24583, 7]
   (.chk (.idx (.r 8) (.r 9))
   (.chk (.idx (.cell (.o 3) 15) (.nth (.r 8) (.r 9)))
   (.iteS ⟨[(47, (.pick (.ci .neq (.cell (.o 7) 1) (.con (.int (-1)))) (.ci .neq (.cell (.setc (.con (.agg [(.int 0), (.int 0), (.int 0), (.int 0), (.int 0), (.int 0), (.int 0), (.int 0), (.int 0)])) 0 (.nth (.cell (.o 3) 15) (.nth (.r 8) (.r 9)))) 2) (.cell (.o 7) 1)) (.con (.bool false)))), (46, (.ci .neq (.cell (.setc (.con (.agg [(.int 0), (.int 0), (.int 0), (.int 0), (.int 0), (.int 0), (.int 0), (.int 0), (.int 0)])) 0 (.nth (.cell (.o 3) 15) (.nth (.r 8) (.r 9)))) 2) (.cell (.o 7) 1))), (45, (.cell (.o 7) 1)), (44, (.con .none)), (43, (.cell (.setc (.con (.agg [(.int 0), (.int 0), (.int 0), (.int 0), (.int 0), (.int 0), (.int 0), (.int 0), (.int 0)])) 0 (.nth (.cell (.o 3) 15) (.nth (.r 8) (.r 9)))) 2)), (42, (.con .none)), (41, (.ci .neq (.cell (.o 7) 1) (.con (.int (-1))))), (40, (.ci .neq (.cell (.o 7) 1) (.con (.int (-1))))), (39, (.cell (.o 7) 1)), (38, (.con .none)), (10, (.con .none)), (37, (.nth (.cell (.o 3) 15) (.nth (.r 8) (.r 9)))), (36, (.ref (.nth (.cell (.o 3) 15) (.nth (.r 8) (.r 9))))), (35, (.nth (.r 8) (.r 9))), (34, (.ref (.nth (.r 8) (.r 9)))), (33, (.r 9)), (32, (.r 8)), (31, (.cell (.o 3) 15)), (30, (.con .none))], [(10, (.setc (.con (.agg [(.int 0), (.int 0), (.int 0), (.int 0), (.int 0), (.int 0), (.int 0), (.int 0), (.int 0)])) 0 (.nth (.cell (.o 3) 15) (.nth (.r 8) (.r 9))))), (10, (.con (.agg [(.int 0), (.int 0), (.int 0), (.int 0), (.int 0), (.int 0), (.int 0), (.int 0), (.int 0)])))]⟩ (.r 47) [] [4103, 24583, 7]
    (.chk (.idx (.r 8) (.r 9))
    (.next ⟨[(52, (.con .none)), (51, (.nth (.r 8) (.r 9))), (50, (.ref (.nth (.r 8) (.r 9)))), (49, (.r 9)), (48, (.r 8))], [(7, (.setc (.o 7) 2 (.nth (.r 8) (.r 9))))]⟩))
    (.chk (.idx (.r 8) (.r 9))
    (.chk (.ci .leq (.llen (.app (.o 4103) (.lst [(.nth (.r 8) (.r 9))]))) (.con (.int 4294967296)))
    (.call ⟨[(68, (.cell (.o 10) 8)), (67, (.con .none)), (66, (.cell (.setc (.setc (.o 7) 0 (.con .none)) 1 (.cell (.o 10) 4)) 4)), (65, (.con .none)), (64, (.con .none)), (63, (.cell (.o 10) 4)), (62, (.con .none)), (61, (.con .none)), (60, (.con .none)), (59, (.con .none)), (58, (.nth (.r 8) (.r 9))), (57, (.ref (.nth (.r 8) (.r 9)))), (56, (.r 9)), (55, (.r 8)), (54, (.con .none)), (53, (.con .none))], [(7, (.setc (.setc (.o 7) 0 (.con .none)) 1 (.cell (.o 10) 4))), (7, (.setc (.o 7) 0 (.con .none))), (4103, (.app (.o 4103) (.lst [(.nth (.r 8) (.r 9))]))), (59, (.lst [(.nth (.r 8) (.r 9))]))]⟩ [] 69 25 [(.r 66), (.r 68)]
    (.call ⟨[(74, (.r 2)), (73, (.cell (.o 10) 6)), (72, (.con .none)), (71, (mkA 19 (.o 3))), (70, (.con .none))], [(7, (.setc (.o 7) 4 (.r 69)))]⟩ [] 75 26 [(.r 71), (.r 73), (.r 74)]
    (.ite (.r 75)
     (.chk (.idx (.r 8) (.r 9))
     (.chk (.ci .leq (.llen (.app (.o 24583) (.lst [(.nth (.r 8) (.r 9))]))) (.con (.int 4294967296)))
     (.next ⟨[], [(24583, (.app (.o 24583) (.lst [(.nth (.r 8) (.r 9))]))), (7, (.setc (.o 7) 5 (.con .none)))]⟩)))
     (.next ⟨[], [(24583, (.o 24583)), (7, (.o 7))]⟩))))))
   (.next ⟨[], []⟩))))
  (.next ⟨[(9, (.ai .add .i64 (.r 9) (.con (.int 1))))], [(7, (.o 7)), (24583, (.o 24583)), (4103, (.o 4103))]⟩))
  (.exit 0 ⟨[(9, (.r 9)), (19, (.r 9)), (20, (.r 8)), (21, (.llen (.r 8))), (22, (.ci .lss (.r 9) (.llen (.r 8)))), (23, (.ci .lss (.r 9) (.llen (.r 8)))), (27, (.pick (.ci .lss (.r 9) (.llen (.r 8))) (.ci .eql (.cell (.o 7) 2) (.con (.int (-1)))) (.con (.bool false))))], [(7, (.o 7)), (24583, (.o 24583)), (4103, (.o 4103))]⟩))
theorem rd15_0_eq : round 0 [9, 19, 20, 21, 22, 23, 27] [7, 24583, 4103] [9] [7, 24583, 4103] bd15_0 = rd15_0 := by kernel_rfl
def pc15 : PC :=
 (.seq
  (.is [.setO 3 (.mk [(.r 0)]),
    .setR 3 (.con .none),
    .setO 6 (.con (.agg [(.list []), (.int 0), (.int 0), (.bool false), (.int 0), (.list [])])),
    .setR 6 (.con .none),
    .setO 4102 (.con (.list [])),
    .setO 24582 (.con (.list []))])
  (.seq
   (.is [.setR 11 (.con .none),
     .setR 12 (.con .none),
     .setR 13 (.cell (.o 3) 2),
     .setR 14 (.mk [(.con (.list [])), (.r 13), (.con (.int (-1))), (.con (.bool false)), (.con (.int 0)), (.con (.list []))]),
     .setO 7 (.con (.agg [(.list []), (.int 0), (.int 0), (.bool false), (.int 0), (.list [])])),
     .setR 7 (.con .none),
     .setO 4103 (.con (.list [])),
     .setO 24583 (.con (.list [])),
     .setO 7 (.setc (.o 7) 0 (.r 14)),
     .setO 4103 (.con (.list [])),
     .setO 24583 (.con (.list []))])
   (.seq
    (.is [.setR 15 (mkA 19 (.o 3)),
      .setR 16 (.r 1),
      .setR 17 (.r 2),
      .call [] 18 24 [(.r 15), (.r 16), (.r 17)],
      .setR 8 (.r 18)])
    (.seq
     (.seq
      (.is [.setR 9 (.con (.int 0))])
      lp15_0)
     (.seq
      (.is [.setR 85 (.con .none),
        .setR 86 (.cell (.o 7) 1),
        .setR 87 (.ci .eql (.r 86) (.con (.int (-1)))),
        .setR 88 (.con .none),
        .setO 7 (.setc (.o 7) 3 (.r 87))])
      (.seq
       (.is [.setR 89 (.mk [(.o 4103), (.cell (.o 7) 1), (.cell (.o 7) 2), (.cell (.o 7) 3), (.cell (.o 7) 4), (.o 24583)]),
         .setO 6 (.setc (.o 6) 0 (.r 89))])
       (.ret (mkA 6 (.o 6)))))))))
def tr15 : PT :=
 (.call ⟨[(17, (.r 2)), (16, (.r 1)), (15, (mkA 19 (.mk [(.r 0)]))), (7, (.con .none)), (14, (.mk [(.con (.list [])), (.cell (.mk [(.r 0)]) 2), (.con (.int (-1))), (.con (.bool false)), (.con (.int 0)), (.con (.list []))])), (13, (.cell (.mk [(.r 0)]) 2)), (12, (.con .none)), (11, (.con .none)), (6, (.con .none)), (3, (.con .none))], [(24583, (.con (.list []))), (4103, (.con (.list []))), (7, (.setc (.con (.agg [(.list []), (.int 0), (.int 0), (.bool false), (.int 0), (.list [])])) 0 (.mk [(.con (.list [])), (.cell (.mk [(.r 0)]) 2), (.con (.int (-1))), (.con (.bool false)), (.con (.int 0)), (.con (.list []))]))), (24583, (.con (.list []))), (4103, (.con (.list []))), (7, (.con (.agg [(.list []), (.int 0), (.int 0), (.bool false), (.int 0), (.list [])]))), (24582, (.con (.list []))), (4102, (.con (.list []))), (6, (.con (.agg [(.list []), (.int 0), (.int 0), (.bool false), (.int 0), (.list [])]))), (3, (.mk [(.r 0)]))]⟩ [] 18 24 [(.r 15), (.r 16), (.r 17)]
 (.brk ⟨[(9, (.con (.int 0))), (8, (.r 18))], []⟩
  lp15_0
 (.ret (mkA 6 (.setc (.o 6) 0 (.mk [(.o 4103), (.cell (.setc (.o 7) 3 (.ci .eql (.cell (.o 7) 1) (.con (.int (-1))))) 1), (.cell (.setc (.o 7) 3 (.ci .eql (.cell (.o 7) 1) (.con (.int (-1))))) 2), (.cell (.setc (.o 7) 3 (.ci .eql (.cell (.o 7) 1) (.con (.int (-1))))) 3), (.cell (.setc (.o 7) 3 (.ci .eql (.cell (.o 7) 1) (.con (.int (-1))))) 4), (.o 24583)]))))))
theorem tr15_eq : tree pc15 = tr15 := by kernel_rfl
/-! allonge/allongeref13.Endorsements -/
def bd24_0 : PC :=
 (.seq
  (.seq
   (.is [.setR 11 (.r 8),
     .setR 12 (.con .none),
     .setR 13 (.cell (.o 3) 15),
     .setR 14 (.llen (.r 13)),
     .setR 15 (.ci .lss (.r 11) (.r 14))])
   (.ite (.r 15) [] []
    .skip
    (.exit 0)))
  (.seq
   (.block 1 [7, 9, 18, 19, 20, 21, 22, 23, 24, 25, 26, 31, 32, 37, 38, 44] [9, 7]
    (.seq
     (.is [.setR 18 (.con .none),
       .setR 19 (.cell (.o 3) 15),
       .setR 20 (.r 8),
       .chk (.idx (.r 19) (.r 20)),
       .setR 21 (.ref (.nth (.r 19) (.r 20))),
       .setR 22 (.deref (.r 21)),
       .setO 9 (.con (.agg [(.int 0), (.int 0), (.int 0), (.int 0), (.int 0), (.int 0), (.int 0), (.int 0), (.int 0)])),
       .setR 9 (.con .none),
       .setO 9 (.setc (.o 9) 0 (.r 22))])
     (.seq
      (.is [.setR 23 (.con .none),
        .setR 24 (.cell (.o 9) 0),
        .setR 25 (.ci .eql (.r 24) (.con (.int 2))),
        .setR 26 (.r 25),
        .setR 27 (.con .none),
        .setR 28 (.cell (.o 9) 1),
        .setR 29 (.r 1),
        .setR 30 (.ci .eql (.r 28) (.r 29)),
        .setR 31 (.pick (.r 26) (.r 30) (.con (.bool false))),
        .setR 32 (.r 31),
        .setR 33 (.con .none),
        .setR 34 (.cell (.o 9) 6),
        .setR 35 (.r 2),
        .setR 36 (.ci .leq (.r 34) (.r 35)),
        .setR 37 (.pick (.r 32) (.r 36) (.con (.bool false))),
        .setR 38 (.r 37),
        .setR 39 (mkA 19 (.o 3)),
        .setR 40 (.r 8),
        .setR 41 (.r 2),
        .call [(38, true)] 42 12 [(.r 39), (.r 40), (.r 41)],
        .setR 43 (.nt (.r 42)),
        .setR 44 (.pick (.r 38) (.r 43) (.con (.bool false)))])
      (.ite (.r 44) [7] [7]
       (.is [.setR 45 (.r 7),
         .setR 46 (.r 8),
         .setO 47 (.lst [(.r 46)]),
         .setR 47 (.con .none),
         .chk (.ci .leq (.llen (.app (.o 7) (.o 47))) (.con (.int 4294967296))),
         .setO 7 (.app (.o 7) (.o 47)),
         .setR 48 (.con .none),
         .setR 7 (.r 48)])
       .skip))))
   (.is [.setR 16 (.r 8),
     .setR 17 (.ai .add .i64 (.r 16) (.con (.int 1))),
     .setR 8 (.r 17)])))
def lp24_0 : PC := .block 0 [7, 8, 11, 12, 13, 14, 15] [7] (.loop [7, 8] [7] bd24_0)
def rd24_0 : PT :=
 (.ite (.ci .lss (.r 8) (.llen (.cell (.o 3) 15)))
  (.blockS ⟨[(15, (.ci .lss (.r 8) (.llen (.cell (.o 3) 15)))), (14, (.llen (.cell (.o 3) 15))), (13, (.cell (.o 3) 15)), (12, (.con .none)), (11, (.r 8))], []⟩ 1 [7, 9, 18, 19, 20, 21, 22, 23, 24, 25, 26, 31, 32, 37, 38, 44] [9, 7]
   (.chk (.idx (.cell (.o 3) 15) (.r 8))
   (.call ⟨[(41, (.r 2)), (40, (.r 8)), (39, (mkA 19 (.o 3))), (38, (.pick (.pick (.ci .eql (.cell (.setc (.con (.agg [(.int 0), (.int 0), (.int 0), (.int 0), (.int 0), (.int 0), (.int 0), (.int 0), (.int 0)])) 0 (.nth (.cell (.o 3) 15) (.r 8))) 0) (.con (.int 2))) (.ci .eql (.cell (.setc (.con (.agg [(.int 0), (.int 0), (.int 0), (.int 0), (.int 0), (.int 0), (.int 0), (.int 0), (.int 0)])) 0 (.nth (.cell (.o 3) 15) (.r 8))) 1) (.r 1)) (.con (.bool false))) (.ci .leq (.cell (.setc (.con (.agg [(.int 0), (.int 0), (.int 0), (.int 0), (.int 0), (.int 0), (.int 0), (.int 0), (.int 0)])) 0 (.nth (.cell (.o 3) 15) (.r 8))) 6) (.r 2)) (.con (.bool false)))), (37, (.pick (.pick (.ci .eql (.cell (.setc (.con (.agg [(.int 0), (.int 0), (.int 0), (.int 0), (.int 0), (.int 0), (.int 0), (.int 0), (.int 0)])) 0 (.nth (.cell (.o 3) 15) (.r 8))) 0) (.con (.int 2))) (.ci .eql (.cell (.setc (.con (.agg [(.int 0), (.int 0), (.int 0), (.int 0), (.int 0), (.int 0), (.int 0), (.int 0), (.int 0)])) 0 (.nth (.cell (.o 3) 15) (.r 8))) 1) (.r 1)) (.con (.bool false))) (.ci .leq (.cell (.setc (.con (.agg [(.int 0), (.int 0), (.int 0), (.int 0), (.int 0), (.int 0), (.int 0), (.int 0), (.int 0)])) 0 (.nth (.cell (.o 3) 15) (.r 8))) 6) (.r 2)) (.con (.bool false)))), (36, (.ci .leq (.cell (.setc (.con (.agg [(.int 0), (.int 0), (.int 0), (.int 0), (.int 0), (.int 0), (.int 0), (.int 0), (.int 0)])) 0 (.nth (.cell (.o 3) 15) (.r 8))) 6) (.r 2))), (35, (.r 2)), (34, (.cell (.setc (.con (.agg [(.int 0), (.int 0), (.int 0), (.int 0), (.int 0), (.int 0), (.int 0), (.int 0), (.int 0)])) 0 (.nth (.cell (.o 3) 15) (.r 8))) 6)), (33, (.con .none)), (32, (.pick (.ci .eql (.cell (.setc (.con (.agg [(.int 0), (.int 0), (.int 0), (.int 0), (.int 0), (.int 0), (.int 0), (.int 0), (.int 0)])) 0 (.nth (.cell (.o 3) 15) (.r 8))) 0) (.con (.int 2))) (.ci .eql (.cell (.setc (.con (.agg [(.int 0), (.int 0), (.int 0), (.int 0), (.int 0), (.int 0), (.int 0), (.int 0), (.int 0)])) 0 (.nth (.cell (.o 3) 15) (.r 8))) 1) (.r 1)) (.con (.bool false)))), (31, (.pick (.ci .eql (.cell (.setc (.con (.agg [(.int 0), (.int 0), (.int 0), (.int 0), (.int 0), (.int 0), (.int 0), (.int 0), (.int 0)])) 0 (.nth (.cell (.o 3) 15) (.r 8))) 0) (.con (.int 2))) (.ci .eql (.cell (.setc (.con (.agg [(.int 0), (.int 0), (.int 0), (.int 0), (.int 0), (.int 0), (.int 0), (.int 0), (.int 0)])) 0 (.nth (.cell (.o 3) 15) (.r 8))) 1) (.r 1)) (.con (.bool false)))), (30, (.ci .eql (.cell (.setc (.con (.agg [(.int 0), (.int 0), (.int 0), (.int 0), (.int 0), (.int 0), (.int 0), (.int 0), (.int 0)])) 0 (.nth (.cell (.o 3) 15) (.r 8))) 1) (.r 1))), (29, (.r 1)), (28, (.cell (.setc (.con (.agg [(.int 0), (.int 0), (.int 0), (.int 0), (.int 0), (.int 0), (.int 0), (.int 0), (.int 0)])) 0 (.nth (.cell (.o 3) 15) (.r 8))) 1)), (27, (.con .none)), (26, (.ci .eql (.cell (.setc (.con (.agg [(.int 0), (.int 0), (.int 0), (.int 0), (.int 0), (.int 0), (.int 0), (.int 0), (.int 0)])) 0 (.nth (.cell (.o 3) 15) (.r 8))) 0) (.con (.int 2)))), (25, (.ci .eql (.cell (.setc (.con (.agg [(.int 0), (.int 0), (.int 0), (.int 0), (.int 0), (.int 0), (.int 0), (.int 0), (.int 0)])) 0 (.nth (.cell (.o 3) 15) (.r 8))) 0) (.con (.int 2)))), (24, (.cell (.setc (.con (.agg [(.int 0), (.int 0), (.int 0), (.int 0), (.int 0), (.int 0), (.int 0), (.int 0), (.int 0)])) 0 (.nth (.cell (.o 3) 15) (.r 8))) 0)), (23, (.con .none)), (9, (.con .none)), (22, (.nth (.cell (.o 3) 15) (.r 8))), (21, (.ref (.nth (.cell (.o 3) 15) (.r 8)))), (20, (.r 8)), (19, (.cell (.o 3) 15)), (18, (.con .none))], [(9, (.setc (.con (.agg [(.int 0), (.int 0), (.int 0), (.int 0), (.int 0), (.int 0), (.int 0), (.int 0), (.int 0)])) 0 (.nth (.cell (.o 3) 15) (.r 8)))), (9, (.con (.agg [(.int 0), (.int 0), (.int 0), (.int 0), (.int 0), (.int 0), (.int 0), (.int 0), (.int 0)])))]⟩ [(38, true)] 42 12 [(.r 39), (.r 40), (.r 41)]
   (.ite (.pick (.r 38) (.nt (.r 42)) (.con (.bool false)))
    (.chk (.ci .leq (.llen (.app (.o 7) (.lst [(.r 8)]))) (.con (.int 4294967296)))
    (.next ⟨[(7, (.con .none)), (44, (.pick (.r 38) (.nt (.r 42)) (.con (.bool false)))), (43, (.nt (.r 42)))], [(7, (.app (.o 7) (.lst [(.r 8)])))]⟩))
    (.next ⟨[(7, (.r 7)), (44, (.pick (.r 38) (.nt (.r 42)) (.con (.bool false)))), (43, (.nt (.r 42)))], [(7, (.o 7))]⟩))))
  (.next ⟨[(7, (.r 7)), (8, (.ai .add .i64 (.r 8) (.con (.int 1))))], [(7, (.o 7))]⟩))
  (.exit 0 ⟨[(7, (.r 7)), (8, (.r 8)), (11, (.r 8)), (12, (.con .none)), (13, (.cell (.o 3) 15)), (14, (.llen (.cell (.o 3) 15))), (15, (.ci .lss (.r 8) (.llen (.cell (.o 3) 15))))], [(7, (.o 7))]⟩))
theorem rd24_0_eq : round 0 [7, 8, 11, 12, 13, 14, 15] [7] [7, 8] [7] bd24_0 = rd24_0 := by kernel_rfl
def pc24 : PC :=
 (.seq
  (.is [.setO 3 (.mk [(.r 0)]),
    .setR 3 (.con .none),
    .setR 6 (.con (.list []))])
  (.seq
   (.is [.setO 10 (.lst []),
     .setR 10 (.con .none),
     .setR 7 (.r 10),
     .setO 7 (.o 10)])
   (.seq
    (.seq
     (.is [.setR 8 (.con (.int 0))])
     lp24_0)
    (.seq
     (.is [.setR 49 (.r 7),
       .setR 6 (.o 7)])
     (.ret (.r 6))))))
def tr24 : PT :=
 (.brk ⟨[(8, (.con (.int 0))), (7, (.con .none)), (10, (.con .none)), (6, (.con (.list []))), (3, (.con .none))], [(7, (.lst [])), (10, (.lst [])), (3, (.mk [(.r 0)]))]⟩
  lp24_0
 (.ret (.o 7)))
theorem tr24_eq : tree pc24 = tr24 := by kernel_rfl
/-! allonge/allongeref13.right -/
def pc25 : PC :=
 (.seq
  (.is [.setR 4 (.con (.int 0))])
  (.seq
   (.seq
    (.is [.setR 5 (.r 1),
      .setR 6 (.ai .and .i64 (.r 5) (.con (.int 2))),
      .setR 7 (.ci .neq (.r 6) (.con (.int 0))),
      .setR 8 (.r 7),
      .setR 9 (.r 0),
      .setR 10 (.ci .neq (.r 9) (.con (.int 0))),
      .setR 11 (.pick (.r 8) (.con (.bool true)) (.r 10))])
    (.ite (.r 11) [4] []
     (.seq
      (.is [.setR 4 (.con (.int 1))])
      (.ret (.r 4)))
     .skip))
   (.seq
    (.seq
     (.is [.setR 12 (.r 1),
       .setR 13 (.ai .and .i64 (.r 12) (.con (.int 4))),
       .setR 14 (.ci .neq (.r 13) (.con (.int 0)))])
     (.ite (.r 14) [4] []
      (.seq
       (.is [.setR 4 (.con (.int 2))])
       (.ret (.r 4)))
      .skip))
    (.seq
     (.is [.setR 4 (.con (.int 0))])
     (.ret (.r 4))))))
def tr25 : PT :=
 (.ite (.pick (.ci .neq (.ai .and .i64 (.r 1) (.con (.int 2))) (.con (.int 0))) (.con (.bool true)) (.ci .neq (.r 0) (.con (.int 0))))
  (.ret (.con (.int 1)))
  (.ite (.ci .neq (.ai .and .i64 (.r 1) (.con (.int 4))) (.con (.int 0)))
   (.ret (.con (.int 2)))
   (.ret (.con (.int 0)))))
theorem tr25_eq : tree pc25 = tr25 := by kernel_rfl
/-! allonge/allongeref13.late -/
def bd26_0 : PC :=
 (.seq
  (.seq
   (.is [.setR 9 (.r 7),
     .setR 10 (.con .none),
     .setR 11 (.cell (.o 3) 17),
     .setR 12 (.llen (.r 11)),
     .setR 13 (.ci .lss (.r 9) (.r 12))])
   (.ite (.r 13) [] []
    .skip
    (.exit 0)))
  (.seq
   (.block 1 [6, 8, 16, 17, 18, 19, 20, 21, 22, 23, 24, 28, 29, 33, 34, 39, 40, 45] [8]
    (.seq
     (.is [.setR 16 (.con .none),
       .setR 17 (.cell (.o 3) 17),
       .setR 18 (.r 7),
       .chk (.idx (.r 17) (.r 18)),
       .setR 19 (.ref (.nth (.r 17) (.r 18))),
       .setR 20 (.deref (.r 19)),
       .setO 8 (.con (.agg [(.int 0), (.int 0), (.int 0), (.int 0), (.int 0), (.int 0), (.int 0), (.int 0), (.int 0)])),
       .setR 8 (.con .none),
       .setO 8 (.setc (.o 8) 0 (.r 20))])
     (.seq
      (.is [.setR 21 (.con .none),
        .setR 22 (.cell (.o 8) 0),
        .setR 23 (.ci .eql (.r 22) (.con (.int 1))),
        .setR 24 (.r 23),
        .setR 25 (.con .none),
        .setR 26 (.cell (.o 8) 0),
        .setR 27 (.ci .eql (.r 26) (.con (.int 3))),
        .setR 28 (.pick (.r 24) (.con (.bool true)) (.r 27)),
        .setR 29 (.r 28),
        .setR 30 (.con .none),
        .setR 31 (.cell (.o 8) 0),
        .setR 32 (.ci .eql (.r 31) (.con (.int 4))),
        .setR 33 (.pick (.r 29) (.con (.bool true)) (.r 32)),
        .setR 34 (.r 33),
        .setR 35 (.con .none),
        .setR 36 (.cell (.o 8) 6),
        .setR 37 (.r 2),
        .setR 38 (.ci .leq (.r 36) (.r 37)),
        .setR 39 (.pick (.r 34) (.r 38) (.con (.bool false))),
        .setR 40 (.r 39),
        .setR 41 (.con .none),
        .setR 42 (.cell (.o 8) 6),
        .setR 43 (.r 1),
        .setR 44 (.ci .lss (.r 42) (.r 43)),
        .setR 45 (.pick (.r 40) (.r 44) (.con (.bool false)))])
      (.ite (.r 45) [6] []
       (.seq
        (.is [.setR 6 (.con (.bool true))])
        (.ret (.r 6)))
       .skip))))
   (.is [.setR 14 (.r 7),
     .setR 15 (.ai .add .i64 (.r 14) (.con (.int 1))),
     .setR 7 (.r 15)])))
def lp26_0 : PC := .block 0 [6, 7, 9, 10, 11, 12, 13] [] (.loop [6, 7] [] bd26_0)
def rd26_0 : PT :=
 (.ite (.ci .lss (.r 7) (.llen (.cell (.o 3) 17)))
  (.chk (.idx (.cell (.o 3) 17) (.r 7))
  (.ite (.pick (.pick (.pick (.pick (.ci .eql (.cell (.setc (.con (.agg [(.int 0), (.int 0), (.int 0), (.int 0), (.int 0), (.int 0), (.int 0), (.int 0), (.int 0)])) 0 (.nth (.cell (.o 3) 17) (.r 7))) 0) (.con (.int 1))) (.con (.bool true)) (.ci .eql (.cell (.setc (.con (.agg [(.int 0), (.int 0), (.int 0), (.int 0), (.int 0), (.int 0), (.int 0), (.int 0), (.int 0)])) 0 (.nth (.cell (.o 3) 17) (.r 7))) 0) (.con (.int 3)))) (.con (.bool true)) (.ci .eql (.cell (.setc (.con (.agg [(.int 0), (.int 0), (.int 0), (.int 0), (.int 0), (.int 0), (.int 0), (.int 0), (.int 0)])) 0 (.nth (.cell (.o 3) 17) (.r 7))) 0) (.con (.int 4)))) (.ci .leq (.cell (.setc (.con (.agg [(.int 0), (.int 0), (.int 0), (.int 0), (.int 0), (.int 0), (.int 0), (.int 0), (.int 0)])) 0 (.nth (.cell (.o 3) 17) (.r 7))) 6) (.r 2)) (.con (.bool false))) (.ci .lss (.cell (.setc (.con (.agg [(.int 0), (.int 0), (.int 0), (.int 0), (.int 0), (.int 0), (.int 0), (.int 0), (.int 0)])) 0 (.nth (.cell (.o 3) 17) (.r 7))) 6) (.r 1)) (.con (.bool false)))
   (.ret (.con (.bool true)))
   (.next ⟨[(6, (.r 6)), (7, (.ai .add .i64 (.r 7) (.con (.int 1))))], []⟩)))
  (.exit 0 ⟨[(6, (.r 6)), (7, (.r 7)), (9, (.r 7)), (10, (.con .none)), (11, (.cell (.o 3) 17)), (12, (.llen (.cell (.o 3) 17))), (13, (.ci .lss (.r 7) (.llen (.cell (.o 3) 17))))], []⟩))
theorem rd26_0_eq : round 0 [6, 7, 9, 10, 11, 12, 13] [] [6, 7] [] bd26_0 = rd26_0 := by kernel_rfl
def pc26 : PC :=
 (.seq
  (.is [.setO 3 (.mk [(.r 0)]),
    .setR 3 (.con .none),
    .setR 6 (.con (.bool false))])
  (.seq
   (.seq
    (.is [.setR 7 (.con (.int 0))])
    lp26_0)
   (.seq
    (.is [.setR 6 (.con (.bool false))])
    (.ret (.r 6)))))
def tr26 : PT :=
 (.brk ⟨[(7, (.con (.int 0))), (6, (.con (.bool false))), (3, (.con .none))], [(3, (.mk [(.r 0)]))]⟩
  lp26_0
 (.ret (.con (.bool false))))
theorem tr26_eq : tree pc26 = tr26 := by kernel_rfl
/-! allonge/allongeref13.Same -/
def pc13 : PC :=
 (.seq
  (.is [.setO 2 (.mk [(.r 0)]),
    .setR 2 (.con .none),
    .setO 3 (.mk [(.r 1)]),
    .setR 3 (.con .none),
    .setR 4 (.con (.bool false))])
  (.seq
   (.is [.setR 5 (.con .none),
     .setR 6 (.cell (.o 2) 0),
     .setR 7 (.con .none),
     .setR 8 (.cell (.o 3) 0),
     .call [] 9 16 [(.r 6), (.r 8)],
     .setR 10 (.r 9),
     .setR 11 (.con .none),
     .setR 12 (.cell (.o 2) 1),
     .setR 13 (.con .none),
     .setR 14 (.cell (.o 3) 1),
     .setR 15 (.ci .eql (.r 12) (.r 14)),
     .setR 16 (.pick (.r 10) (.r 15) (.con (.bool false))),
     .setR 17 (.r 16),
     .setR 18 (.con .none),
     .setR 19 (.cell (.o 2) 2),
     .setR 20 (.con .none),
     .setR 21 (.cell (.o 3) 2),
     .setR 22 (.ci .eql (.r 19) (.r 21)),
     .setR 23 (.pick (.r 17) (.r 22) (.con (.bool false))),
     .setR 24 (.r 23),
     .setR 25 (.con .none),
     .setR 26 (.cell (.o 2) 3),
     .setR 27 (.con .none),
     .setR 28 (.cell (.o 3) 3),
     .setR 29 (.cb .eql (.r 26) (.r 28)),
     .setR 30 (.pick (.r 24) (.r 29) (.con (.bool false))),
     .setR 31 (.r 30),
     .setR 32 (.con .none),
     .setR 33 (.cell (.o 2) 4),
     .setR 34 (.con .none),
     .setR 35 (.cell (.o 3) 4),
     .setR 36 (.ci .eql (.r 33) (.r 35)),
     .setR 37 (.pick (.r 31) (.r 36) (.con (.bool false))),
     .setR 38 (.r 37),
     .setR 39 (.con .none),
     .setR 40 (.cell (.o 2) 5),
     .setR 41 (.con .none),
     .setR 42 (.cell (.o 3) 5),
     .call [(38, true)] 43 16 [(.r 40), (.r 42)],
     .setR 44 (.pick (.r 38) (.r 43) (.con (.bool false))),
     .setR 4 (.r 44)])
   (.ret (.r 4))))
def tr13 : PT :=
 (.call ⟨[(8, (.cell (.mk [(.r 1)]) 0)), (7, (.con .none)), (6, (.cell (.mk [(.r 0)]) 0)), (5, (.con .none)), (4, (.con (.bool false))), (3, (.con .none)), (2, (.con .none))], [(3, (.mk [(.r 1)])), (2, (.mk [(.r 0)]))]⟩ [] 9 16 [(.r 6), (.r 8)]
 (.call ⟨[(42, (.cell (.o 3) 5)), (41, (.con .none)), (40, (.cell (.o 2) 5)), (39, (.con .none)), (38, (.pick (.pick (.pick (.pick (.r 9) (.ci .eql (.cell (.o 2) 1) (.cell (.o 3) 1)) (.con (.bool false))) (.ci .eql (.cell (.o 2) 2) (.cell (.o 3) 2)) (.con (.bool false))) (.cb .eql (.cell (.o 2) 3) (.cell (.o 3) 3)) (.con (.bool false))) (.ci .eql (.cell (.o 2) 4) (.cell (.o 3) 4)) (.con (.bool false)))), (37, (.pick (.pick (.pick (.pick (.r 9) (.ci .eql (.cell (.o 2) 1) (.cell (.o 3) 1)) (.con (.bool false))) (.ci .eql (.cell (.o 2) 2) (.cell (.o 3) 2)) (.con (.bool false))) (.cb .eql (.cell (.o 2) 3) (.cell (.o 3) 3)) (.con (.bool false))) (.ci .eql (.cell (.o 2) 4) (.cell (.o 3) 4)) (.con (.bool false)))), (36, (.ci .eql (.cell (.o 2) 4) (.cell (.o 3) 4))), (35, (.cell (.o 3) 4)), (34, (.con .none)), (33, (.cell (.o 2) 4)), (32, (.con .none)), (31, (.pick (.pick (.pick (.r 9) (.ci .eql (.cell (.o 2) 1) (.cell (.o 3) 1)) (.con (.bool false))) (.ci .eql (.cell (.o 2) 2) (.cell (.o 3) 2)) (.con (.bool false))) (.cb .eql (.cell (.o 2) 3) (.cell (.o 3) 3)) (.con (.bool false)))), (30, (.pick (.pick (.pick (.r 9) (.ci .eql (.cell (.o 2) 1) (.cell (.o 3) 1)) (.con (.bool false))) (.ci .eql (.cell (.o 2) 2) (.cell (.o 3) 2)) (.con (.bool false))) (.cb .eql (.cell (.o 2) 3) (.cell (.o 3) 3)) (.con (.bool false)))), (29, (.cb .eql (.cell (.o 2) 3) (.cell (.o 3) 3))), (28, (.cell (.o 3) 3)), (27, (.con .none)), (26, (.cell (.o 2) 3)), (25, (.con .none)), (24, (.pick (.pick (.r 9) (.ci .eql (.cell (.o 2) 1) (.cell (.o 3) 1)) (.con (.bool false))) (.ci .eql (.cell (.o 2) 2) (.cell (.o 3) 2)) (.con (.bool false)))), (23, (.pick (.pick (.r 9) (.ci .eql (.cell (.o 2) 1) (.cell (.o 3) 1)) (.con (.bool false))) (.ci .eql (.cell (.o 2) 2) (.cell (.o 3) 2)) (.con (.bool false)))), (22, (.ci .eql (.cell (.o 2) 2) (.cell (.o 3) 2))), (21, (.cell (.o 3) 2)), (20, (.con .none)), (19, (.cell (.o 2) 2)), (18, (.con .none)), (17, (.pick (.r 9) (.ci .eql (.cell (.o 2) 1) (.cell (.o 3) 1)) (.con (.bool false)))), (16, (.pick (.r 9) (.ci .eql (.cell (.o 2) 1) (.cell (.o 3) 1)) (.con (.bool false)))), (15, (.ci .eql (.cell (.o 2) 1) (.cell (.o 3) 1))), (14, (.cell (.o 3) 1)), (13, (.con .none)), (12, (.cell (.o 2) 1)), (11, (.con .none)), (10, (.r 9))], []⟩ [(38, true)] 43 16 [(.r 40), (.r 42)]
 (.ret (.pick (.r 38) (.r 43) (.con (.bool false))))))
theorem tr13_eq : tree pc13 = tr13 := by kernel_rfl
/-! allonge/allongeref13.SameInts -/
def bd16_0 : PC :=
 (.seq
  (.seq
   (.is [.setR 11 (.r 5),
     .setR 12 (.r 0),
     .setR 13 (.llen (.r 12)),
     .setR 14 (.ci .lss (.r 11) (.r 13))])
   (.ite (.r 14) [] []
    .skip
    (.exit 0)))
  (.seq
   (.block 1 [4, 17, 18, 19, 20, 21, 22, 23, 24, 25] []
    (.seq
     (.is [.setR 17 (.r 0),
       .setR 18 (.r 5),
       .chk (.idx (.r 17) (.r 18)),
       .setR 19 (.ref (.nth (.r 17) (.r 18))),
       .setR 20 (.deref (.r 19)),
       .setR 21 (.r 1),
       .setR 22 (.r 5),
       .chk (.idx (.r 21) (.r 22)),
       .setR 23 (.ref (.nth (.r 21) (.r 22))),
       .setR 24 (.deref (.r 23)),
       .setR 25 (.ci .neq (.r 20) (.r 24))])
     (.ite (.r 25) [4] []
      (.seq
       (.is [.setR 4 (.con (.bool false))])
       (.ret (.r 4)))
      .skip)))
   (.is [.setR 15 (.r 5),
     .setR 16 (.ai .add .i64 (.r 15) (.con (.int 1))),
     .setR 5 (.r 16)])))
def lp16_0 : PC := .block 0 [4, 5, 11, 12, 13, 14] [] (.loop [4, 5] [] bd16_0)
def rd16_0 : PT :=
 (.ite (.ci .lss (.r 5) (.llen (.r 0)))
  (.chk (.idx (.r 0) (.r 5))
  (.chk (.idx (.r 1) (.r 5))
  (.ite (.ci .neq (.nth (.r 0) (.r 5)) (.nth (.r 1) (.r 5)))
   (.ret (.con (.bool false)))
   (.next ⟨[(4, (.r 4)), (5, (.ai .add .i64 (.r 5) (.con (.int 1))))], []⟩))))
  (.exit 0 ⟨[(4, (.r 4)), (5, (.r 5)), (11, (.r 5)), (12, (.r 0)), (13, (.llen (.r 0))), (14, (.ci .lss (.r 5) (.llen (.r 0))))], []⟩))
theorem rd16_0_eq : round 0 [4, 5, 11, 12, 13, 14] [] [4, 5] [] bd16_0 = rd16_0 := by kernel_rfl
def pc16 : PC :=
 (.seq
  (.is [.setR 4 (.con (.bool false))])
  (.seq
   (.seq
    (.is [.setR 6 (.r 0),
      .setR 7 (.llen (.r 6)),
      .setR 8 (.r 1),
      .setR 9 (.llen (.r 8)),
      .setR 10 (.ci .neq (.r 7) (.r 9))])
    (.ite (.r 10) [4] []
     (.seq
      (.is [.setR 4 (.con (.bool false))])
      (.ret (.r 4)))
     .skip))
   (.seq
    (.seq
     (.is [.setR 5 (.con (.int 0))])
     lp16_0)
    (.seq
     (.is [.setR 4 (.con (.bool true))])
     (.ret (.r 4))))))
def tr16 : PT :=
 (.ite (.ci .neq (.llen (.r 0)) (.llen (.r 1)))
  (.ret (.con (.bool false)))
  (.brk ⟨[(5, (.con (.int 0))), (4, (.con (.bool false))), (10, (.ci .neq (.llen (.r 0)) (.llen (.r 1)))), (9, (.llen (.r 1))), (8, (.r 1)), (7, (.llen (.r 0))), (6, (.r 0)), (4, (.con (.bool false)))], []⟩
   lp16_0
  (.ret (.con (.bool true)))))
theorem tr16_eq : tree pc16 = tr16 := by kernel_rfl
/-! allonge/allongeref13.Rivals -/
def bd18_0 : PC :=
 (.seq
  (.seq
   (.is [.setR 27 (.r 9),
     .setR 28 (.con .none),
     .setR 29 (.con .none),
     .setR 30 (.cell (.o 2) 14),
     .setR 31 (.ci .lss (.r 27) (.r 30)),
     .setR 32 (.r 31),
     .setR 33 (.r 9),
     .setR 34 (.ci .lss (.r 33) (.con (.int 4))),
     .setR 35 (.pick (.r 32) (.r 34) (.con (.bool false)))])
   (.ite (.r 35) [] []
    .skip
    (.exit 2)))
  (.seq
   (.block 3 [8, 10, 38, 39, 40, 41, 42, 43, 55] [10, 4106, 24586]
    (.seq
     (.is [.setR 38 (mkA 19 (.o 2)),
       .setR 39 (.r 9),
       .setR 40 (.r 1),
       .call [] 41 15 [(.r 38), (.r 39), (.r 40)],
       .setO 10 (.con (.agg [(.list []), (.int 0), (.int 0), (.bool false), (.int 0), (.list [])])),
       .setR 10 (.con .none),
       .setO 4106 (.con (.list [])),
       .setO 24586 (.con (.list [])),
       .setO 10 (.setc (.o 10) 0 (.r 41))])
     (.is [.setR 42 (.r 8),
       .setR 43 (.r 42),
       .setR 44 (.con .none),
       .setR 45 (.cell (.o 10) 0),
       .setR 46 (.llen (.r 45)),
       .setR 47 (.ci .gtr (.r 46) (.con (.int 0))),
       .setR 48 (.r 47),
       .setR 49 (.con .none),
       .setR 50 (.cell (.o 10) 1),
       .setR 51 (.con .none),
       .setR 52 (.cell (.o 7) 1),
       .setR 53 (.ci .neq (.r 50) (.r 52)),
       .setR 54 (.pick (.r 48) (.r 53) (.con (.bool false))),
       .setR 55 (.pick (.r 43) (.con (.bool true)) (.r 54)),
       .setR 8 (.r 55)])))
   (.is [.setR 36 (.r 9),
     .setR 37 (.ai .add .i64 (.r 36) (.con (.int 1))),
     .setR 9 (.r 37)])))
def lp18_0 : PC := .block 2 [8, 9, 27, 28, 29, 30, 31, 32, 35] [] (.loop [8, 9] [] bd18_0)
def rd18_0 : PT :=
 (.ite (.pick (.ci .lss (.r 9) (.cell (.o 2) 14)) (.ci .lss (.r 9) (.con (.int 4))) (.con (.bool false)))
  (.blockS ⟨[(35, (.pick (.ci .lss (.r 9) (.cell (.o 2) 14)) (.ci .lss (.r 9) (.con (.int 4))) (.con (.bool false)))), (34, (.ci .lss (.r 9) (.con (.int 4)))), (33, (.r 9)), (32, (.ci .lss (.r 9) (.cell (.o 2) 14))), (31, (.ci .lss (.r 9) (.cell (.o 2) 14))), (30, (.cell (.o 2) 14)), (29, (.con .none)), (28, (.con .none)), (27, (.r 9))], []⟩ 3 [8, 10, 38, 39, 40, 41, 42, 43, 55] [10, 4106, 24586]
   (.call ⟨[(40, (.r 1)), (39, (.r 9)), (38, (mkA 19 (.o 2)))], []⟩ [] 41 15 [(.r 38), (.r 39), (.r 40)]
   (.next ⟨[(8, (.pick (.r 8) (.con (.bool true)) (.pick (.ci .gtr (.llen (.cell (.setc (.con (.agg [(.list []), (.int 0), (.int 0), (.bool false), (.int 0), (.list [])])) 0 (.r 41)) 0)) (.con (.int 0))) (.ci .neq (.cell (.setc (.con (.agg [(.list []), (.int 0), (.int 0), (.bool false), (.int 0), (.list [])])) 0 (.r 41)) 1) (.cell (.o 7) 1)) (.con (.bool false))))), (55, (.pick (.r 8) (.con (.bool true)) (.pick (.ci .gtr (.llen (.cell (.setc (.con (.agg [(.list []), (.int 0), (.int 0), (.bool false), (.int 0), (.list [])])) 0 (.r 41)) 0)) (.con (.int 0))) (.ci .neq (.cell (.setc (.con (.agg [(.list []), (.int 0), (.int 0), (.bool false), (.int 0), (.list [])])) 0 (.r 41)) 1) (.cell (.o 7) 1)) (.con (.bool false))))), (54, (.pick (.ci .gtr (.llen (.cell (.setc (.con (.agg [(.list []), (.int 0), (.int 0), (.bool false), (.int 0), (.list [])])) 0 (.r 41)) 0)) (.con (.int 0))) (.ci .neq (.cell (.setc (.con (.agg [(.list []), (.int 0), (.int 0), (.bool false), (.int 0), (.list [])])) 0 (.r 41)) 1) (.cell (.o 7) 1)) (.con (.bool false)))), (53, (.ci .neq (.cell (.setc (.con (.agg [(.list []), (.int 0), (.int 0), (.bool false), (.int 0), (.list [])])) 0 (.r 41)) 1) (.cell (.o 7) 1))), (52, (.cell (.o 7) 1)), (51, (.con .none)), (50, (.cell (.setc (.con (.agg [(.list []), (.int 0), (.int 0), (.bool false), (.int 0), (.list [])])) 0 (.r 41)) 1)), (49, (.con .none)), (48, (.ci .gtr (.llen (.cell (.setc (.con (.agg [(.list []), (.int 0), (.int 0), (.bool false), (.int 0), (.list [])])) 0 (.r 41)) 0)) (.con (.int 0)))), (47, (.ci .gtr (.llen (.cell (.setc (.con (.agg [(.list []), (.int 0), (.int 0), (.bool false), (.int 0), (.list [])])) 0 (.r 41)) 0)) (.con (.int 0)))), (46, (.llen (.cell (.setc (.con (.agg [(.list []), (.int 0), (.int 0), (.bool false), (.int 0), (.list [])])) 0 (.r 41)) 0))), (45, (.cell (.setc (.con (.agg [(.list []), (.int 0), (.int 0), (.bool false), (.int 0), (.list [])])) 0 (.r 41)) 0)), (44, (.con .none)), (43, (.r 8)), (42, (.r 8)), (10, (.con .none))], [(10, (.setc (.con (.agg [(.list []), (.int 0), (.int 0), (.bool false), (.int 0), (.list [])])) 0 (.r 41))), (24586, (.con (.list []))), (4106, (.con (.list []))), (10, (.con (.agg [(.list []), (.int 0), (.int 0), (.bool false), (.int 0), (.list [])])))]⟩))
  (.next ⟨[(8, (.r 8)), (9, (.ai .add .i64 (.r 9) (.con (.int 1))))], []⟩))
  (.exit 2 ⟨[(8, (.r 8)), (9, (.r 9)), (27, (.r 9)), (28, (.con .none)), (29, (.con .none)), (30, (.cell (.o 2) 14)), (31, (.ci .lss (.r 9) (.cell (.o 2) 14))), (32, (.ci .lss (.r 9) (.cell (.o 2) 14))), (35, (.pick (.ci .lss (.r 9) (.cell (.o 2) 14)) (.ci .lss (.r 9) (.con (.int 4))) (.con (.bool false))))], []⟩))
theorem rd18_0_eq : round 2 [8, 9, 27, 28, 29, 30, 31, 32, 35] [] [8, 9] [] bd18_0 = rd18_0 := by kernel_rfl
def bd18_1 : PC :=
 (.seq
  (.seq
   (.is [.setR 12 (.r 6),
     .setR 13 (.con .none),
     .setR 14 (.con .none),
     .setR 15 (.cell (.o 2) 14),
     .setR 16 (.ci .lss (.r 12) (.r 15)),
     .setR 17 (.r 16),
     .setR 18 (.r 6),
     .setR 19 (.ci .lss (.r 18) (.con (.int 4))),
     .setR 20 (.pick (.r 17) (.r 19) (.con (.bool false)))])
   (.ite (.r 20) [] []
    .skip
    (.exit 0)))
  (.seq
   (.block 1 [5, 7, 8, 9, 23, 24, 25, 26, 27, 28, 29, 30, 31, 32, 35, 56, 57, 62] [7, 4103, 24583, 5]
    (.seq
     (.is [.setR 23 (mkA 19 (.o 2)),
       .setR 24 (.r 6),
       .setR 25 (.r 1),
       .call [] 26 15 [(.r 23), (.r 24), (.r 25)],
       .setO 7 (.con (.agg [(.list []), (.int 0), (.int 0), (.bool false), (.int 0), (.list [])])),
       .setR 7 (.con .none),
       .setO 4103 (.con (.list [])),
       .setO 24583 (.con (.list [])),
       .setO 7 (.setc (.o 7) 0 (.r 26))])
     (.seq
      (.is [.setR 8 (.con (.bool false))])
      (.seq
       (.seq
        (.is [.setR 9 (.con (.int 0))])
        lp18_0)
       (.seq
        (.is [.setR 56 (.r 8),
          .setR 57 (.r 56),
          .setR 58 (.con .none),
          .setR 59 (.cell (.o 7) 0),
          .setR 60 (.llen (.r 59)),
          .setR 61 (.ci .gtr (.r 60) (.con (.int 0))),
          .setR 62 (.pick (.r 57) (.r 61) (.con (.bool false)))])
        (.ite (.r 62) [5] [5]
         (.is [.setR 63 (.r 5),
           .setR 64 (.r 6),
           .setO 65 (.lst [(.r 64)]),
           .setR 65 (.con .none),
           .chk (.ci .leq (.llen (.app (.o 5) (.o 65))) (.con (.int 4294967296))),
           .setO 5 (.app (.o 5) (.o 65)),
           .setR 66 (.con .none),
           .setR 5 (.r 66)])
         .skip))))))
   (.is [.setR 21 (.r 6),
     .setR 22 (.ai .add .i64 (.r 21) (.con (.int 1))),
     .setR 6 (.r 22)])))
def lp18_1 : PC := .block 0 [5, 6, 12, 13, 14, 15, 16, 17, 20] [5] (.loop [5, 6] [5] bd18_1)
def rd18_1 : PT :=
 (.ite (.pick (.ci .lss (.r 6) (.cell (.o 2) 14)) (.ci .lss (.r 6) (.con (.int 4))) (.con (.bool false)))
  (.blockS ⟨[(20, (.pick (.ci .lss (.r 6) (.cell (.o 2) 14)) (.ci .lss (.r 6) (.con (.int 4))) (.con (.bool false)))), (19, (.ci .lss (.r 6) (.con (.int 4)))), (18, (.r 6)), (17, (.ci .lss (.r 6) (.cell (.o 2) 14))), (16, (.ci .lss (.r 6) (.cell (.o 2) 14))), (15, (.cell (.o 2) 14)), (14, (.con .none)), (13, (.con .none)), (12, (.r 6))], []⟩ 1 [5, 7, 8, 9, 23, 24, 25, 26, 27, 28, 29, 30, 31, 32, 35, 56, 57, 62] [7, 4103, 24583, 5]
   (.call ⟨[(25, (.r 1)), (24, (.r 6)), (23, (mkA 19 (.o 2)))], []⟩ [] 26 15 [(.r 23), (.r 24), (.r 25)]
   (.brk ⟨[(9, (.con (.int 0))), (8, (.con (.bool false))), (7, (.con .none))], [(7, (.setc (.con (.agg [(.list []), (.int 0), (.int 0), (.bool false), (.int 0), (.list [])])) 0 (.r 26))), (24583, (.con (.list []))), (4103, (.con (.list []))), (7, (.con (.agg [(.list []), (.int 0), (.int 0), (.bool false), (.int 0), (.list [])])))]⟩
    lp18_0
   (.ite (.pick (.r 8) (.ci .gtr (.llen (.cell (.o 7) 0)) (.con (.int 0))) (.con (.bool false)))
    (.chk (.ci .leq (.llen (.app (.o 5) (.lst [(.r 6)]))) (.con (.int 4294967296)))
    (.next ⟨[(5, (.con .none)), (62, (.pick (.r 8) (.ci .gtr (.llen (.cell (.o 7) 0)) (.con (.int 0))) (.con (.bool false)))), (61, (.ci .gtr (.llen (.cell (.o 7) 0)) (.con (.int 0)))), (60, (.llen (.cell (.o 7) 0))), (59, (.cell (.o 7) 0)), (58, (.con .none)), (57, (.r 8)), (56, (.r 8))], [(5, (.app (.o 5) (.lst [(.r 6)])))]⟩))
    (.next ⟨[(5, (.r 5)), (62, (.pick (.r 8) (.ci .gtr (.llen (.cell (.o 7) 0)) (.con (.int 0))) (.con (.bool false)))), (61, (.ci .gtr (.llen (.cell (.o 7) 0)) (.con (.int 0)))), (60, (.llen (.cell (.o 7) 0))), (59, (.cell (.o 7) 0)), (58, (.con .none)), (57, (.r 8)), (56, (.r 8))], [(5, (.o 5))]⟩))))
  (.next ⟨[(5, (.r 5)), (6, (.ai .add .i64 (.r 6) (.con (.int 1))))], [(5, (.o 5))]⟩))
  (.exit 0 ⟨[(5, (.r 5)), (6, (.r 6)), (12, (.r 6)), (13, (.con .none)), (14, (.con .none)), (15, (.cell (.o 2) 14)), (16, (.ci .lss (.r 6) (.cell (.o 2) 14))), (17, (.ci .lss (.r 6) (.cell (.o 2) 14))), (20, (.pick (.ci .lss (.r 6) (.cell (.o 2) 14)) (.ci .lss (.r 6) (.con (.int 4))) (.con (.bool false))))], [(5, (.o 5))]⟩))
theorem rd18_1_eq : round 0 [5, 6, 12, 13, 14, 15, 16, 17, 20] [5] [5, 6] [5] bd18_1 = rd18_1 := by kernel_rfl
def pc18 : PC :=
 (.seq
  (.is [.setO 2 (.mk [(.r 0)]),
    .setR 2 (.con .none),
    .setR 4 (.con (.list []))])
  (.seq
   (.is [.setO 11 (.lst []),
     .setR 11 (.con .none),
     .setR 5 (.r 11),
     .setO 5 (.o 11)])
   (.seq
    (.seq
     (.is [.setR 6 (.con (.int 0))])
     lp18_1)
    (.seq
     (.is [.setR 67 (.r 5),
       .setR 4 (.o 5)])
     (.ret (.r 4))))))
def tr18 : PT :=
 (.brk ⟨[(6, (.con (.int 0))), (5, (.con .none)), (11, (.con .none)), (4, (.con (.list []))), (2, (.con .none))], [(5, (.lst [])), (11, (.lst [])), (2, (.mk [(.r 0)]))]⟩
  lp18_1
 (.ret (.o 5)))
theorem tr18_eq : tree pc18 = tr18 := by kernel_rfl
/-! allonge/allongelaw13.TitleLinks -/
def bd4_0 : PC :=
 (.seq
  (.seq
   (.is [.setR 26 (.r 11),
     .setR 27 (.con .none),
     .setR 28 (.cell (.o 3) 15),
     .setR 29 (.llen (.r 28)),
     .setR 30 (.ci .lss (.r 26) (.r 29)),
     .setR 31 (.r 30),
     .setR 32 (.r 11),
     .setR 33 (.con .none),
     .setR 34 (.cell (.o 8) 2),
     .setR 35 (.ci .neq (.r 32) (.r 34)),
     .setR 36 (.pick (.r 31) (.r 35) (.con (.bool false)))])
   (.ite (.r 36) [] []
    .skip
    (.exit 0)))
  (.seq
   (.block 1 [6, 9, 10, 12, 39, 40, 41, 42, 43, 44, 45, 46, 47, 52, 53, 58, 59, 64] [12]
    (.seq
     (.is [.setR 39 (.con .none),
       .setR 40 (.cell (.o 3) 15),
       .setR 41 (.r 11),
       .chk (.idx (.r 40) (.r 41)),
       .setR 42 (.ref (.nth (.r 40) (.r 41))),
       .setR 43 (.deref (.r 42)),
       .setO 12 (.con (.agg [(.int 0), (.int 0), (.int 0), (.int 0), (.int 0), (.int 0), (.int 0), (.int 0), (.int 0)])),
       .setR 12 (.con .none),
       .setO 12 (.setc (.o 12) 0 (.r 43))])
     (.seq
      (.seq
       (.is [.setR 44 (.con .none),
         .setR 45 (.cell (.o 12) 0),
         .setR 46 (.ci .neq (.r 45) (.con (.int 2))),
         .setR 47 (.r 46),
         .setR 48 (.con .none),
         .setR 49 (.cell (.o 12) 1),
         .setR 50 (.r 1),
         .setR 51 (.ci .neq (.r 49) (.r 50)),
         .setR 52 (.pick (.r 47) (.con (.bool true)) (.r 51)),
         .setR 53 (.r 52),
         .setR 54 (.con .none),
         .setR 55 (.cell (.o 12) 6),
         .setR 56 (.r 2),
         .setR 57 (.ci .gtr (.r 55) (.r 56)),
         .setR 58 (.pick (.r 53) (.con (.bool true)) (.r 57)),
         .setR 59 (.r 58),
         .setR 60 (mkA 19 (.o 3)),
         .setR 61 (.r 11),
         .setR 62 (.r 2),
         .call [(59, false)] 63 11 [(.r 60), (.r 61), (.r 62)],
         .setR 64 (.pick (.r 59) (.con (.bool true)) (.r 63))])
       (.ite (.r 64) [] []
        (.exit 1)
        .skip))
      (.seq
       (.seq
        (.is [.setR 65 (.r 10),
          .setR 66 (.con .none),
          .setR 67 (.cell (.o 8) 0),
          .setR 68 (.llen (.r 67)),
          .setR 69 (.ci .geq (.r 65) (.r 68)),
          .setR 70 (.r 69),
          .setR 71 (.con .none),
          .setR 72 (.cell (.o 8) 0),
          .setR 73 (.r 10),
          .chk (.imp [(70, false)] (.idx (.r 72) (.r 73))),
          .setR 74 (.ref (.nth (.r 72) (.r 73))),
          .setR 75 (.deref (.r 74)),
          .setR 76 (.r 11),
          .setR 77 (.ci .neq (.r 75) (.r 76)),
          .setR 78 (.pick (.r 70) (.con (.bool true)) (.r 77)),
          .setR 79 (.r 78),
          .setR 80 (.r 9),
          .setR 81 (.ci .neq (.r 80) (.con (.int (-1)))),
          .setR 82 (.r 81),
          .setR 83 (.con .none),
          .setR 84 (.cell (.o 12) 2),
          .setR 85 (.r 9),
          .setR 86 (.ci .neq (.r 84) (.r 85)),
          .setR 87 (.pick (.r 82) (.r 86) (.con (.bool false))),
          .setR 88 (.pick (.r 79) (.con (.bool true)) (.r 87))])
        (.ite (.r 88) [6] []
         (.seq
          (.is [.setR 6 (.con (.bool false))])
          (.ret (.r 6)))
         .skip))
       (.seq
        (.is [.setR 89 (.con .none),
          .setR 90 (.cell (.o 12) 4),
          .setR 9 (.r 90)])
        (.is [.setR 91 (.r 10),
          .setR 92 (.ai .add .i64 (.r 91) (.con (.int 1))),
          .setR 10 (.r 92)]))))))
   (.is [.setR 37 (.r 11),
     .setR 38 (.ai .add .i64 (.r 37) (.con (.int 1))),
     .setR 11 (.r 38)])))
def lp4_0 : PC := .block 0 [6, 9, 10, 11, 26, 27, 28, 29, 30, 31, 36] [] (.loop [6, 9, 10, 11] [] bd4_0)
def rd4_0 : PT :=
 (.ite (.pick (.ci .lss (.r 11) (.llen (.cell (.o 3) 15))) (.ci .neq (.r 11) (.cell (.o 8) 2)) (.con (.bool false)))
  (.blockS ⟨[(36, (.pick (.ci .lss (.r 11) (.llen (.cell (.o 3) 15))) (.ci .neq (.r 11) (.cell (.o 8) 2)) (.con (.bool false)))), (35, (.ci .neq (.r 11) (.cell (.o 8) 2))), (34, (.cell (.o 8) 2)), (33, (.con .none)), (32, (.r 11)), (31, (.ci .lss (.r 11) (.llen (.cell (.o 3) 15)))), (30, (.ci .lss (.r 11) (.llen (.cell (.o 3) 15)))), (29, (.llen (.cell (.o 3) 15))), (28, (.cell (.o 3) 15)), (27, (.con .none)), (26, (.r 11))], []⟩ 1 [6, 9, 10, 12, 39, 40, 41, 42, 43, 44, 45, 46, 47, 52, 53, 58, 59, 64] [12]
   (.chk (.idx (.cell (.o 3) 15) (.r 11))
   (.call ⟨[(62, (.r 2)), (61, (.r 11)), (60, (mkA 19 (.o 3))), (59, (.pick (.pick (.ci .neq (.cell (.setc (.con (.agg [(.int 0), (.int 0), (.int 0), (.int 0), (.int 0), (.int 0), (.int 0), (.int 0), (.int 0)])) 0 (.nth (.cell (.o 3) 15) (.r 11))) 0) (.con (.int 2))) (.con (.bool true)) (.ci .neq (.cell (.setc (.con (.agg [(.int 0), (.int 0), (.int 0), (.int 0), (.int 0), (.int 0), (.int 0), (.int 0), (.int 0)])) 0 (.nth (.cell (.o 3) 15) (.r 11))) 1) (.r 1))) (.con (.bool true)) (.ci .gtr (.cell (.setc (.con (.agg [(.int 0), (.int 0), (.int 0), (.int 0), (.int 0), (.int 0), (.int 0), (.int 0), (.int 0)])) 0 (.nth (.cell (.o 3) 15) (.r 11))) 6) (.r 2)))), (58, (.pick (.pick (.ci .neq (.cell (.setc (.con (.agg [(.int 0), (.int 0), (.int 0), (.int 0), (.int 0), (.int 0), (.int 0), (.int 0), (.int 0)])) 0 (.nth (.cell (.o 3) 15) (.r 11))) 0) (.con (.int 2))) (.con (.bool true)) (.ci .neq (.cell (.setc (.con (.agg [(.int 0), (.int 0), (.int 0), (.int 0), (.int 0), (.int 0), (.int 0), (.int 0), (.int 0)])) 0 (.nth (.cell (.o 3) 15) (.r 11))) 1) (.r 1))) (.con (.bool true)) (.ci .gtr (.cell (.setc (.con (.agg [(.int 0), (.int 0), (.int 0), (.int 0), (.int 0), (.int 0), (.int 0), (.int 0), (.int 0)])) 0 (.nth (.cell (.o 3) 15) (.r 11))) 6) (.r 2)))), (57, (.ci .gtr (.cell (.setc (.con (.agg [(.int 0), (.int 0), (.int 0), (.int 0), (.int 0), (.int 0), (.int 0), (.int 0), (.int 0)])) 0 (.nth (.cell (.o 3) 15) (.r 11))) 6) (.r 2))), (56, (.r 2)), (55, (.cell (.setc (.con (.agg [(.int 0), (.int 0), (.int 0), (.int 0), (.int 0), (.int 0), (.int 0), (.int 0), (.int 0)])) 0 (.nth (.cell (.o 3) 15) (.r 11))) 6)), (54, (.con .none)), (53, (.pick (.ci .neq (.cell (.setc (.con (.agg [(.int 0), (.int 0), (.int 0), (.int 0), (.int 0), (.int 0), (.int 0), (.int 0), (.int 0)])) 0 (.nth (.cell (.o 3) 15) (.r 11))) 0) (.con (.int 2))) (.con (.bool true)) (.ci .neq (.cell (.setc (.con (.agg [(.int 0), (.int 0), (.int 0), (.int 0), (.int 0), (.int 0), (.int 0), (.int 0), (.int 0)])) 0 (.nth (.cell (.o 3) 15) (.r 11))) 1) (.r 1)))), (52, (.pick (.ci .neq (.cell (.setc (.con (.agg [(.int 0), (.int 0), (.int 0), (.int 0), (.int 0), (.int 0), (.int 0), (.int 0), (.int 0)])) 0 (.nth (.cell (.o 3) 15) (.r 11))) 0) (.con (.int 2))) (.con (.bool true)) (.ci .neq (.cell (.setc (.con (.agg [(.int 0), (.int 0), (.int 0), (.int 0), (.int 0), (.int 0), (.int 0), (.int 0), (.int 0)])) 0 (.nth (.cell (.o 3) 15) (.r 11))) 1) (.r 1)))), (51, (.ci .neq (.cell (.setc (.con (.agg [(.int 0), (.int 0), (.int 0), (.int 0), (.int 0), (.int 0), (.int 0), (.int 0), (.int 0)])) 0 (.nth (.cell (.o 3) 15) (.r 11))) 1) (.r 1))), (50, (.r 1)), (49, (.cell (.setc (.con (.agg [(.int 0), (.int 0), (.int 0), (.int 0), (.int 0), (.int 0), (.int 0), (.int 0), (.int 0)])) 0 (.nth (.cell (.o 3) 15) (.r 11))) 1)), (48, (.con .none)), (47, (.ci .neq (.cell (.setc (.con (.agg [(.int 0), (.int 0), (.int 0), (.int 0), (.int 0), (.int 0), (.int 0), (.int 0), (.int 0)])) 0 (.nth (.cell (.o 3) 15) (.r 11))) 0) (.con (.int 2)))), (46, (.ci .neq (.cell (.setc (.con (.agg [(.int 0), (.int 0), (.int 0), (.int 0), (.int 0), (.int 0), (.int 0), (.int 0), (.int 0)])) 0 (.nth (.cell (.o 3) 15) (.r 11))) 0) (.con (.int 2)))), (45, (.cell (.setc (.con (.agg [(.int 0), (.int 0), (.int 0), (.int 0), (.int 0), (.int 0), (.int 0), (.int 0), (.int 0)])) 0 (.nth (.cell (.o 3) 15) (.r 11))) 0)), (44, (.con .none)), (12, (.con .none)), (43, (.nth (.cell (.o 3) 15) (.r 11))), (42, (.ref (.nth (.cell (.o 3) 15) (.r 11)))), (41, (.r 11)), (40, (.cell (.o 3) 15)), (39, (.con .none))], [(12, (.setc (.con (.agg [(.int 0), (.int 0), (.int 0), (.int 0), (.int 0), (.int 0), (.int 0), (.int 0), (.int 0)])) 0 (.nth (.cell (.o 3) 15) (.r 11)))), (12, (.con (.agg [(.int 0), (.int 0), (.int 0), (.int 0), (.int 0), (.int 0), (.int 0), (.int 0), (.int 0)])))]⟩ [(59, false)] 63 11 [(.r 60), (.r 61), (.r 62)]
   (.ite (.pick (.r 59) (.con (.bool true)) (.r 63))
    (.exit 1 ⟨[(64, (.pick (.r 59) (.con (.bool true)) (.r 63)))], []⟩)
    (.chk (.nt (.an (.an (.nt (.ci .geq (.r 10) (.llen (.cell (.o 8) 0)))) (.con (.bool true))) (.nt (.idx (.cell (.o 8) 0) (.r 10)))))
    (.ite (.pick (.pick (.ci .geq (.r 10) (.llen (.cell (.o 8) 0))) (.con (.bool true)) (.ci .neq (.nth (.cell (.o 8) 0) (.r 10)) (.r 11))) (.con (.bool true)) (.pick (.ci .neq (.r 9) (.con (.int (-1)))) (.ci .neq (.cell (.o 12) 2) (.r 9)) (.con (.bool false))))
     (.ret (.con (.bool false)))
     (.next ⟨[(10, (.ai .add .i64 (.r 10) (.con (.int 1)))), (92, (.ai .add .i64 (.r 10) (.con (.int 1)))), (91, (.r 10)), (9, (.cell (.o 12) 4)), (90, (.cell (.o 12) 4)), (89, (.con .none)), (6, (.r 6)), (88, (.pick (.pick (.ci .geq (.r 10) (.llen (.cell (.o 8) 0))) (.con (.bool true)) (.ci .neq (.nth (.cell (.o 8) 0) (.r 10)) (.r 11))) (.con (.bool true)) (.pick (.ci .neq (.r 9) (.con (.int (-1)))) (.ci .neq (.cell (.o 12) 2) (.r 9)) (.con (.bool false))))), (87, (.pick (.ci .neq (.r 9) (.con (.int (-1)))) (.ci .neq (.cell (.o 12) 2) (.r 9)) (.con (.bool false)))), (86, (.ci .neq (.cell (.o 12) 2) (.r 9))), (85, (.r 9)), (84, (.cell (.o 12) 2)), (83, (.con .none)), (82, (.ci .neq (.r 9) (.con (.int (-1))))), (81, (.ci .neq (.r 9) (.con (.int (-1))))), (80, (.r 9)), (79, (.pick (.ci .geq (.r 10) (.llen (.cell (.o 8) 0))) (.con (.bool true)) (.ci .neq (.nth (.cell (.o 8) 0) (.r 10)) (.r 11)))), (78, (.pick (.ci .geq (.r 10) (.llen (.cell (.o 8) 0))) (.con (.bool true)) (.ci .neq (.nth (.cell (.o 8) 0) (.r 10)) (.r 11)))), (77, (.ci .neq (.nth (.cell (.o 8) 0) (.r 10)) (.r 11))), (76, (.r 11)), (75, (.nth (.cell (.o 8) 0) (.r 10))), (74, (.ref (.nth (.cell (.o 8) 0) (.r 10)))), (73, (.r 10)), (72, (.cell (.o 8) 0)), (71, (.con .none)), (70, (.ci .geq (.r 10) (.llen (.cell (.o 8) 0)))), (69, (.ci .geq (.r 10) (.llen (.cell (.o 8) 0)))), (68, (.llen (.cell (.o 8) 0))), (67, (.cell (.o 8) 0)), (66, (.con .none)), (65, (.r 10)), (64, (.pick (.r 59) (.con (.bool true)) (.r 63)))], []⟩))))))
  (.next ⟨[(6, (.r 6)), (9, (.r 9)), (10, (.r 10)), (11, (.ai .add .i64 (.r 11) (.con (.int 1))))], []⟩))
  (.exit 0 ⟨[(6, (.r 6)), (9, (.r 9)), (10, (.r 10)), (11, (.r 11)), (26, (.r 11)), (27, (.con .none)), (28, (.cell (.o 3) 15)), (29, (.llen (.cell (.o 3) 15))), (30, (.ci .lss (.r 11) (.llen (.cell (.o 3) 15)))), (31, (.ci .lss (.r 11) (.llen (.cell (.o 3) 15)))), (36, (.pick (.ci .lss (.r 11) (.llen (.cell (.o 3) 15))) (.ci .neq (.r 11) (.cell (.o 8) 2)) (.con (.bool false))))], []⟩))
theorem rd4_0_eq : round 0 [6, 9, 10, 11, 26, 27, 28, 29, 30, 31, 36] [] [6, 9, 10, 11] [] bd4_0 = rd4_0 := by kernel_rfl
def pc4 : PC :=
 (.seq
  (.is [.setO 3 (.mk [(.r 0)]),
    .setR 3 (.con .none),
    .setR 6 (.con (.bool false))])
  (.seq
   (.is [.call [] 14 9 [],
     .setR 7 (.r 14)])
   (.seq
    (.seq
     (.is [.setR 15 (mkA 19 (.o 3)),
       .call [] 16 10 [(.r 15)],
       .setR 17 (.nt (.r 16))])
     (.ite (.r 17) [6] []
      (.seq
       (.is [.setR 18 (.r 7),
         .setR 6 (.r 18)])
       (.ret (.r 6)))
      .skip))
    (.seq
     (.is [.setR 19 (mkA 19 (.o 3)),
       .setR 20 (.r 1),
       .setR 21 (.r 2),
       .call [] 22 14 [(.r 19), (.r 20), (.r 21)],
       .setO 8 (.con (.agg [(.list []), (.int 0), (.int 0), (.bool false), (.int 0), (.list [])])),
       .setR 8 (.con .none),
       .setO 4104 (.con (.list [])),
       .setO 24584 (.con (.list [])),
       .setO 8 (.setc (.o 8) 0 (.r 22))])
     (.seq
      (.is [.setR 23 (.con .none),
        .setR 24 (.con .none),
        .setR 25 (.cell (.o 3) 2),
        .setR 9 (.r 25)])
      (.seq
       (.is [.setR 10 (.con (.int 0))])
       (.seq
        (.seq
         (.is [.setR 11 (.con (.int 0))])
         lp4_0)
        (.seq
         (.seq
          (.is [.setR 93 (.r 10),
            .setR 94 (.con .none),
            .setR 95 (.cell (.o 8) 0),
            .setR 96 (.llen (.r 95)),
            .setR 97 (.ci .neq (.r 93) (.r 96)),
            .setR 98 (.r 97),
            .setR 99 (.con .none),
            .setR 100 (.cell (.o 8) 1),
            .setR 101 (.r 9),
            .setR 102 (.ci .neq (.r 100) (.r 101)),
            .setR 103 (.pick (.r 98) (.con (.bool true)) (.r 102)),
            .setR 104 (.r 103),
            .setR 105 (.con .none),
            .setR 106 (.cell (.o 8) 3),
            .setR 107 (.r 9),
            .setR 108 (.ci .eql (.r 107) (.con (.int (-1)))),
            .setR 109 (.cb .neq (.r 106) (.r 108)),
            .setR 110 (.pick (.r 104) (.con (.bool true)) (.r 109))])
          (.ite (.r 110) [6] []
           (.seq
            (.is [.setR 6 (.con (.bool false))])
            (.ret (.r 6)))
           .skip))
         (.seq
          (.seq
           (.is [.setR 111 (.con .none),
             .setR 112 (.cell (.o 8) 2),
             .setR 113 (.ci .eql (.r 112) (.con (.int (-1))))])
           (.ite (.r 113) [6] []
            (.seq
             (.is [.setR 114 (.r 7),
               .setR 6 (.r 114)])
             (.ret (.r 6)))
            .skip))
          (.seq
           (.seq
            (.is [.setR 115 (.con .none),
              .setR 116 (.cell (.o 8) 2),
              .setR 117 (.ci .lss (.r 116) (.con (.int 0))),
              .setR 118 (.r 117),
              .setR 119 (.con .none),
              .setR 120 (.cell (.o 8) 2),
              .setR 121 (.con .none),
              .setR 122 (.cell (.o 3) 15),
              .setR 123 (.llen (.r 122)),
              .setR 124 (.ci .geq (.r 120) (.r 123)),
              .setR 125 (.pick (.r 118) (.con (.bool true)) (.r 124))])
            (.ite (.r 125) [6] []
             (.seq
              (.is [.setR 6 (.con (.bool false))])
              (.ret (.r 6)))
             .skip))
           (.seq
            (.is [.setR 126 (.con .none),
              .setR 127 (.cell (.o 3) 15),
              .setR 128 (.con .none),
              .setR 129 (.cell (.o 8) 2),
              .chk (.idx (.r 127) (.r 129)),
              .setR 130 (.ref (.nth (.r 127) (.r 129))),
              .setR 131 (.deref (.r 130)),
              .setO 13 (.con (.agg [(.int 0), (.int 0), (.int 0), (.int 0), (.int 0), (.int 0), (.int 0), (.int 0), (.int 0)])),
              .setR 13 (.con .none),
              .setO 13 (.setc (.o 13) 0 (.r 131))])
            (.seq
             (.is [.setR 132 (.r 7),
               .setR 133 (.r 132),
               .setR 134 (.con .none),
               .setR 135 (.cell (.o 13) 0),
               .setR 136 (.ci .eql (.r 135) (.con (.int 2))),
               .setR 137 (.pick (.r 133) (.r 136) (.con (.bool false))),
               .setR 138 (.r 137),
               .setR 139 (.con .none),
               .setR 140 (.cell (.o 13) 1),
               .setR 141 (.r 1),
               .setR 142 (.ci .eql (.r 140) (.r 141)),
               .setR 143 (.pick (.r 138) (.r 142) (.con (.bool false))),
               .setR 144 (.r 143),
               .setR 145 (.con .none),
               .setR 146 (.cell (.o 13) 6),
               .setR 147 (.r 2),
               .setR 148 (.ci .leq (.r 146) (.r 147)),
               .setR 149 (.pick (.r 144) (.r 148) (.con (.bool false))),
               .setR 150 (.r 149),
               .setR 151 (mkA 19 (.o 3)),
               .setR 152 (.con .none),
               .setR 153 (.cell (.o 8) 2),
               .setR 154 (.r 2),
               .call [(150, true)] 155 11 [(.r 151), (.r 153), (.r 154)],
               .setR 156 (.nt (.r 155)),
               .setR 157 (.pick (.r 150) (.r 156) (.con (.bool false))),
               .setR 158 (.r 157),
               .setR 159 (.r 9),
               .setR 160 (.ci .neq (.r 159) (.con (.int (-1)))),
               .setR 161 (.pick (.r 158) (.r 160) (.con (.bool false))),
               .setR 162 (.r 161),
               .setR 163 (.con .none),
               .setR 164 (.cell (.o 13) 2),
               .setR 165 (.r 9),
               .setR 166 (.ci .neq (.r 164) (.r 165)),
               .setR 167 (.pick (.r 162) (.r 166) (.con (.bool false))),
               .setR 6 (.r 167)])
             (.ret (.r 6))))))))))))))
def tr4 : PT :=
 (.call ⟨[(6, (.con (.bool false))), (3, (.con .none))], [(3, (.mk [(.r 0)]))]⟩ [] 14 9 []
 (.call ⟨[(15, (mkA 19 (.o 3))), (7, (.r 14))], []⟩ [] 16 10 [(.r 15)]
 (.ite (.nt (.r 16))
  (.ret (.r 7))
  (.call ⟨[(21, (.r 2)), (20, (.r 1)), (19, (mkA 19 (.o 3))), (6, (.r 6)), (17, (.nt (.r 16)))], []⟩ [] 22 14 [(.r 19), (.r 20), (.r 21)]
  (.brk ⟨[(11, (.con (.int 0))), (10, (.con (.int 0))), (9, (.cell (.o 3) 2)), (25, (.cell (.o 3) 2)), (24, (.con .none)), (23, (.con .none)), (8, (.con .none))], [(8, (.setc (.con (.agg [(.list []), (.int 0), (.int 0), (.bool false), (.int 0), (.list [])])) 0 (.r 22))), (24584, (.con (.list []))), (4104, (.con (.list []))), (8, (.con (.agg [(.list []), (.int 0), (.int 0), (.bool false), (.int 0), (.list [])])))]⟩
   lp4_0
  (.ite (.pick (.pick (.ci .neq (.r 10) (.llen (.cell (.o 8) 0))) (.con (.bool true)) (.ci .neq (.cell (.o 8) 1) (.r 9))) (.con (.bool true)) (.cb .neq (.cell (.o 8) 3) (.ci .eql (.r 9) (.con (.int (-1))))))
   (.ret (.con (.bool false)))
   (.ite (.ci .eql (.cell (.o 8) 2) (.con (.int (-1))))
    (.ret (.r 7))
    (.ite (.pick (.ci .lss (.cell (.o 8) 2) (.con (.int 0))) (.con (.bool true)) (.ci .geq (.cell (.o 8) 2) (.llen (.cell (.o 3) 15))))
     (.ret (.con (.bool false)))
     (.chk (.idx (.cell (.o 3) 15) (.cell (.o 8) 2))
     (.call ⟨[(154, (.r 2)), (153, (.cell (.o 8) 2)), (152, (.con .none)), (151, (mkA 19 (.o 3))), (150, (.pick (.pick (.pick (.r 7) (.ci .eql (.cell (.setc (.con (.agg [(.int 0), (.int 0), (.int 0), (.int 0), (.int 0), (.int 0), (.int 0), (.int 0), (.int 0)])) 0 (.nth (.cell (.o 3) 15) (.cell (.o 8) 2))) 0) (.con (.int 2))) (.con (.bool false))) (.ci .eql (.cell (.setc (.con (.agg [(.int 0), (.int 0), (.int 0), (.int 0), (.int 0), (.int 0), (.int 0), (.int 0), (.int 0)])) 0 (.nth (.cell (.o 3) 15) (.cell (.o 8) 2))) 1) (.r 1)) (.con (.bool false))) (.ci .leq (.cell (.setc (.con (.agg [(.int 0), (.int 0), (.int 0), (.int 0), (.int 0), (.int 0), (.int 0), (.int 0), (.int 0)])) 0 (.nth (.cell (.o 3) 15) (.cell (.o 8) 2))) 6) (.r 2)) (.con (.bool false)))), (149, (.pick (.pick (.pick (.r 7) (.ci .eql (.cell (.setc (.con (.agg [(.int 0), (.int 0), (.int 0), (.int 0), (.int 0), (.int 0), (.int 0), (.int 0), (.int 0)])) 0 (.nth (.cell (.o 3) 15) (.cell (.o 8) 2))) 0) (.con (.int 2))) (.con (.bool false))) (.ci .eql (.cell (.setc (.con (.agg [(.int 0), (.int 0), (.int 0), (.int 0), (.int 0), (.int 0), (.int 0), (.int 0), (.int 0)])) 0 (.nth (.cell (.o 3) 15) (.cell (.o 8) 2))) 1) (.r 1)) (.con (.bool false))) (.ci .leq (.cell (.setc (.con (.agg [(.int 0), (.int 0), (.int 0), (.int 0), (.int 0), (.int 0), (.int 0), (.int 0), (.int 0)])) 0 (.nth (.cell (.o 3) 15) (.cell (.o 8) 2))) 6) (.r 2)) (.con (.bool false)))), (148, (.ci .leq (.cell (.setc (.con (.agg [(.int 0), (.int 0), (.int 0), (.int 0), (.int 0), (.int 0), (.int 0), (.int 0), (.int 0)])) 0 (.nth (.cell (.o 3) 15) (.cell (.o 8) 2))) 6) (.r 2))), (147, (.r 2)), (146, (.cell (.setc (.con (.agg [(.int 0), (.int 0), (.int 0), (.int 0), (.int 0), (.int 0), (.int 0), (.int 0), (.int 0)])) 0 (.nth (.cell (.o 3) 15) (.cell (.o 8) 2))) 6)), (145, (.con .none)), (144, (.pick (.pick (.r 7) (.ci .eql (.cell (.setc (.con (.agg [(.int 0), (.int 0), (.int 0), (.int 0), (.int 0), (.int 0), (.int 0), (.int 0), (.int 0)])) 0 (.nth (.cell (.o 3) 15) (.cell (.o 8) 2))) 0) (.con (.int 2))) (.con (.bool false))) (.ci .eql (.cell (.setc (.con (.agg [(.int 0), (.int 0), (.int 0), (.int 0), (.int 0), (.int 0), (.int 0), (.int 0), (.int 0)])) 0 (.nth (.cell (.o 3) 15) (.cell (.o 8) 2))) 1) (.r 1)) (.con (.bool false)))), (143, (.pick (.pick (.r 7) (.ci .eql (.cell (.setc (.con (.agg [(.int 0), (.int 0), (.int 0), (.int 0), (.int 0), (.int 0), (.int 0), (.int 0), (.int 0)])) 0 (.nth (.cell (.o 3) 15) (.cell (.o 8) 2))) 0) (.con (.int 2))) (.con (.bool false))) (.ci .eql (.cell (.setc (.con (.agg [(.int 0), (.int 0), (.int 0), (.int 0), (.int 0), (.int 0), (.int 0), (.int 0), (.int 0)])) 0 (.nth (.cell (.o 3) 15) (.cell (.o 8) 2))) 1) (.r 1)) (.con (.bool false)))), (142, (.ci .eql (.cell (.setc (.con (.agg [(.int 0), (.int 0), (.int 0), (.int 0), (.int 0), (.int 0), (.int 0), (.int 0), (.int 0)])) 0 (.nth (.cell (.o 3) 15) (.cell (.o 8) 2))) 1) (.r 1))), (141, (.r 1)), (140, (.cell (.setc (.con (.agg [(.int 0), (.int 0), (.int 0), (.int 0), (.int 0), (.int 0), (.int 0), (.int 0), (.int 0)])) 0 (.nth (.cell (.o 3) 15) (.cell (.o 8) 2))) 1)), (139, (.con .none)), (138, (.pick (.r 7) (.ci .eql (.cell (.setc (.con (.agg [(.int 0), (.int 0), (.int 0), (.int 0), (.int 0), (.int 0), (.int 0), (.int 0), (.int 0)])) 0 (.nth (.cell (.o 3) 15) (.cell (.o 8) 2))) 0) (.con (.int 2))) (.con (.bool false)))), (137, (.pick (.r 7) (.ci .eql (.cell (.setc (.con (.agg [(.int 0), (.int 0), (.int 0), (.int 0), (.int 0), (.int 0), (.int 0), (.int 0), (.int 0)])) 0 (.nth (.cell (.o 3) 15) (.cell (.o 8) 2))) 0) (.con (.int 2))) (.con (.bool false)))), (136, (.ci .eql (.cell (.setc (.con (.agg [(.int 0), (.int 0), (.int 0), (.int 0), (.int 0), (.int 0), (.int 0), (.int 0), (.int 0)])) 0 (.nth (.cell (.o 3) 15) (.cell (.o 8) 2))) 0) (.con (.int 2)))), (135, (.cell (.setc (.con (.agg [(.int 0), (.int 0), (.int 0), (.int 0), (.int 0), (.int 0), (.int 0), (.int 0), (.int 0)])) 0 (.nth (.cell (.o 3) 15) (.cell (.o 8) 2))) 0)), (134, (.con .none)), (133, (.r 7)), (132, (.r 7)), (13, (.con .none)), (131, (.nth (.cell (.o 3) 15) (.cell (.o 8) 2))), (130, (.ref (.nth (.cell (.o 3) 15) (.cell (.o 8) 2)))), (129, (.cell (.o 8) 2)), (128, (.con .none)), (127, (.cell (.o 3) 15)), (126, (.con .none)), (6, (.r 6)), (125, (.pick (.ci .lss (.cell (.o 8) 2) (.con (.int 0))) (.con (.bool true)) (.ci .geq (.cell (.o 8) 2) (.llen (.cell (.o 3) 15))))), (124, (.ci .geq (.cell (.o 8) 2) (.llen (.cell (.o 3) 15)))), (123, (.llen (.cell (.o 3) 15))), (122, (.cell (.o 3) 15)), (121, (.con .none)), (120, (.cell (.o 8) 2)), (119, (.con .none)), (118, (.ci .lss (.cell (.o 8) 2) (.con (.int 0)))), (117, (.ci .lss (.cell (.o 8) 2) (.con (.int 0)))), (116, (.cell (.o 8) 2)), (115, (.con .none)), (6, (.r 6)), (113, (.ci .eql (.cell (.o 8) 2) (.con (.int (-1))))), (112, (.cell (.o 8) 2)), (111, (.con .none)), (6, (.r 6)), (110, (.pick (.pick (.ci .neq (.r 10) (.llen (.cell (.o 8) 0))) (.con (.bool true)) (.ci .neq (.cell (.o 8) 1) (.r 9))) (.con (.bool true)) (.cb .neq (.cell (.o 8) 3) (.ci .eql (.r 9) (.con (.int (-1))))))), (109, (.cb .neq (.cell (.o 8) 3) (.ci .eql (.r 9) (.con (.int (-1)))))), (108, (.ci .eql (.r 9) (.con (.int (-1))))), (107, (.r 9)), (106, (.cell (.o 8) 3)), (105, (.con .none)), (104, (.pick (.ci .neq (.r 10) (.llen (.cell (.o 8) 0))) (.con (.bool true)) (.ci .neq (.cell (.o 8) 1) (.r 9)))), (103, (.pick (.ci .neq (.r 10) (.llen (.cell (.o 8) 0))) (.con (.bool true)) (.ci .neq (.cell (.o 8) 1) (.r 9)))), (102, (.ci .neq (.cell (.o 8) 1) (.r 9))), (101, (.r 9)), (100, (.cell (.o 8) 1)), (99, (.con .none)), (98, (.ci .neq (.r 10) (.llen (.cell (.o 8) 0)))), (97, (.ci .neq (.r 10) (.llen (.cell (.o 8) 0)))), (96, (.llen (.cell (.o 8) 0))), (95, (.cell (.o 8) 0)), (94, (.con .none)), (93, (.r 10))], [(13, (.setc (.con (.agg [(.int 0), (.int 0), (.int 0), (.int 0), (.int 0), (.int 0), (.int 0), (.int 0), (.int 0)])) 0 (.nth (.cell (.o 3) 15) (.cell (.o 8) 2)))), (13, (.con (.agg [(.int 0), (.int 0), (.int 0), (.int 0), (.int 0), (.int 0), (.int 0), (.int 0), (.int 0)])))]⟩ [(150, true)] 155 11 [(.r 151), (.r 153), (.r 154)]
     (.ret (.pick (.pick (.pick (.r 150) (.nt (.r 155)) (.con (.bool false))) (.ci .neq (.r 9) (.con (.int (-1)))) (.con (.bool false))) (.ci .neq (.cell (.o 13) 2) (.r 9)) (.con (.bool false))))))))))))))
theorem tr4_eq : tree pc4 = tr4 := by kernel_rfl
/-! allonge/allongelaw13.TitleOthers -/
def bd5_0 : PC :=
 (.seq
  (.seq
   (.is [.setR 62 (.r 12),
     .setR 63 (.con .none),
     .setR 64 (.cell (.o 5) 17),
     .setR 65 (.llen (.r 64)),
     .setR 66 (.ci .lss (.r 62) (.r 65))])
   (.ite (.r 66) [] []
    .skip
    (.exit 0)))
  (.seq
   (.block 1 [10, 69, 70, 71, 72, 73, 74, 75, 76, 87] []
    (.seq
     (.is [.setR 69 (.con .none),
       .setR 70 (.cell (.o 5) 17),
       .setR 71 (.r 12),
       .chk (.idx (.r 70) (.r 71)),
       .setR 72 (.ref (.nth (.r 70) (.r 71))),
       .setR 73 (.ref (.cell (.deref (.r 72)) 0)),
       .setR 74 (.deref (.r 73)),
       .setR 75 (.ci .eql (.r 74) (.con (.int 7))),
       .setR 76 (.r 75),
       .setR 77 (.con .none),
       .setR 78 (.cell (.o 5) 17),
       .setR 79 (.r 12),
       .chk (.imp [(76, true)] (.idx (.r 78) (.r 79))),
       .setR 80 (.ref (.nth (.r 78) (.r 79))),
       .setR 81 (.ref (.cell (.deref (.r 80)) 4)),
       .setR 82 (.deref (.r 81)),
       .setR 83 (.con .none),
       .setR 84 (.cell (.o 5) 15),
       .setR 85 (.llen (.r 84)),
       .setR 86 (.ci .eql (.r 82) (.r 85)),
       .setR 87 (.pick (.r 76) (.r 86) (.con (.bool false)))])
     (.ite (.r 87) [10] []
      (.seq
       (.is [.setR 88 (.r 11),
         .setR 10 (.r 88)])
       (.ret (.r 10)))
      .skip)))
   (.is [.setR 67 (.r 12),
     .setR 68 (.ai .add .i64 (.r 67) (.con (.int 1))),
     .setR 12 (.r 68)])))
def lp5_0 : PC := .block 0 [10, 12, 62, 63, 64, 65, 66] [] (.loop [10, 12] [] bd5_0)
def rd5_0 : PT :=
 (.ite (.ci .lss (.r 12) (.llen (.cell (.o 5) 17)))
  (.chk (.idx (.cell (.o 5) 17) (.r 12))
  (.chk (.nt (.an (.an (.ci .eql (.cell (.nth (.cell (.o 5) 17) (.r 12)) 0) (.con (.int 7))) (.con (.bool true))) (.nt (.idx (.cell (.o 5) 17) (.r 12)))))
  (.ite (.pick (.ci .eql (.cell (.nth (.cell (.o 5) 17) (.r 12)) 0) (.con (.int 7))) (.ci .eql (.cell (.nth (.cell (.o 5) 17) (.r 12)) 4) (.llen (.cell (.o 5) 15))) (.con (.bool false)))
   (.ret (.r 11))
   (.next ⟨[(10, (.r 10)), (12, (.ai .add .i64 (.r 12) (.con (.int 1))))], []⟩))))
  (.exit 0 ⟨[(10, (.r 10)), (12, (.r 12)), (62, (.r 12)), (63, (.con .none)), (64, (.cell (.o 5) 17)), (65, (.llen (.cell (.o 5) 17))), (66, (.ci .lss (.r 12) (.llen (.cell (.o 5) 17))))], []⟩))
theorem rd5_0_eq : round 0 [10, 12, 62, 63, 64, 65, 66] [] [10, 12] [] bd5_0 = rd5_0 := by kernel_rfl
def pc5 : PC :=
 (.seq
  (.is [.setO 5 (.mk [(.r 0)]),
    .setR 5 (.con .none),
    .setO 8 (.mk [(.r 3)]),
    .setR 8 (.con .none),
    .setO 9 (.mk [(.r 4)]),
    .setR 9 (.con .none),
    .setR 10 (.con (.bool false))])
  (.seq
   (.is [.call [] 14 9 [],
     .setR 11 (.r 14)])
   (.seq
    (.seq
     (.is [.setR 15 (mkA 19 (.o 5)),
       .call [] 16 10 [(.r 15)],
       .setR 17 (.nt (.r 16)),
       .setR 18 (.r 17),
       .setR 19 (.con .none),
       .setR 20 (.cell (.o 8) 0),
       .setR 21 (.ci .eql (.r 20) (.con (.int 2))),
       .setR 22 (.r 21),
       .setR 23 (.con .none),
       .setR 24 (.cell (.o 8) 1),
       .setR 25 (.r 1),
       .setR 26 (.ci .eql (.r 24) (.r 25)),
       .setR 27 (.pick (.r 22) (.r 26) (.con (.bool false))),
       .setR 28 (.r 27),
       .setR 29 (.con .none),
       .setR 30 (.cell (.o 8) 6),
       .setR 31 (.r 2),
       .setR 32 (.ci .leq (.r 30) (.r 31)),
       .setR 33 (.pick (.r 28) (.r 32) (.con (.bool false))),
       .setR 34 (.pick (.r 18) (.con (.bool true)) (.r 33)),
       .setR 35 (.r 34),
       .setR 36 (.con .none),
       .setR 37 (.cell (.o 9) 0),
       .setR 38 (.ci .eql (.r 37) (.con (.int 7))),
       .setR 39 (.r 38),
       .setR 40 (.con .none),
       .setR 41 (.cell (.o 9) 0),
       .setR 42 (.ci .eql (.r 41) (.con (.int 1))),
       .setR 43 (.pick (.r 39) (.con (.bool true)) (.r 42)),
       .setR 44 (.r 43),
       .setR 45 (.con .none),
       .setR 46 (.cell (.o 9) 0),
       .setR 47 (.ci .eql (.r 46) (.con (.int 3))),
       .setR 48 (.pick (.r 44) (.con (.bool true)) (.r 47)),
       .setR 49 (.r 48),
       .setR 50 (.con .none),
       .setR 51 (.cell (.o 9) 0),
       .setR 52 (.ci .eql (.r 51) (.con (.int 4))),
       .setR 53 (.pick (.r 49) (.con (.bool true)) (.r 52)),
       .setR 54 (.r 53),
       .setR 55 (.con .none),
       .setR 56 (.cell (.o 9) 6),
       .setR 57 (.r 2),
       .setR 58 (.ci .leq (.r 56) (.r 57)),
       .setR 59 (.pick (.r 54) (.r 58) (.con (.bool false))),
       .setR 60 (.pick (.r 35) (.con (.bool true)) (.r 59))])
     (.ite (.r 60) [10] []
      (.seq
       (.is [.setR 61 (.r 11),
         .setR 10 (.r 61)])
       (.ret (.r 10)))
      .skip))
    (.seq
     (.seq
      (.is [.setR 12 (.con (.int 0))])
      lp5_0)
     (.seq
      (.is [.setR 89 (mkA 19 (.o 5)),
        .setO 13 (.con (.agg [(.int 0), (.int 0), (.int 0), (.int 0), (.int 0), (.int 0), (.int 0), (.int 0), (.int 0), (.int 0), (.int 0), (.int 0), (.int 0), (.int 0), (.int 0), (.list []), (.list []), (.list []), (.list [])])),
        .setR 13 (.con .none),
        .setO 65549 (.con (.list [])),
        .setO 69645 (.con (.list [])),
        .setO 73741 (.con (.list [])),
        .setO 77837 (.con (.list [])),
        .setO 13 (.setc (.o 13) 0 (.r 89))])
      (.seq
       (.is [.setO 90 (.lst []),
         .setR 90 (.con .none),
         .setR 91 (.con .none),
         .setR 92 (.cell (.o 5) 15),
         .chk (.ci .leq (.llen (.app (.o 90) (.r 92))) (.con (.int 4294967296))),
         .setO 90 (.app (.o 90) (.r 92)),
         .setR 93 (.con .none),
         .setR 94 (mkA 9 (.o 8)),
         .setO 95 (.lst [(.r 94)]),
         .setR 95 (.con .none),
         .chk (.ci .leq (.llen (.app (.o 90) (.o 95))) (.con (.int 4294967296))),
         .setO 90 (.app (.o 90) (.o 95)),
         .setR 96 (.con .none),
         .setR 97 (.con .none),
         .setO 13 (.setc (.o 13) 15 (.con .none)),
         .setO 65549 (.o 90)])
       (.seq
        (.is [.setO 98 (.lst []),
          .setR 98 (.con .none),
          .setR 99 (.con .none),
          .setR 100 (.cell (.o 5) 17),
          .chk (.ci .leq (.llen (.app (.o 98) (.r 100))) (.con (.int 4294967296))),
          .setO 98 (.app (.o 98) (.r 100)),
          .setR 101 (.con .none),
          .setR 102 (mkA 9 (.o 9)),
          .setO 103 (.lst [(.r 102)]),
          .setR 103 (.con .none),
          .chk (.ci .leq (.llen (.app (.o 98) (.o 103))) (.con (.int 4294967296))),
          .setO 98 (.app (.o 98) (.o 103)),
          .setR 104 (.con .none),
          .setR 105 (.con .none),
          .setO 13 (.setc (.o 13) 17 (.con .none)),
          .setO 73741 (.o 98)])
        (.seq
         (.is [.setR 106 (.con .none),
           .setO 13 (.setc (.o 13) 18 (.con (.list []))),
           .setO 77837 (.con (.list []))])
         (.seq
          (.is [.setR 107 (.con .none),
            .setO 13 (.setc (.o 13) 16 (.con (.list []))),
            .setO 69645 (.con (.list []))])
          (.seq
           (.is [.setR 108 (.r 11),
             .setR 109 (.r 108),
             .setR 110 (mkA 19 (.o 5)),
             .setR 111 (.r 1),
             .setR 112 (.r 2),
             .call [(109, true)] 113 14 [(.r 110), (.r 111), (.r 112)],
             .setR 114 (.mk [(.cell (.o 13) 0), (.cell (.o 13) 1), (.cell (.o 13) 2), (.cell (.o 13) 3), (.cell (.o 13) 4), (.cell (.o 13) 5), (.cell (.o 13) 6), (.cell (.o 13) 7), (.cell (.o 13) 8), (.cell (.o 13) 9), (.cell (.o 13) 10), (.cell (.o 13) 11), (.cell (.o 13) 12), (.cell (.o 13) 13), (.cell (.o 13) 14), (.o 65549), (.o 69645), (.o 73741), (.o 77837)]),
             .setR 115 (.r 1),
             .setR 116 (.r 2),
             .call [(109, true)] 117 14 [(.r 114), (.r 115), (.r 116)],
             .call [(109, true)] 118 13 [(.r 113), (.r 117)],
             .setR 119 (.pick (.r 109) (.r 118) (.con (.bool false))),
             .setR 10 (.r 119)])
           (.ret (.r 10))))))))))))
def tr5 : PT :=
 (.call ⟨[(10, (.con (.bool false))), (9, (.con .none)), (8, (.con .none)), (5, (.con .none))], [(9, (.mk [(.r 4)])), (8, (.mk [(.r 3)])), (5, (.mk [(.r 0)]))]⟩ [] 14 9 []
 (.call ⟨[(15, (mkA 19 (.o 5))), (11, (.r 14))], []⟩ [] 16 10 [(.r 15)]
 (.ite (.pick (.pick (.nt (.r 16)) (.con (.bool true)) (.pick (.pick (.ci .eql (.cell (.o 8) 0) (.con (.int 2))) (.ci .eql (.cell (.o 8) 1) (.r 1)) (.con (.bool false))) (.ci .leq (.cell (.o 8) 6) (.r 2)) (.con (.bool false)))) (.con (.bool true)) (.pick (.pick (.pick (.pick (.ci .eql (.cell (.o 9) 0) (.con (.int 7))) (.con (.bool true)) (.ci .eql (.cell (.o 9) 0) (.con (.int 1)))) (.con (.bool true)) (.ci .eql (.cell (.o 9) 0) (.con (.int 3)))) (.con (.bool true)) (.ci .eql (.cell (.o 9) 0) (.con (.int 4)))) (.ci .leq (.cell (.o 9) 6) (.r 2)) (.con (.bool false))))
  (.ret (.r 11))
  (.brk ⟨[(12, (.con (.int 0))), (10, (.r 10)), (60, (.pick (.pick (.nt (.r 16)) (.con (.bool true)) (.pick (.pick (.ci .eql (.cell (.o 8) 0) (.con (.int 2))) (.ci .eql (.cell (.o 8) 1) (.r 1)) (.con (.bool false))) (.ci .leq (.cell (.o 8) 6) (.r 2)) (.con (.bool false)))) (.con (.bool true)) (.pick (.pick (.pick (.pick (.ci .eql (.cell (.o 9) 0) (.con (.int 7))) (.con (.bool true)) (.ci .eql (.cell (.o 9) 0) (.con (.int 1)))) (.con (.bool true)) (.ci .eql (.cell (.o 9) 0) (.con (.int 3)))) (.con (.bool true)) (.ci .eql (.cell (.o 9) 0) (.con (.int 4)))) (.ci .leq (.cell (.o 9) 6) (.r 2)) (.con (.bool false))))), (59, (.pick (.pick (.pick (.pick (.ci .eql (.cell (.o 9) 0) (.con (.int 7))) (.con (.bool true)) (.ci .eql (.cell (.o 9) 0) (.con (.int 1)))) (.con (.bool true)) (.ci .eql (.cell (.o 9) 0) (.con (.int 3)))) (.con (.bool true)) (.ci .eql (.cell (.o 9) 0) (.con (.int 4)))) (.ci .leq (.cell (.o 9) 6) (.r 2)) (.con (.bool false)))), (58, (.ci .leq (.cell (.o 9) 6) (.r 2))), (57, (.r 2)), (56, (.cell (.o 9) 6)), (55, (.con .none)), (54, (.pick (.pick (.pick (.ci .eql (.cell (.o 9) 0) (.con (.int 7))) (.con (.bool true)) (.ci .eql (.cell (.o 9) 0) (.con (.int 1)))) (.con (.bool true)) (.ci .eql (.cell (.o 9) 0) (.con (.int 3)))) (.con (.bool true)) (.ci .eql (.cell (.o 9) 0) (.con (.int 4))))), (53, (.pick (.pick (.pick (.ci .eql (.cell (.o 9) 0) (.con (.int 7))) (.con (.bool true)) (.ci .eql (.cell (.o 9) 0) (.con (.int 1)))) (.con (.bool true)) (.ci .eql (.cell (.o 9) 0) (.con (.int 3)))) (.con (.bool true)) (.ci .eql (.cell (.o 9) 0) (.con (.int 4))))), (52, (.ci .eql (.cell (.o 9) 0) (.con (.int 4)))), (51, (.cell (.o 9) 0)), (50, (.con .none)), (49, (.pick (.pick (.ci .eql (.cell (.o 9) 0) (.con (.int 7))) (.con (.bool true)) (.ci .eql (.cell (.o 9) 0) (.con (.int 1)))) (.con (.bool true)) (.ci .eql (.cell (.o 9) 0) (.con (.int 3))))), (48, (.pick (.pick (.ci .eql (.cell (.o 9) 0) (.con (.int 7))) (.con (.bool true)) (.ci .eql (.cell (.o 9) 0) (.con (.int 1)))) (.con (.bool true)) (.ci .eql (.cell (.o 9) 0) (.con (.int 3))))), (47, (.ci .eql (.cell (.o 9) 0) (.con (.int 3)))), (46, (.cell (.o 9) 0)), (45, (.con .none)), (44, (.pick (.ci .eql (.cell (.o 9) 0) (.con (.int 7))) (.con (.bool true)) (.ci .eql (.cell (.o 9) 0) (.con (.int 1))))), (43, (.pick (.ci .eql (.cell (.o 9) 0) (.con (.int 7))) (.con (.bool true)) (.ci .eql (.cell (.o 9) 0) (.con (.int 1))))), (42, (.ci .eql (.cell (.o 9) 0) (.con (.int 1)))), (41, (.cell (.o 9) 0)), (40, (.con .none)), (39, (.ci .eql (.cell (.o 9) 0) (.con (.int 7)))), (38, (.ci .eql (.cell (.o 9) 0) (.con (.int 7)))), (37, (.cell (.o 9) 0)), (36, (.con .none)), (35, (.pick (.nt (.r 16)) (.con (.bool true)) (.pick (.pick (.ci .eql (.cell (.o 8) 0) (.con (.int 2))) (.ci .eql (.cell (.o 8) 1) (.r 1)) (.con (.bool false))) (.ci .leq (.cell (.o 8) 6) (.r 2)) (.con (.bool false))))), (34, (.pick (.nt (.r 16)) (.con (.bool true)) (.pick (.pick (.ci .eql (.cell (.o 8) 0) (.con (.int 2))) (.ci .eql (.cell (.o 8) 1) (.r 1)) (.con (.bool false))) (.ci .leq (.cell (.o 8) 6) (.r 2)) (.con (.bool false))))), (33, (.pick (.pick (.ci .eql (.cell (.o 8) 0) (.con (.int 2))) (.ci .eql (.cell (.o 8) 1) (.r 1)) (.con (.bool false))) (.ci .leq (.cell (.o 8) 6) (.r 2)) (.con (.bool false)))), (32, (.ci .leq (.cell (.o 8) 6) (.r 2))), (31, (.r 2)), (30, (.cell (.o 8) 6)), (29, (.con .none)), (28, (.pick (.ci .eql (.cell (.o 8) 0) (.con (.int 2))) (.ci .eql (.cell (.o 8) 1) (.r 1)) (.con (.bool false)))), (27, (.pick (.ci .eql (.cell (.o 8) 0) (.con (.int 2))) (.ci .eql (.cell (.o 8) 1) (.r 1)) (.con (.bool false)))), (26, (.ci .eql (.cell (.o 8) 1) (.r 1))), (25, (.r 1)), (24, (.cell (.o 8) 1)), (23, (.con .none)), (22, (.ci .eql (.cell (.o 8) 0) (.con (.int 2)))), (21, (.ci .eql (.cell (.o 8) 0) (.con (.int 2)))), (20, (.cell (.o 8) 0)), (19, (.con .none)), (18, (.nt (.r 16))), (17, (.nt (.r 16)))], []⟩
   lp5_0
  (.chk (.ci .leq (.llen (.app (.lst []) (.cell (.o 5) 15))) (.con (.int 4294967296)))
  (.chk (.ci .leq (.llen (.app (.app (.lst []) (.cell (.o 5) 15)) (.lst [(mkA 9 (.o 8))]))) (.con (.int 4294967296)))
  (.chk (.ci .leq (.llen (.app (.lst []) (.cell (.o 5) 17))) (.con (.int 4294967296)))
  (.chk (.ci .leq (.llen (.app (.app (.lst []) (.cell (.o 5) 17)) (.lst [(mkA 9 (.o 9))]))) (.con (.int 4294967296)))
  (.call ⟨[(112, (.r 2)), (111, (.r 1)), (110, (mkA 19 (.o 5))), (109, (.r 11)), (108, (.r 11)), (107, (.con .none)), (106, (.con .none)), (105, (.con .none)), (104, (.con .none)), (103, (.con .none)), (102, (mkA 9 (.o 9))), (101, (.con .none)), (100, (.cell (.o 5) 17)), (99, (.con .none)), (98, (.con .none)), (97, (.con .none)), (96, (.con .none)), (95, (.con .none)), (94, (mkA 9 (.o 8))), (93, (.con .none)), (92, (.cell (.o 5) 15)), (91, (.con .none)), (90, (.con .none)), (13, (.con .none)), (89, (mkA 19 (.o 5)))], [(69645, (.con (.list []))), (13, (.setc (.setc (.setc (.setc (.setc (.con (.agg [(.int 0), (.int 0), (.int 0), (.int 0), (.int 0), (.int 0), (.int 0), (.int 0), (.int 0), (.int 0), (.int 0), (.int 0), (.int 0), (.int 0), (.int 0), (.list []), (.list []), (.list []), (.list [])])) 0 (mkA 19 (.o 5))) 15 (.con .none)) 17 (.con .none)) 18 (.con (.list []))) 16 (.con (.list [])))), (77837, (.con (.list []))), (13, (.setc (.setc (.setc (.setc (.con (.agg [(.int 0), (.int 0), (.int 0), (.int 0), (.int 0), (.int 0), (.int 0), (.int 0), (.int 0), (.int 0), (.int 0), (.int 0), (.int 0), (.int 0), (.int 0), (.list []), (.list []), (.list []), (.list [])])) 0 (mkA 19 (.o 5))) 15 (.con .none)) 17 (.con .none)) 18 (.con (.list [])))), (73741, (.app (.app (.lst []) (.cell (.o 5) 17)) (.lst [(mkA 9 (.o 9))]))), (13, (.setc (.setc (.setc (.con (.agg [(.int 0), (.int 0), (.int 0), (.int 0), (.int 0), (.int 0), (.int 0), (.int 0), (.int 0), (.int 0), (.int 0), (.int 0), (.int 0), (.int 0), (.int 0), (.list []), (.list []), (.list []), (.list [])])) 0 (mkA 19 (.o 5))) 15 (.con .none)) 17 (.con .none))), (98, (.app (.app (.lst []) (.cell (.o 5) 17)) (.lst [(mkA 9 (.o 9))]))), (103, (.lst [(mkA 9 (.o 9))])), (98, (.app (.lst []) (.cell (.o 5) 17))), (98, (.lst [])), (65549, (.app (.app (.lst []) (.cell (.o 5) 15)) (.lst [(mkA 9 (.o 8))]))), (13, (.setc (.setc (.con (.agg [(.int 0), (.int 0), (.int 0), (.int 0), (.int 0), (.int 0), (.int 0), (.int 0), (.int 0), (.int 0), (.int 0), (.int 0), (.int 0), (.int 0), (.int 0), (.list []), (.list []), (.list []), (.list [])])) 0 (mkA 19 (.o 5))) 15 (.con .none))), (90, (.app (.app (.lst []) (.cell (.o 5) 15)) (.lst [(mkA 9 (.o 8))]))), (95, (.lst [(mkA 9 (.o 8))])), (90, (.app (.lst []) (.cell (.o 5) 15))), (90, (.lst [])), (13, (.setc (.con (.agg [(.int 0), (.int 0), (.int 0), (.int 0), (.int 0), (.int 0), (.int 0), (.int 0), (.int 0), (.int 0), (.int 0), (.int 0), (.int 0), (.int 0), (.int 0), (.list []), (.list []), (.list []), (.list [])])) 0 (mkA 19 (.o 5)))), (77837, (.con (.list []))), (73741, (.con (.list []))), (69645, (.con (.list []))), (65549, (.con (.list []))), (13, (.con (.agg [(.int 0), (.int 0), (.int 0), (.int 0), (.int 0), (.int 0), (.int 0), (.int 0), (.int 0), (.int 0), (.int 0), (.int 0), (.int 0), (.int 0), (.int 0), (.list []), (.list []), (.list []), (.list [])])))]⟩ [(109, true)] 113 14 [(.r 110), (.r 111), (.r 112)]
  (.call ⟨[(116, (.r 2)), (115, (.r 1)), (114, (.mk [(.cell (.o 13) 0), (.cell (.o 13) 1), (.cell (.o 13) 2), (.cell (.o 13) 3), (.cell (.o 13) 4), (.cell (.o 13) 5), (.cell (.o 13) 6), (.cell (.o 13) 7), (.cell (.o 13) 8), (.cell (.o 13) 9), (.cell (.o 13) 10), (.cell (.o 13) 11), (.cell (.o 13) 12), (.cell (.o 13) 13), (.cell (.o 13) 14), (.o 65549), (.o 69645), (.o 73741), (.o 77837)]))], []⟩ [(109, true)] 117 14 [(.r 114), (.r 115), (.r 116)]
  (.call ⟨[], []⟩ [(109, true)] 118 13 [(.r 113), (.r 117)]
  (.ret (.pick (.r 109) (.r 118) (.con (.bool false)))))))))))))))
theorem tr5_eq : tree pc5 = tr5 := by kernel_rfl
/-! allonge/allongelaw13.TitleGrows -/
def bd6_0 : PC :=
 (.seq
  (.seq
   (.is [.setR 27 (.r 10),
     .setR 28 (.con .none),
     .setR 29 (.cell (.o 4) 17),
     .setR 30 (.llen (.r 29)),
     .setR 31 (.ci .lss (.r 27) (.r 30))])
   (.ite (.r 31) [] []
    .skip
    (.exit 0)))
  (.seq
   (.block 1 [8, 34, 35, 36, 37, 38, 39, 40, 41, 52] []
    (.seq
     (.is [.setR 34 (.con .none),
       .setR 35 (.cell (.o 4) 17),
       .setR 36 (.r 10),
       .chk (.idx (.r 35) (.r 36)),
       .setR 37 (.ref (.nth (.r 35) (.r 36))),
       .setR 38 (.ref (.cell (.deref (.r 37)) 0)),
       .setR 39 (.deref (.r 38)),
       .setR 40 (.ci .eql (.r 39) (.con (.int 7))),
       .setR 41 (.r 40),
       .setR 42 (.con .none),
       .setR 43 (.cell (.o 4) 17),
       .setR 44 (.r 10),
       .chk (.imp [(41, true)] (.idx (.r 43) (.r 44))),
       .setR 45 (.ref (.nth (.r 43) (.r 44))),
       .setR 46 (.ref (.cell (.deref (.r 45)) 4)),
       .setR 47 (.deref (.r 46)),
       .setR 48 (.con .none),
       .setR 49 (.cell (.o 4) 15),
       .setR 50 (.llen (.r 49)),
       .setR 51 (.ci .eql (.r 47) (.r 50)),
       .setR 52 (.pick (.r 41) (.r 51) (.con (.bool false)))])
     (.ite (.r 52) [8] []
      (.seq
       (.is [.setR 53 (.r 9),
         .setR 8 (.r 53)])
       (.ret (.r 8)))
      .skip)))
   (.is [.setR 32 (.r 10),
     .setR 33 (.ai .add .i64 (.r 32) (.con (.int 1))),
     .setR 10 (.r 33)])))
def lp6_0 : PC := .block 0 [8, 10, 27, 28, 29, 30, 31] [] (.loop [8, 10] [] bd6_0)
def rd6_0 : PT :=
 (.ite (.ci .lss (.r 10) (.llen (.cell (.o 4) 17)))
  (.chk (.idx (.cell (.o 4) 17) (.r 10))
  (.chk (.nt (.an (.an (.ci .eql (.cell (.nth (.cell (.o 4) 17) (.r 10)) 0) (.con (.int 7))) (.con (.bool true))) (.nt (.idx (.cell (.o 4) 17) (.r 10)))))
  (.ite (.pick (.ci .eql (.cell (.nth (.cell (.o 4) 17) (.r 10)) 0) (.con (.int 7))) (.ci .eql (.cell (.nth (.cell (.o 4) 17) (.r 10)) 4) (.llen (.cell (.o 4) 15))) (.con (.bool false)))
   (.ret (.r 9))
   (.next ⟨[(8, (.r 8)), (10, (.ai .add .i64 (.r 10) (.con (.int 1))))], []⟩))))
  (.exit 0 ⟨[(8, (.r 8)), (10, (.r 10)), (27, (.r 10)), (28, (.con .none)), (29, (.cell (.o 4) 17)), (30, (.llen (.cell (.o 4) 17))), (31, (.ci .lss (.r 10) (.llen (.cell (.o 4) 17))))], []⟩))
theorem rd6_0_eq : round 0 [8, 10, 27, 28, 29, 30, 31] [] [8, 10] [] bd6_0 = rd6_0 := by kernel_rfl
def pc6 : PC :=
 (.seq
  (.is [.setO 4 (.mk [(.r 0)]),
    .setR 4 (.con .none),
    .setO 7 (.mk [(.r 3)]),
    .setR 7 (.con .none),
    .setR 8 (.con (.bool false))])
  (.seq
   (.is [.call [] 16 9 [],
     .setR 9 (.r 16)])
   (.seq
    (.seq
     (.is [.setR 17 (mkA 19 (.o 4)),
       .call [] 18 10 [(.r 17)],
       .setR 19 (.nt (.r 18)),
       .setR 20 (.r 19),
       .setR 21 (.con .none),
       .setR 22 (.cell (.o 7) 6),
       .setR 23 (.r 2),
       .setR 24 (.ci .gtr (.r 22) (.r 23)),
       .setR 25 (.pick (.r 20) (.con (.bool true)) (.r 24))])
     (.ite (.r 25) [8] []
      (.seq
       (.is [.setR 26 (.r 9),
         .setR 8 (.r 26)])
       (.ret (.r 8)))
      .skip))
    (.seq
     (.seq
      (.is [.setR 10 (.con (.int 0))])
      lp6_0)
     (.seq
      (.is [.setR 54 (.con .none),
        .setO 7 (.setc (.o 7) 0 (.con (.int 2)))])
      (.seq
       (.is [.setR 55 (.r 1),
         .setR 56 (.con .none),
         .setO 7 (.setc (.o 7) 1 (.r 55))])
       (.seq
        (.is [.setR 57 (mkA 19 (.o 4)),
          .setO 11 (.con (.agg [(.int 0), (.int 0), (.int 0), (.int 0), (.int 0), (.int 0), (.int 0), (.int 0), (.int 0), (.int 0), (.int 0), (.int 0), (.int 0), (.int 0), (.int 0), (.list []), (.list []), (.list []), (.list [])])),
          .setR 11 (.con .none),
          .setO 65547 (.con (.list [])),
          .setO 69643 (.con (.list [])),
          .setO 73739 (.con (.list [])),
          .setO 77835 (.con (.list [])),
          .setO 11 (.setc (.o 11) 0 (.r 57))])
        (.seq
         (.is [.setO 58 (.lst []),
           .setR 58 (.con .none),
           .setR 59 (.con .none),
           .setR 60 (.cell (.o 4) 15),
           .chk (.ci .leq (.llen (.app (.o 58) (.r 60))) (.con (.int 4294967296))),
           .setO 58 (.app (.o 58) (.r 60)),
           .setR 61 (.con .none),
           .setR 62 (mkA 9 (.o 7)),
           .setO 63 (.lst [(.r 62)]),
           .setR 63 (.con .none),
           .chk (.ci .leq (.llen (.app (.o 58) (.o 63))) (.con (.int 4294967296))),
           .setO 58 (.app (.o 58) (.o 63)),
           .setR 64 (.con .none),
           .setR 65 (.con .none),
           .setO 11 (.setc (.o 11) 15 (.con .none)),
           .setO 65547 (.o 58)])
         (.seq
          (.is [.setR 66 (mkA 19 (.o 4)),
            .setR 67 (.r 1),
            .setR 68 (.r 2),
            .call [] 69 14 [(.r 66), (.r 67), (.r 68)],
            .setO 12 (.con (.agg [(.list []), (.int 0), (.int 0), (.bool false), (.int 0), (.list [])])),
            .setR 12 (.con .none),
            .setO 4108 (.con (.list [])),
            .setO 24588 (.con (.list [])),
            .setO 12 (.setc (.o 12) 0 (.r 69))])
          (.seq
           (.is [.setR 70 (.mk [(.cell (.o 11) 0), (.cell (.o 11) 1), (.cell (.o 11) 2), (.cell (.o 11) 3), (.cell (.o 11) 4), (.cell (.o 11) 5), (.cell (.o 11) 6), (.cell (.o 11) 7), (.cell (.o 11) 8), (.cell (.o 11) 9), (.cell (.o 11) 10), (.cell (.o 11) 11), (.cell (.o 11) 12), (.cell (.o 11) 13), (.cell (.o 11) 14), (.o 65547), (.cell (.o 11) 16), (.cell (.o 11) 17), (.cell (.o 11) 18)]),
             .setR 71 (.r 1),
             .setR 72 (.r 2),
             .call [] 73 14 [(.r 70), (.r 71), (.r 72)],
             .setO 13 (.con (.agg [(.list []), (.int 0), (.int 0), (.bool false), (.int 0), (.list [])])),
             .setR 13 (.con .none),
             .setO 4109 (.con (.list [])),
             .setO 24589 (.con (.list [])),
             .setO 13 (.setc (.o 13) 0 (.r 73))])
           (.seq
            (.seq
             (.is [.setR 74 (.con .none),
               .setR 75 (.cell (.o 12) 2),
               .setR 76 (.ci .neq (.r 75) (.con (.int (-1))))])
             (.ite (.r 76) [8] []
              (.seq
               (.is [.setR 77 (.r 9),
                 .setR 78 (.r 77),
                 .setR 79 (mkA 6 (.o 12)),
                 .setR 80 (mkA 6 (.o 13)),
                 .call [(78, true)] 81 13 [(.r 79), (.r 80)],
                 .setR 82 (.pick (.r 78) (.r 81) (.con (.bool false))),
                 .setR 8 (.r 82)])
               (.ret (.r 8)))
              .skip))
            (.seq
             (.seq
              (.is [.setR 83 (.con .none),
                .setR 84 (.cell (.o 12) 3),
                .setR 85 (.nt (.r 84)),
                .setR 86 (.r 85),
                .setR 87 (.con .none),
                .setR 88 (.cell (.o 12) 1),
                .setR 89 (.con .none),
                .setR 90 (.cell (.o 7) 2),
                .setR 91 (.ci .neq (.r 88) (.r 90)),
                .setR 92 (.pick (.r 86) (.r 91) (.con (.bool false)))])
              (.ite (.r 92) [8] []
               (.seq
                (.is [.setR 93 (mkA 6 (.o 12)),
                  .setO 14 (.con (.agg [(.list []), (.int 0), (.int 0), (.bool false), (.int 0), (.list [])])),
                  .setR 14 (.con .none),
                  .setO 4110 (.con (.list [])),
                  .setO 24590 (.con (.list [])),
                  .setO 14 (.setc (.o 14) 0 (.r 93))])
                (.seq
                 (.is [.setR 94 (.con .none),
                   .setR 95 (.cell (.o 4) 15),
                   .setR 96 (.llen (.r 95)),
                   .setR 97 (.con .none),
                   .setO 14 (.setc (.o 14) 2 (.r 96))])
                 (.seq
                  (.is [.setR 98 (.r 9),
                    .setR 99 (.r 98),
                    .setR 100 (mkA 6 (.o 13)),
                    .setR 101 (mkA 6 (.o 14)),
                    .call [(99, true)] 102 13 [(.r 100), (.r 101)],
                    .setR 103 (.pick (.r 99) (.r 102) (.con (.bool false))),
                    .setR 8 (.r 103)])
                  (.ret (.r 8)))))
               .skip))
             (.seq
              (.is [.setR 15 (.con (.int 0))])
              (.seq
               (.seq
                (.is [.setR 104 (.con .none),
                  .setR 105 (.cell (.o 7) 8),
                  .setR 106 (.ai .and .i64 (.r 105) (.con (.int 2))),
                  .setR 107 (.ci .neq (.r 106) (.con (.int 0))),
                  .setR 108 (.r 107),
                  .setR 109 (.con .none),
                  .setR 110 (.cell (.o 12) 4),
                  .setR 111 (.ci .neq (.r 110) (.con (.int 0))),
                  .setR 112 (.pick (.r 108) (.con (.bool true)) (.r 111))])
                (.ite (.r 112) [15] []
                 (.is [.setR 15 (.con (.int 1))])
                 (.seq
                  (.is [.setR 113 (.con .none),
                    .setR 114 (.cell (.o 7) 8),
                    .setR 115 (.ai .and .i64 (.r 114) (.con (.int 4))),
                    .setR 116 (.ci .neq (.r 115) (.con (.int 0)))])
                  (.ite (.r 116) [15] []
                   (.is [.setR 15 (.con (.int 2))])
                   .skip))))
               (.seq
                (.seq
                 (.is [.setR 117 (.con .none),
                   .setR 118 (.cell (.o 13) 0),
                   .setR 119 (.llen (.r 118)),
                   .setR 120 (.con .none),
                   .setR 121 (.cell (.o 12) 0),
                   .setR 122 (.llen (.r 121)),
                   .setR 123 (.ai .add .i64 (.r 122) (.con (.int 1))),
                   .setR 124 (.ci .neq (.r 119) (.r 123)),
                   .setR 125 (.r 124),
                   .setR 126 (.con .none),
                   .setR 127 (.cell (.o 13) 0),
                   .setR 128 (.con .none),
                   .setR 129 (.cell (.o 12) 0),
                   .setR 130 (.llen (.r 129)),
                   .chk (.imp [(125, false)] (.idx (.r 127) (.r 130))),
                   .setR 131 (.ref (.nth (.r 127) (.r 130))),
                   .setR 132 (.deref (.r 131)),
                   .setR 133 (.con .none),
                   .setR 134 (.cell (.o 4) 15),
                   .setR 135 (.llen (.r 134)),
                   .setR 136 (.ci .neq (.r 132) (.r 135)),
                   .setR 137 (.pick (.r 125) (.con (.bool true)) (.r 136)),
                   .setR 138 (.r 137),
                   .setR 139 (.con .none),
                   .setR 140 (.cell (.o 13) 0),
                   .setR 141 (.con .none),
                   .setR 142 (.cell (.o 12) 0),
                   .setR 143 (.llen (.r 142)),
                   .chk (.imp [(138, false)] (.slok (.r 140) (.con (.int 0)) (.r 143))),
                   .setR 144 (.slc (.r 140) (.con (.int 0)) (.r 143)),
                   .setR 145 (.con .none),
                   .setR 146 (.cell (.o 12) 0),
                   .call [(138, false)] 147 16 [(.r 144), (.r 146)],
                   .setR 148 (.nt (.r 147)),
                   .setR 149 (.pick (.r 138) (.con (.bool true)) (.r 148))])
                 (.ite (.r 149) [8] []
                  (.seq
                   (.is [.setR 8 (.con (.bool false))])
                   (.ret (.r 8)))
                  .skip))
                (.seq
                 (.is [.setR 150 (.r 9),
                   .setR 151 (.r 150),
                   .setR 152 (.con .none),
                   .setR 153 (.cell (.o 13) 1),
                   .setR 154 (.con .none),
                   .setR 155 (.cell (.o 7) 4),
                   .setR 156 (.ci .eql (.r 153) (.r 155)),
                   .setR 157 (.pick (.r 151) (.r 156) (.con (.bool false))),
                   .setR 158 (.r 157),
                   .setR 159 (.con .none),
                   .setR 160 (.cell (.o 13) 3),
                   .setR 161 (.con .none),
                   .setR 162 (.cell (.o 7) 4),
                   .setR 163 (.ci .eql (.r 162) (.con (.int (-1)))),
                   .setR 164 (.cb .eql (.r 160) (.r 163)),
                   .setR 165 (.pick (.r 158) (.r 164) (.con (.bool false))),
                   .setR 166 (.r 165),
                   .setR 167 (.con .none),
                   .setR 168 (.cell (.o 13) 2),
                   .setR 169 (.ci .eql (.r 168) (.con (.int (-1)))),
                   .setR 170 (.pick (.r 166) (.r 169) (.con (.bool false))),
                   .setR 171 (.r 170),
                   .setR 172 (.con .none),
                   .setR 173 (.cell (.o 13) 4),
                   .setR 174 (.r 15),
                   .setR 175 (.ci .eql (.r 173) (.r 174)),
                   .setR 176 (.pick (.r 171) (.r 175) (.con (.bool false))),
                   .setR 177 (.r 176),
                   .setR 178 (.con .none),
                   .setR 179 (.cell (.o 13) 5),
                   .setR 180 (.llen (.r 179)),
                   .setR 181 (.con .none),
                   .setR 182 (.cell (.o 12) 5),
                   .setR 183 (.llen (.r 182)),
                   .setR 184 (.ci .geq (.r 180) (.r 183)),
                   .setR 185 (.pick (.r 177) (.r 184) (.con (.bool false))),
                   .setR 186 (.r 185),
                   .setR 187 (.con .none),
                   .setR 188 (.cell (.o 13) 5),
                   .setR 189 (.llen (.r 188)),
                   .setR 190 (.con .none),
                   .setR 191 (.cell (.o 12) 5),
                   .setR 192 (.llen (.r 191)),
                   .setR 193 (.ai .add .i64 (.r 192) (.con (.int 1))),
                   .setR 194 (.ci .leq (.r 189) (.r 193)),
                   .setR 195 (.pick (.r 186) (.r 194) (.con (.bool false))),
                   .setR 8 (.r 195)])
                 (.ret (.r 8))))))))))))))))))
def tr6 : PT :=
 (.call ⟨[(8, (.con (.bool false))), (7, (.con .none)), (4, (.con .none))], [(7, (.mk [(.r 3)])), (4, (.mk [(.r 0)]))]⟩ [] 16 9 []
 (.call ⟨[(17, (mkA 19 (.o 4))), (9, (.r 16))], []⟩ [] 18 10 [(.r 17)]
 (.ite (.pick (.nt (.r 18)) (.con (.bool true)) (.ci .gtr (.cell (.o 7) 6) (.r 2)))
  (.ret (.r 9))
  (.brk ⟨[(10, (.con (.int 0))), (8, (.r 8)), (25, (.pick (.nt (.r 18)) (.con (.bool true)) (.ci .gtr (.cell (.o 7) 6) (.r 2)))), (24, (.ci .gtr (.cell (.o 7) 6) (.r 2))), (23, (.r 2)), (22, (.cell (.o 7) 6)), (21, (.con .none)), (20, (.nt (.r 18))), (19, (.nt (.r 18)))], []⟩
   lp6_0
  (.chk (.ci .leq (.llen (.app (.lst []) (.cell (.o 4) 15))) (.con (.int 4294967296)))
  (.chk (.ci .leq (.llen (.app (.app (.lst []) (.cell (.o 4) 15)) (.lst [(mkA 9 (.setc (.setc (.o 7) 0 (.con (.int 2))) 1 (.r 1)))]))) (.con (.int 4294967296)))
  (.call ⟨[(68, (.r 2)), (67, (.r 1)), (66, (mkA 19 (.o 4))), (65, (.con .none)), (64, (.con .none)), (63, (.con .none)), (62, (mkA 9 (.setc (.setc (.o 7) 0 (.con (.int 2))) 1 (.r 1)))), (61, (.con .none)), (60, (.cell (.o 4) 15)), (59, (.con .none)), (58, (.con .none)), (11, (.con .none)), (57, (mkA 19 (.o 4))), (56, (.con .none)), (55, (.r 1)), (54, (.con .none))], [(65547, (.app (.app (.lst []) (.cell (.o 4) 15)) (.lst [(mkA 9 (.setc (.setc (.o 7) 0 (.con (.int 2))) 1 (.r 1)))]))), (11, (.setc (.setc (.con (.agg [(.int 0), (.int 0), (.int 0), (.int 0), (.int 0), (.int 0), (.int 0), (.int 0), (.int 0), (.int 0), (.int 0), (.int 0), (.int 0), (.int 0), (.int 0), (.list []), (.list []), (.list []), (.list [])])) 0 (mkA 19 (.o 4))) 15 (.con .none))), (58, (.app (.app (.lst []) (.cell (.o 4) 15)) (.lst [(mkA 9 (.setc (.setc (.o 7) 0 (.con (.int 2))) 1 (.r 1)))]))), (63, (.lst [(mkA 9 (.setc (.setc (.o 7) 0 (.con (.int 2))) 1 (.r 1)))])), (58, (.app (.lst []) (.cell (.o 4) 15))), (58, (.lst [])), (11, (.setc (.con (.agg [(.int 0), (.int 0), (.int 0), (.int 0), (.int 0), (.int 0), (.int 0), (.int 0), (.int 0), (.int 0), (.int 0), (.int 0), (.int 0), (.int 0), (.int 0), (.list []), (.list []), (.list []), (.list [])])) 0 (mkA 19 (.o 4)))), (77835, (.con (.list []))), (73739, (.con (.list []))), (69643, (.con (.list []))), (65547, (.con (.list []))), (11, (.con (.agg [(.int 0), (.int 0), (.int 0), (.int 0), (.int 0), (.int 0), (.int 0), (.int 0), (.int 0), (.int 0), (.int 0), (.int 0), (.int 0), (.int 0), (.int 0), (.list []), (.list []), (.list []), (.list [])]))), (7, (.setc (.setc (.o 7) 0 (.con (.int 2))) 1 (.r 1))), (7, (.setc (.o 7) 0 (.con (.int 2))))]⟩ [] 69 14 [(.r 66), (.r 67), (.r 68)]
  (.call ⟨[(72, (.r 2)), (71, (.r 1)), (70, (.mk [(.cell (.o 11) 0), (.cell (.o 11) 1), (.cell (.o 11) 2), (.cell (.o 11) 3), (.cell (.o 11) 4), (.cell (.o 11) 5), (.cell (.o 11) 6), (.cell (.o 11) 7), (.cell (.o 11) 8), (.cell (.o 11) 9), (.cell (.o 11) 10), (.cell (.o 11) 11), (.cell (.o 11) 12), (.cell (.o 11) 13), (.cell (.o 11) 14), (.o 65547), (.cell (.o 11) 16), (.cell (.o 11) 17), (.cell (.o 11) 18)])), (12, (.con .none))], [(12, (.setc (.con (.agg [(.list []), (.int 0), (.int 0), (.bool false), (.int 0), (.list [])])) 0 (.r 69))), (24588, (.con (.list []))), (4108, (.con (.list []))), (12, (.con (.agg [(.list []), (.int 0), (.int 0), (.bool false), (.int 0), (.list [])])))]⟩ [] 73 14 [(.r 70), (.r 71), (.r 72)]
  (.iteS ⟨[(76, (.ci .neq (.cell (.o 12) 2) (.con (.int (-1))))), (75, (.cell (.o 12) 2)), (74, (.con .none)), (13, (.con .none))], [(13, (.setc (.con (.agg [(.list []), (.int 0), (.int 0), (.bool false), (.int 0), (.list [])])) 0 (.r 73))), (24589, (.con (.list []))), (4109, (.con (.list []))), (13, (.con (.agg [(.list []), (.int 0), (.int 0), (.bool false), (.int 0), (.list [])])))]⟩ (.r 76) [8] []
   (.call ⟨[(80, (mkA 6 (.o 13))), (79, (mkA 6 (.o 12))), (78, (.r 9)), (77, (.r 9))], []⟩ [(78, true)] 81 13 [(.r 79), (.r 80)]
   (.ret (.pick (.r 78) (.r 81) (.con (.bool false)))))
   (.next ⟨[], []⟩)
  (.iteS ⟨[(92, (.pick (.nt (.cell (.o 12) 3)) (.ci .neq (.cell (.o 12) 1) (.cell (.o 7) 2)) (.con (.bool false)))), (91, (.ci .neq (.cell (.o 12) 1) (.cell (.o 7) 2))), (90, (.cell (.o 7) 2)), (89, (.con .none)), (88, (.cell (.o 12) 1)), (87, (.con .none)), (86, (.nt (.cell (.o 12) 3))), (85, (.nt (.cell (.o 12) 3))), (84, (.cell (.o 12) 3)), (83, (.con .none))], []⟩ (.r 92) [8] []
   (.call ⟨[(101, (mkA 6 (.setc (.setc (.con (.agg [(.list []), (.int 0), (.int 0), (.bool false), (.int 0), (.list [])])) 0 (mkA 6 (.o 12))) 2 (.llen (.cell (.o 4) 15))))), (100, (mkA 6 (.o 13))), (99, (.r 9)), (98, (.r 9)), (97, (.con .none)), (96, (.llen (.cell (.o 4) 15))), (95, (.cell (.o 4) 15)), (94, (.con .none)), (14, (.con .none)), (93, (mkA 6 (.o 12)))], [(14, (.setc (.setc (.con (.agg [(.list []), (.int 0), (.int 0), (.bool false), (.int 0), (.list [])])) 0 (mkA 6 (.o 12))) 2 (.llen (.cell (.o 4) 15)))), (14, (.setc (.con (.agg [(.list []), (.int 0), (.int 0), (.bool false), (.int 0), (.list [])])) 0 (mkA 6 (.o 12)))), (24590, (.con (.list []))), (4110, (.con (.list []))), (14, (.con (.agg [(.list []), (.int 0), (.int 0), (.bool false), (.int 0), (.list [])])))]⟩ [(99, true)] 102 13 [(.r 100), (.r 101)]
   (.ret (.pick (.r 99) (.r 102) (.con (.bool false)))))
   (.next ⟨[], []⟩)
  (.chk (.nt (.an (.an (.nt (.ci .neq (.llen (.cell (.o 13) 0)) (.ai .add .i64 (.llen (.cell (.o 12) 0)) (.con (.int 1))))) (.con (.bool true))) (.nt (.idx (.cell (.o 13) 0) (.llen (.cell (.o 12) 0))))))
  (.chk (.nt (.an (.an (.nt (.pick (.ci .neq (.llen (.cell (.o 13) 0)) (.ai .add .i64 (.llen (.cell (.o 12) 0)) (.con (.int 1)))) (.con (.bool true)) (.ci .neq (.nth (.cell (.o 13) 0) (.llen (.cell (.o 12) 0))) (.llen (.cell (.o 4) 15))))) (.con (.bool true))) (.nt (.slok (.cell (.o 13) 0) (.con (.int 0)) (.llen (.cell (.o 12) 0))))))
  (.call ⟨[(146, (.cell (.o 12) 0)), (145, (.con .none)), (144, (.slc (.cell (.o 13) 0) (.con (.int 0)) (.llen (.cell (.o 12) 0)))), (143, (.llen (.cell (.o 12) 0))), (142, (.cell (.o 12) 0)), (141, (.con .none)), (140, (.cell (.o 13) 0)), (139, (.con .none)), (138, (.pick (.ci .neq (.llen (.cell (.o 13) 0)) (.ai .add .i64 (.llen (.cell (.o 12) 0)) (.con (.int 1)))) (.con (.bool true)) (.ci .neq (.nth (.cell (.o 13) 0) (.llen (.cell (.o 12) 0))) (.llen (.cell (.o 4) 15))))), (137, (.pick (.ci .neq (.llen (.cell (.o 13) 0)) (.ai .add .i64 (.llen (.cell (.o 12) 0)) (.con (.int 1)))) (.con (.bool true)) (.ci .neq (.nth (.cell (.o 13) 0) (.llen (.cell (.o 12) 0))) (.llen (.cell (.o 4) 15))))), (136, (.ci .neq (.nth (.cell (.o 13) 0) (.llen (.cell (.o 12) 0))) (.llen (.cell (.o 4) 15)))), (135, (.llen (.cell (.o 4) 15))), (134, (.cell (.o 4) 15)), (133, (.con .none)), (132, (.nth (.cell (.o 13) 0) (.llen (.cell (.o 12) 0)))), (131, (.ref (.nth (.cell (.o 13) 0) (.llen (.cell (.o 12) 0))))), (130, (.llen (.cell (.o 12) 0))), (129, (.cell (.o 12) 0)), (128, (.con .none)), (127, (.cell (.o 13) 0)), (126, (.con .none)), (125, (.ci .neq (.llen (.cell (.o 13) 0)) (.ai .add .i64 (.llen (.cell (.o 12) 0)) (.con (.int 1))))), (124, (.ci .neq (.llen (.cell (.o 13) 0)) (.ai .add .i64 (.llen (.cell (.o 12) 0)) (.con (.int 1))))), (123, (.ai .add .i64 (.llen (.cell (.o 12) 0)) (.con (.int 1)))), (122, (.llen (.cell (.o 12) 0))), (121, (.cell (.o 12) 0)), (120, (.con .none)), (119, (.llen (.cell (.o 13) 0))), (118, (.cell (.o 13) 0)), (117, (.con .none)), (15, (.pick (.pick (.ci .neq (.ai .and .i64 (.cell (.o 7) 8) (.con (.int 2))) (.con (.int 0))) (.con (.bool true)) (.ci .neq (.cell (.o 12) 4) (.con (.int 0)))) (.con (.int 1)) (.pick (.ci .neq (.ai .and .i64 (.cell (.o 7) 8) (.con (.int 4))) (.con (.int 0))) (.con (.int 2)) (.con (.int 0))))), (112, (.pick (.ci .neq (.ai .and .i64 (.cell (.o 7) 8) (.con (.int 2))) (.con (.int 0))) (.con (.bool true)) (.ci .neq (.cell (.o 12) 4) (.con (.int 0))))), (111, (.ci .neq (.cell (.o 12) 4) (.con (.int 0)))), (110, (.cell (.o 12) 4)), (109, (.con .none)), (108, (.ci .neq (.ai .and .i64 (.cell (.o 7) 8) (.con (.int 2))) (.con (.int 0)))), (107, (.ci .neq (.ai .and .i64 (.cell (.o 7) 8) (.con (.int 2))) (.con (.int 0)))), (106, (.ai .and .i64 (.cell (.o 7) 8) (.con (.int 2)))), (105, (.cell (.o 7) 8)), (104, (.con .none)), (15, (.con (.int 0)))], []⟩ [(138, false)] 147 16 [(.r 144), (.r 146)]
  (.ite (.pick (.r 138) (.con (.bool true)) (.nt (.r 147)))
   (.ret (.con (.bool false)))
   (.ret (.pick (.pick (.pick (.pick (.pick (.pick (.r 9) (.ci .eql (.cell (.o 13) 1) (.cell (.o 7) 4)) (.con (.bool false))) (.cb .eql (.cell (.o 13) 3) (.ci .eql (.cell (.o 7) 4) (.con (.int (-1))))) (.con (.bool false))) (.ci .eql (.cell (.o 13) 2) (.con (.int (-1)))) (.con (.bool false))) (.ci .eql (.cell (.o 13) 4) (.r 15)) (.con (.bool false))) (.ci .geq (.llen (.cell (.o 13) 5)) (.llen (.cell (.o 12) 5))) (.con (.bool false))) (.ci .leq (.llen (.cell (.o 13) 5)) (.ai .add .i64 (.llen (.cell (.o 12) 5)) (.con (.int 1)))) (.con (.bool false))))))))))))))))))
theorem tr6_eq : tree pc6 = tr6 := by kernel_rfl
end Title
