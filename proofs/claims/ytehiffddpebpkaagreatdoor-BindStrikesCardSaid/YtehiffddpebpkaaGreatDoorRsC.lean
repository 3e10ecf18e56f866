/-
  The statement: BindStrikes. For all right realms and files (small ones), courts and days, and a signature that is struck out on this day: it does not bind, all others have the same effect; and later days change nothing.
-/
import Derived.Test.YtehiffddpebpkaaGreatDoorKAP
import Derived.Test.YtehiffddpebpkaaGreatDoorCards
import Derived.Test.YtehiffddpebpkaaGreatDoorTie
import Derived.ProofKit
import Derived.LaidMore
import Derived.OpenShut
import Derived.Stop.Joined
import Derived.SevenTiedAt
set_option linter.unusedSimpArgs false
set_option linter.unusedVariables false
namespace Go.Proofs.YtehiffddpebpkaaGreatDoor
open Go Go.Proofs Cx Rm Go.RowKit Go.ChangeShapes Go.WideShapes
theorem WW:ownKnob Tryz.prog.godebug=none:=by kernel_rfl
abbrev oH:List (String×DataW Unit):=[("allonge/order.numbers",Rows.laid_allonge_order_numbers)]
theorem Vb (os:Os)(args:Array Value):laidMetH Tryz.prog oH ((World.doorLaid Tryz.prog 400 os).forCall (fun _ _=>0) ⟨#[],args,[]⟩).memory:=
 laidMetH_of_parts3 (fuel:=8) (laidMet_of_run' 8 (by kernel_rfl) (by kernel_rfl)) (by kernel_rfl) (by kernel_rfl)
theorem XX {W:World}(h:laidMetH Tryz.prog oH W):CtxOK ctx (I1 W):=by
 rw[MakeChecks.laidMetH_plain _ _ _ (by kernel_rfl)] at h
 refine YH (g:=0) (name:= "allonge/order.numbers") rfl (by kernel_rfl) (by kernel_rfl) ?_
 exact Lib.tabIs_of_head (g:=0) (n:=10) (by kernel_rfl) (t:=217) (by kernel_rfl) (e:=3) (by kernel_rfl) (by kernel_rfl) (by kernel_rfl) (by kernel_rfl) h
theorem IA (ds:List D)(h:DTys ((aa aq 6).getD default).args ds):FnOK ctx 6 ((aa aq 6).getD default) ds (.v (.bool true)):=by
 obtain⟨d1,ds,rfl,h1,h⟩:=DTys.cons_inv h
 obtain⟨d2,ds,rfl,h2,h⟩:=DTys.cons_inv h
 obtain⟨d3,ds,rfl,h3,h⟩:=DTys.cons_inv h
 obtain⟨d4,ds,rfl,h4,h⟩:=DTys.cons_inv h
 obtain⟨d5,ds,rfl,h5,h⟩:=DTys.cons_inv h
 obtain⟨d6,ds,rfl,h6,h⟩:=DTys.cons_inv h
 obtain rfl:=h.nil_inv
 obtain⟨r,rfl,hr⟩:=aaA h1
 obtain⟨n2,rfl,_⟩:=h2.int_inv
 obtain⟨f,rfl,_⟩:=acS h3
 obtain⟨n4,rfl,g4⟩:=h4.int_inv
 obtain⟨n5,rfl,g5⟩:=h5.int_inv
 obtain⟨n6,rfl,g6⟩:=h6.int_inv
 have e4:IntKind.u8.min=0∧IntKind.u8.max=255:=by decide
 have e5:IntKind.i64.min=-9223372036854775808∧IntKind.i64.max=9223372036854775807:=by decide
 have e6:IntKind.u16.min=0∧IntKind.u16.max=65535:=by decide
 rw[e4.1,e4.2] at g4
 rw[e5.1,e5.2] at g5
 rw[e6.1,e6.2] at g6
 obtain⟨k4,rfl⟩:=Int.eq_ofNat_of_zero_le g4.1
 obtain⟨k6,rfl⟩:=Int.eq_ofNat_of_zero_le g6.1
 exact Runs.fnOK agM rfl (H8 r hr n2 f k4 (by omega) n5 g5 k6 (by omega))
set_option maxRecDepth 100000 in
theorem Dc (os:Os)(started:os.Started)(H:Type)(enc:TypeId×Value→H):
 ReturnsInHanded {} Tryz.checked os 6 .any (fun w args=>(Rows.bindStrikesSpec.pre enc Tryz.prog Tryz.f6 [] false w args∧laidMetH Tryz.prog oH w)∧sizedMet enc Tryz.prog Tryz.f6 (OpenSpec.ofChange Rows.bindStrikesSpec) false w args)
  (Rows.bindStrikesSpec.post enc Tryz.prog Tryz.f6 false true false false):=by
 refine returnsInHanded_of_change_and (C:=Tryz.checked) (X:=fun w _=>laidMetH Tryz.prog oH w) (fun _ _ _ hh h=>h.of_heap hh) WW started (by kernel_rfl) Tryz.func6
  (ChangeSpec.witness_shaped (enc:=enc) (C:=Tryz.checked) (os:=os) (X:=fun w _=>laidMetH Tryz.prog oH w) false (World.doorLaid Tryz.prog 400 os) #[.agg #[.slice none 0 0,.slice none 0 0,.slice none 0 0,.slice none 0 0,.slice none 0 0,.slice none 0 0,.slice none 0 0,.slice none 0 0],.int .i64 0,.agg #[.int .i64 0,.int .i64 0,.int .i64 0,.int .i64 0,.int .i64 0,.int .i64 0,.int .i64 0,.int .i64 0,.int .i64 0,.int .i64 0,.int .i64 0,.int .i64 0,.int .i64 0,.int .i64 0,.int .i64 0,.slice none 0 0,.slice none 0 0,.slice none 0 0,.slice none 0 0],.int .u8 0,.int .i64 0,.int .u16 0] 8 rfl (World.shaped_of_RefB (by kernel_rfl) (by kernel_rfl)) (by kernel_rfl) (by kernel_rfl) (by kernel_rfl) (Vb os _)) ?_
 intro W base args ds gs before hval hW _ _ hL _
 refine RB (C:=ctx) (f:=6) (fn:=Tryz.f6) (sg:=(aa aq 6).getD default) (spec:=Rows.bindStrikesSpec) (tb:=4) (by kernel_rfl) (by kernel_rfl) (by kernel_rfl) rfl ?_ rfl Tryz.underlying4 rfl rfl IA W (XX hL) base args ds gs before hval hW
 intro ds hds
 match ds,hds with
 |[_,_,_,_,_,_],_=>exact⟨rfl,rfl,rfl⟩
set_option maxHeartbeats 4000000 in
theorem Et:joinedFacts Tryz.pinned.checked.prog 6 Tryz.f6 Rows.bindStrikesSpec Rows.bindStrikesRow=true:=by
 unfold joinedFacts
 simp only[Bool.and_eq_true]
 repeat' apply And.intro
 all_goals (as_aux_lemma=>kernel_rfl)
theorem bindStrikes_named:Tryz.pinned.checked.prog.funcNamed Rows.bindStrikesRow.func=some 6:=by kernel_rfl
theorem H7:Tryz.f6.isInstance Tryz.pinned.checked.prog Rows.bindStrikesRow.origin Rows.bindStrikesRow.targs:=of_decide_eq_true (by kernel_rfl)
theorem H9:Tryz.f6.isWrapper Tryz.pinned.checked.prog Rows.bindStrikesRow.wrapper Rows.bindStrikesRow.mainSum:=by
 unfold Func.isWrapper;first|(rw[if_pos (by decide+kernel)];kernel_rfl)|(rw[if_neg (by decide+kernel)];exact⟨rfl,rfl⟩)
theorem Ls:Rows.BindStrikesSaid:=
 OpenClaim.holds_of_wide 6 Tryz.f6 rfl rfl rfl rfl rfl rfl rfl ⟨rfl,rfl,rfl,rfl,rfl⟩ rfl rfl rfl rfl rfl bindStrikes_named Tryz.func6 Et H7 H9
  (fun os started H enc _=>Dc os started H enc)
theorem Ix:Rows.bindStrikesRow.wfByText (OpenSpec.ofChange Rows.bindStrikesSpec)=true:=by kernel_rfl
theorem aav:Tryz.pinned.checked.prog.mainIs=some (true, "7a89ebd8fe6190d5882d4bc529bbf5bee1142d07dde37d8d178d5560bbb31a51".toList):=by kernel_rfl
theorem YL:false=Tryz.pinned.checked.prog.looks []:=by kernel_rfl
theorem F7:(Tryz.f6.params.toList.all fun u=> !Tryz.prog.wantsStandIn u)=true:=by kernel_rfl
theorem Jk:false=Rows.bindStrikesRow.goesBy Tryz.pinned.checked.prog:=by kernel_rfl
theorem bindStrikes_holds:Rows.BindStrikesCardSaid:=
 Claim7.holds_tied_plain_at .later [] [.widerDeep] true (true, "7a89ebd8fe6190d5882d4bc529bbf5bee1142d07dde37d8d178d5560bbb31a51") false
  Ls (fun _ h=>by cases h) Ix (fun _ h=>by cases h) bindStrikes_row_tie rfl ⟨rfl,rfl⟩ aav rfl
  (fun f fn hf hfn=>by
    obtain rfl:f=6:=Option.some.inj (bindStrikes_named.symm.trans hf) |>.symm
    obtain rfl:fn=Tryz.f6:=(Option.some.inj (Tryz.func6.symm.trans hfn)).symm
    exact⟨YL,fun j t ht=>by
        have hm:t∈Tryz.f6.params.toList:=by simpa using Array.mem_of_getElem? ht
        exact(show Tryz.prog.wantsStandIn t=false by simpa using List.all_eq_true.1 F7 t hm)⟩)
  Jk
#print axioms bindStrikes_holds
end Go.Proofs.YtehiffddpebpkaaGreatDoor
