/-
  The statement: LostTells. LostTells, as the card says.
-/
import Derived.Test.YtnkkihnmnfihnaaGreatDoorMAR
import Derived.Test.YtnkkihnmnfihnaaGreatDoorCards
import Derived.Test.YtnkkihnmnfihnaaGreatDoorTie
import Derived.ProofKit
import Derived.LaidMore
import Derived.OpenShut
import Derived.Stop.Joined
import Derived.SevenTiedAt
set_option linter.all false
namespace Go.Proofs.YtnkkihnmnfihnaaGreatDoor
open Go Go.Proofs Cx Rm Go.RowKit Go.ChangeShapes Go.WideShapes
theorem aul:ownKnob Tryz.prog.godebug=none:=by kernel_rfl
abbrev Gq:List (String×DataW Unit):=[("allonge/order.numbers",Rows.laid_allonge_order_numbers)]
theorem auj (os:Os)(args:Array Value):laidMetH Tryz.prog Gq ((World.doorLaid Tryz.prog 400 os).forCall (λ_ _=>0) ⟨#[],args,[]⟩).memory:=
 laidMetH_of_parts3 (fuel:=8) (laidMet_of_run' 8 (by kernel_rfl) (by kernel_rfl)) (by kernel_rfl) (by kernel_rfl)
theorem auk {W:World}(h:laidMetH Tryz.prog Gq W):CtxOK ctx (oN W):=by
 rw[MakeChecks.laidMetH_plain _ _ _ (by kernel_rfl)] at h;refine axM (g:=0) (name:= "allonge/order.numbers") rfl (by kernel_rfl) (by kernel_rfl) ?_;exact Lib.tabIs_of_head (g:=0) (n:=10) (by kernel_rfl) (t:=171) (by kernel_rfl) (e:=3) (by kernel_rfl) (by kernel_rfl) (by kernel_rfl) (by kernel_rfl) h
theorem ar3 (ds:List D)(h:DTys ((bS xu 3).getD default).args ds):jz ctx 3 ((bS xu 3).getD default) ds (.v (.bool true)):=by
 obtain⟨d1,ds,rfl,h1,h⟩:=DTys.cons_inv h;obtain⟨d2,ds,rfl,h2,h⟩:=DTys.cons_inv h;obtain⟨d3,ds,rfl,h3,h⟩:=DTys.cons_inv h;obtain⟨d4,ds,rfl,h4,h⟩:=DTys.cons_inv h;obtain⟨d5,ds,rfl,h5,h⟩:=DTys.cons_inv h;obtain rfl:=h.nil_inv;obtain⟨r,rfl,hr⟩:=awS h1;obtain⟨n2,rfl,_⟩:=h2.int_inv;obtain⟨f,rfl,hf⟩:=amK h3;obtain⟨x,rfl,hx⟩:=ar9 h4;obtain⟨n5,rfl,g5⟩:=h5.i64_inv;exact aq.fnOK axN rfl (ajX r hr n2 f hf x hx n5 g5)
set_option maxRecDepth 100000 in
theorem ar2 (os:Os)(started:os.Started)(H:Type)(enc:TypeId×Value->H):
 ReturnsInHanded {} Tryz.checked os 3 .any (λw args=>(Rows.lostTellsSpec.pre enc Tryz.prog Tryz.f3 [] false w args/\laidMetH Tryz.prog Gq w)/\sizedMet enc Tryz.prog Tryz.f3 (OpenSpec.ofChange Rows.lostTellsSpec) false w args)
  (Rows.lostTellsSpec.post enc Tryz.prog Tryz.f3 false true false false):=by
 refine returnsInHanded_of_change_and (C:=Tryz.checked) (X:=λw _=>laidMetH Tryz.prog Gq w) (λ_ _ _ hh h=>h.of_heap hh) aul started (by kernel_rfl) Tryz.func3
  (ChangeSpec.witness_shaped (enc:=enc) (C:=Tryz.checked) (os:=os) (X:=λw _=>laidMetH Tryz.prog Gq w) false (World.doorLaid Tryz.prog 400 os) #[.agg #[.slice none 0 0,.slice none 0 0,.slice none 0 0,.slice none 0 0,.slice none 0 0,.slice none 0 0,.slice none 0 0,.slice none 0 0],.int .i64 0,.agg #[.int .i64 0,.int .i64 0,.int .i64 0,.int .i64 0,.int .i64 0,.int .i64 0,.int .i64 0,.int .i64 0,.int .i64 0,.int .i64 0,.int .i64 0,.int .i64 0,.int .i64 0,.int .i64 0,.int .i64 0,.slice none 0 0,.slice none 0 0,.slice none 0 0,.slice none 0 0],.agg #[.int .i64 0,.int .i64 0,.int .i64 0,.int .i64 0,.int .i64 0,.slice none 0 0],.int .i64 0] 8 rfl (World.shaped_of_RefB (by kernel_rfl) (by kernel_rfl)) (by kernel_rfl) (by kernel_rfl) (by kernel_rfl) (auj os _)) ?_
 intro W base args ds gs before cK hW _ _ hL _;refine arL (C:=ctx) (f:=3) (fn:=Tryz.f3) (sg:=(bS xu 3).getD default) (spec:=Rows.lostTellsSpec) (tb:=4) (by kernel_rfl) (by kernel_rfl) (by kernel_rfl) rfl ?_ rfl Tryz.underlying4 rfl rfl ar3 W (auk hL) base args ds gs before cK hW;intro ds yF
 match ds,yF with
 |[_,_,_,_,_],_=>exact⟨rfl,rfl,rfl⟩
set_option maxHeartbeats 4000000 in
theorem ar1:joinedFacts Tryz.pinned.checked.prog 3 Tryz.f3 Rows.lostTellsSpec Rows.lostTellsRow=true:=by
 unfold joinedFacts;simp only[av]
 repeat' apply And.intro
 all_goals (as_aux_lemma=>kernel_rfl)
theorem adM:Tryz.pinned.checked.prog.funcNamed Rows.lostTellsRow.func=some 3:=by kernel_rfl
theorem ar0:Tryz.f3.isInstance Tryz.pinned.checked.prog Rows.lostTellsRow.origin Rows.lostTellsRow.targs:=of_decide_eq_true (by kernel_rfl)
theorem ar7:Tryz.f3.isWrapper Tryz.pinned.checked.prog Rows.lostTellsRow.wrapper Rows.lostTellsRow.mainSum:=by
 unfold Func.isWrapper;first|(rw[if_pos (by decide+kernel)];kernel_rfl)|(rw[if_neg (by decide+kernel)];exact⟨rfl,rfl⟩)
theorem ar5:Rows.LostTellsSaid:=
 OpenClaim.holds_of_wide 3 Tryz.f3 rfl rfl rfl rfl rfl rfl rfl ⟨rfl,rfl,rfl,rfl,rfl⟩ rfl rfl rfl rfl rfl adM Tryz.func3 ar1 ar0 ar7
  (λos started H enc _=>ar2 os started H enc)
theorem ar6:Rows.lostTellsRow.wfByText (OpenSpec.ofChange Rows.lostTellsSpec)=true:=by kernel_rfl
theorem axo:Tryz.pinned.checked.prog.mainIs=some (true, "f38cdb830bb2f9ec9f5a3a0ceaf9dae3f78515116c1fbe1b3564571f842021fc".toList):=by kernel_rfl
theorem axn:false=Tryz.pinned.checked.prog.looks []:=by kernel_rfl
theorem ar4:(Tryz.f3.params.toList.all λu=> !Tryz.prog.wantsStandIn u)=true:=by kernel_rfl
theorem arZ:false=Rows.lostTellsRow.goesBy Tryz.pinned.checked.prog:=by kernel_rfl
theorem lostTells_holds:Rows.LostTellsCardSaid:=
 Claim7.holds_tied_plain_at .later [] [.widerDeep] true (true, "f38cdb830bb2f9ec9f5a3a0ceaf9dae3f78515116c1fbe1b3564571f842021fc") false
  ar5 (λ_ h=>by cases h) ar6 (λ_ h=>by cases h) lostTells_row_tie rfl ⟨rfl,rfl⟩ axo rfl
  (λf fn hf hfn=>by
    obtain rfl:f=3:=D1 (adM.symm.trans hf) |>.symm;obtain rfl:fn=Tryz.f3:=(D1 (Tryz.func3.symm.trans hfn)).symm
    exact⟨axn,λj t ht=>by
        have hm:t∈Tryz.f3.params.toList:=by simpa using ja ht
        exact(show Tryz.prog.wantsStandIn t=false by simpa using bT.1 ar4 t hm)⟩)
  arZ
#print axioms lostTells_holds
end Go.Proofs.YtnkkihnmnfihnaaGreatDoor
