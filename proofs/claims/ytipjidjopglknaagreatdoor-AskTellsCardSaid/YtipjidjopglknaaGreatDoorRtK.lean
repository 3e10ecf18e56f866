/-
  The statement: AskTells. For all right realms and cases, every function returns what the reference returns
-/
import Derived.Test.YtipjidjopglknaaGreatDoorMAS
import Derived.Test.YtipjidjopglknaaGreatDoorCards
import Derived.Test.YtipjidjopglknaaGreatDoorTie
import Derived.ProofKit
import Derived.LaidMore
import Derived.OpenShut
import Derived.Stop.Joined
import Derived.SevenTiedAt
set_option linter.defProp false
set_option linter.unusedSimpArgs false
set_option linter.unusedVariables false
namespace Go.Proofs.YtipjidjopglknaaGreatDoor
open Go Go.Proofs Cx Rm Go.RowKit Go.ChangeShapes Go.WideShapes
def av7:ownKnob Tryz.prog.godebug=none:=by kernel_rfl
abbrev GW:List (String×DataW Unit):=[("allonge/order.numbers",Rows.laid_allonge_order_numbers)]
def av5 (os:Os)(args:Array Value):laidMetH Tryz.prog GW ((World.doorLaid Tryz.prog 400 os).forCall (λ_ _=>0) ⟨#[],args,[]⟩).memory:=
 laidMetH_of_parts3 (fuel:=8) (laidMet_of_run' 8 (by kernel_rfl) (by kernel_rfl)) (by kernel_rfl) (by kernel_rfl)
def av6 {W:World}(h:laidMetH Tryz.prog GW W):CtxOK ctx (lY W):=by
 rw[MakeChecks.laidMetH_plain _ _ _ (by kernel_rfl)] at h;refine azc (g:=0) (name:= "allonge/order.numbers") rfl (by kernel_rfl) (by kernel_rfl) ?_;exact Lib.tabIs_of_head (g:=0) (n:=10) (by kernel_rfl) (t:=159) (by kernel_rfl) (e:=3) (by kernel_rfl) (by kernel_rfl) (by kernel_rfl) (by kernel_rfl) h
def alZ (ds:List D)(h:DTys ((bk fa 3).getD default).args ds):gN ctx 3 ((bk fa 3).getD default) ds (.v (.bool true)):=by
 obtain⟨d1,ds,rfl,h1,h⟩:=DTys.cons_inv h;obtain⟨d2,ds,rfl,h2,h⟩:=DTys.cons_inv h;obtain⟨d3,ds,rfl,h3,h⟩:=DTys.cons_inv h;obtain⟨d4,ds,rfl,h4,h⟩:=DTys.cons_inv h;obtain⟨d5,ds,rfl,h5,h⟩:=DTys.cons_inv h;obtain rfl:=h.nil_inv;obtain⟨r,rfl,hr⟩:=ayd h1;obtain⟨n2,rfl,_⟩:=h2.int_inv;obtain⟨n3,rfl,_⟩:=h3.int_inv;obtain⟨c,rfl,hc⟩:=amT h4;obtain⟨n5,rfl,_⟩:=h5.int_inv;exact ah.fnOK azd rfl (ak9 r hr n2 n3 c n5)
set_option maxRecDepth 100000 in
def alY (os:Os)(started:os.Started)(zzt:Type)(enc:TypeId×Value->zzt):
 ReturnsInHanded {} Tryz.checked os 3 .any (λw args=>(Rows.askTellsSpec.pre enc Tryz.prog Tryz.f3 [] false w args/\laidMetH Tryz.prog GW w)/\sizedMet enc Tryz.prog Tryz.f3 (OpenSpec.ofChange Rows.askTellsSpec) false w args)
  (Rows.askTellsSpec.post enc Tryz.prog Tryz.f3 false true false false):=by
 refine returnsInHanded_of_change_and (C:=Tryz.checked) (X:=λw _=>laidMetH Tryz.prog GW w) (λ_ _ _ hh h=>h.of_heap hh) av7 started (by kernel_rfl) Tryz.func3
  (ChangeSpec.witness_shaped (enc:=enc) (C:=Tryz.checked) (os:=os) (X:=λw _=>laidMetH Tryz.prog GW w) false (World.doorLaid Tryz.prog 400 os) #[.agg #[.slice none 0 0,.slice none 0 0,.slice none 0 0,.slice none 0 0,.slice none 0 0,.slice none 0 0,.slice none 0 0,.slice none 0 0],.int .i64 0,.int .i64 0,.agg #[.int .i64 0,.int .i64 0,.int .i64 0,.int .i64 0,.int .i64 0,.int .i64 0,.int .i64 0,.int .i64 0,.int .i64 0,.int .i64 0,.int .i64 0,.int .i64 0,.int .i64 0,.int .i64 0,.int .i64 0,.slice none 0 0,.slice none 0 0,.slice none 0 0,.slice none 0 0,.int .i64 0,.int .i64 0,.int .i64 0,.int .i64 0,.int .i64 0],.int .i64 0] 8 rfl (World.shaped_of_RefB (by kernel_rfl) (by kernel_rfl)) (by kernel_rfl) (by kernel_rfl) (by kernel_rfl) (av5 os _)) ?_
 intro W base args ds gs before cC hW _ _ hL _;refine atQ (C:=ctx) (f:=3) (fn:=Tryz.f3) (sg:=(bk fa 3).getD default) (spec:=Rows.askTellsSpec) (tb:=4) (by kernel_rfl) (by kernel_rfl) (by kernel_rfl) rfl ?_ rfl Tryz.underlying4 rfl rfl alZ W (av6 hL) base args ds gs before cC hW;intro ds yP
 match ds,yP with
 |[_,_,_,_,_],_=>exact⟨rfl,rfl,rfl⟩
set_option maxHeartbeats 4000000 in
def alX:joinedFacts Tryz.pinned.checked.prog 3 Tryz.f3 Rows.askTellsSpec Rows.askTellsRow=true:=by
 unfold joinedFacts;simp only[au]
 repeat' apply And.intro
 all_goals (as_aux_lemma=>kernel_rfl)
def aax:Tryz.pinned.checked.prog.funcNamed Rows.askTellsRow.func=some 3:=by kernel_rfl
def alW:Tryz.f3.isInstance Tryz.pinned.checked.prog Rows.askTellsRow.origin Rows.askTellsRow.targs:=of_decide_eq_true (by kernel_rfl)
def al5:Tryz.f3.isWrapper Tryz.pinned.checked.prog Rows.askTellsRow.wrapper Rows.askTellsRow.mainSum:=by
 unfold Func.isWrapper;first|(rw[if_pos (by decide+kernel)];kernel_rfl)|(rw[if_neg (by decide+kernel)];exact⟨rfl,rfl⟩)
def al3:Rows.AskTellsSaid:=
 OpenClaim.holds_of_wide 3 Tryz.f3 rfl rfl rfl rfl rfl rfl rfl ⟨rfl,rfl,rfl,rfl,rfl⟩ rfl rfl rfl rfl rfl aax Tryz.func3 alX alW al5
  (λos started zzt enc _=>alY os started zzt enc)
def al4:Rows.askTellsRow.wfByText (OpenSpec.ofChange Rows.askTellsSpec)=true:=by kernel_rfl
def ayK:Tryz.pinned.checked.prog.mainIs=some (true, "ee257981351e0712bce2ea051cdae8a4ae6dce47e8025b999d2f029cc1a116ed".toList):=by kernel_rfl
def ayJ:false=Tryz.pinned.checked.prog.looks []:=by kernel_rfl
def al0:(Tryz.f3.params.toList.all λu=> !Tryz.prog.wantsStandIn u)=true:=by kernel_rfl
def alV:false=Rows.askTellsRow.goesBy Tryz.pinned.checked.prog:=by kernel_rfl
theorem askTells_holds:Rows.AskTellsCardSaid:=
 Claim7.holds_tied_plain_at .later [] [.widerDeep] true (true, "ee257981351e0712bce2ea051cdae8a4ae6dce47e8025b999d2f029cc1a116ed") false
  al3 (λ_ h=>by cases h) al4 (λ_ h=>by cases h) askTells_row_tie rfl ⟨rfl,rfl⟩ ayK rfl
  (λf fn hf hfn=>by
    obtain rfl:f=3:=vM (aax.symm.trans hf) |>.symm;obtain rfl:fn=Tryz.f3:=(vM (Tryz.func3.symm.trans hfn)).symm
    exact⟨ayJ,λj t ht=>by
        have hm:t∈Tryz.f3.params.toList:=by simpa using iY ht
        exact(show Tryz.prog.wantsStandIn t=false by simpa using bR.1 al0 t hm)⟩)
  alV
#print axioms askTells_holds
end Go.Proofs.YtipjidjopglknaaGreatDoor
