/-
  The statement: EstateTaken. For all right realms and files, forums and estates, what is taken back are the payments of the firm up to the day of the estate, as many days before it as the law says for the signature, and all of these; and the sum is theirs
-/
import Derived.Test.YtepfoekldooaeaaDoorKAP
import Derived.Test.YtepfoekldooaeaaDoorCards
import Derived.Test.YtepfoekldooaeaaDoorTie
import Derived.ProofKit
import Derived.LaidMore
import Derived.OpenShut
import Derived.Stop.Joined
import Derived.SevenTiedAt
set_option linter.unusedSimpArgs false
set_option linter.unusedVariables false
namespace Go.Proofs.YtepfoekldooaeaaDoor
open Go Go.Proofs Cx Rm Go.RowKit Go.ChangeShapes Go.WideShapes
theorem akh:ownKnob Tryd.prog.godebug=none:=by kernel_rfl
abbrev yM:List (String×DataW Unit):=[("allonge/order.numbers",Rows.laid_allonge_order_numbers)]
theorem akf (os:Os)(args:Array Value):laidMetH Tryd.prog yM ((World.doorLaid Tryd.prog 400 os).forCall (fun _ _=>0) ⟨#[],args,[]⟩).memory:=
 laidMetH_of_parts3 (fuel:=8) (laidMet_of_run' 8 (by kernel_rfl) (by kernel_rfl)) (by kernel_rfl) (by kernel_rfl)
theorem akg {W:World}(h:laidMetH Tryd.prog yM W):CtxOK ctx (jY W):=by
 rw[MakeChecks.laidMetH_plain _ _ _ (by kernel_rfl)] at h;refine am9 (g:=0) (name:= "allonge/order.numbers") rfl (by kernel_rfl) (by kernel_rfl) ?_;exact Lib.tabIs_of_head (g:=0) (n:=10) (by kernel_rfl) (t:=157) (by kernel_rfl) (e:=3) (by kernel_rfl) (by kernel_rfl) (by kernel_rfl) (by kernel_rfl) h
theorem aco (ds:List D)(h:DTys ((ab ah 3).getD default).args ds):ja ctx 3 ((ab ah 3).getD default) ds (.v (.bool true)):=by
 obtain⟨d1,ds,rfl,h1,h⟩:=DTys.cons_inv h;obtain⟨d2,ds,rfl,h2,h⟩:=DTys.cons_inv h;obtain⟨d3,ds,rfl,h3,h⟩:=DTys.cons_inv h;obtain⟨d4,ds,rfl,h4,h⟩:=DTys.cons_inv h;obtain rfl:=h.nil_inv;obtain⟨r,rfl,hr⟩:=amo h1;obtain⟨n2,rfl,_⟩:=h2.int_inv;obtain⟨f,rfl,hf⟩:=acD h3;obtain⟨x,rfl,hx⟩:=acu h4;exact au.fnOK ana rfl (WB r hr n2 f hf x)
set_option maxRecDepth 100000 in
theorem acn (os:Os)(started:os.Started)(H:Type)(enc:TypeId×Value→H):
 ReturnsInHanded {} Tryd.checked os 3 .any (fun w args=>(Rows.estateTakenSpec.pre enc Tryd.prog Tryd.f3 [] false w args∧laidMetH Tryd.prog yM w)∧sizedMet enc Tryd.prog Tryd.f3 (OpenSpec.ofChange Rows.estateTakenSpec) false w args)
  (Rows.estateTakenSpec.post enc Tryd.prog Tryd.f3 false true false false):=by
 refine returnsInHanded_of_change_and (C:=Tryd.checked) (X:=fun w _=>laidMetH Tryd.prog yM w) (fun _ _ _ hh h=>h.of_heap hh) akh started (by kernel_rfl) Tryd.func3
  (ChangeSpec.witness_shaped (enc:=enc) (C:=Tryd.checked) (os:=os) (X:=fun w _=>laidMetH Tryd.prog yM w) false (World.doorLaid Tryd.prog 400 os) #[.agg #[.slice none 0 0,.slice none 0 0,.slice none 0 0,.slice none 0 0,.slice none 0 0,.slice none 0 0,.slice none 0 0,.slice none 0 0],.int .i64 0,.agg #[.int .i64 0,.int .i64 0,.int .i64 0,.int .i64 0,.int .i64 0,.int .i64 0,.int .i64 0,.int .i64 0,.int .i64 0,.int .i64 0,.int .i64 0,.int .i64 0,.int .i64 0,.int .i64 0,.int .i64 0,.slice none 0 0,.slice none 0 0,.slice none 0 0,.slice none 0 0],.agg #[.int .i64 0,.int .i64 0,.int .i64 0]] 8 rfl (World.shaped_of_RefB (by kernel_rfl) (by kernel_rfl)) (by kernel_rfl) (by kernel_rfl) (by kernel_rfl) (akf os _)) ?_
 intro W base args ds gs before bR hW _ _ hL _;refine ahV (C:=ctx) (f:=3) (fn:=Tryd.f3) (sg:=(ab ah 3).getD default) (spec:=Rows.estateTakenSpec) (tb:=4) (by kernel_rfl) (by kernel_rfl) (by kernel_rfl) rfl ?_ rfl Tryd.underlying4 rfl rfl aco W (akg hL) base args ds gs before bR hW;intro ds qX
 match ds,qX with
 |[_,_,_,_],_=>exact⟨rfl,rfl,rfl⟩
set_option maxHeartbeats 4000000 in
theorem acm:joinedFacts Tryd.pinned.checked.prog 3 Tryd.f3 Rows.estateTakenSpec Rows.estateTakenRow=true:=by
 unfold joinedFacts;simp only[Bool.and_eq_true]
 repeat' apply And.intro
 all_goals (as_aux_lemma=>kernel_rfl)
theorem OY:Tryd.pinned.checked.prog.funcNamed Rows.estateTakenRow.func=some 3:=by kernel_rfl
theorem ack:Tryd.f3.isInstance Tryd.pinned.checked.prog Rows.estateTakenRow.origin Rows.estateTakenRow.targs:=of_decide_eq_true (by kernel_rfl)
theorem acs:Tryd.f3.isWrapper Tryd.pinned.checked.prog Rows.estateTakenRow.wrapper Rows.estateTakenRow.mainSum:=by
 unfold Func.isWrapper;first|(rw[if_pos (by decide+kernel)];kernel_rfl)|(rw[if_neg (by decide+kernel)];exact⟨rfl,rfl⟩)
theorem acq:Rows.EstateTakenSaid:=
 OpenClaim.holds_of_wide 3 Tryd.f3 rfl rfl rfl rfl rfl rfl rfl ⟨rfl,rfl,rfl,rfl,rfl⟩ rfl rfl rfl rfl rfl OY Tryd.func3 acm ack acs
  (fun os started H enc _=>acn os started H enc)
theorem acr:Rows.estateTakenRow.wfByText (OpenSpec.ofChange Rows.estateTakenSpec)=true:=by kernel_rfl
theorem amV:Tryd.pinned.checked.prog.mainIs=some (true, "18ff4003b293eea69141ae66121612609a958814b3c136d5b2f6fab31dcb1627".toList):=by kernel_rfl
theorem amU:false=Tryd.pinned.checked.prog.looks []:=by kernel_rfl
theorem acp:(Tryd.f3.params.toList.all fun u=> !Tryd.prog.wantsStandIn u)=true:=by kernel_rfl
theorem acj:false=Rows.estateTakenRow.goesBy Tryd.pinned.checked.prog:=by kernel_rfl
theorem estateTaken_holds:Rows.EstateTakenCardSaid:=
 Claim7.holds_tied_plain_at .later [] [.widerDeep] true (true, "18ff4003b293eea69141ae66121612609a958814b3c136d5b2f6fab31dcb1627") false
  acq (fun _ h=>by cases h) acr (fun _ h=>by cases h) estateTaken_row_tie rfl ⟨rfl,rfl⟩ amV rfl
  (fun f fn hf hfn=>by
    obtain rfl:f=3:=Option.some.inj (OY.symm.trans hf) |>.symm;obtain rfl:fn=Tryd.f3:=(Option.some.inj (Tryd.func3.symm.trans hfn)).symm
    exact⟨amU,fun j t ht=>by
        have hm:t∈Tryd.f3.params.toList:=by simpa using Array.mem_of_getElem? ht
        exact(show Tryd.prog.wantsStandIn t=false by simpa using List.all_eq_true.1 acp t hm)⟩)
  acj
#print axioms estateTaken_holds
end Go.Proofs.YtepfoekldooaeaaDoor
