/-
  eJ aC5: WZ. For all right TP and files aGE lists l6 au8 axQ aDo wc may be, aul, signatures and days, All is No, if one of bG others is No, Nj, if all l6 Nj, and Open aNt; and if there is a aMV, and bG GQ T6 jT no protest, or no notice, is aNl, none is aMW
-/
import Derived.Test.YtepfoekldooaeaaGreatDoorKAT
import Derived.Test.YtepfoekldooaeaaGreatDoorCards
import Derived.Test.YtepfoekldooaeaaGreatDoorTie
import Derived.ProofKit
import Derived.LaidMore
import Derived.OpenShut
import Derived.Stop.Joined
import Derived.SevenTiedAt
set_option linter.unusedSimpArgs false
set_option linter.unusedVariables false
namespace Go.Proofs.YtepfoekldooaeaaGreatDoor
open Go Go.Proofs Cx Rm Go.RowKit Go.ChangeShapes Go.WideShapes
theorem Rk:ownKnob Tryz.prog.godebug=none:=by kernel_rfl
abbrev oK:List (String×DataW Unit):=[("allonge/order.numbers",Rows.laid_allonge_order_numbers)]
theorem Ri (os:Os)(args:Array Value):laidMetH Tryz.prog oK ((World.doorLaid Tryz.prog 400 os).forCall (fun _ _=>0) ⟨#[],args,[]⟩).memory:=
 laidMetH_of_parts3 (fuel:=8) (laidMet_of_run' 8 (by kernel_rfl) (by kernel_rfl)) (by kernel_rfl) (by kernel_rfl)
theorem Rj {W:World}(h:laidMetH Tryz.prog oK W):CtxOK ctx (lE W):=by
 rw[MakeChecks.laidMetH_plain _ _ _ (by kernel_rfl)] at h;refine ahJ (g:=0) (name:= "allonge/order.numbers") rfl (by kernel_rfl) (by kernel_rfl) ?_;exact Lib.tabIs_of_head (g:=0) (n:=10) (by kernel_rfl) (t:=238) (by kernel_rfl) (e:=3) (by kernel_rfl) (by kernel_rfl) (by kernel_rfl) (by kernel_rfl) h
theorem apB (ds:List D)(h:DTys ((aa ab 8).getD default).args ds):kC ctx 8 ((aa ab 8).getD default) ds (.v (.bool true)):=by
 obtain⟨d1,ds,rfl,h1,h⟩:=DTys.cons_inv h;obtain⟨d2,ds,rfl,h2,h⟩:=DTys.cons_inv h;obtain⟨d3,ds,rfl,h3,h⟩:=DTys.cons_inv h;obtain⟨d4,ds,rfl,h4,h⟩:=DTys.cons_inv h;obtain⟨d5,ds,rfl,h5,h⟩:=DTys.cons_inv h;obtain rfl:=h.nil_inv;obtain⟨r,rfl,hr⟩:=ag1 h1;obtain⟨n2,rfl,_⟩:=h2.int_inv;obtain⟨f,rfl,hf⟩:=Yx h3;obtain⟨n4,rfl,_⟩:=h4.int_inv;obtain⟨n5,rfl,_⟩:=h5.int_inv;exact ao.fnOK ahK rfl (aip r hr n2 f hf n4 n5)
set_option maxRecDepth 100000 in
theorem apA (os:Os)(started:os.Started)(H:Type)(enc:TypeId×Value→H):
 ReturnsInHanded {} Tryz.checked os 8 .any (fun w args=>(Rows.diligenceAndSpec.pre enc Tryz.prog Tryz.f8 [] false w args∧laidMetH Tryz.prog oK w)∧sizedMet enc Tryz.prog Tryz.f8 (OpenSpec.ofChange Rows.diligenceAndSpec) false w args)
  (Rows.diligenceAndSpec.post enc Tryz.prog Tryz.f8 false true false false):=by
 refine returnsInHanded_of_change_and (C:=Tryz.checked) (X:=fun w _=>laidMetH Tryz.prog oK w) (fun _ _ _ hh h=>h.of_heap hh) Rk started (by kernel_rfl) Tryz.func8
  (ChangeSpec.witness_shaped (enc:=enc) (C:=Tryz.checked) (os:=os) (X:=fun w _=>laidMetH Tryz.prog oK w) false (World.doorLaid Tryz.prog 400 os) #[.agg #[.slice none 0 0,.slice none 0 0,.slice none 0 0,.slice none 0 0,.slice none 0 0,.slice none 0 0,.slice none 0 0,.slice none 0 0],.int .i64 0,.agg #[.int .i64 0,.int .i64 0,.int .i64 0,.int .i64 0,.int .i64 0,.int .i64 0,.int .i64 0,.int .i64 0,.int .i64 0,.int .i64 0,.int .i64 0,.int .i64 0,.int .i64 0,.int .i64 0,.int .i64 0,.slice none 0 0,.slice none 0 0,.slice none 0 0,.slice none 0 0],.int .i64 0,.int .i64 0] 8 rfl (World.shaped_of_RefB (by kernel_rfl) (by kernel_rfl)) (by kernel_rfl) (by kernel_rfl) (by kernel_rfl) (Ri os _)) ?_
 intro W base args ds gs before cr hW _ _ hL _;refine aaV (C:=ctx) (f:=8) (fn:=Tryz.f8) (sg:=(aa ab 8).getD default) (spec:=Rows.diligenceAndSpec) (tb:=4) (by kernel_rfl) (by kernel_rfl) (by kernel_rfl) rfl ?_ rfl Tryz.underlying4 rfl rfl apB W (Rj hL) base args ds gs before cr hW;intro ds ot
 match ds,ot with
 |[_,_,_,_,_],_=>exact⟨rfl,rfl,rfl⟩
set_option maxHeartbeats 4000000 in
theorem apz:joinedFacts Tryz.pinned.checked.prog 8 Tryz.f8 Rows.diligenceAndSpec Rows.diligenceAndRow=true:=by
 unfold joinedFacts;simp only[Bool.and_eq_true]
 repeat' apply And.intro
 all_goals (as_aux_lemma=>kernel_rfl)
theorem Ya:Tryz.pinned.checked.prog.funcNamed Rows.diligenceAndRow.func=some 8:=by kernel_rfl
theorem apy:Tryz.f8.isInstance Tryz.pinned.checked.prog Rows.diligenceAndRow.origin Rows.diligenceAndRow.targs:=of_decide_eq_true (by kernel_rfl)
theorem apF:Tryz.f8.isWrapper Tryz.pinned.checked.prog Rows.diligenceAndRow.wrapper Rows.diligenceAndRow.mainSum:=by
 unfold Func.isWrapper;first|(rw[if_pos (by decide+kernel)];kernel_rfl)|(rw[if_neg (by decide+kernel)];exact⟨rfl,rfl⟩)
theorem apD:Rows.DiligenceAndSaid:=
 OpenClaim.holds_of_wide 8 Tryz.f8 rfl rfl rfl rfl rfl rfl rfl ⟨rfl,rfl,rfl,rfl,rfl⟩ rfl rfl rfl rfl rfl Ya Tryz.func8 apz apy apF
  (fun os started H enc _=>apA os started H enc)
theorem apE:Rows.diligenceAndRow.wfByText (OpenSpec.ofChange Rows.diligenceAndSpec)=true:=by kernel_rfl
theorem T9:Tryz.pinned.checked.prog.mainIs=some (true, "c296379279b6b365cad427ea6039c54041c40be79fae0d5486415967cf0ef3f9".toList):=by kernel_rfl
theorem T8:false=Tryz.pinned.checked.prog.looks []:=by kernel_rfl
theorem apC:(Tryz.f8.params.toList.all fun u=> !Tryz.prog.wantsStandIn u)=true:=by kernel_rfl
theorem apx:false=Rows.diligenceAndRow.goesBy Tryz.pinned.checked.prog:=by kernel_rfl
theorem diligenceAnd_holds:Rows.DiligenceAndCardSaid:=
 Claim7.holds_tied_plain_at .later [] [.widerDeep] true (true, "c296379279b6b365cad427ea6039c54041c40be79fae0d5486415967cf0ef3f9") false
  apD (fun _ h=>by cases h) apE (fun _ h=>by cases h) diligenceAnd_row_tie rfl ⟨rfl,rfl⟩ T9 rfl
  (fun f fn hf hfn=>by
    obtain rfl:f=8:=Option.some.inj (Ya.symm.trans hf) |>.symm;obtain rfl:fn=Tryz.f8:=(Option.some.inj (Tryz.func8.symm.trans hfn)).symm
    exact⟨T8,fun j t ht=>by
        have hm:t∈Tryz.f8.params.toList:=by simpa using Array.mem_of_getElem? ht
        exact(show Tryz.prog.wantsStandIn t=false by simpa using List.all_eq_true.1 apC t hm)⟩)
  apx
#print axioms diligenceAnd_holds
end Go.Proofs.YtepfoekldooaeaaGreatDoor
