/-
  The statement: ClashOpens. For all right realms and files, what holds of the open questions when the first turn is taken
-/
import Derived.Test.YtefchokhgdmamaaGreatDoorUAT
import Derived.Test.YtefchokhgdmamaaGreatDoorCards
import Derived.Test.YtefchokhgdmamaaGreatDoorTie
import Derived.ProofKit
import Derived.LaidMore
import Derived.OpenShut
import Derived.Stop.Joined
import Derived.SevenTiedAt
set_option linter.unusedSimpArgs false
set_option linter.unusedVariables false
namespace Go.Proofs.YtefchokhgdmamaaGreatDoor
open Go Go.Proofs Cx Rm Go.RowKit Go.ChangeShapes Go.WideShapes
theorem DX:ownKnob Tryz.prog.godebug=none:=by kernel_rfl
abbrev kI:List (String×DataW Unit):=[("allonge/order.numbers",Rows.laid_allonge_order_numbers)]
theorem DV (os:Os)(args:Array Value):laidMetH Tryz.prog kI ((World.doorLaid Tryz.prog 400 os).forCall (fun _ _=>0) ⟨#[],args,[]⟩).memory:=
 laidMetH_of_parts3 (fuel:=8) (laidMet_of_run' 8 (by kernel_rfl) (by kernel_rfl)) (by kernel_rfl) (by kernel_rfl)
theorem DW {W:World}(h:laidMetH Tryz.prog kI W):CtxOK ctx (l9 W):=by
 rw[MakeChecks.laidMetH_plain _ _ _ (by kernel_rfl)] at h;refine Rw (g:=0) (name:= "allonge/order.numbers") rfl (by kernel_rfl) (by kernel_rfl) ?_;exact Lib.tabIs_of_head (g:=0) (n:=10) (by kernel_rfl) (t:=169) (by kernel_rfl) (e:=3) (by kernel_rfl) (by kernel_rfl) (by kernel_rfl) (by kernel_rfl) h
theorem aeu (ds:List D)(h:DTys ((bm m9 7).getD default).args ds):gX ctx 7 ((bm m9 7).getD default) ds (.v (.bool true)):=by
 obtain⟨d1,ds,rfl,h1,h⟩:=DTys.cons_inv h;obtain⟨d2,ds,rfl,h2,h⟩:=DTys.cons_inv h;obtain⟨d3,ds,rfl,h3,h⟩:=DTys.cons_inv h;obtain⟨d4,ds,rfl,h4,h⟩:=DTys.cons_inv h;obtain⟨d5,ds,rfl,h5,h⟩:=DTys.cons_inv h;obtain rfl:=h.nil_inv;obtain⟨r,rfl,hr⟩:=Ra h1;obtain⟨n2,rfl,_⟩:=h2.int_inv;obtain⟨n3,rfl,_⟩:=h3.int_inv;obtain⟨n4,rfl,_⟩:=h4.int_inv;obtain⟨c,rfl,hc⟩:=L4 h5;exact av.fnOK Rx rfl (acF r hr n2 n3 n4 c hc)
set_option maxRecDepth 100000 in
theorem aet (os:Os)(started:os.Started)(H:Type)(enc:TypeId×Value→H):
 ReturnsInHanded {} Tryz.checked os 7 .any (fun w args=>(Rows.clashOpensSpec.pre enc Tryz.prog Tryz.f7 [] false w args∧laidMetH Tryz.prog kI w)∧sizedMet enc Tryz.prog Tryz.f7 (OpenSpec.ofChange Rows.clashOpensSpec) false w args)
  (Rows.clashOpensSpec.post enc Tryz.prog Tryz.f7 false true false false):=by
 refine returnsInHanded_of_change_and (C:=Tryz.checked) (X:=fun w _=>laidMetH Tryz.prog kI w) (fun _ _ _ hh h=>h.of_heap hh) DX started (by kernel_rfl) Tryz.func7
  (ChangeSpec.witness_shaped (enc:=enc) (C:=Tryz.checked) (os:=os) (X:=fun w _=>laidMetH Tryz.prog kI w) false (World.doorLaid Tryz.prog 400 os) #[.agg #[.slice none 0 0,.slice none 0 0,.slice none 0 0,.slice none 0 0,.slice none 0 0,.slice none 0 0,.slice none 0 0,.slice none 0 0],.int .i64 0,.int .i64 0,.int .i64 0,.agg #[.int .i64 0,.int .i64 0,.int .i64 0,.int .i64 0,.int .i64 0,.int .i64 0,.int .i64 0,.int .i64 0,.int .i64 0,.int .i64 0,.int .i64 0,.int .i64 0,.int .i64 0,.int .i64 0,.int .i64 0,.slice none 0 0,.slice none 0 0,.slice none 0 0,.slice none 0 0,.int .i64 0,.int .i64 0,.int .i64 0,.int .i64 0,.int .i64 0]] 8 rfl (World.shaped_of_RefB (by kernel_rfl) (by kernel_rfl)) (by kernel_rfl) (by kernel_rfl) (by kernel_rfl) (DV os _)) ?_
 intro W base args ds gs before cl hW _ _ hL _;refine OM (C:=ctx) (f:=7) (fn:=Tryz.f7) (sg:=(bm m9 7).getD default) (spec:=Rows.clashOpensSpec) (tb:=4) (by kernel_rfl) (by kernel_rfl) (by kernel_rfl) rfl ?_ rfl Tryz.underlying4 rfl rfl aeu W (DW hL) base args ds gs before cl hW;intro ds pS
 match ds,pS with
 |[_,_,_,_,_],_=>exact⟨rfl,rfl,rfl⟩
set_option maxHeartbeats 4000000 in
theorem aes:joinedFacts Tryz.pinned.checked.prog 7 Tryz.f7 Rows.clashOpensSpec Rows.clashOpensRow=true:=by
 unfold joinedFacts;simp only[aj]
 repeat' apply And.intro
 all_goals (as_aux_lemma=>kernel_rfl)
theorem U8:Tryz.pinned.checked.prog.funcNamed Rows.clashOpensRow.func=some 7:=by kernel_rfl
theorem aer:Tryz.f7.isInstance Tryz.pinned.checked.prog Rows.clashOpensRow.origin Rows.clashOpensRow.targs:=of_decide_eq_true (by kernel_rfl)
theorem aey:Tryz.f7.isWrapper Tryz.pinned.checked.prog Rows.clashOpensRow.wrapper Rows.clashOpensRow.mainSum:=by
 unfold Func.isWrapper;first|(rw[if_pos (by decide+kernel)];kernel_rfl)|(rw[if_neg (by decide+kernel)];exact⟨rfl,rfl⟩)
theorem aew:Rows.ClashOpensSaid:=
 OpenClaim.holds_of_wide 7 Tryz.f7 rfl rfl rfl rfl rfl rfl rfl ⟨rfl,rfl,rfl,rfl,rfl⟩ rfl rfl rfl rfl rfl U8 Tryz.func7 aes aer aey
  (fun os started H enc _=>aet os started H enc)
theorem aex:Rows.clashOpensRow.wfByText (OpenSpec.ofChange Rows.clashOpensSpec)=true:=by kernel_rfl
theorem Fe:Tryz.pinned.checked.prog.mainIs=some (true, "a3d668e6c97eaf8f0fd00d2b197971d1e83be4dd1f3d82c91f46a6eaef084950".toList):=by kernel_rfl
theorem Fc:false=Tryz.pinned.checked.prog.looks []:=by kernel_rfl
theorem aev:(Tryz.f7.params.toList.all fun u=> !Tryz.prog.wantsStandIn u)=true:=by kernel_rfl
theorem aeq:false=Rows.clashOpensRow.goesBy Tryz.pinned.checked.prog:=by kernel_rfl
theorem clashOpens_holds:Rows.ClashOpensCardSaid:=
 Claim7.holds_tied_plain_at .later [] [.widerDeep] true (true, "a3d668e6c97eaf8f0fd00d2b197971d1e83be4dd1f3d82c91f46a6eaef084950") false
  aew (fun _ h=>by cases h) aex (fun _ h=>by cases h) clashOpens_row_tie rfl ⟨rfl,rfl⟩ Fe rfl
  (fun f fn hf hfn=>by
    obtain rfl:f=7:=tU (U8.symm.trans hf) |>.symm;obtain rfl:fn=Tryz.f7:=(tU (Tryz.func7.symm.trans hfn)).symm
    exact⟨Fc,fun j t ht=>by
        have hm:t∈Tryz.f7.params.toList:=by simpa using gE ht
        exact(show Tryz.prog.wantsStandIn t=false by simpa using bz.1 aev t hm)⟩)
  aeq
#print axioms clashOpens_holds
end Go.Proofs.YtefchokhgdmamaaGreatDoor
