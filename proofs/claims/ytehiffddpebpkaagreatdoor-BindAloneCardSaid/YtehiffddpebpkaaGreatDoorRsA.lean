/-
  The statement: BindAlone. For all right realms and files (small ones), courts, signatures and days: with any other facts about other signatures the effect of a signature is the same.
-/
import Derived.Test.YtehiffddpebpkaaGreatDoorKAP
import Derived.Test.YtehiffddpebpkaaGreatDoorCards
import Derived.Test.YtehiffddpebpkaaGreatDoorTie
import Derived.ProofKit
import Derived.LaidMore
import Derived.OpenShut
import Derived.Stop.Joined
import Derived.SevenTiedAt
set_option linter.unusedSimpArgs false
set_option linter.unusedVariables false
namespace Go.Proofs.YtehiffddpebpkaaGreatDoor
open Go Go.Proofs Cx Rm Go.RowKit Go.ChangeShapes Go.WideShapes
theorem R1:ownKnob Tryz.prog.godebug=none:=by kernel_rfl
abbrev nD:List (String×DataW Unit):=[("allonge/order.numbers",Rows.laid_allonge_order_numbers)]
theorem Tl (os:Os) (args:Array Value):laidMetH Tryz.prog nD ((World.doorLaid Tryz.prog 400 os).forCall (fun _ _=>0) ⟨#[],args,[]⟩).memory:=
 laidMetH_of_parts3 (fuel:=8) (laidMet_of_run' 8 (by kernel_rfl) (by kernel_rfl)) (by kernel_rfl) (by kernel_rfl)
theorem U1 {W:World} (h:laidMetH Tryz.prog nD W):CtxOK ctx (Gr W):=by
 rw[MakeChecks.laidMetH_plain _ _ _ (by kernel_rfl)] at h
 refine U8 (g:=0) (name:= "allonge/order.numbers") rfl (by kernel_rfl) (by kernel_rfl) ?_
 exact Lib.tabIs_of_head (g:=0) (n:=10) (by kernel_rfl) (t:=217) (by kernel_rfl) (e:=3) (by kernel_rfl) (by kernel_rfl) (by kernel_rfl) (by kernel_rfl) h
theorem Mk (ds:List D) (h:DTys ((aa aq 4).getD default).args ds):FnOK ctx 4 ((aa aq 4).getD default) ds (.v (.bool true)):=by
 obtain⟨d1,ds,rfl,h1,h⟩:=DTys.cons_inv h
 obtain⟨d2,ds,rfl,h2,h⟩:=DTys.cons_inv h
 obtain⟨d3,ds,rfl,h3,h⟩:=DTys.cons_inv h
 obtain⟨d4,ds,rfl,h4,h⟩:=DTys.cons_inv h
 obtain⟨d5,ds,rfl,h5,h⟩:=DTys.cons_inv h
 obtain⟨d6,ds,rfl,h6,h⟩:=DTys.cons_inv h
 obtain rfl:=h.nil_inv
 obtain⟨r,rfl,hr⟩:=WE h1
 obtain⟨n2,rfl,_⟩:=h2.int_inv
 obtain⟨f,rfl,_⟩:=YC h3
 obtain⟨n4,rfl,_⟩:=h4.int_inv
 obtain⟨n5,rfl,_⟩:=h5.int_inv
 obtain⟨fs,rfl,_⟩:=PZ h6
 exact Runs.fnOK adx rfl (MX r hr n2 f n4 n5 fs)
set_option maxRecDepth 100000 in
theorem Gk (os:Os) (started:os.Started) (H:Type) (enc:TypeId×Value→H):
 ReturnsInHanded {} Tryz.checked os 4 .any (fun w args=>(Rows.bindAloneSpec.pre enc Tryz.prog Tryz.f4 [] false w args∧laidMetH Tryz.prog nD w)∧sizedMet enc Tryz.prog Tryz.f4 (OpenSpec.ofChange Rows.bindAloneSpec) false w args)
  (Rows.bindAloneSpec.post enc Tryz.prog Tryz.f4 false true false false):=by
 refine returnsInHanded_of_change_and (C:=Tryz.checked) (X:=fun w _=>laidMetH Tryz.prog nD w) (fun _ _ _ hh h=>h.of_heap hh) R1 started (by kernel_rfl) Tryz.func4
  (ChangeSpec.witness_shaped (enc:=enc) (C:=Tryz.checked) (os:=os) (X:=fun w _=>laidMetH Tryz.prog nD w) false (World.doorLaid Tryz.prog 400 os) #[.agg #[.slice none 0 0,.slice none 0 0,.slice none 0 0,.slice none 0 0,.slice none 0 0,.slice none 0 0,.slice none 0 0,.slice none 0 0],.int .i64 0,.agg #[.int .i64 0,.int .i64 0,.int .i64 0,.int .i64 0,.int .i64 0,.int .i64 0,.int .i64 0,.int .i64 0,.int .i64 0,.int .i64 0,.int .i64 0,.int .i64 0,.int .i64 0,.int .i64 0,.int .i64 0,.slice none 0 0,.slice none 0 0,.slice none 0 0,.slice none 0 0],.int .i64 0,.int .i64 0,.slice none 0 0] 8 rfl (World.shaped_of_RefB (by kernel_rfl) (by kernel_rfl)) (by kernel_rfl) (by kernel_rfl) (by kernel_rfl) (Tl os _)) ?_
 intro W base args ds gs before hval hW _ _ hL _
 refine Pa (C:=ctx) (f:=4) (fn:=Tryz.f4) (sg:=(aa aq 4).getD default) (spec:=Rows.bindAloneSpec) (tb:=4) (by kernel_rfl) (by kernel_rfl) (by kernel_rfl) rfl ?_ rfl Tryz.underlying4 rfl rfl Mk W (U1 hL) base args ds gs before hval hW
 intro ds hds
 match ds,hds with
 |[_,_,_,_,_,_],_=>exact⟨rfl,rfl,rfl⟩
set_option maxHeartbeats 4000000 in
theorem FI:joinedFacts Tryz.pinned.checked.prog 4 Tryz.f4 Rows.bindAloneSpec Rows.bindAloneRow=true:=by
 unfold joinedFacts
 simp only[Bool.and_eq_true]
 repeat' apply And.intro
 all_goals (as_aux_lemma=>kernel_rfl)
theorem bindAlone_named:Tryz.pinned.checked.prog.funcNamed Rows.bindAloneRow.func=some 4:=by kernel_rfl
theorem La:Tryz.f4.isInstance Tryz.pinned.checked.prog Rows.bindAloneRow.origin Rows.bindAloneRow.targs:=of_decide_eq_true (by kernel_rfl)
theorem MF:Tryz.f4.isWrapper Tryz.pinned.checked.prog Rows.bindAloneRow.wrapper Rows.bindAloneRow.mainSum:=by
 unfold Func.isWrapper;first|(rw[if_pos (by decide+kernel)];kernel_rfl)|(rw[if_neg (by decide+kernel)];exact⟨rfl,rfl⟩)
theorem OR:Rows.BindAloneSaid:=
 OpenClaim.holds_of_wide 4 Tryz.f4 rfl rfl rfl rfl rfl rfl rfl ⟨rfl,rfl,rfl,rfl,rfl⟩ rfl rfl rfl rfl rfl bindAlone_named Tryz.func4 FI La MF
  (fun os started H enc _=>Gk os started H enc)
theorem MK:Rows.bindAloneRow.wfByText (OpenSpec.ofChange Rows.bindAloneSpec)=true:=by kernel_rfl
theorem Xd:Tryz.pinned.checked.prog.mainIs=some (true, "7a89ebd8fe6190d5882d4bc529bbf5bee1142d07dde37d8d178d5560bbb31a51".toList):=by kernel_rfl
theorem UK:false=Tryz.pinned.checked.prog.looks []:=by kernel_rfl
theorem JS:(Tryz.f4.params.toList.all fun u=> !Tryz.prog.wantsStandIn u)=true:=by kernel_rfl
theorem NC:false=Rows.bindAloneRow.goesBy Tryz.pinned.checked.prog:=by kernel_rfl
theorem bindAlone_holds:Rows.BindAloneCardSaid:=
 Claim7.holds_tied_plain_at .later [] [.widerDeep] true (true, "7a89ebd8fe6190d5882d4bc529bbf5bee1142d07dde37d8d178d5560bbb31a51") false
  OR (fun _ h=>by cases h) MK (fun _ h=>by cases h) bindAlone_row_tie rfl ⟨rfl,rfl⟩ Xd rfl
  (fun f fn hf hfn=>by
    obtain rfl:f=4:=Option.some.inj (bindAlone_named.symm.trans hf) |>.symm
    obtain rfl:fn=Tryz.f4:=(Option.some.inj (Tryz.func4.symm.trans hfn)).symm
    exact⟨UK,fun j t ht=>by
        have hm:t∈Tryz.f4.params.toList:=by simpa using Array.mem_of_getElem? ht
        exact(show Tryz.prog.wantsStandIn t=false by simpa using List.all_eq_true.1 JS t hm)⟩)
  NC
#print axioms bindAlone_holds
end Go.Proofs.YtehiffddpebpkaaGreatDoor
