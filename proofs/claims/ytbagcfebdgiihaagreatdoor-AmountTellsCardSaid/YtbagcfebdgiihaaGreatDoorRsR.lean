import Derived.Test.YtbagcfebdgiihaaGreatDoorAAQ
import Derived.Test.YtbagcfebdgiihaaGreatDoorCards
import Derived.Test.YtbagcfebdgiihaaGreatDoorTie
import Derived.ProofKit
import Derived.LaidMore
import Derived.OpenShut
import Derived.Stop.Joined
import Derived.SevenTiedAt
set_option linter.all false
namespace Go.Proofs.YtbagcfebdgiihaaGreatDoor
open Go Go.Proofs Cx Rm Go.RowKit Go.ChangeShapes Go.WideShapes
theorem azR:ownKnob Tryz.prog.godebug=none:=by kernel_rfl
abbrev HA:List (String×DataW Unit):=[("allonge/order.numbers",Rows.laid_allonge_order_numbers)]
theorem azP (os:Os)(args:Array Value):laidMetH Tryz.prog HA ((World.doorLaid Tryz.prog 400 os).forCall (λ_ _=>0) ⟨#[],args,[]⟩).memory:=
 laidMetH_of_parts3 (fuel:=8) (laidMet_of_run' 8 (by kernel_rfl) (by kernel_rfl)) (by kernel_rfl) (by kernel_rfl)
theorem azQ {W:World}(h:laidMetH Tryz.prog HA W):CtxOK ctx (oQ W):=by
 rw[MakeChecks.laidMetH_plain _ _ _ (by kernel_rfl)] at h;refine aC4 (g:=0) (name:= "allonge/order.numbers") rfl (by kernel_rfl) (by kernel_rfl) ?_;exact Lib.tabIs_of_head (g:=0) (n:=10) (by kernel_rfl) (t:=239) (by kernel_rfl) (e:=3) (by kernel_rfl) (by kernel_rfl) (by kernel_rfl) (by kernel_rfl) h
theorem apy (ds:List D)(h:DTys ((bV yf 3).getD default).args ds):mL ctx 3 ((bV yf 3).getD default) ds (.v (.bool true)):=by
 obtain⟨d1,ds,rfl,h1,h⟩:=DTys.cons_inv h;obtain⟨d2,ds,rfl,h2,h⟩:=DTys.cons_inv h;obtain⟨d3,ds,rfl,h3,h⟩:=DTys.cons_inv h;obtain⟨d4,ds,rfl,h4,h⟩:=DTys.cons_inv h;obtain⟨d5,ds,rfl,h5,h⟩:=DTys.cons_inv h;obtain⟨d6,ds,rfl,h6,h⟩:=DTys.cons_inv h;obtain⟨d7,ds,rfl,h7,h⟩:=DTys.cons_inv h;obtain rfl:=h.nil_inv;obtain⟨r,rfl,hr⟩:=aBW h1;obtain⟨n2,rfl,_⟩:=h2.int_inv;obtain⟨f,rfl,hf⟩:=arY h3;obtain⟨n4,rfl,_⟩:=h4.int_inv;obtain⟨n5,rfl,_⟩:=h5.int_inv;obtain⟨n6,rfl,_⟩:=h6.int_inv;obtain⟨n7,rfl,_⟩:=h7.int_inv;exact ah.fnOK aC5 rfl (aoG r hr n2 f hf n4 n5 n6 n7)
set_option maxRecDepth 100000 in
theorem apx (os:Os)(started:os.Started)(zyz:Type)(enc:TypeId×Value->zyz):
 ReturnsInHanded {} Tryz.checked os 3 .any (λw args=>(Rows.amountTellsSpec.pre enc Tryz.prog Tryz.f3 [] false w args/\laidMetH Tryz.prog HA w)/\sizedMet enc Tryz.prog Tryz.f3 (OpenSpec.ofChange Rows.amountTellsSpec) false w args)
  (Rows.amountTellsSpec.post enc Tryz.prog Tryz.f3 false true false false):=by
 refine returnsInHanded_of_change_and (C:=Tryz.checked) (X:=λw _=>laidMetH Tryz.prog HA w) (λ_ _ _ hh h=>h.of_heap hh) azR started (by kernel_rfl) Tryz.func3
  (ChangeSpec.witness_shaped (enc:=enc) (C:=Tryz.checked) (os:=os) (X:=λw _=>laidMetH Tryz.prog HA w) false (World.doorLaid Tryz.prog 400 os) #[.agg #[.slice none 0 0,.slice none 0 0,.slice none 0 0,.slice none 0 0,.slice none 0 0,.slice none 0 0,.slice none 0 0,.slice none 0 0],.int .i64 0,.agg #[.int .i64 0,.int .i64 0,.int .i64 0,.int .i64 0,.int .i64 0,.int .i64 0,.int .i64 0,.int .i64 0,.int .i64 0,.int .i64 0,.int .i64 0,.int .i64 0,.int .i64 0,.int .i64 0,.int .i64 0,.slice none 0 0,.slice none 0 0,.slice none 0 0,.slice none 0 0],.int .i64 0,.int .i64 0,.int .i64 0,.int .i64 0] 8 rfl (World.shaped_of_RefB (by kernel_rfl) (by kernel_rfl)) (by kernel_rfl) (by kernel_rfl) (by kernel_rfl) (azP os _)) ?_
 intro W base args ds gs before cV hW _ _ hL _;refine axa (C:=ctx) (f:=3) (fn:=Tryz.f3) (sg:=(bV yf 3).getD default) (spec:=Rows.amountTellsSpec) (tb:=4) (by kernel_rfl) (by kernel_rfl) (by kernel_rfl) rfl ?_ rfl Tryz.underlying4 rfl rfl apy W (azQ hL) base args ds gs before cV hW;intro ds Gq
 match ds,Gq with
 |[_,_,_,_,_,_,_],_=>exact⟨rfl,rfl,rfl⟩
set_option maxHeartbeats 4000000 in
theorem apw:joinedFacts Tryz.pinned.checked.prog 3 Tryz.f3 Rows.amountTellsSpec Rows.amountTellsRow=true:=by
 unfold joinedFacts;simp only[aA]
 repeat' apply And.intro
 all_goals (as_aux_lemma=>kernel_rfl)
theorem aeF:Tryz.pinned.checked.prog.funcNamed Rows.amountTellsRow.func=some 3:=by kernel_rfl
theorem apv:Tryz.f3.isInstance Tryz.pinned.checked.prog Rows.amountTellsRow.origin Rows.amountTellsRow.targs:=of_decide_eq_true (by kernel_rfl)
theorem apC:Tryz.f3.isWrapper Tryz.pinned.checked.prog Rows.amountTellsRow.wrapper Rows.amountTellsRow.mainSum:=by
 unfold Func.isWrapper;first|(rw[if_pos (by decide+kernel)];kernel_rfl)|(rw[if_neg (by decide+kernel)];exact⟨rfl,rfl⟩)
theorem apA:Rows.AmountTellsSaid:=
 OpenClaim.holds_of_wide 3 Tryz.f3 rfl rfl rfl rfl rfl rfl rfl ⟨rfl,rfl,rfl,rfl,rfl⟩ rfl rfl rfl rfl rfl aeF Tryz.func3 apw apv apC
  (λos started zyz enc _=>apx os started zyz enc)
theorem apB:Rows.amountTellsRow.wfByText (OpenSpec.ofChange Rows.amountTellsSpec)=true:=by kernel_rfl
theorem aCt:Tryz.pinned.checked.prog.mainIs=some (true, "c1019dbb3a86099b2c42288fd1752d5b08e866cf7016f27c5744f8829eeea34b".toList):=by kernel_rfl
theorem aCs:false=Tryz.pinned.checked.prog.looks []:=by kernel_rfl
theorem apz:(Tryz.f3.params.toList.all λu=> !Tryz.prog.wantsStandIn u)=true:=by kernel_rfl
theorem apu:false=Rows.amountTellsRow.goesBy Tryz.pinned.checked.prog:=by kernel_rfl
theorem amountTells_holds:Rows.AmountTellsCardSaid:=
 Claim7.holds_tied_plain_at .later [] [.widerDeep] true (true, "c1019dbb3a86099b2c42288fd1752d5b08e866cf7016f27c5744f8829eeea34b") false
  apA (λ_ h=>by cases h) apB (λ_ h=>by cases h) amountTells_row_tie rfl ⟨rfl,rfl⟩ aCt rfl
  (λf fn hf qZ=>by
    obtain rfl:f=3:=EO (aeF.symm.trans hf) |>.symm;obtain rfl:fn=Tryz.f3:=(EO (Tryz.func3.symm.trans qZ)).symm
    exact⟨aCs,λj t ht=>by
        have hm:t∈Tryz.f3.params.toList:=by simpa using qA ht
        exact(show Tryz.prog.wantsStandIn t=false by simpa using fe.1 apz t hm)⟩)
  apu
#print axioms amountTells_holds
end Go.Proofs.YtbagcfebdgiihaaGreatDoor
