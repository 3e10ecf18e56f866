/-
  The statement: PoolBills. The pledge of a bill has its price, maturity and signers; its value does not fall by facts.
-/
import Derived.Test.YtbemlocmcgcbdaaGreatDoorKAS
import Derived.Test.YtbemlocmcgcbdaaGreatDoorCards
import Derived.Test.YtbemlocmcgcbdaaGreatDoorTie
import Derived.ProofKit
import Derived.LaidMore
import Derived.OpenShut
import Derived.Stop.Joined
import Derived.SevenTiedAt
set_option linter.defProp false
set_option linter.unusedSimpArgs false
set_option linter.unusedVariables false
namespace Go.Proofs.YtbemlocmcgcbdaaGreatDoor
open Go Go.Proofs Cx Rm Go.RowKit Go.ChangeShapes Go.WideShapes
def axx:ownKnob Tryz.prog.godebug=none:=by kernel_rfl
abbrev G2:List (String×DataW Unit):=[("allonge/order.numbers",Rows.laid_allonge_order_numbers)]
def axv (os:Os)(args:Array Value):laidMetH Tryz.prog G2 ((World.doorLaid Tryz.prog 400 os).forCall (λ_ _=>0) ⟨#[],args,[]⟩).memory:=
 laidMetH_of_parts3 (fuel:=8) (laidMet_of_run' 8 (by kernel_rfl) (by kernel_rfl)) (by kernel_rfl) (by kernel_rfl)
def axw {W:World}(h:laidMetH Tryz.prog G2 W):CtxOK ctx (lQ W):=by
 rw[MakeChecks.laidMetH_plain _ _ _ (by kernel_rfl)] at h;refine aAU (g:=2) (name:= "allonge/order.numbers") rfl (by kernel_rfl) (by kernel_rfl) ?_;exact Lib.tabIs_of_head (g:=2) (n:=10) (by kernel_rfl) (t:=249) (by kernel_rfl) (e:=3) (by kernel_rfl) (by kernel_rfl) (by kernel_rfl) (by kernel_rfl) h
def ayB (ds:List D)(h:DTys ((bI xu 3).getD default).args ds):iP ctx 3 ((bI xu 3).getD default) ds (.v (.bool true)):=by
 obtain⟨d1,ds,rfl,h1,h⟩:=DTys.cons_inv h;obtain⟨d2,ds,rfl,h2,h⟩:=DTys.cons_inv h;obtain⟨d3,ds,rfl,h3,h⟩:=DTys.cons_inv h;obtain⟨d4,ds,rfl,h4,h⟩:=DTys.cons_inv h;obtain⟨d5,ds,rfl,h5,h⟩:=DTys.cons_inv h;obtain⟨d6,ds,rfl,h6,h⟩:=DTys.cons_inv h;obtain⟨d7,ds,rfl,h7,h⟩:=DTys.cons_inv h;obtain⟨d8,ds,rfl,h8,h⟩:=DTys.cons_inv h;obtain rfl:=h.nil_inv;obtain⟨r,rfl,hr⟩:=azK h1;obtain⟨n2,rfl,_⟩:=h2.int_inv;obtain⟨f,rfl,hf⟩:=apb h3;obtain⟨n4,rfl,g4⟩:=h4.i64_inv;obtain⟨q,rfl,hq⟩:=ayS h5;obtain⟨t,rfl,ht⟩:=ayO h6;obtain⟨n7,rfl,g7⟩:=h7.i64_inv;obtain⟨fs,rfl,rk⟩:=ada h8;exact aj.fnOK aAV rfl (alj r hr n2 f hf n4 g4 q hq t ht n7 g7 fs rk.2)
set_option maxRecDepth 100000 in
def ayA (os:Os)(started:os.Started)(zzt:Type)(enc:TypeId×Value->zzt):
 ReturnsInHanded {} Tryz.checked os 3 .any (λw args=>(Rows.poolBillsSpec.pre enc Tryz.prog Tryz.f3 [] false w args/\laidMetH Tryz.prog G2 w)/\sizedMet enc Tryz.prog Tryz.f3 (OpenSpec.ofChange Rows.poolBillsSpec) false w args)
  (Rows.poolBillsSpec.post enc Tryz.prog Tryz.f3 false true false false):=by
 refine returnsInHanded_of_change_and (C:=Tryz.checked) (X:=λw _=>laidMetH Tryz.prog G2 w) (λ_ _ _ hh h=>h.of_heap hh) axx started (by kernel_rfl) Tryz.func3
  (ChangeSpec.witness_shaped (enc:=enc) (C:=Tryz.checked) (os:=os) (X:=λw _=>laidMetH Tryz.prog G2 w) false (World.doorLaid Tryz.prog 400 os) #[.agg #[.slice none 0 0,.slice none 0 0,.slice none 0 0,.slice none 0 0,.slice none 0 0,.slice none 0 0,.slice none 0 0,.slice none 0 0],.int .i64 0,.agg #[.int .i64 0,.int .i64 0,.int .i64 0,.int .i64 0,.int .i64 0,.int .i64 0,.int .i64 0,.int .i64 0,.int .i64 0,.int .i64 0,.int .i64 0,.int .i64 0,.int .i64 0,.int .i64 0,.int .i64 0,.slice none 0 0,.slice none 0 0,.slice none 0 0,.slice none 0 0],.int .i64 0,.agg #[.int .i64 0,.slice none 0 0],.agg #[.int .i64 0,.int .i64 0,.int .i64 0,.int .i64 0,.int .i64 0],.int .i64 0,.slice none 0 0] 8 rfl (World.shaped_of_RefB (by kernel_rfl) (by kernel_rfl)) (by kernel_rfl) (by kernel_rfl) (by kernel_rfl) (axv os _)) ?_
 intro W base args ds gs before cD hW _ _ hL _;refine auu (C:=ctx) (f:=3) (fn:=Tryz.f3) (sg:=(bI xu 3).getD default) (spec:=Rows.poolBillsSpec) (tb:=4) (by kernel_rfl) (by kernel_rfl) (by kernel_rfl) rfl ?_ rfl Tryz.underlying4 rfl rfl ayB W (axw hL) base args ds gs before cD hW;intro ds jO
 match ds,jO with
 |[_,_,_,_,_,_,_,_],_=>exact⟨rfl,rfl,rfl⟩
set_option maxHeartbeats 4000000 in
def ayz:joinedFacts Tryz.pinned.checked.prog 3 Tryz.f3 Rows.poolBillsSpec Rows.poolBillsRow=true:=by
 unfold joinedFacts;simp only[au]
 repeat' apply And.intro
 all_goals (as_aux_lemma=>kernel_rfl)
def aiM:Tryz.pinned.checked.prog.funcNamed Rows.poolBillsRow.func=some 3:=by kernel_rfl
def ayy:Tryz.f3.isInstance Tryz.pinned.checked.prog Rows.poolBillsRow.origin Rows.poolBillsRow.targs:=of_decide_eq_true (by kernel_rfl)
def ayF:Tryz.f3.isWrapper Tryz.pinned.checked.prog Rows.poolBillsRow.wrapper Rows.poolBillsRow.mainSum:=by
 unfold Func.isWrapper;first|(rw[if_pos (by decide+kernel)];kernel_rfl)|(rw[if_neg (by decide+kernel)];exact⟨rfl,rfl⟩)
def ayD:Rows.PoolBillsSaid:=
 OpenClaim.holds_of_wide 3 Tryz.f3 rfl rfl rfl rfl rfl rfl rfl ⟨rfl,rfl,rfl,rfl,rfl⟩ rfl rfl rfl rfl rfl aiM Tryz.func3 ayz ayy ayF
  (λos started zzt enc _=>ayA os started zzt enc)
def ayE:Rows.poolBillsRow.wfByText (OpenSpec.ofChange Rows.poolBillsSpec)=true:=by kernel_rfl
def aAn:Tryz.pinned.checked.prog.mainIs=some (true, "7d47ce9ce7c4c3083adb014946f8a2d2fefc9a1017455452b025b84f29487f07".toList):=by kernel_rfl
def aAm:false=Tryz.pinned.checked.prog.looks []:=by kernel_rfl
def ayC:(Tryz.f3.params.toList.all λu=> !Tryz.prog.wantsStandIn u)=true:=by kernel_rfl
def ayx:false=Rows.poolBillsRow.goesBy Tryz.pinned.checked.prog:=by kernel_rfl
theorem poolBills_holds:Rows.PoolBillsCardSaid:=
 Claim7.holds_tied_plain_at .later [] [.widerDeep] true (true, "7d47ce9ce7c4c3083adb014946f8a2d2fefc9a1017455452b025b84f29487f07") false
  ayD (λ_ h=>by cases h) ayE (λ_ h=>by cases h) poolBills_row_tie rfl ⟨rfl,rfl⟩ aAn rfl
  (λf fn hf hfn=>by
    obtain rfl:f=3:=uo (aiM.symm.trans hf) |>.symm;obtain rfl:fn=Tryz.f3:=(uo (Tryz.func3.symm.trans hfn)).symm
    exact⟨aAm,λj t ht=>by
        have hm:t∈Tryz.f3.params.toList:=by simpa using qy ht
        exact(show Tryz.prog.wantsStandIn t=false by simpa using cM.1 ayC t hm)⟩)
  ayx
#print axioms poolBills_holds
end Go.Proofs.YtbemlocmcgcbdaaGreatDoor
