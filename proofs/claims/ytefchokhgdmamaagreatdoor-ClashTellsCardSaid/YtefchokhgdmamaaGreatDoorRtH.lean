/-
  The statement: ClashTells. For all right realms and files, the reference of clash says what the program says
-/
import Derived.Test.YtefchokhgdmamaaGreatDoorMAS
import Derived.Test.YtefchokhgdmamaaGreatDoorCards
import Derived.Test.YtefchokhgdmamaaGreatDoorTie
import Derived.ProofKit
import Derived.LaidMore
import Derived.OpenShut
import Derived.Stop.Joined
import Derived.SevenTiedAt
set_option linter.defProp false
set_option linter.unusedSimpArgs false
set_option linter.unusedVariables false
namespace Go.Proofs.YtefchokhgdmamaaGreatDoor
open Go Go.Proofs Cx Rm Go.RowKit Go.ChangeShapes Go.WideShapes
def arq:ownKnob Tryz.prog.godebug=none:=by kernel_rfl
abbrev FO:List (String×DataW Unit):=[("allonge/order.numbers",Rows.laid_allonge_order_numbers)]
def aro (os:Os)(args:Array Value):laidMetH Tryz.prog FO ((World.doorLaid Tryz.prog 400 os).forCall (λ_ _=>0) ⟨#[],args,[]⟩).memory:=
 laidMetH_of_parts3 (fuel:=8) (laidMet_of_run' 8 (by kernel_rfl) (by kernel_rfl)) (by kernel_rfl) (by kernel_rfl)
def arp {W:World}(h:laidMetH Tryz.prog FO W):CtxOK ctx (oI W):=by
 rw[MakeChecks.laidMetH_plain _ _ _ (by kernel_rfl)] at h;refine auB (g:=0) (name:= "allonge/order.numbers") rfl (by kernel_rfl) (by kernel_rfl) ?_;exact Lib.tabIs_of_head (g:=0) (n:=10) (by kernel_rfl) (t:=169) (by kernel_rfl) (e:=3) (by kernel_rfl) (by kernel_rfl) (by kernel_rfl) (by kernel_rfl) h
def ai9 (ds:List D)(h:DTys ((bS xg 3).getD default).args ds):jA ctx 3 ((bS xg 3).getD default) ds (.v (.bool true)):=by
 obtain⟨d1,ds,rfl,h1,h⟩:=DTys.cons_inv h;obtain⟨d2,ds,rfl,h2,h⟩:=DTys.cons_inv h;obtain⟨d3,ds,rfl,h3,h⟩:=DTys.cons_inv h;obtain⟨d4,ds,rfl,h4,h⟩:=DTys.cons_inv h;obtain⟨d5,ds,rfl,h5,h⟩:=DTys.cons_inv h;obtain⟨d6,ds,rfl,h6,h⟩:=DTys.cons_inv h;obtain⟨d7,ds,rfl,h7,h⟩:=DTys.cons_inv h;obtain⟨d8,ds,rfl,h8,h⟩:=DTys.cons_inv h;obtain rfl:=h.nil_inv;obtain⟨r,rfl,hr⟩:=atu h1;obtain⟨n2,rfl,_⟩:=h2.int_inv;obtain⟨n3,rfl,_⟩:=h3.int_inv;obtain⟨n4,rfl,_⟩:=h4.int_inv;obtain⟨c,rfl,hc⟩:=aiO h5;obtain⟨n6,rfl,_⟩:=h6.int_inv;obtain⟨n7,rfl,_⟩:=h7.int_inv;obtain⟨n8,rfl,_⟩:=h8.int_inv;exact au.fnOK auC rfl (ahw r hr n2 n3 n4 c hc n6 n7 n8)
set_option maxRecDepth 100000 in
def ai8 (os:Os)(started:os.Started)(zyz:Type)(enc:TypeId×Value->zyz):
 ReturnsInHanded {} Tryz.checked os 3 .any (λw args=>(Rows.clashTellsSpec.pre enc Tryz.prog Tryz.f3 [] false w args/\laidMetH Tryz.prog FO w)/\sizedMet enc Tryz.prog Tryz.f3 (OpenSpec.ofChange Rows.clashTellsSpec) false w args)
  (Rows.clashTellsSpec.post enc Tryz.prog Tryz.f3 false true false false):=by
 refine returnsInHanded_of_change_and (C:=Tryz.checked) (X:=λw _=>laidMetH Tryz.prog FO w) (λ_ _ _ hh h=>h.of_heap hh) arq started (by kernel_rfl) Tryz.func3
  (ChangeSpec.witness_shaped (enc:=enc) (C:=Tryz.checked) (os:=os) (X:=λw _=>laidMetH Tryz.prog FO w) false (World.doorLaid Tryz.prog 400 os) #[.agg #[.slice none 0 0,.slice none 0 0,.slice none 0 0,.slice none 0 0,.slice none 0 0,.slice none 0 0,.slice none 0 0,.slice none 0 0],.int .i64 0,.int .i64 0,.int .i64 0,.agg #[.int .i64 0,.int .i64 0,.int .i64 0,.int .i64 0,.int .i64 0,.int .i64 0,.int .i64 0,.int .i64 0,.int .i64 0,.int .i64 0,.int .i64 0,.int .i64 0,.int .i64 0,.int .i64 0,.int .i64 0,.slice none 0 0,.slice none 0 0,.slice none 0 0,.slice none 0 0,.int .i64 0,.int .i64 0,.int .i64 0,.int .i64 0,.int .i64 0],.int .i64 0,.int .i64 0,.int .i64 0] 8 rfl (World.shaped_of_RefB (by kernel_rfl) (by kernel_rfl)) (by kernel_rfl) (by kernel_rfl) (by kernel_rfl) (aro os _)) ?_
 intro W base args ds gs before cO hW _ _ hL _;refine apm (C:=ctx) (f:=3) (fn:=Tryz.f3) (sg:=(bS xg 3).getD default) (spec:=Rows.clashTellsSpec) (tb:=4) (by kernel_rfl) (by kernel_rfl) (by kernel_rfl) rfl ?_ rfl Tryz.underlying4 rfl rfl ai9 W (arp hL) base args ds gs before cO hW;intro ds yj
 match ds,yj with
 |[_,_,_,_,_,_,_,_],_=>exact⟨rfl,rfl,rfl⟩
set_option maxHeartbeats 4000000 in
def ai7:joinedFacts Tryz.pinned.checked.prog 3 Tryz.f3 Rows.clashTellsSpec Rows.clashTellsRow=true:=by
 unfold joinedFacts;simp only[aq]
 repeat' apply And.intro
 all_goals (as_aux_lemma=>kernel_rfl)
def YD:Tryz.pinned.checked.prog.funcNamed Rows.clashTellsRow.func=some 3:=by kernel_rfl
def ai6:Tryz.f3.isInstance Tryz.pinned.checked.prog Rows.clashTellsRow.origin Rows.clashTellsRow.targs:=of_decide_eq_true (by kernel_rfl)
def ajd:Tryz.f3.isWrapper Tryz.pinned.checked.prog Rows.clashTellsRow.wrapper Rows.clashTellsRow.mainSum:=by
 unfold Func.isWrapper;first|(rw[if_pos (by decide+kernel)];kernel_rfl)|(rw[if_neg (by decide+kernel)];exact⟨rfl,rfl⟩)
def ajb:Rows.ClashTellsSaid:=
 OpenClaim.holds_of_wide 3 Tryz.f3 rfl rfl rfl rfl rfl rfl rfl ⟨rfl,rfl,rfl,rfl,rfl⟩ rfl rfl rfl rfl rfl YD Tryz.func3 ai7 ai6 ajd
  (λos started zyz enc _=>ai8 os started zyz enc)
def ajc:Rows.clashTellsRow.wfByText (OpenSpec.ofChange Rows.clashTellsSpec)=true:=by kernel_rfl
def auc:Tryz.pinned.checked.prog.mainIs=some (true, "a3d668e6c97eaf8f0fd00d2b197971d1e83be4dd1f3d82c91f46a6eaef084950".toList):=by kernel_rfl
def aub:false=Tryz.pinned.checked.prog.looks []:=by kernel_rfl
def aja:(Tryz.f3.params.toList.all λu=> !Tryz.prog.wantsStandIn u)=true:=by kernel_rfl
def ai5:false=Rows.clashTellsRow.goesBy Tryz.pinned.checked.prog:=by kernel_rfl
theorem clashTells_holds:Rows.ClashTellsCardSaid:=
 Claim7.holds_tied_plain_at .later [] [.widerDeep] true (true, "a3d668e6c97eaf8f0fd00d2b197971d1e83be4dd1f3d82c91f46a6eaef084950") false
  ajb (λ_ h=>by cases h) ajc (λ_ h=>by cases h) clashTells_row_tie rfl ⟨rfl,rfl⟩ auc rfl
  (λf fn hf hfn=>by
    obtain rfl:f=3:=H4 (YD.symm.trans hf) |>.symm;obtain rfl:fn=Tryz.f3:=(H4 (Tryz.func3.symm.trans hfn)).symm
    exact⟨aub,λj t ht=>by
        have hm:t∈Tryz.f3.params.toList:=by simpa using iX ht
        exact(show Tryz.prog.wantsStandIn t=false by simpa using bJ.1 aja t hm)⟩)
  ai5
#print axioms clashTells_holds
end Go.Proofs.YtefchokhgdmamaaGreatDoor
