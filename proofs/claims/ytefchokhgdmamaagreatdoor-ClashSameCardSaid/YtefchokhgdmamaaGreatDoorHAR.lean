/-
  Clash: what is asked of realms and cases; the examples; two courts in either order.
-/
import Derived.Test.YtefchokhgdmamaaGreatDoorHAQ
set_option linter.unusedSimpArgs false
set_option linter.unusedVariables false
namespace Rm
open Go Go.Proofs Cx
theorem EM (l m:List Int)(hl:l.length≤1000000):aw T 12 [ints l,ints m] (.bool (decide (l=m))):=by
 refine .of_tree rfl (lA 51 (by kernel_rfl)) am0 ?_;simp[Qx];by_cases hlen:l.length=m.length
 case neg=>
  have:l≠m:=fun e=>hlen (by rw[e]);have h':¬((l.length:Int)=m.length):=by omega
  simp[this,h']
 have h':(l.length:Int)=m.length:=by omega
 simp[h'];refine aS.scan l.length (fun k=>l.getD k 0=m.getD k 0) (fun k=>[.bool false,.int k]) (fun _=>[]) ?_ (fun k hk hj ho=>?_) (fun k hk hj ho=>?_) (fun hj=>?_)
 ·simp
 ·have hw:=bS hk (by omega);have bt:k<m.length:=by omega
  simp[hk,bt] at ho;simp[O1,Dy,hk,bt,hw,ho,←h']
 ·have bt:k<m.length:=by omega
  simp[hk,bt] at ho;have:l≠m:=fun e=>ho (by subst e;rfl);simp[O1,Dy,hk,bt,ho,this,←h']
 ·have:l=m:=by
   apply R6 hlen;intro k h1 h2;have:=hj k h1;simpa [h1,h2] using this
  simp[O1,Dy,this]
def aaA (d:D):Prop:=∃b:Bool,d=.bool b
theorem adw (f:File):∃b:Bool,aw T 26 [dg f] (.bool b):=by
 have h:∃d,aw T 26 [dg f] d∧aaA d:=by
  refine aw.ex_of_tree rfl aa9 am2 ?_;simp[Qz];split
  ·exact⟨_,rfl⟩
  ·exact⟨_,rfl⟩
 obtain⟨d,hd,b,rfl⟩:=h;exact⟨b,hd⟩
structure Fine (r:Realm) (c:Case):Prop where
 good:Good r c.file
 check:nk r=0
 paper:PaperOK r c.file
theorem Fine.facts {r:Realm}{c:Case}(h:Fine r c):c.file.facts.Pairwise ct:=((adu c.file).1 h.paper.facts).sorted
theorem Fine.len {r:Realm}{c:Case}(h:Fine r c):c.file.facts.length≤900:=by have:=h.paper.full;omega
theorem Fine.turn {r:Realm}{c:Case}(h:Fine r c)(a b q:Int):aw T 10 [bF r,.int a,.int b,.int q,cD c] (ym (pC r a b q c)):=Ss r h.good.right a b q c h.good.few h.len h.facts
theorem Fine.differ {r:Realm}{c:Case}(h:Fine r c)(a b q:Int):aw T 13 [bF r,.int a,.int b,.int q,cD c] (.int (lO r a b q c)):=Ex r h.good.right a b q c h.good.few
theorem adB (r:Realm)(hr:r.OK)(c:Case)(hc:c.file.OK):∃b:Bool,aw T 9 [bF r,cD c] (.bool b)∧(b=true→Fine r c):=by
 have h:∃d,aw T 9 [bF r,cD c] d∧∃b:Bool,d=.bool b∧(b=true→Fine r c):=by
  refine aw.ex_of_tree rfl aa7 amK ?_;simp[Qi];refine⟨_,akQ r c.file hr,?_⟩;cases e1:ri r c.file
  ·simp
  have hs:Small r:=K6 hr (by simp only[ri,aj] at e1;exact e1.1.1);simp;refine⟨_,Zg r hs,?_⟩;by_cases e2:nk r=0
  case neg=>simp[e2]
  simp[e2];obtain⟨b,hb⟩:=adw c.file;refine⟨_,hb,?_⟩;cases b
  ·simp
  obtain⟨d,hd,e,rfl,he⟩:=akn r hs c.file hc;simp;refine⟨_,hd,?_⟩;by_cases e0:e=0
  case neg=>simp[e0]
  simp[e0];have hg:Gk r c.file=true:=by unfold Gk;simp[e1,e2]
  exact⟨aeE hr hg,e2,he.1 e0⟩
 obtain⟨d,h1,b,rfl,h2⟩:=h;exact⟨b,h1,h2⟩
def uL:Realm:=⟨[⟨#[102,114,97,110,99]⟩],[⟨⟨#[76,121,111,110]⟩,0,0,[],[],[]⟩],[⟨0⟩],[⟨⟨#[65]⟩,0,0⟩,⟨⟨#[66]⟩,0,0⟩],
 [⟨⟨#[103,101,110,101,118,97]⟩,false,[],[⟨2,.mk 2 15 []⟩]⟩,⟨⟨#[108,111,110,100,111,110]⟩,false,[],[⟨2,.mk 5 0 [.mk 2 15 [],.mk 2 17 []]⟩]⟩],[],[],[]⟩
def Eo (l:List Fact):File:=⟨⟨0,1,1,100,0,⟨0,0,0⟩,10,0,0,-1,0,0,1⟩,[⟨0,0,0,-1,-1,0,10,0,0⟩],[],[],l⟩
def An (l:List Fact):Case:=⟨Eo l,0,-1,-1,-1,20⟩
set_option maxRecDepth 10000 in
theorem aak (l:List Fact):aw T 23 [facts l] (.tup [bF uL,cD (An l)]):=by
 refine .of_tree rfl (lA 3 (by kernel_rfl)) amJ ?_;simp[Qh];refine⟨?_,?_⟩
 ·kernel_rfl
 ·first|rfl|kernel_rfl
theorem aal:Right uL:=by
 refine⟨?_,by decide,?_⟩
 ·intro o ho;simp[uL] at ho;rcases ho with rfl|rfl
  ·exact⟨by decide,fun ch h=>by simp at h⟩
  ·exact⟨by decide,fun ch h=>by simp at h⟩
 ·have t0:∀n:Int,(0≤n∧n≤100)→Tm.OK (.mk 2 n []):=fun n h=>Tm.OK.mk 2 n [] (by unfold aT;omega) (by unfold aT;omega) (by decide) (fun t h=>by cases h);intro o ho;simp[uL] at ho;rcases ho with rfl|rfl
  ·refine⟨⟨⟨by decide,fun ch h=>by simp at h⟩,by decide,?_⟩,by decide⟩;intro x hx;simp at hx;subst hx;exact⟨by unfold aT;decide,t0 15 (by omega)⟩
  ·refine⟨⟨⟨by decide,fun ch h=>by simp at h⟩,by decide,?_⟩,by decide⟩;intro x hx;simp at hx;subst hx;refine⟨by unfold aT;decide,Tm.OK.mk 5 0 _ (by unfold aT;decide) (by unfold aT;decide) (by decide) (fun t h=>?_)⟩;simp at h;rcases h with rfl|rfl
   ·exact t0 15 (by omega)
   ·exact t0 17 (by omega)
theorem PK (l:List Fact)(d:Int)(k v:List Int)(hl:l.length≤10)(hs:l.Pairwise ct)(ht:pC uL 0 1 2 (An l)=(k,v,true))(hd:lO uL 0 1 2 (An l)=d)(hk:k.length≤10)(hv:v.length≤10):
 aw T 22 [facts l,.int d,ints k,ints v] (.bool true):=by
 have hf:FewS (An l).file:=⟨by show 1≤1000;omega,by show 0≤1000;omega,by show 0≤1000;omega,by show l.length≤1000;omega⟩
 have h1:=Ss uL aal 0 1 2 (An l) hf (by show l.length≤900;omega) hs;have h2:=Ex uL aal 0 1 2 (An l) hf;rw[ht] at h1;rw[hd] at h2;have h3:=EM k k (by omega);have h4:=EM v v (by omega);refine .of_tree rfl (lA 2 (by kernel_rfl)) amM ?_;simp[Qk];refine⟨_,aak l,?_⟩;simp[eM];refine⟨_,h1,?_⟩;simp[ym];refine⟨_,h2,?_⟩;simp;refine⟨_,h3,?_⟩;simpa using h4
set_option maxHeartbeats 2000000 in
theorem alK:aw T 8 [] (.bool true):=by
 have s1:=PK [] 2 [0] [1] (by decide) (by decide) (by kernel_rfl) (by kernel_rfl) (by decide) (by decide);have s2:=PK [⟨0,0,1⟩] 0 [0,2] [0,1] (by decide) (by decide) (by kernel_rfl) (by kernel_rfl) (by decide) (by decide);have s3:=PK [⟨0,0,0⟩,⟨2,0,1⟩] 1 [0] [1] (by decide) (by decide) (by kernel_rfl) (by kernel_rfl) (by decide) (by decide);have s4:=ZN (f:=Eo [⟨1,0,1⟩]) (by decide) (by decide) 0 0 7;rw[show qD (Eo [⟨1,0,1⟩]) (fx 0 0 7)=Eo [⟨0,0,1⟩,⟨1,0,1⟩] by kernel_rfl] at s4;refine .of_tree rfl (lA 1 (by kernel_rfl)) amL ?_;simp[Qj];refine⟨_,s1,_,s2,_,s3,_,aak [⟨1,0,1⟩],?_⟩;simp[eM];refine⟨_,s4,?_⟩;simp[eM,Eo]
theorem KQ (r:Realm)(a b q:Int)(c:Case):lO r a b q c=lO r b a q c:=acp _ _
theorem anY (r:Realm)(a b q:Int)(c:Case):pC r a b q c=pC r b a q c:=by
 have:iS r a b q c=iS r b a q c:=by
  funext x;unfold iS;rw[KQ r a b,KQ r a b q c]
 unfold pC;rw[this]
theorem aco (r:Realm)(a q:Int)(c:Case):lO r a a q c≠1:=by
 unfold lO yh;split
 ·decide
 ·rw[if_neg (by simp)];decide
theorem anZ (r:Realm)(a b q:Int)(c:Case):(pC r a b q c).1.length≤1000∧(pC r a b q c).2.1.length≤1000:=by
 have key:∀x,x∈Ek→x.1.length≤5:=fun x hx=>by
  unfold Ek at hx;obtain⟨s,hs,hx⟩:=iL.1 hx;obtain⟨l,hl,hx⟩:=iL.1 hx;obtain⟨v,_,rfl⟩:=eE.1 hx;have:=Hy _ _ l hl;have:=bZ.1 hs;show l.length≤5;omega
 unfold pC;split
 ·cases h:Ek.find? (iS r a b q c) with
  |none=>simp
  |some x=>
   have:=key x (sF h);exact⟨by show x.1.length≤_;omega,by show(Aj x).length≤_;unfold Aj;simp;omega⟩
 ·simp
theorem aap (r:Realm)(hr:r.OK)(a b q:Int)(c:Case)(hc:c.OK):aw T 5 [bF r,.int a,.int b,.int q,cD c] (.bool true):=by
 refine .of_tree rfl (lA 0 (by kernel_rfl)) amI ?_;simp[Qg];obtain⟨e,he,hF⟩:=adB r hr c hc.1;refine⟨_,alK,_,he,?_⟩;cases e
 ·simp
 have F:=hF rfl;have h1:=F.turn a b q;have h2:=F.turn b a q;rw[anY r b a] at h2;obtain⟨l1,l2⟩:=anZ r a b q c;have d1:=F.differ a b q;have d2:=F.differ b a q;have d3:=F.differ a a q;rw[KQ r b a] at d2;have ahh:=aco r a q c;generalize pC r a b q c=t at*;obtain⟨k,v,is⟩:=t;have h3:=EM k k (cC l1 (by omega));have h4:=EM v v (cC l2 (by omega));simp;refine⟨_,h1,_,h2,?_⟩;simp[ym];refine⟨_,h3,?_⟩;simp;refine⟨_,h4,?_⟩;simp;refine⟨_,d1,_,d2,?_⟩;simp;refine⟨_,d3,?_⟩;simp[ahh]
end Rm
