/-
  Shared texts of this claim.
-/
import Derived.Test.YtmnnipoiigfapaaGreatDoorBAQ
set_option linter.unusedSimpArgs false
set_option linter.unusedVariables false
namespace Rm
open Go Go.Proofs Cx
theorem ao.of_cf {f:Nat}{pc:PC}{cf:Option PC}{ds:List D}{d:D}(n:Nat)(hx:ext f=none)(ht:tab f=some pc)(hcf:cf=some pc)(h:(cf.bind fun c=>c.ev (fun _ _=>none) n (kS ds))=some (.ret d)):ao T f ds d:=by
 subst hcf;refine⟨n+1,fun m hm=>?_⟩;obtain⟨k,rfl⟩:∃k,m=k+1:=⟨m-1,by omega⟩
 have:=PC.ev_mono (Φ:=fun _ _=>none) (Ψ:=T k) (fun f ds d h=>by cases h) (show n≤k by omega) h;show dV tab ext (k+1) f ds=some d;simp only[dV,hx,ht];rw[this]
def dH:Realm:=⟨[⟨#[102,114,97,110,99]⟩],[⟨⟨#[76,121,111,110]⟩,0,0,[],[],[]⟩],[⟨0⟩],[⟨⟨#[66,111,100,109,101,114]⟩,0,0⟩,⟨⟨#[72,111,112,101]⟩,0,0⟩,⟨⟨#[82,105,99,99,105]⟩,0,0⟩],[⟨⟨#[103,101,110,101,118,97]⟩,false,[],[⟨20,⟨0,30,[]⟩⟩]⟩],[],[],[]⟩
def loB:Bill:=⟨0,1,2,500,0,⟨0,0,0⟩,2,0,0,-1,0,0,1⟩
def dX:File:=⟨loB,[⟨0,0,0,-1,-1,0,2,0,0⟩,⟨2,0,2,-1,1,0,20,0,0⟩],[],[],[]⟩
def fQ (l:List Objection):Lost:=⟨0,0,2,10,12,l⟩
theorem aow:ao T 20 [] (.tup [aW dH,aZ dX,fe (fQ [])]):=ao.of_cf 20 rfl ag1 (ax C4 acg) (by kernel_rfl)
theorem aoz:Small dH:=by
 refine⟨by decide,by decide,by decide,by decide,by decide,by decide,by decide,by decide,?_,?_,?_⟩
 ·intro c hc;obtain rfl:c=⟨⟨#[76,121,111,110]⟩,0,0,[],[],[]⟩:=by simpa [dH] using hc
  simp
 ·intro o ho;obtain rfl:o=⟨⟨#[103,101,110,101,118,97]⟩,false,[],[⟨20,⟨0,30,[]⟩⟩]⟩:=by simpa [dH] using ho
  simp
 ·intro x hx;simp[dH] at hx
theorem aaT:Right dH:=by
 refine⟨?_,by decide,?_⟩
 ·intro o ho;obtain rfl:o=⟨⟨#[103,101,110,101,118,97]⟩,false,[],[⟨20,⟨0,30,[]⟩⟩]⟩:=by simpa [dH] using ho
  exact⟨by decide,fun ch h=>by simp at h⟩
 ·intro o ho;obtain rfl:o=⟨⟨#[103,101,110,101,118,97]⟩,false,[],[⟨20,⟨0,30,[]⟩⟩]⟩:=by simpa [dH] using ho
  refine⟨⟨⟨by decide,fun ch h=>by simp at h⟩,by decide,?_⟩,by decide⟩;intro x hx;simp at hx;subst hx;exact⟨by unfold aQ;decide,Tm.OK.mk 0 30 [] (by unfold aQ;decide) (by unfold aQ;decide) (by decide) (fun t h=>by cases h)⟩
theorem aaR:FewS dX:=⟨by decide,by decide,by decide,by decide⟩
theorem aox:dX.OK:=by
 have h0:∀n:Int,(-9223372036854775808≤n∧n≤9223372036854775807)→aQ n:=fun n h=>h;unfold File.OK Bill.OK Tenor.OK;simp only[abo];refine⟨?_,⟨by decide,?_⟩,⟨by decide,?_⟩,⟨by decide,?_⟩,⟨by decide,?_⟩⟩
 ·repeat' apply And.intro
  all_goals first|(exact h0 _ (by decide))|decide
 ·intro y hy;simp only[dX,cC,List.not_mem_nil,or_false] at hy;unfold Sign.OK;rcases hy with rfl|rfl
  all_goals
   repeat' apply And.intro
   all_goals first|(exact h0 _ (by decide))|decide
 ·intro y hy;simp[dX] at hy
 ·intro y hy;simp[dX] at hy
 ·intro y hy;simp[dX] at hy
theorem aoy:PaperOK dH dX:=by
 refine⟨by decide,⟨by kernel_rfl,by kernel_rfl,by kernel_rfl,by unfold uj;decide,by decide,?_,?_⟩,by decide,by kernel_rfl,by kernel_rfl,by kernel_rfl,by kernel_rfl⟩
 ·exact⟨⟨by decide,.inl (by kernel_rfl)⟩,by kernel_rfl⟩
 ·intro h;cases h
theorem Qq:ao T 36 [aW dH,aZ dX] (.int 0):=by
 obtain⟨d,h,e,rfl,he⟩:=adw dH aoz dX aox;rw[he.2 aoy] at h;exact h
theorem aaU (l:List Objection)(h:l.length≤10∧∀y,y∈l→Objection.OK y):(fQ l).OK:=by
 have h0:aQ 0∧aQ 2∧aQ 10∧aQ 12:=by unfold aQ;decide
 refine⟨h0.1,h0.1,h0.2.1,h0.2.2.1,h0.2.2.2,?_,h.2⟩;have:=h.1;rw[abo];show l.length≤_;omega
theorem aaS (n d:Int)(b:Bool)(hn:0≤n∧n≤1000)(hd:0≤d∧d≤1000):∀y,y∈[(⟨n,d,b⟩:Objection)]→Objection.OK y:=by
 intro y hy;simp only[py] at hy;subst hy;exact⟨by unfold aQ;simp only;omega,by unfold aQ;simp only;omega⟩
theorem vm (l:List Objection)(h:l.length≤10∧∀y,y∈l→Objection.OK y)(day:Int):ao T 16 [aW dH,.int 0,aZ dX,fe (fQ l),.int day] (.int (kc dH 0 dX (fQ l) 0 day)):=
 abc dH aaT 0 dX aaR (fQ l) (aaU l h) 0 Qq (by have:=h.1;show l.length≤1000;omega) day rfl
theorem aaP (day:Int):ao T 9 [aW dH,.int 0,aZ dX,fe (fQ []),.int day] (.tup [aZ (kR dH 0 dX (fQ []) 0 day).1,.int (kR dH 0 dX (fQ []) 0 day).2]):=by
 have h1:dH.firms.length≤100000:=by decide
 have h2:(fQ []).claims.length≤1000:=by decide
 have h3:(fQ []).OK:=aaU [] ⟨by decide,fun y h=>nomatch h⟩;have h4:∀(r:Realm) (f:File) (x:Lost),Right r→r.firms.length≤100000→FewS f→x.OK→ao T 36 [aW r,aZ f] (.int 0)→x.claims.length≤1000→ao T 9 [aW r,.int 0,aZ f,fe x,.int day] (.tup [aZ (kR r 0 f x 0 day).1,.int (kR r 0 f x 0 day).2]):=
  fun r f x a b c d e g=>aba r a b 0 f c x d 0 e g day
 exact h4 _ _ _ aaT h1 aaR h3 Qq h2
theorem aaQ (l:List Objection)(h:l.length≤10):ao T 17 [aW dH,aZ dX,fe (fQ l)] (.int (mG dH dX (fQ l) 0)):=
 abb dH dX (fQ l) 0 Qq (by show l.length≤1000;omega)
def loG:File:=⟨loB,[⟨0,0,0,-1,-1,0,2,0,0⟩,⟨2,0,2,-1,1,0,20,0,0⟩],[],[⟨7,2,-1,0,1,0,43,0,0⟩],[]⟩
set_option maxRecDepth 20000 in
set_option maxHeartbeats 2000000 in
theorem aoA:ao T 7 [] (.bool true):=by
 refine .of_tree rfl (lA 1 (by kernel_rfl)) auE ?_;have n0:([]:List Objection).length≤10∧∀y,y∈([]:List Objection)→Objection.OK y:=⟨by decide,fun y h=>by cases h⟩
 have n1:([⟨1,42,true⟩]:List Objection).length≤10∧∀y,y∈([⟨1,42,true⟩]:List Objection)→Objection.OK y:=⟨by decide,aaS _ _ _ (by decide) (by decide)⟩
 have n2:([⟨1,43,true⟩]:List Objection).length≤10∧∀y,y∈([⟨1,43,true⟩]:List Objection)→Objection.OK y:=⟨by decide,aaS _ _ _ (by decide) (by decide)⟩
 have s1:=vm [] n0 41;have s2:=vm [] n0 42;have s3:=vm [] n0 43;have s4:=vm [⟨1,42,true⟩] n1 41;have s5:=vm [⟨1,42,true⟩] n1 42;have s6:=vm [⟨1,42,true⟩] n1 43;have s7:=vm [⟨1,43,true⟩] n2 42;have s8:=vm [⟨1,43,true⟩] n2 43;have c1:=aaP 43;have c2:=aaP 42;have k1:=aaQ [⟨1,43,true⟩] (by decide);have k2:=aaQ [⟨1,11,true⟩] (by decide);rw[show kc dH 0 dX (fQ []) 0 41=2 by kernel_rfl] at s1;rw[show kc dH 0 dX (fQ []) 0 42=2 by kernel_rfl] at s2;rw[show kc dH 0 dX (fQ []) 0 43=1 by kernel_rfl] at s3;rw[show kc dH 0 dX (fQ [⟨1,42,true⟩]) 0 41=2 by kernel_rfl] at s4;rw[show kc dH 0 dX (fQ [⟨1,42,true⟩]) 0 42=0 by kernel_rfl] at s5;rw[show kc dH 0 dX (fQ [⟨1,42,true⟩]) 0 43=0 by kernel_rfl] at s6;rw[show kc dH 0 dX (fQ [⟨1,43,true⟩]) 0 42=2 by kernel_rfl] at s7;rw[show kc dH 0 dX (fQ [⟨1,43,true⟩]) 0 43=1 by kernel_rfl] at s8;rw[show kR dH 0 dX (fQ []) 0 43=(loG,0) by kernel_rfl] at c1;rw[show kR dH 0 dX (fQ []) 0 42=(zF,7) by kernel_rfl] at c2;rw[show mG dH dX (fQ [⟨1,43,true⟩]) 0=0 by kernel_rfl] at k1;rw[show mG dH dX (fQ [⟨1,11,true⟩]) 0=13 by kernel_rfl] at k2;simp[Ul];refine⟨_,aow,?_⟩;simp;refine⟨_,s1,?_⟩;simp;refine⟨_,s2,?_⟩;simp;refine⟨_,s3,_,c1,_,c2,_,s4,?_⟩;simp;refine⟨_,s5,?_⟩;simp;refine⟨_,s6,?_⟩;simp;refine⟨_,s7,?_⟩;simp;refine⟨_,s8,?_⟩;simp;refine⟨_,k1,?_⟩;simp[bZ,loG,acts,signs];refine⟨_,k2,?_⟩;simp
def DL (r:Realm)(f:File)(x:Lost):Bool:=I4 r f&&decide (x.claims.length≤30)
theorem aor (r:Realm)(f:File)(x:Lost)(hr:r.OK):ao T 8 [aW r,aZ f,fe x] (.bool (DL r f x)):=by
 refine .of_tree rfl (lA 98 (by kernel_rfl)) auD ?_;simp[Uk];refine⟨_,aso r f hr,?_⟩;unfold DL I4;cases h:tj r f
 ·simp
 simp;have hs:Small r:=by
  unfold tj at h;simp only[aq] at h;exact Of hr h.1.1
 refine⟨_,ar6 r hs,?_⟩;by_cases h1:lE r=0<;>simp[h1];omega
end Rm
namespace Rm
open Go Go.Proofs Cx
end Rm
namespace Rm
open Go Go.Proofs Cx
theorem adv {α:Type}(key:α→Int)(l:List α)(h:∀i (h1:i+1<l.length),key (l[i]'(by omega))≤key l[i+1]):l.Pairwise fun a b=>key a≤key b:=by
 rw[agn];intro i j hi hj db;obtain⟨d,rfl⟩:∃d,j=i+1+d:=⟨j-i-1,by omega⟩
 clear db
 induction d with
 |zero=>exact h i hj
 |succ d ih=>exact GX (ih (by omega)) (h (i+1+d) hj)
structure Sorted (f:File):Prop where
 signs:f.signs.Pairwise fun a b=>a.day≤b.day
 acts:f.acts.Pairwise fun a b=>a.day≤b.day
 aDQ:∀s,s∈f.signs→0≤s.day
 azT:∀a,a∈f.acts→0≤a.day
structure SignOK (r:Realm) (f:File) (i:Nat) (s:Sign):Prop where
 part:0≤s.part∧s.part≤f.bill.parts-1
 who:0≤s.who∧s.who<r.firms.length
 city:0≤s.city∧s.city<r.cities.length
 day:lG f i≤s.day∧s.day≤100000
 fits:DD r f i=true
 once:GL f i s=false
theorem PaperOK.sign {r:Realm}{f:File}(h:PaperOK r f)(i:Nat)(hi:i<f.signs.length):SignOK r f i f.signs[i]:=by
 have h1:=Oi h.signs i hi;have hs:f.signs.getD i default=f.signs[i]:=by simp[hi]
 unfold B8 at h1;simp only[hs] at h1;split at h1
 ·cases h1
 rename_i a1;split at h1
 ·cases h1
 rename_i a2;split at h1
 ·cases h1
 rename_i a3;split at h1
 ·cases h1
 rename_i a4;split at h1
 ·cases h1
 rename_i a5;simp[wi,ay] at a1 a2 a3;exact⟨⟨by omega,by omega⟩,⟨by omega,by omega⟩,⟨by omega,by omega⟩,⟨by omega,by omega⟩,by simpa using a4,by simpa using a5⟩
structure Cm (r:Realm) (f:File) (i:Nat) (a:Act):Prop where
 part:0≤a.part∧a.part≤f.bill.parts-1
 city:0≤a.city∧a.city<r.cities.length
 kind:0≤a.kind∧a.kind≤9
 fits:uC r f a=true
 day:A4 f i a≤a.day∧a.day≤100000
theorem PaperOK.act {r:Realm}{f:File}(h:PaperOK r f)(i:Nat)(hi:i<f.acts.length):Cm r f i f.acts[i]:=by
 have h1:=Oi h.acts i hi;have hs:f.acts.getD i default=f.acts[i]:=by simp[hi]
 unfold sP at h1;simp only[hs] at h1;split at h1
 ·cases h1
 rename_i a1;split at h1
 ·cases h1
 rename_i a2;split at h1
 ·cases h1
 rename_i a3;split at h1
 ·cases h1
 rename_i a4;simp[wi,ay] at a1 a2 a4;exact⟨⟨by omega,by omega⟩,⟨by omega,by omega⟩,⟨by omega,by omega⟩,by simpa using a3,by omega⟩
theorem aaK (f:File)(i:Nat)(a:Act):f.bill.day≤A4 f i a∧(i≠0→(f.acts.getD (i-1) default).day≤A4 f i a):=by
 unfold A4;refine⟨?_,fun h=>?_⟩
 ·simp only;split<;>split<;>omega
 ·simp only[if_neg h];omega
theorem PaperOK.day {r:Realm}{f:File}(h:PaperOK r f):0≤f.bill.day∧f.bill.day≤100000:=by
 have:=h.bill.range;unfold uj at this;omega
theorem Yr {r:Realm}{f:File}(h:PaperOK r f):∀i,i<f.signs.length→0≤lG f i
 |0,_=>by simp[lG];exact h.day.1
 |i+1,hi=>by
  have h1:=(h.sign i (by omega)).day.1;have h2:=Yr h i (by omega);have e:lG f (i+1)=f.signs[i].day:=by simp[lG,show i<f.signs.length by omega]
  omega
theorem PaperOK.sorted {r:Realm}{f:File}(h:PaperOK r f):Sorted f:=by
 refine⟨adv (·.day) f.signs fun i hi=>?_,adv (·.day) f.acts fun i hi=>?_,fun s hs=>?_,fun a ha=>?_⟩
 ·have h1:=(h.sign (i+1) hi).day.1;have e:lG f (i+1)=f.signs[i].day:=by simp[lG,show i<f.signs.length by omega]
  rw[e] at h1;exact h1
 ·have h1:=(h.act (i+1) hi).day.1;have h2:=(aaK f (i+1) f.acts[i+1]).2 (by omega);have e:f.acts.getD (i+1-1) default=f.acts[i]:=by simp[show i<f.acts.length by omega]
  rw[e] at h2;exact GX h2 h1
 ·obtain⟨i,hi,rfl⟩:=kf hs;exact GX (Yr h i hi) (h.sign i hi).day.1
 ·obtain⟨i,hi,rfl⟩:=kf ha;have h1:=(h.act i hi).day.1;have h2:=(aaK f i f.acts[i]).1;have:=h.day;omega
end Rm
namespace Rm
open Go Go.Proofs Cx
structure LRun (r:Realm) (f:File) (e:Int):Prop where
 good:Good r f
 check:ao T 36 [aW r,aZ f] (.int e)
 ok:e=0→PaperOK r f
theorem aqb {r:Realm}(hr:r.OK){f:File}(DO:f.OK){x:Lost}(h:DL r f x=true):∃e,LRun r f e∧x.claims.length≤30:=by
 unfold DL at h;simp only[aq,decide_eq_true_eq] at h;have G:=akY hr h.1;obtain⟨d,h1,e,rfl,he⟩:=adw r G.rightD.small f DO;exact⟨e,⟨G,h1,he.1⟩,h.2⟩
theorem aoM {r:Realm}{f:File}{x:Lost}{e:Int}:mG r f x e=0↔e=0∧ay x.part f.bill.parts=true∧ay x.by_ r.firms.length=true∧x.claims.length≤20∧GD r x=false∧rh f x=true:=by
 unfold mG;by_cases h0:e=0<;>simp[h0];cases ay x.part f.bill.parts<;>simp;cases ay x.by_ r.firms.length<;>simp;by_cases h1:20<x.claims.length
 ·simp[h1]
  try (intro h;omega)
 ·simp[h1,show x.claims.length≤20 by omega]
  try (cases GD r x<;>simp)
  try (cases rh f x<;>simp)
end Rm
namespace Rm
open Go Go.Proofs Cx
end Rm
namespace Rm
open Go Go.Proofs Cx
end Rm
namespace Rm
open Go Go.Proofs Cx
instance (b:Bill):Decidable (uj b):=by unfold uj;infer_instance
instance (b:Bill):Decidable (DI b):=by unfold DI;infer_instance
end Rm
namespace Rm
open Go Go.Proofs Cx
end Rm
namespace Rm
open Go Go.Proofs Cx
end Rm
namespace Rm
open Go Go.Proofs Cx
end Rm
namespace Rm
open Go Go.Proofs Cx
end Rm
namespace Rm
open Go Go.Proofs Cx
theorem atP {α:Type}[Inhabited α](l:List α){m i:Nat}(h:i<m):(l.take m).getD i default=l.getD i default:=by
 simp[aJ,fa,h]
structure Pre (f g:File) (m:Nat):Prop where
 bill:g.bill=f.bill
 signs:g.signs=f.signs.take m
 le:m≤f.signs.length
theorem Pre.len {f g:File}{m:Nat}(h:Pre f g m):g.signs.length=m:=by rw[h.signs,dU];have:=h.le;omega
theorem ag3 (f:File)(day:Int):∃m,Pre f (bf f day) m∧(∀k (hk:k<f.signs.length),k<m→f.signs[k].day≤day)∧(∀hk:m<f.signs.length,day<f.signs[m].day):=by
 obtain⟨m,hm,e,aP,dD⟩:=Cg (fun s:Sign=>decide (s.day≤day)) f.signs;exact⟨m,⟨rfl,e,hm⟩,fun k hk O5=>by simpa using aP k hk O5,fun hk=>by simpa using dD hk⟩
end Rm
namespace Rm
open Go Go.Proofs Cx
end Rm
namespace Rm
open Go Go.Proofs Cx
end Rm
namespace Rm
open Go Go.Proofs Cx
theorem atw {g:File}{x:Lost}{held:List Int}{day:Int}{i:Nat}(hi:i<g.signs.length):pf g x held day i=true↔(g.signs[i].kind=2∧g.signs[i].part=x.part)∧¬(i:Int)∈held∧jE g.acts i day=false:=by
 unfold pf;rw[LZ];have:ay (i:Int) g.signs.length=true:=by simp[ay];omega
 have hg:g.signs.getD i default=g.signs[i]:=by simp[hi]
 rw[this,hg];simp[hasB,and_assoc];intro _ _ _;exact⟨fun h1 hm=>h1 _ hm rfl,fun h1 y hy e=>h1 (e▸hy)⟩
theorem atH (l L:List Act)(i day:Int):jE (l++L) i day=(jE l i day||jE L i day):=by unfold jE;rw[WM]
theorem atI (r:Realm)(g:File)(x:Lost)(held:List Int)(day:Int)(k i:Nat):jE (l0 r g x held day k) (i:Int) day=(decide (i<k)&&pf g x held day i):=by
 unfold jE l0;rw[List.any_map,sE,nY];constructor
 ·rintro⟨j,hj,hs⟩;obtain⟨h1,h2⟩:=dj.1 hj;have h1:=bY.1 h1;have e:j=i:=by simp[qN,GF] at hs;omega
  subst e;simp[h1,h2]
 ·intro h;simp at h;exact⟨i,dj.2 ⟨bY.2 h.1,h.2⟩,by simp[qN,GF]⟩
theorem aty {r:Realm}{g:File}{x:Lost}{held:List Int}{day:Int}{k:Nat}:∀a,a∈l0 r g x held day k→a.kind=7:=by
 intro a ha;unfold l0 at ha;obtain⟨i,_,rfl⟩:=dJ.1 ha;rfl
theorem XI (p:Int×Bool):∀(l:List (Int×Sign)) (c:Chain),(∀y,y∈l→0≤y.1)→(iL p c l).broken=-1→(iL p c l).signs=c.signs++l.map (·.1)
 |[],c,_,_=>by simp[iL]
 |y::l,c,h0,hb=>by
  unfold iL at hb ⊢;split
  ·rename_i uS;rw[if_pos uS] at hb;have:=h0 y (du ..);simp at hb;omega
  ·rename_i uS;rw[if_neg uS] at hb;rw[XI p l _ (fun z hz=>h0 z (di _ hz)) hb];simp[jf]
end Rm
namespace Rm
open Go Go.Proofs Cx
end Rm
namespace Rm
open Go Go.Proofs Cx
theorem X7 (r:Realm)(forum:Int)(f:File)(day:Int):(lF r forum f day).length=(bf f day).signs.length:=by
 simp[lF,mM]
theorem X6 (r:Realm)(forum:Int)(f:File)(day:Int)(k:Nat)(hk:k<(lF r forum f day).length):(lF r forum f day)[k]=kq (mM r forum f day) k:=by
 simp[lF]
set_option maxRecDepth 10000 in
theorem asl (f:File)(h1:f.signs.length≤100000)(h2:f.alters.length≤100000)(h3:f.acts.length≤100000)(h4:f.facts.length≤100000):ao T 19 [aZ f,aZ f] (.bool true):=by
 refine .of_tree rfl (lA 147 (by kernel_rfl)) avj ?_;simp[U0];refine aN.scan f.signs.length (fun _=>True) (fun k=>[.bool false,.int k]) (fun _=>[]) ?_ (fun k hk hj ho=>?_) (fun k hk hj ho=>absurd trivial ho) (fun hj=>?_)
 ·simp
 ·have hw:=bk hk (by omega);simp[aeA,Lo,hk,hw]
 simp[aeA,Lo];refine aN.scan f.alters.length (fun _=>True) (fun k=>[.bool false,.int k]) (fun _=>[]) ?_ (fun k hk hj ho=>?_) (fun k hk hj ho=>absurd trivial ho) (fun hj=>?_)
 ·simp
 ·have hw:=bk hk (by omega);simp[aeB,Lp,hk,hw]
 simp[aeB,Lp];refine aN.scan f.acts.length (fun _=>True) (fun k=>[.bool false,.int k]) (fun _=>[]) ?_ (fun k hk hj ho=>?_) (fun k hk hj ho=>absurd trivial ho) (fun hj=>?_)
 ·simp
 ·have hw:=bk hk (by omega);simp[aeC,Lq,hk,hw]
 simp[aeC,Lq];refine aN.scan f.facts.length (fun _=>True) (fun k=>[.bool false,.int k]) (fun _=>[]) ?_ (fun k hk hj ho=>?_) (fun k hk hj ho=>absurd trivial ho) (fun hj=>?_)
 ·simp
 ·have hw:=bk hk (by omega);simp[aeD,Lr,hk,hw]
 simp[aeD,Lr]
theorem atk (g:File)(L:List Act)(hL:∀a,a∈L→a.kind=7):mR {g with acts:=g.acts++L}=mR g:=by
 have h0:L.find? (qM g)=none:=by
  rw[v9];intro a ha;have:=hL a ha;simp[qM,this]
 have h1:({g with acts:=g.acts++L}:File).acts.find? (qM {g with acts:=g.acts++L})=g.acts.find? (qM g):=by
  show(g.acts++L).find? (qM g)=_;rw[List.find?_append,h0];cases g.acts.find? (qM g)<;>rfl
 have h2:ja {g with acts:=g.acts++L} (g.acts++L).length=ja g g.acts.length:=by
  unfold ja;rw[Mz,Mz];show(if g.bill.tenor.kind=1 then((g.acts++L).filter _).map _ else[])=_;rw[yM]
  have:L.filter (fun s=>decide (s.kind=1))=[]:=by
   rw[WR];intro a ha;have:=hL a ha;simp[this]
  rw[this,lx]
 unfold mR;rw[h1];have gK:ja {g with acts:=g.acts++L} ({g with acts:=g.acts++L}:File).acts.length=ja g g.acts.length:=h2;rw[gK];rfl
theorem atA (r:Realm)(f:File)(x:Lost)(day:Int)(k:Nat)(hk:k<(bf f day).signs.length):
 l5 (fX r f x day) (k:Int) day=(pf (bf f day) x (jL f x.part x.day).signs day k||l5 (bf f day) (k:Int) day):=by
 rw[LZ,LZ];show(ay (k:Int) (bf f day).signs.length&&jE ((bf f day).acts++_) (k:Int) day)=_;have hi:ay (k:Int) (bf f day).signs.length=true:=by simp[ay];omega
 rw[hi,atH,atI,qU,qU,decide_eq_true hk,qU,Bool.or_comm]
theorem TI (r:Realm)(f:File)(x:Lost)(day:Int):Stab (fX r f x day) day:=by
 have h:=afu f day;refine⟨h.signs,fun a ha=>?_,h.alters,h.facts⟩;rcases dt.1 ha with ha|ha
 ·exact h.acts a ha
 ·unfold l0 at ha;obtain⟨i,_,rfl⟩:=dJ.1 ha;exact m4 _
theorem atz (r:Realm)(forum:Int)(f:File)(x:Lost)(day:Int):Near (mM r forum f day) (mM r forum (fX r f x day) day) day:=by
 have hS:=afu f day;have hG:=TI r f x day;have hA:ActsF (bf f day) (fX r f x day):=⟨rfl,rfl,rfl,rfl⟩
 have e:(mM r forum (fX r f x day) day).file=fX r f x day:=hG.at_ (m4 _);have anu:mR (fX r f x day)=mR (bf f day):=atk _ _ aty;refine⟨rfl,rfl,?_,?_,?_,hS,?_,m4 _,m4 _⟩
 ·show yA (kP r forum 0 (bf (fX r f x day) day) day)=yA (kP r forum 0 (bf f day) day);rw[hG.at_ (m4 _),Xq r forum 0 hS hG hA (m4 _) (m4 _)]
 ·show vq r forum (bf (fX r f x day) day) day=vq r forum (bf f day) day;rw[hG.at_ (m4 _),aqj r forum hS hG hA anu (m4 _) (m4 _)]
 ·rw[e];exact hA
 ·rw[e];exact hG
theorem ai5 {v:View}{s:Int}(h:l5 v.file s v.day=true):kq v s={kq v s with binds:=0}:=by
 unfold kq;rw[h];rfl
theorem ahj {r:Realm}{f:File}{x:Lost}{day:Int}(forum:Int)(h:PaperOK r f)(hd:x.day≤day)(hh:rA f x=true)(k:Nat)(hk:k<(bf f day).signs.length):
 kq (mM r forum (fX r f x day) day) k=if((bf f day).signs[k].kind=2∧(bf f day).signs[k].part=x.part)∧x.day<(bf f day).signs[k].day then {kq (mM r forum f day) k with binds:=0} else kq (mM r forum f day) k:=by
 have hN:=atz r forum f x day;have hG:=TI r f x day;have he:=hN.eff k (pf (bf f day) x (jL f x.part x.day).signs day k) (by
  show l5 (bf (fX r f x day) day) k day=_;rw[hG.at_ (m4 _)];exact atA r f x day k hk)
 rw[he];have PK:=atw (x:=x) (held:=(jL f x.part x.day).signs) (day:=day) hk;have anD:=h.sorted;obtain⟨m,hP,OD,wR⟩:=ag3 f day;have hlen:=hP.len;have O5:k<m:=by omega
 have O3:k<f.signs.length:=by have:=hP.le;omega
 have AT:(bf f day).signs[k]=f.signs[k]:=by
  have h1:(bf f day).signs.getD k default=f.signs.getD k default:=by rw[hP.signs];exact atP _ O5
  simpa [hk,O3] using h1
 have cP:(k:Int)∈(jL f x.part x.day).signs↔k∈jP f x.part x.day:=by
  simp only[rA,aq,decide_eq_true_eq] at hh
  have xh:∀y,y∈fZ f x.part x.day→0≤y.1:=fun y hy=>by
   unfold fZ at hy;obtain⟨i,_,rfl⟩:=dJ.1 hy;simp
  have anz:(jL f x.part x.day).signs=(jP f x.part x.day).map fun(i:Nat)=>(i:Int):=by
   have:=XI (oh x.day f.acts) (fZ f x.part x.day) (lD f) xh hh.2;unfold jL;rw[this];simp[lD,fZ]
  rw[anz,dJ];constructor
  ·rintro⟨j,hj,e⟩;have:j=k:=by omega
   exact this▸hj
  ·intro hi;exact⟨k,hi,rfl⟩
 have AD:k∈jP f x.part x.day↔(f.signs[k].kind=2∧f.signs[k].part=x.part)∧f.signs[k].day≤x.day∧jE f.acts k x.day=false:=by
  unfold jP;rw[dj,bY];have hg:f.signs.getD k default=f.signs[k]:=by simp[O3]
  unfold tK;rw[hg];simp[O3,and_assoc]
 have anK:jE f.acts k x.day=true→jE (bf f day).acts k day=true:=fun hs=>by
  unfold jE at hs ⊢;obtain⟨a,ha,hs⟩:=nY.1 hs;simp[qN] at hs;refine nY.2 ⟨a,?_,by simp[qN];omega⟩;obtain⟨n,hn,e,aP,dD⟩:=Cg (fun s:Act=>decide (s.day≤day)) f.acts;have e':(bf f day).acts=f.acts.take n:=e;obtain⟨j,hj,rfl⟩:=kf ha;rw[e'];refine WW.2 ⟨j,?_,rfl⟩;refine v7 fun hc=>?_;have mw:n<f.acts.length:=by omega
  have h1:=dD mw;have h2:f.acts[n].day≤f.acts[j].day:=by
   by_cases e2:n=j
   ·subst e2;exact m4 _
   ·exact agn.1 anD.acts n j mw hj (by omega)
  simp at h1;omega
 rw[AT] at PK ⊢;by_cases hc:(f.signs[k].kind=2∧f.signs[k].part=x.part)∧x.day<f.signs[k].day
 ·rw[if_pos hc];cases hb:pf (bf f day) x (jL f x.part x.day).signs day k
  ·rw[if_neg (by decide)];refine ai5 ?_;show l5 (bf f day) k day=true;rw[LZ];have hi:ay (k:Int) (bf f day).signs.length=true:=by simp[ay];omega
   rw[hi,qU];cases hsA:jE (bf f day).acts k day
   ·have:¬(k:Int)∈(jL f x.part x.day).signs:=fun hm=>by
      have:=(AD.1 (cP.1 hm)).2.1;omega
    rw[PK.2 ⟨hc.1,this,hsA⟩] at hb;cases hb
   ·rfl
  ·rw[if_pos rfl]
 ·rw[if_neg hc];cases hb:pf (bf f day) x (jL f x.part x.day).signs day k
  ·rw[if_neg (by decide)]
  ·exfalso;obtain⟨h1,h2,h3⟩:=PK.1 hb;have h4:f.signs[k].day≤x.day:=by
     refine v7 fun fi=>hc ⟨h1,by omega⟩
   refine h2 (cP.2 (AD.2 ⟨h1,h4,?_⟩));cases hq:jE f.acts k x.day
   ·rfl
   ·rw[anK hq] at h3;cases h3
set_option maxRecDepth 10000 in
theorem agp (r:Realm)(hr:r.OK)(forum other:Int)(f:File)(DO:f.OK)(x:Lost)(hx:x.OK)(day:Int)(hd:aQ day):
 ao T 6 [aW r,.int forum,.int other,aZ f,fe x,.int day] (.bool true):=by
 refine .of_tree rfl (lA 0 (by kernel_rfl)) auB ?_;simp[Uj];refine⟨_,aoA,_,aor r f x hr,?_⟩;cases hg:DL r f x
 ·simp
 obtain⟨e,L,hl⟩:=aqb hr DO hg;have G:=L.good;have hsm:=G.rightD.small;simp;refine⟨_,aba r G.right (by have:=hsm.firms;omega) forum f G.few x hx e L.check (by omega) day,?_⟩;by_cases hc:100000<day∨kc r forum f x e day≠1
 ·have:kR r forum f x e day=(zF,7):=by unfold kR;rw[if_pos hc]
  simp[this]
 have D0:kc r forum f x e day=1∧day≤100000:=by
  simp only[not_or,WH] at hc;exact⟨hc.2,by omega⟩
 by_cases hn:100<(fX r f x day).acts.length
 ·have:kR r forum f x e day=(zF,6):=by unfold kR;rw[if_neg hc,if_pos hn]
  simp[this]
 have alH:kR r forum f x e day=(fX r f x day,0):=by unfold kR;rw[if_neg hc,if_neg hn]
 obtain⟨hE,hxd,amm⟩:=afv D0.1;obtain⟨Zm,ns,nj,_,_,AA⟩:=aoM.1 hE;have hP:=L.ok Zm;have nk:=G.few.at_ day;have hfg:FewS (fX r f x day):=⟨nk.signs,nk.alters,by omega,nk.facts⟩
 have Oy:=Gn f day (by have:=G.few.signs;omega) (by have:=G.few.acts;omega) (by have:=G.few.alters;omega) (by have:=G.few.facts;omega);have e1:=WI r G.right G.rightD other f day G.few;have e2:=WI r G.right G.rightD other (fX r f x day) day hfg;have l1:=X7 r other f day;have l2:(lF r other (fX r f x day) day).length=(bf f day).signs.length:=by
  rw[X7];rw[(TI r f x day).at_ (m4 _)];rfl
 have rC:∀k (hk:k<(bf f day).signs.length) (h1:k<(lF r other f day).length) (h2:k<(lF r other (fX r f x day) day).length),(lF r other (fX r f x day) day)[k]=if((bf f day).signs[k].kind=2∧(bf f day).signs[k].part=x.part)∧x.day<(bf f day).signs[k].day then {(lF r other f day)[k] with binds:=0} else(lF r other f day)[k]:=fun k hk h1 h2=>by
  rw[X6,X6];exact ahj other hP hxd amm k hk
 have ib:=asl (bf f day) (by have:=nk.signs;omega) (by have:=nk.alters;omega) (by have:=nk.acts;omega) (by have:=nk.facts;omega);have YY:(bf f day).acts.length≤(fX r f x day).acts.length:=by simp[fX]
 have aAX:D.agg (bZ (aZ (fX r f x day)).cells 17 [acts (bf f day).acts])=aZ (bf f day):=by
  rfl
 have hsl:=nk.signs;simp[alH];refine⟨_,Oy,_,e1,_,e2,?_⟩;simp[bZ];refine⟨_,ib,?_⟩;simp[l1,l2,YY];generalize hA:lF r other f day=A at*;generalize hB:lF r other (fX r f x day) day=B at*;refine aN.scan A.length (fun _=>True) (fun k=>[.bool false,.int k]) (fun _=>[]) ?_ (fun k hk hj ho=>?_) (fun k hk hj ho=>absurd trivial ho) (fun hj=>?_)
 ·simp
 ·have hw:=bk hk (by omega);have ZF:k<(bf f day).signs.length:=by omega
  have JC:k<B.length:=by omega
  have uW:=rC k ZF hk JC;simp[aet,Ld,hk,hw,ZF,JC,bZ,wG];by_cases fi:((bf f day).signs[k].kind=2∧(bf f day).signs[k].part=x.part)∧x.day<(bf f day).signs[k].day
  ·rw[if_pos fi] at uW;simp[uW,fi]
   repeat' apply And.intro
   all_goals rfl
  ·rw[if_neg fi] at uW;simp[uW,fi]
 ·simp[aet,Ld,wG]
end Rm
