/-
  Shared texts of this claim.
-/
import Derived.Test.YtodhjdbleiakeaaGreatDoorNAD
import Derived.RangeFuncRecord
set_option linter.unusedSimpArgs false
set_option linter.unusedVariables false
namespace Cx
open Go Go.RowKit
def fc (S:St):Sh→Sh
 |.none=>.none
 |.dat t=>.dat t
 |.obj j ver=>bif Nat.beq ver (S.ver j) then .obj j 0 else .none
 |.ptr j ver off=>bif Nat.beq ver (S.ver j) then .ptr j 0 off else .none
 |.eptr j ver size off=>bif Nat.beq ver (S.ver j) then .eptr j 0 size off else .none
 |.opt _ _=>.none
 |.yv=>.yv
 |.fclo f caps=>bif caps.all (fun c=>Nat.beq c.2 (S.ver c.1)) then .fclo f (caps.map fun c=>(c.1,0)) else .none
def gR (S:St):Ob→Ob
 |.box ag shs=>.box ag (shs.map (fc S))
 |ob=>ob
def St.norm (S:St):St:=⟨fun t=>fc S (S.r t),fun j=>gR S (S.o j),fun _=>0⟩
def iW:Sh→Sh→Sh
 |.dat a,.dat b=>bif Ty.sub a b then .dat b else bif Ty.sub b a then .dat a else .none
 |.obj j v,.obj k u=>bif Nat.beq j k&&Nat.beq v u then .obj j v else .none
 |.ptr j v o,.ptr k u p=>bif Nat.beq j k&&Nat.beq v u&&Nat.beq o p then .ptr j v o else .none
 |.eptr j v s o,.eptr k u t p=>bif Nat.beq j k&&Nat.beq v u&&Nat.beq s t&&Nat.beq o p then .eptr j v s o else .none
 |.yv,.yv=>.yv
 |.fclo f a,.fclo g b=>bif Nat.beq f g&&uW a b then .fclo f a else .none
 |_,_=>.none
def v7:List Sh→List Sh→Option (List Sh)
 |[],[]=>some []
 |a::aa,b::bs=>(v7 aa bs).map (iW a b::·)
 |_,_=>none
def mO:Ob→Ob→Ob
 |.fz a,.fz b=>bif Ty.beq a b then .fz a else .dead
 |.fbox a,.fbox b=>bif Ty.beq a b then .fbox a else .dead
 |.box ag aa,.box bg bs=>bif ag==bg then(match v7 aa bs with|some cs=>.box ag cs|none=>.dead) else .dead
 |.row T e,.row U f=>bif Nat.beq T U&&Ty.beq e f then .row T e else .dead
 |.mp k e,.mp l f=>bif Ty.beq k l&&Ty.beq e f then .mp k e else .dead
 |.it k e,.it l f=>bif Ty.beq k l&&Ty.beq e f then .it k e else .dead
 |.tr,.tr=>.tr
 |_,_=>.dead
section
variable {C:Ctx} {S:St} {ρ:Env} {σ:Im} {own:Nat→Option Nat} {hv:Nat→Value} {w0:World} {σ0:Base} {A:Nat→Prop} {a:Act} {w:World} {gs:List (Nat×Bool)} {Φ:aT} {dst:Nat}
theorem I1 {s:Sh}{v:Value}{d:D}(h:aQ C S ρ σ hv s v d):aQ C S.norm ρ σ hv (fc S s) v d∧∀gs s',fc S s≠.opt gs s':=by
 cases s with
 |none=>exact⟨trivial,fun _ _ e=>by cases e⟩
 |dat t=>exact⟨h,fun _ _ e=>by cases e⟩
 |obj j ver=>
  simp only[fc];cases hb:Nat.beq ver (S.ver j)
  ·exact⟨trivial,fun _ _ e=>by cases e⟩
  ·exact⟨⟨bk _,fun _=>h.2 (aL hb)⟩,fun _ _ e=>by cases e⟩
 |ptr j ver off=>
  simp only[fc];cases hb:Nat.beq ver (S.ver j)
  ·exact⟨trivial,fun _ _ e=>by cases e⟩
  ·exact⟨⟨bk _,fun _=>h.2 (aL hb)⟩,fun _ _ e=>by cases e⟩
 |eptr j ver size off=>
  simp only[fc];cases hb:Nat.beq ver (S.ver j)
  ·exact⟨trivial,fun _ _ e=>by cases e⟩
  ·exact⟨⟨bk _,fun _=>h.2 (aL hb)⟩,fun _ _ e=>by cases e⟩
 |opt gs s=>exact⟨trivial,fun _ _ e=>by cases e⟩
 |yv=>exact⟨h,fun _ _ e=>by cases e⟩
 |fclo f caps=>
  simp only[fc];cases hb:caps.all (fun c=>Nat.beq c.2 (S.ver c.1))
  ·exact⟨trivial,fun _ _ e=>by cases e⟩
  ·refine⟨?_,fun _ _ e=>by cases e⟩;obtain⟨vs,h1,h2,h3⟩:=h;refine⟨vs,h1,by simpa using h2,fun i j ver hi=>?_⟩;simp only[cU,aH] at hi;obtain⟨⟨j',v'⟩,hc,e⟩:=hi;cases e;have:=bL.1 hb _ (mg hc);exact⟨bk _,fun _=>(h3 i _ _ hc).2 (aL this)⟩
theorem Inv.weaken (h:Inv C S ρ σ own hv w0 σ0 A a w){S':St}{ρ':Env}(hr:∀t,aQ C S' ρ' σ hv (S'.r t) (a.tmps.getD t undef) (ρ'.r t))(ho:∀j,cl C S' ρ' σ own hv w w0.heap.size j (S'.o j))
 (hn:∀t gs s,S'.r t≠.opt gs s) (ht:∀j,S'.o j=.tr→S.o j=.tr∧ρ'.o j=ρ.o j):Inv C S' ρ' σ own hv w0 σ0 (fun _=>False) a w:=
 ⟨h.defers,h.ok,h.le,h.old,h.newc,h.newm,h.below,h.bw,h.owns,hr,ho,fun t gs s e=>absurd e (hn t gs s),by
   obtain⟨t,fx,cx,h1,h5⟩:=h.frame;exact⟨t,fx,cx,h1,fun j hj=>by rw[(ht j hj).2];exact h5 j (ht j hj).1⟩⟩
theorem aeh {ob:Ob}(h:gR S ob=.tr):ob=.tr:=by
 cases ob<;>simp only[gR] at h<;>first|rfl|cases h
theorem ayn {x y:Ob}(h:mO x y=.tr):x=.tr∧y=.tr:=by
 cases x<;>cases y<;>simp only[mO] at h<;>first
  |exact⟨rfl,rfl⟩
  |(cases h;done)
  |skip
 ·rename_i a b;cases hb:Ty.beq a b<;>rw[hb] at h<;>cases h
 ·rename_i a b;cases hb:Ty.beq a b<;>rw[hb] at h<;>cases h
 ·rename_i ag aa bg bs;cases hb:ag==bg<;>rw[hb] at h
  ·cases h
  ·simp only[cond_true] at h;split at h<;>cases h
 ·rename_i T e U f;cases hb:(Nat.beq T U&&Ty.beq e f)<;>rw[hb] at h<;>cases h
 ·rename_i T e U f;cases hb:(Ty.beq T U&&Ty.beq e f)<;>rw[hb] at h<;>cases h
 ·rename_i T e U f;cases hb:(Ty.beq T U&&Ty.beq e f)<;>rw[hb] at h<;>cases h
theorem Inv.norm (h:Inv C S ρ σ own hv w0 σ0 A a w):Inv C S.norm ρ σ own hv w0 σ0 (fun _=>False) a w:=by
 refine h.weaken (fun t=>(I1 (h.regs t)).1) (fun j=>?_) (fun t=>(I1 (h.regs t)).2) (fun j hj=>⟨aeh hj,rfl⟩);have bq:=h.objs j;show cl C S.norm ρ σ own hv w w0.heap.size j (gR S (S.o j));cases cJ:S.o j with
 |box ag shs=>
  rw[cJ] at bq;obtain⟨k,cs,T,ds,h1,h2,h3,h4,h5,h6,h7⟩:=bq;refine⟨k,cs,T,ds,h1,h2,h3,by simpa using h4,h5,by simpa using h6,fun i s hi=>?_⟩;simp only[cU,aH] at hi;obtain⟨s0,hs0,rfl⟩:=hi;have:=I1 (h7 i s0 hs0).2;exact⟨this.2,this.1⟩
 |_=>rw[cJ] at bq;exact bq
theorem F1 {b:Bool}{s:Sh}{v:Value}{d:D}(hs:∀gs s',s≠.opt gs s')(h:b=true→aQ C S ρ σ hv s v d):aQ C S ρ σ hv (bif b then s else .none) v d∧∀gs s',(bif b then s else Sh.none)≠.opt gs s':=by
 cases b with
 |true=>exact⟨h rfl,hs⟩
 |false=>exact⟨trivial,fun _ _ e=>by cases e⟩
theorem acs {s u:Sh}{v:Value}{d:D}(h:aQ C S ρ σ hv s v d):aQ C S ρ σ hv (iW s u) v d∧∀gs s',iW s u≠.opt gs s':=by
 cases s<;>cases u<;>simp only[iW]<;>first
  |exact⟨trivial,fun _ _ e=>by cases e⟩
  |exact F1 (fun _ _ e=>by cases e) (fun _=>h)
  |exact⟨h,fun _ _ e=>by cases e⟩
  |skip
 rename_i a b;cases h1:Ty.sub a b
 ·exact F1 (fun _ _ e=>by cases e) (fun _=>h)
 ·exact⟨Rep.sub h h1,fun _ _ e=>by cases e⟩
theorem acu {s u:Sh}{v:Value}{d:D}(h:aQ C S ρ σ hv u v d):aQ C S ρ σ hv (iW s u) v d∧∀gs s',iW s u≠.opt gs s':=by
 cases s<;>cases u<;>simp only[iW]<;>first
  |exact⟨trivial,fun _ _ e=>by cases e⟩
  |exact⟨h,fun _ _ e=>by cases e⟩
  |skip
 ·rename_i a b;cases h1:Ty.sub a b
  ·exact F1 (fun _ _ e=>by cases e) (fun h2=>Rep.sub h h2)
  ·exact⟨h,fun _ _ e=>by cases e⟩
 all_goals
  refine F1 (fun _ _ e=>by cases e) (fun hb=>?_);simp only[ar] at hb
  first
   |(obtain⟨⟨⟨h1,h2⟩,h3⟩,h4⟩:=hb;rw[aL h1,aL h2,aL h3,aL h4];exact h)
   |(obtain⟨⟨h1,h2⟩,h3⟩:=hb;rw[aL h1,aL h2,aL h3];exact h)
   |(obtain⟨h1,h2⟩:=hb;rw[aL h1,aL h2];exact h)
   |(obtain⟨h1,h2⟩:=hb;rw[aL h1,N7 _ _ h2];exact h)
theorem Rn:∀(aa bs cs:List Sh),v7 aa bs=some cs→cs.length=aa.length∧cs.length=bs.length∧∀(i:Nat) (c:Sh),cs[i]?=some c→∃x y,aa[i]?=some x∧bs[i]?=some y∧c=iW x y
 |[],[],cs,h=>by simp[v7] at h;subst h;simp
 |[],b::bs,cs,h=>by simp[v7] at h
 |a::aa,[],cs,h=>by simp[v7] at h
 |a::aa,b::bs,cs,h=>by
  simp only[v7,aH] at h;obtain⟨ds,hd,rfl⟩:=h;obtain⟨h1,h2,h3⟩:=Rn aa bs ds hd;refine⟨by simp[h1],by simp[h2],fun i c hi=>?_⟩;cases i with
  |zero=>simp at hi;exact⟨a,b,rfl,rfl,hi.symm⟩
  |succ i=>simp at hi;simpa using h3 i c hi
theorem ayl {j B:Nat}{x y:Ob}(h:cl C S ρ σ own hv w B j x):cl C S ρ σ own hv w B j (mO x y):=by
 cases x<;>cases y<;>simp only[mO]<;>first
  |trivial
  |(rename_i a b;cases Ty.beq a b;·trivial
    ·exact h)
  |skip
 ·rename_i ag aa bg bs;cases ag==bg
  ·trivial
  ·simp only[cond_true];split
   ·rename_i cs eT;obtain⟨l1,l2,tj⟩:=Rn aa bs cs eT;obtain⟨k,cells,T,ds,h1,h2,h3,h4,h5,h6,h7⟩:=h;refine⟨k,cells,T,ds,h1,h2,h3,by omega,h5,by omega,fun i s hi=>?_⟩;obtain⟨x,y,hx,hy,rfl⟩:=tj i s hi;have:=acs (u:=y) (h7 i x hx).2;exact⟨this.2,this.1⟩
   ·trivial
 ·rename_i T e U f;cases Nat.beq T U&&Ty.beq e f
  ·trivial
  ·exact h
 ·rename_i T e U f;cases Ty.beq T U&&Ty.beq e f
  ·trivial
  ·exact h
 ·rename_i T e U f;cases Ty.beq T U&&Ty.beq e f
  ·trivial
  ·exact h
theorem aym {j B:Nat}{x y:Ob}(h:cl C S ρ σ own hv w B j y):cl C S ρ σ own hv w B j (mO x y):=by
 cases x<;>cases y<;>simp only[mO]<;>first
  |trivial
  |skip
 ·rename_i a b;cases hb:Ty.beq a b
  ·trivial
  ·rw[Ty.beq_eq _ _ hb];exact h
 ·rename_i a b;cases hb:Ty.beq a b
  ·trivial
  ·rw[Ty.beq_eq _ _ hb];exact h
 ·rename_i ag aa bg bs;cases ag==bg
  ·trivial
  ·simp only[cond_true];split
   ·rename_i cs eT;obtain⟨l1,l2,tj⟩:=Rn aa bs cs eT;obtain⟨k,cells,T,ds,h1,h2,h3,h4,h5,h6,h7⟩:=h;refine⟨k,cells,T,ds,h1,h2,h3,by omega,h5,by omega,fun i s hi=>?_⟩;obtain⟨x,y,hx,hy,rfl⟩:=tj i s hi;have:=acu (s:=x) (h7 i y hy).2;exact⟨this.2,this.1⟩
   ·trivial
 ·rename_i T e U f;cases hb:(Nat.beq T U&&Ty.beq e f)
  ·trivial
  ·simp only[ar] at hb;rw[aL hb.1,Ty.beq_eq _ _ hb.2];exact h
 ·rename_i T e U f;cases hb:(Ty.beq T U&&Ty.beq e f)
  ·trivial
  ·simp only[ar] at hb;rw[Ty.beq_eq _ _ hb.1,Ty.beq_eq _ _ hb.2];exact h
 ·rename_i T e U f;cases hb:(Ty.beq T U&&Ty.beq e f)
  ·trivial
  ·simp only[ar] at hb;rw[Ty.beq_eq _ _ hb.1,Ty.beq_eq _ _ hb.2];exact h
end
end Cx
namespace Cx
open Go Go.RowKit
section
variable {C:Ctx} {S T:St} {ρ ρ':Env} {σ:Im} {own:Nat→Option Nat} {hv:Nat→Value} {w0:World} {σ0:Base} {A:Nat→Prop} {a:Act} {w:World} {gs:List (Nat×Bool)} {Φ:aT} {dst:Nat}
theorem Inv.env (h:Inv C S ρ σ own hv w0 σ0 (fun _=>False) a w)(hn:∀t gs s,S.r t≠.opt gs s)(hr:∀t,isNone (S.r t)=false→ρ'.r t=ρ.r t)(ho:∀j,nI (S.o j)=false→ρ'.o j=ρ.o j):
 Inv C S ρ' σ own hv w0 σ0 (fun _=>False) a w:=by
 refine h.weaken (fun t=>?_) (fun j=>?_) hn (fun j hj=>⟨hj,ho j (by rw[hj];rfl)⟩)
 ·cases hs:isNone (S.r t) with
  |true=>cases hc:S.r t<;>rw[hc] at hs<;>simp[isNone] at hs;trivial
  |false=>
   rw[hr t hs];exact aQ.mono' (.refl σ) (.refl S hv) (hn t) (h.regs t)
 ·cases hs:nI (S.o j) with
  |true=>cases hc:S.o j<;>rw[hc] at hs<;>simp[nI] at hs;trivial
  |false=>exact(h.objs j).mono (.refl σ) (.refl S hv) rfl (ho j hs) (fun k hk=>⟨hk,rfl⟩)
end
end Cx
namespace Cx
open Go Go.RowKit
structure Snap where
 rs:List Sh
 os:List Ob
 deriving Inhabited
def dh:List Nat→List Ob→Nat→Ob
 |i::is,o::os,j=>bif Nat.beq i j then o else dh is os j
 |_,_,_=>.dead
def cu:Sh→Sh
 |.opt _ _=>.none
 |s=>s
def Snap.st (ids:List Nat)(s:Snap):St:=⟨fun t=>cu (s.rs.getD t .none),fun j=>dh ids s.os j,fun _=>0⟩
def St.snap (n:Nat)(ids:List Nat)(S:St):Snap:=⟨(List.range n).map fun t=>fc S (S.r t),ids.map fun j=>gR S (S.o j)⟩
def Snap.beq (a b:Snap):Bool:=wS a.rs b.rs&&yU a.os b.os
theorem Snap.beq_eq (a b:Snap)(h:a.beq b=true):a=b:=by
 cases a;cases b;simp only[Snap.beq,ar] at h;rw[UA _ _ h.1,aen _ _ h.2]
def Snap.meet (a b:Snap):Snap:=⟨List.zipWith iW a.rs b.rs,List.zipWith mO a.os b.os⟩
theorem aD7 (s:Sh):∀gs s',cu s≠.opt gs s':=by
 intro gs s' e;cases s<;>simp[cu] at e
theorem Snap.noOpt (ids:List Nat)(s:Snap):∀t gs s',(s.st ids).r t≠.opt gs s':=fun t=>aD7 _
section
variable {C:Ctx} {S:St} {ρ:Env} {σ:Im} {own:Nat→Option Nat} {hv:Nat→Value} {w0:World} {σ0:Base} {A:Nat→Prop} {a:Act} {w:World} {n:Nat} {ids:List Nat}
theorem vX (f:Nat→Ob)(P:Ob→Prop)(hd:P .dead)(j:Nat)(hf:P (f j)):∀ids:List Nat,P (dh ids (ids.map f) j)
 |[]=>hd
 |i::is=>by
  simp only[gE,dh];cases hb:Nat.beq i j
  ·exact vX f P hd j hf is
  ·rw[aL hb];exact hf
theorem MS {s:Sh}{v:Value}{d:D}(h:aQ C S ρ σ hv s v d):aQ C S ρ σ hv (cu s) v d:=by
 cases s<;>first|exact h|trivial
theorem Inv.snap (h:Inv C S ρ σ own hv w0 σ0 A a w)(n:Nat)(ids:List Nat):Inv C ((S.snap n ids).st ids) ρ σ own hv w0 σ0 (fun _=>False) a w:=by
 have h1:=h.norm;have hc:Compat S.norm hv ((S.snap n ids).st ids) hv:=⟨fun _=>bk _,fun _ _=>rfl⟩
 refine h1.weaken (fun t=>?_) (fun j=>?_) (Snap.noOpt _ _) (fun j hj=>⟨vX (fun j=>gR S (S.o j)) (fun ob=>ob=.tr→gR S (S.o j)=.tr) (fun e=>by cases e) j id ids hj,rfl⟩)
 ·refine aQ.mono' (ρ:=ρ) (.refl σ) hc (Snap.noOpt _ _ t) ?_;show aQ C S.norm ρ σ hv (cu (((List.range n).map fun t=>fc S (S.r t)).getD t .none)) _ _;refine MS ?_;rw[aS,cU];by_cases ht:t<n
  ·rw[pR ht];exact h1.regs t
  ·rw[q9 (by simpa using ht)];trivial
 ·have ho:=(h1.objs j).mono (.refl σ) hc (w:=w) (w':=w) rfl rfl (fun k hk=>⟨hk,rfl⟩);exact vX (fun j=>gR S (S.o j)) (fun ob=>cl C _ ρ σ own hv w w0.heap.size j ob) trivial j ho ids
theorem MX {f:Sh→Sh→Sh}:∀(x y:List Sh) (t:Nat),(List.zipWith f x y).getD t .none=.none∨∃s u,x.getD t .none=s∧y.getD t .none=u∧(List.zipWith f x y).getD t .none=f s u
 |[],_,t=>.inl (by simp)
 |_::_,[],t=>.inl (by simp)
 |a::aa,b::bs,0=>.inr ⟨a,b,rfl,rfl,rfl⟩
 |a::aa,b::bs,t+1=>by simpa using MX (f:=f) aa bs t
theorem IG {f:Ob→Ob→Ob}:∀(ids:List Nat) (x y:List Ob) (j:Nat),dh ids (List.zipWith f x y) j=.dead∨dh ids (List.zipWith f x y) j=f (dh ids x j) (dh ids y j)
 |[],_,_,_=>.inl rfl
 |_::_,[],_,_=>.inl rfl
 |_::_,_::_,[],_=>.inl rfl
 |i::is,a::aa,b::bs,j=>by
  simp only[List.zipWith_cons_cons,dh];cases Nat.beq i j
  ·exact IG is aa bs j
  ·exact .inr rfl
theorem aD5 {s u:Sh}{v:Value}{d:D}(h:aQ C S ρ σ hv (cu s) v d):aQ C S ρ σ hv (cu (iW s u)) v d:=by
 cases hs:s with
 |opt gs s'=>cases u<;>simp[iW,cu,aQ]
 |_=>rw[hs] at h;exact MS (acs h).1
theorem aD6 {s u:Sh}{v:Value}{d:D}(h:aQ C S ρ σ hv (cu u) v d):aQ C S ρ σ hv (cu (iW s u)) v d:=by
 cases hs:u with
 |opt gs s'=>cases s<;>simp[iW,cu,aQ]
 |_=>rw[hs] at h;exact MS (acu h).1
theorem acv {x y:Snap}{j:Nat}(h:((x.meet y).st ids).o j=.tr):(x.st ids).o j=.tr∧(y.st ids).o j=.tr:=by
 change dh ids (List.zipWith mO x.os y.os) j=.tr at h;rcases IG (f:=mO) ids x.os y.os j with h0|h0
 ·rw[h0] at h;cases h
 ·rw[h0] at h;exact ayn h
theorem Snap.meet_ok1 {x y:Snap}(h:Inv C (x.st ids) ρ σ own hv w0 σ0 A a w):Inv C ((x.meet y).st ids) ρ σ own hv w0 σ0 (fun _=>False) a w:=by
 have hc:Compat (x.st ids) hv ((x.meet y).st ids) hv:=⟨fun _=>bk _,fun _ _=>rfl⟩
 refine h.weaken (fun t=>?_) (fun j=>?_) (Snap.noOpt _ _) (fun j hj=>⟨(acv hj).1,rfl⟩)
 ·refine aQ.mono' (ρ:=ρ) (.refl σ) hc (Snap.noOpt _ _ t) ?_;show aQ C (x.st ids) ρ σ hv (cu ((List.zipWith iW x.rs y.rs).getD t .none)) _ _;rcases MX (f:=iW) x.rs y.rs t with h0|⟨s,u,h1,h2,h3⟩
  ·rw[h0];trivial
  ·rw[h3];exact aD5 (by rw[←h1];exact h.regs t)
 ·refine cl.mono (S:=x.st ids) (ρ:=ρ) (own:=own) (hv:=hv) (.refl σ) hc (w:=w) rfl rfl (fun k hk=>⟨hk,rfl⟩) ?_;show cl C _ ρ σ own hv w w0.heap.size j (dh ids (List.zipWith mO x.os y.os) j);rcases IG (f:=mO) ids x.os y.os j with h0|h0
  ·rw[h0];trivial
  ·rw[h0];exact ayl (h.objs j)
theorem Snap.meet_ok2 {x y:Snap}(h:Inv C (y.st ids) ρ σ own hv w0 σ0 A a w):Inv C ((x.meet y).st ids) ρ σ own hv w0 σ0 (fun _=>False) a w:=by
 have hc:Compat (y.st ids) hv ((x.meet y).st ids) hv:=⟨fun _=>bk _,fun _ _=>rfl⟩
 refine h.weaken (fun t=>?_) (fun j=>?_) (Snap.noOpt _ _) (fun j hj=>⟨(acv hj).2,rfl⟩)
 ·refine aQ.mono' (ρ:=ρ) (.refl σ) hc (Snap.noOpt _ _ t) ?_;show aQ C (y.st ids) ρ σ hv (cu ((List.zipWith iW x.rs y.rs).getD t .none)) _ _;rcases MX (f:=iW) x.rs y.rs t with h0|⟨s,u,h1,h2,h3⟩
  ·rw[h0];trivial
  ·rw[h3];exact aD6 (by rw[←h2];exact h.regs t)
 ·refine cl.mono (S:=y.st ids) (ρ:=ρ) (own:=own) (hv:=hv) (.refl σ) hc (w:=w) rfl rfl (fun k hk=>⟨hk,rfl⟩) ?_;show cl C _ ρ σ own hv w w0.heap.size j (dh ids (List.zipWith mO x.os y.os) j);rcases IG (f:=mO) ids x.os y.os j with h0|h0
  ·rw[h0];trivial
  ·rw[h0];exact aym (h.objs j)
end
end Cx
namespace Cx
open Go Go.RowKit
def tO (C:Ctx)(S:St)(T:TypeId)(x:Operand):List Nat:=
 match gj S [] x,oY C.P T,C.P.info? T with
 |.ptr j _ off,some true,some inf=>(match S.o j with|.box _ shs=>AV ((shs.drop off).take inf.size)|_=>[])
 |_,_,_=>[]
def zO (C:Ctx)(S:St):ResultVar→Option (St×Ty×PE)
 |.tmp t=>(use C (S.fzs (cm S [] [.tmp t])) [] (.tmp t)).map fun x=>(S.fzs (cm S [] [.tmp t]),x.1,x.2)
 |.cell b T=>
  match tU C (S.fzs (tO C S T (.tmp b))) [] 0 T (.tmp b) with
  |some (.dat ty,[.setR 0 e])=>some (S.fzs (tO C S T (.tmp b)),ty,e)
  |some (.obj j ver,[.setR _ _])=>
   bif Nat.beq ver (((S.fzs (tO C S T (.tmp b))).fz j).ver j) then
    match((S.fzs (tO C S T (.tmp b))).fz j).o j with
    |.fz ty=>some ((S.fzs (tO C S T (.tmp b))).fz j,ty,.o j)
    |_=>none
   else none
  |_=>none
def su (C:Ctx):List ResultVar→St→Option (St×List Ty×List PE)
 |[],S=>some (S,[],[])
 |x::xs,S=>(zO C S x).bind fun r=>(su C xs r.1).map fun q=>(q.1,r.2.1::q.2.1,r.2.2::q.2.2)
def ahb (C:Ctx)(fn:Func)(S:St)(res:Ty):Option PE:=
 (su C fn.results.toList S).bind fun r=>
    match r.2.1,r.2.2 with
    |[ty],[e]=>bif Ty.sub ty res then some e else none
    |fg,es=>bif Ty.sub (.tup fg) res then some (.tup es) else none
def ahd (C:Ctx)(fn:Func)(S:St)(T:TypeId)(e:Ty):Option PE:=
 match fn.results.toList with
 |[.tmp t]=>
  match kL S [] t with
  |.obj j ver=>bif Nat.beq ver (S.ver j) then(match S.o j with|.row U f=>bif Nat.beq U T&&Ty.beq f e then some (.o j) else none|_=>none) else none
  |_=>none
 |[.cell b U]=>
  match tU C S [] 0 U (.tmp b) with
  |some (.obj j ver,[.setR _ _])=>bif Nat.beq ver (S.ver j) then(match S.o j with|.row U f=>bif Nat.beq U T&&Ty.beq f e then some (.o j) else none|_=>none) else none
  |_=>none
 |_=>none
def IC (S:St):Nat→List Sh→Bool
 |_,[]=>true
 |t,s::l=>rZ s&&((mI s||isNone s||Sh.beq (S.r t) s)&&IC S (t+1) l)
def QD (S:St)(shs:List Sh)(obs:List (Nat×Ob)):Bool:=IC S 0 shs&&obs.all fun x=>Ob.beq (S.o x.1) x.2
def Uo (fg:List Ty)(es:List PE)(res:Ty):Option PE:=
 match fg,es with
 |[ty],[e]=>bif Ty.sub ty res then some e else none
 |fg,es=>bif Ty.sub (.tup fg) res then some (.tup es) else none
def ahc (C:Ctx)(fn:Func)(S:St)(res:Ty)(shs:List Sh)(obs:List (Nat×Ob)):Option PE:=
 (su C fn.results.toList S).bind fun r=>bif QD r.1 shs obs then(Uo r.2.1 r.2.2 res).map fun e=>.tup (e::obs.map fun x=>.o x.1) else none
def wO (C:Ctx)(fn:Func)(s:Sig)(S:St):Option PE:=
 match s.mode with
 |.ob shs obs=>ahc C fn S s.res shs obs
 |.dat=>ahb C fn S s.res
 |.it J=>match fn.results.toList,S.o J with|[],.tr=>some (.o J)|_,_=>none
 |.row T e=>ahd C fn S T e
def Mp (P:Program)(tmps:Array Value)(w:World):ResultVar→Value→Prop
 |.tmp t,v=>v=tmps.getD t undef
 |.cell a T,v=>∃k,tmps.getD a undef=.pointer (some k)∧(loadVar T k).run P w=.ok v w
def Mq (P:Program)(tmps:Array Value)(w:World):List ResultVar→List Value→Prop
 |[],[]=>True
 |x::xs,v::vs=>Mp P tmps w x v∧Mq P tmps w xs vs
 |_,_=>False
def tT:List Value→Value
 |[v]=>v
 |vs=>.tuple vs.toArray
section
variable {C:Ctx} {S:St} {ρ:Env} {σ:Im} {own:Nat→Option Nat} {hv:Nat→Value} {w0:World} {σ0:Base} {A:Nat→Prop} {a:Act} {w:World} {gs:List (Nat×Bool)} {Φ:aT} {dst:Nat}
theorem acb {P:Program}{tmps:Array Value}{w:World}(f:ResultVar→Sem Value)(hf1:∀t,f (.tmp t)=pure (tmps.getD t undef))(hf2:∀b T,f (.cell b T)=(do loadVar T (←asAddr (tmps.getD b undef)))):
 ∀(l:List ResultVar) (vs:List Value),Mq P tmps w l vs→(l.mapM f).run P w=.ok vs w
 |[],[],_=>by simp[Sem.run_pure]
 |x::l,v::vs,h=>by
  obtain⟨hx,Qx⟩:=h;have ih:=acb f hf1 hf2 l vs Qx;rw[Xz];have h1:(f x).run P w=.ok v w:=by
   cases x with
   |tmp t=>rw[hf1];simp only[Mp] at hx;subst hx;simp[Sem.run_pure]
   |cell b T=>
    obtain⟨k,h1,h2⟩:=hx;rw[hf2,h1];simp[asAddr,h2]
  simp[Sem.run_bind,h1,ih,Sem.run_pure,Result.andThen_ok]
theorem Fa {P:Program}{fn:Func}{tmps:Array Value}{w:World}{vs:List Value}(h:Mq P tmps w fn.results.toList vs):
 (results fn tmps).run P w=.ok (tT vs) w:=by
 unfold results;rw[Array.mapM_eq_mapM_toList];simp only[Sem.run_bind];simp only[bind_map_left,map_eq_pure_bind,Sem.run_bind,bind_assoc,pure_bind];rw[acb (tmps:=tmps) _ (fun t=>rfl) (fun b T=>rfl) _ _ h];simp only[Result.andThen_ok,Sem.run_pure];rcases vs with _|⟨v,_|⟨u,vs⟩⟩<;>simp[Sem.run_pure,tT]
theorem Re {o:Oper}{T:TypeId}{b:Nat}{v:Value}(ho:o.op=.load T (.tmp b))(hx:(execOp a.eval o).run C.P w=.ok (.value v) w):Mp C.P a.tmps w (.cell b T) v:=by
 have he:a.eval (.tmp b)=a.tmps.getD b undef:=by simp[Act.eval]
 simp only[execOp,ho,Instr.loadAt,he] at hx;cases hp:a.tmps.getD b undef with
 |pointer p=>
  cases p with
  |none=>rw[hp] at hx;simp[Instr.sureAddr] at hx
  |some k=>
   rw[hp] at hx;refine⟨k,hp,?_⟩;simp[Instr.sureAddr] at hx;cases hr:(loadVar T k).run C.P w with
   |ok u w'=>rw[hr] at hx;simp at hx;rw[hx.1,hx.2]
   |halt u w'=>rw[hr] at hx;simp at hx
 |_=>rw[hp] at hx;simp[Instr.sureAddr] at hx
theorem aA0 (h:Inv C S ρ σ own hv w0 σ0 A a w)(hC:CtxOK C σ0){x:ResultVar}{r:St×Ty×PE}(hr:zO C S x=some r):
 ∃σ' own' v,σ.le σ'∧Inv C r.1 ρ σ' own' hv w0 σ0 A a w∧Mp C.P a.tmps w x v∧Rep C.cap σ' r.2.1 v (r.2.2.ev ρ):=by
 cases x with
 |tmp t=>
  simp only[zO,aH] at hr;obtain⟨y,hy,rfl⟩:=hr;obtain⟨σ1,dC,hle,h1⟩:=Inv.fzs (cm S [] [.tmp t]) h;refine⟨σ1,dC,a.tmps.getD t undef,hle,h1,rfl,?_⟩;have:=cg (gs:=[]) h1 hC rfl hy;simpa [Act.eval] using this
 |cell b T=>
  simp only[zO] at hr;obtain⟨σ1,dC,hle,h1⟩:=Inv.fzs (tO C S T (.tmp b)) h;generalize hS1:S.fzs (tO C S T (.tmp b))=S1 at hr h1
  let o:Oper:={(default:Oper) with op:=.load T (.tmp b)}
  split at hr
  ·rename_i ty e hl;cases hr;have hq:=Jj (Φ:=fun _ _=>none) (dst:=0) (gs:=[]) h1 hC rfl hl (o:=o) rfl;obtain⟨v,d,e1,e2,e3,e4⟩:=hq _ rfl;have hd:d=e.ev ρ:=by
        have:=congrArg (fun x:Env=>x.r 0) e1;simpa [Env.setR,aU] using this.symm
   subst hd;exact⟨σ1,dC,v,hle,h1,Re rfl e2,e3⟩
  ·rename_i j ver t0 e0 hl;have hq:=Jj (Φ:=fun _ _=>none) (dst:=0) (gs:=[]) h1 hC rfl hl (o:=o) rfl;obtain⟨v,d,e1,e2,e3,e4⟩:=hq _ rfl;cases hb:Nat.beq ver ((S1.fz j).ver j)<;>simp only[hb,cond_true,cond_false] at hr
   ·cases hr
   split at hr
   case h_2=>cases hr
   rename_i ty bm;cases hr;obtain⟨σ2,iu,lJ,h2⟩:=h1.fz j;refine⟨σ2,iu,v,hle.trans lJ,h2,Re rfl e2,?_⟩;have ho:=h2.objs j;rw[bm] at ho;have dS:ver=S1.ver j:=by rw[aL hb,(Hz S1 j).1]
   rw[e3.2 dS];exact ho.2
  ·cases hr
theorem Un (hC:CtxOK C σ0):∀(l:List ResultVar) {S:St} {σ:Im} {own:Nat→Option Nat} {r:St×List Ty×List PE},Inv C S ρ σ own hv w0 σ0 A a w→su C l S=some r→
 ∃σ' own' vs,σ.le σ'∧Inv C r.1 ρ σ' own' hv w0 σ0 A a w∧Mq C.P a.tmps w l vs∧vs.length=r.2.1.length∧r.2.2.length=r.2.1.length∧
  ∀(i:Nat) (t:Ty),r.2.1[i]?=some t→Rep C.cap σ' t (vs.getD i undef) ((PE.evs ρ r.2.2).getD i .none)
 |[],S,σ,own,r,h,hr=>by
  simp only[su,bf] at hr;subst hr;exact⟨σ,own,[],.refl σ,h,trivial,rfl,rfl,fun i t e=>by simp at e⟩
 |x::l,S,σ,own,r,h,hr=>by
  simp only[su,ax,aH] at hr;obtain⟨r1,h1,q,h2,rfl⟩:=hr;obtain⟨σ1,dC,v,hle,i1,hx,bU⟩:=aA0 h hC h1;obtain⟨σ2,iu,vs,lJ,i2,Qx,nC,rJ,mE⟩:=Un hC l i1 h2;refine⟨σ2,iu,v::vs,hle.trans lJ,i2,⟨hx,Qx⟩,by simp[nC],by simp[rJ],fun i t e=>?_⟩;cases i with
  |zero=>simp at e;subst e;simpa [PE.evs] using bU.mono lJ
  |succ i=>simp at e;simpa [PE.evs] using mE i t e
def FP (C:Ctx)(s:Sig)(σ:Im)(own:Nat→Option Nat)(w0 w:World)(tmps:Array Value)(d:D)(v:Value):Prop:=
 ∀shs obs,s.mode=.ob shs obs→∃hv dr os,d=.tup (dr::os)∧os.length=obs.length∧(∀k j,own k=some j→w0.heap.size≤k∧k<w.heap.size∧(∀o,σ.c k o=none)∧σ.m k=none)∧
  (∀(t:Nat) (sh:Sh),shs[t]?=some sh→mI sh=false→∀d,aQ C (fA shs obs) (lU obs [] os) σ hv sh (tmps.getD t undef) d)∧(∀j,cl C (fA shs obs) (lU obs [] os) σ own hv w w0.heap.size j (dT obs j))∧Rep C.cap σ s.res v dr
theorem FP.no {C:Ctx}{s:Sig}{σ:Im}{own:Nat→Option Nat}{w0 w:World}{tmps:Array Value}{d:D}{v:Value}(h:qx s.mode=false):FP C s σ own w0 w tmps d v:=fun shs obs e=>by rw[e] at h;cases h
def Ng (C:Ctx)(w0:World)(σ0:Base)(fn:Func)(s:Sig)(d:D)(a:Act)(w:World):Prop:=
 ∃v σ,(∃own t fx cx,FrOK σ own w0.heap.size σ0 w t fx cx∧(∀J,s.mode=.it J→d=t)∧FP C s σ own w0 w a.tmps d v)∧(results fn a.tmps).run C.P w=.ok v w∧σ0.le σ∧σ.ok w∧Below σ0.B w0 w∧
  (∀k o x,σ.c k o=some x→σ0.c k o=some x∨w0.heap.size≤k)∧(∀k x,σ.m k=some x→σ0.m k=some x∨w0.heap.size≤k)∧pV C s σ w0 w v d
theorem Inv.fr (h:Inv C S ρ σ own hv w0 σ0 A a w){s:Sig}{d:D}{v:Value}(hm:∀J,s.mode≠.it J)(ho:qx s.mode=false):∃own t fx cx,FrOK σ own w0.heap.size σ0 w t fx cx∧(∀J,s.mode=.it J→d=t)∧FP C s σ own w0 w a.tmps d v:=by
 obtain⟨t,fx,cx,h1,_⟩:=h.frame;exact⟨own,t,fx,cx,h1,fun J e=>absurd e (hm J),.no ho⟩
theorem aAZ {cap:Nat→Option CSig}{fg:List Ty}{es:List PE}{res:Ty}{pe:PE}{vs:List Value}(hr:Uo fg es res=some pe)(nC:vs.length=fg.length)(rJ:es.length=fg.length)
 (mE:∀(i:Nat) (t:Ty),fg[i]?=some t→Rep cap σ t (vs.getD i undef) ((PE.evs ρ es).getD i .none)):Rep cap σ res (tT vs) (pe.ev ρ):=by
 have many:fg.length≠1→(bif Ty.sub (.tup fg) res then some (PE.tup es) else none)=some pe→Rep cap σ res (tT vs) (pe.ev ρ):=by
  intro aB hr;cases hb:Ty.sub (.tup fg) res<;>simp only[hb,cond_true,cond_false] at hr
  ·cases hr
  cases hr;have cr:tT vs=Value.tuple vs.toArray:=by
   match vs,nC with
   |[],_=>rfl
   |[v],hl=>exact absurd hl.symm aB
   |_::_::_,_=>rfl
  rw[cr];exact Rep.sub (Rep.tup _ _ _ (by rw[nC]) (by rw[PE.evs_eq,ix,rJ]) mE) hb
 match fg,es,vs,nC,rJ,mE,many,hr with
 |[ty],[e],[v],_,_,mE,_,hr=>
  simp only[Uo] at hr;cases hb:Ty.sub ty res<;>simp only[hb,cond_true,cond_false] at hr
  ·cases hr
  cases hr;have:=mE 0 ty rfl;exact Rep.sub (by simpa [PE.evs,tT] using this) hb
 |[],[],_,_,_,_,many,hr=>exact many (by simp) hr
 |_::_::_,_::_::_,_,_,_,_,many,hr=>exact many (by simp) hr
theorem abL:∀{l:List Sh} {k:Nat},IC S k l=true→∀(t:Nat) (s:Sh),l[t]?=some s→mI s=false→rZ s=true∧(s=.none∨S.r (k+t)=s)
 |[],k,_,t,s,h,_=>by simp at h
 |x::l,k,hk,t,s,h,hd=>by
  simp only[IC,ar,gB] at hk;cases t with
  |zero=>
   simp at h;subst h;refine⟨hk.1,?_⟩;rcases hk.2.1 with(h1|h1)|h1
   ·rw[hd] at h1;cases h1
   ·left;cases x<;>first|rfl|cases h1
   ·exact .inr (Sh.beq_eq _ _ h1)
  |succ t=>
   simp at h;have:=abL hk.2.2 t s h hd
   rwa [uO,At 1 t] at this
theorem ab0:∀{obs:List (Nat×Ob)},(obs.all fun x=>Ob.beq (S.o x.1) x.2)=true→∀j,dT obs j=.dead∨(S.o j=dT obs j∧mN obs (obs.map fun x=>ρ.o x.1) j=ρ.o j)
 |[],_,j=>.inl rfl
 |x::obs,h,j=>by
  simp only[pP,ar] at h;simp only[dT,gE,mN];cases hb:Nat.beq x.1 j<;>simp only[cond_true,cond_false]
  ·exact ab0 h.2 j
  ·rw[←aL hb];exact .inr ⟨Ob.beq_eq _ _ h.1,rfl⟩
theorem aD3 {ty:Ty}{fg:List Ty}{es:List PE}(h:∀ty e,fg=[ty]→es=[e]→False)(hl:es.length=fg.length):fg.length≠1:=by
 intro h1
 match fg,es with
 |[ty],[e]=>exact h ty e rfl rfl
 |[],_=>simp at h1
 |_::_::_,_=>simp at h1
 |[_],[]=>simp at hl
 |[_],_::_::_=>simp at hl
theorem ahe (h:Inv C S ρ σ own hv w0 σ0 A a w){T:TypeId}{e:Ty}{j ver:Nat}{v:Value}{d:D}(hc:aQ C S ρ σ hv (.obj j ver) v d){pe:PE}
 (hr:(bif Nat.beq ver (S.ver j) then(match S.o j with|.row U f=>bif Nat.beq U T&&Ty.beq f e then some (PE.o j) else none|_=>none) else none)=some pe):
 ∃cells xs,pe.ev ρ=.list xs∧w.ownsRow w0.heap.size T e.size v xs.length cells∧gC C.cap σ e cells xs∧∀k,v.ownBlock=some k→(∀o,σ.c k o=none)∧σ.m k=none:=by
 cases hb:Nat.beq ver (S.ver j)<;>simp only[hb,cond_true,cond_false] at hr
 ·cases hr
 split at hr
 case h_2=>cases hr
 rename_i U f ho;cases dm:Nat.beq U T&&Ty.beq f e<;>simp only[dm,cond_true,cond_false] at hr
 ·cases hr
 cases hr;simp only[ar] at dm;have hU:=aL dm.1;have hf:=Ty.beq_eq _ _ dm.2;subst hU hf;have hj:=h.objs j;rw[ho] at hj;obtain⟨cells,xs,h1,h2,h3,h4⟩:=hj;have hv':=hc.2 (aL hb);subst hv';exact⟨cells,xs,h1,h2,h3,fun k hk=>(h.owns k j (h4 k hk)).2.2⟩
theorem aha:∀(l:List ResultVar) {S:St} {r:St×List Ty×List PE},su C l S=some r→r.1.ver=S.ver
 |[],S,r,h=>by simp only[su,bf] at h;subst h;rfl
 |x::l,S,r,h=>by
  simp only[su,ax,aH] at h;obtain⟨r1,h1,q,h2,rfl⟩:=h;rw[aha l h2];cases x with
  |tmp t=>
   simp only[zO,aH] at h1;obtain⟨y,_,rfl⟩:=h1;exact(qj _ _).1
  |cell b T=>
   simp only[zO] at h1;split at h1
   ·cases h1;exact(qj _ _).1
   ·rename_i j ver t0 e0 _;cases hb:Nat.beq ver (((S.fzs (tO C S T (.tmp b))).fz j).ver j)<;>simp only[hb,cond_true,cond_false] at h1
    ·cases h1
    ·split at h1
     ·cases h1;rw[(Hz _ _).1];exact(qj _ _).1
     ·cases h1
   ·cases h1
theorem aA1 (h:Inv C S ρ σ own hv w0 σ0 A a w)(hC:CtxOK C σ0)(dS:∀j,S.ver j=0){fn:Func}{s:Sig}{pe:PE}(hr:wO C fn s S=some pe):Ng C w0 σ0 fn s (pe.ev ρ) a w:=by
 unfold wO at hr;split at hr
 ·rename_i shs obs hm;simp only[ahc,ax] at hr;obtain⟨r,aV,hr⟩:=hr;obtain⟨σ1,dC,vs,hle,h1,vG,nC,rJ,mE⟩:=Un hC _ h aV;cases hb:QD r.1 shs obs<;>simp only[hb,cond_true,cond_false] at hr
  ·cases hr
  simp only[aH] at hr;obtain⟨e,he,rfl⟩:=hr;simp only[QD,ar] at hb;have bU:=aAZ he nC rJ mE;obtain⟨t,fx,cx,hf,_⟩:=h1.frame;have tc:Compat r.1 hv (fA shs obs) hv:=⟨fun j=>by rw[aha _ aV,dS];exact oA _,fun _ _=>rfl⟩
  have PY:(PE.evs ρ (e::obs.map fun x=>.o x.1))=e.ev ρ::obs.map (fun x=>ρ.o x.1):=by simp[PE.evs_eq,FE,PE.ev]
  refine⟨_,σ1,⟨dC,t,fx,cx,hf,(fun J e=>by rw[hm] at e;cases e),fun Uz aKa e'=>?_⟩,Fa vG,h1.le,h1.ok,h1.below,h1.newc,h1.newm,by unfold pV;rw[hm];trivial⟩;rw[hm] at e';cases e';refine⟨hv,e.ev ρ,obs.map fun x=>ρ.o x.1,by simp only[PE.ev];rw[PY],by simp,h1.owns,fun t sh hs hd d=>?_,fun j=>?_,bU⟩
  ·obtain⟨dZ,e1⟩:=abL hb.1 t sh hs hd;rcases e1 with e1|e1
   ·subst e1;trivial
   ·rw[lC] at e1;have:=h1.regs t;rw[e1] at this;have dX:∀gs s',sh≠.opt gs s':=fun gs s' e=>by subst e;cases dZ
    have:=aQ.mono' (S':=fA shs obs) (ρ':=lU obs [] (obs.map fun x=>ρ.o x.1)) (.refl σ1) tc dX this;cases sh with
    |dat t=>cases hd
    |opt gs s=>cases dZ
    |eptr j v o q=>cases dZ
    |_=>exact this
  ·rcases ab0 (ρ:=ρ) hb.2 j with e1|⟨e1,e2⟩
   ·rw[e1];trivial
   ·rw[←e1];exact(h1.objs j).mono (.refl σ1) tc rfl e2 (fun k hk=>⟨hk,rfl⟩)
 ·rename_i hm;simp only[ahb,ax] at hr;obtain⟨r,aV,hr⟩:=hr;obtain⟨σ1,dC,vs,hle,h1,vG,nC,rJ,mE⟩:=Un hC _ h aV;refine⟨_,σ1,h1.fr (fun J e=>by rw[hm] at e;cases e) (by rw[hm];rfl),Fa vG,h.le.trans hle,h1.ok,h1.below,h1.newc,h1.newm,?_⟩;unfold pV;rw[hm];simp only;split at hr
  ·rename_i ty e e1 e2;rw[e1] at nC mE;rw[e2] at mE;cases hb:Ty.sub ty s.res<;>simp only[hb,cond_true,cond_false] at hr
   ·cases hr
   cases hr;obtain⟨v,rfl⟩:∃v,vs=[v]:=by
        match vs,nC with
        |[v],_=>exact⟨v,rfl⟩
   have:=mE 0 ty rfl;exact Rep.sub (by simpa [PE.evs,tT] using this) hb
  ·rename_i aB;cases hb:Ty.sub (.tup r.2.1) s.res<;>simp only[hb,cond_true,cond_false] at hr
   ·cases hr
   cases hr;have aa3:=aD3 (ty:=.bool) aB rJ;have cr:tT vs=Value.tuple vs.toArray:=by
        match vs,nC with
        |[],_=>rfl
        |[v],hl=>rw[←hl] at aa3;exact absurd rfl aa3
        |_::_::_,_=>rfl
   rw[cr];refine Rep.sub (Rep.tup _ _ _ (by rw[nC]) (by rw[PE.evs_eq,ix,rJ]) mE) hb
 ·rename_i J hm;split at hr
  case h_2=>cases hr
  rename_i kV hJ;cases hr;obtain⟨t,fx,cx,h1,h2⟩:=h.frame;refine⟨_,σ,⟨own,t,fx,cx,h1,fun J' e=>?_,.no (by rw[hm];rfl)⟩,Fa (vs:=[]) (by rw[kV];trivial),h.le,h.ok,h.below,h.newc,h.newm,by unfold pV;rw[hm];trivial⟩;exact(h2 J hJ).2
 ·rename_i T e hm;have key:∃v,(results fn a.tmps).run C.P w=.ok v w∧∃cells xs,pe.ev ρ=.list xs∧w.ownsRow w0.heap.size T e.size v xs.length cells∧gC C.cap σ e cells xs∧∀k,v.ownBlock=some k→(∀o,σ.c k o=none)∧σ.m k=none:=by
   unfold ahd at hr;split at hr
   ·rename_i t ht;split at hr
    case h_2=>cases hr
    rename_i j ver hs;have hc:=(od (gs:=[]) h rfl t).1;rw[hs] at hc;exact⟨_,Fa (vs:=[a.tmps.getD t undef]) (by rw[ht];exact⟨rfl,trivial⟩),ahe h hc hr⟩
   ·rename_i b U hb;split at hr
    case h_2=>cases hr
    rename_i j ver t0 e0 hl;have hq:=Jj (Φ:=fun _ _=>none) (dst:=0) (gs:=[]) h hC rfl hl (o:={(default:Oper) with op:=.load U (.tmp b)}) rfl;obtain⟨v,d,e1,e2,e3,e4⟩:=hq _ rfl;exact⟨_,Fa (vs:=[v]) (by rw[hb];exact⟨Re rfl e2,trivial⟩),ahe h e3 hr⟩
   ·cases hr
  obtain⟨v,h1,h2⟩:=key;refine⟨v,σ,h.fr (fun J e=>by rw[hm] at e;cases e) (by rw[hm];rfl),h1,h.le,h.ok,h.below,h.newc,h.newm,?_⟩;unfold pV;rw[hm];exact h2
theorem j3.drop {σ:Im}{B D:Nat}:∀{ds:List Deferred},({target:=.collected D,args:=#[]}:Deferred)∉ds→j3 σ B ds→j3 (σ.drop D) B ds
 |[],_,_=>trivial
 |x::ds,hn,⟨⟨D',h1,h2,h3⟩,h⟩=>by
  simp only[cG,not_or] at hn;refine⟨⟨D',h1,?_,h3⟩,j3.drop hn.2 h⟩;have:D'≠D:=fun e=>hn.1 (by rw[h1,e]);simp[Im.drop,this,h2]
theorem Inv.shut (h:Inv C S ρ σ own hv w0 σ0 A a w)(my:σ0.fin){x:Deferred}{ds:List Deferred}(hd:a.defers=x::ds):
 ∃D,x.target=.collected D∧w.heap[D]?=some (.deferred (some []))∧Inv C S ρ (σ.drop D) own hv w0 σ0 A {a with defers:=ds} (w.putObj D (.deferred none)):=by
 have nz:=h.defers;rw[hd] at nz;obtain⟨⟨D,rfl,hm,hB,PL⟩,vp⟩:=nz;have hD:w.heap[D]?=some (.deferred (some [])):=by
  rcases h.ok.m D _ hm with⟨h1,_⟩|⟨_,h2⟩
  ·exact absurd rfl h1
  ·exact h2
 have gN:∀k,k≠D→(w.putObj D (.deferred none)).heap[k]?=w.heap[k]?:=fun k hk=>World.putObj_heap_other hk;have bX:∀k j,own k=some j→k≠D:=fun k j hk e=>by subst e;rw[(h.owns k j hk).2.2.2] at hm;cases hm
 have hR:Im.leR C.cap σ (σ.drop D):=⟨fun r=>r.drop hm,fun _ _ _ e=>e⟩
 have CK:∀k x,(σ.drop D).m k=some x→k≠D∧σ.m k=some x:=by
  intro k x hx;simp only[Im.drop] at hx;split at hx
  ·cases hx
  ·rename_i aB;exact⟨aB,hx⟩
 refine⟨D,rfl,hD,vp.drop PL,⟨fun k o v hc=>?_,fun k es hc=>?_⟩,⟨h.le.c,fun k es hc=>?_⟩,h.old,h.newc,fun k es hc=>h.newm k es (CK k es hc).2,h.below.trans ⟨rfl,rfl,rfl,by simp,fun k hk=>gN k (by have:=h.bw;omega)⟩,h.bw,fun k j hk=>?_,fun t=>?_,fun j=>?_,h.opts,?_⟩
 ·have h1:=h.ok.c k o v hc;have aB:k≠D:=fun e=>by subst e;simp[World.cell?,hD] at h1
  rw[World.cell?_of_block (gN k aB)];exact h1
 ·exact(h.ok.m k es (CK k es hc).2).keep (gN k (CK k es hc).1)
 ·have aB:k≠D:=fun e=>by
   subst e;have:=h.le.m _ _ hc;rw[hm] at this;cases this;have:=h.old my _ hc;omega
  simp[Im.drop,aB,h.le.m k es hc]
 ·obtain⟨g1,g2,g3,g4⟩:=h.owns k j hk;exact⟨g1,by simpa using g2,g3,by simp only[Im.drop];split<;>first|rfl|exact g4⟩
 ·exact aQ.monoR hR (.refl S hv) (fun _ _ _=>rfl) (fun gs s e=>(h.opts t gs s e).2) (h.regs t)
 ·exact(h.objs j).monoR hR (.refl S hv) rfl rfl (fun k hk=>⟨hk,gN k (bX k j hk)⟩)
 ·obtain⟨t,fx,cx,hf,ht⟩:=h.frame;exact⟨t,fx,cx,⟨σ0.keep _ _ _ _ _ hf.F ⟨rfl,rfl,rfl,by simp,fun k hk=>by omega⟩ (fun k hk=>gN k fun e=>by subst e;exact hf.d k hm hB hk),hf.own,hf.c,fun k x hx=>hf.m k x (CK k x hx).2,fun k hx=>hf.d k (CK k _ hx).2⟩,ht⟩
def pW (C:Ctx)(w0:World)(σ0:Base)(fn:Func)(s:Sig)(d:D)(tmps:Array Value):List Deferred→World→Prop
 |[],w=>Ng C w0 σ0 fn s d {tmps:=tmps,defers:=[]} w
 |x::ds,w=>∃D,x.target=.collected D∧w.heap[D]?=some (.deferred (some []))∧pW C w0 σ0 fn s d tmps ds (w.putObj D (.deferred none))
theorem Inv.retD (hC:CtxOK C σ0)(dS:∀j,S.ver j=0)(my:σ0.fin){fn:Func}{s:Sig}{pe:PE}(hr:wO C fn s S=some pe):∀(ds:List Deferred) {σ:Im} {a:Act} {w:World},Inv C S ρ σ own hv w0 σ0 A a w→a.defers=ds→pW C w0 σ0 fn s (pe.ev ρ) a.tmps ds w
 |[],σ,a,w,h,hd=>by
  have e:a={tmps:=a.tmps,defers:=[]}:=by cases a;simp only at hd;subst hd;rfl
  rw[e] at h;exact aA1 h hC dS hr
 |x::ds,σ,a,w,h,hd=>by
  obtain⟨D,h1,h2,h3⟩:=h.shut my hd;exact⟨D,h1,h2,Inv.retD hC dS my hr ds (a:={a with defers:=ds}) h3 rfl⟩
end
end Cx
namespace Cx
open Go Go.RowKit
def ly (C:Ctx)(f:Nat)(cts ys:List Ty)(ds xs:List D):Prop:=
 ∀(σ:Im) (w:World) (yv:Value) (vs:List Value) (F:D→(Nat→Prop)→(Nat→Prop)→World→Prop) (fx cx:Nat→Prop) (m:Nat),σ.ok w→CtxOK C σ→pM C σ cts vs ds→m≤xs.length→
  (∀t fx cx w,F t fx cx w→∀k,fx k→k<w.heap.size)→(∀t fx cx w,F t fx cx w→∀k,cx k→fx k)→
  (∀t fx cx w w',F t fx cx w→Below 0 w w'→(∀k,fx k→w'.heap[k]?=w.heap[k]?)→F t fx cx w')→
  F (.list []) fx cx w→(∀k o x,σ.c k o=some x→¬cx k)→(∀k x,σ.m k=some x→¬cx k)→
  (∀(i:Nat) (fx cx:Nat→Prop) (w1:World) (σ1:Im) (args:List Value) (ds':List D),i≤m→xs[i]?=some (.tup ds')→F (.list (xs.take i)) fx cx w1→σ1.ok w1→pM C σ1 ys args ds'→
    (∀k o x,σ1.c k o=some x→¬cx k)→(∀k x,σ1.m k=some x→¬cx k)→
    (∀k o x,σ1.c k o=some x→σ.c k o=some x∨w.heap.size≤k)→(∀k x,σ1.m k=some x→σ.m k=some x∨w.heap.size≤k)→
    XI C.P yv args w1 fun u w2=>u=.bool (decide (i<m))∧Below 0 w1 w2∧(∀k,k<w1.heap.size→¬cx k→w2.heap[k]?=w1.heap[k]?)∧
     ∃mq jH,F (.list (xs.take (i+1))) mq jH w2∧(∀k,mq k→k<w1.heap.size→fx k∨(∃o x,σ1.c k o=some x)∨(∃x,σ1.m k=some x∧x≠cP))∧(∀k,jH k→k<w1.heap.size→cx k))→
  Calls C.P f (#[yv]++vs.toArray) w fun e w'=>(∃v,e=.returned v)∧∃fx cx,F (.list (xs.take (m+1))) fx cx w'
def fV (C:Ctx)(Φ:aT):Prop:=∀f cs ys,C.cap f=some cs→lR cs.args cs.res=some ys→(∃fn,C.P.funcs[f]?=some fn∧fn.body.isSome=true∧(fn.name== "runtime.NumGoroutine")=false)∧
 ∀ds d,Φ f ds=some d→∃xs,d=.list xs∧(∀x,x∈xs→∃ds',x=.tup ds'∧ds'.length=ys.length)∧ly C f cs.caps ys ds xs
section
variable {C:Ctx} {S:St} {ρ:Env} {σ:Im} {own:Nat→Option Nat} {hv:Nat→Value} {w0:World} {σ0:Base} {A:Nat→Prop} {a:Act} {w:World}
theorem Inv.mono_regs (h:Inv C S ρ σ own hv w0 σ0 A a w){τ:Im}(hle:σ.le τ)(t:Nat):aQ C S ρ τ hv (S.r t) (a.tmps.getD t undef) (ρ.r t):=
 aQ.mono hle (.refl S hv) (fun _ _ _=>rfl) (fun gs s e=>(h.opts t gs s e).2) (h.regs t)
theorem Inv.joinIm (h:Inv C S ρ σ own hv w0 σ0 A a w){τ:Im}(hτ:τ.ok w)(hd:∀k,τ.m k≠some cP)(hoc:∀k o v,τ.c k o=some v→own k=none)(hom:∀k v,τ.m k=some v→own k=none)
 (dq:∀k o v,τ.c k o=some v→σ.c k o=some v∨w0.heap.size≤k) (db:∀k v,τ.m k=some v→σ.m k=some v∨w0.heap.size≤k)
 (da:∀t fx cx,FrOK σ own w0.heap.size σ0 w t fx cx→(∀k o v,τ.c k o=some v→¬cx k)∧∀k v,τ.m k=some v→¬cx k):Inv C S ρ (σ.plus τ) own hv w0 σ0 A a w where
 defers:=h.defers.mono (Im.plus_le1 σ τ)
 ok:=Im.plus_ok h.ok hτ
 le:=h.le.trans (Im.plus_le1 σ τ)
 old:=h.old
 newc:=fun k o x e=>(Im.plus_c e).elim (h.newc k o x) fun e=>(dq k o x e).elim (h.newc k o x) .inr
 newm:=fun k x e=>(Im.plus_m e).elim (h.newm k x) fun e=>(db k x e).elim (h.newm k x) .inr
 below:=h.below
 bw:=h.bw
 owns:=fun k j hk=>by
  obtain⟨g1,g2,g3,g4⟩:=h.owns k j hk;refine⟨g1,g2,fun o=>?_,?_⟩
  ·cases e:(σ.plus τ).c k o with
   |none=>rfl
   |some x=>
    rcases Im.plus_c e with e|e
    ·rw[g3 o] at e;cases e
    ·rw[hoc k o x e] at hk;cases hk
  ·cases e:(σ.plus τ).m k with
   |none=>rfl
   |some x=>
    rcases Im.plus_m e with e|e
    ·rw[g4] at e;cases e
    ·rw[hom k x e] at hk;cases hk
 regs:=h.mono_regs (Im.plus_le1 σ τ)
 objs:=fun j=>(h.objs j).mono (Im.plus_le1 σ τ) (.refl S hv) rfl rfl fun k hk=>⟨hk,rfl⟩
 opts:=h.opts
 frame:=by
  obtain⟨t,fx,cx,hf,ht⟩:=h.frame;obtain⟨h1,h2⟩:=da t fx cx hf;exact⟨t,fx,cx,⟨hf.F,hf.own,fun k o x e=>(Im.plus_c e).elim (hf.c k o x) (h1 k o x),fun k x e=>(Im.plus_m e).elim (hf.m k x) (h2 k x),fun k e=>(Im.plus_m e).elim (hf.d k) fun e=>absurd e (hd k)⟩,ht⟩
theorem Inv.keep (h:Inv C S ρ σ own hv w0 σ0 A a w){w':World}{X:Nat→Prop}(hb:Below 0 w w')(hX:∀k,X k→w'.heap[k]?=w.heap[k]?)(h0:∀k,k<w0.heap.size→X k)(ho:∀k j,own k=some j→X k)(hc:∀k o v,σ.c k o=some v→X k)(hm:∀k v,σ.m k=some v→X k)
 (da:∀t fx cx,FrOK σ own w0.heap.size σ0 w t fx cx→∀k,fx k→X k):Inv C S ρ σ own hv w0 σ0 A a w' where
 defers:=h.defers
 ok:=⟨fun k o v e=>by rw[World.cell?_of_block (hX k (hc k o v e))];exact h.ok.c k o v e,fun k v e=>(h.ok.m k v e).keep (hX k (hm k v e))⟩
 le:=h.le
 old:=h.old
 newc:=h.newc
 newm:=h.newm
 below:=h.below.trans ⟨hb.os,hb.tape,hb.output,hb.size,fun k hk=>hX k (h0 k (uP hk h.bw))⟩
 bw:=h.bw
 owns:=fun k j hk=>let⟨g1,g2,g3⟩:=h.owns k j hk;⟨g1,uP g2 hb.size,g3⟩
 regs:=h.regs
 objs:=fun j=>(h.objs j).mono (.refl σ) (.refl S hv) rfl rfl fun k hk=>⟨hk,hX k (ho k j hk)⟩
 opts:=h.opts
 frame:=by
  obtain⟨t,fx,cx,hf,ht⟩:=h.frame;exact⟨t,fx,cx,⟨σ0.keep _ _ _ _ _ hf.F hb fun k hk=>hX k (da t fx cx hf k hk),hf.own,hf.c,hf.m,hf.d⟩,ht⟩
end
def Base.rnd (σ0:Base)(σ:Im)(own:Nat→Option Nat)(w:World)(t:D)(X:Nat→Prop):Base:=
 {σ with
  B:=σ0.B
  fin:=False
  F:=fun t' fx cx w'=>t'=t∧(∀k,fx k↔(k<w.heap.size∧own k=none∧σ.m k≠some cP∧¬X k))∧(∀k,cx k↔(fx k∧(∀o,σ.c k o=none)∧σ.m k=none))∧w.heap.size≤w'.heap.size∧∀k,fx k→w'.heap[k]?=w.heap[k]?
  lt:=fun t' fx cx w' h k hk=>uP ((h.2.1 k).1 hk).1 h.2.2.2.1
  sub:=fun t' fx cx w' h k hk=>((h.2.2.1 k).1 hk).1
  keep:=fun t' fx cx w' j0 h hb hs=>⟨h.1,h.2.1,h.2.2.1,j5 h.2.2.2.1 hb.size,fun k hk=>(hs k hk).trans (h.2.2.2.2 k hk)⟩}
section
variable {C:Ctx} {S S':St} {ρ ρ':Env} {σ σ':Im} {own own':Nat→Option Nat} {hv hv':Nat→Value} {w0:World} {σ0:Base} {A A':Nat→Prop} {a a':Act} {w w':World} {X:Nat→Prop}
theorem Inv.toRnd (h:Inv C S ρ σ own hv w0 σ0 A a w){t:D}(ht:∀j,S.o j=.tr→(∃ys,C.yl=some (j,ys))∧ρ.o j=t):Inv C S ρ σ own hv w0 (σ0.rnd σ own w t X) A a w:=by
 refine⟨h.defers,h.ok,.refl σ,(fun hf=>hf.elim),(fun _ _ _ e=>.inl e),(fun _ _ e=>.inl e),h.below,h.bw,h.owns,h.regs,h.objs,h.opts,t,fun k=>k<w.heap.size∧own k=none∧σ.m k≠some cP∧¬X k,fun k=>(k<w.heap.size∧own k=none∧σ.m k≠some cP∧¬X k)∧(∀o,σ.c k o=none)∧σ.m k=none,
  ⟨⟨rfl,fun _=>.rfl,fun _=>.rfl,bk _,fun _ _=>rfl⟩,fun k j hk hf=>?_,fun k o x e hc=>?_,fun k x e hc=>?_,fun k e _ hf=>hf.2.2.1 e⟩,ht⟩
 ·have:=hf.2.1;rw[hk] at this;cases this
 ·have:=hc.2.1 o;rw[e] at this;cases this
 ·have:=hc.2.2;rw[e] at this;cases this
theorem Inv.markSame {w1:World}(h:σ.ok w1)(h':σ'.ok w')(hle:σ.le σ'){k:Nat}(hk:σ.m k=some cP):w'.heap[k]?=w1.heap[k]?:=by
 have e1:w1.heap[k]?=some (.deferred (some [])):=by
  rcases h.m k _ hk with⟨h1,_⟩|⟨_,h2⟩
  ·exact absurd rfl h1
  ·exact h2
 have e2:w'.heap[k]?=some (.deferred (some [])):=by
  rcases h'.m k _ (hle.m k _ hk) with⟨h1,_⟩|⟨_,h2⟩
  ·exact absurd rfl h1
  ·exact h2
 rw[e1,e2]
theorem Inv.rndSame {w1:World}{t:D}(aE:σ.ok w1)(h':Inv C S' ρ' σ' own' hv' w0 (σ0.rnd σ own w1 t X) A' a' w'){k:Nat}(hk:k<w1.heap.size)(ho:own k=none)(hX:¬X k):w'.heap[k]?=w1.heap[k]?:=by
 by_cases hd:σ.m k=some cP
 ·exact Inv.markSame aE h'.ok h'.le hd
 ·obtain⟨t',fx,cx,hf,_⟩:=h'.frame;obtain⟨_,f2,_,_,f5⟩:=hf.F;exact f5 k ((f2 k).2 ⟨hk,ho,hd,hX⟩)
theorem Inv.rndBelow {w1:World}{t:D}(h:Inv C S ρ σ own hv w0 σ0 A a w1)(h':Inv C S' ρ' σ' own' hv' w0 (σ0.rnd σ own w1 t X) A' a' w'):Below 0 w1 w':=by
 obtain⟨t',fx,cx,hf,_⟩:=h'.frame;obtain⟨_,_,_,f4,_⟩:=hf.F;exact⟨h'.below.os.trans h.below.os.symm,h'.below.tape.trans h.below.tape.symm,h'.below.output.trans h.below.output.symm,f4,fun k hk=>by omega⟩
theorem Inv.rndOwn {w1:World}{t:D}(h':Inv C S' ρ' σ' own' hv' w0 (σ0.rnd σ own w1 t X) A' a' w'){k j:Nat}(hk:own' k=some j)(hX:¬X k):(∃i,own k=some i)∨w1.heap.size≤k:=by
 obtain⟨t',fx,cx,hf,_⟩:=h'.frame;obtain⟨_,f2,_,_,_⟩:=hf.F;cases e:own k with
 |some i=>exact .inl ⟨i,rfl⟩
 |none=>
  refine .inr (Nat.le_of_not_lt fun ah=>?_);by_cases hd:σ.m k=some cP
  ·have:=(h'.owns k j hk).2.2.2;rw[h'.le.m k _ hd] at this;cases this
  ·exact hf.own k j hk ((f2 k).2 ⟨ah,e,hd,hX⟩)
theorem Inv.rndC {w1:World}{t:D}(h':Inv C S' ρ' σ' own' hv' w0 (σ0.rnd σ own w1 t X) A' a' w'){k:Nat}(hk:(∃o x,σ'.c k o=some x)∨∃x,σ'.m k=some x)(hX:¬X k):(∃o x,σ.c k o=some x)∨(∃x,σ.m k=some x)∨(∃i,own k=some i)∨w1.heap.size≤k:=by
 obtain⟨t',fx,cx,hf,_⟩:=h'.frame;obtain⟨_,f2,f3,_,_⟩:=hf.F;cases e:own k with
 |some i=>exact .inr (.inr (.inl ⟨i,rfl⟩))
 |none=>
  by_cases hm:∃x,σ.m k=some x
  ·exact .inr (.inl hm)
  by_cases hc:∃o x,σ.c k o=some x
  ·exact .inl hc
  refine .inr (.inr (.inr (Nat.le_of_not_lt fun ah=>?_)));have hmn:σ.m k=none:=by
   cases e2:σ.m k with
   |none=>rfl
   |some x=>exact absurd ⟨x,e2⟩ hm
  have kg:cx k:=(f3 k).2 ⟨(f2 k).2 ⟨ah,e,by rw[hmn];simp,hX⟩,fun o=>by
   cases e2:σ.c k o with
   |none=>rfl
   |some x=>exact absurd ⟨o,x,e2⟩ hc,hmn⟩
  rcases hk with⟨o,x,hk⟩|⟨x,hk⟩
  ·exact hf.c k o x hk kg
  ·exact hf.m k x hk kg
theorem Inv.ofRnd {w1:World}(h:Inv C S ρ σ own hv w0 σ0 A a w1){t:D}{fx cx:Nat→Prop}(da:FrOK σ own w0.heap.size σ0 w1 t fx cx)(hX:∀k,fx k→¬X k)(h':Inv C S' ρ' σ' own' hv' w0 (σ0.rnd σ own w1 t X) A' a' w'):
 Inv C S' ρ' σ' own' hv' w0 σ0 A' a' w':=by
 have hb:=h.rndBelow h';have kc:=h';obtain⟨t',mq,jH,hf,ht⟩:=kc.frame;obtain⟨f1,f2,f3,f4,f5⟩:=hf.F;have ah:=σ0.lt _ _ _ _ da.F;have cn:=σ0.sub _ _ _ _ da.F
 have oV:∀k,fx k→own k=none:=fun k hk=>by
  cases e:own k with
  |none=>rfl
  |some j=>exact absurd hk (da.own k j e)
 have kU:∀k,cx k→¬((∃o x,σ'.c k o=some x)∨∃x,σ'.m k=some x):=fun k hk hc=>by
  have h1:=cn k hk;rcases Inv.rndC h' hc (hX k h1) with⟨o,x,e⟩|⟨x,e⟩|⟨j,e⟩|e
  ·exact da.c k o x e hk
  ·exact da.m k x e hk
  ·exact da.own k j e h1
  ·have:=ah k h1;omega
 refine⟨h'.defers,h'.ok,h.le.trans h'.le,h.old,fun k o x e=>(h'.newc k o x e).elim (h.newc k o x) .inr,fun k x e=>(h'.newm k x e).elim (h.newm k x) .inr,h'.below,h'.bw,h'.owns,h'.regs,h'.objs,h'.opts,t,fx,cx,
  ⟨σ0.keep _ _ _ _ _ da.F hb fun k hk=>Inv.rndSame h.ok h' (ah k hk) (oV k hk) (hX k hk),fun k j hk kj=>?_,fun k o x e hc=>kU k hc (.inl ⟨o,x,e⟩),fun k x e hc=>kU k hc (.inr ⟨x,e⟩),fun k e hB kj=>?_⟩,fun j hj=>⟨(ht j hj).1,by rw[(ht j hj).2,f1]⟩⟩
 ·rcases Inv.rndOwn h' hk (hX k kj) with⟨i,e⟩|e
  ·exact da.own k i e kj
  ·have:=ah k kj;omega
 ·by_cases hd:σ.m k=some cP
  ·exact da.d k hd hB kj
  ·exact hf.d k e hB ((f2 k).2 ⟨ah k kj,oV k kj,hd,hX k kj⟩)
theorem Inv.restore (h:Inv C S ρ σ own hv w0 σ0 A a w)(hn:∀t gs s,S.r t≠.opt gs s)(hd:j3 σ w0.heap.size a'.defers)(hr:∀t,isNone (S.r t)=false→a'.tmps.getD t undef=a.tmps.getD t undef∧ρ'.r t=ρ.r t)(ho:∀j,nI (S.o j)=false→ρ'.o j=ρ.o j):
 Inv C S ρ' σ own hv w0 σ0 (fun _=>False) a' w:=by
 refine⟨hd,h.ok,h.le,h.old,h.newc,h.newm,h.below,h.bw,h.owns,fun t=>?_,fun j=>?_,fun t gs s e=>absurd e (hn t gs s),?_⟩
 ·cases hs:isNone (S.r t) with
  |true=>cases hc:S.r t<;>rw[hc] at hs<;>simp[isNone] at hs;trivial
  |false=>
   rw[(hr t hs).1,(hr t hs).2];exact aQ.mono' (.refl σ) (.refl S hv) (hn t) (h.regs t)
 ·cases hs:nI (S.o j) with
  |true=>cases hc:S.o j<;>rw[hc] at hs<;>simp[nI] at hs;trivial
  |false=>exact(h.objs j).mono (.refl σ) (.refl S hv) rfl (ho j hs) (fun k hk=>⟨hk,rfl⟩)
 ·obtain⟨t,fx,cx,h1,h2⟩:=h.frame;exact⟨t,fx,cx,h1,fun j hj=>⟨(h2 j hj).1,by rw[ho j (by rw[hj];rfl)];exact(h2 j hj).2⟩⟩
theorem j3.mem {σ:Im}{B:Nat}:∀{ds:List Deferred} {d:Deferred},d∈ds→j3 σ B ds→∃D,d={target:=.collected D,args:=#[]}∧σ.m D=some cP
 |x::ds,d,hm,⟨⟨D,h1,h2,_⟩,h⟩=>by
  rcases cG.1 hm with e|e
  ·subst e;exact⟨D,h1,h2⟩
  ·exact j3.mem e h
def Im.mark (σ:Im)(D:Nat):Im:=⟨σ.c,fun k=>if k=D then some cP else σ.m k⟩
theorem Zv (w:World)(o1 o2:Obj):Below w.heap.size w ((w.alloc o1).alloc o2):=(((Below.refl _ w).alloc (bk _) o1).alloc (by simp) o2)
theorem Inv.enter (h:Inv C S ρ σ own hv w0 σ0 A a w)(r:Loop):
 Inv C S ρ (σ.mark w.heap.size) own hv w0 σ0 A {a with defers:={target:=.collected w.heap.size,args:=#[]}::a.defers} ((w.alloc (.deferred (some []))).alloc (.loop r)):=by
 have hD:((w.alloc (.deferred (some []))).alloc (.loop r)).heap[w.heap.size]?=some (.deferred (some [])):=(Below.heap_alloc _ _ _ (by simp)).trans (World.alloc_heap_new w _);have hle:σ.le (σ.mark w.heap.size):=by
  refine⟨fun _ _ _ e=>e,fun k x e=>?_⟩;have:k≠w.heap.size:=by have:=h.ltm e;omega
  simp[Im.mark,this,e]
 have vD:∀k x,(σ.mark w.heap.size).m k=some x→σ.m k=some x∨(k=w.heap.size∧x=cP):=by
  intro k x e;simp only[Im.mark] at e;split at e
  ·rename_i e2;cases e;exact .inr ⟨e2,rfl⟩
  ·exact .inl e
 have hb:=Zv w (.deferred (some [])) (.loop r);have aE:(σ.mark w.heap.size).ok ((w.alloc (.deferred (some []))).alloc (.loop r)):=by
  have h1:=h.ok.below hb;refine⟨h1.c,fun k x e=>?_⟩;rcases vD k x e with e|⟨rfl,rfl⟩
  ·exact h1.m k x e
  ·exact .inr ⟨rfl,hD⟩
 have hw:=h.world hle aE hb (fun _ _ _ e=>.inl e) (fun k x e=>(vD k x e).imp id fun e=>by omega);have nz:=hw.defers;refine⟨⟨⟨_,rfl,by simp[Im.mark],h.below.size,fun hm=>?_⟩,nz⟩,hw.ok,hw.le,hw.old,hw.newc,hw.newm,hw.below,hw.bw,hw.owns,hw.regs,hw.objs,hw.opts,hw.frame⟩;obtain⟨D,e1,e2⟩:=j3.mem hm h.defers;have:D=w.heap.size:=by cases e1;rfl
 subst this;have:=h.ltm e2;omega
end
end Cx
