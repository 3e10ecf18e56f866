/-
  AmountCosts, walked.
-/
import Derived.Test.YtepfoekldooaeaaGreatDoorKAR
set_option linter.unusedSimpArgs false
set_option linter.unusedVariables false
namespace Rm
open Go Go.Proofs Cx
@[simp] theorem aJC (a0 a1 a2 a3 a4 a5 a6 a7 a8 a9 gH gI gJ gK gL iV iW jC iX x:D):cH [a0,a1,a2,a3,a4,a5,a6,a7,a8,a9,gH,gI,gJ,gK,gL,iV,iW,jC,iX] 17 [x]=[a0,a1,a2,a3,a4,a5,a6,a7,a8,a9,gH,gI,gJ,gK,gL,iV,iW,x,iX]:=_root_.id rfl
theorem aht {f:File}{a:Act}(h:f.OK)(ha:a.OK)(hl:f.acts.length+1≤maxLen):(de f a).OK:=by
 obtain⟨h1,h2,h3,⟨h4,h5⟩,h6⟩:=h;refine⟨h1,h2,h3,⟨?_,fun y hy=>?_⟩,h6⟩
 ·show(f.acts++[a]).length≤maxLen;rw[List.length_append];exact hl
 ·rcases List.mem_append.1 hy with hy|hy
  ·exact h5 y hy
  ·obtain rfl:=List.mem_singleton.1 hy;exact ha
theorem ag2 (r:Realm)(hr:r.OK)(forum:Int)(f:File)(nj:f.OK)(sign day:Int)(a:Act)(ha:a.OK):aj T abo [aZ r,.int forum,bT f,.int sign,.int day,gp a] (.bool true):=by
 refine .of_tree rfl aiZ aAw ?_;simp[Ue];obtain⟨d,hd,b,rfl,hb⟩:=Bt r hr f nj;refine⟨_,Me,_,hd,?_⟩;cases b
 ·simp
 obtain⟨hg,hP⟩:=hb rfl;have G:=BF hr hg;have ff:eB r=0:=by simp[ot] at hg;exact hg.2
 have hO:=C1 G ff hP;have hf:=hO.few;have sV:=hf.acts;simp;refine⟨by omega,by omega,?_⟩;have hga:(de f a).OK:=aht nj ha (by simp only[maxLen];omega);obtain⟨d,hd,b,rfl,hb⟩:=Bt r hr (de f a) hga;have eA:D.list (List.map gp f.acts++[gp a])=acts (de f a).acts:=by simp[acts,de]
 rw[eA];refine⟨_,hd,?_⟩;cases b
 ·simp
 obtain⟨fy,Yd⟩:=hb rfl;have G2:=BF hr fy;have Ha:=C1 G2 ff Yd;simp;intro sM;have hS:∀b,b∈f.acts→b.day≤a.day:=by
  have h:=Yd.sorted.acts;intro b hb;exact(List.pairwise_append.1 h).2.2 b hb a (by simp)
 refine⟨_,qL r forum f sign day hO,_,qL r forum (de f a) sign day Ha,_,MV r hO.right hO.rightD forum f sign day hf,?_⟩;have HQ:=Wh r forum sM hS sign;simp;cases he:(bA r forum f sign day).2
 ·have e1:bY r forum f sign day=tH:=by unfold bY Due.owed;exact if_pos he
  have e2:bY r forum (de f a) sign day=tH:=by unfold bY Due.owed;exact if_pos (HQ.trans he)
  simp[e1,e2,tH]
 have ic:¬(bm r forum f sign day).there=false:=by rw[show(bm r forum f sign day).there=true from he];decide
 have mC:¬(bm r forum (de f a) sign day).there=false:=by rw[show(bm r forum (de f a) sign day).there=true from HQ.trans he];decide
 have e1:bY r forum f sign day=_:=if_neg ic;have e2:bY r forum (de f a) sign day=_:=if_neg mC;have BS:0≤(bm r forum f sign day).costs∧(bm r forum f sign day).costs≤1099511627776:=GG (l:=(aG f day).acts) fun a ha=>hO.acts a ((List.takeWhile_sublist _).subset ha);rw[e1,e2];simp;by_cases hk:a.kind=4∨a.kind=5
 ·have hD:=anP r forum sM hS hk sign;have has:0≤a.sum∧a.sum≤1099511627776:=Ha.acts a (by simp[de]) (by simpa [lb] using hk);have hw:IntKind.i64.wrap ((bm r forum f sign day).costs+a.sum)=(bm r forum f sign day).costs+a.sum:=aW (by omega);rw[hD];simp[hk,hw];rw[if_pos ⟨by split<;>omega,rfl⟩];exact congrArg D.bool (decide_eq_true rfl)
 ·obtain⟨h1,h2⟩:=anT r forum sM hS hk sign;simp[hk,h1]
end Rm
