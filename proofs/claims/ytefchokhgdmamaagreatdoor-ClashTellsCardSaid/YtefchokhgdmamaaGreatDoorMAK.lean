/-
  Shared texts of this claim.
-/
import Derived.Test.YtefchokhgdmamaaGreatDoorProg
import Derived.Test.YtefchokhgdmamaaGreatDoorMAA
import Derived.WalkKit
import Derived.WalkSpells
import Derived.Lib.SliceRun
import Derived.Lib.AppendZerosOnto
import Derived.Lib.JoinLaws
import Derived.Lib.Overlaps
import Derived.Laws.Externs
import Derived.Laws.IdiomCopy
import Derived.Below
import Derived.Lib.Walk
import Derived.Deep.LoopGhost
import Derived.Shelf.RegionOpenPlain
import Derived.Test.YtefchokhgdmamaaGreatDoorMAJ
set_option linter.defProp false
set_option linter.unusedSimpArgs false
set_option linter.unusedVariables false
set_option maxRecDepth 100000
noncomputable section
namespace Rm
open Go Go.Proofs Cx Go.RowKit Go.Lib
def ahm {P:Program}(w:World){o:Oper}{a:Act}{K:Act->World->Prop}{Q:Exit->Act->World->Prop}(d s:Operand)(t t':TypeId)
 (ho:o.op=.call {callee:=.builtin .copy,args:=#[d,s],argTypes:=#[t,t']}) (v u:Value) (hd:a.eval d=v) (hs:a.eval s=u) {v':Value} {w':World}
 (hr:(Builtin.copy_ #[t,t'] o.type #[v,u]).run P w=.ok v' w') (h:K (a.put o.dst v') w'):o.wp P a w K Q:=by
 unfold Oper.wp execOp;simp only[ho,resolve,invoke,builtin,Sem.run_bind,Sem.run_pure,Result.andThen_ok,List.map_toArray,gq,tF,hd,hs,hr];exact h
def Xq {P:Program}(w:World){ops:Array Oper}{rest:List Oper}{o:Oper}{a:Act}{Q:Exit->Act->World->Prop}(il:o.guard=none)(d s:Operand)(t t':TypeId)
 (ho:o.op=.call {callee:=.builtin .copy,args:=#[d,s],argTypes:=#[t,t']}) (v u:Value) (hd:a.eval d=v) (hs:a.eval s=u) {v':Value} {w':World}
 (hr:(Builtin.copy_ #[t,t'] o.type #[v,u]).run P w=.ok v' w') (h:wpList P ops Q rest (a.put o.dst v') w'):wpList P ops Q (o::rest) a w:=
 wpList_plain il λ_ hK=>ahm w d s t t' ho v u hd hs hr (hK _ _ h)
def auu {P:Program}{ops:Array Oper}{o:Oper}{a:Act}{w:World}{K:Act->World->Prop}{Q:Exit->Act->World->Prop}{E:Prop}
 (hg:o.guard=none) (d x:Operand) (dT sT:TypeId) (bT:o.op=Op.call {callee:=Callee.builtin Builtin.copy,args:=#[d,x],argTypes:=#[dT,sT]})
 (v u:Value) (hd:a.eval d=v) (hx:a.eval x=u) {v':Value} {w':World} (hr:(Builtin.copy_ #[dT,sT] o.type #[v,u]).run P w=.ok v' w') (hK:K (a.put o.dst v') w'):
 if Region.wanted o (yielded ops a.tmps)=true then Oper.wp P o a w K Q else E:=by
 have hw:Region.wanted o (yielded ops a.tmps)=true:=by simp[Region.wanted,hg]
 rw[if_pos hw];exact ahm w d x dT sT bT v u hd hx hr hK
def Lf:(Tryz.prog.info? 61).map (λi=>(i.zero,i.size,i.bytes))=some (some (.agg #[.int .i64 0,.int .i64 0,.int .i64 0]),3,24):=by kernel_rfl
def D7 (w:World)(a:Option Addr)(n c n' c':Nat):(binOp .eql 39 (.slice a n c) (.slice none n' c')).run Tryz.prog w=.ok (.bool a.isNone) w:=Lib.run_eql_slice_nil w _ _ a n c n' c' Tryz.underlying39
set_option maxHeartbeats 2000000 in
def aje (w:World):Calls Tryz.prog 33 #[.slice none 0 0] w λe w'=>e=.returned (.slice none 0 0)/\w'=w:=by
 have L7:=D7
 go_enter Tryz.func33,Tryz.ntmps33
 go_wp2
 go_ret
 exact⟨rfl,rfl⟩
set_option maxHeartbeats 2000000 in
def YG (ad:Addr)(n c:Nat)(news:List Value)(w:World)(hl:news.length=n*3)(hn:n<=4294967296)
 (hc:∀j u,news[j]?=some u->w.cell? (ad.add j)=some u) (h1:∀u∈news,u.oneCell'=true):
 Calls Tryz.prog 33 #[.slice (some ad) n c] w λe w'=>∃v',e=.returned v'/\w'.ownsRow w.heap.size 61 3 v' n news/\Below w.heap.size w w':=by
 obtain⟨i0,hi,oH,mf,uz⟩:=info_parts Lf;have L7:=D7;have A:Aside (∀j u,news[j]?=some u->w.cell? (ad.add j)=some u):=hc;clear hc
 go_enter Tryz.func33,Tryz.ntmps33
 go_wp2_with (at_builtin;refine wpList_append_own _ rfl _ _ 39 rfl w.heap.size 61 i0 (.agg #[.int .i64 0,.int .i64 0,.int .i64 0]) 3 24 Tryz.underlying39 hi oH mf uz rfl (by decide) _ _ _ rfl (World.ownsRow_made w #[] 0 (aY _) (pf _) (by simp)) ad n c news rfl ?qc1 ?qc2 ?qc3 ?qc4 ?qc5 ?qc6 ?_)
 case qc1=>exact hl
 case qc2=>
  intro j u hj;exact Lib.cell?_alloc_some _ (A.out j u hj)
 case qc3=>exact h1
 case qc4=>rw[fR];unfold maxLen;omega
 case qc5=>rw[fR];omega
 case qc6=>simp
 intro v' w1 be BD QO
 go_wp2
 go_ret
 refine⟨v',rfl,by simpa using be,?_⟩;exact((Below.refl _ w).alloc (aY _) _).grown BD (by simp) (by intro k hk;simp[Value.ownBlock] at hk;omega)
def M6 {P:Program}(w:World)(dT sT ty elem:TypeId)(g o YK ajs:Nat)(a:Addr)(af3 at5 m k:Nat)(cur:Array Value)(t:TypeId)(cs:List Value)
 (hu:P.underlying dT=some (.slice elem)) (hs:(P.info? elem).map (·.size)=some k)
 (hg:w.heap[g]?=some (.cells cur t (0,0))) (hm:Nat.min af3 YK=m) (hn:cs.length=m*k)
 (Fj:∀j v,cs[j]?=some v->w.cell? (a.add j)=some v) (Bz:o+cs.length<=cur.size) (h1:∀v∈cs,v.oneCell'=true):
 (Builtin.copy_ #[dT,sT] ty #[.slice (some ⟨g,o,none⟩) YK ajs,.slice (some a) af3 at5]).run P w=
   .ok (goInt m) (w.setRow g (cur.toList.take o++cs++cur.toList.drop (o+cs.length)).toArray):=by
 have hl:=run_loadCells_list (P:=P) w a cs Fj;have bZ:=run_storeCells_at P g o t cs 0 cur w hg (by simpa using Bz) h1;cases hq:P.info? elem with
 |none=>simp[hq] at hs
 |some i=>
  have hi:i.size=k:=by simpa [hq] using hs
  rw[hn] at hl;simp[Builtin.copy_,run_underlying hu,Builtin.lenOf,Builtin.firstCells,Go.sizeOf,typeInfo,hq,hi,hm,hl,bZ]
set_option maxHeartbeats 4000000 in
def apb (B:Nat)(s:Value)(n:Nat)(cells x:List Value)(vb:Nat)(w:World)(hB:B<=w.heap.size)(gd:w.ownsRow B 61 3 s n cells)(hn:n<=4294967296)(hx:x.length=3)
 (cS:w.heap[vb]?=some (.cells x.toArray 61 (0,0))) (h1:∀v∈x,v.oneCell'=true) (p:Option Addr) (c:Nat) (hs:s=.slice p n c):
 Calls Tryz.prog 39 #[s,.int .i64 n,.slice (some ⟨vb,0,none⟩) 1 1] w λe w'=>∃v',e=.returned v'/\w'.ownsRow B 61 3 v' (n+1) (cells++x)/\w.grownBy w' s.ownBlock:=by
 obtain⟨i0,hi,oH,mf,uz⟩:=info_parts Lf;have Qi:c<=9223372036854775807/\n<=c:=by
  rcases gd.2 with⟨e,_⟩|⟨g,cap,cur,e,_,_,h3,h4,_⟩
  .rw[hs] at e;cases e;omega
  .rw[hs] at e;cases e;unfold maxLen at h4;omega
 obtain⟨Qi,dD⟩:=Qi;have A:Aside (w.heap[vb]?=some (.cells x.toArray 61 (0,0))):=cS;have A2:Aside (w.ownsRow B 61 3 s n cells):=gd;clear cS gd;have L7:=D7;subst hs
 go_enter Tryz.func39,Tryz.ntmps39
 go_wp2_with (at_builtin;refine wpList_append_own _ rfl _ _ 39 rfl B 61 i0 (.agg #[.int .i64 0,.int .i64 0,.int .i64 0]) 3 24 Tryz.underlying39 hi oH mf uz rfl (by decide) _ n cells rfl A2.out ⟨vb,0,none⟩ 1 1 x rfl ?qc1 ?qc2 ?qc3 ?qc4 ?qc5 ?qc6 ?_)
 all_goals first
  |(intro v' w1 be BD QO
    go_wp2
    go_ret
    exact⟨v',rfl,be,by cases p<;>exact BD⟩)
  |exact hB
  |exact h1
  |exact hx
  |(unfold maxLen;omega)
  |(intro j u hj
    rw[Addr.add_lit,fR];have hv:=A.out;simpa [World.cell?,hv] using hj)
  |omega
def apa {α:Type}(l C x:List α)(a b:Nat)(h:a+x.length=b)(hb:b<=l.length):
 ((l.take b++C++l.drop (b+C.length)).take a++x++(l.take b++C++l.drop (b+C.length)).drop b).take (b+C.length)=l.take a++x++C:=by
 have h1:(l.take b).length=b:=by rw[dv];omega
 have e1:(l.take b++C++l.drop (b+C.length)).take a=l.take a:=by
  rw[kD,List.take_append_of_le_length (by omega),H0,jZ (by omega)]
 have e2:(l.take b++C++l.drop (b+C.length)).drop b=C++l.drop (b+C.length):=by
  rw[kD,List.drop_left' h1]
 rw[e1,e2,<-kD];exact HZ (by simp only[jY,dv];omega)
set_option maxHeartbeats 4000000 in
def apd (g n cap i:Nat)(cur:Array Value)(x:List Value)(vb:Nat)(w:World)(hi:i<n)(Fe:n+1<=cap)(Qi:cap<=9223372036854775807)(hg:w.heap[g]?=some (.cells cur 61 (0,0)))(aH:cur.size=cap*3)
 (hx:x.length=3) (cS:w.heap[vb]?=some (.cells x.toArray 61 (0,0))) (h1:∀v∈x,v.oneCell'=true) (jF:∀v∈cur.toList.take (n*3),v.oneCell'=true) (Fq:vb≠g):
 Calls Tryz.prog 39 #[.slice (some ⟨g,0,none⟩) n cap,.int .i64 i,.slice (some ⟨vb,0,none⟩) 1 1] w λe w'=>e=.returned (.slice (some ⟨g,0,none⟩) (n+1) cap)/\
  ∃fT:Array Value,fT.size=cap*3/\w'=w.drew.setRow g fT/\fT.toList.take ((n+1)*3)=(cur.toList.take (n*3)).take (i*3)++x++(cur.toList.take (n*3)).drop (i*3):=by
 obtain⟨i0,KI,oH,mf,uz⟩:=info_parts Lf;have Fk:(Tryz.prog.info? 61).map (·.size)=some 3:=by rw[KI];simp[mf]
 have L7:=D7;have ao1:¬((i:Int)=(n:Int)):=by omega
 have nC:IntKind.i64.wrap ((n:Int)+1)=(n:Int)+1:=by rw[IntKind.wrap_i64];omega
 have eN:IntKind.i64.wrap ((i:Int)+1)=(i:Int)+1:=by rw[IntKind.wrap_i64];omega
 have aos:¬((cap:Int)<(n:Int)+1):=by omega
 have bp:i<=n:=by omega
 have mixed:Tryz.prog.follows .mixedOrders=true:=by kernel_rfl
 have Rf:w.shape? vb=some (61,3):=by simp[World.shape?,cS,hx]
 have ki:w.shape? g=some (61,cap*3):=by simp[World.shape?,hg,aH]
 have hov:∀lb cb,(callFunc 71 #[.slice (some ⟨vb,0,none⟩) 1 1,.slice (some ⟨g,(i+1)*3,none⟩) lb cb]).run Tryz.prog w=.ok (.value (.bool false)) w:=λlb cb=>by
  rw[run_callFunc_extern Tryz.func71 (by kernel_rfl) (by kernel_rfl) (by kernel_rfl) (e:=Extern.SlicesOverlaps.overlaps #[39,39] #[4]) (by kernel_rfl),
   Lib.run_overlaps_apart w 39 4 61 Tryz.underlying39 3 Tryz.sizeOf61 ⟨vb,0,none⟩ ⟨g,(i+1)*3,none⟩ 1 1 lb cb Fq 61 61 3 (cap*3) Rf ki (by omega) (by simp[World.frozen?,cS]) (by simp[World.frozen?,cS])]
  rfl
 have iS:cur.toList.length=cap*3:=by simpa using aH
 have fp:∀j v,((cur.toList.take (n*3)).drop (i*3))[j]?=some v->cur[i*3+j]?=some v:=λj v hj=>by
  rw[eH,dJ] at hj;split at hj
  .simpa using hj
  .cases hj
 have aR:((cur.toList.take (n*3)).drop (i*3)).length=(n-i)*3:=by rw[tD,dv,iS];omega
 obtain⟨C,hC⟩:∃C,C=(cur.toList.take (n*3)).drop (i*3):=⟨_,rfl⟩
 rw[<-hC] at fp aR;have P6:∀v∈C,v.oneCell'=true:=λv hv=>jF v (by rw[hC] at hv;exact zQ hv);obtain⟨eJ,uf⟩:∃eJ:Array Value,eJ=(cur.toList.take ((i+1)*3)++C++cur.toList.drop ((i+1)*3+C.length)).toArray:=⟨_,rfl⟩
 have kh:eJ.size=cap*3:=by rw[uf];simp[iS,aR];omega
 have amX:∀ty dc sc,(Builtin.copy_ #[39,39] ty #[.slice (some ⟨g,(i+1)*3,none⟩) (n-i) dc,.slice (some ⟨g,i*3,none⟩) (n+1-i) sc]).run Tryz.prog w.drew=.ok (goInt ((n-i:Nat):Int)) (w.drew.setRow g eJ):=λty dc sc=>by
  rw[uf]
  exact M6 w.drew _ _ ty 61 g ((i+1)*3) (n-i) dc ⟨g,i*3,none⟩ (n+1-i) sc (n-i) 3 cur 61 C Tryz.underlying39 Fk hg (by show min _ _=_;omega) aR
   (λj v hj=>by
        have:=fp j v hj;rw[Addr.add_lit];have il:w.drew.heap[g]?=some (.cells cur 61 (0,0)):=hg;simpa [World.cell?,il] using this) (by rw[aR];omega) P6
 obtain⟨fT,ug⟩:∃fT:Array Value,fT=(eJ.toList.take (i*3)++x++eJ.toList.drop (i*3+x.length)).toArray:=⟨_,rfl⟩
 have kN:eJ.toList.length=cap*3:=by simpa using kh
 have fe:fT.size=cap*3:=by rw[ug];simp[kN,hx,kh];omega
 have gW:(w.drew.setRow g eJ).heap[g]?=some (.cells eJ 61 (0,0)):=setRow_heap w.drew g cur eJ 61 (0,0) hg;have wu:(w.drew.setRow g eJ).heap[vb]?=some (.cells x.toArray 61 (0,0)):=by rw[<-cS];simp[World.setRow,dH,tH Fq];rfl
 have amY:∀ty dc,(Builtin.copy_ #[39,39] ty #[.slice (some ⟨g,i*3,none⟩) (n+1-i) dc,.slice (some ⟨vb,0,none⟩) 1 1]).run Tryz.prog (w.drew.setRow g eJ)=.ok (goInt 1) ((w.drew.setRow g eJ).setRow g fT):=λty dc=>by
  rw[ug]
  exact M6 (w.drew.setRow g eJ) _ _ ty 61 g (i*3) (n+1-i) dc ⟨vb,0,none⟩ 1 1 1 3 eJ 61 x Tryz.underlying39 Fk gW (by show min _ _=_;omega) hx
   (λj v hj=>by
        rw[Addr.add_lit];simpa [World.cell?,wu] using hj) (by rw[hx];omega) h1
 have lu:fT.toList.take ((n+1)*3)=(cur.toList.take (n*3)).take (i*3)++x++C:=by
  have e1:(n+1)*3=i*3+x.length+C.length:=by rw[hx,aR];omega
  have e2:i*3+x.length=(i+1)*3:=by rw[hx];omega
  have e3:(cur.toList.take (n*3)).take (i*3)=cur.toList.take (i*3):=by rw[H0,jZ (by omega)]
  rw[e1,e3,ug,uf,e2];exact apa _ _ _ _ _ e2 (by rw[iS];omega)
 have bC:¬(cap=i+1):=by omega
 have lZ:¬(cap=i):=by omega
 have fV:(i:Int)<=(n:Int)+1:=by omega
 have cH:(0:Int)<=(i:Int)+1:=by omega
 have Ro:((i:Int)+1).toNat=i+1:=by omega
 generalize pA:w.drew.setRow g eJ=W1 at*;rw[<-hC];clear fp hC uf ug gW wu kh kN iS
 go_enter Tryz.func39,Tryz.ntmps39
 go_wp2_with (simp only[hov])
 go_region_law_o (refine auu rfl _ _ 39 39 rfl _ _ (by simp[Act.eval,Act.put]) (by simp[Act.eval,Act.put]) (amX _ _ _) ?_)
 go_wp2_with (at_builtin;refine Xq _ rfl _ _ 39 39 rfl _ _ rfl rfl (amY _ _) ?_)
 go_ret
 refine⟨rfl,fT,fe,?_,lu⟩;rw[<-pA,setRow_setRow]
set_option maxHeartbeats 4000000 in
def apc (g n cap i:Nat)(cur:Array Value)(x:List Value)(vb:Nat)(w:World)(hi:i<n)(dD:n<=cap)(Fe:cap<n+1)(hn:n<=4294967296)(hg:w.heap[g]?=some (.cells cur 61 (0,0)))(aH:cur.size=cap*3)
 (hx:x.length=3) (cS:w.heap[vb]?=some (.cells x.toArray 61 (0,0))) (h1:∀v∈x,v.oneCell'=true) (jF:∀v∈cur.toList.take (n*3),v.oneCell'=true) (Fq:vb≠g):
 Calls Tryz.prog 39 #[.slice (some ⟨g,0,none⟩) n cap,.int .i64 i,.slice (some ⟨vb,0,none⟩) 1 1] w λe w'=>∃(G:Nat) (fT:Array Value),e=.returned (.slice (some ⟨w.heap.size,0,none⟩) (n+1) G)/\n+1<=G/\G<=maxLen/\
  fT.size=G*3/\w'.heap[w.heap.size]?=some (.cells fT 61 (0,0))/\Below w.heap.size w w'/\fT.toList.take ((n+1)*3)=(cur.toList.take (n*3)).take (i*3)++x++(cur.toList.take (n*3)).drop (i*3):=by
 obtain⟨i0,KI,oH,mf,uz⟩:=info_parts Lf;have Fk:(Tryz.prog.info? 61).map (·.size)=some 3:=by rw[KI];simp[mf]
 have L7:=D7;have ao1:¬((i:Int)=(n:Int)):=by omega
 have nC:IntKind.i64.wrap ((n:Int)+1)=(n:Int)+1:=by rw[IntKind.wrap_i64];omega
 have eN:IntKind.i64.wrap ((i:Int)+1)=(i:Int)+1:=by rw[IntKind.wrap_i64];omega
 have fL:IntKind.i64.wrap ((n:Int)+1-(i:Int))=(n:Int)+1-(i:Int):=by rw[IntKind.wrap_i64];omega
 have aos:(cap:Int)<(n:Int)+1:=by omega
 have bp:i<=n:=by omega
 have mixed:Tryz.prog.follows .mixedOrders=true:=by kernel_rfl
 have iS:cur.toList.length=cap*3:=by simpa using aH
 have fp:∀j v,(cur.toList.take (i*3))[j]?=some v->cur[j]?=some v:=λj v hj=>by
  rw[dJ] at hj;split at hj
  .simpa using hj
  .cases hj
 have Qk:∀j v,((cur.toList.take (n*3)).drop (i*3))[j]?=some v->cur[i*3+j]?=some v:=λj v hj=>by
  rw[eH,dJ] at hj;split at hj
  .simpa using hj
  .cases hj
 have aR:((cur.toList.take (n*3)).drop (i*3)).length=(n-i)*3:=by rw[tD,dv,iS];omega
 have e3:(cur.toList.take (n*3)).take (i*3)=cur.toList.take (i*3):=by rw[H0,jZ (by omega)]
 rw[e3];obtain⟨C,hC⟩:∃C,C=(cur.toList.take (n*3)).drop (i*3):=⟨_,rfl⟩
 rw[<-hC] at Qk aR ⊢;have P6:∀v∈C,v.oneCell'=true:=λv hv=>jF v (by rw[hC] at hv;exact zQ hv);obtain⟨A,hA⟩:∃A,A=cur.toList.take (i*3):=⟨_,rfl⟩
 have Bn:A.length=i*3:=by rw[hA,dv,iS];omega
 rw[<-hA] at fp ⊢;have gW:g<w.heap.size:=(dV.1 hg).1;have wu:vb<w.heap.size:=(dV.1 cS).1;have hold:(Builtin.firstCells i0.size i (.slice (some ⟨g,0,none⟩) i cap)).run Tryz.prog w.drew=.ok A.toArray w.drew:=by
  rw[mf]
  exact run_firstCells_some w.drew 3 i ⟨g,0,none⟩ i cap A Bn (λj v hj=>by
   have:=fp j v hj;rw[Addr.add_lit,fR];have il:w.drew.heap[g]?=some (.cells cur 61 (0,0)):=hg;simpa [World.cell?,il] using this)
 have qJ:(n:Int)+1-(i:Int)=((n+1-i:Nat):Int):=by omega
 have EP:i+(n+1-i)=n+1:=by omega
 obtain⟨G,hG⟩:∃G,G=grownCap w (n+1) cap 61:=⟨_,rfl⟩
 have hGn:n+1<=G:=by rw[hG];exact grownCap_ge w _ _ _
 have ZL:G<=maxLen:=by rw[hG];exact grownCap_le_maxLen w (n+1) cap 61 (by unfold maxLen;omega)
 have aBL:G<=9223372036854775807:=by unfold maxLen at ZL;omega
 obtain⟨nj,Ki⟩:∃nj:Array Value,nj=A.toArray++Builtin.zeroCells #[.int .i64 0,.int .i64 0,.int .i64 0] (n+1-i)++Builtin.zeroCells #[.int .i64 0,.int .i64 0,.int .i64 0] (G-(n+1)):=⟨_,rfl⟩
 have Rd:∀ty,(Builtin.append_ #[39,3] ty #[.slice (some ⟨g,0,none⟩) i cap,.int .i64 ((n:Int)+1-(i:Int))]).run Tryz.prog w=
  .ok (.slice (some ⟨w.heap.size,0,none⟩) (n+1) G) (w.drew.alloc (.cells nj 61)):=λty=>by
  have h:=Lib.run_append_grow_zeros w 39 3 ty 61 i0 _ .i64 .i64 Tryz.underlying39 Tryz.underlying3 KI oH (some ⟨g,0,none⟩) i cap A hold (n+1-i) (by omega) (by omega) (by omega) (by omega) (by rw[uz];omega) (by rw[uz,EP];exact growslice_fits Fe (by omega));rw[EP,<-hG] at h;rw[qJ,Ki];exact h
 have ZX:nj.size=G*3:=by
  rw[Ki,Xz,Xz,size_zeroCells,size_zeroCells];simp[Bn];omega
 have ZU:nj.toList.take (i*3)=A:=by
  rw[Ki,Array.toList_append,Array.toList_append,kD];exact HZ Bn
 clear Ki;obtain⟨N,hN⟩:∃N,N=w.heap.size:=⟨_,rfl⟩
 obtain⟨W1,pA⟩:∃W1,W1=w.drew.alloc (.cells nj 61):=⟨_,rfl⟩
 obtain⟨eJ,uf⟩:∃eJ:Array Value,eJ=(nj.toList.take (i*3)++x++nj.toList.drop (i*3+x.length)).toArray:=⟨_,rfl⟩
 have ZW:nj.toList.length=G*3:=by simpa using ZX
 have kh:eJ.size=G*3:=by rw[uf];simp[ZW,ZX,hx];omega
 have kN:eJ.toList.length=G*3:=by simpa using kh
 have Qa:W1.heap[N]?=some (.cells nj 61 (0,0)):=by rw[pA,hN];show(w.drew.heap.push _)[w.drew.heap.size]?=_;exact De
 have Qb:∀k,k<w.heap.size->W1.heap[k]?=w.heap[k]?:=λk hk=>by rw[pA];exact Below.heap_alloc w.drew _ k hk
 have amZ:∀(W:World),W.heap=W1.heap->∀ty dc,(Builtin.copy_ #[39,39] ty #[.slice (some ⟨N,i*3,none⟩) (n+1-i) dc,.slice (some ⟨vb,0,none⟩) 1 1]).run Tryz.prog W=.ok (goInt ((1:Nat):Int)) (W.setRow N eJ):=λW hW ty dc=>by
  rw[uf]
  exact M6 W _ _ ty 61 N (i*3) (n+1-i) dc ⟨vb,0,none⟩ 1 1 1 3 nj 61 x Tryz.underlying39 Fk (by rw[hW];exact Qa) (by show min _ _=_;omega) hx
   (λj v hj=>by
        rw[Addr.add_lit];have hv:W.heap[vb]?=some (.cells x.toArray 61 (0,0)):=by rw[hW,Qb vb wu];exact cS
        simpa [World.cell?,hv] using hj) (by rw[hx];omega) h1
 obtain⟨fT,ug⟩:∃fT:Array Value,fT=(eJ.toList.take ((i+1)*3)++C++eJ.toList.drop ((i+1)*3+C.length)).toArray:=⟨_,rfl⟩
 have fe:fT.size=G*3:=by rw[ug];simp[kN,kh,aR];omega
 have Z9:∀(W:World),W.heap=(W1.setRow N eJ).heap->∀ty dc sc,(Builtin.copy_ #[39,39] ty #[.slice (some ⟨N,(i+1)*3,none⟩) (n-i) dc,.slice (some ⟨g,i*3,none⟩) (n-i) sc]).run Tryz.prog W=.ok (goInt ((n-i:Nat):Int)) (W.setRow N fT):=λW hW ty dc sc=>by
  rw[ug];have hWg:W.heap[g]?=some (.cells cur 61 (0,0)):=by rw[hW,<-hg,<-Qb g gW];simp only[World.setRow,dH];rw[if_neg (by omega)]
  exact M6 W _ _ ty 61 N ((i+1)*3) (n-i) dc ⟨g,i*3,none⟩ (n-i) sc (n-i) 3 eJ 61 C Tryz.underlying39 Fk (by rw[hW];exact setRow_heap W1 N nj eJ 61 (0,0) Qa) (by show min _ _=_;omega) aR
   (λj v hj=>by
        have:=Qk j v hj;rw[Addr.add_lit];simpa [World.cell?,hWg] using this) (by rw[aR];omega) P6
 have lu:fT.toList.take ((n+1)*3)=A++x++C:=by
  have e1:(n+1)*3=(i+1)*3+C.length:=by rw[aR];omega
  have e2:eJ.toList.take ((i+1)*3)=A++x:=by
   rw[uf,ZU];exact HZ (by rw[jY,Bn,hx];omega)
  rw[e1,ug,e2];exact HZ (by rw[jY,jY,Bn,hx];omega)
 have hGi:¬(G=i):=by omega
 have aBN:¬(G=i+1):=by omega
 have Z8:¬(cap=i):=by omega
 have cH:(0:Int)<=(i:Int)+1:=by omega
 have Ro:((i:Int)+1).toNat=i+1:=by omega
 have fV:(i:Int)<=(n:Int):=by omega
 rw[<-hN] at Rd ⊢;rw[<-pA] at Rd;have HN:Hid (N=w.heap.size):=hN;have HW:Hid (W1=w.drew.alloc (.cells nj 61)):=pA;have HF:Hid (Below N w W1):=by rw[hN,pA];exact((Below.refl _ w).drew).alloc (aY _) _
 clear fp Qk hC uf ug kh kN iS qJ EP hG hold hA ZU ZW hN pA Qb;have aBY:=λs=>Z9 ((W1.setRow N eJ).drew) rfl 3 (G-(i+1)) s
 go_enter Tryz.func39,Tryz.ntmps39
 go_wp2_with (first
  |(at_builtin;refine Lib.wpList_append_run _ rfl _ _ _ _ rfl _ _ rfl rfl _ _ (Rd _) ?_)
  |(at_builtin;refine Xq _ rfl _ _ 39 39 rfl _ _ rfl rfl (amZ _ rfl _ _) ?_)
  |(at_builtin;refine Xq _ rfl _ _ 39 39 rfl _ _ rfl rfl (Z9 _ rfl _ _ _) ?_))
 go_region_o
 go_wp2
 go_ret
 refine⟨G,fT,rfl,hGn,ZL,fe,?_,?_,lu⟩
 .exact setRow_heap _ N eJ fT 61 (0,0) (setRow_heap W1 N nj eJ 61 (0,0) Qa)
 .refine HF.out.trans ⟨rfl,rfl,rfl,by simp[World.setRow],λk hk=>?_⟩;simp only[World.setRow,dH];rw[if_neg (by omega)];show(W1.setRow N eJ).heap[k]?=_;simp only[World.setRow,dH];rw[if_neg (by omega)]
def Lg (B:Nat)(s:Value)(n i:Nat)(cells x:List Value)(vb:Nat)(w:World)(hB:B<=w.heap.size)(gd:w.ownsRow B 61 3 s n cells)(hi:i<=n)(hn:n<=4294967296)(hx:x.length=3)
 (cS:w.heap[vb]?=some (.cells x.toArray 61 (0,0))) (h1:∀v∈x,v.oneCell'=true) (jF:∀v∈cells,v.oneCell'=true) (Fq:s.ownBlock≠some vb):
 Calls Tryz.prog 39 #[s,.int .i64 i,.slice (some ⟨vb,0,none⟩) 1 1] w λe w'=>∃v',e=.returned v'/\w'.ownsRow B 61 3 v' (n+1) (cells.take (i*3)++x++cells.drop (i*3))/\w.grownBy w' s.ownBlock:=by
 have aR:=gd.1;by_cases bp:i=n
 .subst bp;obtain⟨p,c,hs⟩:∃p c,s=.slice p i c:=by
   rcases gd.2 with⟨e,h0⟩|⟨g,cap,cur,e,_⟩
   .exact⟨none,0,by rw[e,h0]⟩
   .exact⟨_,_,e⟩
  have e1:cells.take (i*3)=cells:=vt (by omega);have e2:cells.drop (i*3)=[]:=XG (by omega);rw[e1,e2,mz];exact apb B s i cells x vb w hB gd hn hx cS h1 p c hs
 rcases gd.2 with⟨e,h0⟩|⟨g,cap,cur,e,h2,h3,h4,h5,h6,h7⟩
 .omega
 subst e;have hvg:vb≠g:=λe=>Fq (by rw[e];rfl);have Bm:cap<=9223372036854775807:=by unfold maxLen at h5;omega
 subst h7;by_cases hr:n+1<=cap
 .refine(apd g n cap i cur x vb w (by omega) hr Bm h3 h6 hx cS h1 jF hvg).mono λe w' hh=>?_;obtain⟨rfl,fT,k1,rfl,k3⟩:=hh;refine⟨_,rfl,⟨by rw[<-k3,dv];simp[k1];omega,.inr ⟨g,cap,fT,rfl,h2,setRow_heap w.drew g cur fT 61 (0,0) h3,hr,h5,k1,k3⟩⟩,⟨rfl,rfl,rfl,by simp[World.setRow],λk hk aB=>?_⟩⟩;simp only[World.setRow,dH];rw[if_neg (λe=>aB (by subst e;rfl))];rfl
 .refine(apc g n cap i cur x vb w (by omega) h4 (by omega) hn h3 h6 hx cS h1 jF hvg).mono λe w' hh=>?_;obtain⟨G,fT,rfl,k1,k2,k3,k4,k5,k6⟩:=hh;refine⟨_,rfl,⟨by rw[<-k6,dv];simp[k3];omega,.inr ⟨w.heap.size,G,fT,rfl,hB,k4,k1,k2,k3,k6⟩⟩,⟨k5.os,k5.tape,k5.output,k5.size,λk hk _=>k5.block k hk⟩⟩
def JU (s f:Value)(w:World)(R:World->Prop)(h:Calls Tryz.prog 34 #[s,f] w λe w'=>e=.returned (.int .i64 (-1))/\R w'):
 Calls Tryz.prog 35 #[s,f] w λe w'=>e=.returned s/\R w':=by
 go_enter Tryz.func35,Tryz.ntmps35
 go_wp2_with (go_at_call 34;refine h.mono ?_;rintro e w' ⟨rfl,hR⟩)
 go_ret
 exact⟨rfl,hR⟩
def fo (W:World)(v:Value)(n:Nat)(cells:List Value):Prop:=
 cells.length=n*3/\((∃p,v=.slice p 0 0/\n=0)\/∃g o c,v=.slice (some ⟨g,o,none⟩) n c/\n<=c/\c<=maxLen/\∀j u,cells[j]?=some u->W.cell? ⟨g,o+j,none⟩=some u)
abbrev AZ (f p q:Nat):Value:=.func (.func f) #[] #[.pointer (some ⟨p,0,none⟩),.pointer (some ⟨q,0,none⟩)]
def fo.of_cell {w W:World}{v:Value}{n:Nat}{cells:List Value}(h:fo w v n cells)(hb:∀a u,w.cell? a=some u->W.cell? a=some u):fo W v n cells:=by
 refine⟨h.1,h.2.imp id λ⟨g,o,c,h1,h2,h3,h4⟩=>⟨g,o,c,h1,h2,h3,λj u hj=>hb _ _ (h4 j u hj)⟩⟩
def fo.below {w W:World}{v:Value}{n:Nat}{cells:List Value}(h:fo w v n cells)(hb:Below w.heap.size w W):fo W v n cells:=
 h.of_cell λa u ha=>by rw[hb.cell (World.block_lt_of_cell? w a ha)];exact ha
def fo.of_own {B:Nat}{w:World}{v:Value}{n:Nat}{cells:List Value}(h:w.ownsRow B 61 3 v n cells):fo w v n cells:=by
 refine⟨h.1,h.2.imp (λ⟨e,h0⟩=>⟨none,e,h0⟩) λ⟨g,cap,cur,h1,h2,h3,h4,h5,h6,h7⟩=>⟨g,0,cap,h1,h4,h5,λj u hj=>?_⟩⟩;rw[<-h7,dJ] at hj;split at hj
 .simpa [World.cell?,h3] using hj
 .cases hj
def A1 (v:Value)(n:Nat)(cells:List Value)(w:World)(h:fo w v n cells)(hn:n<=4294967296)(h1:∀u∈cells,u.oneCell'=true):
 Calls Tryz.prog 33 #[v] w λe w'=>∃v',e=.returned v'/\w'.ownsRow w.heap.size 61 3 v' n cells/\Below w.heap.size w w':=by
 obtain⟨hl,h⟩:=h;rcases h with⟨p,rfl,rfl⟩|⟨g,o,c,rfl,h2,h3,h4⟩
 .obtain rfl:cells=[]:=XN.1 (by omega);cases p with
  |none=>
   refine(aje w).mono λe w' hh=>?_;obtain⟨rfl,rfl⟩:=hh;exact⟨_,rfl,World.ownsRow_nil _ _ _ _,.refl _ _⟩
  |some p=>exact YG p 0 0 [] w rfl (by omega) (by simp) (by simp)
 .exact YG ⟨g,o,none⟩ n c cells w hl hn (λj u hj=>by rw[Addr.add_lit];exact h4 j u hj) h1
structure Bx (w W:World) (A B C D E:Obj):Prop where
 below:Below w.heap.size w W
 size:w.heap.size+5<=W.heap.size
 a:W.heap[w.heap.size]?=some A
 b:W.heap[w.heap.size+1]?=some B
 c:W.heap[w.heap.size+1+1]?=some C
 d:W.heap[w.heap.size+1+1+1]?=some D
 e:W.heap[w.heap.size+1+1+1+1]?=some E
def Bx.step {w W W':World}{A B C D E:Obj}(h:Bx w W A B C D E)(hb:Below (w.heap.size+5) W W'):Bx w W' A B C D E:=
 ⟨h.below.trans (hb.mono (by omega)),cn h.size hb.size,(hb.block _ (by omega)).trans h.a,(hb.block _ (by omega)).trans h.b,(hb.block _ (by omega)).trans h.c,(hb.block _ (by omega)).trans h.d,(hb.block _ (by omega)).trans h.e⟩
def zY (w:World)(A B C D E:Obj):Bx w (((((w.alloc A).alloc B).alloc C).alloc D).alloc E) A B C D E:=by
 have ha:∀(w:World) (o:Obj),(w.alloc o).heap[w.heap.size]?=some o:=λw o=>by show(w.heap.push o)[w.heap.size]?=_;exact De
 have hs:∀(w:World) (o:Obj),(w.alloc o).heap.size=w.heap.size+1:=λw o=>by simp
 refine⟨((((((Below.refl _ w).alloc (aY _) A).alloc ?_ B).alloc ?_ C).alloc ?_ D).alloc ?_ E),?_,?_,?_,?_,?_,?_⟩
 .simp only[hs];omega
 .simp only[hs];omega
 .simp only[hs];omega
 .simp only[hs];omega
 .simp only[hs];omega
 .rw[Below.heap_alloc _ _ _ (by simp only[hs];omega),Below.heap_alloc _ _ _ (by simp only[hs];omega),Below.heap_alloc _ _ _ (by simp only[hs];omega),Below.heap_alloc _ _ _ (by simp only[hs];omega)];exact ha _ _
 .rw[Below.heap_alloc _ _ _ (by simp only[hs];omega),Below.heap_alloc _ _ _ (by simp only[hs];omega),Below.heap_alloc _ _ _ (by simp only[hs];omega),<-hs w A];exact ha _ _
 .rw[Below.heap_alloc _ _ _ (by simp only[hs];omega),Below.heap_alloc _ _ _ (by simp only[hs];omega),<-hs w A,<-hs (w.alloc A) B];exact ha _ _
 .rw[Below.heap_alloc _ _ _ (by simp only[hs];omega),<-hs w A,<-hs (w.alloc A) B,<-hs ((w.alloc A).alloc B) C];exact ha _ _
 .rw[<-hs w A,<-hs (w.alloc A) B,<-hs ((w.alloc A).alloc B) C,<-hs (((w.alloc A).alloc B).alloc C) D];exact ha _ _
def nL {B:Nat}{w W:World}{v:Value}{n:Nat}{cells:List Value}(h:w.ownsRow B 61 3 v n cells)(hb:Below w.heap.size w W):W.ownsRow B 61 3 v n cells:=
 ⟨h.1,h.2.imp id λ⟨g,cap,cur,h1,h2,h3,h4⟩=>⟨g,cap,cur,h1,h2,(hb.block g (dV.1 h3).1).trans h3,h4⟩⟩
def z7 (W:World)(b:Nat)(x y z:Value)(h:W.heap[b]?=some (.cells #[x,y,z] 61 (0,0))):
 W.cell? ⟨b,0,none⟩=some x/\W.cell? ⟨b,1,none⟩=some y/\W.cell? ⟨b,2,none⟩=some z/\∀j,W.frozen? ⟨b,j,none⟩=false:=by
 simp[World.cell?,World.frozen?,h]
def apx {α:Type}(l:List α)(a:Nat)(x y z:α)(h:a+3<=l.length):((l.set a x).set (a+1) y).set (a+2) z=l.take a++[x,y,z]++l.drop (a+3):=by
 apply NS;intro j;have hl:(l.take a).length=a:=by rw[dv];omega
 rcases H2 j a with h1|h1
 .rw[kD,lT (by omega),List.getElem?_take_of_lt h1,xE (by omega),xE (by omega),xE (by omega)]
 .rw[kD,jX (by omega),hl];obtain⟨d,rfl⟩:∃d,j=a+d:=⟨j-a,by omega⟩
  rw[show a+d-a=d by omega];have h0:a<l.length:=by omega
  have h2:a+1<l.length:=by omega
  have h3:a+2<l.length:=by omega
  match d with
  |0=>simp[vn,h0]
  |1=>simp[vn,h2]
  |2=>simp[vn,h3]
  |d+3=>
   rw[xE (by omega),xE (by omega),xE (by omega)];show _=(l.drop (a+3))[d]?;rw[eH]
   congr 1
   omega
def af9 (W:World)(g a:Nat)(cur:Array Value)(x y z:Value)(hg:W.heap[g]?=some (.cells cur 61 (0,0)))(ha:a+3<=cur.size):
 ∃bA:Array Value,((W.setCell ⟨g,a,none⟩ x).setCell ⟨g,a+1,none⟩ y).setCell ⟨g,a+2,none⟩ z=W.setRow g bA/\bA.size=cur.size/\bA.toList=cur.toList.take a++[x,y,z]++cur.toList.drop (a+3):=by
 have h1:=setCell_eq_setRow W g a cur 61 (0,0) x hg;have g1:=setRow_heap W g cur (cur.setIfInBounds a x) 61 (0,0) hg;rw[<-h1] at g1;have h2:=setCell_eq_setRow _ g (a+1) _ 61 (0,0) y g1;have g2:=setRow_heap _ g _ ((cur.setIfInBounds a x).setIfInBounds (a+1) y) 61 (0,0) g1;rw[<-h2] at g2;have h3:=setCell_eq_setRow _ g (a+2) _ 61 (0,0) z g2;refine⟨((cur.setIfInBounds a x).setIfInBounds (a+1) y).setIfInBounds (a+2) z,by rw[h3,h2,h1,setRow_setRow,setRow_setRow],by simp,?_⟩;simp only[Array.toList_setIfInBounds];exact apx _ _ _ _ _ (by simpa using ha)
def auh (W:World)(g o:Nat)(cur:Array Value)(u:Value)(hg:W.heap[g]?=some (.cells cur 61 (0,0)))(h:cur[o]?=some u):W.setCell ⟨g,o,none⟩ u=W:=by
 rw[setCell_eq_setRow W g o cur 61 (0,0) u hg];have:cur.setIfInBounds o u=cur:=by
  obtain⟨ho,he⟩:=dV.1 h;apply Array.ext (by simp);intro j h1 h2;rw[Array.getElem_setIfInBounds];split
  .rename_i e;subst e;exact he.symm
  .rfl
 rw[this];exact setRow_self W g cur 61 (0,0) hg
def aga (W:World)(g:Nat)(cur:Array Value)(hg:W.heap[g]?=some (.cells cur 61 (0,0))):∀(us:List Value) (o:Nat),(∀j u,us[j]?=some u->cur[o+j]?=some u)->W.setCells g o us=W
 |[],_,_=>rfl
 |u::us,o,h=>by
  rw[World.setCells,auh W g o cur u hg (by simpa using h 0 u rfl)];exact aga W g cur hg us (o+1) λj v hj=>by have:=h (j+1) v (by simpa using hj);rwa [show o+(j+1)=o+1+j by omega] at this
def abP (W:World)(ad:Addr)(n:Nat)(news:List Value)(hl:news.length=n)(Fj:∀j u,news[j]?=some u->W.cell? (ad.add j)=some u):
 (loadCellsFrom ad 0 n #[]).run Tryz.prog W=.ok news.toArray W:=by
 subst hl;exact run_loadCells_list (P:=Tryz.prog) W ad news Fj
def agq (W:World)(g o:Nat)(cur:Array Value)(news:List Value)(hg:W.heap[g]?=some (.cells cur 61 (0,0)))(bp:∀j u,news[j]?=some u->cur[o+j]?=some u)(h1:∀u∈news,u.oneCell'=true):
 (storeCells ⟨g,o,none⟩ news).run Tryz.prog W=.ok () W:=by
 have:=run_storeCells_cells (P:=Tryz.prog) g o news 0 W (λj hj=>by
  have:=bp j _ (bE hj);simp[World.cell?,hg,this]) (λj hj=>by simp[World.frozen?,hg]) h1
 rw[this,iZ,aga W g cur hg news o bp]
def Bx.drew {w W:World}{A B C D E:Obj}(h:Bx w W A B C D E):Bx w W.drew A B C D E:=⟨h.below.drew,h.size,h.a,h.b,h.c,h.d,h.e⟩
set_option maxHeartbeats 4000000 in
def auk (vs:Array Value)(jz:Value)(cS:vs.size=19)(nB:vs[18]?=some jz)(h1:vs.all (·.oneCell')=true)(k a n m:Int)(hm:n=0/\m=0\/n≠0/\m=1)
 (w:World) (N i:Nat) (cells:List Value) (gd:fo w jz N cells) (hN:N<=4294967296) (hi:i<N) (jF:∀v∈cells,v.oneCell'=true)
 (hI:∀W v p q,Below w.heap.size w W->fo W v N cells->W.cell? ⟨p,0,none⟩=some (.int .i64 k)->W.cell? ⟨q,0,none⟩=some (.int .i64 a)->Calls Tryz.prog 34 #[v,AZ 32 p q] W λe w'=>e=.returned (.int .i64 i)/\Below W.heap.size W w')
 (hD:∀W v p q,Below w.heap.size w W->fo W v (N-(i+1)) (cells.drop ((i+1)*3))->W.cell? ⟨p,0,none⟩=some (.int .i64 k)->W.cell? ⟨q,0,none⟩=some (.int .i64 a)->Calls Tryz.prog 34 #[v,AZ 32 p q] W λe w'=>e=.returned (.int .i64 (-1))/\Below W.heap.size W w'):
 Calls Tryz.prog 16 #[.agg vs,.int .i64 k,.int .i64 a,.int .i64 n] w λe w'=>∃v' g c,e=.returned (.agg (vs.setIfInBounds 18 v'))/\
  Below w.heap.size w w'/\w.heap.size<=g/\v'=.slice (some ⟨g,0,none⟩) N c/\N<=c/\c<=maxLen/\∀j u,(cells.take (i*3)++[.int .i64 k,.int .i64 a,.int .i64 m]++cells.drop ((i+1)*3))[j]?=some u->w'.cell? ⟨g,j,none⟩=some u:=by
 have aoQ:vs[18]'(by omega)=jz:=(dV.1 nB).2;rcases hm with⟨rfl,rfl⟩|⟨hn,rfl⟩
 .skip
  go_enter Tryz.func16,Tryz.ntmps16
  go_wp2_with (first
   |(go_at_call 33
     have dg:=zY w (.cells vs 41 (0,0)) (.cells #[.int .i64 k] 3 (0,0)) (.cells #[.int .i64 a] 3 (0,0)) (.cells #[.int .i64 0,.int .i64 0,.int .i64 0,.int .i64 0,.int .i64 0,.int .i64 0,.int .i64 0,.int .i64 0,.int .i64 0,.int .i64 0,.int .i64 0,.int .i64 0,.int .i64 0,.int .i64 0,.int .i64 0,.slice none 0 0,.slice none 0 0,.slice none 0 0,.slice none 0 0] 41 (0,0)) (.cells #[.int .i64 k,.int .i64 a,.int .i64 0] 61 (0,0));refine(A1 jz N cells _ (gd.below dg.below) hN jF).mono ?_;rintro e W1 ⟨v',rfl,be,cH⟩;have cg:=dg.step (cH.mono dg.size);have hB:w.heap.size+5<=(((((w.alloc (.cells vs 41 (0,0))).alloc (.cells #[.int .i64 k] 3 (0,0))).alloc (.cells #[.int .i64 a] 3 (0,0))).alloc (.cells #[.int .i64 0,.int .i64 0,.int .i64 0,.int .i64 0,.int .i64 0,.int .i64 0,.int .i64 0,.int .i64 0,.int .i64 0,.int .i64 0,.int .i64 0,.int .i64 0,.int .i64 0,.int .i64 0,.int .i64 0,.slice none 0 0,.slice none 0 0,.slice none 0 0,.slice none 0 0] 41 (0,0))).alloc (.cells #[.int .i64 k,.int .i64 a,.int .i64 0] 61 (0,0))).heap.size:=dg.size;clear cH dg)
   |(go_at_call 34
     refine(hI W1 v' (w.heap.size+1) (w.heap.size+1+1) cg.below (fo.of_own be) (by simp[World.cell?,cg.b]) (by simp[World.cell?,cg.c])).mono ?_;rintro e W2 ⟨rfl,bC⟩;have dA:=cg.step (bC.mono cg.size);have ji:=nL be bC;clear bC cg be;rcases ji.2 with⟨_,h0⟩|⟨g,cap,cur,rfl,qG,dx,vT,eB,hg5,gL⟩
     .exact absurd h0 (by omega)
     obtain⟨e0,e1,e2,ef⟩:=z7 W2 _ _ _ _ dA.e;have ui:∀j,W2.frozen? ⟨g,j,none⟩=false:=λj=>by simp[World.frozen?,dx]
     obtain⟨u0,yO⟩:∃u,W2.cell? ⟨g,i*3,none⟩=some u:=⟨_,by simp[World.cell?,dx];exact eT (show i*3<cur.size by omega)⟩
     obtain⟨u1,Fm⟩:∃u,W2.cell? ⟨g,i*3+1,none⟩=some u:=⟨_,by simp[World.cell?,dx];exact eT (show i*3+1<cur.size by omega)⟩
     obtain⟨u2,Fo⟩:∃u,W2.cell? ⟨g,i*3+2,none⟩=some u:=⟨_,by simp[World.cell?,dx];exact eT (show i*3+2<cur.size by omega)⟩
     have hgB:w.heap.size+5<=g:=cn hB qG;have cN:(i:Int)<(N:Int):=by omega
     clear hB qG))
  obtain⟨bA,ED,K7,yw⟩:=af9 W2 g (i*3) cur (.int .i64 k) (.int .i64 a) (.int .i64 0) dx (by omega);rw[ED];have cU:Bx w (W2.setRow g bA).drew (.cells vs 41 (0,0)) (.cells #[.int .i64 k] 3 (0,0)) (.cells #[.int .i64 a] 3 (0,0)) (.cells #[.int .i64 0,.int .i64 0,.int .i64 0,.int .i64 0,.int .i64 0,.int .i64 0,.int .i64 0,.int .i64 0,.int .i64 0,.int .i64 0,.int .i64 0,.int .i64 0,.int .i64 0,.int .i64 0,.int .i64 0,.slice none 0 0,.slice none 0 0,.slice none 0 0,.slice none 0 0] 41 (0,0)) (.cells #[.int .i64 k,.int .i64 a,.int .i64 0] 61 (0,0)):=by
   refine Bx.drew (dA.step ⟨rfl,rfl,rfl,by simp[World.setRow],λq hq=>?_⟩);simp only[World.setRow,dH];rw[if_neg (by omega)]
  have gW:(W2.setRow g bA).drew.heap[g]?=some (.cells bA 61 (0,0)):=setRow_heap W2 g cur bA 61 (0,0) dx;clear ED dA ji e0 e1 e2 ef ui yO Fm Fo dx;generalize P9:W2.setRow g bA=W3 at*;clear P9
  have yh:∀j u,(cells.drop ((i+1)*3))[j]?=some u->bA[(i+1)*3+j]?=some u:=λj u hj=>by
   rw[eH,<-gL,dJ] at hj;split at hj
   .rw[<-zH,yw,kD,jX (by rw[dv];omega),dv,jZ (by rw[tu];omega),jX (by simp;omega),eH];rw[<-hj]
    congr 1
    simp;omega
   .cases hj
  have aR:(cells.drop ((i+1)*3)).length=(N-(i+1))*3:=by rw[tD,<-gL,dv,tu];omega
  have Qj:∀u∈cells.drop ((i+1)*3),u.oneCell'=true:=λu hu=>jF u (zQ hu);have hNi:i+1+(N-(i+1))=N:=by omega
  have eN:IntKind.i64.wrap ((i:Int)+1)=(i:Int)+1:=by rw[IntKind.wrap_i64];omega
  have cH:(0:Int)<=(i:Int)+1:=by omega
  have bC:(i:Int)+1<=(N:Int):=by omega
  have fV:(i:Int)+1<=(cap:Int):=by omega
  have Ro:((i:Int)+1).toNat=i+1:=by omega
  have vU:(w.heap.size==g)=false:=by simp;omega
  have mixed:Tryz.prog.follows .mixedOrders=true:=by kernel_rfl
  have HC:Hid (∀j u,(cells.take (i*3)++[.int .i64 k,.int .i64 a,.int .i64 0]++cells.drop ((i+1)*3))[j]?=some u->bA[j]?=some u):=λj u hj=>by
   have e:cells.take (i*3)++[.int .i64 k,.int .i64 a,.int .i64 0]++cells.drop ((i+1)*3)=bA.toList.take (N*3):=by
        rw[yw,<-gL,H0,jZ (by omega),List.drop_take,show(i+1)*3=i*3+3 by omega];have hA:(cur.toList.take (i*3)++[Value.int .i64 k,.int .i64 a,.int .i64 0]).length=i*3+3:=by simp;omega
        rw[List.take_append,vt (l:=cur.toList.take (i*3)++_) (by omega),hA]
   rw[e,dJ] at hj;split at hj
   .simpa using hj
   .cases hj
  clear gL yw;by_cases fH:cap=i+1
  .obtain rfl:N=i+1:=by omega
   subst fH
   go_region_with_o (go_at_call 35
                     refine(JU _ _ _ _ (hD W3.drew _ _ _ cU.below ⟨aR,.inl ⟨some ⟨g,0,none⟩,rfl,by omega⟩⟩ (by simp[World.cell?,cU.b]) (by simp[World.cell?,cU.c]))).mono ?_;rintro e W4 ⟨rfl,lZ⟩;have bK:=cU.step (lZ.mono cU.size);have mM:W4.heap[g]?=some (.cells bA 61 (0,0)):=(lZ.block g (dV.1 gW).1).trans gW;have od:W4.cell? ⟨w.heap.size,18,none⟩=some jz:=by simp[World.cell?,bK.a,nB]
                     have cf:W4.frozen? ⟨w.heap.size,18,none⟩=false:=by simp[World.frozen?,bK.a]
                     clear lZ cU gW)
   have hA:=setCell_eq_setRow W4 w.heap.size 18 vs 41 (0,0) (.slice (some ⟨g,0,none⟩) (i+1) (i+1)) bK.a;rw[hA];have mL:(W4.setRow w.heap.size (vs.setIfInBounds 18 (.slice (some ⟨g,0,none⟩) (i+1) (i+1)))).heap[w.heap.size]?=some (.cells (vs.setIfInBounds 18 (.slice (some ⟨g,0,none⟩) (i+1) (i+1))) 41 (0,0)):=setRow_heap W4 w.heap.size vs _ 41 (0,0) bK.a;have ij:(W4.setRow w.heap.size (vs.setIfInBounds 18 (.slice (some ⟨g,0,none⟩) (i+1) (i+1)))).heap[w.heap.size+1+1+1]?=some (.cells #[.int .i64 0,.int .i64 0,.int .i64 0,.int .i64 0,.int .i64 0,.int .i64 0,.int .i64 0,.int .i64 0,.int .i64 0,.int .i64 0,.int .i64 0,.int .i64 0,.int .i64 0,.int .i64 0,.int .i64 0,.slice none 0 0,.slice none 0 0,.slice none 0 0,.slice none 0 0] 41 (0,0)):=by
        rw[<-bK.d];simp only[World.setRow,dH];rw[if_neg (by omega)]
   have gL:(W4.setRow w.heap.size (vs.setIfInBounds 18 (.slice (some ⟨g,0,none⟩) (i+1) (i+1)))).heap[g]?=some (.cells bA 61 (0,0)):=by
        rw[<-mM];simp only[World.setRow,dH];rw[if_neg (by omega)]
   have mK:Below w.heap.size w (W4.setRow w.heap.size (vs.setIfInBounds 18 (.slice (some ⟨g,0,none⟩) (i+1) (i+1)))):=by
        refine bK.below.trans ⟨rfl,rfl,rfl,by simp[World.setRow],λq hq=>?_⟩;simp only[World.setRow,dH];rw[if_neg (by omega)]
   have aI:(vs.setIfInBounds 18 (.slice (some ⟨g,0,none⟩) (i+1) (i+1))).all (·.oneCell')=true:=by
        rw[vh] at h1 ⊢;intro u hu;rcases xx hu with h|h
        .exact h1 u h
        .subst h;rfl
   have ix:(vs.setIfInBounds 18 (.slice (some ⟨g,0,none⟩) (i+1) (i+1))).size=19:=by simp[cS]
   generalize W4.setRow w.heap.size (vs.setIfInBounds 18 (.slice (some ⟨g,0,none⟩) (i+1) (i+1)))=W6 at*;generalize qV:vs.setIfInBounds 18 (.slice (some ⟨g,0,none⟩) (i+1) (i+1))=bo at*;have HV:Hid (vs.setIfInBounds 18 (.slice (some ⟨g,0,none⟩) (i+1) (i+1))=bo):=qV;clear qV;have eX:(Tryz.prog.info? 41).map (·.size)=some bo.size:=by rw[ix];kernel_rfl
   clear hA od cf bK mM
   go_wp2_with (first
        |(refine wpList_load_row rfl 41 _ rfl w.heap.size rfl 41 bo (0,0) _ mL Tryz.underlying41 rfl eX ?_)
        |(refine wpList_store_row rfl 41 _ _ rfl (w.heap.size+1+1+1) bo rfl rfl 41 _ ij eX (by rw[ix];rfl) aI ?_))
   refine bodyPost_ret (results_cell_row (p:=8) (ty:=41) rfl _ _ (w.heap.size+1+1+1) 41 bo (0,0) _ rfl (setRow_heap W6 (w.heap.size+1+1+1) _ bo 41 (0,0) ij) Tryz.underlying41 rfl eX) rfl ?_;refine⟨_,g,i+1,by rw[HV.out],?_,by omega,rfl,vT,eB,λj u hj=>?_⟩
   .refine mK.trans ⟨rfl,rfl,rfl,by simp[World.setRow],λq hq=>?_⟩;simp only[World.setRow,dH];rw[if_neg (by omega)]
   .have mN:(W6.setRow (w.heap.size+1+1+1) bo).heap[g]?=some (.cells bA 61 (0,0)):=by
     rw[<-gL];simp only[World.setRow,dH];rw[if_neg (by omega)]
    have:=HC.out j u hj;simpa [World.cell?,mN] using this
  .go_region_with_o (go_at_call 35
                     refine(JU _ _ _ _ (hD W3.drew _ _ _ cU.below ⟨aR,.inr ⟨g,(i+1)*3,cap-(i+1),rfl,by omega,by omega,λj u hj=>by have:=yh j u hj;simpa [World.cell?,gW] using this⟩⟩ (by simp[World.cell?,cU.b]) (by simp[World.cell?,cU.c]))).mono ?_;rintro e W4 ⟨rfl,lZ⟩;have bK:=cU.step (lZ.mono cU.size);have mM:W4.heap[g]?=some (.cells bA 61 (0,0)):=(lZ.block g (dV.1 gW).1).trans gW;have BF:=abP W4 ⟨g,(i+1)*3,none⟩ ((N-(i+1))*3) (cells.drop ((i+1)*3)) aR (λj u hj=>by have:=yh j u hj;rw[Addr.add_lit];simpa [World.cell?,mM] using this);have bZ:=agq W4 g ((i+1)*3) bA (cells.drop ((i+1)*3)) mM yh Qj;have od:W4.cell? ⟨w.heap.size,18,none⟩=some jz:=by simp[World.cell?,bK.a,nB]
                     have cf:W4.frozen? ⟨w.heap.size,18,none⟩=false:=by simp[World.frozen?,bK.a]
                     clear lZ cU gW)
   have hA:=setCell_eq_setRow W4 w.heap.size 18 vs 41 (0,0) (.slice (some ⟨g,0,none⟩) N cap) bK.a;rw[hA];have mL:(W4.setRow w.heap.size (vs.setIfInBounds 18 (.slice (some ⟨g,0,none⟩) N cap))).heap[w.heap.size]?=some (.cells (vs.setIfInBounds 18 (.slice (some ⟨g,0,none⟩) N cap)) 41 (0,0)):=setRow_heap W4 w.heap.size vs _ 41 (0,0) bK.a;have ij:(W4.setRow w.heap.size (vs.setIfInBounds 18 (.slice (some ⟨g,0,none⟩) N cap))).heap[w.heap.size+1+1+1]?=some (.cells #[.int .i64 0,.int .i64 0,.int .i64 0,.int .i64 0,.int .i64 0,.int .i64 0,.int .i64 0,.int .i64 0,.int .i64 0,.int .i64 0,.int .i64 0,.int .i64 0,.int .i64 0,.int .i64 0,.int .i64 0,.slice none 0 0,.slice none 0 0,.slice none 0 0,.slice none 0 0] 41 (0,0)):=by
        rw[<-bK.d];simp only[World.setRow,dH];rw[if_neg (by omega)]
   have gL:(W4.setRow w.heap.size (vs.setIfInBounds 18 (.slice (some ⟨g,0,none⟩) N cap))).heap[g]?=some (.cells bA 61 (0,0)):=by
        rw[<-mM];simp only[World.setRow,dH];rw[if_neg (by omega)]
   have mK:Below w.heap.size w (W4.setRow w.heap.size (vs.setIfInBounds 18 (.slice (some ⟨g,0,none⟩) N cap))):=by
        refine bK.below.trans ⟨rfl,rfl,rfl,by simp[World.setRow],λq hq=>?_⟩;simp only[World.setRow,dH];rw[if_neg (by omega)]
   have aI:(vs.setIfInBounds 18 (.slice (some ⟨g,0,none⟩) N cap)).all (·.oneCell')=true:=by
        rw[vh] at h1 ⊢;intro u hu;rcases xx hu with h|h
        .exact h1 u h
        .subst h;rfl
   have ix:(vs.setIfInBounds 18 (.slice (some ⟨g,0,none⟩) N cap)).size=19:=by simp[cS]
   generalize W4.setRow w.heap.size (vs.setIfInBounds 18 (.slice (some ⟨g,0,none⟩) N cap))=W6 at*;generalize qV:vs.setIfInBounds 18 (.slice (some ⟨g,0,none⟩) N cap)=bo at*;have HV:Hid (vs.setIfInBounds 18 (.slice (some ⟨g,0,none⟩) N cap)=bo):=qV;clear qV;have eX:(Tryz.prog.info? 41).map (·.size)=some bo.size:=by rw[ix];kernel_rfl
   clear BF bZ hA od cf bK mM
   go_wp2_with (first
        |(refine wpList_load_row rfl 41 _ rfl w.heap.size rfl 41 bo (0,0) _ mL Tryz.underlying41 rfl eX ?_)
        |(refine wpList_store_row rfl 41 _ _ rfl (w.heap.size+1+1+1) bo rfl rfl 41 _ ij eX (by rw[ix];rfl) aI ?_))
   refine bodyPost_ret (results_cell_row (p:=8) (ty:=41) rfl _ _ (w.heap.size+1+1+1) 41 bo (0,0) _ rfl (setRow_heap W6 (w.heap.size+1+1+1) _ bo 41 (0,0) ij) Tryz.underlying41 rfl eX) rfl ?_;refine⟨_,g,cap,by rw[HV.out],?_,by omega,rfl,vT,eB,λj u hj=>?_⟩
   .refine mK.trans ⟨rfl,rfl,rfl,by simp[World.setRow],λq hq=>?_⟩;simp only[World.setRow,dH];rw[if_neg (by omega)]
   .have mN:(W6.setRow (w.heap.size+1+1+1) bo).heap[g]?=some (.cells bA 61 (0,0)):=by
     rw[<-gL];simp only[World.setRow,dH];rw[if_neg (by omega)]
    have:=HC.out j u hj;simpa [World.cell?,mN] using this
 .skip
  go_enter Tryz.func16,Tryz.ntmps16
  go_wp2_with (first
   |(go_at_call 33
     have dg:=zY w (.cells vs 41 (0,0)) (.cells #[.int .i64 k] 3 (0,0)) (.cells #[.int .i64 a] 3 (0,0)) (.cells #[.int .i64 0,.int .i64 0,.int .i64 0,.int .i64 0,.int .i64 0,.int .i64 0,.int .i64 0,.int .i64 0,.int .i64 0,.int .i64 0,.int .i64 0,.int .i64 0,.int .i64 0,.int .i64 0,.int .i64 0,.slice none 0 0,.slice none 0 0,.slice none 0 0,.slice none 0 0] 41 (0,0)) (.cells #[.int .i64 k,.int .i64 a,.int .i64 1] 61 (0,0));refine(A1 jz N cells _ (gd.below dg.below) hN jF).mono ?_;rintro e W1 ⟨v',rfl,be,cH⟩;have cg:=dg.step (cH.mono dg.size);have hB:w.heap.size+5<=(((((w.alloc (.cells vs 41 (0,0))).alloc (.cells #[.int .i64 k] 3 (0,0))).alloc (.cells #[.int .i64 a] 3 (0,0))).alloc (.cells #[.int .i64 0,.int .i64 0,.int .i64 0,.int .i64 0,.int .i64 0,.int .i64 0,.int .i64 0,.int .i64 0,.int .i64 0,.int .i64 0,.int .i64 0,.int .i64 0,.int .i64 0,.int .i64 0,.int .i64 0,.slice none 0 0,.slice none 0 0,.slice none 0 0,.slice none 0 0] 41 (0,0))).alloc (.cells #[.int .i64 k,.int .i64 a,.int .i64 1] 61 (0,0))).heap.size:=dg.size;clear cH dg)
   |(go_at_call 34
     refine(hI W1 v' (w.heap.size+1) (w.heap.size+1+1) cg.below (fo.of_own be) (by simp[World.cell?,cg.b]) (by simp[World.cell?,cg.c])).mono ?_;rintro e W2 ⟨rfl,bC⟩;have dA:=cg.step (bC.mono cg.size);have ji:=nL be bC;clear bC cg be;rcases ji.2 with⟨_,h0⟩|⟨g,cap,cur,rfl,qG,dx,vT,eB,hg5,gL⟩
     .exact absurd h0 (by omega)
     obtain⟨e0,e1,e2,ef⟩:=z7 W2 _ _ _ _ dA.e;have ui:∀j,W2.frozen? ⟨g,j,none⟩=false:=λj=>by simp[World.frozen?,dx]
     obtain⟨u0,yO⟩:∃u,W2.cell? ⟨g,i*3,none⟩=some u:=⟨_,by simp[World.cell?,dx];exact eT (show i*3<cur.size by omega)⟩
     obtain⟨u1,Fm⟩:∃u,W2.cell? ⟨g,i*3+1,none⟩=some u:=⟨_,by simp[World.cell?,dx];exact eT (show i*3+1<cur.size by omega)⟩
     obtain⟨u2,Fo⟩:∃u,W2.cell? ⟨g,i*3+2,none⟩=some u:=⟨_,by simp[World.cell?,dx];exact eT (show i*3+2<cur.size by omega)⟩
     have hgB:w.heap.size+5<=g:=cn hB qG;have cN:(i:Int)<(N:Int):=by omega
     clear hB qG))
  obtain⟨bA,ED,K7,yw⟩:=af9 W2 g (i*3) cur (.int .i64 k) (.int .i64 a) (.int .i64 1) dx (by omega);rw[ED];have cU:Bx w (W2.setRow g bA).drew (.cells vs 41 (0,0)) (.cells #[.int .i64 k] 3 (0,0)) (.cells #[.int .i64 a] 3 (0,0)) (.cells #[.int .i64 0,.int .i64 0,.int .i64 0,.int .i64 0,.int .i64 0,.int .i64 0,.int .i64 0,.int .i64 0,.int .i64 0,.int .i64 0,.int .i64 0,.int .i64 0,.int .i64 0,.int .i64 0,.int .i64 0,.slice none 0 0,.slice none 0 0,.slice none 0 0,.slice none 0 0] 41 (0,0)) (.cells #[.int .i64 k,.int .i64 a,.int .i64 1] 61 (0,0)):=by
   refine Bx.drew (dA.step ⟨rfl,rfl,rfl,by simp[World.setRow],λq hq=>?_⟩);simp only[World.setRow,dH];rw[if_neg (by omega)]
  have gW:(W2.setRow g bA).drew.heap[g]?=some (.cells bA 61 (0,0)):=setRow_heap W2 g cur bA 61 (0,0) dx;clear ED dA ji e0 e1 e2 ef ui yO Fm Fo dx;generalize P9:W2.setRow g bA=W3 at*;clear P9
  have yh:∀j u,(cells.drop ((i+1)*3))[j]?=some u->bA[(i+1)*3+j]?=some u:=λj u hj=>by
   rw[eH,<-gL,dJ] at hj;split at hj
   .rw[<-zH,yw,kD,jX (by rw[dv];omega),dv,jZ (by rw[tu];omega),jX (by simp;omega),eH];rw[<-hj]
    congr 1
    simp;omega
   .cases hj
  have aR:(cells.drop ((i+1)*3)).length=(N-(i+1))*3:=by rw[tD,<-gL,dv,tu];omega
  have Qj:∀u∈cells.drop ((i+1)*3),u.oneCell'=true:=λu hu=>jF u (zQ hu);have hNi:i+1+(N-(i+1))=N:=by omega
  have eN:IntKind.i64.wrap ((i:Int)+1)=(i:Int)+1:=by rw[IntKind.wrap_i64];omega
  have cH:(0:Int)<=(i:Int)+1:=by omega
  have bC:(i:Int)+1<=(N:Int):=by omega
  have fV:(i:Int)+1<=(cap:Int):=by omega
  have Ro:((i:Int)+1).toNat=i+1:=by omega
  have vU:(w.heap.size==g)=false:=by simp;omega
  have mixed:Tryz.prog.follows .mixedOrders=true:=by kernel_rfl
  have HC:Hid (∀j u,(cells.take (i*3)++[.int .i64 k,.int .i64 a,.int .i64 1]++cells.drop ((i+1)*3))[j]?=some u->bA[j]?=some u):=λj u hj=>by
   have e:cells.take (i*3)++[.int .i64 k,.int .i64 a,.int .i64 1]++cells.drop ((i+1)*3)=bA.toList.take (N*3):=by
        rw[yw,<-gL,H0,jZ (by omega),List.drop_take,show(i+1)*3=i*3+3 by omega];have hA:(cur.toList.take (i*3)++[Value.int .i64 k,.int .i64 a,.int .i64 1]).length=i*3+3:=by simp;omega
        rw[List.take_append,vt (l:=cur.toList.take (i*3)++_) (by omega),hA]
   rw[e,dJ] at hj;split at hj
   .simpa using hj
   .cases hj
  clear gL yw;by_cases fH:cap=i+1
  .obtain rfl:N=i+1:=by omega
   subst fH
   go_region_with_o (go_at_call 35
                     refine(JU _ _ _ _ (hD W3.drew _ _ _ cU.below ⟨aR,.inl ⟨some ⟨g,0,none⟩,rfl,by omega⟩⟩ (by simp[World.cell?,cU.b]) (by simp[World.cell?,cU.c]))).mono ?_;rintro e W4 ⟨rfl,lZ⟩;have bK:=cU.step (lZ.mono cU.size);have mM:W4.heap[g]?=some (.cells bA 61 (0,0)):=(lZ.block g (dV.1 gW).1).trans gW;have od:W4.cell? ⟨w.heap.size,18,none⟩=some jz:=by simp[World.cell?,bK.a,nB]
                     have cf:W4.frozen? ⟨w.heap.size,18,none⟩=false:=by simp[World.frozen?,bK.a]
                     clear lZ cU gW)
   have hA:=setCell_eq_setRow W4 w.heap.size 18 vs 41 (0,0) (.slice (some ⟨g,0,none⟩) (i+1) (i+1)) bK.a;rw[hA];have mL:(W4.setRow w.heap.size (vs.setIfInBounds 18 (.slice (some ⟨g,0,none⟩) (i+1) (i+1)))).heap[w.heap.size]?=some (.cells (vs.setIfInBounds 18 (.slice (some ⟨g,0,none⟩) (i+1) (i+1))) 41 (0,0)):=setRow_heap W4 w.heap.size vs _ 41 (0,0) bK.a;have ij:(W4.setRow w.heap.size (vs.setIfInBounds 18 (.slice (some ⟨g,0,none⟩) (i+1) (i+1)))).heap[w.heap.size+1+1+1]?=some (.cells #[.int .i64 0,.int .i64 0,.int .i64 0,.int .i64 0,.int .i64 0,.int .i64 0,.int .i64 0,.int .i64 0,.int .i64 0,.int .i64 0,.int .i64 0,.int .i64 0,.int .i64 0,.int .i64 0,.int .i64 0,.slice none 0 0,.slice none 0 0,.slice none 0 0,.slice none 0 0] 41 (0,0)):=by
        rw[<-bK.d];simp only[World.setRow,dH];rw[if_neg (by omega)]
   have gL:(W4.setRow w.heap.size (vs.setIfInBounds 18 (.slice (some ⟨g,0,none⟩) (i+1) (i+1)))).heap[g]?=some (.cells bA 61 (0,0)):=by
        rw[<-mM];simp only[World.setRow,dH];rw[if_neg (by omega)]
   have mK:Below w.heap.size w (W4.setRow w.heap.size (vs.setIfInBounds 18 (.slice (some ⟨g,0,none⟩) (i+1) (i+1)))):=by
        refine bK.below.trans ⟨rfl,rfl,rfl,by simp[World.setRow],λq hq=>?_⟩;simp only[World.setRow,dH];rw[if_neg (by omega)]
   have aI:(vs.setIfInBounds 18 (.slice (some ⟨g,0,none⟩) (i+1) (i+1))).all (·.oneCell')=true:=by
        rw[vh] at h1 ⊢;intro u hu;rcases xx hu with h|h
        .exact h1 u h
        .subst h;rfl
   have ix:(vs.setIfInBounds 18 (.slice (some ⟨g,0,none⟩) (i+1) (i+1))).size=19:=by simp[cS]
   generalize W4.setRow w.heap.size (vs.setIfInBounds 18 (.slice (some ⟨g,0,none⟩) (i+1) (i+1)))=W6 at*;generalize qV:vs.setIfInBounds 18 (.slice (some ⟨g,0,none⟩) (i+1) (i+1))=bo at*;have HV:Hid (vs.setIfInBounds 18 (.slice (some ⟨g,0,none⟩) (i+1) (i+1))=bo):=qV;clear qV;have eX:(Tryz.prog.info? 41).map (·.size)=some bo.size:=by rw[ix];kernel_rfl
   clear hA od cf bK mM
   go_wp2_with (first
        |(refine wpList_load_row rfl 41 _ rfl w.heap.size rfl 41 bo (0,0) _ mL Tryz.underlying41 rfl eX ?_)
        |(refine wpList_store_row rfl 41 _ _ rfl (w.heap.size+1+1+1) bo rfl rfl 41 _ ij eX (by rw[ix];rfl) aI ?_))
   refine bodyPost_ret (results_cell_row (p:=8) (ty:=41) rfl _ _ (w.heap.size+1+1+1) 41 bo (0,0) _ rfl (setRow_heap W6 (w.heap.size+1+1+1) _ bo 41 (0,0) ij) Tryz.underlying41 rfl eX) rfl ?_;refine⟨_,g,i+1,by rw[HV.out],?_,by omega,rfl,vT,eB,λj u hj=>?_⟩
   .refine mK.trans ⟨rfl,rfl,rfl,by simp[World.setRow],λq hq=>?_⟩;simp only[World.setRow,dH];rw[if_neg (by omega)]
   .have mN:(W6.setRow (w.heap.size+1+1+1) bo).heap[g]?=some (.cells bA 61 (0,0)):=by
     rw[<-gL];simp only[World.setRow,dH];rw[if_neg (by omega)]
    have:=HC.out j u hj;simpa [World.cell?,mN] using this
  .go_region_with_o (go_at_call 35
                     refine(JU _ _ _ _ (hD W3.drew _ _ _ cU.below ⟨aR,.inr ⟨g,(i+1)*3,cap-(i+1),rfl,by omega,by omega,λj u hj=>by have:=yh j u hj;simpa [World.cell?,gW] using this⟩⟩ (by simp[World.cell?,cU.b]) (by simp[World.cell?,cU.c]))).mono ?_;rintro e W4 ⟨rfl,lZ⟩;have bK:=cU.step (lZ.mono cU.size);have mM:W4.heap[g]?=some (.cells bA 61 (0,0)):=(lZ.block g (dV.1 gW).1).trans gW;have BF:=abP W4 ⟨g,(i+1)*3,none⟩ ((N-(i+1))*3) (cells.drop ((i+1)*3)) aR (λj u hj=>by have:=yh j u hj;rw[Addr.add_lit];simpa [World.cell?,mM] using this);have bZ:=agq W4 g ((i+1)*3) bA (cells.drop ((i+1)*3)) mM yh Qj;have od:W4.cell? ⟨w.heap.size,18,none⟩=some jz:=by simp[World.cell?,bK.a,nB]
                     have cf:W4.frozen? ⟨w.heap.size,18,none⟩=false:=by simp[World.frozen?,bK.a]
                     clear lZ cU gW)
   have hA:=setCell_eq_setRow W4 w.heap.size 18 vs 41 (0,0) (.slice (some ⟨g,0,none⟩) N cap) bK.a;rw[hA];have mL:(W4.setRow w.heap.size (vs.setIfInBounds 18 (.slice (some ⟨g,0,none⟩) N cap))).heap[w.heap.size]?=some (.cells (vs.setIfInBounds 18 (.slice (some ⟨g,0,none⟩) N cap)) 41 (0,0)):=setRow_heap W4 w.heap.size vs _ 41 (0,0) bK.a;have ij:(W4.setRow w.heap.size (vs.setIfInBounds 18 (.slice (some ⟨g,0,none⟩) N cap))).heap[w.heap.size+1+1+1]?=some (.cells #[.int .i64 0,.int .i64 0,.int .i64 0,.int .i64 0,.int .i64 0,.int .i64 0,.int .i64 0,.int .i64 0,.int .i64 0,.int .i64 0,.int .i64 0,.int .i64 0,.int .i64 0,.int .i64 0,.int .i64 0,.slice none 0 0,.slice none 0 0,.slice none 0 0,.slice none 0 0] 41 (0,0)):=by
        rw[<-bK.d];simp only[World.setRow,dH];rw[if_neg (by omega)]
   have gL:(W4.setRow w.heap.size (vs.setIfInBounds 18 (.slice (some ⟨g,0,none⟩) N cap))).heap[g]?=some (.cells bA 61 (0,0)):=by
        rw[<-mM];simp only[World.setRow,dH];rw[if_neg (by omega)]
   have mK:Below w.heap.size w (W4.setRow w.heap.size (vs.setIfInBounds 18 (.slice (some ⟨g,0,none⟩) N cap))):=by
        refine bK.below.trans ⟨rfl,rfl,rfl,by simp[World.setRow],λq hq=>?_⟩;simp only[World.setRow,dH];rw[if_neg (by omega)]
   have aI:(vs.setIfInBounds 18 (.slice (some ⟨g,0,none⟩) N cap)).all (·.oneCell')=true:=by
        rw[vh] at h1 ⊢;intro u hu;rcases xx hu with h|h
        .exact h1 u h
        .subst h;rfl
   have ix:(vs.setIfInBounds 18 (.slice (some ⟨g,0,none⟩) N cap)).size=19:=by simp[cS]
   generalize W4.setRow w.heap.size (vs.setIfInBounds 18 (.slice (some ⟨g,0,none⟩) N cap))=W6 at*;generalize qV:vs.setIfInBounds 18 (.slice (some ⟨g,0,none⟩) N cap)=bo at*;have HV:Hid (vs.setIfInBounds 18 (.slice (some ⟨g,0,none⟩) N cap)=bo):=qV;clear qV;have eX:(Tryz.prog.info? 41).map (·.size)=some bo.size:=by rw[ix];kernel_rfl
   clear BF bZ hA od cf bK mM
   go_wp2_with (first
        |(refine wpList_load_row rfl 41 _ rfl w.heap.size rfl 41 bo (0,0) _ mL Tryz.underlying41 rfl eX ?_)
        |(refine wpList_store_row rfl 41 _ _ rfl (w.heap.size+1+1+1) bo rfl rfl 41 _ ij eX (by rw[ix];rfl) aI ?_))
   refine bodyPost_ret (results_cell_row (p:=8) (ty:=41) rfl _ _ (w.heap.size+1+1+1) 41 bo (0,0) _ rfl (setRow_heap W6 (w.heap.size+1+1+1) _ bo 41 (0,0) ij) Tryz.underlying41 rfl eX) rfl ?_;refine⟨_,g,cap,by rw[HV.out],?_,by omega,rfl,vT,eB,λj u hj=>?_⟩
   .refine mK.trans ⟨rfl,rfl,rfl,by simp[World.setRow],λq hq=>?_⟩;simp only[World.setRow,dH];rw[if_neg (by omega)]
   .have mN:(W6.setRow (w.heap.size+1+1+1) bo).heap[g]?=some (.cells bA 61 (0,0)):=by
     rw[<-gL];simp only[World.setRow,dH];rw[if_neg (by omega)]
    have:=HC.out j u hj;simpa [World.cell?,mN] using this
set_option maxHeartbeats 4000000 in
def aum (vs:Array Value)(jz:Value)(cS:vs.size=19)(nB:vs[18]?=some jz)(h1:vs.all (·.oneCell')=true)(k a n m:Int)(hm:n=0/\m=0\/n≠0/\m=1)
 (w:World) (N j:Nat) (jv:Int) (hj:jv<0/\j=N\/jv=(j:Int)/\j<=N) (cells:List Value) (gd:fo w jz N cells) (hN:N<=4294967296) (jF:∀v∈cells,v.oneCell'=true)
 (hI:∀W v p q,Below w.heap.size w W->fo W v N cells->W.cell? ⟨p,0,none⟩=some (.int .i64 k)->W.cell? ⟨q,0,none⟩=some (.int .i64 a)->Calls Tryz.prog 34 #[v,AZ 32 p q] W λe w'=>e=.returned (.int .i64 (-1))/\Below W.heap.size W w')
 (hJ:∀W v p q,Below w.heap.size w W->fo W v N cells->W.cell? ⟨p,0,none⟩=some (.int .i64 a)->W.cell? ⟨q,0,none⟩=some (.int .i64 k)->Calls Tryz.prog 34 #[v,AZ 36 p q] W λe w'=>e=.returned (.int .i64 jv)/\Below W.heap.size W w'):
 Calls Tryz.prog 16 #[.agg vs,.int .i64 k,.int .i64 a,.int .i64 n] w λe w'=>∃v' g c,e=.returned (.agg (vs.setIfInBounds 18 v'))/\
  Below w.heap.size w w'/\w.heap.size<=g/\v'=.slice (some ⟨g,0,none⟩) (N+1) c/\N+1<=c/\c<=maxLen/\∀i u,(cells.take (j*3)++[.int .i64 k,.int .i64 a,.int .i64 m]++cells.drop (j*3))[i]?=some u->w'.cell? ⟨g,i,none⟩=some u:=by
 have aoQ:vs[18]'(by omega)=jz:=(dV.1 nB).2;have KL:j<=N:=by omega
 rcases hm with⟨rfl,rfl⟩|⟨hn,rfl⟩
 .rcases hj with⟨hj,Qz⟩|⟨rfl,hj⟩
  obtain rfl:N=j:=Qz.symm
  .go_enter Tryz.func16,Tryz.ntmps16
   go_wp2_with (first
        |(go_at_call 33
          have dg:=zY w (.cells vs 41 (0,0)) (.cells #[.int .i64 k] 3 (0,0)) (.cells #[.int .i64 a] 3 (0,0)) (.cells #[.int .i64 0,.int .i64 0,.int .i64 0,.int .i64 0,.int .i64 0,.int .i64 0,.int .i64 0,.int .i64 0,.int .i64 0,.int .i64 0,.int .i64 0,.int .i64 0,.int .i64 0,.int .i64 0,.int .i64 0,.slice none 0 0,.slice none 0 0,.slice none 0 0,.slice none 0 0] 41 (0,0)) (.cells #[.int .i64 k,.int .i64 a,.int .i64 0] 61 (0,0));refine(A1 jz N cells _ (gd.below dg.below) hN jF).mono ?_;rintro e W1 ⟨v',rfl,be,cH⟩;have cg:=dg.step (cH.mono dg.size);have hB:w.heap.size+5<=(((((w.alloc (.cells vs 41 (0,0))).alloc (.cells #[.int .i64 k] 3 (0,0))).alloc (.cells #[.int .i64 a] 3 (0,0))).alloc (.cells #[.int .i64 0,.int .i64 0,.int .i64 0,.int .i64 0,.int .i64 0,.int .i64 0,.int .i64 0,.int .i64 0,.int .i64 0,.int .i64 0,.int .i64 0,.int .i64 0,.int .i64 0,.int .i64 0,.int .i64 0,.slice none 0 0,.slice none 0 0,.slice none 0 0,.slice none 0 0] 41 (0,0))).alloc (.cells #[.int .i64 k,.int .i64 a,.int .i64 0] 61 (0,0))).heap.size:=dg.size;have mI:(((((w.alloc (.cells vs 41 (0,0))).alloc (.cells #[.int .i64 k] 3 (0,0))).alloc (.cells #[.int .i64 a] 3 (0,0))).alloc (.cells #[.int .i64 0,.int .i64 0,.int .i64 0,.int .i64 0,.int .i64 0,.int .i64 0,.int .i64 0,.int .i64 0,.int .i64 0,.int .i64 0,.int .i64 0,.int .i64 0,.int .i64 0,.int .i64 0,.int .i64 0,.slice none 0 0,.slice none 0 0,.slice none 0 0,.slice none 0 0] 41 (0,0))).alloc (.cells #[.int .i64 k,.int .i64 a,.int .i64 0] 61 (0,0))).heap.size<=W1.heap.size:=cH.size;generalize (((((w.alloc (.cells vs 41 (0,0))).alloc (.cells #[.int .i64 k] 3 (0,0))).alloc (.cells #[.int .i64 a] 3 (0,0))).alloc (.cells #[.int .i64 0,.int .i64 0,.int .i64 0,.int .i64 0,.int .i64 0,.int .i64 0,.int .i64 0,.int .i64 0,.int .i64 0,.int .i64 0,.int .i64 0,.int .i64 0,.int .i64 0,.int .i64 0,.int .i64 0,.slice none 0 0,.slice none 0 0,.slice none 0 0,.slice none 0 0] 41 (0,0))).alloc (.cells #[.int .i64 k,.int .i64 a,.int .i64 0] 61 (0,0))).heap.size=B0 at be hB mI;clear cH dg)
        |(go_at_call 34
          refine(hI W1 v' (w.heap.size+1) (w.heap.size+1+1) cg.below (fo.of_own be) (by simp[World.cell?,cg.b]) (by simp[World.cell?,cg.c])).mono ?_;rintro e W2 ⟨rfl,bC⟩;have dA:=cg.step (bC.mono cg.size);have ji:=nL be bC;have mJ:B0<=W2.heap.size:=cn mI bC.size;clear bC cg be mI)
        |(go_at_call 34
          refine(hJ W2 v' (w.heap.size+1+1) (w.heap.size+1) dA.below (fo.of_own ji) (by simp[World.cell?,dA.c]) (by simp[World.cell?,dA.b])).mono ?_;rintro e W3 ⟨rfl,fV⟩;have cU:=dA.step (fV.mono dA.size);have iv:=nL ji fV;have P5:B0<=W3.heap.size:=cn mJ fV.size;obtain⟨e0,e1,e2,ef⟩:=z7 W3 _ _ _ _ cU.e;have hlen:∃p c,v'=.slice p N c:=by
           rcases iv.2 with⟨e,h0⟩|⟨g,cap,cur,e,_⟩
           .exact⟨none,0,by rw[e,h0]⟩
           .exact⟨_,_,e⟩
          obtain⟨p0,c0,rfl⟩:=hlen;clear fV dA ji mJ)
        |(go_at_call 39
          refine(Lg B0 (.slice p0 N c0) N N cells [.int .i64 k,.int .i64 a,.int .i64 0] W3.heap.size (W3.alloc (.cells #[.int .i64 k,.int .i64 a,.int .i64 0] 61)) (by simp;omega) (nL iv ((Below.refl _ _).alloc (aY _) _)) KL hN rfl (by show(W3.heap.push _)[W3.heap.size]?=_;exact De) (by simp[Value.oneCell']) jF (λe=>by have:=(iv.lt _ e).2;omega)).mono ?_;rintro e W4 ⟨zC,rfl,qO,eB⟩
          have jJ:Below (w.heap.size+5) W3 W4:=⟨eB.os,eB.tape,eB.output,cn (by simp) eB.size,λq hq=>by
           have hs:=cU.size;refine(eB.block q (by simp;omega) (λe=>?_)).trans (Below.heap_alloc _ _ _ (by omega));have:=(iv.lt q e.symm).1;omega⟩
          have bK:=cU.step jJ;have od:W4.cell? ⟨w.heap.size,18,none⟩=some jz:=by simp[World.cell?,bK.a,nB]
          have cf:W4.frozen? ⟨w.heap.size,18,none⟩=false:=by simp[World.frozen?,bK.a]
          obtain⟨g,cap,bA,rfl,bW,bN,iQ,nz,QA,qI⟩:∃g cap bA,zC=.slice (some ⟨g,0,none⟩) (N+1) cap/\B0<=g/\W4.heap[g]?=some (.cells bA 61 (0,0))/\N+1<=cap/\cap<=maxLen/\bA.size=cap*3/\bA.toList.take ((N+1)*3)=cells.take (N*3)++[.int .i64 k,.int .i64 a,.int .i64 0]++cells.drop (N*3):=by
           rcases qO.2 with⟨_,h0⟩|h
           .exact absurd h0 (by omega)
           .exact h
          obtain⟨bo,HV⟩:∃y,Hid (vs.setIfInBounds 18 (.slice (some ⟨g,0,none⟩) (N+1) cap)=y):=⟨_,rfl⟩
          have hX:=setCell_eq_setRow W4 w.heap.size 18 vs 41 (0,0) (.slice (some ⟨g,0,none⟩) (N+1) cap) bK.a;rw[HV.out] at hX;have mL:(W4.setCell ⟨w.heap.size,18,none⟩ (.slice (some ⟨g,0,none⟩) (N+1) cap)).heap[w.heap.size]?=some (.cells bo 41 (0,0)):=by rw[hX];exact setRow_heap W4 w.heap.size vs bo 41 (0,0) bK.a
          have ij:(W4.setCell ⟨w.heap.size,18,none⟩ (.slice (some ⟨g,0,none⟩) (N+1) cap)).heap[w.heap.size+1+1+1]?=some (.cells #[.int .i64 0,.int .i64 0,.int .i64 0,.int .i64 0,.int .i64 0,.int .i64 0,.int .i64 0,.int .i64 0,.int .i64 0,.int .i64 0,.int .i64 0,.int .i64 0,.int .i64 0,.int .i64 0,.int .i64 0,.slice none 0 0,.slice none 0 0,.slice none 0 0,.slice none 0 0] 41 (0,0)):=by
           rw[<-bK.d];exact Below.heap_setCell _ _ _ _ (by show w.heap.size+1+1+1≠w.heap.size;omega)
          have gL:(W4.setCell ⟨w.heap.size,18,none⟩ (.slice (some ⟨g,0,none⟩) (N+1) cap)).heap[g]?=some (.cells bA 61 (0,0)):=by
           rw[<-bN];exact Below.heap_setCell _ _ _ _ (by show g≠w.heap.size;omega)
          have mK:Below w.heap.size w (W4.setCell ⟨w.heap.size,18,none⟩ (.slice (some ⟨g,0,none⟩) (N+1) cap)):=bK.below.setCell (aY _) _;have aI:bo.all (·.oneCell')=true:=by
           rw[<-HV.out];rw[vh] at h1 ⊢;intro u hu;rcases xx hu with h|h
           .exact h1 u h
           .subst h;rfl
          have ix:bo.size=19:=by rw[<-HV.out];simp[cS]
          have eX:(Tryz.prog.info? 41).map (·.size)=some bo.size:=by rw[ix];kernel_rfl
          have HK:Hid (bA.toList.take ((N+1)*3)=cells.take (N*3)++[.int .i64 k,.int .i64 a,.int .i64 0]++cells.drop (N*3)):=qI;have gW:w.heap.size+5<=g:=cn hB bW;clear jJ eB qO iv cU e0 e1 e2 ef hX qI bN bK bW)
        |(refine wpList_load_row rfl 41 _ rfl w.heap.size rfl 41 bo (0,0) _ mL Tryz.underlying41 rfl eX ?_)
        |(refine wpList_store_row rfl 41 _ _ rfl (w.heap.size+1+1+1) bo rfl rfl 41 _ ij eX (by rw[ix];rfl) aI ?_))
   refine bodyPost_ret (results_cell_row (p:=8) (ty:=41) rfl _ _ (w.heap.size+1+1+1) 41 bo (0,0) _ rfl (setRow_heap _ (w.heap.size+1+1+1) _ bo 41 (0,0) ij) Tryz.underlying41 rfl eX) rfl ?_;refine⟨_,g,cap,by rw[HV.out],?_,by omega,rfl,iQ,nz,λi u hj=>?_⟩
   .refine mK.trans ⟨rfl,rfl,rfl,by simp[World.setRow],λq hq=>?_⟩;simp only[World.setRow,dH];rw[if_neg (by omega)]
   .have mN:((W4.setCell ⟨w.heap.size,18,none⟩ (.slice (some ⟨g,0,none⟩) (N+1) cap)).setRow (w.heap.size+1+1+1) bo).heap[g]?=some (.cells bA 61 (0,0)):=by
     rw[<-gL];simp only[World.setRow,dH];rw[if_neg (by omega)]
    rw[<-HK.out,dJ] at hj;split at hj
    .simpa [World.cell?,mN] using hj
    .cases hj
  .go_enter Tryz.func16,Tryz.ntmps16
   go_wp2_with (first
        |(go_at_call 33
          have dg:=zY w (.cells vs 41 (0,0)) (.cells #[.int .i64 k] 3 (0,0)) (.cells #[.int .i64 a] 3 (0,0)) (.cells #[.int .i64 0,.int .i64 0,.int .i64 0,.int .i64 0,.int .i64 0,.int .i64 0,.int .i64 0,.int .i64 0,.int .i64 0,.int .i64 0,.int .i64 0,.int .i64 0,.int .i64 0,.int .i64 0,.int .i64 0,.slice none 0 0,.slice none 0 0,.slice none 0 0,.slice none 0 0] 41 (0,0)) (.cells #[.int .i64 k,.int .i64 a,.int .i64 0] 61 (0,0));refine(A1 jz N cells _ (gd.below dg.below) hN jF).mono ?_;rintro e W1 ⟨v',rfl,be,cH⟩;have cg:=dg.step (cH.mono dg.size);have hB:w.heap.size+5<=(((((w.alloc (.cells vs 41 (0,0))).alloc (.cells #[.int .i64 k] 3 (0,0))).alloc (.cells #[.int .i64 a] 3 (0,0))).alloc (.cells #[.int .i64 0,.int .i64 0,.int .i64 0,.int .i64 0,.int .i64 0,.int .i64 0,.int .i64 0,.int .i64 0,.int .i64 0,.int .i64 0,.int .i64 0,.int .i64 0,.int .i64 0,.int .i64 0,.int .i64 0,.slice none 0 0,.slice none 0 0,.slice none 0 0,.slice none 0 0] 41 (0,0))).alloc (.cells #[.int .i64 k,.int .i64 a,.int .i64 0] 61 (0,0))).heap.size:=dg.size;have mI:(((((w.alloc (.cells vs 41 (0,0))).alloc (.cells #[.int .i64 k] 3 (0,0))).alloc (.cells #[.int .i64 a] 3 (0,0))).alloc (.cells #[.int .i64 0,.int .i64 0,.int .i64 0,.int .i64 0,.int .i64 0,.int .i64 0,.int .i64 0,.int .i64 0,.int .i64 0,.int .i64 0,.int .i64 0,.int .i64 0,.int .i64 0,.int .i64 0,.int .i64 0,.slice none 0 0,.slice none 0 0,.slice none 0 0,.slice none 0 0] 41 (0,0))).alloc (.cells #[.int .i64 k,.int .i64 a,.int .i64 0] 61 (0,0))).heap.size<=W1.heap.size:=cH.size;generalize (((((w.alloc (.cells vs 41 (0,0))).alloc (.cells #[.int .i64 k] 3 (0,0))).alloc (.cells #[.int .i64 a] 3 (0,0))).alloc (.cells #[.int .i64 0,.int .i64 0,.int .i64 0,.int .i64 0,.int .i64 0,.int .i64 0,.int .i64 0,.int .i64 0,.int .i64 0,.int .i64 0,.int .i64 0,.int .i64 0,.int .i64 0,.int .i64 0,.int .i64 0,.slice none 0 0,.slice none 0 0,.slice none 0 0,.slice none 0 0] 41 (0,0))).alloc (.cells #[.int .i64 k,.int .i64 a,.int .i64 0] 61 (0,0))).heap.size=B0 at be hB mI;clear cH dg)
        |(go_at_call 34
          refine(hI W1 v' (w.heap.size+1) (w.heap.size+1+1) cg.below (fo.of_own be) (by simp[World.cell?,cg.b]) (by simp[World.cell?,cg.c])).mono ?_;rintro e W2 ⟨rfl,bC⟩;have dA:=cg.step (bC.mono cg.size);have ji:=nL be bC;have mJ:B0<=W2.heap.size:=cn mI bC.size;clear bC cg be mI)
        |(go_at_call 34
          refine(hJ W2 v' (w.heap.size+1+1) (w.heap.size+1) dA.below (fo.of_own ji) (by simp[World.cell?,dA.c]) (by simp[World.cell?,dA.b])).mono ?_;rintro e W3 ⟨rfl,fV⟩;have cU:=dA.step (fV.mono dA.size);have iv:=nL ji fV;have P5:B0<=W3.heap.size:=cn mJ fV.size;obtain⟨e0,e1,e2,ef⟩:=z7 W3 _ _ _ _ cU.e;have hlen:∃p c,v'=.slice p N c:=by
           rcases iv.2 with⟨e,h0⟩|⟨g,cap,cur,e,_⟩
           .exact⟨none,0,by rw[e,h0]⟩
           .exact⟨_,_,e⟩
          obtain⟨p0,c0,rfl⟩:=hlen;clear fV dA ji mJ)
        |(go_at_call 39
          refine(Lg B0 (.slice p0 N c0) N j cells [.int .i64 k,.int .i64 a,.int .i64 0] W3.heap.size (W3.alloc (.cells #[.int .i64 k,.int .i64 a,.int .i64 0] 61)) (by simp;omega) (nL iv ((Below.refl _ _).alloc (aY _) _)) KL hN rfl (by show(W3.heap.push _)[W3.heap.size]?=_;exact De) (by simp[Value.oneCell']) jF (λe=>by have:=(iv.lt _ e).2;omega)).mono ?_;rintro e W4 ⟨zC,rfl,qO,eB⟩
          have jJ:Below (w.heap.size+5) W3 W4:=⟨eB.os,eB.tape,eB.output,cn (by simp) eB.size,λq hq=>by
           have hs:=cU.size;refine(eB.block q (by simp;omega) (λe=>?_)).trans (Below.heap_alloc _ _ _ (by omega));have:=(iv.lt q e.symm).1;omega⟩
          have bK:=cU.step jJ;have od:W4.cell? ⟨w.heap.size,18,none⟩=some jz:=by simp[World.cell?,bK.a,nB]
          have cf:W4.frozen? ⟨w.heap.size,18,none⟩=false:=by simp[World.frozen?,bK.a]
          obtain⟨g,cap,bA,rfl,bW,bN,iQ,nz,QA,qI⟩:∃g cap bA,zC=.slice (some ⟨g,0,none⟩) (N+1) cap/\B0<=g/\W4.heap[g]?=some (.cells bA 61 (0,0))/\N+1<=cap/\cap<=maxLen/\bA.size=cap*3/\bA.toList.take ((N+1)*3)=cells.take (j*3)++[.int .i64 k,.int .i64 a,.int .i64 0]++cells.drop (j*3):=by
           rcases qO.2 with⟨_,h0⟩|h
           .exact absurd h0 (by omega)
           .exact h
          obtain⟨bo,HV⟩:∃y,Hid (vs.setIfInBounds 18 (.slice (some ⟨g,0,none⟩) (N+1) cap)=y):=⟨_,rfl⟩
          have hX:=setCell_eq_setRow W4 w.heap.size 18 vs 41 (0,0) (.slice (some ⟨g,0,none⟩) (N+1) cap) bK.a;rw[HV.out] at hX;have mL:(W4.setCell ⟨w.heap.size,18,none⟩ (.slice (some ⟨g,0,none⟩) (N+1) cap)).heap[w.heap.size]?=some (.cells bo 41 (0,0)):=by rw[hX];exact setRow_heap W4 w.heap.size vs bo 41 (0,0) bK.a
          have ij:(W4.setCell ⟨w.heap.size,18,none⟩ (.slice (some ⟨g,0,none⟩) (N+1) cap)).heap[w.heap.size+1+1+1]?=some (.cells #[.int .i64 0,.int .i64 0,.int .i64 0,.int .i64 0,.int .i64 0,.int .i64 0,.int .i64 0,.int .i64 0,.int .i64 0,.int .i64 0,.int .i64 0,.int .i64 0,.int .i64 0,.int .i64 0,.int .i64 0,.slice none 0 0,.slice none 0 0,.slice none 0 0,.slice none 0 0] 41 (0,0)):=by
           rw[<-bK.d];exact Below.heap_setCell _ _ _ _ (by show w.heap.size+1+1+1≠w.heap.size;omega)
          have gL:(W4.setCell ⟨w.heap.size,18,none⟩ (.slice (some ⟨g,0,none⟩) (N+1) cap)).heap[g]?=some (.cells bA 61 (0,0)):=by
           rw[<-bN];exact Below.heap_setCell _ _ _ _ (by show g≠w.heap.size;omega)
          have mK:Below w.heap.size w (W4.setCell ⟨w.heap.size,18,none⟩ (.slice (some ⟨g,0,none⟩) (N+1) cap)):=bK.below.setCell (aY _) _;have aI:bo.all (·.oneCell')=true:=by
           rw[<-HV.out];rw[vh] at h1 ⊢;intro u hu;rcases xx hu with h|h
           .exact h1 u h
           .subst h;rfl
          have ix:bo.size=19:=by rw[<-HV.out];simp[cS]
          have eX:(Tryz.prog.info? 41).map (·.size)=some bo.size:=by rw[ix];kernel_rfl
          have HK:Hid (bA.toList.take ((N+1)*3)=cells.take (j*3)++[.int .i64 k,.int .i64 a,.int .i64 0]++cells.drop (j*3)):=qI;have gW:w.heap.size+5<=g:=cn hB bW;clear jJ eB qO iv cU e0 e1 e2 ef hX qI bN bK bW)
        |(refine wpList_load_row rfl 41 _ rfl w.heap.size rfl 41 bo (0,0) _ mL Tryz.underlying41 rfl eX ?_)
        |(refine wpList_store_row rfl 41 _ _ rfl (w.heap.size+1+1+1) bo rfl rfl 41 _ ij eX (by rw[ix];rfl) aI ?_))
   refine bodyPost_ret (results_cell_row (p:=8) (ty:=41) rfl _ _ (w.heap.size+1+1+1) 41 bo (0,0) _ rfl (setRow_heap _ (w.heap.size+1+1+1) _ bo 41 (0,0) ij) Tryz.underlying41 rfl eX) rfl ?_;refine⟨_,g,cap,by rw[HV.out],?_,by omega,rfl,iQ,nz,λi u hj=>?_⟩
   .refine mK.trans ⟨rfl,rfl,rfl,by simp[World.setRow],λq hq=>?_⟩;simp only[World.setRow,dH];rw[if_neg (by omega)]
   .have mN:((W4.setCell ⟨w.heap.size,18,none⟩ (.slice (some ⟨g,0,none⟩) (N+1) cap)).setRow (w.heap.size+1+1+1) bo).heap[g]?=some (.cells bA 61 (0,0)):=by
     rw[<-gL];simp only[World.setRow,dH];rw[if_neg (by omega)]
    rw[<-HK.out,dJ] at hj;split at hj
    .simpa [World.cell?,mN] using hj
    .cases hj
 .rcases hj with⟨hj,Qz⟩|⟨rfl,hj⟩
  obtain rfl:N=j:=Qz.symm
  .go_enter Tryz.func16,Tryz.ntmps16
   go_wp2_with (first
        |(go_at_call 33
          have dg:=zY w (.cells vs 41 (0,0)) (.cells #[.int .i64 k] 3 (0,0)) (.cells #[.int .i64 a] 3 (0,0)) (.cells #[.int .i64 0,.int .i64 0,.int .i64 0,.int .i64 0,.int .i64 0,.int .i64 0,.int .i64 0,.int .i64 0,.int .i64 0,.int .i64 0,.int .i64 0,.int .i64 0,.int .i64 0,.int .i64 0,.int .i64 0,.slice none 0 0,.slice none 0 0,.slice none 0 0,.slice none 0 0] 41 (0,0)) (.cells #[.int .i64 k,.int .i64 a,.int .i64 1] 61 (0,0));refine(A1 jz N cells _ (gd.below dg.below) hN jF).mono ?_;rintro e W1 ⟨v',rfl,be,cH⟩;have cg:=dg.step (cH.mono dg.size);have hB:w.heap.size+5<=(((((w.alloc (.cells vs 41 (0,0))).alloc (.cells #[.int .i64 k] 3 (0,0))).alloc (.cells #[.int .i64 a] 3 (0,0))).alloc (.cells #[.int .i64 0,.int .i64 0,.int .i64 0,.int .i64 0,.int .i64 0,.int .i64 0,.int .i64 0,.int .i64 0,.int .i64 0,.int .i64 0,.int .i64 0,.int .i64 0,.int .i64 0,.int .i64 0,.int .i64 0,.slice none 0 0,.slice none 0 0,.slice none 0 0,.slice none 0 0] 41 (0,0))).alloc (.cells #[.int .i64 k,.int .i64 a,.int .i64 1] 61 (0,0))).heap.size:=dg.size;have mI:(((((w.alloc (.cells vs 41 (0,0))).alloc (.cells #[.int .i64 k] 3 (0,0))).alloc (.cells #[.int .i64 a] 3 (0,0))).alloc (.cells #[.int .i64 0,.int .i64 0,.int .i64 0,.int .i64 0,.int .i64 0,.int .i64 0,.int .i64 0,.int .i64 0,.int .i64 0,.int .i64 0,.int .i64 0,.int .i64 0,.int .i64 0,.int .i64 0,.int .i64 0,.slice none 0 0,.slice none 0 0,.slice none 0 0,.slice none 0 0] 41 (0,0))).alloc (.cells #[.int .i64 k,.int .i64 a,.int .i64 1] 61 (0,0))).heap.size<=W1.heap.size:=cH.size;generalize (((((w.alloc (.cells vs 41 (0,0))).alloc (.cells #[.int .i64 k] 3 (0,0))).alloc (.cells #[.int .i64 a] 3 (0,0))).alloc (.cells #[.int .i64 0,.int .i64 0,.int .i64 0,.int .i64 0,.int .i64 0,.int .i64 0,.int .i64 0,.int .i64 0,.int .i64 0,.int .i64 0,.int .i64 0,.int .i64 0,.int .i64 0,.int .i64 0,.int .i64 0,.slice none 0 0,.slice none 0 0,.slice none 0 0,.slice none 0 0] 41 (0,0))).alloc (.cells #[.int .i64 k,.int .i64 a,.int .i64 1] 61 (0,0))).heap.size=B0 at be hB mI;clear cH dg)
        |(go_at_call 34
          refine(hI W1 v' (w.heap.size+1) (w.heap.size+1+1) cg.below (fo.of_own be) (by simp[World.cell?,cg.b]) (by simp[World.cell?,cg.c])).mono ?_;rintro e W2 ⟨rfl,bC⟩;have dA:=cg.step (bC.mono cg.size);have ji:=nL be bC;have mJ:B0<=W2.heap.size:=cn mI bC.size;clear bC cg be mI)
        |(go_at_call 34
          refine(hJ W2 v' (w.heap.size+1+1) (w.heap.size+1) dA.below (fo.of_own ji) (by simp[World.cell?,dA.c]) (by simp[World.cell?,dA.b])).mono ?_;rintro e W3 ⟨rfl,fV⟩;have cU:=dA.step (fV.mono dA.size);have iv:=nL ji fV;have P5:B0<=W3.heap.size:=cn mJ fV.size;obtain⟨e0,e1,e2,ef⟩:=z7 W3 _ _ _ _ cU.e;have hlen:∃p c,v'=.slice p N c:=by
           rcases iv.2 with⟨e,h0⟩|⟨g,cap,cur,e,_⟩
           .exact⟨none,0,by rw[e,h0]⟩
           .exact⟨_,_,e⟩
          obtain⟨p0,c0,rfl⟩:=hlen;clear fV dA ji mJ)
        |(go_at_call 39
          refine(Lg B0 (.slice p0 N c0) N N cells [.int .i64 k,.int .i64 a,.int .i64 1] W3.heap.size (W3.alloc (.cells #[.int .i64 k,.int .i64 a,.int .i64 1] 61)) (by simp;omega) (nL iv ((Below.refl _ _).alloc (aY _) _)) KL hN rfl (by show(W3.heap.push _)[W3.heap.size]?=_;exact De) (by simp[Value.oneCell']) jF (λe=>by have:=(iv.lt _ e).2;omega)).mono ?_;rintro e W4 ⟨zC,rfl,qO,eB⟩
          have jJ:Below (w.heap.size+5) W3 W4:=⟨eB.os,eB.tape,eB.output,cn (by simp) eB.size,λq hq=>by
           have hs:=cU.size;refine(eB.block q (by simp;omega) (λe=>?_)).trans (Below.heap_alloc _ _ _ (by omega));have:=(iv.lt q e.symm).1;omega⟩
          have bK:=cU.step jJ;have od:W4.cell? ⟨w.heap.size,18,none⟩=some jz:=by simp[World.cell?,bK.a,nB]
          have cf:W4.frozen? ⟨w.heap.size,18,none⟩=false:=by simp[World.frozen?,bK.a]
          obtain⟨g,cap,bA,rfl,bW,bN,iQ,nz,QA,qI⟩:∃g cap bA,zC=.slice (some ⟨g,0,none⟩) (N+1) cap/\B0<=g/\W4.heap[g]?=some (.cells bA 61 (0,0))/\N+1<=cap/\cap<=maxLen/\bA.size=cap*3/\bA.toList.take ((N+1)*3)=cells.take (N*3)++[.int .i64 k,.int .i64 a,.int .i64 1]++cells.drop (N*3):=by
           rcases qO.2 with⟨_,h0⟩|h
           .exact absurd h0 (by omega)
           .exact h
          obtain⟨bo,HV⟩:∃y,Hid (vs.setIfInBounds 18 (.slice (some ⟨g,0,none⟩) (N+1) cap)=y):=⟨_,rfl⟩
          have hX:=setCell_eq_setRow W4 w.heap.size 18 vs 41 (0,0) (.slice (some ⟨g,0,none⟩) (N+1) cap) bK.a;rw[HV.out] at hX;have mL:(W4.setCell ⟨w.heap.size,18,none⟩ (.slice (some ⟨g,0,none⟩) (N+1) cap)).heap[w.heap.size]?=some (.cells bo 41 (0,0)):=by rw[hX];exact setRow_heap W4 w.heap.size vs bo 41 (0,0) bK.a
          have ij:(W4.setCell ⟨w.heap.size,18,none⟩ (.slice (some ⟨g,0,none⟩) (N+1) cap)).heap[w.heap.size+1+1+1]?=some (.cells #[.int .i64 0,.int .i64 0,.int .i64 0,.int .i64 0,.int .i64 0,.int .i64 0,.int .i64 0,.int .i64 0,.int .i64 0,.int .i64 0,.int .i64 0,.int .i64 0,.int .i64 0,.int .i64 0,.int .i64 0,.slice none 0 0,.slice none 0 0,.slice none 0 0,.slice none 0 0] 41 (0,0)):=by
           rw[<-bK.d];exact Below.heap_setCell _ _ _ _ (by show w.heap.size+1+1+1≠w.heap.size;omega)
          have gL:(W4.setCell ⟨w.heap.size,18,none⟩ (.slice (some ⟨g,0,none⟩) (N+1) cap)).heap[g]?=some (.cells bA 61 (0,0)):=by
           rw[<-bN];exact Below.heap_setCell _ _ _ _ (by show g≠w.heap.size;omega)
          have mK:Below w.heap.size w (W4.setCell ⟨w.heap.size,18,none⟩ (.slice (some ⟨g,0,none⟩) (N+1) cap)):=bK.below.setCell (aY _) _;have aI:bo.all (·.oneCell')=true:=by
           rw[<-HV.out];rw[vh] at h1 ⊢;intro u hu;rcases xx hu with h|h
           .exact h1 u h
           .subst h;rfl
          have ix:bo.size=19:=by rw[<-HV.out];simp[cS]
          have eX:(Tryz.prog.info? 41).map (·.size)=some bo.size:=by rw[ix];kernel_rfl
          have HK:Hid (bA.toList.take ((N+1)*3)=cells.take (N*3)++[.int .i64 k,.int .i64 a,.int .i64 1]++cells.drop (N*3)):=qI;have gW:w.heap.size+5<=g:=cn hB bW;clear jJ eB qO iv cU e0 e1 e2 ef hX qI bN bK bW)
        |(refine wpList_load_row rfl 41 _ rfl w.heap.size rfl 41 bo (0,0) _ mL Tryz.underlying41 rfl eX ?_)
        |(refine wpList_store_row rfl 41 _ _ rfl (w.heap.size+1+1+1) bo rfl rfl 41 _ ij eX (by rw[ix];rfl) aI ?_))
   refine bodyPost_ret (results_cell_row (p:=8) (ty:=41) rfl _ _ (w.heap.size+1+1+1) 41 bo (0,0) _ rfl (setRow_heap _ (w.heap.size+1+1+1) _ bo 41 (0,0) ij) Tryz.underlying41 rfl eX) rfl ?_;refine⟨_,g,cap,by rw[HV.out],?_,by omega,rfl,iQ,nz,λi u hj=>?_⟩
   .refine mK.trans ⟨rfl,rfl,rfl,by simp[World.setRow],λq hq=>?_⟩;simp only[World.setRow,dH];rw[if_neg (by omega)]
   .have mN:((W4.setCell ⟨w.heap.size,18,none⟩ (.slice (some ⟨g,0,none⟩) (N+1) cap)).setRow (w.heap.size+1+1+1) bo).heap[g]?=some (.cells bA 61 (0,0)):=by
     rw[<-gL];simp only[World.setRow,dH];rw[if_neg (by omega)]
    rw[<-HK.out,dJ] at hj;split at hj
    .simpa [World.cell?,mN] using hj
    .cases hj
  .go_enter Tryz.func16,Tryz.ntmps16
   go_wp2_with (first
        |(go_at_call 33
          have dg:=zY w (.cells vs 41 (0,0)) (.cells #[.int .i64 k] 3 (0,0)) (.cells #[.int .i64 a] 3 (0,0)) (.cells #[.int .i64 0,.int .i64 0,.int .i64 0,.int .i64 0,.int .i64 0,.int .i64 0,.int .i64 0,.int .i64 0,.int .i64 0,.int .i64 0,.int .i64 0,.int .i64 0,.int .i64 0,.int .i64 0,.int .i64 0,.slice none 0 0,.slice none 0 0,.slice none 0 0,.slice none 0 0] 41 (0,0)) (.cells #[.int .i64 k,.int .i64 a,.int .i64 1] 61 (0,0));refine(A1 jz N cells _ (gd.below dg.below) hN jF).mono ?_;rintro e W1 ⟨v',rfl,be,cH⟩;have cg:=dg.step (cH.mono dg.size);have hB:w.heap.size+5<=(((((w.alloc (.cells vs 41 (0,0))).alloc (.cells #[.int .i64 k] 3 (0,0))).alloc (.cells #[.int .i64 a] 3 (0,0))).alloc (.cells #[.int .i64 0,.int .i64 0,.int .i64 0,.int .i64 0,.int .i64 0,.int .i64 0,.int .i64 0,.int .i64 0,.int .i64 0,.int .i64 0,.int .i64 0,.int .i64 0,.int .i64 0,.int .i64 0,.int .i64 0,.slice none 0 0,.slice none 0 0,.slice none 0 0,.slice none 0 0] 41 (0,0))).alloc (.cells #[.int .i64 k,.int .i64 a,.int .i64 1] 61 (0,0))).heap.size:=dg.size;have mI:(((((w.alloc (.cells vs 41 (0,0))).alloc (.cells #[.int .i64 k] 3 (0,0))).alloc (.cells #[.int .i64 a] 3 (0,0))).alloc (.cells #[.int .i64 0,.int .i64 0,.int .i64 0,.int .i64 0,.int .i64 0,.int .i64 0,.int .i64 0,.int .i64 0,.int .i64 0,.int .i64 0,.int .i64 0,.int .i64 0,.int .i64 0,.int .i64 0,.int .i64 0,.slice none 0 0,.slice none 0 0,.slice none 0 0,.slice none 0 0] 41 (0,0))).alloc (.cells #[.int .i64 k,.int .i64 a,.int .i64 1] 61 (0,0))).heap.size<=W1.heap.size:=cH.size;generalize (((((w.alloc (.cells vs 41 (0,0))).alloc (.cells #[.int .i64 k] 3 (0,0))).alloc (.cells #[.int .i64 a] 3 (0,0))).alloc (.cells #[.int .i64 0,.int .i64 0,.int .i64 0,.int .i64 0,.int .i64 0,.int .i64 0,.int .i64 0,.int .i64 0,.int .i64 0,.int .i64 0,.int .i64 0,.int .i64 0,.int .i64 0,.int .i64 0,.int .i64 0,.slice none 0 0,.slice none 0 0,.slice none 0 0,.slice none 0 0] 41 (0,0))).alloc (.cells #[.int .i64 k,.int .i64 a,.int .i64 1] 61 (0,0))).heap.size=B0 at be hB mI;clear cH dg)
        |(go_at_call 34
          refine(hI W1 v' (w.heap.size+1) (w.heap.size+1+1) cg.below (fo.of_own be) (by simp[World.cell?,cg.b]) (by simp[World.cell?,cg.c])).mono ?_;rintro e W2 ⟨rfl,bC⟩;have dA:=cg.step (bC.mono cg.size);have ji:=nL be bC;have mJ:B0<=W2.heap.size:=cn mI bC.size;clear bC cg be mI)
        |(go_at_call 34
          refine(hJ W2 v' (w.heap.size+1+1) (w.heap.size+1) dA.below (fo.of_own ji) (by simp[World.cell?,dA.c]) (by simp[World.cell?,dA.b])).mono ?_;rintro e W3 ⟨rfl,fV⟩;have cU:=dA.step (fV.mono dA.size);have iv:=nL ji fV;have P5:B0<=W3.heap.size:=cn mJ fV.size;obtain⟨e0,e1,e2,ef⟩:=z7 W3 _ _ _ _ cU.e;have hlen:∃p c,v'=.slice p N c:=by
           rcases iv.2 with⟨e,h0⟩|⟨g,cap,cur,e,_⟩
           .exact⟨none,0,by rw[e,h0]⟩
           .exact⟨_,_,e⟩
          obtain⟨p0,c0,rfl⟩:=hlen;clear fV dA ji mJ)
        |(go_at_call 39
          refine(Lg B0 (.slice p0 N c0) N j cells [.int .i64 k,.int .i64 a,.int .i64 1] W3.heap.size (W3.alloc (.cells #[.int .i64 k,.int .i64 a,.int .i64 1] 61)) (by simp;omega) (nL iv ((Below.refl _ _).alloc (aY _) _)) KL hN rfl (by show(W3.heap.push _)[W3.heap.size]?=_;exact De) (by simp[Value.oneCell']) jF (λe=>by have:=(iv.lt _ e).2;omega)).mono ?_;rintro e W4 ⟨zC,rfl,qO,eB⟩
          have jJ:Below (w.heap.size+5) W3 W4:=⟨eB.os,eB.tape,eB.output,cn (by simp) eB.size,λq hq=>by
           have hs:=cU.size;refine(eB.block q (by simp;omega) (λe=>?_)).trans (Below.heap_alloc _ _ _ (by omega));have:=(iv.lt q e.symm).1;omega⟩
          have bK:=cU.step jJ;have od:W4.cell? ⟨w.heap.size,18,none⟩=some jz:=by simp[World.cell?,bK.a,nB]
          have cf:W4.frozen? ⟨w.heap.size,18,none⟩=false:=by simp[World.frozen?,bK.a]
          obtain⟨g,cap,bA,rfl,bW,bN,iQ,nz,QA,qI⟩:∃g cap bA,zC=.slice (some ⟨g,0,none⟩) (N+1) cap/\B0<=g/\W4.heap[g]?=some (.cells bA 61 (0,0))/\N+1<=cap/\cap<=maxLen/\bA.size=cap*3/\bA.toList.take ((N+1)*3)=cells.take (j*3)++[.int .i64 k,.int .i64 a,.int .i64 1]++cells.drop (j*3):=by
           rcases qO.2 with⟨_,h0⟩|h
           .exact absurd h0 (by omega)
           .exact h
          obtain⟨bo,HV⟩:∃y,Hid (vs.setIfInBounds 18 (.slice (some ⟨g,0,none⟩) (N+1) cap)=y):=⟨_,rfl⟩
          have hX:=setCell_eq_setRow W4 w.heap.size 18 vs 41 (0,0) (.slice (some ⟨g,0,none⟩) (N+1) cap) bK.a;rw[HV.out] at hX;have mL:(W4.setCell ⟨w.heap.size,18,none⟩ (.slice (some ⟨g,0,none⟩) (N+1) cap)).heap[w.heap.size]?=some (.cells bo 41 (0,0)):=by rw[hX];exact setRow_heap W4 w.heap.size vs bo 41 (0,0) bK.a
          have ij:(W4.setCell ⟨w.heap.size,18,none⟩ (.slice (some ⟨g,0,none⟩) (N+1) cap)).heap[w.heap.size+1+1+1]?=some (.cells #[.int .i64 0,.int .i64 0,.int .i64 0,.int .i64 0,.int .i64 0,.int .i64 0,.int .i64 0,.int .i64 0,.int .i64 0,.int .i64 0,.int .i64 0,.int .i64 0,.int .i64 0,.int .i64 0,.int .i64 0,.slice none 0 0,.slice none 0 0,.slice none 0 0,.slice none 0 0] 41 (0,0)):=by
           rw[<-bK.d];exact Below.heap_setCell _ _ _ _ (by show w.heap.size+1+1+1≠w.heap.size;omega)
          have gL:(W4.setCell ⟨w.heap.size,18,none⟩ (.slice (some ⟨g,0,none⟩) (N+1) cap)).heap[g]?=some (.cells bA 61 (0,0)):=by
           rw[<-bN];exact Below.heap_setCell _ _ _ _ (by show g≠w.heap.size;omega)
          have mK:Below w.heap.size w (W4.setCell ⟨w.heap.size,18,none⟩ (.slice (some ⟨g,0,none⟩) (N+1) cap)):=bK.below.setCell (aY _) _;have aI:bo.all (·.oneCell')=true:=by
           rw[<-HV.out];rw[vh] at h1 ⊢;intro u hu;rcases xx hu with h|h
           .exact h1 u h
           .subst h;rfl
          have ix:bo.size=19:=by rw[<-HV.out];simp[cS]
          have eX:(Tryz.prog.info? 41).map (·.size)=some bo.size:=by rw[ix];kernel_rfl
          have HK:Hid (bA.toList.take ((N+1)*3)=cells.take (j*3)++[.int .i64 k,.int .i64 a,.int .i64 1]++cells.drop (j*3)):=qI;have gW:w.heap.size+5<=g:=cn hB bW;clear jJ eB qO iv cU e0 e1 e2 ef hX qI bN bK bW)
        |(refine wpList_load_row rfl 41 _ rfl w.heap.size rfl 41 bo (0,0) _ mL Tryz.underlying41 rfl eX ?_)
        |(refine wpList_store_row rfl 41 _ _ rfl (w.heap.size+1+1+1) bo rfl rfl 41 _ ij eX (by rw[ix];rfl) aI ?_))
   refine bodyPost_ret (results_cell_row (p:=8) (ty:=41) rfl _ _ (w.heap.size+1+1+1) 41 bo (0,0) _ rfl (setRow_heap _ (w.heap.size+1+1+1) _ bo 41 (0,0) ij) Tryz.underlying41 rfl eX) rfl ?_;refine⟨_,g,cap,by rw[HV.out],?_,by omega,rfl,iQ,nz,λi u hj=>?_⟩
   .refine mK.trans ⟨rfl,rfl,rfl,by simp[World.setRow],λq hq=>?_⟩;simp only[World.setRow,dH];rw[if_neg (by omega)]
   .have mN:((W4.setCell ⟨w.heap.size,18,none⟩ (.slice (some ⟨g,0,none⟩) (N+1) cap)).setRow (w.heap.size+1+1+1) bo).heap[g]?=some (.cells bA 61 (0,0)):=by
     rw[<-gL];simp only[World.setRow,dH];rw[if_neg (by omega)]
    rw[<-HK.out,dJ] at hj;split at hj
    .simpa [World.cell?,mN] using hj
    .cases hj
end Rm
namespace Rm
open Go Go.Proofs Cx Go.RowKit
def xf (k a n:Int):D:=.agg [.int k,.int a,.int (if n=0 then 0 else 1)]
def Hh (ds:List D):D:=
 let cs:=(ds.getD 0 .none).cells
 let k:=(ds.getD 1 .none).i
 let a:=(ds.getD 2 .none).i
 let xs:=(cs.getD 18 .none).l
 .agg (cs.set 18 (.list (xs.filter (λy=>decide ((y.c 1).i<a)||(decide ((y.c 1).i=a)&&decide ((y.c 0).i<k)))++[xf k a (ds.getD 3 .none).i]++xs.filter (λy=>decide (a<(y.c 1).i)||(decide ((y.c 1).i=a)&&decide (k<(y.c 0).i))))))
def XX (Z:aV)(ds:List D)(r:D):Prop:=
 ∃cs k a n xs,ds=[.agg cs,.int k,.int a,.int n]/\cs[18]?=some (.list xs)/\xs.length<=4294967296/\
  ((∃i:Nat,i<xs.length/\Z 34 [.list xs,.clo 32 [.ref (.int k),.ref (.int a)]]=some (.int i)/\Z 34 [.list (xs.drop (i+1)),.clo 32 [.ref (.int k),.ref (.int a)]]=some (.int (-1))/\
    r=.agg (cs.set 18 (.list (xs.take i++[xf k a n]++xs.drop (i+1)))))\/
   (Z 34 [.list xs,.clo 32 [.ref (.int k),.ref (.int a)]]=some (.int (-1))/\∃(j:Nat) (jv:Int),Z 34 [.list xs,.clo 36 [.ref (.int a),.ref (.int k)]]=some (.int jv)/\(jv<0/\j=xs.length\/jv=j/\j<=xs.length)/\
    r=.agg (cs.set 18 (.list (xs.take j++[xf k a n]++xs.drop j)))))
open Classical in
def CW (Z:aV)(ds:List D):Option D:=if XX Z ds (Hh ds) then some (Hh ds) else none
def lY (d:D):List Value:=[.int .i64 (d.c 0).i,.int .i64 (d.c 1).i,.int .i64 (d.c 2).i]
def fU (xs:List D):List Value:=xs.flatMap lY
def vL (xs:List D):(fU xs).length=xs.length*3:=by
 induction xs with
 |nil=>rfl
 |cons x xs ih=>
  have:fU (x::xs)=lY x++fU xs:=rfl;rw[this,jY,ih];simp[lY];omega
def Bg (xs ys:List D):fU (xs++ys)=fU xs++fU ys:=by simp[fU]
def Zs (xs:List D)(i:Nat):fU (xs.take i)=(fU xs).take (i*3):=by
 rcases Nat.le_total i xs.length with h|h
 .have e:=congrArg fU (vq i xs);rw[Bg] at e;have hl:(fU (xs.take i)).length=i*3:=by rw[vL,dv,jZ h]
  rw[<-e,HZ hl]
 .rw[vt h,vt (by rw[vL];omega)]
def J4 (xs:List D)(i:Nat):fU (xs.drop i)=(fU xs).drop (i*3):=by
 rcases Nat.le_total i xs.length with h|h
 .have e:=congrArg fU (vq i xs);rw[Bg] at e;have hl:(fU (xs.take i)).length=i*3:=by rw[vL,dv,jZ h]
  rw[<-e,List.drop_left' hl]
 .rw[XG h,XG (by rw[vL];omega)];rfl
def PL (xs:List D)(i j:Nat)(x:D)(hi:xs[i]?=some x)(hj:j<3):(fU xs)[i*3+j]?=(lY x)[j]?:=by
 have ah:=(eV.1 hi).1;have e:(fU xs)[i*3+j]?=((fU xs).drop (i*3))[j]?:=by rw[eH]
 rw[e,<-J4,XF ah,(eV.1 hi).2];show(lY x++fU (xs.drop (i+1)))[j]?=_;rw[lT (by simp[lY];omega)]
def Zr (xs:List D):∀v∈fU xs,v.oneCell'=true:=by
 intro v hv;obtain⟨x,_,hx⟩:=iM.1 hv;simp[lY] at hx;rcases hx with rfl|rfl|rfl<;>rfl
def xH (n:Int):Prop:=IntKind.i64.min<=n/\n<=IntKind.i64.max
def ng (d:D):Prop:=∃k a n:Int,d=.agg [.int k,.int a,.int n]/\xH k/\xH a/\xH n
def ng.of_rep {cap:Nat->Option CSig}{V:Im}{v:Value}{d:D}(h:Rep cap V Y6 v d):ng d/\v=.agg (lY d).toArray:=by
 obtain⟨vs,ds,rfl,rfl,h1,h2,h3,_⟩:=h.agg_inv
 match vs,ds,h1,h2 with
 |[x,y,z],[a,b,c],_,_=>
  obtain⟨n0,e0,f0,g0⟩:=(h3 0 _ rfl).int_inv;obtain⟨n1,e1,f1,g1⟩:=(h3 1 _ rfl).int_inv;obtain⟨n2,e2,f2,g2⟩:=(h3 2 _ rfl).int_inv;simp only[vm,Di] at e0 f0 e1 f1 e2 f2;subst e0 f0 e1 f1 e2 f2;exact⟨⟨n0,n1,n2,rfl,g0,g1,g2⟩,rfl⟩
def ng.rep {cap:Nat->Option CSig}{V:Im}{d:D}(h:ng d):Rep cap V Y6 (.agg (lY d).toArray) d:=by
 obtain⟨k,a,n,rfl,h1,h2,h3⟩:=h;refine .agg [I,I,I] [.int .i64 k,.int .i64 a,.int .i64 n] _ rfl rfl (λi t hi=>?_) (λi t hi=>?_)
 .match i,hi with
  |0,hi=>cases hi;exact .int _ _ h1.1 h1.2
  |1,hi=>cases hi;exact .int _ _ h2.1 h2.2
  |2,hi=>cases hi;exact .int _ _ h3.1 h3.2
 .match i,hi with
  |0,hi=>cases hi;rfl
  |1,hi=>cases hi;rfl
  |2,hi=>cases hi;rfl
def atY {cap:Nat->Option CSig}{V:Im}{w:World}{v:Value}{xs:List D}(az:V.ok w)(h:Rep cap V (.slice Y6) v (.list xs)):fo w v xs.length (fU xs)/\∀x∈xs,ng x:=by
 obtain⟨lQ,hx,sk⟩:=h.slice_inv;cases hx;rcases sk with⟨⟨p,rfl⟩,rfl⟩|⟨k,o,c,rfl,h1,h2,vs,h3,h4⟩
 .exact⟨⟨rfl,.inl ⟨p,rfl,rfl⟩⟩,λx hx=>by cases hx⟩
 .refine⟨⟨vL _,.inr ⟨k,o,c,rfl,h1,h2,λj u hj=>?_⟩⟩,λx hx=>?_⟩
  .have ah:j<xs.length*3:=by have:=(eV.1 hj).1;rwa [vL] at this
   have hi:j/3<xs.length:=by omega
   have e:j=j/3*3+j%3:=by omega
   have hx:=bE hi;rw[e,PL xs _ _ _ hx (by omega)] at hj;have hr:=(ng.of_rep (h3 _ _ hx)).2;have:=h4 (j/3) (j%3) u hi (by rw[hr];show(lY _).toArray[j%3]?=_;simpa using hj);have hs:o+j/3*Y6.size+j%3=o+j:=by show o+j/3*3+j%3=o+j;omega
   rw[hs] at this;exact az.c _ _ _ this
  .obtain⟨i,hi,rfl⟩:=gn hx;exact(ng.of_rep (h3 i _ (bE hi))).1
def atL {cap:Nat->Option CSig}{m:Nat->Option (List (Value×Value))}{W:World}{v:Value}{n:Nat}{xs:List D}(hr:fo W v n (fU xs))(hF:∀x∈xs,ng x):
 Rep cap ⟨λk o=>W.cell? ⟨k,o,none⟩,m⟩ (.slice Y6) v (.list xs):=by
 obtain⟨hl,hr⟩:=hr;rw[vL] at hl;have hn:xs.length=n:=by omega
 rcases hr with⟨p,rfl,h0⟩|⟨g,o,c,rfl,h1,h2,h3⟩
 .obtain rfl:xs=[]:=XN.1 (by omega);cases p with
  |none=>exact .nil _
  |some a=>exact .emp _ a
 .refine .slice Y6 g o n c xs (λi=>.agg (lY (xs.getD i .none)).toArray) hn h1 h2 (λi x hx=>?_) (λi j u hi hj=>?_)
  .have e:xs.getD i .none=x:=by rw[aN,hx];rfl
   rw[e];exact ng.rep (hF x (lf hx))
  .have hx:=bE (show i<xs.length by omega);have e:xs.getD i .none=xs[i]'(by omega):=by rw[aN,hx];rfl
   have bh:(lY (xs[i]'(by omega)))[j]?=some u:=by rw[<-e];simpa [Value.cells] using hj
   have Qy:j<3:=by have:=(eV.1 bh).1;simpa [lY] using this
   have:=h3 (i*3+j) u (by rw[PL xs i j _ hx Qy];exact bh);show W.cell? ⟨g,o+i*3+j,none⟩=some u;rw[vu];exact this
def Ld {Z:aV}(hΦ:ei ctx Z){V:Im}{w:World}(az:V.ok w)(hC:CtxOK ctx V)(f:Nat)(hf:ctx.cap f=some ⟨[.ref I,.ref I],[Y6],.bool⟩){xs:List D}(hF:∀x∈xs,ng x){k a r:Int}(hk:xH k)(ha:xH a)
 (h:Z 34 [.list xs,.clo f [.ref (.int k),.ref (.int a)]]=some (.int r)) (W:World) (v:Value) (p q n:Nat) (hb:Below w.heap.size w W) (hr:fo W v n (fU xs))
 (hp:W.cell? ⟨p,0,none⟩=some (.int .i64 k)) (hq:W.cell? ⟨q,0,none⟩=some (.int .i64 a)):
 Calls Tryz.prog 34 #[v,AZ f p q] W λe w'=>e=.returned (.int .i64 r)/\Below W.heap.size W w':=by
 have hfn:=(hΦ 34 _ _ h _ rfl).1 rfl
 have hle:V.le ⟨λk o=>W.cell? ⟨k,o,none⟩,V.m⟩:=⟨λk o u hu=>by
  have:=az.c k o u hu;show W.cell? ⟨k,o,none⟩=some u;rw[hb.cell (World.block_lt_of_cell? w _ this)];exact this,λ_ _ h=>h⟩
 have jN:Im.ok ⟨λk o=>W.cell? ⟨k,o,none⟩,V.m⟩ W:=⟨λ_ _ _ h=>h,λk es h=>(az.m k es h).keep (hb.block k (az.m k es h).lt)⟩
 have hri:∀(b:Nat) (x:Int),xH x->W.cell? ⟨b,0,none⟩=some (.int .i64 x)->Rep ctx.cap ⟨λk o=>W.cell? ⟨k,o,none⟩,V.m⟩ (.ref I) (.pointer (some ⟨b,0,none⟩)) (.ref (.int x)):=λb x hx hc=>by
  refine .ref I b 0 (.int .i64 x) (.int x) (.int _ _ hx.1 hx.2) λj u hj=>?_;have Qx:j=0:=by
   have:=(dV.1 hj).1;simp[Value.cells] at this;omega
  subst Qx;simp[Value.cells] at hj;subst hj;exact hc
 refine(hfn _ W #[v,AZ f p q] jN ⟨λg x hx=>(hC.glob g x hx).mono hle⟩ ⟨rfl,rfl,λi t hi=>?_⟩).mono λe w' hh=>?_
 .match i,hi with
  |0,hi=>cases hi;exact atL hr hF
  |1,hi=>
   cases hi;refine .fn f ⟨[.ref I,.ref I],[Y6],.bool⟩ [.pointer (some ⟨p,0,none⟩),.pointer (some ⟨q,0,none⟩)] _ hf rfl rfl λi t hi=>?_
   match i,hi with
   |0,hi=>cases hi;exact hri p k hk hp
   |1,hi=>cases hi;exact hri q a ha hq
 .obtain⟨u,V',rfl,_,_,hB,_,_,fu⟩:=hh;have fu:Rep ctx.cap V' I u (.int r):=fu;obtain⟨n',e1,e2,_⟩:=fu.int_inv;cases e2;exact⟨by rw[e1],hB⟩
def aun {Z:aV}(hΦ:ei ctx Z){ds:List D}{d:D}(h:CW Z ds=some d):∃s,ctx.sig 16=some s/\HJ ctx 16 s ds d:=by
 refine⟨_,rfl,λ_=>?_,λshs obs hm=>by cases hm⟩;unfold CW at h;split at h
 case isFalse=>cases h
 rename_i hs;cases h;generalize Hh ds=d at hs;obtain⟨cs,k,a,n,xs,rfl,dY,hN,sk⟩:=hs;intro V w args az hC ha;obtain⟨a1,a2,a3⟩:=ha;have h0:=a3 0 _ rfl;have h1:=a3 1 _ rfl;have h2:=a3 2 _ rfl;have h3:=a3 3 _ rfl;obtain⟨u,x,y,z,rfl⟩:∃u x y z,args=#[u,x,y,z]:=by
  have:args.size=4:=by simpa using a1
  match args,this with
  |⟨[u,x,y,z]⟩,_=>exact⟨u,x,y,z,rfl⟩
 simp only[vm,Di] at h0 h1 h2 h3;change Rep ctx.cap V gG u (.agg cs) at h0;change Rep ctx.cap V I x (.int k) at h1;change Rep ctx.cap V I y (.int a) at h2;change Rep ctx.cap V I z (.int n) at h3;obtain⟨k',e1,f1,hk⟩:=h1.int_inv;obtain⟨a',e2,f2,oq⟩:=h2.int_inv;obtain⟨n',e3,f3,ir⟩:=h3.int_inv;cases f1;cases f2;cases f3;subst e1 e2 e3;obtain⟨vs,ds',rfl,hd,l1,l2,bY,df⟩:=h0.agg_inv;cases hd;have aa0:=bY 18 _ rfl;have ecs:cs.getD 18 .none=.list xs:=by rw[aN,dY];rfl
 rw[ecs] at aa0;have KP:vs.length=19:=l1;have nB:vs.toArray[18]?=some (vs.getD 18 undef):=by
  rw[aN,bE (show 18<vs.length by omega)];simp[KP]
 obtain⟨gd,hF⟩:=atY az aa0;have aI:vs.toArray.all (·.oneCell')=true:=by
  rw[vh];intro v hv;obtain⟨i,hi,rfl⟩:=gn (Array.mem_toList_iff.2 hv);have cN:i<vs.length:=by simpa using hi
  have yM:∃t,([I,I,I,I,I,I,I,I,I,I,I,I,I,I,I,(.slice Y9),(.slice rK),(.slice Y9),(.slice Y6)]:List Ty)[i]?=some t:=⟨_,bE (by simpa [KP] using cN)⟩
  obtain⟨t,ht⟩:=yM;have:=((bY i t ht).oneCell (df i t ht)).2
  rwa [aN,bE cN] at this
 have hm:(n=0/\(if n=0 then(0:Int) else 1)=0\/n≠0/\(if n=0 then(0:Int) else 1)=1):=by
  by_cases h:n=0
  .exact .inl ⟨h,by simp[h]⟩
  .exact .inr ⟨h,by simp[h]⟩
 have hX:ng (xf k a n):=⟨k,a,_,rfl,hk,oq,by unfold xH;split<;>decide⟩
 have fin:∀(v':Value) (g c:Nat) (w':World) (ys:List D),(∀y∈ys,ng y)->Below w.heap.size w w'->w.heap.size<=g->v'=.slice (some ⟨g,0,none⟩) ys.length c->ys.length<=c->c<=maxLen->(∀j u,(fU ys)[j]?=some u->w'.cell? ⟨g,j,none⟩=some u)->
  ∃v V',Ending.returned (.agg (vs.toArray.setIfInBounds 18 v'))=Ending.returned v/\V.le V'/\V'.ok w'/\Below w.heap.size w w'/\(∀k o x,V'.c k o=some x->V.c k o=some x\/w.heap.size<=k)/\(∀k x,V'.m k=some x->V.m k=some x\/w.heap.size<=k)/\Rep ctx.cap V' gG v (.agg (cs.set 18 (.list ys))):=by
  intro v' g c w' ys uy hb hg hv' EC vQ fp
  have kj:∀o,V.c g o=none:=λo=>by
   cases hc:V.c g o with
   |none=>rfl
   |some u=>have:=World.block_lt_of_cell? w (a:=⟨g,o,none⟩) (az.c _ _ _ hc);simp at this;omega
  have hle:V.le ⟨λk o=>if k=g then w'.cell? ⟨k,o,none⟩ else V.c k o,V.m⟩:=⟨λk o u hu=>by
   show(if k=g then w'.cell? ⟨k,o,none⟩ else V.c k o)=some u;split
   .rename_i e;subst e;rw[kj o] at hu;cases hu
   .exact hu,λ_ _ h=>h⟩
  refine⟨_,⟨λk o=>if k=g then w'.cell? ⟨k,o,none⟩ else V.c k o,V.m⟩,rfl,hle,⟨λk o u hu=>?_,λk es h=>(az.m k es h).keep (hb.block k (az.m k es h).lt)⟩,hb,λk o u hu=>?_,λ_ _ h=>.inl h,?_⟩
  .have hu:(if k=g then w'.cell? ⟨k,o,none⟩ else V.c k o)=some u:=hu;split at hu
   .exact hu
   .have:=az.c k o u hu;rw[hb.cell (World.block_lt_of_cell? w _ this)];exact this
  .have hu:(if k=g then w'.cell? ⟨k,o,none⟩ else V.c k o)=some u:=hu;split at hu
   .rename_i e;subst e;exact .inr hg
   .exact .inl hu
  .have e:vs.toArray.setIfInBounds 18 v'=(vs.set 18 v').toArray:=by simp
   rw[e];refine .agg _ (vs.set 18 v') _ (by rw[NW];exact l1) (by rw[NW];exact l2) (λi t hi=>?_) df;by_cases se:i=18
   .subst se;cases hi;rw[aN,aN,List.getElem?_set_self (by omega),List.getElem?_set_self (by rw[l2];decide)];show Rep _ _ (.slice Y6) v' (.list ys);have hr:fo w' v' ys.length (fU ys):=⟨vL _,.inr ⟨g,0,c,hv',EC,vQ,λj u hj=>by rw[fR];exact fp j u hj⟩⟩
    subst hv';refine .slice Y6 g 0 ys.length c ys (λi=>.agg (lY (ys.getD i .none)).toArray) rfl EC vQ (λi x hx=>?_) (λi j u hi hj=>?_)
    .have e:ys.getD i .none=x:=by rw[aN,hx];rfl
     rw[e];exact ng.rep (uy x (lf hx))
    .have hx:=bE hi;have e:ys.getD i .none=ys[i]:=by rw[aN,hx];rfl
     have bh:(lY ys[i])[j]?=some u:=by rw[<-e];simpa [Value.cells] using hj
     have Qy:j<3:=by have:=(eV.1 bh).1;simpa [lY] using this
     have:=fp (i*3+j) u (by rw[PL ys i j _ hx Qy];exact bh);show(if g=g then w'.cell? ⟨g,0+i*3+j,none⟩ else _)=some u;rw[if_pos rfl,fR];exact this
   .have:=(bY i t hi).mono hle;rw[aN,aN,xE (tH se),xE (tH se),<-aN,<-aN];exact this
 have cL:∀{ys:List D},(∀y,y∈ys->y∈xs\/y=xf k a n)->∀y∈ys,ng y:=λh y hy=>by
  rcases h y hy with h|rfl
  .exact hF y h
  .exact hX
 rcases sk with⟨i,hi,hI,hD,rfl⟩|⟨hI,j,jv,hJ,hj,rfl⟩
 .refine(auk vs.toArray (vs.getD 18 undef) (by simpa using KP) nB aI k a n _ hm w xs.length i (fU xs) gd hN hi (Zr xs)
   (λW v p q hb hr hp hq=>Ld hΦ az hC 32 rfl hF hk oq hI W v p q _ hb hr hp hq)
   (λW v p q hb hr hp hq=>by rw[<-J4] at hr;exact Ld hΦ az hC 32 rfl (λx hx=>hF x (zQ hx)) hk oq hD W v p q _ hb hr hp hq)).mono λe w' hh=>?_
  obtain⟨v',g,c,rfl,hb,hg,rfl,EC,vQ,fp⟩:=hh;have hlen:(xs.take i++[xf k a n]++xs.drop (i+1)).length=xs.length:=by simp;omega
  refine fin _ g c w' _ (cL λy hy=>?_) hb hg (by rw[hlen]) (by omega) vQ (λj u hj=>fp j u ?_)
  .rcases dm.1 hy with hy|hy
   .rcases dm.1 hy with hy|hy
    .exact .inl (List.mem_of_mem_take hy)
    .exact .inr (oZ.1 hy)
   .exact .inl (zQ hy)
  .rw[Bg,Bg,Zs,J4] at hj;exact hj
 .refine(aum vs.toArray (vs.getD 18 undef) (by simpa using KP) nB aI k a n _ hm w xs.length j jv hj (fU xs) gd hN (Zr xs)
   (λW v p q hb hr hp hq=>Ld hΦ az hC 32 rfl hF hk oq hI W v p q _ hb hr hp hq)
   (λW v p q hb hr hp hq=>Ld hΦ az hC 36 rfl hF oq hk hJ W v p q _ hb hr hp hq)).mono λe w' hh=>?_
  obtain⟨v',g,c,rfl,hb,hg,rfl,EC,vQ,fp⟩:=hh;have hlen:(xs.take j++[xf k a n]++xs.drop j).length=xs.length+1:=by simp;omega
  refine fin _ g c w' _ (cL λy hy=>?_) hb hg (by rw[hlen]) (by omega) vQ (λi u hj=>fp i u ?_)
  .rcases dm.1 hy with hy|hy
   .rcases dm.1 hy with hy|hy
    .exact .inl (List.mem_of_mem_take hy)
    .exact .inr (oZ.1 hy)
   .exact .inl (zQ hy)
  .rw[Bg,Bg,Zs,J4] at hj;exact hj
end Rm
